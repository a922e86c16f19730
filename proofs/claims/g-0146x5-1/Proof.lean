import JvmDerived
import JvmDerived.Pilot.@@N@@Statement
import JvmDerived.Pilot.@@N@@Code
set_option linter.unusedVariables false
set_option linter.unusedSimpArgs false
namespace Jvm.Own
open Sem ClassFile Op Lib Jvm.Stand Jvm.Free Jvm.LawKit Jvm.RoadKit
/-! ## 1. Small heaps: a list of cells: an object of the one class (its fields in order), or an array (of booleans, of ints) -/
abbrev MCell := List Value ⊕ (Bool × List Int32)
abbrev MHeap := List MCell
abbrev Fd := String × String × FieldType
/-- start, its arguments, launch, the script's place, the heap's first length, the class, its fields, its slots -/
abbrev Ctx := State × Array Value × Launch × Option Nat × Nat × String × List Fd × Nat
abbrev gZ (G : Ctx) : State := G.1
abbrev gA (G : Ctx) : Array Value := G.2.1
abbrev gL (G : Ctx) : Launch := G.2.2.1
abbrev gS (G : Ctx) : Option Nat := G.2.2.2.1
abbrev gN (G : Ctx) : Nat := G.2.2.2.2.1
abbrev gC (G : Ctx) : String := G.2.2.2.2.2.1
abbrev gF (G : Ctx) : List Fd := G.2.2.2.2.2.2.1
abbrev gK (G : Ctx) : Nat := G.2.2.2.2.2.2.2
/-- a method: name, bytes, locals, result, frames and words that it needs -/
abbrev Mi := MethodName × ByteArray × Nat × Option FieldType × Nat × Nat
abbrev mN (M : Mi) : MethodName := M.1
abbrev mB (M : Mi) : ByteArray := M.2.1
abbrev mL (M : Mi) : Nat := M.2.2.1
abbrev mR (M : Mi) : Option FieldType := M.2.2.2.1
abbrev mF (M : Mi) : Nat := M.2.2.2.2.1
abbrev mW (M : Mi) : Nat := M.2.2.2.2.2
def rhoA (sa : Option Nat) (n0 i : Nat) : Nat := match sa with
  | none => n0 + i
  | some a => match i with
    | 0 => a
    | j + 1 => n0 + j
def k0A (sa : Option Nat) : Nat := match sa with
  | none => 0
  | some _ => 1
def rho (G : Ctx) (i : Nat) : Nat := rhoA (gS G) (gN G) i
def k0 (G : Ctx) : Nat := k0A (gS G)
def tr (G : Ctx) : Value → Value
  | .ref i => .ref (rho G i)
  | v => v
def trS (G : Ctx) : Slot → Slot
  | .val v => .val (tr G v)
  | s => s
theorem tr_cat (G : Ctx) (v : Value) : (tr G v).category = v.category := by cases v <;> rfl
theorem tr_cats (G : Ctx) (S : List Value) : ((S.map (tr G)).map fun v => v.category).sum = (S.map fun v => v.category).sum := by
  rw [List.map_map]
  congr 1
  exact List.map_congr_left fun v _ => tr_cat G v
def kd : Bool → FieldType
  | true => .boolean
  | false => .int
def CellAt (G : Ctx) (hr : Heap) (a : Nat) : MCell → Prop
  | .inl fs => Exa (gZ G) hr a (gC G) ∧ fs.length = (gF G).length ∧ ∀ (j : Nat) (n d : String) (ty : FieldType) (v : Value), (gF G)[j]? = some (n, d, ty) → fs[j]? = some v → Fld (gZ G) hr a (gC G) n d (tr G v)
  | .inr bx => ∃ c : Cell, Arr (gZ G) hr a c (kd bx.1) ∧ c.slots = (bx.2.map Value.int).toArray
def Rel (G : Ctx) (hr : Heap) (h : MHeap) : Prop :=
  hr.size + k0 G = gN G + h.length ∧ k0 G ≤ h.length ∧ (∀ a, gS G = some a → a < gN G) ∧ ∀ i c, h[i]? = some c → CellAt G hr (rho G i) c
/-- what the sheet says of the class -/
def GOk (G : Ctx) : Prop :=
  (∀ (j : Nat) (n d : String) (ty : FieldType), (gF G)[j]? = some (n, d, ty) → Laid (gZ G) (gA G) (gC G) (gC G) n d ∧ parseFieldDescriptor d = some ty) ∧
  (∀ (j j' : Nat) (f f' : Fd), (gF G)[j]? = some f → (gF G)[j']? = some f' → j ≠ j' → f.1 ≠ f'.1) ∧
  (Cond.instantiable (gC G) (gK G)).before (gA G) (gZ G) = true ∧ (Cond.initialized (gC G)).before (gA G) (gZ G) = true
theorem rhoA_inj {sa : Option Nat} {n0 i j : Nat} (h : ∀ a, sa = some a → a < n0) (e : rhoA sa n0 i = rhoA sa n0 j) : i = j := by
  cases sa with
  | none => simp only [rhoA] at e; omega
  | some a =>
    have := h a rfl
    cases i <;> cases j <;> simp only [rhoA] at e <;> omega
theorem rho_inj {G : Ctx} {i j : Nat} (h : ∀ a, gS G = some a → a < gN G) (e : rho G i = rho G j) : i = j := rhoA_inj h e
theorem rhoA_new {sa : Option Nat} {n0 i : Nat} (h : k0A sa ≤ i) : rhoA sa n0 i = n0 + (i - k0A sa) := by
  cases sa with
  | none => simp only [rhoA, k0A]; omega
  | some a =>
    cases i with
    | zero => simp only [k0A] at h; omega
    | succ j => simp only [rhoA, k0A]; omega
theorem rho_new {G : Ctx} {i : Nat} (h : k0 G ≤ i) : rho G i = gN G + (i - k0 G) := rhoA_new h
theorem rho_ge {G : Ctx} {i : Nat} (h : k0 G ≤ i) : gN G ≤ rho G i := by rw [rho_new h]; omega
theorem CellAt.other {G : Ctx} {hr hr' : Heap} {a b : Nat} {sl : Nat} {v : Value} (W : Wr hr hr' a sl v) (hne : b ≠ a) : ∀ {c : MCell}, CellAt G hr b c → CellAt G hr' b c
  | .inl _, ⟨h1, h2, h3⟩ => ⟨h1.wr W, h2, fun j n d ty v hf hv => Fld.other W (h3 j n d ty v hf hv) (Or.inl hne)⟩
  | .inr _, ⟨c, h1, h2⟩ => ⟨c, h1.other W hne, h2⟩
theorem CellAt.ext {G : Ctx} {hr hr' : Heap} {b : Nat} (E : Ext hr hr') : ∀ {c : MCell}, CellAt G hr b c → CellAt G hr' b c
  | .inl _, ⟨h1, h2, h3⟩ => ⟨h1.ext E, h2, fun j n d ty v hf hv => Fld.ext E (h3 j n d ty v hf hv)⟩
  | .inr _, ⟨c, h1, h2⟩ => ⟨c, h1.ext E, h2⟩
theorem Rel.push {G : Ctx} {hr hr' : Heap} {h : MHeap} {c : MCell} (R : Rel G hr h) (E : Ext hr hr') (hs : hr'.size = hr.size + 1) (hc : CellAt G hr' hr.size c) : Rel G hr' (h ++ [c]) := by
  obtain ⟨h1, h2, h3, h4⟩ := R
  refine ⟨by rw [List.length_append, List.length_singleton]; omega, by rw [List.length_append]; omega, h3, fun i c' hi => ?_⟩
  rcases Nat.lt_or_ge i h.length with q | q
  · rw [List.getElem?_append_left q] at hi
    exact (h4 i c' hi).ext E
  · have hi2 := hi
    rw [List.getElem?_append_right q] at hi2
    have : i - h.length = 0 := by
      rcases Nat.eq_zero_or_pos (i - h.length) with z | z
      · exact z
      · rw [List.getElem?_eq_none (by simp; omega)] at hi2; cases hi2
    have e : i = h.length := by omega
    subst e
    rw [Nat.sub_self] at hi2
    cases hi2
    have : rho G h.length = hr.size := by rw [rho_new h2]; omega
    rw [this]; exact hc
theorem Rel.wrArr {G : Ctx} {hr hr' : Heap} {h : MHeap} {i j : Nat} {b : Bool} {xs : List Int32} {x : Int32} (R : Rel G hr h) (hi : h[i]? = some (.inr (b, xs))) (W : Wr hr hr' (rho G i) j (.int x)) : Rel G hr' (h.set i (.inr (b, xs.set j x))) := by
  obtain ⟨h1, h2, h3, h4⟩ := R
  refine ⟨by rw [W.size, List.length_set]; exact h1, by rw [List.length_set]; exact h2, h3, fun k c' hk => ?_⟩
  by_cases e : i = k
  · subst e
    rw [List.getElem?_set_self (List.getElem?_eq_some_iff.mp hi).1] at hk
    cases hk
    obtain ⟨c, A, hs⟩ := h4 i _ hi
    refine ⟨c.setSlot j (.int x), A.same W, ?_⟩
    show c.slots.setIfInBounds j (.int x) = _
    rw [hs]
    simp [List.map_set]
  · rw [List.getElem?_set_ne e] at hk
    exact (h4 k c' hk).other W fun q => e (rho_inj h3 q).symm
theorem Rel.wrFld {G : Ctx} {hr hr' : Heap} {h : MHeap} {i j : Nat} {fs : List Value} {n d : String} {ty : FieldType} {v : Value} (R : Rel G hr h) (K : GOk G) (hi : h[i]? = some (.inl fs)) (hF : (gF G)[j]? = some (n, d, ty)) (W : Wr hr hr' (rho G i) (Jvm.RoadKit.slotOf (gZ G) (gC G) n d) (tr G v)) : Rel G hr' (h.set i (.inl (fs.set j v))) := by
  obtain ⟨h1, h2, h3, h4⟩ := R
  refine ⟨by rw [W.size, List.length_set]; exact h1, by rw [List.length_set]; exact h2, h3, fun k c' hk => ?_⟩
  by_cases e : i = k
  · subst e
    rw [List.getElem?_set_self (List.getElem?_eq_some_iff.mp hi).1] at hk
    cases hk
    obtain ⟨e1, e2, e3⟩ := h4 i _ hi
    refine ⟨e1.wr W, by rw [List.length_set]; exact e2, fun j' n' d' ty' v' hf' hv' => ?_⟩
    by_cases q : j = j'
    · subst q
      cases hF.symm.trans hf'
      have hlt : j < fs.length := by rw [e2]; exact (List.getElem?_eq_some_iff.mp hF).1
      rw [List.getElem?_set_self hlt] at hv'
      cases hv'
      obtain ⟨w, hw⟩ : ∃ w, fs[j]? = some w := ⟨_, List.getElem?_eq_getElem hlt⟩
      exact Fld.same W (e3 j n d ty w hF hw)
    · rw [List.getElem?_set_ne q] at hv'
      refine Fld.other W (e3 j' n' d' ty' v' hf' hv') (Or.inr ?_)
      exact slot_ne (K.1 j' n' d' ty' hf').1 (K.1 j n d ty hF).1 (K.2.1 j' j _ _ hf' hF (Ne.symm q)) (K.1 j' n' d' ty' hf').2 (K.1 j n d ty hF).2
  · rw [List.getElem?_set_ne e] at hk
    exact (h4 k c' hk).other W fun q => e (rho_inj h3 q).symm
def csl (k : Nat) : MCell → Nat
  | .inl _ => k
  | .inr bx => bx.2.length
def hsl (k : Nat) (h : MHeap) : Nat := (h.map (csl k)).sum
theorem hsl_push (k : Nat) (h : MHeap) (c : MCell) : hsl k (h ++ [c]) = hsl k h + csl k c := by simp [hsl]
theorem hsl_set (k : Nat) : ∀ (h : MHeap) (i : Nat) (c c' : MCell), h[i]? = some c → csl k c' = csl k c → hsl k (h.set i c') = hsl k h
  | [], _, _, _, h, _ => by simp at h
  | a :: t, 0, c, c', h, e => by simp at h; subst h; simp [hsl, e]
  | a :: t, i + 1, c, c', h, e => by
    have := hsl_set k t i c c' (by simpa using h) e
    simp only [hsl, List.set_cons_succ, List.map_cons, List.sum_cons] at this ⊢
    omega
/-! ## 2. Storing a local variable, on lists -/
def lsetAt (l : List Slot) (i : Nat) (x : Slot) : Option (List Slot) := if i < l.length then some (l.set i x) else none
def lstoreSelf (l : List Slot) (i : Nat) (v : Value) : Option (List Slot) :=
  match lsetAt l i (.val v) with
  | none => none
  | some l => if v.category = 2 then
      (match l[i + 1]? with
      | none => none
      | some (.val old) => if old.category = 2 then (match lsetAt l (i + 2) .unset with | none => none | some l2 => lsetAt l2 (i + 1) .second) else lsetAt l (i + 1) .second
      | some _ => lsetAt l (i + 1) .second)
    else some l
def mst (l : List Slot) (i : Nat) (v : Value) : Option (List Slot) :=
  match l[i]? with
  | none => none
  | some .second => (match lsetAt l (i - 1) .unset with | none => none | some l2 => lstoreSelf l2 i v)
  | some (.val old) => if old.category = 2 then (match lsetAt l (i + 1) .unset with | none => none | some l2 => lstoreSelf l2 i v) else lstoreSelf l i v
  | some .unset => lstoreSelf l i v
def arL (G : Ctx) (l : List Slot) : Array Slot := (l.map (trS G)).toArray
theorem setAt_map (G : Ctx) (l : List Slot) (i : Nat) (x : Slot) : setAt (arL G l) i (trS G x) = (lsetAt l i x).map (arL G) := by
  unfold setAt lsetAt arL
  by_cases h : i < l.length <;> simp [h, List.map_set]
theorem arL_get (G : Ctx) (l : List Slot) (i : Nat) : (arL G l)[i]? = (l[i]?).map (trS G) := by simp [arL]
theorem storeSelf_map (G : Ctx) (l : List Slot) (i : Nat) (v : Value) : storeSelf (arL G l) i (tr G v) = (lstoreSelf l i v).map (arL G) := by
  unfold storeSelf lstoreSelf
  have e := setAt_map G l i (.val v)
  simp only [trS] at e
  rw [e]
  cases h1 : lsetAt l i (.val v) with
  | none => rfl
  | some l1 =>
    simp only [Option.map_some, Option.bind_eq_bind, Option.bind_some, tr_cat]
    by_cases hc : v.category = 2
    · simp only [hc, if_true, arL_get]
      cases h2 : l1[i + 1]? with
      | none => rfl
      | some sl =>
        simp only [Option.map_some, Option.bind_some]
        have u2 := setAt_map G l1 (i + 2) .unset
        have s1 := setAt_map G l1 (i + 1) .second
        simp only [trS] at u2 s1
        cases sl with
        | unset => exact s1
        | second => exact s1
        | val old =>
          simp only [trS, tr_cat]
          by_cases hq : old.category = 2
          · simp only [hq, if_true, u2]
            cases h3 : lsetAt l1 (i + 2) .unset with
            | none => rfl
            | some l2 =>
              have s2 := setAt_map G l2 (i + 1) .second
              simp only [trS] at s2
              exact s2
          · simp only [hq, if_false]
            exact s1
    · simp only [hc, if_false]
      rfl
theorem mst_map (G : Ctx) (l : List Slot) (i : Nat) (v : Value) : storeLocals (arL G l) i (tr G v) = (mst l i v).map (arL G) := by
  unfold storeLocals mst
  simp only [arL_get]
  cases h1 : l[i]? with
  | none => rfl
  | some sl =>
    simp only [Option.map_some, Option.bind_eq_bind, Option.bind_some]
    have u1 := setAt_map G l (i - 1) .unset
    have u2 := setAt_map G l (i + 1) .unset
    simp only [trS] at u1 u2
    cases sl with
    | unset => exact storeSelf_map G l i v
    | second =>
      simp only [trS, u1]
      cases h3 : lsetAt l (i - 1) .unset with
      | none => rfl
      | some l2 => exact storeSelf_map G l2 i v
    | val old =>
      simp only [trS, tr_cat]
      by_cases hq : old.category = 2
      · simp only [hq, if_true, u2]
        cases h3 : lsetAt l (i + 1) .unset with
        | none => rfl
        | some l2 => exact storeSelf_map G l2 i v
      · simp only [hq, if_false]
        exact storeSelf_map G l i v
theorem lsetAt_len {l l' : List Slot} {i : Nat} {x : Slot} (h : lsetAt l i x = some l') : l'.length = l.length := by
  unfold lsetAt at h; split at h
  · cases h; simp
  · cases h
theorem lstoreSelf_len {l l' : List Slot} {i : Nat} {v : Value} (h : lstoreSelf l i v = some l') : l'.length = l.length := by
  unfold lstoreSelf at h
  split at h
  · cases h
  · rename_i l1 h1
    have e1 := lsetAt_len h1
    split at h
    · split at h
      · cases h
      · split at h
        · split at h
          · cases h
          · rename_i h2; rw [lsetAt_len h, lsetAt_len h2, e1]
        · rw [lsetAt_len h, e1]
      · rw [lsetAt_len h, e1]
    · cases h; exact e1
theorem mst_len {l l' : List Slot} {i : Nat} {v : Value} (h : mst l i v = some l') : l'.length = l.length := by
  unfold mst at h
  split at h
  · cases h
  · split at h
    · cases h
    · rename_i h2; rw [lstoreSelf_len h, lsetAt_len h2]
  · split at h
    · split at h
      · cases h
      · rename_i h2; rw [lstoreSelf_len h, lsetAt_len h2]
    · exact lstoreSelf_len h
  · exact lstoreSelf_len h
theorem st_of {G : Ctx} {l l' : List Slot} {i : Nat} {v : Value} (h : mst l i v = some l') : storeLocals (arL G l) i (tr G v) = some (arL G l') := by rw [mst_map, h]; rfl
theorem ld_of {G : Ctx} {l : List Slot} {i : Nat} {s : Slot} (h : l[i]? = some s) : (arL G l)[i]? = some (trS G s) := by rw [arL_get, h]; rfl
/-! ## 3. What a run of a body from a point does -/
def Ev (G : Ctx) (M : Mi) (pc : Nat) (L : List Slot) (S : List Value) (h : MHeap) (r : Option Value × MHeap) : Prop :=
  (h.length ≤ r.2.length ∧ hsl (gK G) h ≤ hsl (gK G) r.2) ∧
  ∀ (p : Program) (e : Env) (R : Room) (s : State) (m : MethodId) (args : Array Value) (below : List Frame) (meth : Method) (c : Code) (T : State) (locs : List Loc) (cells slots : Nat),
    Stand p (gL G) e R s m args below meth c T locs cells slots → p.tables.exec = Jvm.exec → (gZ G).Warmed39 s.vm → s.vm.findClass (mN M).cls = some m.cls →
    c.code = mB M → c.maxLocals = mL M → meth.sig.returnType = mR M → meth.name = (mN M).name → L.length = mL M → mF M ≤ R.frames → mW M ≤ R.locals →
    s.heap.size + cells = T.heap.size → Rel G T.heap h → Fr (gN G) locs → cells + (r.2.length - h.length) ≤ R.cells → slots + (hsl (gK G) r.2 - hsl (gK G) h) ≤ R.slots →
    ∃ T' locs', Stand p (gL G) e R s m args below meth c T' locs' (cells + (r.2.length - h.length)) (slots + (hsl (gK G) r.2 - hsl (gK G) h)) ∧ Rel G T'.heap r.2 ∧ Fr (gN G) locs' ∧
      ∀ fs, (∀ (f : JFrame) (acts : List Action), f.method = m → f.locked = none → f.entered = [] → (doReturn e (T'.setTop f) acts (r.1.map (tr G))).1 = T'.setFrames fs) →
        Steps p.tables e below (T.setTop (mkF m pc (arL G L) (S.map (tr G)))) (T'.setFrames fs)
/-- a whole call -/
def EvC (G : Ctx) (y : Mi) (args : List Value) (h : MHeap) (r : Option Value × MHeap) : Prop :=
  (h.length ≤ r.2.length ∧ hsl (gK G) h ≤ hsl (gK G) r.2) ∧
  ∀ (ws : List Jvm.Cond) (R : Room) (hr : Heap), mF y ≤ R.frames → mW y ≤ R.locals → r.2.length - h.length ≤ R.cells → hsl (gK G) r.2 - hsl (gK G) h ≤ R.slots → Rel G hr h →
    MetFree (gL G) (mN y) (head1 (Jvm.Cond.code (mN y) (mB y) (mL y) (mR y) :: ws) R) (fun a U => a = (args.map (tr G)).toArray ∧ (gZ G).Warmed39 U.vm ∧ U.heap = hr) (fun _ _ _ _ _ => True)
      (fun _ U o U' => ∃ v L, o = .returned v ∧ (v = r.1.map (tr G) ∧ Fr (gN G) L ∧ Rel G U'.heap r.2) ∧ FrameEnd U o U' L (r.2.length - h.length) (hsl (gK G) r.2 - hsl (gK G) h))
section Rules
variable {G : Ctx} {M : Mi} {pc : Nat} {L : List Slot} {S : List Value} {h : MHeap} {r : Option Value × MHeap}
theorem Ev.gen {pc' : Nat} {L' : List Slot} {S' : List Value} {h' : MHeap} (hm1 : h.length ≤ h'.length) (hm2 : hsl (gK G) h ≤ hsl (gK G) h') (hL : L'.length = L.length) (hn : Ev G M pc' L' S' h' r)
    (st : ∀ {p : Program} {e : Env} {R : Room} {s : State} {m : MethodId} {args : Array Value} {below : List Frame} {meth : Method} {c : Code} {T : State} {locs : List Loc} {cells slots : Nat},
      Stand p (gL G) e R s m args below meth c T locs cells slots → p.tables.exec = Jvm.exec → (gZ G).Warmed39 s.vm → s.vm.findClass (mN M).cls = some m.cls →
      c.code = mB M → c.maxLocals = mL M → meth.name = (mN M).name → L.length = mL M → mF M ≤ R.frames → mW M ≤ R.locals →
      s.heap.size + cells = T.heap.size → Rel G T.heap h → Fr (gN G) locs → cells + (h'.length - h.length) ≤ R.cells → slots + (hsl (gK G) h' - hsl (gK G) h) ≤ R.slots →
      ∃ T' locs', Stand p (gL G) e R s m args below meth c T' locs' (cells + (h'.length - h.length)) (slots + (hsl (gK G) h' - hsl (gK G) h)) ∧ Rel G T'.heap h' ∧ Fr (gN G) locs' ∧
        ∀ target, Steps p.tables e below (T'.setTop (mkF m pc' (arL G L') (S'.map (tr G)))) target → Steps p.tables e below (T.setTop (mkF m pc (arL G L) (S.map (tr G)))) target) :
    Ev G M pc L S h r := by
  obtain ⟨⟨g1, g2⟩, hn⟩ := hn
  refine ⟨⟨Nat.le_trans hm1 g1, Nat.le_trans hm2 g2⟩, ?_⟩
  intro p e R s m args below meth c T locs cells slots X hx hZ hown hby hml hret hnm hLm hfr hlo hsz hR hF hc hs
  obtain ⟨T1, locs1, X1, R1, F1, st1⟩ := st X hx hZ hown hby hml hnm hLm hfr hlo hsz hR hF (by omega) (by omega)
  have hsz1 : s.heap.size + (cells + (h'.length - h.length)) = T1.heap.size := by
    have a1 := hR.1
    have a2 := R1.1
    omega
  obtain ⟨T2, locs2, X2, R2, F2, st2⟩ := hn p e R s m args below meth c T1 locs1 _ _ X1 hx hZ hown hby hml hret hnm (hL.trans hLm) hfr hlo hsz1 R1 F1 (by omega) (by omega)
  refine ⟨T2, locs2, ?_, R2, F2, fun fs hl => st1 _ (st2 fs hl)⟩
  have e1 : cells + (h'.length - h.length) + (r.2.length - h'.length) = cells + (r.2.length - h.length) := by omega
  have e2 : slots + (hsl (gK G) h' - hsl (gK G) h) + (hsl (gK G) r.2 - hsl (gK G) h') = slots + (hsl (gK G) r.2 - hsl (gK G) h) := by omega
  rw [e1, e2] at X2
  exact X2
/-- a step that leaves the heap -/
theorem Ev.same {pc' : Nat} {L' : List Slot} {S' : List Value} (hL : L'.length = L.length) (hn : Ev G M pc' L' S' h r)
    (st : ∀ {p : Program} {e : Env} {R : Room} {s : State} {m : MethodId} {args : Array Value} {below : List Frame} {meth : Method} {c : Code} {T : State} {locs : List Loc} {cells slots : Nat},
      Stand p (gL G) e R s m args below meth c T locs cells slots → p.tables.exec = Jvm.exec → (gZ G).Warmed39 s.vm → s.vm.findClass (mN M).cls = some m.cls →
      c.code = mB M → c.maxLocals = mL M → L.length = mL M → mF M ≤ R.frames → mW M ≤ R.locals → Rel G T.heap h →
      ∃ T', Stand p (gL G) e R s m args below meth c T' locs cells slots ∧ T'.heap = T.heap ∧
        ∀ target, Steps p.tables e below (T'.setTop (mkF m pc' (arL G L') (S'.map (tr G)))) target → Steps p.tables e below (T.setTop (mkF m pc (arL G L) (S.map (tr G)))) target) :
    Ev G M pc L S h r := by
  refine Ev.gen (Nat.le_refl _) (Nat.le_refl _) hL hn ?_
  intro p e R s m args below meth c T locs cells slots X hx hZ hown hby hml hnm hLm hfr hlo hsz hR hF hc hs
  obtain ⟨T', X', e', st'⟩ := st X hx hZ hown hby hml hLm hfr hlo hR
  refine ⟨T', locs, ?_, by rw [e']; exact hR, hF, st'⟩
  rw [Nat.sub_self, Nat.sub_self, Nat.add_zero, Nat.add_zero]
  exact X'
/-- a step that leaves all but the frame -/
theorem Ev.pure {pc' : Nat} {L' : List Slot} {S' : List Value} (hL : L'.length = L.length) (hn : Ev G M pc' L' S' h r)
    (st : ∀ {p : Program} {e : Env} {R : Room} {s : State} {m : MethodId} {args : Array Value} {below : List Frame} {meth : Method} {c : Code} {T : State} {locs : List Loc} {cells slots : Nat},
      Stand p (gL G) e R s m args below meth c T locs cells slots → p.tables.exec = Jvm.exec → (gZ G).Warmed39 s.vm → s.vm.findClass (mN M).cls = some m.cls →
      c.code = mB M → ∀ target, Steps p.tables e below (T.setTop (mkF m pc' (arL G L') (S'.map (tr G)))) target → Steps p.tables e below (T.setTop (mkF m pc (arL G L) (S.map (tr G)))) target) :
    Ev G M pc L S h r :=
  Ev.same hL hn fun {p e R s m args below meth c T locs cells slots} X hx hZ hown hby hml hLm hfr hlo hR => ⟨T, X, rfl, st X hx hZ hown hby⟩
/-! ### loads, stores, constants -/
theorem Ev.iload {k : Nat} {v : Int32} (hd : decode (mB M) pc = .ok (.iload k, 2)) (hl : L[k]? = some (.val (.int v))) (hn : Ev G M (pc + 2) L (.int v :: S) h r) : Ev G M pc L S h r :=
  Ev.pure rfl hn fun {_ _ _ _ m _ _ _ _ _ _ _ _} X hx hZ hown hby target q => XS.iload (g := mkF m pc (arL G L) (List.map (tr G) S)) X.here hx rfl (hb hby hd) (ld_of hl) q
theorem Ev.iloadN {k : Fin 4} {v : Int32} (hd : decode (mB M) pc = .ok (.iload_n k, 1)) (hl : L[k.val]? = some (.val (.int v))) (hn : Ev G M (pc + 1) L (.int v :: S) h r) : Ev G M pc L S h r :=
  Ev.pure rfl hn fun {_ _ _ _ m _ _ _ _ _ _ _ _} X hx hZ hown hby target q => XS.iloadN (g := mkF m pc (arL G L) (List.map (tr G) S)) X.here hx rfl (hb hby hd) (ld_of hl) q
theorem Ev.aload {k : Nat} {v : Nat} (hd : decode (mB M) pc = .ok (.aload k, 2)) (hl : L[k]? = some (.val (.ref v))) (hn : Ev G M (pc + 2) L (.ref v :: S) h r) : Ev G M pc L S h r :=
  Ev.pure rfl hn fun {_ _ _ _ m _ _ _ _ _ _ _ _} X hx hZ hown hby target q => XS.aload (g := mkF m pc (arL G L) (List.map (tr G) S)) X.here hx rfl (hb hby hd) (ld_of hl) rfl q
theorem Ev.aloadN {k : Fin 4} {v : Nat} (hd : decode (mB M) pc = .ok (.aload_n k, 1)) (hl : L[k.val]? = some (.val (.ref v))) (hn : Ev G M (pc + 1) L (.ref v :: S) h r) : Ev G M pc L S h r :=
  Ev.pure rfl hn fun {_ _ _ _ m _ _ _ _ _ _ _ _} X hx hZ hown hby target q => XS.aloadN (g := mkF m pc (arL G L) (List.map (tr G) S)) X.here hx rfl (hb hby hd) (ld_of hl) rfl q
theorem Ev.lload {k : Nat} {v : Int64} (hd : decode (mB M) pc = .ok (.lload k, 2)) (hl : L[k]? = some (.val (.long v))) (hn : Ev G M (pc + 2) L (.long v :: S) h r) : Ev G M pc L S h r :=
  Ev.pure rfl hn fun {_ _ _ _ m _ _ _ _ _ _ _ _} X hx hZ hown hby target q => XT.lload (g := mkF m pc (arL G L) (List.map (tr G) S)) X.here hx rfl (hb hby hd) (ld_of hl) q
theorem Ev.lloadN {k : Fin 4} {v : Int64} (hd : decode (mB M) pc = .ok (.lload_n k, 1)) (hl : L[k.val]? = some (.val (.long v))) (hn : Ev G M (pc + 1) L (.long v :: S) h r) : Ev G M pc L S h r :=
  Ev.pure rfl hn fun {_ _ _ _ m _ _ _ _ _ _ _ _} X hx hZ hown hby target q => XT.lloadN (g := mkF m pc (arL G L) (List.map (tr G) S)) X.here hx rfl (hb hby hd) (ld_of hl) q
theorem Ev.istore {k : Nat} {v : Int32} {L' : List Slot} (hd : decode (mB M) pc = .ok (.istore k, 2)) (hl : mst L k (.int v) = some L') (hn : Ev G M (pc + 2) L' S h r) : Ev G M pc L (.int v :: S) h r :=
  Ev.pure (mst_len hl) hn fun {_ _ _ _ m _ _ _ _ _ _ _ _} X hx hZ hown hby target q => XS.istore (g := mkF m pc (arL G L) (List.map (tr G) (Value.int v :: S))) X.here hx rfl (hb hby hd) rfl (st_of hl) q
theorem Ev.istoreN {k : Fin 4} {v : Int32} {L' : List Slot} (hd : decode (mB M) pc = .ok (.istore_n k, 1)) (hl : mst L k.val (.int v) = some L') (hn : Ev G M (pc + 1) L' S h r) : Ev G M pc L (.int v :: S) h r :=
  Ev.pure (mst_len hl) hn fun {_ _ _ _ m _ _ _ _ _ _ _ _} X hx hZ hown hby target q => XS.istoreN (g := mkF m pc (arL G L) (List.map (tr G) (Value.int v :: S))) X.here hx rfl (hb hby hd) rfl (st_of hl) q
theorem Ev.astore {k v : Nat} {L' : List Slot} (hd : decode (mB M) pc = .ok (.astore k, 2)) (hl : mst L k (.ref v) = some L') (hn : Ev G M (pc + 2) L' S h r) : Ev G M pc L (.ref v :: S) h r :=
  Ev.pure (mst_len hl) hn fun {_ _ _ _ m _ _ _ _ _ _ _ _} X hx hZ hown hby target q => XS.astore (g := mkF m pc (arL G L) (List.map (tr G) (Value.ref v :: S))) X.here hx rfl (hb hby hd) rfl rfl (st_of hl) q
theorem Ev.astoreN {k : Fin 4} {v : Nat} {L' : List Slot} (hd : decode (mB M) pc = .ok (.astore_n k, 1)) (hl : mst L k.val (.ref v) = some L') (hn : Ev G M (pc + 1) L' S h r) : Ev G M pc L (.ref v :: S) h r :=
  Ev.pure (mst_len hl) hn fun {_ _ _ _ m _ _ _ _ _ _ _ _} X hx hZ hown hby target q => XS.astoreN (g := mkF m pc (arL G L) (List.map (tr G) (Value.ref v :: S))) X.here hx rfl (hb hby hd) rfl rfl (st_of hl) q
theorem Ev.lstore {k : Nat} {v : Int64} {L' : List Slot} (hd : decode (mB M) pc = .ok (.lstore k, 2)) (hl : mst L k (.long v) = some L') (hn : Ev G M (pc + 2) L' S h r) : Ev G M pc L (.long v :: S) h r :=
  Ev.pure (mst_len hl) hn fun {_ _ _ _ m _ _ _ _ _ _ _ _} X hx hZ hown hby target q => XT.lstore (g := mkF m pc (arL G L) (List.map (tr G) (Value.long v :: S))) X.here hx rfl (hb hby hd) rfl (st_of hl) q
theorem Ev.lstoreN {k : Fin 4} {v : Int64} {L' : List Slot} (hd : decode (mB M) pc = .ok (.lstore_n k, 1)) (hl : mst L k.val (.long v) = some L') (hn : Ev G M (pc + 1) L' S h r) : Ev G M pc L (.long v :: S) h r :=
  Ev.pure (mst_len hl) hn fun {_ _ _ _ m _ _ _ _ _ _ _ _} X hx hZ hown hby target q => XT.lstoreN (g := mkF m pc (arL G L) (List.map (tr G) (Value.long v :: S))) X.here hx rfl (hb hby hd) rfl (st_of hl) q
theorem Ev.iconst {i : Int} {z : Int32} (hd : decode (mB M) pc = .ok (.iconst i, 1)) (hz : Int32.ofInt i = z) (hn : Ev G M (pc + 1) L (.int z :: S) h r) : Ev G M pc L S h r :=
  Ev.pure rfl (hz ▸ hn) fun {_ _ _ _ m _ _ _ _ _ _ _ _} X hx hZ hown hby target q => XS.iconst (g := mkF m pc (arL G L) (List.map (tr G) S)) X.here hx rfl (hb hby hd) q
theorem Ev.bipush {i : Int} {z : Int32} (hd : decode (mB M) pc = .ok (.bipush i, 2)) (hz : (Int8.ofInt i).toInt32 = z) (hn : Ev G M (pc + 2) L (.int z :: S) h r) : Ev G M pc L S h r :=
  Ev.pure rfl (hz ▸ hn) fun {_ _ _ _ m _ _ _ _ _ _ _ _} X hx hZ hown hby target q => XS.bipush (g := mkF m pc (arL G L) (List.map (tr G) S)) X.here hx rfl (hb hby hd) q
theorem Ev.sipush {i : Int} {z : Int32} (hd : decode (mB M) pc = .ok (.sipush i, 3)) (hz : (Int16.ofInt i).toInt32 = z) (hn : Ev G M (pc + 3) L (.int z :: S) h r) : Ev G M pc L S h r :=
  Ev.pure rfl (hz ▸ hn) fun {_ _ _ _ m _ _ _ _ _ _ _ _} X hx hZ hown hby target q => XS.sipush (g := mkF m pc (arL G L) (List.map (tr G) S)) X.here hx rfl (hb hby hd) q
theorem Ev.lconst {k : Fin 2} {z : Int64} (hd : decode (mB M) pc = .ok (.lconst k, 1)) (hz : Int64.ofNat k = z) (hn : Ev G M (pc + 1) L (.long z :: S) h r) : Ev G M pc L S h r :=
  Ev.pure rfl (hz ▸ hn) fun {_ _ _ _ m _ _ _ _ _ _ _ _} X hx hZ hown hby target q => XT.lconst (g := mkF m pc (arL G L) (List.map (tr G) S)) X.here hx rfl (hb hby hd) q
theorem Ev.ldc {k : Nat} {v : Int32} (w : (Jvm.Cond.constant (mN M).cls k v).before (gA G) (gZ G) = true) (hd : decode (mB M) pc = .ok (.ldc k, 2)) (hn : Ev G M (pc + 2) L (.int v :: S) h r) : Ev G M pc L S h r :=
  Ev.pure rfl hn fun {_ _ _ _ m _ _ _ _ _ _ _ _} X hx hZ hown hby target q => X.ldcInt hx hown (mvT hZ w) (g := mkF m pc (arL G L) (List.map (tr G) S)) rfl (hb hby hd) target q
theorem Ev.ldcW {k : Nat} {v : Int32} (w : (Jvm.Cond.constant (mN M).cls k v).before (gA G) (gZ G) = true) (hd : decode (mB M) pc = .ok (.ldc_w k, 3)) (hn : Ev G M (pc + 3) L (.int v :: S) h r) : Ev G M pc L S h r :=
  Ev.pure rfl hn fun {_ _ _ _ m _ _ _ _ _ _ _ _} X hx hZ hown hby target q => X.ldcwInt hx hown (mvT hZ w) (g := mkF m pc (arL G L) (List.map (tr G) S)) rfl (hb hby hd) target q
theorem Ev.ldcL {k : Nat} {v : Int64} (w : (Jvm.Cond.constantLong (mN M).cls k v).before (gA G) (gZ G) = true) (hd : decode (mB M) pc = .ok (.ldc2_w k, 3)) (hn : Ev G M (pc + 3) L (.long v :: S) h r) : Ev G M pc L S h r :=
  Ev.pure rfl hn fun {_ _ _ _ m _ _ _ _ _ _ _ _} X hx hZ hown hby target q => X.ldc2Long hx hown (mvT hZ w) (g := mkF m pc (arL G L) (List.map (tr G) S)) rfl (hb hby hd) target q
/-! ### reckoning -/
theorem Ev.iadd {x y : Int32} (hd : decode (mB M) pc = .ok (.iadd, 1)) (hn : Ev G M (pc + 1) L (.int (x + y) :: S) h r) : Ev G M pc L (.int y :: .int x :: S) h r :=
  Ev.pure rfl hn fun {_ _ _ _ m _ _ _ _ _ _ _ _} X hx hZ hown hby target q => XS.iadd (g := mkF m pc (arL G L) (List.map (tr G) (Value.int y :: Value.int x :: S))) X.here hx rfl (hb hby hd) rfl q
theorem Ev.isub {x y : Int32} (hd : decode (mB M) pc = .ok (.isub, 1)) (hn : Ev G M (pc + 1) L (.int (x - y) :: S) h r) : Ev G M pc L (.int y :: .int x :: S) h r :=
  Ev.pure rfl hn fun {_ _ _ _ m _ _ _ _ _ _ _ _} X hx hZ hown hby target q => XS.isub (g := mkF m pc (arL G L) (List.map (tr G) (Value.int y :: Value.int x :: S))) X.here hx rfl (hb hby hd) rfl q
theorem Ev.imul {x y : Int32} (hd : decode (mB M) pc = .ok (.imul, 1)) (hn : Ev G M (pc + 1) L (.int (x * y) :: S) h r) : Ev G M pc L (.int y :: .int x :: S) h r :=
  Ev.pure rfl hn fun {_ _ _ _ m _ _ _ _ _ _ _ _} X hx hZ hown hby target q => XS.imul (g := mkF m pc (arL G L) (List.map (tr G) (Value.int y :: Value.int x :: S))) X.here hx rfl (hb hby hd) rfl q
theorem Ev.idiv {x y : Int32} (hd : decode (mB M) pc = .ok (.idiv, 1)) (hy : y ≠ 0) (hn : Ev G M (pc + 1) L (.int (x / y) :: S) h r) : Ev G M pc L (.int y :: .int x :: S) h r :=
  Ev.pure rfl hn fun {_ _ _ _ m _ _ _ _ _ _ _ _} X hx hZ hown hby target q => XS.idiv (g := mkF m pc (arL G L) (List.map (tr G) (Value.int y :: Value.int x :: S))) X.here hx rfl (hb hby hd) rfl hy q
theorem Ev.irem {x y : Int32} (hd : decode (mB M) pc = .ok (.irem, 1)) (hy : y ≠ 0) (hn : Ev G M (pc + 1) L (.int (x % y) :: S) h r) : Ev G M pc L (.int y :: .int x :: S) h r :=
  Ev.pure rfl hn fun {_ _ _ _ m _ _ _ _ _ _ _ _} X hx hZ hown hby target q => iremM (g := mkF m pc (arL G L) (List.map (tr G) (Value.int y :: Value.int x :: S))) X hx rfl (hb hby hd) rfl hy q
theorem Ev.ineg {x : Int32} (hd : decode (mB M) pc = .ok (.ineg, 1)) (hn : Ev G M (pc + 1) L (.int (-x) :: S) h r) : Ev G M pc L (.int x :: S) h r :=
  Ev.pure rfl hn fun {_ _ _ _ m _ _ _ _ _ _ _ _} X hx hZ hown hby target q => XS.ineg (g := mkF m pc (arL G L) (List.map (tr G) (Value.int x :: S))) X.here hx rfl (hb hby hd) rfl q
theorem Ev.iand {x y : Int32} (hd : decode (mB M) pc = .ok (.iand, 1)) (hn : Ev G M (pc + 1) L (.int (x &&& y) :: S) h r) : Ev G M pc L (.int y :: .int x :: S) h r :=
  Ev.pure rfl hn fun {_ _ _ _ m _ _ _ _ _ _ _ _} X hx hZ hown hby target q => XS.iand (g := mkF m pc (arL G L) (List.map (tr G) (Value.int y :: Value.int x :: S))) X.here hx rfl (hb hby hd) rfl q
theorem Ev.ior {x y : Int32} (hd : decode (mB M) pc = .ok (.ior, 1)) (hn : Ev G M (pc + 1) L (.int (x ||| y) :: S) h r) : Ev G M pc L (.int y :: .int x :: S) h r :=
  Ev.pure rfl hn fun {_ _ _ _ m _ _ _ _ _ _ _ _} X hx hZ hown hby target q => XT.ior (g := mkF m pc (arL G L) (List.map (tr G) (Value.int y :: Value.int x :: S))) X.here hx rfl (hb hby hd) rfl q
theorem Ev.ixor {x y : Int32} (hd : decode (mB M) pc = .ok (.ixor, 1)) (hn : Ev G M (pc + 1) L (.int (x ^^^ y) :: S) h r) : Ev G M pc L (.int y :: .int x :: S) h r :=
  Ev.pure rfl hn fun {_ _ _ _ m _ _ _ _ _ _ _ _} X hx hZ hown hby target q => XT.ixor (g := mkF m pc (arL G L) (List.map (tr G) (Value.int y :: Value.int x :: S))) X.here hx rfl (hb hby hd) rfl q
theorem Ev.ishl {x y : Int32} (hd : decode (mB M) pc = .ok (.ishl, 1)) (hn : Ev G M (pc + 1) L (.int (x <<< (y &&& 31)) :: S) h r) : Ev G M pc L (.int y :: .int x :: S) h r :=
  Ev.pure rfl hn fun {_ _ _ _ m _ _ _ _ _ _ _ _} X hx hZ hown hby target q => XT.ishl (g := mkF m pc (arL G L) (List.map (tr G) (Value.int y :: Value.int x :: S))) X.here hx rfl (hb hby hd) rfl q
theorem Ev.ishr {x y : Int32} (hd : decode (mB M) pc = .ok (.ishr, 1)) (hn : Ev G M (pc + 1) L (.int (x >>> (y &&& 31)) :: S) h r) : Ev G M pc L (.int y :: .int x :: S) h r :=
  Ev.pure rfl hn fun {_ _ _ _ m _ _ _ _ _ _ _ _} X hx hZ hown hby target q => XT.ishr (g := mkF m pc (arL G L) (List.map (tr G) (Value.int y :: Value.int x :: S))) X.here hx rfl (hb hby hd) rfl q
theorem Ev.iushr {x y : Int32} (hd : decode (mB M) pc = .ok (.iushr, 1)) (hn : Ev G M (pc + 1) L (.int (XT.ushr x y) :: S) h r) : Ev G M pc L (.int y :: .int x :: S) h r :=
  Ev.pure rfl hn fun {_ _ _ _ m _ _ _ _ _ _ _ _} X hx hZ hown hby target q => XT.iushr (g := mkF m pc (arL G L) (List.map (tr G) (Value.int y :: Value.int x :: S))) X.here hx rfl (hb hby hd) rfl q
theorem Ev.ladd {x y : Int64} (hd : decode (mB M) pc = .ok (.ladd, 1)) (hn : Ev G M (pc + 1) L (.long (x + y) :: S) h r) : Ev G M pc L (.long y :: .long x :: S) h r :=
  Ev.pure rfl hn fun {_ _ _ _ m _ _ _ _ _ _ _ _} X hx hZ hown hby target q => XT.ladd (g := mkF m pc (arL G L) (List.map (tr G) (Value.long y :: Value.long x :: S))) X.here hx rfl (hb hby hd) rfl q
theorem Ev.lsub {x y : Int64} (hd : decode (mB M) pc = .ok (.lsub, 1)) (hn : Ev G M (pc + 1) L (.long (x - y) :: S) h r) : Ev G M pc L (.long y :: .long x :: S) h r :=
  Ev.pure rfl hn fun {_ _ _ _ m _ _ _ _ _ _ _ _} X hx hZ hown hby target q => XT.lsub (g := mkF m pc (arL G L) (List.map (tr G) (Value.long y :: Value.long x :: S))) X.here hx rfl (hb hby hd) rfl q
theorem Ev.lmul {x y : Int64} (hd : decode (mB M) pc = .ok (.lmul, 1)) (hn : Ev G M (pc + 1) L (.long (x * y) :: S) h r) : Ev G M pc L (.long y :: .long x :: S) h r :=
  Ev.pure rfl hn fun {_ _ _ _ m _ _ _ _ _ _ _ _} X hx hZ hown hby target q => XT.lmul (g := mkF m pc (arL G L) (List.map (tr G) (Value.long y :: Value.long x :: S))) X.here hx rfl (hb hby hd) rfl q
theorem Ev.ldiv {x y : Int64} (hd : decode (mB M) pc = .ok (.ldiv, 1)) (hy : y ≠ 0) (hn : Ev G M (pc + 1) L (.long (x / y) :: S) h r) : Ev G M pc L (.long y :: .long x :: S) h r :=
  Ev.pure rfl hn fun {_ _ _ _ m _ _ _ _ _ _ _ _} X hx hZ hown hby target q => XT.ldiv (g := mkF m pc (arL G L) (List.map (tr G) (Value.long y :: Value.long x :: S))) X.here hx rfl (hb hby hd) rfl hy q
theorem Ev.lneg {x : Int64} (hd : decode (mB M) pc = .ok (.lneg, 1)) (hn : Ev G M (pc + 1) L (.long (-x) :: S) h r) : Ev G M pc L (.long x :: S) h r :=
  Ev.pure rfl hn fun {_ _ _ _ m _ _ _ _ _ _ _ _} X hx hZ hown hby target q => XT.lneg (g := mkF m pc (arL G L) (List.map (tr G) (Value.long x :: S))) X.here hx rfl (hb hby hd) rfl q
theorem Ev.land {x y : Int64} (hd : decode (mB M) pc = .ok (.land, 1)) (hn : Ev G M (pc + 1) L (.long (x &&& y) :: S) h r) : Ev G M pc L (.long y :: .long x :: S) h r :=
  Ev.pure rfl hn fun {_ _ _ _ m _ _ _ _ _ _ _ _} X hx hZ hown hby target q => XT.land (g := mkF m pc (arL G L) (List.map (tr G) (Value.long y :: Value.long x :: S))) X.here hx rfl (hb hby hd) rfl q
theorem Ev.lor {x y : Int64} (hd : decode (mB M) pc = .ok (.lor, 1)) (hn : Ev G M (pc + 1) L (.long (x ||| y) :: S) h r) : Ev G M pc L (.long y :: .long x :: S) h r :=
  Ev.pure rfl hn fun {_ _ _ _ m _ _ _ _ _ _ _ _} X hx hZ hown hby target q => XT.lor (g := mkF m pc (arL G L) (List.map (tr G) (Value.long y :: Value.long x :: S))) X.here hx rfl (hb hby hd) rfl q
theorem Ev.lxor {x y : Int64} (hd : decode (mB M) pc = .ok (.lxor, 1)) (hn : Ev G M (pc + 1) L (.long (x ^^^ y) :: S) h r) : Ev G M pc L (.long y :: .long x :: S) h r :=
  Ev.pure rfl hn fun {_ _ _ _ m _ _ _ _ _ _ _ _} X hx hZ hown hby target q => XT.lxor (g := mkF m pc (arL G L) (List.map (tr G) (Value.long y :: Value.long x :: S))) X.here hx rfl (hb hby hd) rfl q
theorem Ev.lshl {x : Int64} {y : Int32} (hd : decode (mB M) pc = .ok (.lshl, 1)) (hn : Ev G M (pc + 1) L (.long (x <<< (y.toInt64 &&& 63)) :: S) h r) : Ev G M pc L (.int y :: .long x :: S) h r :=
  Ev.pure rfl hn fun {_ _ _ _ m _ _ _ _ _ _ _ _} X hx hZ hown hby target q => XT.lshl (g := mkF m pc (arL G L) (List.map (tr G) (Value.int y :: Value.long x :: S))) X.here hx rfl (hb hby hd) rfl q
theorem Ev.lushr {x : Int64} {y : Int32} (hd : decode (mB M) pc = .ok (.lushr, 1)) (hn : Ev G M (pc + 1) L (.long (XT.ushrL x y) :: S) h r) : Ev G M pc L (.int y :: .long x :: S) h r :=
  Ev.pure rfl hn fun {_ _ _ _ m _ _ _ _ _ _ _ _} X hx hZ hown hby target q => XT.lushr (g := mkF m pc (arL G L) (List.map (tr G) (Value.int y :: Value.long x :: S))) X.here hx rfl (hb hby hd) rfl q
theorem Ev.lcmp {x y : Int64} (hd : decode (mB M) pc = .ok (.lcmp, 1)) (hn : Ev G M (pc + 1) L (.int (XT.cmpL x y) :: S) h r) : Ev G M pc L (.long y :: .long x :: S) h r :=
  Ev.pure rfl hn fun {_ _ _ _ m _ _ _ _ _ _ _ _} X hx hZ hown hby target q => XT.lcmp (g := mkF m pc (arL G L) (List.map (tr G) (Value.long y :: Value.long x :: S))) X.here hx rfl (hb hby hd) rfl q
theorem Ev.i2l {x : Int32} (hd : decode (mB M) pc = .ok (.i2l, 1)) (hn : Ev G M (pc + 1) L (.long x.toInt64 :: S) h r) : Ev G M pc L (.int x :: S) h r :=
  Ev.pure rfl hn fun {_ _ _ _ m _ _ _ _ _ _ _ _} X hx hZ hown hby target q => XT.i2l (g := mkF m pc (arL G L) (List.map (tr G) (Value.int x :: S))) X.here hx rfl (hb hby hd) rfl q
theorem Ev.l2i {x : Int64} (hd : decode (mB M) pc = .ok (.l2i, 1)) (hn : Ev G M (pc + 1) L (.int x.toInt32 :: S) h r) : Ev G M pc L (.long x :: S) h r :=
  Ev.pure rfl hn fun {_ _ _ _ m _ _ _ _ _ _ _ _} X hx hZ hown hby target q => XT.l2i (g := mkF m pc (arL G L) (List.map (tr G) (Value.long x :: S))) X.here hx rfl (hb hby hd) rfl q
theorem Ev.i2b {x : Int32} (hd : decode (mB M) pc = .ok (.i2b, 1)) (hn : Ev G M (pc + 1) L (.int x.toInt8.toInt32 :: S) h r) : Ev G M pc L (.int x :: S) h r :=
  Ev.pure rfl hn fun {_ _ _ _ m _ _ _ _ _ _ _ _} X hx hZ hown hby target q => XT.i2b (g := mkF m pc (arL G L) (List.map (tr G) (Value.int x :: S))) X.here hx rfl (hb hby hd) rfl q
theorem Ev.iinc {k : Nat} {i : Int} {x z : Int32} {L' : List Slot} (hd : decode (mB M) pc = .ok (.iinc k i, 3)) (hl : L[k]? = some (.val (.int x))) (hz : Int32.ofInt i = z) (hl' : mst L k (.int (x + z)) = some L') (hn : Ev G M (pc + 3) L' S h r) : Ev G M pc L S h r :=
  Ev.pure (mst_len hl') hn fun {_ _ _ _ m _ _ _ _ _ _ _ _} X hx hZ hown hby target q => XS.iinc (g := mkF m pc (arL G L) (List.map (tr G) S)) X.here hx rfl (hb hby hd) (ld_of hl) (by rw [hz]; exact st_of hl') q
theorem iincW {tb : Tables} [Ours tb] {e : Env} {below : List Frame} {T target : State} {m : MethodId} {c : Code} {g : JFrame} (h : At T m c below) (hx : tb.exec = Jvm.exec) (hg : g.method = m) {k : Nat} {cst : Int} {x : Int32} {l' : Array Slot} (hd : decode c.code g.pc = .ok (.iinc k cst, 6)) (hl : g.locals[k]? = some (.val (.int x))) (hl' : storeLocals g.locals k (.int (x + Int32.ofInt cst)) = some l')
    (hr : Steps tb e below (T.setTop { g with pc := g.pc + 6, locals := l' }) target) : Steps tb e below (T.setTop g) target := by
  subst hg
  jvm_step h [h.top, hx, hd, hl, hl']
  exact hr
theorem Ev.iincW {k : Nat} {i : Int} {x z : Int32} {L' : List Slot} (hd : decode (mB M) pc = .ok (.iinc k i, 6)) (hl : L[k]? = some (.val (.int x))) (hz : Int32.ofInt i = z) (hl' : mst L k (.int (x + z)) = some L') (hn : Ev G M (pc + 6) L' S h r) : Ev G M pc L S h r :=
  Ev.pure (mst_len hl') hn fun {_ _ _ _ m _ _ _ _ _ _ _ _} X hx hZ hown hby target q => Own.iincW (g := mkF m pc (arL G L) (List.map (tr G) S)) X.here hx rfl (hb hby hd) (ld_of hl) (by rw [hz]; exact st_of hl') q
theorem Ev.dup {x : Value} (hd : decode (mB M) pc = .ok (.dup, 1)) (hc : x.category = 1) (hn : Ev G M (pc + 1) L (x :: x :: S) h r) : Ev G M pc L (x :: S) h r :=
  Ev.pure rfl hn fun {_ _ _ _ m _ _ _ _ _ _ _ _} X hx hZ hown hby target q => XS.dup (g := mkF m pc (arL G L) (List.map (tr G) (x :: S))) X.here hx rfl (hb hby hd) rfl ((tr_cat G x).trans hc) q
theorem Ev.dup2 {x y : Value} (hd : decode (mB M) pc = .ok (.dup2, 1)) (hc : x.category = 1) (hc' : y.category = 1) (hn : Ev G M (pc + 1) L (x :: y :: x :: y :: S) h r) : Ev G M pc L (x :: y :: S) h r :=
  Ev.pure rfl hn fun {_ _ _ _ m _ _ _ _ _ _ _ _} X hx hZ hown hby target q => XT.dup2 (g := mkF m pc (arL G L) (List.map (tr G) (x :: y :: S))) X.here hx rfl (hb hby hd) rfl ((tr_cat G x).trans hc) ((tr_cat G y).trans hc') q
theorem Ev.pop {x : Value} (hd : decode (mB M) pc = .ok (.pop, 1)) (hc : x.category = 1) (hn : Ev G M (pc + 1) L S h r) : Ev G M pc L (x :: S) h r :=
  Ev.pure rfl hn fun {_ _ _ _ m _ _ _ _ _ _ _ _} X hx hZ hown hby target q => XT.pop (g := mkF m pc (arL G L) (List.map (tr G) (x :: S))) X.here hx rfl (hb hby hd) rfl ((tr_cat G x).trans hc) q
/-! ### branches -/
theorem Ev.goto {o : Int} {t : Nat} (hd : decode (mB M) pc = .ok (.goto o, 3)) (hp : (pc : Int) + o = (t : Int)) (hn : Ev G M t L S h r) : Ev G M pc L S h r :=
  Ev.pure rfl hn fun {_ _ _ _ m _ _ _ _ _ _ _ _} X hx hZ hown hby target q => XS.goto (g := mkF m pc (arL G L) (List.map (tr G) S)) X.here hx rfl rfl (hb hby hd) (by rw [hp]; exact Int.natCast_nonneg t) (by rw [hp]; rfl) q
theorem Ev.ifc {cd : ClassFile.Cond} {x : Int32} {o : Int} {t : Nat} (hd : decode (mB M) pc = .ok (.ifCond cd o, 3)) (hp : (pc : Int) + o = (t : Int)) (h1 : ifCond.holds cd x = true → Ev G M t L S h r) (h2 : ifCond.holds cd x = false → Ev G M (pc + 3) L S h r) : Ev G M pc L (.int x :: S) h r := by
  cases hc : ifCond.holds cd x with
  | true => exact Ev.pure rfl (h1 hc) fun {_ _ _ _ m _ _ _ _ _ _ _ _} X hx hZ hown hby target q => XS.ifYes (g := mkF m pc (arL G L) (List.map (tr G) (Value.int x :: S))) X.here hx rfl rfl (hb hby hd) rfl hc (by rw [hp]; exact Int.natCast_nonneg t) (by rw [hp]; rfl) q
  | false => exact Ev.pure rfl (h2 hc) fun {_ _ _ _ m _ _ _ _ _ _ _ _} X hx hZ hown hby target q => XS.ifNo (g := mkF m pc (arL G L) (List.map (tr G) (Value.int x :: S))) X.here hx rfl (hb hby hd) rfl hc q
theorem Ev.icc {cd : ClassFile.Cond} {x y : Int32} {o : Int} {t : Nat} (hd : decode (mB M) pc = .ok (.if_icmp cd o, 3)) (hp : (pc : Int) + o = (t : Int)) (h1 : if_icmp.holds cd x y = true → Ev G M t L S h r) (h2 : if_icmp.holds cd x y = false → Ev G M (pc + 3) L S h r) : Ev G M pc L (.int y :: .int x :: S) h r := by
  cases hc : if_icmp.holds cd x y with
  | true => exact Ev.pure rfl (h1 hc) fun {_ _ _ _ m _ _ _ _ _ _ _ _} X hx hZ hown hby target q => XS.icmpYes (g := mkF m pc (arL G L) (List.map (tr G) (Value.int y :: Value.int x :: S))) X.here hx rfl rfl (hb hby hd) rfl hc (by rw [hp]; exact Int.natCast_nonneg t) (by rw [hp]; rfl) q
  | false => exact Ev.pure rfl (h2 hc) fun {_ _ _ _ m _ _ _ _ _ _ _ _} X hx hZ hown hby target q => XS.icmpNo (g := mkF m pc (arL G L) (List.map (tr G) (Value.int y :: Value.int x :: S))) X.here hx rfl (hb hby hd) rfl hc q
theorem Ev.iclt {x y : Int32} {o : Int} {t : Nat} (hd : decode (mB M) pc = .ok (.if_icmp .lt o, 3)) (hp : (pc : Int) + o = (t : Int)) (h1 : x < y → Ev G M t L S h r) (h2 : ¬ x < y → Ev G M (pc + 3) L S h r) : Ev G M pc L (.int y :: .int x :: S) h r :=
  Ev.icc hd hp (fun q => h1 (by simpa [if_icmp.holds] using q)) (fun q => h2 (by simpa [if_icmp.holds] using q))
theorem Ev.icge {x y : Int32} {o : Int} {t : Nat} (hd : decode (mB M) pc = .ok (.if_icmp .ge o, 3)) (hp : (pc : Int) + o = (t : Int)) (h1 : x < y → Ev G M (pc + 3) L S h r) (h2 : ¬ x < y → Ev G M t L S h r) : Ev G M pc L (.int y :: .int x :: S) h r :=
  Ev.icc hd hp (fun q => h2 (by simpa [if_icmp.holds] using q)) (fun q => h1 (by simpa [if_icmp.holds] using q))
theorem Ev.icgt {x y : Int32} {o : Int} {t : Nat} (hd : decode (mB M) pc = .ok (.if_icmp .gt o, 3)) (hp : (pc : Int) + o = (t : Int)) (h1 : y < x → Ev G M t L S h r) (h2 : ¬ y < x → Ev G M (pc + 3) L S h r) : Ev G M pc L (.int y :: .int x :: S) h r :=
  Ev.icc hd hp (fun q => h1 (by simpa [if_icmp.holds] using q)) (fun q => h2 (by simpa [if_icmp.holds] using q))
theorem Ev.icle {x y : Int32} {o : Int} {t : Nat} (hd : decode (mB M) pc = .ok (.if_icmp .le o, 3)) (hp : (pc : Int) + o = (t : Int)) (h1 : y < x → Ev G M (pc + 3) L S h r) (h2 : ¬ y < x → Ev G M t L S h r) : Ev G M pc L (.int y :: .int x :: S) h r :=
  Ev.icc hd hp (fun q => h2 (by simpa [if_icmp.holds] using q)) (fun q => h1 (by simpa [if_icmp.holds] using q))
theorem Ev.iceq {x y : Int32} {o : Int} {t : Nat} (hd : decode (mB M) pc = .ok (.if_icmp .eq o, 3)) (hp : (pc : Int) + o = (t : Int)) (h1 : x = y → Ev G M t L S h r) (h2 : ¬ x = y → Ev G M (pc + 3) L S h r) : Ev G M pc L (.int y :: .int x :: S) h r :=
  Ev.icc hd hp (fun q => h1 (by simpa [if_icmp.holds] using q)) (fun q => h2 (by simpa [if_icmp.holds] using q))
theorem Ev.icne {x y : Int32} {o : Int} {t : Nat} (hd : decode (mB M) pc = .ok (.if_icmp .ne o, 3)) (hp : (pc : Int) + o = (t : Int)) (h1 : x = y → Ev G M (pc + 3) L S h r) (h2 : ¬ x = y → Ev G M t L S h r) : Ev G M pc L (.int y :: .int x :: S) h r :=
  Ev.icc hd hp (fun q => h2 (by simpa [if_icmp.holds] using q)) (fun q => h1 (by simpa [if_icmp.holds] using q))
theorem Ev.iflt {x : Int32} {o : Int} {t : Nat} (hd : decode (mB M) pc = .ok (.ifCond .lt o, 3)) (hp : (pc : Int) + o = (t : Int)) (h1 : x < 0 → Ev G M t L S h r) (h2 : ¬ x < 0 → Ev G M (pc + 3) L S h r) : Ev G M pc L (.int x :: S) h r :=
  Ev.ifc hd hp (fun q => h1 (by simpa [ifCond.holds] using q)) (fun q => h2 (by simpa [ifCond.holds] using q))
theorem Ev.ifge {x : Int32} {o : Int} {t : Nat} (hd : decode (mB M) pc = .ok (.ifCond .ge o, 3)) (hp : (pc : Int) + o = (t : Int)) (h1 : x < 0 → Ev G M (pc + 3) L S h r) (h2 : ¬ x < 0 → Ev G M t L S h r) : Ev G M pc L (.int x :: S) h r :=
  Ev.ifc hd hp (fun q => h2 (by simpa [ifCond.holds] using q)) (fun q => h1 (by simpa [ifCond.holds] using q))
theorem Ev.ifgt {x : Int32} {o : Int} {t : Nat} (hd : decode (mB M) pc = .ok (.ifCond .gt o, 3)) (hp : (pc : Int) + o = (t : Int)) (h1 : 0 < x → Ev G M t L S h r) (h2 : ¬ 0 < x → Ev G M (pc + 3) L S h r) : Ev G M pc L (.int x :: S) h r :=
  Ev.ifc hd hp (fun q => h1 (by simpa [ifCond.holds] using q)) (fun q => h2 (by simpa [ifCond.holds] using q))
theorem Ev.ifle {x : Int32} {o : Int} {t : Nat} (hd : decode (mB M) pc = .ok (.ifCond .le o, 3)) (hp : (pc : Int) + o = (t : Int)) (h1 : 0 < x → Ev G M (pc + 3) L S h r) (h2 : ¬ 0 < x → Ev G M t L S h r) : Ev G M pc L (.int x :: S) h r :=
  Ev.ifc hd hp (fun q => h2 (by simpa [ifCond.holds] using q)) (fun q => h1 (by simpa [ifCond.holds] using q))
theorem Ev.ifeq {x : Int32} {o : Int} {t : Nat} (hd : decode (mB M) pc = .ok (.ifCond .eq o, 3)) (hp : (pc : Int) + o = (t : Int)) (h1 : x = 0 → Ev G M t L S h r) (h2 : ¬ x = 0 → Ev G M (pc + 3) L S h r) : Ev G M pc L (.int x :: S) h r :=
  Ev.ifc hd hp (fun q => h1 (by simpa [ifCond.holds] using q)) (fun q => h2 (by simpa [ifCond.holds] using q))
theorem Ev.ifne {x : Int32} {o : Int} {t : Nat} (hd : decode (mB M) pc = .ok (.ifCond .ne o, 3)) (hp : (pc : Int) + o = (t : Int)) (h1 : x = 0 → Ev G M (pc + 3) L S h r) (h2 : ¬ x = 0 → Ev G M t L S h r) : Ev G M pc L (.int x :: S) h r :=
  Ev.ifc hd hp (fun q => h2 (by simpa [ifCond.holds] using q)) (fun q => h1 (by simpa [ifCond.holds] using q))
theorem Ev.tswIn {x : Int32} {dflt low high : Int} {offs : Array Int} {len t : Nat} {o : Int} (hd : decode (mB M) pc = .ok (.tableswitch dflt low high offs, len)) (hin : ¬ (x.toInt < low ∨ x.toInt > high)) (ho : offs[(x.toInt - low).toNat]? = some o) (hp : (pc : Int) + o = (t : Int)) (hn : Ev G M t L S h r) : Ev G M pc L (.int x :: S) h r :=
  Ev.pure rfl hn fun {_ _ _ _ m _ _ _ _ _ _ _ _} X hx hZ hown hby target q => XS.tswIn (g := mkF m pc (arL G L) (List.map (tr G) (Value.int x :: S))) X.here hx rfl rfl (hb hby hd) rfl hin ho (by rw [hp]; exact Int.natCast_nonneg t) (by rw [hp]; rfl) q
theorem Ev.tswOut {x : Int32} {dflt low high : Int} {offs : Array Int} {len t : Nat} (hd : decode (mB M) pc = .ok (.tableswitch dflt low high offs, len)) (hout : x.toInt < low ∨ x.toInt > high) (hp : (pc : Int) + dflt = (t : Int)) (hn : Ev G M t L S h r) : Ev G M pc L (.int x :: S) h r :=
  Ev.pure rfl hn fun {_ _ _ _ m _ _ _ _ _ _ _ _} X hx hZ hown hby target q => XS.tswOut (g := mkF m pc (arL G L) (List.map (tr G) (Value.int x :: S))) X.here hx rfl rfl (hb hby hd) rfl hout (by rw [hp]; exact Int.natCast_nonneg t) (by rw [hp]; rfl) q
/-! ### fields -/
theorem Ev.getfield {idx j i : Nat} {n d : String} {ty : FieldType} {fs : List Value} {v : Value} (w : (Jvm.Cond.fieldLink (mN M).cls idx (gC G) n d).before (gA G) (gZ G) = true) (hd : decode (mB M) pc = .ok (.getfield idx, 3))
    (hF : (gF G)[j]? = some (n, d, ty)) (hi : h[i]? = some (.inl fs)) (hv : fs[j]? = some v) (hn : Ev G M (pc + 3) L (v :: S) h r) : Ev G M pc L (.ref i :: S) h r := by
  refine Ev.same rfl hn ?_
  intro p e R s m args below meth c T locs cells slots X hx hZ hown hby hml hLm hfr hlo hR
  obtain ⟨-, -, h3⟩ := hR.2.2.2 i _ hi
  obtain ⟨T', X', e', st⟩ := getF X hx hZ hown (host := "") (Or.inl w) Via.refl rfl (h3 j n d ty v hF hv) (g := mkF m pc (arL G L) ((Value.ref i :: S).map (tr G))) rfl rfl (hb hby hd)
  exact ⟨T', X', e', st⟩
def mput : FieldType → Value → Option Value
  | .int, .int z => some (.int z)
  | .boolean, .int z => some (.int (z &&& 1))
  | .array _, .ref a => some (.ref a)
  | _, _ => none
theorem mput_spec {G : Ctx} {ty : FieldType} {v v' : Value} (h : mput ty v = some v') : narrow ty (tr G v) = tr G v' ∧ fits ty (tr G v') = true := by
  unfold mput at h
  split at h
  · cases h; exact ⟨rfl, rfl⟩
  · cases h; exact ⟨rfl, fits_nar_bool _⟩
  · cases h; exact ⟨rfl, rfl⟩
  · cases h
theorem Ev.putfield {idx j i : Nat} {n d : String} {ty : FieldType} {fs : List Value} {v v' : Value} (K : GOk G) (w : (Jvm.Cond.fieldLink (mN M).cls idx (gC G) n d).before (gA G) (gZ G) = true)
    (wl : (Jvm.Cond.lays (gC G) (gC G) n d).before (gA G) (gZ G) = true ∨ ((Jvm.Cond.laysFinal (gC G) (gC G) n d).before (gA G) (gZ G) = true ∧ (mN M).cls = gC G ∧ (mN M).name = "<init>"))
    (hd : decode (mB M) pc = .ok (.putfield idx, 3)) (hF : (gF G)[j]? = some (n, d, ty)) (hk : k0 G ≤ i) (hi : h[i]? = some (.inl fs)) (hp : mput ty v = some v') (hn : Ev G M (pc + 3) L S (h.set i (.inl (fs.set j v'))) r) : Ev G M pc L (v :: .ref i :: S) h r := by
  have hs := hsl_set (gK G) h i (.inl fs) (.inl (fs.set j v')) hi rfl
  refine Ev.gen (by rw [List.length_set]; exact Nat.le_refl _) (by rw [hs]; exact Nat.le_refl _) rfl hn ?_
  intro p e R s m args below meth c T locs cells slots X hx hZ hown hby hml hnm hLm hfr hlo hsz hR hFr hc hsq
  obtain ⟨e1, e2, e3⟩ := hR.2.2.2 i _ hi
  obtain ⟨q1, q2⟩ := mput_spec (G := G) hp
  have hlt : j < fs.length := by rw [e2]; exact (List.getElem?_eq_some_iff.mp hF).1
  have F := e3 j n d ty _ hF (List.getElem?_eq_getElem hlt)
  obtain ⟨T', h', X', eT', W, st⟩ := putFN X hx hZ hown w Via.refl rfl F e1 (wl.imp id fun ⟨a, b, c⟩ => ⟨a, b, by rw [hnm]; exact c⟩) K.2.2.1 (K.1 j n d ty hF).2 q1 q2 (g := mkF m pc (arL G L) ((v :: Value.ref i :: S).map (tr G))) rfl rfl (hb hby hd)
  refine ⟨T', _, ?_, ?_, Fr.snoc X' hFr (rho_ge hk), st⟩
  · rw [hs, List.length_set, Nat.sub_self, Nat.sub_self, Nat.add_zero, Nat.add_zero]; exact X'
  · rw [eT']; exact hR.wrFld K hi hF W
/-! ### arrays -/
theorem get_arr {xs : List Int32} {c : Cell} (hs : c.slots = (xs.map Value.int).toArray) (k : Nat) : c.slots[k]? = (xs[k]?).map Value.int := by rw [hs]; simp
theorem arr_size {xs : List Int32} {c : Cell} (hs : c.slots = (xs.map Value.int).toArray) : c.slots.size = xs.length := by rw [hs]; simp
theorem Ev.arraylength {i : Nat} {b : Bool} {xs : List Int32} (hd : decode (mB M) pc = .ok (.arraylength, 1)) (hi : h[i]? = some (.inr (b, xs))) (hn : Ev G M (pc + 1) L (.int xs.length.toInt32 :: S) h r) : Ev G M pc L (.ref i :: S) h r := by
  refine Ev.same rfl hn ?_
  intro p e R s m args below meth c T locs cells slots X hx hZ hown hby hml hLm hfr hlo hR
  obtain ⟨cl, A, hs⟩ := hR.2.2.2 i _ hi
  refine ⟨T, X, rfl, fun target k => X.arraylength hx A.1 (State.isArrayOf_alike hZ.alike A.2.1) (g := mkF m pc (arL G L) ((Value.ref i :: S).map (tr G))) rfl rfl (hb hby hd) target ?_⟩
  rw [arr_size hs]; exact k
theorem Ev.iaload {i : Nat} {xs : List Int32} {j v : Int32} (hd : decode (mB M) pc = .ok (.iaload, 1)) (hi : h[i]? = some (.inr (false, xs))) (hj : ¬ j < 0) (hv : xs[j.toNatClampNeg]? = some v) (hn : Ev G M (pc + 1) L (.int v :: S) h r) : Ev G M pc L (.int j :: .ref i :: S) h r := by
  refine Ev.same rfl hn ?_
  intro p e R s m args below meth c T locs cells slots X hx hZ hown hby hml hLm hfr hlo hR
  obtain ⟨cl, A, hs⟩ := hR.2.2.2 i _ hi
  have hlt := (List.getElem?_eq_some_iff.mp hv).1
  exact ⟨T, X, rfl, fun target k => X.iaload hx A.1 (State.isArrayOf_alike hZ.alike A.2.1) A.2.2 (fun q => q.elim hj fun q => absurd (arr_size hs ▸ q) (Nat.not_le.mpr hlt)) (by rw [get_arr hs, hv]; rfl) (g := mkF m pc (arL G L) ((Value.int j :: Value.ref i :: S).map (tr G))) rfl rfl (hb hby hd) target k⟩
theorem Ev.baload {i : Nat} {xs : List Int32} {j v : Int32} (hd : decode (mB M) pc = .ok (.baload, 1)) (hi : h[i]? = some (.inr (true, xs))) (hj : ¬ j < 0) (hv : xs[j.toNatClampNeg]? = some v) (hn : Ev G M (pc + 1) L (.int v :: S) h r) : Ev G M pc L (.int j :: .ref i :: S) h r := by
  refine Ev.same rfl hn ?_
  intro p e R s m args below meth c T locs cells slots X hx hZ hown hby hml hLm hfr hlo hR
  obtain ⟨cl, A, hs⟩ := hR.2.2.2 i _ hi
  have hlt := (List.getElem?_eq_some_iff.mp hv).1
  exact ⟨T, X, rfl, fun target k => X.baloadBooleans hx A.1 (State.isArrayOf_alike hZ.alike A.2.1) A.2.2 (fun q => q.elim hj fun q => absurd (arr_size hs ▸ q) (Nat.not_le.mpr hlt)) (by rw [get_arr hs, hv]; rfl) (g := mkF m pc (arL G L) ((Value.int j :: Value.ref i :: S).map (tr G))) rfl rfl (hb hby hd) target k⟩
theorem Ev.iastore {i : Nat} {xs : List Int32} {j v : Int32} (hd : decode (mB M) pc = .ok (.iastore, 1)) (hk : k0 G ≤ i) (hi : h[i]? = some (.inr (false, xs))) (hj : ¬ j < 0) (hlt : j.toNatClampNeg < xs.length) (hn : Ev G M (pc + 1) L S (h.set i (.inr (false, xs.set j.toNatClampNeg v))) r) : Ev G M pc L (.int v :: .int j :: .ref i :: S) h r := by
  have hs := hsl_set (gK G) h i (.inr (false, xs)) (.inr (false, xs.set j.toNatClampNeg v)) hi (by simp [csl])
  refine Ev.gen (by rw [List.length_set]; exact Nat.le_refl _) (by rw [hs]; exact Nat.le_refl _) rfl hn ?_
  intro p e R s m args below meth c T locs cells slots X hx hZ hown hby hml hnm hLm hfr hlo hsz hR hFr hc hsq
  obtain ⟨cl, A, hsz'⟩ := hR.2.2.2 i _ hi
  obtain ⟨T', h', X', eT', W, st⟩ := stI X hx hZ rfl A (j := j) (x := v) (fun q => q.elim hj fun q => absurd (arr_size hsz' ▸ q) (Nat.not_le.mpr hlt)) (g := mkF m pc (arL G L) ((Value.int v :: Value.int j :: Value.ref i :: S).map (tr G))) rfl rfl (hb hby hd)
  refine ⟨T', _, ?_, ?_, Fr.snoc X' hFr (rho_ge hk), st⟩
  · rw [hs, List.length_set, Nat.sub_self, Nat.sub_self, Nat.add_zero, Nat.add_zero]; exact X'
  · rw [eT']; exact hR.wrArr hi W
theorem Ev.bastore {i : Nat} {xs : List Int32} {j v : Int32} (hd : decode (mB M) pc = .ok (.bastore, 1)) (hk : k0 G ≤ i) (hi : h[i]? = some (.inr (true, xs))) (hj : ¬ j < 0) (hlt : j.toNatClampNeg < xs.length) (hn : Ev G M (pc + 1) L S (h.set i (.inr (true, xs.set j.toNatClampNeg (v &&& 1)))) r) : Ev G M pc L (.int v :: .int j :: .ref i :: S) h r := by
  have hs := hsl_set (gK G) h i (.inr (true, xs)) (.inr (true, xs.set j.toNatClampNeg (v &&& 1))) hi (by simp [csl])
  refine Ev.gen (by rw [List.length_set]; exact Nat.le_refl _) (by rw [hs]; exact Nat.le_refl _) rfl hn ?_
  intro p e R s m args below meth c T locs cells slots X hx hZ hown hby hml hnm hLm hfr hlo hsz hR hFr hc hsq
  obtain ⟨cl, A, hsz'⟩ := hR.2.2.2 i _ hi
  obtain ⟨T', h', X', eT', W, st⟩ := stZ X hx hZ rfl A (j := j) (x := v) (fun q => q.elim hj fun q => absurd (arr_size hsz' ▸ q) (Nat.not_le.mpr hlt)) (g := mkF m pc (arL G L) ((Value.int v :: Value.int j :: Value.ref i :: S).map (tr G))) rfl rfl (hb hby hd)
  refine ⟨T', _, ?_, ?_, Fr.snoc X' hFr (rho_ge hk), st⟩
  · rw [hs, List.length_set, Nat.sub_self, Nat.sub_self, Nat.add_zero, Nat.add_zero]; exact X'
  · rw [eT']; exact hR.wrArr hi W
/-! ### making -/
theorem Ev.new {idx : Nat} {fs : List Value} (K : GOk G) (w : (Jvm.Cond.classLink (mN M).cls idx (gC G)).before (gA G) (gZ G) = true) (hd : decode (mB M) pc = .ok (.new idx, 3)) (hf : fs = (gF G).map fun f => defaultValue f.2.2)
    (hn : Ev G M (pc + 3) L (.ref h.length :: S) (h ++ [.inl fs]) r) : Ev G M pc L S h r := by
  subst hf
  have hs := hsl_push (gK G) h (.inl ((gF G).map fun f => defaultValue f.2.2))
  refine Ev.gen (by simp) (by rw [hs]; exact Nat.le_add_right _ _) rfl hn ?_
  intro p e R s m args below meth c T locs cells slots X hx hZ hown hby hml hnm hLm hfr hlo hsz hR hFr hc hsq
  have el : (h ++ [(.inl ((gF G).map fun f => defaultValue f.2.2) : MCell)]).length - h.length = 1 := by simp
  have es : hsl (gK G) (h ++ [.inl ((gF G).map fun f => defaultValue f.2.2)]) - hsl (gK G) h = gK G := by rw [hs]; simp [csl]
  rw [el] at hc
  rw [es] at hsq
  obtain ⟨T', h', X', eT', E, A, D, -, st⟩ := newO X hx hZ hown w K.2.2.1 K.2.2.2 rfl (g := mkF m pc (arL G L) (S.map (tr G))) rfl (hb hby hd) hc hsq
  rw [el, es]
  have hrho : rho G h.length = T.heap.size := by rw [rho_new hR.2.1]; have := hR.1; have := hR.2.1; omega
  refine ⟨T', _, X', ?_, hFr, fun target k => st target ?_⟩
  · rw [eT']
    refine hR.push E ?_ ⟨A, by simp, fun j n d ty v hf hv => ?_⟩
    · have h1 := X'.heapSize
      have h2 : T.heap.size < h'.size := A.lt
      rw [eT'] at h1
      omega
    · rw [List.getElem?_map, hf] at hv
      cases hv
      have := D (K.1 j n d ty hf).1 (K.1 j n d ty hf).2
      have e : tr G (defaultValue ty) = defaultValue ty := by cases ty <;> rfl
      rw [e]; exact this
  · rw [← hrho]; exact k
theorem Ev.newarray {aty : ArrayType} {b : Bool} {n : Int32} {k : Nat} (w : (Jvm.Cond.arrayClass (newarray.typeOf aty)).before (gA G) (gZ G) = true) (hb' : newarray.typeOf aty = kd b) (hd : decode (mB M) pc = .ok (.newarray aty, 2)) (hn0 : ¬ n < 0) (hk : n.toNatClampNeg = k) (hcap : k ≤ 67108864)
    (hn : Ev G M (pc + 2) L (.ref h.length :: S) (h ++ [.inr (b, List.replicate k 0)]) r) : Ev G M pc L (.int n :: S) h r := by
  subst hk
  have hs := hsl_push (gK G) h (.inr (b, List.replicate n.toNatClampNeg 0))
  refine Ev.gen (by simp) (by rw [hs]; exact Nat.le_add_right _ _) rfl hn ?_
  intro p e R s m args below meth c T locs cells slots X hx hZ hown hby hml hnm hLm hfr hlo hsz hR hFr hc hsq
  have el : (h ++ [(.inr (b, List.replicate n.toNatClampNeg 0) : MCell)]).length - h.length = 1 := by simp
  have es : hsl (gK G) (h ++ [.inr (b, List.replicate n.toNatClampNeg 0)]) - hsl (gK G) h = n.toNatClampNeg := by rw [hs]; simp [csl]
  rw [el] at hc
  rw [es] at hsq
  obtain ⟨T', h', cA, X', eT', E, A, st⟩ := newP X hx hZ w rfl (g := mkF m pc (arL G L) ((Value.int n :: S).map (tr G))) rfl (hb hby hd) rfl hn0 (cap := n.toNatClampNeg) (Nat.le_refl _) (by omega) hc hsq
  rw [el, es]
  have hrho : rho G h.length = T.heap.size := by rw [rho_new hR.2.1]; have := hR.1; have := hR.2.1; omega
  refine ⟨T', _, X', ?_, hFr, fun target k => st target ?_⟩
  · rw [eT']
    refine hR.push E ?_ ⟨_, hb' ▸ A, ?_⟩
    · have h1 := X'.heapSize
      have h2 : T.heap.size < h'.size := A.lt
      rw [eT'] at h1
      omega
    · have e0 : defaultValue (kd b) = .int 0 := by cases b <;> rfl
      show Array.replicate n.toNatClampNeg (defaultValue (kd b)) = _
      rw [e0]
      simp
  · rw [← hrho]; exact k
theorem Ev.initO {idx i : Nat} (w1 : (Jvm.Cond.methodLink (mN M).cls idx Lib.objectInit).before (gA G) (gZ G) = true) (w2 : (Jvm.Cond.instanceMethod Lib.objectInit).before (gA G) (gZ G) = true) (w3 : (Jvm.Cond.code Lib.objectInit ⟨#[0xb1]⟩ 1 none).before (gA G) (gZ G) = true)
    (hd : decode (mB M) pc = .ok (.invokespecial idx, 3)) (hf : 1 ≤ mF M) (hl : (S.map fun v => v.category).sum + 12 ≤ mW M) (hn : Ev G M (pc + 3) L S h r) : Ev G M pc L (.ref i :: S) h r := by
  refine Ev.same rfl hn ?_
  intro p e R s m args below meth c T locs cells slots X hx hZ hown hby hml hLm hfr hlo hR
  obtain ⟨T', X', e', st⟩ := RoadKit.initO X hx hZ hown w1 w2 w3 rfl (g := mkF m pc (arL G L) ((Value.ref i :: S).map (tr G))) rfl (by rw [hml, ← hLm]; simp [arL]) (a := rho G i) (rest := S.map (tr G)) rfl (hb hby hd) (Nat.le_trans hf hfr) (W := (S.map fun v => v.category).sum) (by rw [tr_cats]; show 2 * 0 + _ ≤ _; omega) (by omega)
  exact ⟨T', X', e', st⟩
/-! ### calls -/
def notMH (y : Mi) : Prop := (mN y).cls ≠ "java/lang/invoke/MethodHandle" ∧ (mN y).cls ≠ "java/lang/invoke/VarHandle"
theorem mapRev (G : Ctx) (args : List Value) : (args.reverse).map (tr G) = (args.map (tr G)).reverse := by simp
theorem vList (G : Ctx) (v : Option Value) (S : List Value) : (v.map (tr G)).toList ++ S.map (tr G) = (v.toList ++ S).map (tr G) := by cases v <;> simp
theorem back_of_evc {p : Program} {e : Env} {R : Room} {s : State} {args0 : Array Value} {below : List Frame} {y : Mi} {args : List Value} {r1 : Option Value × MHeap} {hr : Heap} {W : Nat} (hC : EvC G y args h r1) (hR : Rel G hr h) (hZ : (gZ G).Warmed39 s.vm)
    (wc : (Jvm.Cond.code (mN y) (mB y) (mL y) (mR y)).before (gA G) (gZ G) = true) (wz : (Jvm.Cond.initialized (mN y).cls).before (gA G) (gZ G) = true) (hf : mF y + 1 ≤ R.frames) (hl : W + (mL y + 11) + mW y ≤ R.locals) :
    Back (gL G) R p e below s args0 (mN y) 3 W (fun A a => a = (args.map (tr G)).toArray ∧ A.U.heap = hr ∧ A.cells + (r1.2.length - h.length) ≤ R.cells ∧ A.slots + (hsl (gK G) r1.2 - hsl (gK G) h) ≤ R.slots)
      (fun A _ v B => ∃ L, (v = r1.1.map (tr G) ∧ Fr (gN G) L ∧ Rel G B.U.heap r1.2) ∧ B.locs = A.locs ++ L ∧ B.cells = A.cells + (r1.2.length - h.length) ∧ B.slots = A.slots + (hsl (gK G) r1.2 - hsl (gK G) h)) :=
  backOf (Q := fun v hp L => v = r1.1.map (tr G) ∧ Fr (gN G) L ∧ Rel G hp r1.2) (rm := { frames := mF y, cells := r1.2.length - h.length, slots := hsl (gK G) r1.2 - hsl (gK G) h, locals := mW y })
    (hC.2 [] { frames := mF y, cells := r1.2.length - h.length, slots := hsl (gK G) r1.2 - hsl (gK G) h, locals := mW y } hr (Nat.le_refl _) (Nat.le_refl _) (Nat.le_refl _) (Nat.le_refl _) hR) hZ wc wz hf hl
/-- a private method of the class -/
theorem Ev.priv {y : Mi} {idx i : Nat} {args rest : List Value} {v : Option Value} {h1 : MHeap} {fs : List Value} (K : GOk G) (hcls : (mN y).cls = gC G) (hy : notMH y)
    (wl : (Jvm.Cond.methodLink (mN M).cls idx (mN y)).before (gA G) (gZ G) = true) (wi : (Jvm.Cond.instanceMethod (mN y)).before (gA G) (gZ G) = true) (wp : (Jvm.Cond.privateMethod (mN y)).before (gA G) (gZ G) = true)
    (wc : (Jvm.Cond.code (mN y) (mB y) (mL y) (mR y)).before (gA G) (gZ G) = true) (hlen : ∀ sig, parseMethodDescriptor (mN y).desc = some sig → args.length = sig.parameters.length)
    (hd : decode (mB M) pc = .ok (.invokevirtual idx, 3)) (hi : h[i]? = some (.inl fs)) (hC : EvC G y (.ref i :: args) h (v, h1)) (hfr : mF y + 1 ≤ mF M) (hlo : (rest.map fun v => v.category).sum + (mL y + 11) + mW y ≤ mW M)
    (hS : S = args.reverse ++ .ref i :: rest) (hn : Ev G M (pc + 3) L (v.toList ++ rest) h1 r) : Ev G M pc L S h r := by
  subst hS
  refine Ev.gen hC.1.1 hC.1.2 rfl hn ?_
  intro p e R s m args0 below meth c T locs cells slots X hx hZ hown hby hml hnm hLm hfr' hlo' hsz hR hFr hc hsq
  obtain ⟨e1, -, -⟩ := hR.2.2.2 i _ hi
  obtain ⟨cell, hcell, hobj⟩ := e1.cell
  have hwi : (Jvm.Cond.instanceMethod (mN y)).before args0 s = true := mvT hZ wi
  have hpr := Jvm.Cond.privateMethod_at (mvP hZ wp (args := #[]))
  have hsel : (Jvm.Cond.selects (mN y).cls (mN y) (mN y)).before args0 s = true := by
    obtain ⟨c0, k0', q1, q2, -, q4, -⟩ := Jvm.Cond.instantiable_spec (mvT hZ K.2.2.1 (args := #[]) (s := s))
    refine selects_self_of_private (c := c0) (k := k0') (by rw [hcls]; exact q1) q2 ?_ hpr hwi hy
    simp only [Bool.or_eq_false_iff] at q4
    exact q4.1
  obtain ⟨v', vm1, ⟨T', L', k', n'⟩, -, X', ⟨Lc, ⟨rfl, hF', hR'⟩, l1, l2, l3⟩, st⟩ := X.privateBack hx (y := mN y) hown (mvT hZ wl) hwi hsel hpr (mvT hZ wc) hy
    (back_of_evc (W := (rest.map fun v => v.category).sum) hC hR hZ wc (hcls ▸ K.2.2.2) (Nat.le_trans hfr hfr') (Nat.le_trans hlo hlo')) (g := mkF m pc (arL G L) ((args.reverse ++ Value.ref i :: rest).map (tr G))) rfl (by rw [hml, ← hLm]; simp [arL]) (Steps.refl _) hcell hobj
    (argsL := args.map (tr G)) (rest := rest.map (tr G)) (fun sig hsig => by rw [List.length_map]; exact hlen sig hsig) (by simp [tr]) (by rw [tr_cats]; show 2 * 0 + _ ≤ _; omega) (hb hby hd) (fun vm1 hW1 => ⟨rfl, rfl, hc, hsq⟩)
  dsimp only [Pt.U, Pt.locs, Pt.cells, Pt.slots] at X' l1 l2 l3 st hR'
  subst l1 l2 l3
  refine ⟨T', _, X', hR', hFr.app hF', fun target k => st.trans ?_⟩
  rw [vList]
  exact k
/-- a method of the class that no one overrides -/
theorem Ev.virt {y : Mi} {idx i : Nat} {args rest : List Value} {v : Option Value} {h1 : MHeap} {fs : List Value} (K : GOk G) (hcls : (mN y).cls = gC G) (hy : notMH y)
    (wl : (Jvm.Cond.methodLink (mN M).cls idx (mN y)).before (gA G) (gZ G) = true) (wd : (Jvm.Cond.declares (mN y)).before (gA G) (gZ G) = true) (wi : (Jvm.Cond.instanceMethod (mN y)).before (gA G) (gZ G) = true) (ws : (Jvm.Cond.selects (gC G) (mN y) (mN y)).before (gA G) (gZ G) = true)
    (wc : (Jvm.Cond.code (mN y) (mB y) (mL y) (mR y)).before (gA G) (gZ G) = true) (hlen : ∀ sig, parseMethodDescriptor (mN y).desc = some sig → args.length = sig.parameters.length)
    (hd : decode (mB M) pc = .ok (.invokevirtual idx, 3)) (hi : h[i]? = some (.inl fs)) (hC : EvC G y (.ref i :: args) h (v, h1)) (hfr : mF y + 1 ≤ mF M) (hlo : (rest.map fun v => v.category).sum + (mL y + 11) + mW y ≤ mW M)
    (hS : S = args.reverse ++ .ref i :: rest) (hn : Ev G M (pc + 3) L (v.toList ++ rest) h1 r) : Ev G M pc L S h r := by
  subst hS
  refine Ev.gen hC.1.1 hC.1.2 rfl hn ?_
  intro p e R s m args0 below meth c T locs cells slots X hx hZ hown hby hml hnm hLm hfr' hlo' hsz hR hFr hc hsq
  obtain ⟨e1, -, -⟩ := hR.2.2.2 i _ hi
  obtain ⟨cq, kq, qa, qb, qc⟩ := isOf (T := T) hZ rfl e1
  obtain ⟨v', vm1, ⟨T', L', k', n'⟩, -, X', ⟨Lc, ⟨rfl, hF', hR'⟩, l1, l2, l3⟩, st⟩ := X.virtualBack hx (y := mN y) (z := mN y) hown (mvT hZ wl) (mvT hZ wd) (notFace_of_selects (args := #[]) (mvT hZ ws)) (mvT hZ ws) (mvT hZ wi) hy
    (back_of_evc (W := (rest.map fun v => v.category).sum) hC hR hZ wc (hcls ▸ K.2.2.2) (Nat.le_trans hfr hfr') (Nat.le_trans hlo hlo')) qa qc (g := mkF m pc (arL G L) ((args.reverse ++ Value.ref i :: rest).map (tr G))) rfl (by rw [hml, ← hLm]; simp [arL]) (Steps.refl _)
    (argsL := args.map (tr G)) (rest := rest.map (tr G)) (fun sig hsig => by rw [List.length_map]; exact hlen sig hsig) (by simp [tr]) (by rw [tr_cats]; show 2 * 0 + _ ≤ _; omega) (hb hby hd) (fun vm1 hW1 => ⟨rfl, rfl, hc, hsq⟩)
  dsimp only [Pt.U, Pt.locs, Pt.cells, Pt.slots] at X' l1 l2 l3 st hR'
  subst l1 l2 l3
  refine ⟨T', _, X', hR', hFr.app hF', fun target k => st.trans ?_⟩
  rw [vList]
  exact k
/-- a constructor -/
theorem Ev.ctor {y : Mi} {idx i : Nat} {args rest : List Value} {v : Option Value} {h1 : MHeap} (hy1 : (mN y).name = "<init>") (hret : mR y = none) (hy : notMH y)
    (wl : (Jvm.Cond.methodLink (mN M).cls idx (mN y)).before (gA G) (gZ G) = true) (wi : (Jvm.Cond.instanceMethod (mN y)).before (gA G) (gZ G) = true)
    (wc : (Jvm.Cond.code (mN y) (mB y) (mL y) (mR y)).before (gA G) (gZ G) = true) (wz : (Jvm.Cond.initialized (mN y).cls).before (gA G) (gZ G) = true) (hlen : ∀ sig, parseMethodDescriptor (mN y).desc = some sig → args.length = sig.parameters.length)
    (hd : decode (mB M) pc = .ok (.invokespecial idx, 3)) (hC : EvC G y (.ref i :: args) h (v, h1)) (hfr : mF y + 1 ≤ mF M) (hlo : (rest.map fun v => v.category).sum + (mL y + 11) + mW y ≤ mW M)
    (hS : S = args.reverse ++ .ref i :: rest) (hn : Ev G M (pc + 3) L (v.toList ++ rest) h1 r) : Ev G M pc L S h r := by
  subst hS
  refine Ev.gen hC.1.1 hC.1.2 rfl hn ?_
  intro p e R s m args0 below meth c T locs cells slots X hx hZ hown hby hml hnm hLm hfr' hlo' hsz hR hFr hc hsq
  obtain ⟨v', vm1, ⟨T', L', k', n'⟩, -, X', ⟨Lc, ⟨rfl, hF', hR'⟩, l1, l2, l3⟩, st⟩ := X.specialBack hx (y := mN y) hy1 hown (mvT hZ wl) (mvT hZ wi) (mvT hZ (hret ▸ wc)) hy
    (back_of_evc (W := (rest.map fun v => v.category).sum) hC hR hZ wc wz (Nat.le_trans hfr hfr') (Nat.le_trans hlo hlo')) (g := mkF m pc (arL G L) ((args.reverse ++ Value.ref i :: rest).map (tr G))) rfl (by rw [hml, ← hLm]; simp [arL]) (Steps.refl _)
    (a := rho G i) (argsL := args.map (tr G)) (rest := rest.map (tr G)) (fun sig hsig => by rw [List.length_map]; exact hlen sig hsig) (by simp [tr]) (by rw [tr_cats]; show 2 * 0 + _ ≤ _; omega) (hb hby hd) (fun vm1 hW1 => ⟨rfl, rfl, hc, hsq⟩)
  dsimp only [Pt.U, Pt.locs, Pt.cells, Pt.slots] at X' l1 l2 l3 st hR'
  subst l1 l2 l3
  refine ⟨T', _, X', hR', hFr.app hF', fun target k => st.trans ?_⟩
  rw [vList]
  exact k
/-- a static method -/
theorem Ev.stat {y : Mi} {idx : Nat} {args rest : List Value} {v : Option Value} {h1 : MHeap} (hy : notMH y)
    (wl : (Jvm.Cond.methodLink (mN M).cls idx (mN y)).before (gA G) (gZ G) = true) (wst : (Jvm.Cond.static (mN y)).before (gA G) (gZ G) = true) (wz : (Jvm.Cond.initialized (mN y).cls).before (gA G) (gZ G) = true)
    (wc : (Jvm.Cond.code (mN y) (mB y) (mL y) (mR y)).before (gA G) (gZ G) = true) (hlen : ∀ sig, parseMethodDescriptor (mN y).desc = some sig → args.length = sig.parameters.length)
    (hd : decode (mB M) pc = .ok (.invokestatic idx, 3)) (hC : EvC G y args h (v, h1)) (hfr : mF y + 1 ≤ mF M) (hlo : (rest.map fun v => v.category).sum + (mL y + 11) + mW y ≤ mW M)
    (hS : S = args.reverse ++ rest) (hn : Ev G M (pc + 3) L (v.toList ++ rest) h1 r) : Ev G M pc L S h r := by
  subst hS
  refine Ev.gen hC.1.1 hC.1.2 rfl hn ?_
  intro p e R s m args0 below meth c T locs cells slots X hx hZ hown hby hml hnm hLm hfr' hlo' hsz hR hFr hc hsq
  obtain ⟨v', vm1, ⟨T', L', k', n'⟩, -, X', ⟨Lc, ⟨rfl, hF', hR'⟩, l1, l2, l3⟩, st⟩ := Jvm.LawKit.callS X hx (y := mN y) hown (mvT hZ wl) (mvT hZ wst) (mvT hZ wz) (mvT hZ wc) hy
    (back_of_evc (W := (rest.map fun v => v.category).sum) hC hR hZ wc wz (Nat.le_trans hfr hfr') (Nat.le_trans hlo hlo')) (g := mkF m pc (arL G L) ((args.reverse ++ rest).map (tr G))) rfl (by rw [hml, ← hLm]; simp [arL])
    (argsL := args.map (tr G)) (rest := rest.map (tr G)) (fun sig hsig => by rw [List.length_map]; exact hlen sig hsig) (by simp) (by rw [tr_cats]; show 2 * 0 + _ ≤ _; omega) (hb hby hd) (fun vm1 hW1 => ⟨rfl, rfl, hc, hsq⟩)
  dsimp only [Pt.U, Pt.locs, Pt.cells, Pt.slots] at X' l1 l2 l3 st hR'
  subst l1 l2 l3
  refine ⟨T', _, X', hR', hFr.app hF', fun target k => st target ?_⟩
  rw [vList]
  exact k
/-! ### returns -/
theorem Ev.ret {v : Option Value} (st : ∀ {p : Program} {e : Env} {R : Room} {s : State} {m : MethodId} {args : Array Value} {below : List Frame} {meth : Method} {c : Code} {T : State} {locs : List Loc} {cells slots : Nat},
      Stand p (gL G) e R s m args below meth c T locs cells slots → p.tables.exec = Jvm.exec → c.code = mB M → meth.sig.returnType = mR M → ∀ fs,
      (∀ (f : JFrame) (acts : List Action), f.method = m → f.locked = none → f.entered = [] → (doReturn e (T.setTop f) acts (v.map (tr G))).1 = T.setFrames fs) → Steps p.tables e below (T.setTop (mkF m pc (arL G L) (S.map (tr G)))) (T.setFrames fs)) :
    Ev G M pc L S h (v, h) := by
  refine ⟨⟨Nat.le_refl _, Nat.le_refl _⟩, ?_⟩
  intro p e R s m args below meth c T locs cells slots X hx hZ hown hby hml hret hnm hLm hfr hlo hsz hR hF hc hs
  refine ⟨T, locs, ?_, hR, hF, st X hx hby hret⟩
  rw [Nat.sub_self, Nat.sub_self, Nat.add_zero, Nat.add_zero]
  exact X
theorem Ev.ireturn {z : Int32} (hret : mR M = some .int) (hd : decode (mB M) pc = .ok (.ireturn, 1)) : Ev G M pc L (.int z :: S) h (some (.int z), h) :=
  Ev.ret fun X hx hby hr fs hl => retOut X hx (hr.trans hret) rfl (Or.inl ⟨rfl, Or.inl rfl, z, rfl⟩) (hb hby hd) hl
theorem Ev.zreturn {z : Int32} (hret : mR M = some .boolean) (hd : decode (mB M) pc = .ok (.ireturn, 1)) : Ev G M pc L (.int z :: S) h (some (.int (z &&& 1)), h) :=
  Ev.ret fun X hx hby hr fs hl => retN X hx (t := .boolean) (hr.trans hret) (Or.inl rfl) (hb hby hd) hl
theorem Ev.lreturn {z : Int64} (hret : mR M = some .long) (hd : decode (mB M) pc = .ok (.lreturn, 1)) : Ev G M pc L (.long z :: S) h (some (.long z), h) :=
  Ev.ret fun X hx hby hr fs hl => retOut X hx (hr.trans hret) rfl (Or.inr (Or.inl ⟨rfl, rfl, z, rfl⟩)) (hb hby hd) hl
theorem Ev.vreturn (hret : mR M = none) (hd : decode (mB M) pc = .ok (.return_, 1)) : Ev G M pc L [] h (none, h) :=
  Ev.ret fun X hx hby hr fs hl => X.returnOut hx (hr.trans hret) (hb hby hd) hl
/-! ### entering -/
def margs : List Value → List Slot
  | [] => []
  | v :: vs => if v.category = 2 then .val v :: .second :: margs vs else .val v :: margs vs
theorem margs_fold (vs : List Value) : ∀ acc : Array Slot, vs.foldl (init := acc) (fun acc v => if v.category = 2 then (acc.push (.val v)).push .second else acc.push (.val v)) = acc ++ (margs vs).toArray := by
  induction vs with
  | nil => intro acc; simp [margs]
  | cons v vs ih =>
    intro acc
    rw [List.foldl_cons, ih]
    by_cases h : v.category = 2
    · simp [margs, h]
    · simp [margs, h]
theorem margs_map (G : Ctx) : ∀ vs : List Value, margs (vs.map (tr G)) = (margs vs).map (trS G)
  | [] => rfl
  | v :: vs => by
    have ih := margs_map G vs
    by_cases h : v.category = 2
    · simp only [List.map_cons, margs, tr_cat, h, if_true, ih]; rfl
    · simp only [List.map_cons, margs, tr_cat, h, if_false, ih]; rfl
def ment (args : List Value) (k : Nat) : List Slot := margs args ++ List.replicate (k - (margs args).length) .unset
theorem entry_eq (G : Ctx) (m : MethodId) (args : List Value) (k : Nat) : entryFrame m (args.map (tr G)).toArray k = mkF m 0 (arL G (ment args k)) [] := by
  have e : argsToLocals (args.map (tr G)).toArray k = arL G (ment args k) := by
    unfold argsToLocals arL ment
    have q := margs_fold (args.map (tr G)) #[]
    rw [List.foldl_toArray']
    · rw [q, margs_map]
      simp [trS]
    · simp
  unfold entryFrame
  rw [e]
theorem EvC.enter {y : Mi} {args : List Value} {L0 : List Slot} (hp : plainFor (mN y) = true) (hv : mR y = none → r.1 = none) (hL : ment args (mL y) = L0) (hlen : L0.length = mL y) (hn : Ev G y 0 L0 [] h r) : EvC G y args h r := by
  subst hL
  refine ⟨hn.1, fun ws R hr hf hl hc hs hR => ?_⟩
  refine MetFree.of_bodySF hp hisR ?_
  intro p e s m args' below meth c s₁ Bd hml0 hP hK
  obtain ⟨rfl, hZ, hh⟩ := hP
  have X0 : Stand p (gL G) e R s m _ below meth c s₁ [] 0 0 := Stand.of_body Bd
  have e0 : s₁.heap = hr := by rw [← hh, Bd.state]; rfl
  obtain ⟨T', locs', X', R', F', st⟩ := hn.2 p e R s m _ below meth c s₁ [] 0 0 X0 Bd.exec hZ (findClass_of_methodNamed Bd.named) Bd.bytes hml0 Bd.returns (name_of_methodNamed Bd.named Bd.method).1 hlen hf hl (by rw [e0, hh]; rfl) (by rw [e0]; exact hR) (Fr.nil _) (by omega) (by omega)
  rw [Nat.zero_add, Nat.zero_add] at X'
  obtain ⟨fs, hret, hrun, hended, hW, hsame⟩ := X'.leave (v := r.1.map (tr G)) (fun q => by rw [hv (Bd.returns.symm.trans q)]; rfl)
  refine ⟨_, _, castTop (entry_eq G m args (mL y)) (st fs hret), hrun, hended, _, _, rfl, ⟨rfl, F', ?_⟩, ⟨_, rfl⟩, hW, hsame⟩
  exact R'
end Rules
end Jvm.Own
namespace Jvm.Own
open Sem ClassFile Op Lib Jvm.Stand Jvm.Free Jvm.LawKit Jvm.RoadKit
/-! ## 4. An object as two functions: its ints by the field's number, its arrays by the field's number and the place -/
abbrev St := (Nat → Int32) × (Nat → Nat → Int32)
def setI (s : St) (j : Nat) (z : Int32) : St := (fun k => if k = j then z else s.1 k, s.2)
def setA (s : St) (j i : Nat) (z : Int32) : St := (s.1, fun k x => if k = j ∧ x = i then z else s.2 k x)
def zeroS : St := (fun _ => 0, fun _ _ => 0)
theorem setI_1 (s : St) (j : Nat) (z : Int32) (k : Nat) : (setI s j z).1 k = if k = j then z else s.1 k := rfl
theorem setI_2 (s : St) (j : Nat) (z : Int32) : (setI s j z).2 = s.2 := rfl
theorem setA_1 (s : St) (j i : Nat) (z : Int32) : (setA s j i z).1 = s.1 := rfl
theorem setA_2 (s : St) (j i : Nat) (z : Int32) (k x : Nat) : (setA s j i z).2 k x = if k = j ∧ x = i then z else s.2 k x := rfl
def ix (j : Int32) : Nat := j.toNatClampNeg
/-- the place j lies in an array of n -/
def inb (j : Int32) (n : Nat) : Prop := ¬ j < 0 ∧ ix j < n
instance (j : Int32) (n : Nat) : Decidable (inb j n) := inferInstanceAs (Decidable (_ ∧ _))
def bnd {α β : Type} (x : α) (f : α → β) : β := f x
theorem bnd_eq {α β : Type} (x : α) (f : α → β) : bnd x f = f x := rfl
def tab (n : Nat) (f : Nat → Int32) : List Int32 := (List.range n).map f
theorem tab_len (n : Nat) (f : Nat → Int32) : (tab n f).length = n := by simp [tab]
theorem tab_get {n : Nat} {f : Nat → Int32} {i : Nat} (h : i < n) : (tab n f)[i]? = some (f i) := by simp [tab, h]
theorem tab_set {n : Nat} {f : Nat → Int32} {i : Nat} {z : Int32} : (tab n f).set i z = tab n (fun x => if x = i then z else f x) := by
  apply List.ext_getElem?
  intro k
  rw [List.getElem?_set]
  by_cases h : i = k
  · subst h
    by_cases q : i < n
    · simp [tab, q]
    · simp [tab, q]
  · by_cases q : k < n
    · simp [tab, q, h, Ne.symm h]
    · simp [tab, q, h]
theorem tab_zero (n : Nat) : tab n (fun _ => 0) = List.replicate n 0 := by
  apply List.ext_getElem?
  intro k
  by_cases q : k < n <;> simp [tab, q]
theorem tab_of (xs : List Int32) : xs = tab xs.length (fun i => xs.getD i 0) := by
  apply List.ext_getElem?
  intro k
  by_cases q : k < xs.length
  · simp [tab, q]
  · simp [tab, q]
def isA : FieldType → Bool
  | .array _ => true
  | _ => false
def isB : FieldType → Bool
  | .boolean => true
  | _ => false
def fv1 (r : Nat → Nat) (s : St) (j : Nat) (f : Fd) : Value := match f.2.2 with
  | .array _ => .ref (r j)
  | _ => .int (s.1 j)
def fvA (r : Nat → Nat) (s : St) : Nat → List Fd → List Value
  | _, [] => []
  | j, f :: fs => fv1 r s j f :: fvA r s (j + 1) fs
theorem fvA_get (r : Nat → Nat) (s : St) : ∀ (F : List Fd) (k j : Nat), (fvA r s k F)[j]? = (F[j]?).map (fv1 r s (k + j))
  | [], _, _ => by simp [fvA]
  | f :: fs, k, 0 => by simp [fvA]
  | f :: fs, k, j + 1 => by
    have := fvA_get r s fs (k + 1) j
    simp only [fvA, List.getElem?_cons_succ, this]
    rw [show k + 1 + j = k + (j + 1) by omega]
theorem fvA_len (r : Nat → Nat) (s : St) : ∀ (F : List Fd) (k : Nat), (fvA r s k F).length = F.length
  | [], _ => rfl
  | f :: fs, k => by simp [fvA, fvA_len r s fs (k + 1)]
theorem fvA_set {r : Nat → Nat} {s : St} {F : List Fd} {j : Nat} {f : Fd} {z : Int32} (hF : F[j]? = some f) (ht : isA f.2.2 = false) : (fvA r s 0 F).set j (.int z) = fvA r (setI s j z) 0 F := by
  apply List.ext_getElem?
  intro k
  rw [List.getElem?_set, fvA_get, fvA_get, Nat.zero_add]
  by_cases h : j = k
  · subst h
    simp only [if_true, fvA_len, (List.getElem?_eq_some_iff.mp hF).1, hF, Option.map_some]
    congr 1
    unfold fv1
    split
    · rename_i t e; rw [e] at ht; cases ht
    · simp [setI_1]
  · simp only [h, if_false]
    cases F[k]? with
    | none => rfl
    | some g =>
      simp only [Option.map_some]
      congr 1
      unfold fv1
      split
      · rfl
      · rw [setI_1, if_neg (Ne.symm h)]
theorem fvA_same (r : Nat → Nat) {s s' : St} (h : s.1 = s'.1) : ∀ (F : List Fd) (k : Nat), fvA r s k F = fvA r s' k F
  | [], _ => rfl
  | f :: fs, k => by
    simp only [fvA, fvA_same r h fs (k + 1)]
    congr 1
    unfold fv1
    split
    · rfl
    · rw [h]
/-- the heap K s shows the object at o, its arrays at r, as s tells -/
def View (G : Ctx) (Ln : Nat → Nat) (K : St → MHeap) (o : Nat) (r : Nat → Nat) : Prop :=
  k0 G ≤ o ∧ (∀ s, (K s)[o]? = some (.inl (fvA r s 0 (gF G)))) ∧
  (∀ s j f z, (gF G)[j]? = some f → isA f.2.2 = false → (K s).set o (.inl ((fvA r s 0 (gF G)).set j (.int z))) = K (setI s j z)) ∧
  (∀ j n d t, (gF G)[j]? = some (n, d, .array t) → k0 G ≤ r j ∧ (∀ s, (K s)[r j]? = some (.inr (isB t, tab (Ln j) (s.2 j)))) ∧ ∀ s i z, i < Ln j → (K s).set (r j) (.inr (isB t, (tab (Ln j) (s.2 j)).set i z)) = K (setA s j i z))
section ViewRules
variable {G : Ctx} {M : Mi} {pc : Nat} {L : List Slot} {S : List Value} {rr : Option Value × MHeap} {Ln : Nat → Nat} {K : St → MHeap} {o : Nat} {r : Nat → Nat} {s : St}
theorem Ev.gI {idx j : Nat} {n d : String} {ty : FieldType} (V : View G Ln K o r) (w : (Jvm.Cond.fieldLink (mN M).cls idx (gC G) n d).before (gA G) (gZ G) = true) (hd : decode (mB M) pc = .ok (.getfield idx, 3)) (hF : (gF G)[j]? = some (n, d, ty)) (ht : isA ty = false)
    (hn : Ev G M (pc + 3) L (.int (s.1 j) :: S) (K s) rr) : Ev G M pc L (.ref o :: S) (K s) rr :=
  Ev.getfield w hd hF (V.2.1 s) (v := .int (s.1 j)) (by rw [fvA_get, hF, Nat.zero_add]; simp only [Option.map_some, fv1]; cases ty <;> first | rfl | cases ht) hn
theorem Ev.gAr {idx j : Nat} {n d : String} {t : FieldType} (V : View G Ln K o r) (w : (Jvm.Cond.fieldLink (mN M).cls idx (gC G) n d).before (gA G) (gZ G) = true) (hd : decode (mB M) pc = .ok (.getfield idx, 3)) (hF : (gF G)[j]? = some (n, d, .array t))
    (hn : Ev G M (pc + 3) L (.ref (r j) :: S) (K s) rr) : Ev G M pc L (.ref o :: S) (K s) rr :=
  Ev.getfield w hd hF (V.2.1 s) (v := .ref (r j)) (by rw [fvA_get, hF, Nat.zero_add]; rfl) hn
theorem Ev.pI {idx j : Nat} {n d : String} {z : Int32} (V : View G Ln K o r) (Kk : GOk G) (w : (Jvm.Cond.fieldLink (mN M).cls idx (gC G) n d).before (gA G) (gZ G) = true)
    (wl : (Jvm.Cond.lays (gC G) (gC G) n d).before (gA G) (gZ G) = true ∨ ((Jvm.Cond.laysFinal (gC G) (gC G) n d).before (gA G) (gZ G) = true ∧ (mN M).cls = gC G ∧ (mN M).name = "<init>"))
    (hd : decode (mB M) pc = .ok (.putfield idx, 3)) (hF : (gF G)[j]? = some (n, d, .int)) (hn : Ev G M (pc + 3) L S (K (setI s j z)) rr) : Ev G M pc L (.int z :: .ref o :: S) (K s) rr := by
  refine Ev.putfield Kk w wl hd hF V.1 (V.2.1 s) (v' := .int z) rfl ?_
  rw [V.2.2.1 s j _ z hF rfl]; exact hn
theorem Ev.pZ {idx j : Nat} {n d : String} {z : Int32} (V : View G Ln K o r) (Kk : GOk G) (w : (Jvm.Cond.fieldLink (mN M).cls idx (gC G) n d).before (gA G) (gZ G) = true)
    (wl : (Jvm.Cond.lays (gC G) (gC G) n d).before (gA G) (gZ G) = true ∨ ((Jvm.Cond.laysFinal (gC G) (gC G) n d).before (gA G) (gZ G) = true ∧ (mN M).cls = gC G ∧ (mN M).name = "<init>"))
    (hd : decode (mB M) pc = .ok (.putfield idx, 3)) (hF : (gF G)[j]? = some (n, d, .boolean)) (hn : Ev G M (pc + 3) L S (K (setI s j (z &&& 1))) rr) : Ev G M pc L (.int z :: .ref o :: S) (K s) rr := by
  refine Ev.putfield Kk w wl hd hF V.1 (V.2.1 s) (v' := .int (z &&& 1)) rfl ?_
  rw [V.2.2.1 s j _ _ hF rfl]; exact hn
theorem Ev.ial {j : Nat} {n d : String} {i : Int32} {N : Nat} (V : View G Ln K o r) (hF : (gF G)[j]? = some (n, d, .array .int)) (hN : Ln j = N) (hd : decode (mB M) pc = .ok (.iaload, 1)) (hb : inb i N) (hn : Ev G M (pc + 1) L (.int (s.2 j (ix i)) :: S) (K s) rr) : Ev G M pc L (.int i :: .ref (r j) :: S) (K s) rr :=
  Ev.iaload hd ((V.2.2.2 j n d _ hF).2.1 s) hb.1 (tab_get (hN ▸ hb.2)) hn
theorem Ev.bal {j : Nat} {n d : String} {i : Int32} {N : Nat} (V : View G Ln K o r) (hF : (gF G)[j]? = some (n, d, .array .boolean)) (hN : Ln j = N) (hd : decode (mB M) pc = .ok (.baload, 1)) (hb : inb i N) (hn : Ev G M (pc + 1) L (.int (s.2 j (ix i)) :: S) (K s) rr) : Ev G M pc L (.int i :: .ref (r j) :: S) (K s) rr :=
  Ev.baload hd ((V.2.2.2 j n d _ hF).2.1 s) hb.1 (tab_get (hN ▸ hb.2)) hn
theorem Ev.ias {j : Nat} {n d : String} {i z : Int32} {N : Nat} (V : View G Ln K o r) (hF : (gF G)[j]? = some (n, d, .array .int)) (hN : Ln j = N) (hd : decode (mB M) pc = .ok (.iastore, 1)) (hb : inb i N) (hn : Ev G M (pc + 1) L S (K (setA s j (ix i) z)) rr) : Ev G M pc L (.int z :: .int i :: .ref (r j) :: S) (K s) rr := by
  obtain ⟨q1, q2, q3⟩ := V.2.2.2 j n d _ hF
  refine Ev.iastore hd q1 (q2 s) hb.1 (by rw [tab_len, hN]; exact hb.2) ?_
  have := q3 s (ix i) z (hN ▸ hb.2)
  exact this ▸ hn
theorem Ev.bas {j : Nat} {n d : String} {i z : Int32} {N : Nat} (V : View G Ln K o r) (hF : (gF G)[j]? = some (n, d, .array .boolean)) (hN : Ln j = N) (hd : decode (mB M) pc = .ok (.bastore, 1)) (hb : inb i N) (hn : Ev G M (pc + 1) L S (K (setA s j (ix i) (z &&& 1))) rr) : Ev G M pc L (.int z :: .int i :: .ref (r j) :: S) (K s) rr := by
  obtain ⟨q1, q2, q3⟩ := V.2.2.2 j n d _ hF
  refine Ev.bastore hd q1 (q2 s) hb.1 (by rw [tab_len, hN]; exact hb.2) ?_
  have := q3 s (ix i) (z &&& 1) (hN ▸ hb.2)
  exact this ▸ hn
theorem Ev.sal {h : MHeap} {i : Int32} {N k : Nat} {f : Nat → Int32} (hs : h[k]? = some (.inr (false, tab N f))) (hd : decode (mB M) pc = .ok (.iaload, 1)) (hb : inb i N) (hn : Ev G M (pc + 1) L (.int (f (ix i)) :: S) h rr) : Ev G M pc L (.int i :: .ref k :: S) h rr :=
  Ev.iaload hd hs hb.1 (tab_get hb.2) hn
theorem Ev.sln {h : MHeap} {N k : Nat} {f : Nat → Int32} (hs : h[k]? = some (.inr (false, tab N f))) (hd : decode (mB M) pc = .ok (.arraylength, 1)) (hn : Ev G M (pc + 1) L (.int N.toInt32 :: S) h rr) : Ev G M pc L (.ref k :: S) h rr :=
  Ev.arraylength hd hs (by rw [tab_len]; exact hn)
theorem Ev.zret1 {h : MHeap} (hret : mR M = some .boolean) (hd : decode (mB M) pc = .ok (.ireturn, 1)) : Ev G M pc L (.int 1 :: S) h (some (.int 1), h) := Ev.zreturn hret hd
theorem Ev.zret0 {h : MHeap} (hret : mR M = some .boolean) (hd : decode (mB M) pc = .ok (.ireturn, 1)) : Ev G M pc L (.int 0 :: S) h (some (.int 0), h) := Ev.zreturn hret hd
/-- a slot over which an int may be stored at once -/
def one1 : Slot → Bool
  | .unset => true
  | .val v => v.category == 1
  | .second => false
theorem mst_one {l : List Slot} {i : Nat} {v : Value} {o : Slot} (ho : l[i]? = some o) (h1 : one1 o = true) (hv : v.category = 1) : mst l i v = some (l.set i (.val v)) := by
  have hlt := (List.getElem?_eq_some_iff.mp ho).1
  have e : lstoreSelf l i v = some (l.set i (.val v)) := by simp [lstoreSelf, lsetAt, hlt, hv]
  unfold mst
  rw [ho]
  cases o with
  | unset => exact e
  | second => cases h1
  | val w =>
    have : w.category = 1 := by simpa [one1] using h1
    simp only [this]
    exact e
theorem Ev.istD {k : Nat} {v : Int32} {L' : List Slot} {o : Slot} {h : MHeap} (hd : decode (mB M) pc = .ok (.istore k, 2)) (ho : L[k]? = some o) (h1 : one1 o = true) (hl : L.set k (.val (.int v)) = L') (hn : Ev G M (pc + 2) L' S h rr) : Ev G M pc L (.int v :: S) h rr :=
  Ev.istore hd (by rw [mst_one ho h1 rfl, hl]) hn
theorem Ev.istDN {k : Fin 4} {v : Int32} {L' : List Slot} {o : Slot} {h : MHeap} (hd : decode (mB M) pc = .ok (.istore_n k, 1)) (ho : L[k.val]? = some o) (h1 : one1 o = true) (hl : L.set k.val (.val (.int v)) = L') (hn : Ev G M (pc + 1) L' S h rr) : Ev G M pc L (.int v :: S) h rr :=
  Ev.istoreN hd (by rw [mst_one ho h1 rfl, hl]) hn
/-- a pair of slots over which a long may be stored at once -/
def two2 (a b : Slot) : Prop := (one1 a = true ∧ one1 b = true) ∨ (∃ x, a = .val (.long x) ∧ b = .second)
theorem set_set2 {l : List Slot} {i : Nat} {a b c : Slot} : ((l.set (i + 1) a).set i b).set (i + 1) c = (l.set i b).set (i + 1) c := by
  rw [List.set_comm _ _ (by omega : i + 1 ≠ i), List.set_set]
theorem mst_two {l : List Slot} {i : Nat} {v : Int64} {o o' : Slot} (ho : l[i]? = some o) (ho' : l[i + 1]? = some o') (h2 : two2 o o') : mst l i (.long v) = some ((l.set i (.val (.long v))).set (i + 1) .second) := by
  have hlt := (List.getElem?_eq_some_iff.mp ho).1
  have hlt' := (List.getElem?_eq_some_iff.mp ho').1
  rcases h2 with ⟨h1, h1'⟩ | ⟨x, rfl, rfl⟩
  · have e : lstoreSelf l i (.long v) = some ((l.set i (.val (.long v))).set (i + 1) .second) := by
      have q : (l.set i (.val (.long v)))[i + 1]? = some o' := by rw [List.getElem?_set_ne (by omega)]; exact ho'
      have hcat : (Value.long v).category = 2 := rfl
      simp only [lstoreSelf, lsetAt, hlt, if_true, hcat, q]
      cases o' with
      | unset => simp [hlt']
      | second => cases h1'
      | val w =>
        have : w.category = 1 := by simpa [one1] using h1'
        simp [this, hlt']
    unfold mst
    rw [ho]
    cases o with
    | unset => exact e
    | second => cases h1
    | val w =>
      have : w.category = 1 := by simpa [one1] using h1
      simp only [this]
      exact e
  · unfold mst
    rw [ho]
    have q : ((l.set (i + 1) Slot.unset).set i (.val (.long v)))[i + 1]? = some .unset := by
      rw [List.getElem?_set_ne (by omega), List.getElem?_set_self hlt']
    simp only [Value.category, if_true, lsetAt, hlt', lstoreSelf, List.length_set, hlt, q, set_set2]
theorem Ev.lstD {k : Nat} {v : Int64} {L' : List Slot} {o o' : Slot} {h : MHeap} (hd : decode (mB M) pc = .ok (.lstore k, 2)) (ho : L[k]? = some o) (ho' : L[k + 1]? = some o') (h2 : two2 o o') (hl : (L.set k (.val (.long v))).set (k + 1) .second = L') (hn : Ev G M (pc + 2) L' S h rr) : Ev G M pc L (.long v :: S) h rr :=
  Ev.lstore hd (by rw [mst_two ho ho' h2, hl]) hn
theorem Ev.lstDN {k : Fin 4} {v : Int64} {L' : List Slot} {o o' : Slot} {h : MHeap} (hd : decode (mB M) pc = .ok (.lstore_n k, 1)) (ho : L[k.val]? = some o) (ho' : L[k.val + 1]? = some o') (h2 : two2 o o') (hl : (L.set k.val (.val (.long v))).set (k.val + 1) .second = L') (hn : Ev G M (pc + 1) L' S h rr) : Ev G M pc L (.long v :: S) h rr :=
  Ev.lstoreN hd (by rw [mst_two ho ho' h2, hl]) hn
end ViewRules
/-! ## 5. One object among others -/
/-- al: the array fields in the order in which the constructor makes them, each with 'of booleans' -/
def rA (o : Nat) (al : List (Nat × Bool)) (j : Nat) : Nat := o + 1 + al.findIdx (fun q => q.1 == j)
def arr1 (Ln : Nat → Nat) (s : St) (q : Nat × Bool) : MCell := .inr (q.2, tab (Ln q.1) (s.2 q.1))
def KO (F : List Fd) (al : List (Nat × Bool)) (Ln : Nat → Nat) (o : Nat) (s : St) : MHeap := .inl (fvA (rA o al) s 0 F) :: al.map (arr1 Ln s)
def KH (F : List Fd) (al : List (Nat × Bool)) (Ln : Nat → Nat) (pre post : MHeap) (s : St) : MHeap := pre ++ (KO F al Ln pre.length s ++ post)
def alOk (F : List Fd) (al : List (Nat × Bool)) : Bool := (List.range F.length).all (fun j => match F[j]? with
  | some (_, _, .array t) => al[al.findIdx (fun q => q.1 == j)]? == some (j, isB t)
  | _ => true)
theorem KO_len {F : List Fd} {al : List (Nat × Bool)} {Ln : Nat → Nat} {o : Nat} {s : St} : (KO F al Ln o s).length = al.length + 1 := by simp [KO]
theorem app_get (pre post l : MHeap) (k : Nat) (h : k < l.length) : (pre ++ (l ++ post))[pre.length + k]? = l[k]? := by
  rw [List.getElem?_append_right (by omega), Nat.add_sub_cancel_left, List.getElem?_append_left h]
theorem app_set (pre post l : MHeap) (k : Nat) (c : MCell) (h : k < l.length) : (pre ++ (l ++ post)).set (pre.length + k) c = pre ++ (l.set k c ++ post) := by
  rw [List.set_append_right _ _ (by omega), Nat.add_sub_cancel_left, List.set_append_left _ _ h]
theorem view_of {G : Ctx} {al : List (Nat × Bool)} {Ln : Nat → Nat} {pre post : MHeap} (hk : k0 G ≤ pre.length) (h1 : alOk (gF G) al = true) (h2 : (al.map (·.1)).Nodup) :
    View G Ln (KH (gF G) al Ln pre post) pre.length (rA pre.length al) := by
  refine ⟨hk, fun s => ?_, fun s j f z hF ht => ?_, fun j n d t hF => ?_⟩
  · have := app_get pre post (KO (gF G) al Ln pre.length s) 0 (by rw [KO_len]; omega)
    exact this
  · have := app_set pre post (KO (gF G) al Ln pre.length s) 0 (.inl ((fvA (rA pre.length al) s 0 (gF G)).set j (.int z))) (by rw [KO_len]; omega)
    refine Eq.trans this ?_
    show pre ++ ((.inl _ :: al.map (arr1 Ln s)) ++ post) = pre ++ ((.inl _ :: al.map (arr1 Ln (setI s j z))) ++ post)
    rw [fvA_set hF ht]
    rfl
  · have hj : j < (gF G).length := (List.getElem?_eq_some_iff.mp hF).1
    have hq := List.all_eq_true.mp h1 j (List.mem_range.mpr hj)
    simp only [hF, beq_iff_eq] at hq
    have hlt := (List.getElem?_eq_some_iff.mp hq).1
    have hlen : ∀ s, al.findIdx (fun q => q.1 == j) + 1 < (KO (gF G) al Ln pre.length s).length := fun s => by rw [KO_len]; omega
    have hr : rA pre.length al j = pre.length + (al.findIdx (fun q => q.1 == j) + 1) := by unfold rA; omega
    refine ⟨by rw [hr]; omega, fun s => ?_, fun s i z hi => ?_⟩
    · rw [hr]
      refine (app_get pre post _ _ (hlen s)).trans ?_
      show (al.map (arr1 Ln s))[al.findIdx fun q => q.1 == j]? = _
      rw [List.getElem?_map, hq]
      rfl
    · rw [hr]
      refine (app_set pre post _ _ _ (hlen s)).trans ?_
      show pre ++ ((.inl (fvA (rA pre.length al) s 0 (gF G)) :: (al.map (arr1 Ln s)).set (al.findIdx fun q => q.1 == j) (.inr (isB t, (tab (Ln j) (s.2 j)).set i z))) ++ post) = pre ++ ((.inl (fvA (rA pre.length al) (setA s j i z) 0 (gF G)) :: al.map (arr1 Ln (setA s j i z))) ++ post)
      rw [fvA_same (s := s) (s' := setA s j i z) _ rfl]
      congr 3
      apply List.ext_getElem?
      intro k
      rw [List.getElem?_set, List.getElem?_map, List.getElem?_map, List.length_map]
      by_cases e : al.findIdx (fun q => q.1 == j) = k
      · subst e
        simp only [if_true, hlt, hq, Option.map_some, arr1, tab_set]
        congr 4
        funext x
        rw [setA_2]
        simp
      · simp only [e, if_false]
        cases hk2 : al[k]? with
        | none => rfl
        | some q =>
          simp only [Option.map_some, arr1]
          have ne : q.1 ≠ j := fun hqj => by
            have a1 : (al.map (·.1))[al.findIdx (fun q => q.1 == j)]? = some j := by rw [List.getElem?_map, hq]; rfl
            have a2 : (al.map (·.1))[k]? = some j := by rw [List.getElem?_map, hk2]; simp [hqj]
            have := (List.getElem?_inj (by rw [List.length_map]; exact hlt) h2).mp (a1.trans a2.symm)
            exact e this
          congr 4
          funext x
          rw [setA_2]
          simp [ne]
/-! ### while the constructor makes the arrays -/
def cons (pre : MHeap) (fs : List Value) (as : List (Bool × List Int32)) : MHeap := pre ++ (.inl fs :: as.map .inr)
section ConsRules
variable {G : Ctx} {M : Mi} {pc : Nat} {L : List Slot} {S : List Value} {rr : Option Value × MHeap} {pre : MHeap} {fs fs' : List Value} {as : List (Bool × List Int32)}
theorem cons_get : (cons pre fs as)[pre.length]? = some (.inl fs) := by unfold cons; rw [List.getElem?_append_right (Nat.le_refl _), Nat.sub_self]; rfl
theorem cons_set (c : List Value) : (cons pre fs as).set pre.length (.inl c) = cons pre c as := by unfold cons; rw [List.set_append_right _ _ (Nat.le_refl _), Nat.sub_self]; rfl
theorem cons_len : (cons pre fs as).length = pre.length + 1 + as.length := by simp [cons]; omega
theorem cons_push (b : Bool) (xs : List Int32) : cons pre fs as ++ [.inr (b, xs)] = cons pre fs (as ++ [(b, xs)]) := by simp [cons]
theorem Ev.cput {idx j : Nat} {n d : String} {ty : FieldType} {v v' : Value} (K : GOk G) (hk : k0 G ≤ pre.length) (w : (Jvm.Cond.fieldLink (mN M).cls idx (gC G) n d).before (gA G) (gZ G) = true)
    (wl : (Jvm.Cond.lays (gC G) (gC G) n d).before (gA G) (gZ G) = true ∨ ((Jvm.Cond.laysFinal (gC G) (gC G) n d).before (gA G) (gZ G) = true ∧ (mN M).cls = gC G ∧ (mN M).name = "<init>"))
    (hd : decode (mB M) pc = .ok (.putfield idx, 3)) (hF : (gF G)[j]? = some (n, d, ty)) (hp : mput ty v = some v') (hs : fs.set j v' = fs') (hn : Ev G M (pc + 3) L S (cons pre fs' as) rr) : Ev G M pc L (v :: .ref pre.length :: S) (cons pre fs as) rr := by
  subst hs
  refine Ev.putfield K w wl hd hF hk cons_get hp ?_
  rw [cons_set]; exact hn
theorem Ev.cget {idx j : Nat} {n d : String} {ty : FieldType} {v : Value} (w : (Jvm.Cond.fieldLink (mN M).cls idx (gC G) n d).before (gA G) (gZ G) = true) (hd : decode (mB M) pc = .ok (.getfield idx, 3)) (hF : (gF G)[j]? = some (n, d, ty)) (hv : fs[j]? = some v)
    (hn : Ev G M (pc + 3) L (v :: S) (cons pre fs as) rr) : Ev G M pc L (.ref pre.length :: S) (cons pre fs as) rr := Ev.getfield w hd hF cons_get hv hn
theorem Ev.cnew {aty : ArrayType} {b : Bool} {n : Int32} {k q : Nat} {as' : List (Bool × List Int32)} (w : (Jvm.Cond.arrayClass (newarray.typeOf aty)).before (gA G) (gZ G) = true) (hb' : newarray.typeOf aty = kd b) (hd : decode (mB M) pc = .ok (.newarray aty, 2)) (hn0 : ¬ n < 0) (hk : n.toNatClampNeg = k) (hcap : k ≤ 67108864)
    (hq : as.length = q) (has : as ++ [(b, tab k (fun _ => 0))] = as') (hn : Ev G M (pc + 2) L (.ref (pre.length + 1 + q) :: S) (cons pre fs as') rr) : Ev G M pc L (.int n :: S) (cons pre fs as) rr := by
  subst hq has
  refine Ev.newarray w hb' hd hn0 hk hcap ?_
  rw [cons_push, cons_len, ← tab_zero]; exact hn
end ConsRules
theorem forall_get {P : Nat → Fd → Prop} : ∀ (F : List Fd) (k : Nat), (∀ j f, F[j]? = some f → P (k + j) f) → True := fun _ _ _ => trivial
def AllF (P : Fd → Prop) : List Fd → Prop
  | [] => True
  | f :: fs => P f ∧ AllF P fs
theorem AllF.mem {P : Fd → Prop} : ∀ {F : List Fd}, AllF P F → ∀ f ∈ F, P f
  | _ :: _, ⟨h1, h2⟩, f, hf => (List.mem_cons.mp hf).elim (fun e => e ▸ h1) (AllF.mem h2 f)
theorem gok_of {G : Ctx} (h1 : AllF (fun f => Laid (gZ G) (gA G) (gC G) (gC G) f.1 f.2.1 ∧ parseFieldDescriptor f.2.1 = some f.2.2) (gF G)) (h2 : ((gF G).map (·.1)).Nodup)
    (h3 : (Jvm.Cond.instantiable (gC G) (gK G)).before (gA G) (gZ G) = true) (h4 : (Jvm.Cond.initialized (gC G)).before (gA G) (gZ G) = true) : GOk G := by
  refine ⟨fun j n d ty hF => h1.mem _ (List.mem_of_getElem? hF), fun j j' f f' hF hF' ne e => ne ?_, h3, h4⟩
  have a1 : ((gF G).map (·.1))[j]? = some f.1 := by rw [List.getElem?_map, hF]; rfl
  have a2 : ((gF G).map (·.1))[j']? = some f.1 := by rw [List.getElem?_map, hF', e]; rfl
  exact (List.getElem?_inj (by rw [List.length_map]; exact (List.getElem?_eq_some_iff.mp hF).1) h2).mp (a1.trans a2.symm)
end Jvm.Own
namespace Jvm.Own
open Sem ClassFile Op Lib Jvm.Stand Jvm.Free Jvm.LawKit Jvm.RoadKit
def grd {α : Type} (c : Prop) [Decidable c] (x : Option α) : Option α := if c then x else none
theorem grd_some {α : Type} {c : Prop} [Decidable c] {x : Option α} {w : α} (h : grd c x = some w) : c ∧ x = some w := by
  unfold grd at h; split at h
  · exact ⟨by assumption, h⟩
  · cases h
theorem grd_pos {α : Type} {c : Prop} [Decidable c] {x : Option α} (h : c) : grd c x = x := if_pos h
theorem KH_len (F : List Fd) (al : List (Nat × Bool)) (Ln : Nat → Nat) (pre post : MHeap) (s : St) : (KH F al Ln pre post s).length = pre.length + (al.length + 1 + post.length) := by simp [KH, KO]; omega
theorem hsl_app (k : Nat) (a b : MHeap) : hsl k (a ++ b) = hsl k a + hsl k b := by simp [hsl]
theorem hsl_arr (k : Nat) (Ln : Nat → Nat) (s : St) : ∀ al : List (Nat × Bool), hsl k (al.map (arr1 Ln s)) = (al.map fun q => Ln q.1).sum
  | [] => rfl
  | q :: al => by
    have := hsl_arr k Ln s al
    simp only [hsl, List.map_cons, List.sum_cons] at this ⊢
    rw [this]
    simp [arr1, csl, tab_len]
theorem hsl_KH (k : Nat) (F : List Fd) (al : List (Nat × Bool)) (Ln : Nat → Nat) (pre post : MHeap) (s : St) : hsl k (KH F al Ln pre post s) = hsl k pre + (k + (al.map fun q => Ln q.1).sum + hsl k post) := by
  unfold KH
  rw [hsl_app, hsl_app]
  have : hsl k (KO F al Ln pre.length s) = k + (al.map fun q => Ln q.1).sum := by
    have := hsl_arr k Ln s al
    simp only [KO, hsl, List.map_cons, List.sum_cons, csl] at this ⊢
    rw [this]
  rw [this]
theorem ne_lit {x z : Int32} {k : Int} (h : ¬ x = z) (e : z.toInt = k) : x.toInt ≠ k := fun q => h (Int32.toInt_inj.mp (q.trans e.symm))
section
variable {G : Ctx} {M : Mi} {pc : Nat} {L : List Slot} {S : List Value} {rr : Option Value × MHeap}
theorem Ev.astD {k v : Nat} {L' : List Slot} {o : Slot} {h : MHeap} (hd : decode (mB M) pc = .ok (.astore k, 2)) (ho : L[k]? = some o) (h1 : one1 o = true) (hl : L.set k (.val (.ref v)) = L') (hn : Ev G M (pc + 2) L' S h rr) : Ev G M pc L (.ref v :: S) h rr :=
  Ev.astore hd (by rw [mst_one ho h1 rfl, hl]) hn
theorem Ev.astDN {k : Fin 4} {v : Nat} {L' : List Slot} {o : Slot} {h : MHeap} (hd : decode (mB M) pc = .ok (.astore_n k, 1)) (ho : L[k.val]? = some o) (h1 : one1 o = true) (hl : L.set k.val (.val (.ref v)) = L') (hn : Ev G M (pc + 1) L' S h rr) : Ev G M pc L (.ref v :: S) h rr :=
  Ev.astoreN hd (by rw [mst_one ho h1 rfl, hl]) hn
end
end Jvm.Own
namespace Jvm.Own
open Sem ClassFile Op Lib Jvm.Stand Jvm.Free Jvm.LawKit Jvm.RoadKit
section
variable {G : Ctx} {M : Mi} {pc : Nat} {L : List Slot} {S : List Value} {rr : Option Value × MHeap}
theorem mst_T {l : List Slot} {i : Nat} {v : Value} {o o' : Slot} (ho : l[i]? = some o) (ho' : l[i + 1]? = some o') (h2 : two2 o o') (hv : v.category = 1) : ∃ b, one1 b = true ∧ mst l i v = some ((l.set i (.val v)).set (i + 1) b) := by
  have hlt := (List.getElem?_eq_some_iff.mp ho).1
  have hlt' := (List.getElem?_eq_some_iff.mp ho').1
  rcases h2 with ⟨h1, h1'⟩ | ⟨x, rfl, rfl⟩
  · refine ⟨o', h1', ?_⟩
    rw [mst_one ho h1 hv]
    congr 1
    apply List.ext_getElem?
    intro k
    by_cases e : i + 1 = k
    · subst e
      rw [List.getElem?_set_self (by simpa using hlt'), List.getElem?_set_ne (by omega), ho']
    · rw [List.getElem?_set_ne e]
  · refine ⟨.unset, rfl, ?_⟩
    unfold mst
    rw [ho]
    have c2 : (Value.long x).category = 2 := rfl
    simp only [c2, if_true, lsetAt, hlt', lstoreSelf, List.length_set, hlt, hv]
    rw [List.set_comm _ _ (by omega : i + 1 ≠ i)]
    simp
theorem Ev.istT {k : Nat} {v : Int32} {L' : Slot → List Slot} {o o' : Slot} {h : MHeap} (hd : decode (mB M) pc = .ok (.istore k, 2)) (ho : L[k]? = some o) (ho' : L[k + 1]? = some o') (h2 : two2 o o') (hl : ∀ b, (L.set k (.val (.int v))).set (k + 1) b = L' b) (hn : ∀ b, one1 b = true → Ev G M (pc + 2) (L' b) S h rr) : Ev G M pc L (.int v :: S) h rr := by
  obtain ⟨b, h1, e⟩ := mst_T (v := .int v) ho ho' h2 rfl
  exact Ev.istore hd e (by rw [hl]; exact hn b h1)
theorem Ev.istTN {k : Fin 4} {v : Int32} {L' : Slot → List Slot} {o o' : Slot} {h : MHeap} (hd : decode (mB M) pc = .ok (.istore_n k, 1)) (ho : L[k.val]? = some o) (ho' : L[k.val + 1]? = some o') (h2 : two2 o o') (hl : ∀ b, (L.set k.val (.val (.int v))).set (k.val + 1) b = L' b) (hn : ∀ b, one1 b = true → Ev G M (pc + 1) (L' b) S h rr) : Ev G M pc L (.int v :: S) h rr := by
  obtain ⟨b, h1, e⟩ := mst_T (v := .int v) ho ho' h2 rfl
  exact Ev.istoreN hd e (by rw [hl]; exact hn b h1)
end
section
variable {G : Ctx} {Ln : Nat → Nat} {K : St → MHeap} {o len : Nat} {r : Nat → Nat} {F : List Fd} {al : List (Nat × Bool)}
theorem View.le (V : View G Ln K o r) (s : St) : k0 G ≤ (K s).length := Nat.le_trans V.1 (Nat.le_of_lt (List.getElem?_eq_some_iff.mp (V.2.1 s)).1)
theorem View.app (V : View G Ln K o r) (X : MHeap) : View G Ln (fun s => K s ++ X) o r := by
  refine ⟨V.1, fun s => ?_, fun s j f z hF ht => ?_, fun j n d t hF => ?_⟩
  · show (K s ++ X)[o]? = _
    rw [List.getElem?_append_left (List.getElem?_eq_some_iff.mp (V.2.1 s)).1]; exact V.2.1 s
  · show (K s ++ X).set o _ = _
    rw [List.set_append_left _ _ (List.getElem?_eq_some_iff.mp (V.2.1 s)).1, V.2.2.1 s j f z hF ht]
  · obtain ⟨q1, q2, q3⟩ := V.2.2.2 j n d t hF
    refine ⟨q1, fun s => ?_, fun s i z hi => ?_⟩
    · show (K s ++ X)[r j]? = _
      rw [List.getElem?_append_left (List.getElem?_eq_some_iff.mp (q2 s)).1]; exact q2 s
    · show (K s ++ X).set (r j) _ = _
      rw [List.set_append_left _ _ (List.getElem?_eq_some_iff.mp (q2 s)).1, q3 s i z hi]
theorem View.app2 (V : View G Ln K o r) (hl : ∀ s, (K s).length = len) (t : St) : View G Ln (fun s => KH F al Ln (K s) [] t) o r := by
  have e : (fun s => KH F al Ln (K s) [] t) = fun s => K s ++ (KO F al Ln len t ++ []) := by
    funext s; unfold KH; rw [hl]
  rw [e]
  exact V.app _
theorem app2_get (V : View G Ln K o r) {s t : St} {c : MCell} (h : (K s)[0]? = some c) : (KH F al Ln (K s) [] t)[0]? = some c := by
  unfold KH
  rw [List.getElem?_append_left (List.getElem?_eq_some_iff.mp h).1]; exact h
end
end Jvm.Own
namespace Jvm.Own
open Sem ClassFile Op Lib Jvm.Stand Jvm.Free Jvm.LawKit Jvm.RoadKit
def toI : Value → Int32
  | .int z => z
  | _ => 0
theorem script_rel {s : State} {a : Nat} {cl : Cell} {args : Array Value} {l : Launch} {C : String} {F : List Fd} {k : Nat} (hf : Fit s) (A : Arr s s.heap a cl .int) :
    ∃ xs : List Int32, xs.length = cl.slots.size ∧ Rel (s, args, l, some a, s.heap.size, C, F, k) s.heap [.inr (false, tab xs.length (fun i => xs.getD i 0))] := by
  have hl : (cl.slots.toList.map toI).length = cl.slots.size := by simp
  refine ⟨cl.slots.toList.map toI, hl, rfl, Nat.le_refl _, fun a' q => by cases q; exact A.lt, fun i c q => ?_⟩
  match i, q with
  | 0, q =>
    cases q
    refine ⟨cl, A, ?_⟩
    rw [← tab_of]
    apply Array.ext'
    apply List.ext_getElem?
    intro j
    simp only [List.map_map, List.getElem?_map]
    cases hj : cl.slots.toList[j]? with
    | none => rfl
    | some v =>
      have hj' : cl.slots[j]? = some v := by simpa using hj
      obtain ⟨hlt, hv⟩ := Array.getElem?_eq_some_iff.mp hj'
      have q := hf A.1 hlt
      obtain ⟨hs, kk, hk, comp, hkind⟩ := A.2.1
      have e : s.slotType? cl.cls cl.vm j = some .int := by
        cases hq : cl.vm <;> first | exact absurd hq (hs _) | simp [State.slotType?, hk, hkind]
      have q2 : fits .int v = true := by rw [hv] at q; simpa [State.fitsSlot, e] using q
      obtain ⟨z, rfl⟩ := fit_I q2 (Or.inl rfl)
      rfl
theorem script_len {s : State} {args : Array Value} {t : Term} {a : Nat} {cl : Cell} (A : Arr s s.heap a cl .int) (ea : t.eval args s none [] s = some (.ref a)) (h1 : (Jvm.Cond.isInt (.length t)).value args s none s [] = some true) (h2 : (Jvm.Cond.le (.length t) (.int 260)).value args s none s [] = some true) : cl.slots.size ≤ 260 := by
  obtain ⟨z, ez⟩ := is_v h1
  have ha := A.fin (Vm.Alike.refl s.vm)
  have hlen : cl.slots.size < 2 ^ 31 := by
    rcases Nat.lt_or_ge cl.slots.size (2 ^ 31) with q | q
    · exact q
    · simp [Term.eval, ea, ha, Nat.not_lt.mpr q] at ez
  have e1 := len_f ea ha hlen
  have q : cl.slots.size.toInt32 ≤ 260 := by
    have := Cond.le_ints e1 (Term.int_eval (260 : Int32)) (args := args) (first := s) (o := none) (s := s) (idx := [])
    exact gotT this h2
  have q2 := Int32.le_iff_toInt_le.mp q
  rw [len_toInt hlen] at q2
  have : (260 : Int32).toInt = 260 := by decide
  omega
end Jvm.Own
namespace Jvm.Own
open Sem ClassFile Op Lib Jvm.Stand Jvm.Free Jvm.LawKit Jvm.RoadKit
def decs (b : ByteArray) : List (Nat × Instr × Nat) → Bool
  | [] => true
  | q :: t => decide (decode b q.1 = .ok (q.2.1, q.2.2)) && decs b t
theorem dget {b : ByteArray} : ∀ {l : List (Nat × Instr × Nat)}, decs b l = true → ∀ {k p : Nat} {i : Instr} {n : Nat}, l[k]? = some (p, i, n) → decode b p = .ok (i, n)
  | [], _, k, _, _, _, hk => by simp at hk
  | q :: t, h, 0, p, i, n, hk => by
    simp only [decs, Bool.and_eq_true, decide_eq_true_eq] at h
    simp only [List.getElem?_cons_zero, Option.some.injEq] at hk
    subst hk
    exact h.1
  | q :: t, h, k + 1, p, i, n, hk => by
    simp only [decs, Bool.and_eq_true] at h
    exact dget h.2 (by simpa using hk)
end Jvm.Own
namespace Jvm.Own
/-! ## 6. Ints of 32 bits and naturals -/
theorem N_toInt {i : Nat} (h : i < 2147483648) : (Int32.ofNat i).toInt = i := Int32.toInt_ofNat_of_lt h
theorem N_lt {i j : Nat} (hi : i < 2147483648) (hj : j < 2147483648) : Int32.ofNat i < Int32.ofNat j ↔ i < j := by
  rw [Int32.lt_iff_toInt_lt, N_toInt hi, N_toInt hj]; omega
theorem N_inj {i j : Nat} (hi : i < 2147483648) (hj : j < 2147483648) : Int32.ofNat i = Int32.ofNat j ↔ i = j := by
  rw [← Int32.toInt_inj, N_toInt hi, N_toInt hj]; omega
theorem N_succ (i : Nat) : Int32.ofNat i + 1 = Int32.ofNat (i + 1) := (Int32.ofNat_add i 1).symm
theorem N_add (i j : Nat) : Int32.ofNat i + Int32.ofNat j = Int32.ofNat (i + j) := (Int32.ofNat_add i j).symm
theorem N_mul (i j : Nat) : Int32.ofNat i * Int32.ofNat j = Int32.ofNat (i * j) := (Int32.ofNat_mul i j).symm
theorem N_neg {i : Nat} (h : i < 2147483648) : ¬ Int32.ofNat i < 0 := by
  rw [Int32.lt_iff_toInt_lt, N_toInt h]; simp
theorem ix_N {i : Nat} (h : i < 2147483648) : ix (Int32.ofNat i) = i := by
  unfold ix Int32.toNatClampNeg; rw [N_toInt h]; simp
theorem inb_N {i n : Nat} (h : i < 2147483648) : inb (Int32.ofNat i) n ↔ i < n := by
  unfold inb; rw [ix_N h]; exact ⟨fun q => q.2, fun q => ⟨N_neg h, q⟩⟩
theorem ix_toInt {x : Int32} (h : ¬ x < 0) : (ix x : Int) = x.toInt := by
  unfold ix Int32.toNatClampNeg
  rw [Int32.lt_iff_toInt_lt] at h
  have : (0 : Int32).toInt = 0 := rfl
  omega
theorem ix_lt (x : Int32) : ix x < 2147483648 := by
  unfold ix Int32.toNatClampNeg
  have := Int32.toInt_lt x
  omega
theorem N_ix {x : Int32} (h : ¬ x < 0) : Int32.ofNat (ix x) = x := by
  rw [← Int32.toInt_inj, N_toInt (ix_lt x), ix_toInt h]
theorem ix_eq {x y : Int32} (hx : ¬ x < 0) (hy : ¬ y < 0) : ix x = ix y ↔ x = y := by
  refine ⟨fun e => ?_, fun e => e ▸ rfl⟩
  rw [← N_ix hx, ← N_ix hy, e]
theorem rng (x : Int32) : -2147483648 ≤ x.toInt ∧ x.toInt < 2147483648 := ⟨Int32.le_toInt x, Int32.toInt_lt x⟩
theorem lt_I {x y : Int32} : x < y ↔ x.toInt < y.toInt := Int32.lt_iff_toInt_lt
theorem le_I {x y : Int32} : x ≤ y ↔ x.toInt ≤ y.toInt := Int32.le_iff_toInt_le
theorem eq_I {x y : Int32} : x = y ↔ x.toInt = y.toInt := Int32.toInt_inj.symm
theorem bmod_eq {x : Int} (h1 : -2147483648 ≤ x) (h2 : x < 2147483648) : x.bmod (2 ^ 32) = x := by
  apply Int.bmod_eq_of_le <;> omega
theorem add_I {x y : Int32} (h1 : -2147483648 ≤ x.toInt + y.toInt) (h2 : x.toInt + y.toInt < 2147483648) : (x + y).toInt = x.toInt + y.toInt := by
  rw [Int32.toInt_add]; exact bmod_eq h1 h2
theorem sub_I {x y : Int32} (h1 : -2147483648 ≤ x.toInt - y.toInt) (h2 : x.toInt - y.toInt < 2147483648) : (x - y).toInt = x.toInt - y.toInt := by
  rw [Int32.toInt_sub]; exact bmod_eq h1 h2
theorem mul_I {x y : Int32} (h1 : -2147483648 ≤ x.toInt * y.toInt) (h2 : x.toInt * y.toInt < 2147483648) : (x * y).toInt = x.toInt * y.toInt := by
  rw [Int32.toInt_mul]; exact bmod_eq h1 h2
theorem inb_I {x : Int32} {n : Nat} (h1 : 0 ≤ x.toInt) (h2 : x.toInt < n) : inb x n := by
  have h : ¬ x < 0 := by rw [lt_I]; have : (0 : Int32).toInt = 0 := rfl; omega
  refine ⟨h, ?_⟩
  have := ix_toInt h
  omega
/-- an int between 0 and n is one of them -/
theorem cases_N {x : Int32} {n : Nat} (hn : n < 2147483648) (h0 : ¬ x < 0) (h1 : x < Int32.ofNat n) : ∃ i, i < n ∧ x = Int32.ofNat i := by
  refine ⟨ix x, ?_, (N_ix h0).symm⟩
  have a := ix_toInt h0
  rw [lt_I, N_toInt hn] at h1
  omega
/-! ## 7. Loops that count from i to N -/
def itr {α : Type} (f : Nat → α → α) : Nat → Nat → α → α
  | _, 0, s => s
  | i, m + 1, s => itr f (i + 1) m (f i s)
theorem loopN {α β : Type} {F : Nat → Int32 → α → Option β} {N : Nat} {f : Nat → α → α} {fin : α → Option β}
    (hF : ∀ k i s, i < N → F (k + 1) (Int32.ofNat i) s = F k (Int32.ofNat i + 1) (f i s)) (hE : ∀ k s, F (k + 1) (Int32.ofNat N) s = fin s) :
    ∀ m i k s, i + m = N → m < k → F k (Int32.ofNat i) s = fin (itr f i m s) := by
  intro m
  induction m with
  | zero =>
    intro i k s hi hk
    obtain ⟨k, rfl⟩ : ∃ k', k = k' + 1 := ⟨k - 1, by omega⟩
    have : i = N := by omega
    subst this
    exact hE k s
  | succ m ih =>
    intro i k s hi hk
    obtain ⟨k, rfl⟩ : ∃ k', k = k' + 1 := ⟨k - 1, by omega⟩
    rw [hF k i s (by omega), N_succ]
    exact ih (i + 1) k _ (by omega) (by omega)
theorem itr_ind {α : Type} {f : Nat → α → α} {P : Nat → α → Prop} {N : Nat} (h : ∀ i s, i < N → P i s → P (i + 1) (f i s)) : ∀ m i s, i + m = N → P i s → P N (itr f i m s) := by
  intro m
  induction m with
  | zero => intro i s hi hp; have : i = N := by omega
            subst this; exact hp
  | succ m ih => intro i s hi hp; exact ih (i + 1) _ (by omega) (h i s (by omega) hp)
theorem itr_pt {f : Nat → St → St} {u : Nat → Int32 → Int32} (h1 : ∀ i s, (f i s).1 = s.1) (h2 : ∀ i s k x, (f i s).2 k x = if x = i then u k (s.2 k x) else s.2 k x) :
    ∀ m i s, itr f i m s = (s.1, fun k x => if i ≤ x ∧ x < i + m then u k (s.2 k x) else s.2 k x) := by
  intro m
  induction m with
  | zero =>
    intro i s
    refine Prod.ext rfl ?_
    funext k x
    have : ¬ (i ≤ x ∧ x < i + 0) := by omega
    simp only [this, if_false]
    rfl
  | succ m ih =>
    intro i s
    show itr f (i + 1) m (f i s) = _
    rw [ih]
    refine Prod.ext (h1 i s) ?_
    funext k x
    simp only [h2]
    by_cases e : x = i
    · subst e
      have a : ¬ (x + 1 ≤ x ∧ x < x + 1 + m) := by omega
      have b : x ≤ x ∧ x < x + (m + 1) := by omega
      simp only [a, b, if_false, if_true, and_self]
    · have : (i + 1 ≤ x ∧ x < i + 1 + m) ↔ (i ≤ x ∧ x < i + (m + 1)) := by omega
      simp only [this, e, if_false]
theorem itr_fill (K : Nat) (z : Int32) (m : Nat) (s : St) : itr (fun i s => setA s K i z) 0 m s = (s.1, fun k x => if k = K ∧ x < m then z else s.2 k x) := by
  rw [itr_pt (f := fun i s => setA s K i z) (u := fun k v => if k = K then z else v) (fun _ _ => rfl) (fun i s j x => by
    simp only [setA_2]
    by_cases e : x = i <;> by_cases e1 : j = K <;> simp [e, e1])]
  refine Prod.ext rfl ?_
  funext k x
  have : (0 ≤ x ∧ x < 0 + m) ↔ x < m := by omega
  simp only [this]
  by_cases e : x < m <;> by_cases e1 : k = K <;> simp [e, e1]
theorem and_rng (x : Int32) {m : Nat} (hm : m < 2147483648) : 0 ≤ (x &&& Int32.ofNat m).toInt ∧ (x &&& Int32.ofNat m).toInt ≤ m := by
  have h1 : (x &&& Int32.ofNat m).toBitVec.toNat ≤ m := by
    rw [Int32.toBitVec_and, BitVec.toNat_and]
    refine Nat.le_trans Nat.and_le_right ?_
    show (BitVec.ofNat 32 m).toNat ≤ m
    rw [BitVec.toNat_ofNat]
    exact Nat.mod_le _ _
  have h2 : (x &&& Int32.ofNat m).toInt = ((x &&& Int32.ofNat m).toBitVec.toNat : Int) := by
    show (x &&& Int32.ofNat m).toBitVec.toInt = _
    exact BitVec.toInt_eq_toNat_of_lt (by omega)
  omega
theorem idx8 {o p : Int32} (h0 : ¬ o < 0) (h3 : ¬ 3 < o) : inb (o * 8 + (p &&& 7)) 32 := by
  have a := and_rng p (m := 7) (by omega)
  rw [show Int32.ofNat 7 = (7 : Int32) from rfl] at a
  rw [lt_I] at h0 h3
  have e0 : (0 : Int32).toInt = 0 := rfl
  have e3 : (3 : Int32).toInt = 3 := rfl
  have e8 : (8 : Int32).toInt = 8 := rfl
  have em : (o * 8).toInt = o.toInt * 8 := by rw [mul_I] <;> rw [e8] <;> omega
  have ea : (o * 8 + (p &&& 7)).toInt = o.toInt * 8 + (p &&& 7).toInt := by rw [add_I] <;> rw [em] <;> omega
  exact inb_I (by omega) (by omega)
theorem idx8' {o p : Int32} (h0 : ¬ o < 0) (h3 : ¬ 3 < o) (g0 : ¬ p < 0) (g7 : ¬ 7 < p) : inb (o * 8 + p) 32 ∧ (o * 8 + p).toInt = o.toInt * 8 + p.toInt := by
  rw [lt_I] at h0 h3 g0 g7
  have e0 : (0 : Int32).toInt = 0 := rfl
  have e3 : (3 : Int32).toInt = 3 := rfl
  have e7 : (7 : Int32).toInt = 7 := rfl
  have e8 : (8 : Int32).toInt = 8 := rfl
  have em : (o * 8).toInt = o.toInt * 8 := by rw [mul_I] <;> rw [e8] <;> omega
  have ea : (o * 8 + p).toInt = o.toInt * 8 + p.toInt := by rw [add_I] <;> rw [em] <;> omega
  exact ⟨inb_I (by omega) (by omega), ea⟩
theorem inb_le {x : Int32} {m : Int32} {n : Nat} (h0 : ¬ x < 0) (h1 : ¬ m < x) (hm : m.toInt < n) : inb x n := by
  rw [lt_I] at h0 h1
  have e0 : (0 : Int32).toInt = 0 := rfl
  exact inb_I (by omega) (by omega)
theorem inb_lt {x : Int32} {m : Int32} {n : Nat} (h0 : ¬ x < 0) (h1 : x < m) (hm : m.toInt ≤ n) : inb x n := by
  rw [lt_I] at h0 h1
  have e0 : (0 : Int32).toInt = 0 := rfl
  exact inb_I (by omega) (by omega)
theorem rem_N {a N : Nat} (ha : a < 2147483648) (hN : N < 2147483648) (h0 : 0 < N) : Int32.ofNat a % Int32.ofNat N = Int32.ofNat (a % N) := by
  have h1 : a % N < N := Nat.mod_lt _ h0
  rw [← Int32.toInt_inj, Int32.toInt_mod, N_toInt ha, N_toInt hN, N_toInt (by omega)]
  rw [Int.tmod_eq_emod_of_nonneg (by omega)]
  rfl
/-- the rule of a loop that counts from i to N: P before each turn; Q of what it gives -/
theorem loopP {α β : Type} {F : Nat → Int32 → α → Option β} {N : Nat} {P : Nat → α → Prop} {Q : β → Prop}
    (hF : ∀ k i s, i < N → P i s → (∃ s', F (k + 1) (Int32.ofNat i) s = F k (Int32.ofNat i + 1) s' ∧ P (i + 1) s') ∨ ∃ r, F (k + 1) (Int32.ofNat i) s = some r ∧ Q r)
    (hE : ∀ k s, P N s → ∃ r, F (k + 1) (Int32.ofNat N) s = some r ∧ Q r) :
    ∀ m i k s, i + m = N → m < k → P i s → ∃ r, F k (Int32.ofNat i) s = some r ∧ Q r := by
  intro m
  induction m with
  | zero =>
    intro i k s hi hk hp
    obtain ⟨k, rfl⟩ : ∃ k', k = k' + 1 := ⟨k - 1, by omega⟩
    have : i = N := by omega
    subst this
    exact hE k s hp
  | succ m ih =>
    intro i k s hi hk hp
    obtain ⟨k, rfl⟩ : ∃ k', k = k' + 1 := ⟨k - 1, by omega⟩
    rcases hF k i s (by omega) hp with ⟨s', e, hp'⟩ | h
    · rw [e, N_succ]
      exact ih (i + 1) k s' (by omega) (by omega) hp'
    · exact h
theorem ltN {i j : Nat} (h : i < j) (hj : j < 2147483648) : Int32.ofNat i < Int32.ofNat j := (N_lt (by omega) hj).mpr h
theorem ltZ {i : Nat} {z : Int32} (N : Nat) (hz : Int32.ofNat N = z) (h : i < N) (hN : N < 2147483648) : Int32.ofNat i < z := hz ▸ ltN h hN
theorem nltN {i : Nat} (hi : i < 2147483648) : ¬ Int32.ofNat i < Int32.ofNat i := fun q => by rw [N_lt hi hi] at q; omega
theorem inbN {i n : Nat} (h : i < n) (hi : i < 2147483648) : inb (Int32.ofNat i) n := (inb_N hi).mpr h
def own_cl (a lo hi : Int32) : Int32 := if a < lo then lo else if hi < a then hi else a
theorem own_cl_rng {a lo hi : Int32} (h : ¬ hi < lo) : lo.toInt ≤ (own_cl a lo hi).toInt ∧ (own_cl a lo hi).toInt ≤ hi.toInt := by
  unfold own_cl
  rw [lt_I] at h
  split
  · omega
  · rename_i q; rw [lt_I] at q
    split
    · omega
    · rename_i q2; rw [lt_I] at q2; omega
theorem own_nat {x : Int32} {lo hi : Nat} (h1 : (lo : Int) ≤ x.toInt) (h2 : x.toInt ≤ hi) : ∃ N : Nat, x = Int32.ofNat N ∧ lo ≤ N ∧ N ≤ hi := by
  have := rng x
  refine ⟨x.toInt.toNat, ?_, by omega, by omega⟩
  rw [← Int32.toInt_inj, N_toInt (by omega)]; omega
theorem own_clN (a : Int32) {lo hi : Nat} (h : lo ≤ hi) (hi' : hi < 2147483648) : ∃ N : Nat, own_cl a (Int32.ofNat lo) (Int32.ofNat hi) = Int32.ofNat N ∧ lo ≤ N ∧ N ≤ hi := by
  have q := own_cl_rng (a := a) (lo := Int32.ofNat lo) (hi := Int32.ofNat hi) (fun q => by rw [N_lt (by omega) (by omega)] at q; omega)
  rw [N_toInt (by omega), N_toInt (by omega)] at q
  exact own_nat q.1 q.2
end Jvm.Own
namespace Jvm.Pilot.@@N@@
open Jvm Jvm.ClassFile Sem Op Lib Jvm.Free Jvm.Stand Jvm.LawKit Jvm.RoadKit Bundle Jvm.Pilot.@@N@@.Jvm.D Jvm.Own
/-! ### the class and its words (printed by a program of this repo) -/
abbrev GT := State × Array Value × Launch × Option Addr × Nat
def flds : List Fd := [("ops", "[I", FieldType.array FieldType.int), ("fieldA", "[I", FieldType.array FieldType.int), ("fieldB", "[I", FieldType.array FieldType.int), ("fieldC", "[I", FieldType.array FieldType.int), ("match", "[I", FieldType.array FieldType.int), ("openPos", "[I", FieldType.array FieldType.int), ("openElse", "[I", FieldType.array FieldType.int), ("openLoop", "[Z", FieldType.array FieldType.boolean), ("inputs", "[I", FieldType.array FieldType.int), ("outs", "[I", FieldType.array FieldType.int), ("finals", "[I", FieldType.array FieldType.int), ("vars", "[I", FieldType.array FieldType.int), ("frameAt", "[I", FieldType.array FieldType.int), ("frameStart", "[I", FieldType.array FieldType.int), ("frameTrip", "[I", FieldType.array FieldType.int), ("frameChunk", "[I", FieldType.array FieldType.int), ("frameCopy", "[I", FieldType.array FieldType.int), ("invariantIf", "[Z", FieldType.array FieldType.boolean), ("ifLoop", "[I", FieldType.array FieldType.int), ("guardKnown", "[Z", FieldType.array FieldType.boolean), ("guardValue", "[Z", FieldType.array FieldType.boolean), ("codeSize", "I", FieldType.int), ("openCount", "I", FieldType.int), ("openLoops", "I", FieldType.int), ("factor", "I", FieldType.int), ("status", "I", FieldType.int), ("outCount", "I", FieldType.int), ("runFactor", "I", FieldType.int), ("pc", "I", FieldType.int), ("frames", "I", FieldType.int), ("stopped", "Z", FieldType.boolean)]
def GG (g : GT) : Ctx := (g.1, g.2.1, g.2.2.1, g.2.2.2.1, g.2.2.2.2, "LoopUnroller", flds, 31)
def HW (g : GT) : Prop := ∀ d ∈ tables_1, d.before g.2.1 g.1 = true
def al : List (Nat × Bool) := [(0, false), (1, false), (2, false), (3, false), (4, false), (5, false), (6, false), (7, true), (8, false), (9, false), (10, false), (11, false), (12, false), (13, false), (14, false), (15, false), (16, false), (17, true), (18, false), (19, true), (20, true)]
def Ln (j : Nat) : Nat := [24, 24, 24, 24, 24, 4, 4, 4, 8, 32, 8, 8, 2, 2, 2, 2, 2, 24, 24, 24, 24, 0, 0, 0, 0, 0, 0, 0, 0, 0, 0].getD j 0
def dfl : List Value := [.null, .null, .null, .null, .null, .null, .null, .null, .null, .null, .null, .null, .null, .null, .null, .null, .null, .null, .null, .null, .null, .int 0, .int 0, .int 0, .int 0, .int 0, .int 0, .int 0, .int 0, .int 0, .int 0]
theorem ww {g : GT} (hw : HW g) (k : Nat) {d : Jvm.Cond} (h : tables_1[k]? = some d) : d.before (gA (GG g)) (gZ (GG g)) = true := hw _ (List.mem_of_getElem? h)
theorem fld_nd : (flds.map (·.1)).Nodup := by decide +kernel
theorem al_ok : alOk flds al = true := by decide +kernel
theorem al_nd : (al.map (·.1)).Nodup := by decide +kernel
theorem gok {g : GT} (hw : HW g) : GOk (GG g) := gok_of ⟨⟨Or.inl (ww hw 11 rfl), by decide⟩, ⟨Or.inl (ww hw 13 rfl), by decide⟩, ⟨Or.inl (ww hw 15 rfl), by decide⟩, ⟨Or.inl (ww hw 17 rfl), by decide⟩, ⟨Or.inl (ww hw 19 rfl), by decide⟩, ⟨Or.inl (ww hw 21 rfl), by decide⟩, ⟨Or.inl (ww hw 23 rfl), by decide⟩, ⟨Or.inl (ww hw 26 rfl), by decide⟩, ⟨Or.inl (ww hw 28 rfl), by decide⟩, ⟨Or.inl (ww hw 30 rfl), by decide⟩, ⟨Or.inl (ww hw 32 rfl), by decide⟩, ⟨Or.inl (ww hw 34 rfl), by decide⟩, ⟨Or.inl (ww hw 36 rfl), by decide⟩, ⟨Or.inl (ww hw 38 rfl), by decide⟩, ⟨Or.inl (ww hw 40 rfl), by decide⟩, ⟨Or.inl (ww hw 42 rfl), by decide⟩, ⟨Or.inl (ww hw 44 rfl), by decide⟩, ⟨Or.inl (ww hw 46 rfl), by decide⟩, ⟨Or.inl (ww hw 48 rfl), by decide⟩, ⟨Or.inl (ww hw 50 rfl), by decide⟩, ⟨Or.inl (ww hw 52 rfl), by decide⟩, ⟨Or.inl (ww hw 63 rfl), by decide⟩, ⟨Or.inl (ww hw 69 rfl), by decide⟩, ⟨Or.inl (ww hw 71 rfl), by decide⟩, ⟨Or.inl (ww hw 73 rfl), by decide⟩, ⟨Or.inl (ww hw 79 rfl), by decide⟩, ⟨Or.inl (ww hw 81 rfl), by decide⟩, ⟨Or.inl (ww hw 143 rfl), by decide⟩, ⟨Or.inl (ww hw 161 rfl), by decide⟩, ⟨Or.inl (ww hw 163 rfl), by decide⟩, ⟨Or.inl (ww hw 165 rfl), by decide⟩, trivial⟩ fld_nd (ww hw 1 rfl) (ww hw 2 rfl)
theorem pcls : plainName "LoopUnroller" = true := by first | (simp [plainName, overriddenIn]; done) | decide +kernel
theorem pclsL : plainName "LoopUnrollerL3" = true := by first | (simp [plainName, overriddenIn]; done) | decide +kernel
theorem nmh : "LoopUnroller" ≠ "java/lang/invoke/MethodHandle" ∧ "LoopUnroller" ≠ "java/lang/invoke/VarHandle" := by decide
theorem nmhL : "LoopUnrollerL3" ≠ "java/lang/invoke/MethodHandle" ∧ "LoopUnrollerL3" ≠ "java/lang/invoke/VarHandle" := by decide
def M_clearProgram : Mi := ((⟨"LoopUnroller", "clearProgram", "()V"⟩ : MethodName), prog_1_method_17_code, 2, none, 0, 0)
theorem pl_clearProgram : plainFor (mN M_clearProgram) = true := plainFor_of_name pcls
theorem nm_clearProgram : notMH M_clearProgram := nmh
theorem pd_clearProgram : parseMethodDescriptor (mN M_clearProgram).desc = some ⟨[], none⟩ := by decide +kernel
def M_clearOpen : Mi := ((⟨"LoopUnroller", "clearOpen", "()V"⟩ : MethodName), prog_1_method_18_code, 2, none, 0, 0)
theorem pl_clearOpen : plainFor (mN M_clearOpen) = true := plainFor_of_name pcls
theorem nm_clearOpen : notMH M_clearOpen := nmh
theorem pd_clearOpen : parseMethodDescriptor (mN M_clearOpen).desc = some ⟨[], none⟩ := by decide +kernel
def M_clearResults : Mi := ((⟨"LoopUnroller", "clearResults", "()V"⟩ : MethodName), prog_1_method_19_code, 2, none, 0, 0)
theorem pl_clearResults : plainFor (mN M_clearResults) = true := plainFor_of_name pcls
theorem nm_clearResults : notMH M_clearResults := nmh
theorem pd_clearResults : parseMethodDescriptor (mN M_clearResults).desc = some ⟨[], none⟩ := by decide +kernel
def M_reset : Mi := ((⟨"LoopUnroller", "reset", "()V"⟩ : MethodName), prog_1_method_2_code, 2, none, 1, 13)
theorem pl_reset : plainFor (mN M_reset) = true := plainFor_of_name pcls
theorem nm_reset : notMH M_reset := nmh
theorem pd_reset : parseMethodDescriptor (mN M_reset).desc = some ⟨[], none⟩ := by decide +kernel
def M_ctor : Mi := ((⟨"LoopUnroller", "<init>", "()V"⟩ : MethodName), prog_1_method_1_code, 1, none, 2, 26)
theorem pl_ctor : plainFor (mN M_ctor) = true := plainFor_of_name pcls
theorem nm_ctor : notMH M_ctor := nmh
theorem pd_ctor : parseMethodDescriptor (mN M_ctor).desc = some ⟨[], none⟩ := by decide +kernel
def M_isVar : Mi := ((⟨"LoopUnroller", "isVar", "(I)Z"⟩ : MethodName), prog_1_method_20_code, 2, (some .boolean), 0, 0)
theorem pl_isVar : plainFor (mN M_isVar) = true := plainFor_of_name pcls
theorem nm_isVar : notMH M_isVar := nmh
theorem pd_isVar : parseMethodDescriptor (mN M_isVar).desc = some ⟨[.int], some .boolean⟩ := by decide +kernel
def M_setInput : Mi := ((⟨"LoopUnroller", "setInput", "(II)Z"⟩ : MethodName), prog_1_method_7_code, 3, (some .boolean), 1, 13)
theorem pl_setInput : plainFor (mN M_setInput) = true := plainFor_of_name pcls
theorem nm_setInput : notMH M_setInput := nmh
theorem pd_setInput : parseMethodDescriptor (mN M_setInput).desc = some ⟨[.int, .int], some .boolean⟩ := by decide +kernel
def M_usesA : Mi := ((⟨"LoopUnroller", "usesA", "(I)Z"⟩ : MethodName), prog_1_method_21_code, 2, (some .boolean), 0, 0)
theorem pl_usesA : plainFor (mN M_usesA) = true := plainFor_of_name pcls
theorem nm_usesA : notMH M_usesA := nmh
theorem pd_usesA : parseMethodDescriptor (mN M_usesA).desc = some ⟨[.int], some .boolean⟩ := by decide +kernel
def M_usesB : Mi := ((⟨"LoopUnroller", "usesB", "(I)Z"⟩ : MethodName), prog_1_method_22_code, 2, (some .boolean), 0, 0)
theorem pl_usesB : plainFor (mN M_usesB) = true := plainFor_of_name pcls
theorem nm_usesB : notMH M_usesB := nmh
theorem pd_usesB : parseMethodDescriptor (mN M_usesB).desc = some ⟨[.int], some .boolean⟩ := by decide +kernel
def M_cIsVar : Mi := ((⟨"LoopUnroller", "cIsVar", "(I)Z"⟩ : MethodName), prog_1_method_24_code, 2, (some .boolean), 0, 0)
theorem pl_cIsVar : plainFor (mN M_cIsVar) = true := plainFor_of_name pcls
theorem nm_cIsVar : notMH M_cIsVar := nmh
theorem pd_cIsVar : parseMethodDescriptor (mN M_cIsVar).desc = some ⟨[.int], some .boolean⟩ := by decide +kernel
def M_operandsValid : Mi := ((⟨"LoopUnroller", "operandsValid", "(IIII)Z"⟩ : MethodName), prog_1_method_26_code, 5, (some .boolean), 1, 13)
theorem pl_operandsValid : plainFor (mN M_operandsValid) = true := plainFor_of_name pcls
theorem nm_operandsValid : notMH M_operandsValid := nmh
theorem pd_operandsValid : parseMethodDescriptor (mN M_operandsValid).desc = some ⟨[.int, .int, .int, .int], some .boolean⟩ := by decide +kernel
def M_structureAllows : Mi := ((⟨"LoopUnroller", "structureAllows", "(I)Z"⟩ : MethodName), prog_1_method_27_code, 3, (some .boolean), 0, 0)
theorem pl_structureAllows : plainFor (mN M_structureAllows) = true := plainFor_of_name pcls
theorem nm_structureAllows : notMH M_structureAllows := nmh
theorem pd_structureAllows : parseMethodDescriptor (mN M_structureAllows).desc = some ⟨[.int], some .boolean⟩ := by decide +kernel
def M_usesC : Mi := ((⟨"LoopUnroller", "usesC", "(I)Z"⟩ : MethodName), prog_1_method_23_code, 2, (some .boolean), 0, 0)
theorem pl_usesC : plainFor (mN M_usesC) = true := plainFor_of_name pcls
theorem nm_usesC : notMH M_usesC := nmh
theorem pd_usesC : parseMethodDescriptor (mN M_usesC).desc = some ⟨[.int], some .boolean⟩ := by decide +kernel
def M_closeIf : Mi := ((⟨"LoopUnroller", "closeIf", "(II)V"⟩ : MethodName), prog_1_method_29_code, 3, none, 0, 0)
theorem pl_closeIf : plainFor (mN M_closeIf) = true := plainFor_of_name pcls
theorem nm_closeIf : notMH M_closeIf := nmh
theorem pd_closeIf : parseMethodDescriptor (mN M_closeIf).desc = some ⟨[.int, .int], none⟩ := by decide +kernel
def M_updateOpen : Mi := ((⟨"LoopUnroller", "updateOpen", "(II)V"⟩ : MethodName), prog_1_method_28_code, 4, none, 1, 14)
theorem pl_updateOpen : plainFor (mN M_updateOpen) = true := plainFor_of_name pcls
theorem nm_updateOpen : notMH M_updateOpen := nmh
theorem pd_updateOpen : parseMethodDescriptor (mN M_updateOpen).desc = some ⟨[.int, .int], none⟩ := by decide +kernel
def M_emit : Mi := ((⟨"LoopUnroller", "emit", "(IIII)Z"⟩ : MethodName), prog_1_method_3_code, 6, (some .boolean), 2, 29)
theorem pl_emit : plainFor (mN M_emit) = true := plainFor_of_name pcls
theorem nm_emit : notMH M_emit := nmh
theorem pd_emit : parseMethodDescriptor (mN M_emit).desc = some ⟨[.int, .int, .int, .int], some .boolean⟩ := by decide +kernel
def M_transform : Mi := ((⟨"LoopUnroller", "transform", "(I)Z"⟩ : MethodName), prog_1_method_10_code, 3, (some .boolean), 0, 0)
theorem pl_transform : plainFor (mN M_transform) = true := plainFor_of_name pcls
theorem nm_transform : notMH M_transform := nmh
theorem pd_transform : parseMethodDescriptor (mN M_transform).desc = some ⟨[.int], some .boolean⟩ := by decide +kernel
def M_innermostLoop : Mi := ((⟨"LoopUnroller", "innermostLoop", "(I)I"⟩ : MethodName), prog_1_method_30_code, 3, (some .int), 0, 0)
theorem pl_innermostLoop : plainFor (mN M_innermostLoop) = true := plainFor_of_name pcls
theorem nm_innermostLoop : notMH M_innermostLoop := nmh
theorem pd_innermostLoop : parseMethodDescriptor (mN M_innermostLoop).desc = some ⟨[.int], some .int⟩ := by decide +kernel
def M_hasDestination : Mi := ((⟨"LoopUnroller", "hasDestination", "(I)Z"⟩ : MethodName), prog_1_method_25_code, 2, (some .boolean), 0, 0)
theorem pl_hasDestination : plainFor (mN M_hasDestination) = true := plainFor_of_name pcls
theorem nm_hasDestination : notMH M_hasDestination := nmh
theorem pd_hasDestination : parseMethodDescriptor (mN M_hasDestination).desc = some ⟨[.int], some .boolean⟩ := by decide +kernel
def M_isInvariantIf : Mi := ((⟨"LoopUnroller", "isInvariantIf", "(I)Z"⟩ : MethodName), prog_1_method_31_code, 6, (some .boolean), 1, 14)
theorem pl_isInvariantIf : plainFor (mN M_isInvariantIf) = true := plainFor_of_name pcls
theorem nm_isInvariantIf : notMH M_isInvariantIf := nmh
theorem pd_isInvariantIf : parseMethodDescriptor (mN M_isInvariantIf).desc = some ⟨[.int], some .boolean⟩ := by decide +kernel
def M_prepare : Mi := ((⟨"LoopUnroller", "prepare", "(Z)V"⟩ : MethodName), prog_1_method_32_code, 4, none, 2, 31)
theorem pl_prepare : plainFor (mN M_prepare) = true := plainFor_of_name pcls
theorem nm_prepare : notMH M_prepare := nmh
theorem pd_prepare : parseMethodDescriptor (mN M_prepare).desc = some ⟨[.boolean], none⟩ := by decide +kernel
def M_arith : Mi := ((⟨"LoopUnroller", "arith", "(I)I"⟩ : MethodName), prog_1_method_35_code, 5, (some .int), 0, 0)
theorem pl_arith : plainFor (mN M_arith) = true := plainFor_of_name pcls
theorem nm_arith : notMH M_arith := nmh
theorem pd_arith : parseMethodDescriptor (mN M_arith).desc = some ⟨[.int], some .int⟩ := by decide +kernel
def M_appendOutput : Mi := ((⟨"LoopUnroller", "appendOutput", "(I)V"⟩ : MethodName), prog_1_method_36_code, 2, none, 0, 0)
theorem pl_appendOutput : plainFor (mN M_appendOutput) = true := plainFor_of_name pcls
theorem nm_appendOutput : notMH M_appendOutput := nmh
theorem pd_appendOutput : parseMethodDescriptor (mN M_appendOutput).desc = some ⟨[.int], none⟩ := by decide +kernel
def M_tripCount : Mi := ((⟨"LoopUnroller", "tripCount", "(III)J"⟩ : MethodName), prog_1_method_37_code, 12, (some .long), 0, 0)
theorem pl_tripCount : plainFor (mN M_tripCount) = true := plainFor_of_name pcls
theorem nm_tripCount : notMH M_tripCount := nmh
theorem pd_tripCount : parseMethodDescriptor (mN M_tripCount).desc = some ⟨[.int, .int, .int], some .long⟩ := by decide +kernel
def M_decideGuards : Mi := ((⟨"LoopUnroller", "decideGuards", "(I)V"⟩ : MethodName), prog_1_method_39_code, 4, none, 0, 0)
theorem pl_decideGuards : plainFor (mN M_decideGuards) = true := plainFor_of_name pcls
theorem nm_decideGuards : notMH M_decideGuards := nmh
theorem pd_decideGuards : parseMethodDescriptor (mN M_decideGuards).desc = some ⟨[.int], none⟩ := by decide +kernel
def M_enterLoop : Mi := ((⟨"LoopUnroller", "enterLoop", "(I)V"⟩ : MethodName), prog_1_method_38_code, 7, none, 1, 23)
theorem pl_enterLoop : plainFor (mN M_enterLoop) = true := plainFor_of_name pcls
theorem nm_enterLoop : notMH M_enterLoop := nmh
theorem pd_enterLoop : parseMethodDescriptor (mN M_enterLoop).desc = some ⟨[.int], none⟩ := by decide +kernel
def M_endIteration : Mi := ((⟨"LoopUnroller", "endIteration", "(I)V"⟩ : MethodName), prog_1_method_40_code, 9, none, 0, 0)
theorem pl_endIteration : plainFor (mN M_endIteration) = true := plainFor_of_name pcls
theorem nm_endIteration : notMH M_endIteration := nmh
theorem pd_endIteration : parseMethodDescriptor (mN M_endIteration).desc = some ⟨[.int], none⟩ := by decide +kernel
def M_branch : Mi := ((⟨"LoopUnroller", "branch", "(I)V"⟩ : MethodName), prog_1_method_41_code, 3, none, 0, 0)
theorem pl_branch : plainFor (mN M_branch) = true := plainFor_of_name pcls
theorem nm_branch : notMH M_branch := nmh
theorem pd_branch : parseMethodDescriptor (mN M_branch).desc = some ⟨[.int], none⟩ := by decide +kernel
def M_executeAt : Mi := ((⟨"LoopUnroller", "executeAt", "(I)V"⟩ : MethodName), prog_1_method_34_code, 4, none, 2, 41)
theorem pl_executeAt : plainFor (mN M_executeAt) = true := plainFor_of_name pcls
theorem nm_executeAt : notMH M_executeAt := nmh
theorem pd_executeAt : parseMethodDescriptor (mN M_executeAt).desc = some ⟨[.int], none⟩ := by decide +kernel
def M_execute : Mi := ((⟨"LoopUnroller", "execute", "()V"⟩ : MethodName), prog_1_method_33_code, 3, none, 3, 56)
theorem pl_execute : plainFor (mN M_execute) = true := plainFor_of_name pcls
theorem nm_execute : notMH M_execute := nmh
theorem pd_execute : parseMethodDescriptor (mN M_execute).desc = some ⟨[], none⟩ := by decide +kernel
def M_run : Mi := ((⟨"LoopUnroller", "run", "(I)I"⟩ : MethodName), prog_1_method_12_code, 3, (some .int), 4, 70)
theorem pl_run : plainFor (mN M_run) = true := plainFor_of_name pcls
theorem nm_run : notMH M_run := nmh
theorem pd_run : parseMethodDescriptor (mN M_run).desc = some ⟨[.int], some .int⟩ := by decide +kernel
def M_lastStatus : Mi := ((⟨"LoopUnroller", "lastStatus", "()I"⟩ : MethodName), prog_1_method_13_code, 1, (some .int), 0, 0)
theorem pl_lastStatus : plainFor (mN M_lastStatus) = true := plainFor_of_name pcls
theorem nm_lastStatus : notMH M_lastStatus := nmh
theorem pd_lastStatus : parseMethodDescriptor (mN M_lastStatus).desc = some ⟨[], some .int⟩ := by decide +kernel
def M_outputCount : Mi := ((⟨"LoopUnroller", "outputCount", "()I"⟩ : MethodName), prog_1_method_14_code, 1, (some .int), 0, 0)
theorem pl_outputCount : plainFor (mN M_outputCount) = true := plainFor_of_name pcls
theorem nm_outputCount : notMH M_outputCount := nmh
theorem pd_outputCount : parseMethodDescriptor (mN M_outputCount).desc = some ⟨[], some .int⟩ := by decide +kernel
def M_output : Mi := ((⟨"LoopUnroller", "output", "(I)I"⟩ : MethodName), prog_1_method_15_code, 2, (some .int), 0, 0)
theorem pl_output : plainFor (mN M_output) = true := plainFor_of_name pcls
theorem nm_output : notMH M_output := nmh
theorem pd_output : parseMethodDescriptor (mN M_output).desc = some ⟨[.int], some .int⟩ := by decide +kernel
def M_hdue : Mi := ((⟨"LoopUnrollerL3", "due", "(JJZII)I"⟩ : MethodName), method_2_code, 7, (some .int), 0, 0)
theorem pl_hdue : plainFor (mN M_hdue) = true := plainFor_of_name pclsL
theorem nm_hdue : notMH M_hdue := nmhL
theorem pd_hdue : parseMethodDescriptor (mN M_hdue).desc = some ⟨[.long, .long, .boolean, .int, .int], some .int⟩ := by decide +kernel
def M_finalVar : Mi := ((⟨"LoopUnroller", "finalVar", "(I)I"⟩ : MethodName), prog_1_method_16_code, 2, (some .int), 1, 13)
theorem pl_finalVar : plainFor (mN M_finalVar) = true := plainFor_of_name pcls
theorem nm_finalVar : notMH M_finalVar := nmh
theorem pd_finalVar : parseMethodDescriptor (mN M_finalVar).desc = some ⟨[.int], some .int⟩ := by decide +kernel
def M_law : Mi := (x, code, maxLocals, ret, 5, 84)
theorem pl_law : plainFor (mN M_law) = true := plainFor_of_name (by first | (simp [plainName, overriddenIn, x]; done) | decide +kernel)
def c3 : List (Nat × Instr × Nat) := [(0, .iconst 0, 1), (1, .istore_n 1, 1), (2, .iload_n 1, 1), (3, .bipush 24, 2), (5, .if_icmp .ge 44, 3), (8, .aload_n 0, 1), (9, .getfield 7, 3), (12, .iload_n 1, 1), (13, .iconst 0, 1), (14, .iastore, 1), (15, .aload_n 0, 1), (16, .getfield 13, 3), (19, .iload_n 1, 1), (20, .iconst 0, 1), (21, .iastore, 1), (22, .aload_n 0, 1), (23, .getfield 16, 3), (26, .iload_n 1, 1), (27, .iconst 0, 1), (28, .iastore, 1), (29, .aload_n 0, 1), (30, .getfield 19, 3), (33, .iload_n 1, 1), (34, .iconst 0, 1), (35, .iastore, 1), (36, .aload_n 0, 1), (37, .getfield 22, 3), (40, .iload_n 1, 1), (41, .iconst (-1), 1), (42, .iastore, 1), (43, .iinc 1 1, 3), (46, .goto (-44), 3), (49, .aload_n 0, 1), (50, .iconst 0, 1), (51, .putfield 90, 3), (54, .return_, 1)]
theorem D3 : decs prog_1_method_17_code c3 = true := by decide +kernel
theorem d3 (k : Nat) {p : Nat} {i : Instr} {n : Nat} (h : c3[k]? = some (p, i, n)) : decode prog_1_method_17_code p = .ok (i, n) := dget D3 h
def c4 : List (Nat × Instr × Nat) := [(0, .iconst 0, 1), (1, .istore_n 1, 1), (2, .iload_n 1, 1), (3, .iconst 4, 1), (4, .if_icmp .ge 30, 3), (7, .aload_n 0, 1), (8, .getfield 25, 3), (11, .iload_n 1, 1), (12, .iconst 0, 1), (13, .iastore, 1), (14, .aload_n 0, 1), (15, .getfield 28, 3), (18, .iload_n 1, 1), (19, .iconst (-1), 1), (20, .iastore, 1), (21, .aload_n 0, 1), (22, .getfield 31, 3), (25, .iload_n 1, 1), (26, .iconst 0, 1), (27, .bastore, 1), (28, .iinc 1 1, 3), (31, .goto (-29), 3), (34, .aload_n 0, 1), (35, .iconst 0, 1), (36, .putfield 114, 3), (39, .aload_n 0, 1), (40, .iconst 0, 1), (41, .putfield 140, 3), (44, .return_, 1)]
theorem D4 : decs prog_1_method_18_code c4 = true := by decide +kernel
theorem d4 (k : Nat) {p : Nat} {i : Instr} {n : Nat} (h : c4[k]? = some (p, i, n)) : decode prog_1_method_18_code p = .ok (i, n) := dget D4 h
def c5 : List (Nat × Instr × Nat) := [(0, .aload_n 0, 1), (1, .iconst 0, 1), (2, .putfield 134, 3), (5, .aload_n 0, 1), (6, .iconst 0, 1), (7, .putfield 137, 3), (10, .iconst 0, 1), (11, .istore_n 1, 1), (12, .iload_n 1, 1), (13, .bipush 32, 2), (15, .if_icmp .ge 16, 3), (18, .aload_n 0, 1), (19, .getfield 38, 3), (22, .iload_n 1, 1), (23, .iconst 0, 1), (24, .iastore, 1), (25, .iinc 1 1, 3), (28, .goto (-16), 3), (31, .iconst 0, 1), (32, .istore_n 1, 1), (33, .iload_n 1, 1), (34, .bipush 8, 2), (36, .if_icmp .ge 16, 3), (39, .aload_n 0, 1), (40, .getfield 41, 3), (43, .iload_n 1, 1), (44, .iconst 0, 1), (45, .iastore, 1), (46, .iinc 1 1, 3), (49, .goto (-16), 3), (52, .return_, 1)]
theorem D5 : decs prog_1_method_19_code c5 = true := by decide +kernel
theorem d5 (k : Nat) {p : Nat} {i : Instr} {n : Nat} (h : c5[k]? = some (p, i, n)) : decode prog_1_method_19_code p = .ok (i, n) := dget D5 h
def c2 : List (Nat × Instr × Nat) := [(0, .aload_n 0, 1), (1, .invokevirtual 77, 3), (4, .aload_n 0, 1), (5, .invokevirtual 80, 3), (8, .iconst 0, 1), (9, .istore_n 1, 1), (10, .iload_n 1, 1), (11, .bipush 8, 2), (13, .if_icmp .ge 16, 3), (16, .aload_n 0, 1), (17, .getfield 35, 3), (20, .iload_n 1, 1), (21, .iconst 0, 1), (22, .iastore, 1), (23, .iinc 1 1, 3), (26, .goto (-16), 3), (29, .aload_n 0, 1), (30, .iconst 0, 1), (31, .putfield 83, 3), (34, .aload_n 0, 1), (35, .invokevirtual 87, 3), (38, .return_, 1)]
theorem D2 : decs prog_1_method_2_code c2 = true := by decide +kernel
theorem d2 (k : Nat) {p : Nat} {i : Instr} {n : Nat} (h : c2[k]? = some (p, i, n)) : decode prog_1_method_2_code p = .ok (i, n) := dget D2 h
def c0 : List (Nat × Instr × Nat) := [(0, .aload_n 0, 1), (1, .invokespecial 1, 3), (4, .aload_n 0, 1), (5, .bipush 24, 2), (7, .newarray .int, 2), (9, .putfield 7, 3), (12, .aload_n 0, 1), (13, .bipush 24, 2), (15, .newarray .int, 2), (17, .putfield 13, 3), (20, .aload_n 0, 1), (21, .bipush 24, 2), (23, .newarray .int, 2), (25, .putfield 16, 3), (28, .aload_n 0, 1), (29, .bipush 24, 2), (31, .newarray .int, 2), (33, .putfield 19, 3), (36, .aload_n 0, 1), (37, .bipush 24, 2), (39, .newarray .int, 2), (41, .putfield 22, 3), (44, .aload_n 0, 1), (45, .iconst 4, 1), (46, .newarray .int, 2), (48, .putfield 25, 3), (51, .aload_n 0, 1), (52, .iconst 4, 1), (53, .newarray .int, 2), (55, .putfield 28, 3), (58, .aload_n 0, 1), (59, .iconst 4, 1), (60, .newarray .boolean, 2), (62, .putfield 31, 3), (65, .aload_n 0, 1), (66, .bipush 8, 2), (68, .newarray .int, 2), (70, .putfield 35, 3), (73, .aload_n 0, 1), (74, .bipush 32, 2), (76, .newarray .int, 2), (78, .putfield 38, 3), (81, .aload_n 0, 1), (82, .bipush 8, 2), (84, .newarray .int, 2), (86, .putfield 41, 3), (89, .aload_n 0, 1), (90, .bipush 8, 2), (92, .newarray .int, 2), (94, .putfield 44, 3), (97, .aload_n 0, 1), (98, .iconst 2, 1), (99, .newarray .int, 2), (101, .putfield 47, 3), (104, .aload_n 0, 1), (105, .iconst 2, 1), (106, .newarray .int, 2), (108, .putfield 50, 3), (111, .aload_n 0, 1), (112, .iconst 2, 1), (113, .newarray .int, 2), (115, .putfield 53, 3), (118, .aload_n 0, 1), (119, .iconst 2, 1), (120, .newarray .int, 2), (122, .putfield 56, 3), (125, .aload_n 0, 1), (126, .iconst 2, 1), (127, .newarray .int, 2), (129, .putfield 59, 3), (132, .aload_n 0, 1), (133, .bipush 24, 2), (135, .newarray .boolean, 2), (137, .putfield 62, 3), (140, .aload_n 0, 1), (141, .bipush 24, 2), (143, .newarray .int, 2), (145, .putfield 65, 3), (148, .aload_n 0, 1), (149, .bipush 24, 2), (151, .newarray .boolean, 2), (153, .putfield 68, 3), (156, .aload_n 0, 1), (157, .bipush 24, 2), (159, .newarray .boolean, 2), (161, .putfield 71, 3), (164, .aload_n 0, 1), (165, .invokevirtual 74, 3), (168, .return_, 1)]
theorem D0 : decs prog_1_method_1_code c0 = true := by decide +kernel
theorem d0 (k : Nat) {p : Nat} {i : Instr} {n : Nat} (h : c0[k]? = some (p, i, n)) : decode prog_1_method_1_code p = .ok (i, n) := dget D0 h
def c7 : List (Nat × Instr × Nat) := [(0, .iload_n 1, 1), (1, .ifCond .lt 13, 3), (4, .iload_n 1, 1), (5, .bipush 8, 2), (7, .if_icmp .ge 7, 3), (10, .iconst 1, 1), (11, .goto 4, 3), (14, .iconst 0, 1), (15, .ireturn, 1)]
theorem D7 : decs prog_1_method_20_code c7 = true := by decide +kernel
theorem d7 (k : Nat) {p : Nat} {i : Instr} {n : Nat} (h : c7[k]? = some (p, i, n)) : decode prog_1_method_20_code p = .ok (i, n) := dget D7 h
def c6 : List (Nat × Instr × Nat) := [(0, .aload_n 0, 1), (1, .iload_n 1, 1), (2, .invokevirtual 117, 3), (5, .ifCond .ne 5, 3), (8, .iconst 0, 1), (9, .ireturn, 1), (10, .aload_n 0, 1), (11, .getfield 35, 3), (14, .iload_n 1, 1), (15, .iload_n 2, 1), (16, .iastore, 1), (17, .iconst 1, 1), (18, .ireturn, 1)]
theorem D6 : decs prog_1_method_7_code c6 = true := by decide +kernel
theorem d6 (k : Nat) {p : Nat} {i : Instr} {n : Nat} (h : c6[k]? = some (p, i, n)) : decode prog_1_method_7_code p = .ok (i, n) := dget D6 h
def c10 : List (Nat × Instr × Nat) := [(0, .iload_n 1, 1), (1, .bipush 10, 2), (3, .if_icmp .le 9, 3), (6, .iload_n 1, 1), (7, .bipush 12, 2), (9, .if_icmp .ne 7, 3), (12, .iconst 1, 1), (13, .goto 4, 3), (16, .iconst 0, 1), (17, .ireturn, 1)]
theorem D10 : decs prog_1_method_21_code c10 = true := by decide +kernel
theorem d10 (k : Nat) {p : Nat} {i : Instr} {n : Nat} (h : c10[k]? = some (p, i, n)) : decode prog_1_method_21_code p = .ok (i, n) := dget D10 h
def c11 : List (Nat × Instr × Nat) := [(0, .iload_n 1, 1), (1, .iconst 2, 1), (2, .if_icmp .lt 9, 3), (5, .iload_n 1, 1), (6, .bipush 8, 2), (8, .if_icmp .le 9, 3), (11, .iload_n 1, 1), (12, .bipush 10, 2), (14, .if_icmp .ne 7, 3), (17, .iconst 1, 1), (18, .goto 4, 3), (21, .iconst 0, 1), (22, .ireturn, 1)]
theorem D11 : decs prog_1_method_22_code c11 = true := by decide +kernel
theorem d11 (k : Nat) {p : Nat} {i : Instr} {n : Nat} (h : c11[k]? = some (p, i, n)) : decode prog_1_method_22_code p = .ok (i, n) := dget D11 h
def c12 : List (Nat × Instr × Nat) := [(0, .iload_n 1, 1), (1, .iconst 2, 1), (2, .if_icmp .lt 13, 3), (5, .iload_n 1, 1), (6, .bipush 7, 2), (8, .if_icmp .gt 7, 3), (11, .iconst 1, 1), (12, .goto 4, 3), (15, .iconst 0, 1), (16, .ireturn, 1)]
theorem D12 : decs prog_1_method_24_code c12 = true := by decide +kernel
theorem d12 (k : Nat) {p : Nat} {i : Instr} {n : Nat} (h : c12[k]? = some (p, i, n)) : decode prog_1_method_24_code p = .ok (i, n) := dget D12 h
def c9 : List (Nat × Instr × Nat) := [(0, .aload_n 0, 1), (1, .iload_n 1, 1), (2, .invokevirtual 101, 3), (5, .ifCond .eq 13, 3), (8, .aload_n 0, 1), (9, .iload_n 2, 1), (10, .invokevirtual 117, 3), (13, .ifCond .ne 5, 3), (16, .iconst 0, 1), (17, .ireturn, 1), (18, .aload_n 0, 1), (19, .iload_n 1, 1), (20, .invokevirtual 104, 3), (23, .ifCond .eq 13, 3), (26, .aload_n 0, 1), (27, .iload_n 3, 1), (28, .invokevirtual 117, 3), (31, .ifCond .ne 5, 3), (34, .iconst 0, 1), (35, .ireturn, 1), (36, .aload_n 0, 1), (37, .iload_n 1, 1), (38, .invokevirtual 143, 3), (41, .ifCond .eq 14, 3), (44, .aload_n 0, 1), (45, .iload 4, 2), (47, .invokevirtual 117, 3), (50, .ifCond .ne 5, 3), (53, .iconst 0, 1), (54, .ireturn, 1), (55, .iload_n 1, 1), (56, .bipush 10, 2), (58, .if_icmp .ne 24, 3), (61, .iload 4, 2), (63, .bipush (-128), 2), (65, .if_icmp .lt 15, 3), (68, .iload 4, 2), (70, .bipush 127, 2), (72, .if_icmp .gt 8, 3), (75, .iload 4, 2), (77, .ifCond .ne 5, 3), (80, .iconst 0, 1), (81, .ireturn, 1), (82, .iconst 1, 1), (83, .ireturn, 1)]
theorem D9 : decs prog_1_method_26_code c9 = true := by decide +kernel
theorem d9 (k : Nat) {p : Nat} {i : Instr} {n : Nat} (h : c9[k]? = some (p, i, n)) : decode prog_1_method_26_code p = .ok (i, n) := dget D9 h
def c13 : List (Nat × Instr × Nat) := [(0, .aload_n 0, 1), (1, .getfield 114, 3), (4, .iconst 1, 1), (5, .isub, 1), (6, .istore_n 2, 1), (7, .iload_n 1, 1), (8, .bipush 10, 2), (10, .if_icmp .ne 25, 3), (13, .aload_n 0, 1), (14, .getfield 114, 3), (17, .iconst 4, 1), (18, .if_icmp .ge 15, 3), (21, .aload_n 0, 1), (22, .getfield 140, 3), (25, .iconst 2, 1), (26, .if_icmp .ge 7, 3), (29, .iconst 1, 1), (30, .goto 4, 3), (33, .iconst 0, 1), (34, .ireturn, 1), (35, .iload_n 1, 1), (36, .bipush 12, 2), (38, .if_icmp .ne 17, 3), (41, .aload_n 0, 1), (42, .getfield 114, 3), (45, .iconst 4, 1), (46, .if_icmp .ge 7, 3), (49, .iconst 1, 1), (50, .goto 4, 3), (53, .iconst 0, 1), (54, .ireturn, 1), (55, .iload_n 1, 1), (56, .bipush 13, 2), (58, .if_icmp .ne 31, 3), (61, .iload_n 2, 1), (62, .ifCond .lt 25, 3), (65, .aload_n 0, 1), (66, .getfield 31, 3), (69, .iload_n 2, 1), (70, .baload, 1), (71, .ifCond .ne 16, 3), (74, .aload_n 0, 1), (75, .getfield 28, 3), (78, .iload_n 2, 1), (79, .iaload, 1), (80, .ifCond .ge 7, 3), (83, .iconst 1, 1), (84, .goto 4, 3), (87, .iconst 0, 1), (88, .ireturn, 1), (89, .iload_n 1, 1), (90, .bipush 11, 2), (92, .if_icmp .ne 22, 3), (95, .iload_n 2, 1), (96, .ifCond .lt 16, 3), (99, .aload_n 0, 1), (100, .getfield 31, 3), (103, .iload_n 2, 1), (104, .baload, 1), (105, .ifCond .eq 7, 3), (108, .iconst 1, 1), (109, .goto 4, 3), (112, .iconst 0, 1), (113, .ireturn, 1), (114, .iload_n 1, 1), (115, .bipush 14, 2), (117, .if_icmp .ne 22, 3), (120, .iload_n 2, 1), (121, .ifCond .lt 16, 3), (124, .aload_n 0, 1), (125, .getfield 31, 3), (128, .iload_n 2, 1), (129, .baload, 1), (130, .ifCond .ne 7, 3), (133, .iconst 1, 1), (134, .goto 4, 3), (137, .iconst 0, 1), (138, .ireturn, 1), (139, .iconst 1, 1), (140, .ireturn, 1)]
theorem D13 : decs prog_1_method_27_code c13 = true := by decide +kernel
theorem d13 (k : Nat) {p : Nat} {i : Instr} {n : Nat} (h : c13[k]? = some (p, i, n)) : decode prog_1_method_27_code p = .ok (i, n) := dget D13 h
def c14 : List (Nat × Instr × Nat) := [(0, .iload_n 1, 1), (1, .bipush 8, 2), (3, .if_icmp .le 9, 3), (6, .iload_n 1, 1), (7, .bipush 10, 2), (9, .if_icmp .ne 7, 3), (12, .iconst 1, 1), (13, .goto 4, 3), (16, .iconst 0, 1), (17, .ireturn, 1)]
theorem D14 : decs prog_1_method_23_code c14 = true := by decide +kernel
theorem d14 (k : Nat) {p : Nat} {i : Instr} {n : Nat} (h : c14[k]? = some (p, i, n)) : decode prog_1_method_23_code p = .ok (i, n) := dget D14 h
def c16 : List (Nat × Instr × Nat) := [(0, .aload_n 0, 1), (1, .getfield 28, 3), (4, .iload_n 1, 1), (5, .iaload, 1), (6, .ifCond .lt 18, 3), (9, .aload_n 0, 1), (10, .getfield 22, 3), (13, .aload_n 0, 1), (14, .getfield 28, 3), (17, .iload_n 1, 1), (18, .iaload, 1), (19, .iload_n 2, 1), (20, .iastore, 1), (21, .goto 15, 3), (24, .aload_n 0, 1), (25, .getfield 22, 3), (28, .aload_n 0, 1), (29, .getfield 25, 3), (32, .iload_n 1, 1), (33, .iaload, 1), (34, .iload_n 2, 1), (35, .iastore, 1), (36, .aload_n 0, 1), (37, .getfield 22, 3), (40, .iload_n 2, 1), (41, .aload_n 0, 1), (42, .getfield 25, 3), (45, .iload_n 1, 1), (46, .iaload, 1), (47, .iastore, 1), (48, .aload_n 0, 1), (49, .iload_n 1, 1), (50, .putfield 114, 3), (53, .return_, 1)]
theorem D16 : decs prog_1_method_29_code c16 = true := by decide +kernel
theorem d16 (k : Nat) {p : Nat} {i : Instr} {n : Nat} (h : c16[k]? = some (p, i, n)) : decode prog_1_method_29_code p = .ok (i, n) := dget D16 h
def c15 : List (Nat × Instr × Nat) := [(0, .aload_n 0, 1), (1, .getfield 114, 3), (4, .iconst 1, 1), (5, .isub, 1), (6, .istore_n 3, 1), (7, .iload_n 1, 1), (8, .bipush 10, 2), (10, .if_icmp .eq 9, 3), (13, .iload_n 1, 1), (14, .bipush 12, 2), (16, .if_icmp .ne 78, 3), (19, .aload_n 0, 1), (20, .getfield 114, 3), (23, .iconst 4, 1), (24, .if_icmp .ge 69, 3), (27, .aload_n 0, 1), (28, .getfield 25, 3), (31, .aload_n 0, 1), (32, .getfield 114, 3), (35, .iload_n 2, 1), (36, .iastore, 1), (37, .aload_n 0, 1), (38, .getfield 28, 3), (41, .aload_n 0, 1), (42, .getfield 114, 3), (45, .iconst (-1), 1), (46, .iastore, 1), (47, .aload_n 0, 1), (48, .getfield 31, 3), (51, .aload_n 0, 1), (52, .getfield 114, 3), (55, .iload_n 1, 1), (56, .bipush 10, 2), (58, .if_icmp .ne 7, 3), (61, .iconst 1, 1), (62, .goto 4, 3), (65, .iconst 0, 1), (66, .bastore, 1), (67, .aload_n 0, 1), (68, .dup, 1), (69, .getfield 114, 3), (72, .iconst 1, 1), (73, .iadd, 1), (74, .putfield 114, 3), (77, .iload_n 1, 1), (78, .bipush 10, 2), (80, .if_icmp .ne 13, 3), (83, .aload_n 0, 1), (84, .dup, 1), (85, .getfield 140, 3), (88, .iconst 1, 1), (89, .iadd, 1), (90, .putfield 140, 3), (93, .return_, 1), (94, .iload_n 3, 1), (95, .ifCond .ge 4, 3), (98, .return_, 1), (99, .iload_n 1, 1), (100, .bipush 13, 2), (102, .if_icmp .ne 25, 3), (105, .aload_n 0, 1), (106, .getfield 28, 3), (109, .iload_n 3, 1), (110, .iload_n 2, 1), (111, .iastore, 1), (112, .aload_n 0, 1), (113, .getfield 22, 3), (116, .aload_n 0, 1), (117, .getfield 25, 3), (120, .iload_n 3, 1), (121, .iaload, 1), (122, .iload_n 2, 1), (123, .iastore, 1), (124, .goto 63, 3), (127, .iload_n 1, 1), (128, .bipush 11, 2), (130, .if_icmp .ne 45, 3), (133, .aload_n 0, 1), (134, .getfield 22, 3), (137, .aload_n 0, 1), (138, .getfield 25, 3), (141, .iload_n 3, 1), (142, .iaload, 1), (143, .iload_n 2, 1), (144, .iastore, 1), (145, .aload_n 0, 1), (146, .getfield 22, 3), (149, .iload_n 2, 1), (150, .aload_n 0, 1), (151, .getfield 25, 3), (154, .iload_n 3, 1), (155, .iaload, 1), (156, .iastore, 1), (157, .aload_n 0, 1), (158, .iload_n 3, 1), (159, .putfield 114, 3), (162, .aload_n 0, 1), (163, .dup, 1), (164, .getfield 140, 3), (167, .iconst 1, 1), (168, .isub, 1), (169, .putfield 140, 3), (172, .goto 15, 3), (175, .iload_n 1, 1), (176, .bipush 14, 2), (178, .if_icmp .ne 9, 3), (181, .aload_n 0, 1), (182, .iload_n 3, 1), (183, .iload_n 2, 1), (184, .invokevirtual 146, 3), (187, .return_, 1)]
theorem D15 : decs prog_1_method_28_code c15 = true := by decide +kernel
theorem d15 (k : Nat) {p : Nat} {i : Instr} {n : Nat} (h : c15[k]? = some (p, i, n)) : decode prog_1_method_28_code p = .ok (i, n) := dget D15 h
def c8 : List (Nat × Instr × Nat) := [(0, .aload_n 0, 1), (1, .getfield 90, 3), (4, .bipush 24, 2), (6, .if_icmp .lt 5, 3), (9, .iconst 0, 1), (10, .ireturn, 1), (11, .iload_n 1, 1), (12, .iconst 1, 1), (13, .if_icmp .lt 9, 3), (16, .iload_n 1, 1), (17, .bipush 14, 2), (19, .if_icmp .le 5, 3), (22, .iconst 0, 1), (23, .ireturn, 1), (24, .aload_n 0, 1), (25, .iload_n 1, 1), (26, .iload_n 2, 1), (27, .iload_n 3, 1), (28, .iload 4, 2), (30, .invokevirtual 93, 3), (33, .ifCond .ne 5, 3), (36, .iconst 0, 1), (37, .ireturn, 1), (38, .aload_n 0, 1), (39, .iload_n 1, 1), (40, .invokevirtual 97, 3), (43, .ifCond .ne 5, 3), (46, .iconst 0, 1), (47, .ireturn, 1), (48, .aload_n 0, 1), (49, .getfield 90, 3), (52, .istore 5, 2), (54, .aload_n 0, 1), (55, .getfield 7, 3), (58, .iload 5, 2), (60, .iload_n 1, 1), (61, .iastore, 1), (62, .aload_n 0, 1), (63, .getfield 13, 3), (66, .iload 5, 2), (68, .aload_n 0, 1), (69, .iload_n 1, 1), (70, .invokevirtual 101, 3), (73, .ifCond .eq 7, 3), (76, .iload_n 2, 1), (77, .goto 4, 3), (80, .iconst 0, 1), (81, .iastore, 1), (82, .aload_n 0, 1), (83, .getfield 16, 3), (86, .iload 5, 2), (88, .aload_n 0, 1), (89, .iload_n 1, 1), (90, .invokevirtual 104, 3), (93, .ifCond .eq 7, 3), (96, .iload_n 3, 1), (97, .goto 4, 3), (100, .iconst 0, 1), (101, .iastore, 1), (102, .aload_n 0, 1), (103, .getfield 19, 3), (106, .iload 5, 2), (108, .aload_n 0, 1), (109, .iload_n 1, 1), (110, .invokevirtual 107, 3), (113, .ifCond .eq 8, 3), (116, .iload 4, 2), (118, .goto 4, 3), (121, .iconst 0, 1), (122, .iastore, 1), (123, .aload_n 0, 1), (124, .getfield 22, 3), (127, .iload 5, 2), (129, .iconst (-1), 1), (130, .iastore, 1), (131, .aload_n 0, 1), (132, .iload 5, 2), (134, .iconst 1, 1), (135, .iadd, 1), (136, .putfield 90, 3), (139, .aload_n 0, 1), (140, .iload_n 1, 1), (141, .iload 5, 2), (143, .invokevirtual 110, 3), (146, .aload_n 0, 1), (147, .iconst 0, 1), (148, .putfield 83, 3), (151, .iconst 1, 1), (152, .ireturn, 1)]
theorem D8 : decs prog_1_method_3_code c8 = true := by decide +kernel
theorem d8 (k : Nat) {p : Nat} {i : Instr} {n : Nat} (h : c8[k]? = some (p, i, n)) : decode prog_1_method_3_code p = .ok (i, n) := dget D8 h
def c17 : List (Nat × Instr × Nat) := [(0, .aload_n 0, 1), (1, .getfield 114, 3), (4, .ifCond .eq 5, 3), (7, .iconst 0, 1), (8, .ireturn, 1), (9, .iload_n 1, 1), (10, .istore_n 2, 1), (11, .iload_n 2, 1), (12, .iconst 1, 1), (13, .if_icmp .ge 5, 3), (16, .iconst 1, 1), (17, .istore_n 2, 1), (18, .iload_n 2, 1), (19, .bipush 8, 2), (21, .if_icmp .le 6, 3), (24, .bipush 8, 2), (26, .istore_n 2, 1), (27, .aload_n 0, 1), (28, .iload_n 2, 1), (29, .putfield 83, 3), (32, .iconst 1, 1), (33, .ireturn, 1)]
theorem D17 : decs prog_1_method_10_code c17 = true := by decide +kernel
theorem d17 (k : Nat) {p : Nat} {i : Instr} {n : Nat} (h : c17[k]? = some (p, i, n)) : decode prog_1_method_10_code p = .ok (i, n) := dget D17 h
def c21 : List (Nat × Instr × Nat) := [(0, .iload_n 1, 1), (1, .iconst 1, 1), (2, .isub, 1), (3, .istore_n 2, 1), (4, .iload_n 2, 1), (5, .ifCond .lt 32, 3), (8, .aload_n 0, 1), (9, .getfield 7, 3), (12, .iload_n 2, 1), (13, .iaload, 1), (14, .bipush 10, 2), (16, .if_icmp .ne 15, 3), (19, .aload_n 0, 1), (20, .getfield 22, 3), (23, .iload_n 2, 1), (24, .iaload, 1), (25, .iload_n 1, 1), (26, .if_icmp .le 5, 3), (29, .iload_n 2, 1), (30, .ireturn, 1), (31, .iinc 2 (-1), 3), (34, .goto (-30), 3), (37, .iconst (-1), 1), (38, .ireturn, 1)]
theorem D21 : decs prog_1_method_30_code c21 = true := by decide +kernel
theorem d21 (k : Nat) {p : Nat} {i : Instr} {n : Nat} (h : c21[k]? = some (p, i, n)) : decode prog_1_method_30_code p = .ok (i, n) := dget D21 h
def c22 : List (Nat × Instr × Nat) := [(0, .iload_n 1, 1), (1, .iconst 1, 1), (2, .if_icmp .lt 9, 3), (5, .iload_n 1, 1), (6, .bipush 8, 2), (8, .if_icmp .le 9, 3), (11, .iload_n 1, 1), (12, .bipush 10, 2), (14, .if_icmp .ne 7, 3), (17, .iconst 1, 1), (18, .goto 4, 3), (21, .iconst 0, 1), (22, .ireturn, 1)]
theorem D22 : decs prog_1_method_25_code c22 = true := by decide +kernel
theorem d22 (k : Nat) {p : Nat} {i : Instr} {n : Nat} (h : c22[k]? = some (p, i, n)) : decode prog_1_method_25_code p = .ok (i, n) := dget D22 h
def c20 : List (Nat × Instr × Nat) := [(0, .aload_n 0, 1), (1, .iload_n 1, 1), (2, .invokevirtual 149, 3), (5, .istore_n 2, 1), (6, .iload_n 2, 1), (7, .ifCond .ge 5, 3), (10, .iconst 0, 1), (11, .ireturn, 1), (12, .aload_n 0, 1), (13, .getfield 13, 3), (16, .iload_n 1, 1), (17, .iaload, 1), (18, .istore_n 3, 1), (19, .iload_n 3, 1), (20, .aload_n 0, 1), (21, .getfield 13, 3), (24, .iload_n 2, 1), (25, .iaload, 1), (26, .if_icmp .ne 5, 3), (29, .iconst 0, 1), (30, .ireturn, 1), (31, .aload_n 0, 1), (32, .getfield 22, 3), (35, .iload_n 2, 1), (36, .iaload, 1), (37, .istore 4, 2), (39, .iload_n 2, 1), (40, .iconst 1, 1), (41, .iadd, 1), (42, .istore 5, 2), (44, .iload 5, 2), (46, .iload 4, 2), (48, .if_icmp .ge 45, 3), (51, .iload 5, 2), (53, .aload_n 0, 1), (54, .getfield 90, 3), (57, .if_icmp .ge 36, 3), (60, .aload_n 0, 1), (61, .aload_n 0, 1), (62, .getfield 7, 3), (65, .iload 5, 2), (67, .iaload, 1), (68, .invokevirtual 153, 3), (71, .ifCond .eq 16, 3), (74, .aload_n 0, 1), (75, .getfield 13, 3), (78, .iload 5, 2), (80, .iaload, 1), (81, .iload_n 3, 1), (82, .if_icmp .ne 5, 3), (85, .iconst 0, 1), (86, .ireturn, 1), (87, .iinc 5 1, 3), (90, .goto (-46), 3), (93, .iconst 1, 1), (94, .ireturn, 1)]
theorem D20 : decs prog_1_method_31_code c20 = true := by decide +kernel
theorem d20 (k : Nat) {p : Nat} {i : Instr} {n : Nat} (h : c20[k]? = some (p, i, n)) : decode prog_1_method_31_code p = .ok (i, n) := dget D20 h
def c19 : List (Nat × Instr × Nat) := [(0, .aload_n 0, 1), (1, .iload_n 1, 1), (2, .ifCond .eq 10, 3), (5, .aload_n 0, 1), (6, .getfield 83, 3), (9, .goto 4, 3), (12, .iconst 1, 1), (13, .putfield 156, 3), (16, .aload_n 0, 1), (17, .getfield 156, 3), (20, .iconst 1, 1), (21, .if_icmp .ge 8, 3), (24, .aload_n 0, 1), (25, .iconst 1, 1), (26, .putfield 156, 3), (29, .iconst 0, 1), (30, .istore_n 2, 1), (31, .iload_n 2, 1), (32, .bipush 24, 2), (34, .if_icmp .ge 86, 3), (37, .aload_n 0, 1), (38, .getfield 68, 3), (41, .iload_n 2, 1), (42, .iconst 0, 1), (43, .bastore, 1), (44, .aload_n 0, 1), (45, .getfield 71, 3), (48, .iload_n 2, 1), (49, .iconst 0, 1), (50, .bastore, 1), (51, .iload_n 1, 1), (52, .ifCond .eq 34, 3), (55, .iload_n 2, 1), (56, .aload_n 0, 1), (57, .getfield 90, 3), (60, .if_icmp .ge 26, 3), (63, .aload_n 0, 1), (64, .getfield 7, 3), (67, .iload_n 2, 1), (68, .iaload, 1), (69, .bipush 12, 2), (71, .if_icmp .ne 15, 3), (74, .aload_n 0, 1), (75, .iload_n 2, 1), (76, .invokevirtual 120, 3), (79, .ifCond .eq 7, 3), (82, .iconst 1, 1), (83, .goto 4, 3), (86, .iconst 0, 1), (87, .istore_n 3, 1), (88, .aload_n 0, 1), (89, .getfield 62, 3), (92, .iload_n 2, 1), (93, .iload_n 3, 1), (94, .bastore, 1), (95, .aload_n 0, 1), (96, .getfield 65, 3), (99, .iload_n 2, 1), (100, .iload_n 3, 1), (101, .ifCond .eq 11, 3), (104, .aload_n 0, 1), (105, .iload_n 2, 1), (106, .invokevirtual 149, 3), (109, .goto 4, 3), (112, .iconst (-1), 1), (113, .iastore, 1), (114, .iinc 2 1, 3), (117, .goto (-86), 3), (120, .return_, 1)]
theorem D19 : decs prog_1_method_32_code c19 = true := by decide +kernel
theorem d19 (k : Nat) {p : Nat} {i : Instr} {n : Nat} (h : c19[k]? = some (p, i, n)) : decode prog_1_method_32_code p = .ok (i, n) := dget D19 h
def c29 : List (Nat × Instr × Nat) := [(0, .aload_n 0, 1), (1, .getfield 7, 3), (4, .iload_n 1, 1), (5, .iaload, 1), (6, .istore_n 2, 1), (7, .iload_n 2, 1), (8, .iconst 1, 1), (9, .if_icmp .ne 10, 3), (12, .aload_n 0, 1), (13, .getfield 19, 3), (16, .iload_n 1, 1), (17, .iaload, 1), (18, .ireturn, 1), (19, .aload_n 0, 1), (20, .getfield 44, 3), (23, .aload_n 0, 1), (24, .getfield 16, 3), (27, .iload_n 1, 1), (28, .iaload, 1), (29, .iaload, 1), (30, .istore_n 3, 1), (31, .iload_n 2, 1), (32, .bipush 8, 2), (34, .if_icmp .ne 12, 3), (37, .iload_n 3, 1), (38, .aload_n 0, 1), (39, .getfield 19, 3), (42, .iload_n 1, 1), (43, .iaload, 1), (44, .iadd, 1), (45, .ireturn, 1), (46, .aload_n 0, 1), (47, .getfield 44, 3), (50, .aload_n 0, 1), (51, .getfield 19, 3), (54, .iload_n 1, 1), (55, .iaload, 1), (56, .iaload, 1), (57, .istore 4, 2), (59, .iload_n 2, 1), (60, .tableswitch 61 2 6 #[36, 41, 46, 51, 56], 36), (96, .iload_n 3, 1), (97, .iload 4, 2), (99, .iadd, 1), (100, .ireturn, 1), (101, .iload_n 3, 1), (102, .iload 4, 2), (104, .isub, 1), (105, .ireturn, 1), (106, .iload_n 3, 1), (107, .iload 4, 2), (109, .imul, 1), (110, .ireturn, 1), (111, .iload_n 3, 1), (112, .iload 4, 2), (114, .iand, 1), (115, .ireturn, 1), (116, .iload_n 3, 1), (117, .iload 4, 2), (119, .ixor, 1), (120, .ireturn, 1), (121, .iload_n 3, 1), (122, .iload 4, 2), (124, .if_icmp .ge 7, 3), (127, .iconst 1, 1), (128, .goto 4, 3), (131, .iconst 0, 1), (132, .ireturn, 1)]
theorem D29 : decs prog_1_method_35_code c29 = true := by decide +kernel
theorem d29 (k : Nat) {p : Nat} {i : Instr} {n : Nat} (h : c29[k]? = some (p, i, n)) : decode prog_1_method_35_code p = .ok (i, n) := dget D29 h
def c30 : List (Nat × Instr × Nat) := [(0, .aload_n 0, 1), (1, .getfield 137, 3), (4, .bipush 32, 2), (6, .if_icmp .ge 13, 3), (9, .aload_n 0, 1), (10, .getfield 38, 3), (13, .aload_n 0, 1), (14, .getfield 137, 3), (17, .iload_n 1, 1), (18, .iastore, 1), (19, .aload_n 0, 1), (20, .dup, 1), (21, .getfield 137, 3), (24, .iconst 1, 1), (25, .iadd, 1), (26, .putfield 137, 3), (29, .return_, 1)]
theorem D30 : decs prog_1_method_36_code c30 = true := by decide +kernel
theorem d30 (k : Nat) {p : Nat} {i : Instr} {n : Nat} (h : c30[k]? = some (p, i, n)) : decode prog_1_method_36_code p = .ok (i, n) := dget D30 h
def c26 : List (Nat × Instr × Nat) := [(0, .iload_n 1, 1), (1, .i2l, 1), (2, .lstore 4, 2), (4, .iload_n 2, 1), (5, .i2l, 1), (6, .lstore 6, 2), (8, .iload_n 3, 1), (9, .i2l, 1), (10, .lstore 8, 2), (12, .lload 8, 2), (14, .lconst 0, 1), (15, .lcmp, 1), (16, .ifCond .le 29, 3), (19, .lload 4, 2), (21, .lload 6, 2), (23, .lcmp, 1), (24, .ifCond .ge 19, 3), (27, .lload 6, 2), (29, .lload 4, 2), (31, .lsub, 1), (32, .lload 8, 2), (34, .ladd, 1), (35, .lconst 1, 1), (36, .lsub, 1), (37, .lload 8, 2), (39, .ldiv, 1), (40, .goto 4, 3), (43, .lconst 0, 1), (44, .lreturn, 1), (45, .lload 8, 2), (47, .lconst 0, 1), (48, .lcmp, 1), (49, .ifCond .ge 34, 3), (52, .lload 8, 2), (54, .lneg, 1), (55, .lstore 10, 2), (57, .lload 4, 2), (59, .lload 6, 2), (61, .lcmp, 1), (62, .ifCond .le 19, 3), (65, .lload 4, 2), (67, .lload 6, 2), (69, .lsub, 1), (70, .lload 10, 2), (72, .ladd, 1), (73, .lconst 1, 1), (74, .lsub, 1), (75, .lload 10, 2), (77, .ldiv, 1), (78, .goto 4, 3), (81, .lconst 0, 1), (82, .lreturn, 1), (83, .lconst 0, 1), (84, .lreturn, 1)]
theorem D26 : decs prog_1_method_37_code c26 = true := by decide +kernel
theorem d26 (k : Nat) {p : Nat} {i : Instr} {n : Nat} (h : c26[k]? = some (p, i, n)) : decode prog_1_method_37_code p = .ok (i, n) := dget D26 h
def c27 : List (Nat × Instr × Nat) := [(0, .aload_n 0, 1), (1, .getfield 22, 3), (4, .iload_n 1, 1), (5, .iaload, 1), (6, .istore_n 2, 1), (7, .iload_n 1, 1), (8, .iconst 1, 1), (9, .iadd, 1), (10, .istore_n 3, 1), (11, .iload_n 3, 1), (12, .iload_n 2, 1), (13, .if_icmp .ge 68, 3), (16, .iload_n 3, 1), (17, .aload_n 0, 1), (18, .getfield 90, 3), (21, .if_icmp .ge 60, 3), (24, .aload_n 0, 1), (25, .getfield 62, 3), (28, .iload_n 3, 1), (29, .baload, 1), (30, .ifCond .eq 45, 3), (33, .aload_n 0, 1), (34, .getfield 65, 3), (37, .iload_n 3, 1), (38, .iaload, 1), (39, .iload_n 1, 1), (40, .if_icmp .ne 35, 3), (43, .aload_n 0, 1), (44, .getfield 68, 3), (47, .iload_n 3, 1), (48, .iconst 1, 1), (49, .bastore, 1), (50, .aload_n 0, 1), (51, .getfield 71, 3), (54, .iload_n 3, 1), (55, .aload_n 0, 1), (56, .getfield 44, 3), (59, .aload_n 0, 1), (60, .getfield 13, 3), (63, .iload_n 3, 1), (64, .iaload, 1), (65, .iaload, 1), (66, .ifCond .eq 7, 3), (69, .iconst 1, 1), (70, .goto 4, 3), (73, .iconst 0, 1), (74, .bastore, 1), (75, .iinc 3 1, 3), (78, .goto (-67), 3), (81, .return_, 1)]
theorem D27 : decs prog_1_method_39_code c27 = true := by decide +kernel
theorem d27 (k : Nat) {p : Nat} {i : Instr} {n : Nat} (h : c27[k]? = some (p, i, n)) : decode prog_1_method_39_code p = .ok (i, n) := dget D27 h
def c25 : List (Nat × Instr × Nat) := [(0, .aload_n 0, 1), (1, .getfield 13, 3), (4, .iload_n 1, 1), (5, .iaload, 1), (6, .istore_n 2, 1), (7, .aload_n 0, 1), (8, .getfield 44, 3), (11, .iload_n 2, 1), (12, .iaload, 1), (13, .istore_n 3, 1), (14, .aload_n 0, 1), (15, .getfield 44, 3), (18, .aload_n 0, 1), (19, .getfield 16, 3), (22, .iload_n 1, 1), (23, .iaload, 1), (24, .iaload, 1), (25, .istore 4, 2), (27, .aload_n 0, 1), (28, .iload_n 3, 1), (29, .iload 4, 2), (31, .aload_n 0, 1), (32, .getfield 19, 3), (35, .iload_n 1, 1), (36, .iaload, 1), (37, .invokevirtual 184, 3), (40, .lstore 5, 2), (42, .lload 5, 2), (44, .ldc2_w 188, 3), (47, .lcmp, 1), (48, .ifCond .le 9, 3), (51, .aload_n 0, 1), (52, .iconst 1, 1), (53, .putfield 130, 3), (56, .return_, 1), (57, .lload 5, 2), (59, .lconst 0, 1), (60, .lcmp, 1), (61, .ifCond .le 11, 3), (64, .aload_n 0, 1), (65, .getfield 162, 3), (68, .iconst 2, 1), (69, .if_icmp .lt 23, 3), (72, .aload_n 0, 1), (73, .getfield 44, 3), (76, .iload_n 2, 1), (77, .iload_n 3, 1), (78, .iastore, 1), (79, .aload_n 0, 1), (80, .aload_n 0, 1), (81, .getfield 22, 3), (84, .iload_n 1, 1), (85, .iaload, 1), (86, .iconst 1, 1), (87, .iadd, 1), (88, .putfield 159, 3), (91, .return_, 1), (92, .aload_n 0, 1), (93, .getfield 47, 3), (96, .aload_n 0, 1), (97, .getfield 162, 3), (100, .iload_n 1, 1), (101, .iastore, 1), (102, .aload_n 0, 1), (103, .getfield 50, 3), (106, .aload_n 0, 1), (107, .getfield 162, 3), (110, .iload_n 3, 1), (111, .iastore, 1), (112, .aload_n 0, 1), (113, .getfield 53, 3), (116, .aload_n 0, 1), (117, .getfield 162, 3), (120, .lload 5, 2), (122, .l2i, 1), (123, .iastore, 1), (124, .aload_n 0, 1), (125, .getfield 56, 3), (128, .aload_n 0, 1), (129, .getfield 162, 3), (132, .iconst 0, 1), (133, .iastore, 1), (134, .aload_n 0, 1), (135, .getfield 59, 3), (138, .aload_n 0, 1), (139, .getfield 162, 3), (142, .iconst 0, 1), (143, .iastore, 1), (144, .aload_n 0, 1), (145, .dup, 1), (146, .getfield 162, 3), (149, .iconst 1, 1), (150, .iadd, 1), (151, .putfield 162, 3), (154, .aload_n 0, 1), (155, .iload_n 1, 1), (156, .invokevirtual 190, 3), (159, .aload_n 0, 1), (160, .getfield 44, 3), (163, .iload_n 2, 1), (164, .iload_n 3, 1), (165, .iastore, 1), (166, .aload_n 0, 1), (167, .iload_n 1, 1), (168, .iconst 1, 1), (169, .iadd, 1), (170, .putfield 159, 3), (173, .return_, 1)]
theorem D25 : decs prog_1_method_38_code c25 = true := by decide +kernel
theorem d25 (k : Nat) {p : Nat} {i : Instr} {n : Nat} (h : c25[k]? = some (p, i, n)) : decode prog_1_method_38_code p = .ok (i, n) := dget D25 h
def c31 : List (Nat × Instr × Nat) := [(0, .aload_n 0, 1), (1, .getfield 162, 3), (4, .iconst 1, 1), (5, .isub, 1), (6, .istore_n 2, 1), (7, .iload_n 2, 1), (8, .ifCond .lt 8, 3), (11, .iload_n 2, 1), (12, .iconst 2, 1), (13, .if_icmp .lt 11, 3), (16, .aload_n 0, 1), (17, .iload_n 1, 1), (18, .iconst 1, 1), (19, .iadd, 1), (20, .putfield 159, 3), (23, .return_, 1), (24, .aload_n 0, 1), (25, .getfield 47, 3), (28, .iload_n 2, 1), (29, .iaload, 1), (30, .istore_n 3, 1), (31, .aload_n 0, 1), (32, .getfield 59, 3), (35, .iload_n 2, 1), (36, .iaload, 1), (37, .iconst 1, 1), (38, .iadd, 1), (39, .istore 4, 2), (41, .aload_n 0, 1), (42, .getfield 56, 3), (45, .iload_n 2, 1), (46, .iaload, 1), (47, .istore 5, 2), (49, .iload 4, 2), (51, .aload_n 0, 1), (52, .getfield 156, 3), (55, .if_icmp .lt 9, 3), (58, .iconst 0, 1), (59, .istore 4, 2), (61, .iinc 5 1, 3), (64, .aload_n 0, 1), (65, .getfield 59, 3), (68, .iload_n 2, 1), (69, .iload 4, 2), (71, .iastore, 1), (72, .aload_n 0, 1), (73, .getfield 56, 3), (76, .iload_n 2, 1), (77, .iload 5, 2), (79, .iastore, 1), (80, .iload 5, 2), (82, .aload_n 0, 1), (83, .getfield 156, 3), (86, .imul, 1), (87, .iload 4, 2), (89, .iadd, 1), (90, .istore 6, 2), (92, .aload_n 0, 1), (93, .getfield 13, 3), (96, .iload_n 3, 1), (97, .iaload, 1), (98, .istore 7, 2), (100, .aload_n 0, 1), (101, .getfield 19, 3), (104, .iload_n 3, 1), (105, .iaload, 1), (106, .istore 8, 2), (108, .iload 6, 2), (110, .aload_n 0, 1), (111, .getfield 53, 3), (114, .iload_n 2, 1), (115, .iaload, 1), (116, .if_icmp .ge 30, 3), (119, .aload_n 0, 1), (120, .getfield 44, 3), (123, .iload 7, 2), (125, .aload_n 0, 1), (126, .getfield 50, 3), (129, .iload_n 2, 1), (130, .iaload, 1), (131, .iload 6, 2), (133, .iload 8, 2), (135, .imul, 1), (136, .iadd, 1), (137, .iastore, 1), (138, .aload_n 0, 1), (139, .iload_n 3, 1), (140, .iconst 1, 1), (141, .iadd, 1), (142, .putfield 159, 3), (145, .return_, 1), (146, .aload_n 0, 1), (147, .getfield 44, 3), (150, .iload 7, 2), (152, .aload_n 0, 1), (153, .getfield 50, 3), (156, .iload_n 2, 1), (157, .iaload, 1), (158, .aload_n 0, 1), (159, .getfield 53, 3), (162, .iload_n 2, 1), (163, .iaload, 1), (164, .iload 8, 2), (166, .imul, 1), (167, .iadd, 1), (168, .iastore, 1), (169, .aload_n 0, 1), (170, .iload_n 2, 1), (171, .putfield 162, 3), (174, .aload_n 0, 1), (175, .iload_n 1, 1), (176, .iconst 1, 1), (177, .iadd, 1), (178, .putfield 159, 3), (181, .return_, 1)]
theorem D31 : decs prog_1_method_40_code c31 = true := by decide +kernel
theorem d31 (k : Nat) {p : Nat} {i : Instr} {n : Nat} (h : c31[k]? = some (p, i, n)) : decode prog_1_method_40_code p = .ok (i, n) := dget D31 h
def c28 : List (Nat × Instr × Nat) := [(0, .aload_n 0, 1), (1, .getfield 62, 3), (4, .iload_n 1, 1), (5, .baload, 1), (6, .ifCond .eq 22, 3), (9, .aload_n 0, 1), (10, .getfield 68, 3), (13, .iload_n 1, 1), (14, .baload, 1), (15, .ifCond .eq 13, 3), (18, .aload_n 0, 1), (19, .getfield 71, 3), (22, .iload_n 1, 1), (23, .baload, 1), (24, .istore_n 2, 1), (25, .goto 23, 3), (28, .aload_n 0, 1), (29, .getfield 44, 3), (32, .aload_n 0, 1), (33, .getfield 13, 3), (36, .iload_n 1, 1), (37, .iaload, 1), (38, .iaload, 1), (39, .ifCond .eq 7, 3), (42, .iconst 1, 1), (43, .goto 4, 3), (46, .iconst 0, 1), (47, .istore_n 2, 1), (48, .aload_n 0, 1), (49, .iload_n 2, 1), (50, .ifCond .eq 9, 3), (53, .iload_n 1, 1), (54, .iconst 1, 1), (55, .iadd, 1), (56, .goto 11, 3), (59, .aload_n 0, 1), (60, .getfield 22, 3), (63, .iload_n 1, 1), (64, .iaload, 1), (65, .iconst 1, 1), (66, .iadd, 1), (67, .putfield 159, 3), (70, .return_, 1)]
theorem D28 : decs prog_1_method_41_code c28 = true := by decide +kernel
theorem d28 (k : Nat) {p : Nat} {i : Instr} {n : Nat} (h : c28[k]? = some (p, i, n)) : decode prog_1_method_41_code p = .ok (i, n) := dget D28 h
def c24 : List (Nat × Instr × Nat) := [(0, .aload_n 0, 1), (1, .getfield 7, 3), (4, .iload_n 1, 1), (5, .iaload, 1), (6, .istore_n 2, 1), (7, .iload_n 2, 1), (8, .iconst 1, 1), (9, .if_icmp .lt 37, 3), (12, .iload_n 2, 1), (13, .bipush 8, 2), (15, .if_icmp .gt 31, 3), (18, .aload_n 0, 1), (19, .iload_n 1, 1), (20, .invokevirtual 169, 3), (23, .istore_n 3, 1), (24, .aload_n 0, 1), (25, .getfield 44, 3), (28, .aload_n 0, 1), (29, .getfield 13, 3), (32, .iload_n 1, 1), (33, .iaload, 1), (34, .iload_n 3, 1), (35, .iastore, 1), (36, .aload_n 0, 1), (37, .iload_n 1, 1), (38, .iconst 1, 1), (39, .iadd, 1), (40, .putfield 159, 3), (43, .goto 104, 3), (46, .iload_n 2, 1), (47, .bipush 9, 2), (49, .if_icmp .ne 28, 3), (52, .aload_n 0, 1), (53, .aload_n 0, 1), (54, .getfield 44, 3), (57, .aload_n 0, 1), (58, .getfield 13, 3), (61, .iload_n 1, 1), (62, .iaload, 1), (63, .iaload, 1), (64, .invokevirtual 172, 3), (67, .aload_n 0, 1), (68, .iload_n 1, 1), (69, .iconst 1, 1), (70, .iadd, 1), (71, .putfield 159, 3), (74, .goto 73, 3), (77, .iload_n 2, 1), (78, .bipush 10, 2), (80, .if_icmp .ne 11, 3), (83, .aload_n 0, 1), (84, .iload_n 1, 1), (85, .invokevirtual 175, 3), (88, .goto 59, 3), (91, .iload_n 2, 1), (92, .bipush 11, 2), (94, .if_icmp .ne 11, 3), (97, .aload_n 0, 1), (98, .iload_n 1, 1), (99, .invokevirtual 178, 3), (102, .goto 45, 3), (105, .iload_n 2, 1), (106, .bipush 12, 2), (108, .if_icmp .ne 11, 3), (111, .aload_n 0, 1), (112, .iload_n 1, 1), (113, .invokevirtual 181, 3), (116, .goto 31, 3), (119, .iload_n 2, 1), (120, .bipush 13, 2), (122, .if_icmp .ne 18, 3), (125, .aload_n 0, 1), (126, .aload_n 0, 1), (127, .getfield 22, 3), (130, .iload_n 1, 1), (131, .iaload, 1), (132, .iconst 1, 1), (133, .iadd, 1), (134, .putfield 159, 3), (137, .goto 10, 3), (140, .aload_n 0, 1), (141, .iload_n 1, 1), (142, .iconst 1, 1), (143, .iadd, 1), (144, .putfield 159, 3), (147, .return_, 1)]
theorem D24 : decs prog_1_method_34_code c24 = true := by decide +kernel
theorem d24 (k : Nat) {p : Nat} {i : Instr} {n : Nat} (h : c24[k]? = some (p, i, n)) : decode prog_1_method_34_code p = .ok (i, n) := dget D24 h
def c23 : List (Nat × Instr × Nat) := [(0, .aload_n 0, 1), (1, .iconst 0, 1), (2, .putfield 159, 3), (5, .aload_n 0, 1), (6, .iconst 0, 1), (7, .putfield 162, 3), (10, .aload_n 0, 1), (11, .iconst 0, 1), (12, .putfield 130, 3), (15, .sipush 6937, 3), (18, .istore_n 1, 1), (19, .iconst 0, 1), (20, .istore_n 2, 1), (21, .iload_n 2, 1), (22, .iload_n 1, 1), (23, .if_icmp .ge 42, 3), (26, .aload_n 0, 1), (27, .getfield 159, 3), (30, .ifCond .lt 35, 3), (33, .aload_n 0, 1), (34, .getfield 159, 3), (37, .aload_n 0, 1), (38, .getfield 90, 3), (41, .if_icmp .ge 24, 3), (44, .aload_n 0, 1), (45, .getfield 130, 3), (48, .ifCond .ne 17, 3), (51, .aload_n 0, 1), (52, .aload_n 0, 1), (53, .getfield 159, 3), (56, .invokevirtual 165, 3), (59, .iinc 2 1, 3), (62, .goto (-41), 3), (65, .return_, 1)]
theorem D23 : decs prog_1_method_33_code c23 = true := by decide +kernel
theorem d23 (k : Nat) {p : Nat} {i : Instr} {n : Nat} (h : c23[k]? = some (p, i, n)) : decode prog_1_method_33_code p = .ok (i, n) := dget D23 h
def c18 : List (Nat × Instr × Nat) := [(0, .iload_n 1, 1), (1, .ifCond .eq 10, 3), (4, .iload_n 1, 1), (5, .iconst 1, 1), (6, .if_icmp .eq 5, 3), (9, .iconst (-1), 1), (10, .ireturn, 1), (11, .aload_n 0, 1), (12, .getfield 114, 3), (15, .ifCond .eq 5, 3), (18, .iconst (-1), 1), (19, .ireturn, 1), (20, .iload_n 1, 1), (21, .iconst 1, 1), (22, .if_icmp .ne 12, 3), (25, .aload_n 0, 1), (26, .getfield 83, 3), (29, .ifCond .ne 5, 3), (32, .iconst (-1), 1), (33, .ireturn, 1), (34, .aload_n 0, 1), (35, .invokevirtual 87, 3), (38, .iconst 0, 1), (39, .istore_n 2, 1), (40, .iload_n 2, 1), (41, .bipush 8, 2), (43, .if_icmp .ge 21, 3), (46, .aload_n 0, 1), (47, .getfield 44, 3), (50, .iload_n 2, 1), (51, .aload_n 0, 1), (52, .getfield 35, 3), (55, .iload_n 2, 1), (56, .iaload, 1), (57, .iastore, 1), (58, .iinc 2 1, 3), (61, .goto (-21), 3), (64, .aload_n 0, 1), (65, .iload_n 1, 1), (66, .iconst 1, 1), (67, .if_icmp .ne 7, 3), (70, .iconst 1, 1), (71, .goto 4, 3), (74, .iconst 0, 1), (75, .invokevirtual 123, 3), (78, .aload_n 0, 1), (79, .invokevirtual 127, 3), (82, .aload_n 0, 1), (83, .aload_n 0, 1), (84, .getfield 130, 3), (87, .ifCond .eq 7, 3), (90, .iconst 2, 1), (91, .goto 4, 3), (94, .iconst 1, 1), (95, .putfield 134, 3), (98, .iconst 0, 1), (99, .istore_n 2, 1), (100, .iload_n 2, 1), (101, .bipush 8, 2), (103, .if_icmp .ge 21, 3), (106, .aload_n 0, 1), (107, .getfield 41, 3), (110, .iload_n 2, 1), (111, .aload_n 0, 1), (112, .getfield 44, 3), (115, .iload_n 2, 1), (116, .iaload, 1), (117, .iastore, 1), (118, .iinc 2 1, 3), (121, .goto (-21), 3), (124, .aload_n 0, 1), (125, .getfield 134, 3), (128, .ireturn, 1)]
theorem D18 : decs prog_1_method_12_code c18 = true := by decide +kernel
theorem d18 (k : Nat) {p : Nat} {i : Instr} {n : Nat} (h : c18[k]? = some (p, i, n)) : decode prog_1_method_12_code p = .ok (i, n) := dget D18 h
def c32 : List (Nat × Instr × Nat) := [(0, .aload_n 0, 1), (1, .getfield 134, 3), (4, .ireturn, 1)]
theorem D32 : decs prog_1_method_13_code c32 = true := by decide +kernel
theorem d32 (k : Nat) {p : Nat} {i : Instr} {n : Nat} (h : c32[k]? = some (p, i, n)) : decode prog_1_method_13_code p = .ok (i, n) := dget D32 h
def c33 : List (Nat × Instr × Nat) := [(0, .aload_n 0, 1), (1, .getfield 137, 3), (4, .ireturn, 1)]
theorem D33 : decs prog_1_method_14_code c33 = true := by decide +kernel
theorem d33 (k : Nat) {p : Nat} {i : Instr} {n : Nat} (h : c33[k]? = some (p, i, n)) : decode prog_1_method_14_code p = .ok (i, n) := dget D33 h
def c34 : List (Nat × Instr × Nat) := [(0, .iload_n 1, 1), (1, .ifCond .lt 17, 3), (4, .iload_n 1, 1), (5, .aload_n 0, 1), (6, .getfield 137, 3), (9, .if_icmp .ge 9, 3), (12, .iload_n 1, 1), (13, .bipush 32, 2), (15, .if_icmp .lt 5, 3), (18, .iconst 0, 1), (19, .ireturn, 1), (20, .aload_n 0, 1), (21, .getfield 38, 3), (24, .iload_n 1, 1), (25, .iaload, 1), (26, .ireturn, 1)]
theorem D34 : decs prog_1_method_15_code c34 = true := by decide +kernel
theorem d34 (k : Nat) {p : Nat} {i : Instr} {n : Nat} (h : c34[k]? = some (p, i, n)) : decode prog_1_method_15_code p = .ok (i, n) := dget D34 h
def c35 : List (Nat × Instr × Nat) := [(0, .iload 4, 2), (2, .ifCond .ne 5, 3), (5, .iconst 0, 1), (6, .ireturn, 1), (7, .lload_n 0, 1), (8, .lload_n 2, 1), (9, .lcmp, 1), (10, .ifCond .ge 10, 3), (13, .iload 5, 2), (15, .i2l, 1), (16, .lload_n 0, 1), (17, .ladd, 1), (18, .l2i, 1), (19, .ireturn, 1), (20, .lload_n 0, 1), (21, .lload_n 2, 1), (22, .lcmp, 1), (23, .ifCond .ne 6, 3), (26, .iload 6, 2), (28, .ireturn, 1), (29, .iconst 0, 1), (30, .ireturn, 1)]
theorem D35 : decs method_2_code c35 = true := by decide +kernel
theorem d35 (k : Nat) {p : Nat} {i : Instr} {n : Nat} (h : c35[k]? = some (p, i, n)) : decode method_2_code p = .ok (i, n) := dget D35 h
def c36 : List (Nat × Instr × Nat) := [(0, .aload_n 0, 1), (1, .iload_n 1, 1), (2, .invokevirtual 117, 3), (5, .ifCond .ne 5, 3), (8, .iconst 0, 1), (9, .ireturn, 1), (10, .aload_n 0, 1), (11, .getfield 41, 3), (14, .iload_n 1, 1), (15, .iaload, 1), (16, .ireturn, 1)]
theorem D36 : decs prog_1_method_16_code c36 = true := by decide +kernel
theorem d36 (k : Nat) {p : Nat} {i : Instr} {n : Nat} (h : c36[k]? = some (p, i, n)) : decode prog_1_method_16_code p = .ok (i, n) := dget D36 h
def H0 : MHeap := []
def KL (s : St) : MHeap := KH flds al Ln H0 [] s
def f_clearProgram_2 (n : Nat) : Nat → Int32 → St → Option (St)
  | 0 => fun _ _ => none
  | k + 1 => fun x1 s =>
    if x1 < (24 : Int32) then
      grd (inb x1 24) <|
      bnd (setA s 0 (ix x1) (0 : Int32)) fun s3 =>
      bnd (setA s3 1 (ix x1) (0 : Int32)) fun s4 =>
      bnd (setA s4 2 (ix x1) (0 : Int32)) fun s5 =>
      bnd (setA s5 3 (ix x1) (0 : Int32)) fun s6 =>
      bnd (setA s6 4 (ix x1) (-1 : Int32)) fun s7 =>
      f_clearProgram_2 n k (x1 + (1 : Int32)) s7
    else
      bnd (setI s 21 (0 : Int32)) fun s8 =>
      some s8
set_option maxRecDepth 100000 in
theorem e_clearProgram_2 {g : GT} {n : Nat} (hw : HW g) {K : St → MHeap} {o : Nat} {r : Nat → Nat} (V : View (GG g) Ln K o r) (k : Nat) : ∀ (x1 : Int32) (s : St) (w : St), f_clearProgram_2 n k x1 s = some w → Ev (GG g) M_clearProgram 2 [.val (.ref o), .val (.int x1)] [] (K s) (none, (K w)) := by
  induction k with
  | zero => intro x1 s w hr; rw [f_clearProgram_2] at hr; cases hr
  | succ k ih =>
    intro x1 s w hr
    rw [f_clearProgram_2] at hr
    refine Ev.iloadN (d3 2 rfl) rfl ?_
    refine Ev.bipush (z := 24) (d3 3 rfl) rfl ?_
    refine Ev.icge (t := 49) (d3 4 rfl) rfl (fun c1 => ?_) (fun c1 => ?_)
    · replace hr := (if_pos c1).symm.trans hr
      refine Ev.aloadN (d3 5 rfl) rfl ?_
      refine Ev.gAr V (ww hw 10 rfl) (d3 6 rfl) (j := 0) rfl ?_
      refine Ev.iloadN (d3 7 rfl) rfl ?_
      refine Ev.iconst (z := 0) (d3 8 rfl) rfl ?_
      obtain ⟨b2, hr⟩ := grd_some hr
      refine Ev.ias V (j := 0) rfl rfl (d3 9 rfl) b2 ?_
      revert hr
      generalize setA s 0 (ix x1) (0 : Int32) = s3
      intro hr
      replace hr := (bnd_eq _ _).symm.trans hr
      refine Ev.aloadN (d3 10 rfl) rfl ?_
      refine Ev.gAr V (ww hw 12 rfl) (d3 11 rfl) (j := 1) rfl ?_
      refine Ev.iloadN (d3 12 rfl) rfl ?_
      refine Ev.iconst (z := 0) (d3 13 rfl) rfl ?_
      refine Ev.ias V (j := 1) rfl rfl (d3 14 rfl) b2 ?_
      revert hr
      generalize setA s3 1 (ix x1) (0 : Int32) = s4
      intro hr
      replace hr := (bnd_eq _ _).symm.trans hr
      refine Ev.aloadN (d3 15 rfl) rfl ?_
      refine Ev.gAr V (ww hw 14 rfl) (d3 16 rfl) (j := 2) rfl ?_
      refine Ev.iloadN (d3 17 rfl) rfl ?_
      refine Ev.iconst (z := 0) (d3 18 rfl) rfl ?_
      refine Ev.ias V (j := 2) rfl rfl (d3 19 rfl) b2 ?_
      revert hr
      generalize setA s4 2 (ix x1) (0 : Int32) = s5
      intro hr
      replace hr := (bnd_eq _ _).symm.trans hr
      refine Ev.aloadN (d3 20 rfl) rfl ?_
      refine Ev.gAr V (ww hw 16 rfl) (d3 21 rfl) (j := 3) rfl ?_
      refine Ev.iloadN (d3 22 rfl) rfl ?_
      refine Ev.iconst (z := 0) (d3 23 rfl) rfl ?_
      refine Ev.ias V (j := 3) rfl rfl (d3 24 rfl) b2 ?_
      revert hr
      generalize setA s5 3 (ix x1) (0 : Int32) = s6
      intro hr
      replace hr := (bnd_eq _ _).symm.trans hr
      refine Ev.aloadN (d3 25 rfl) rfl ?_
      refine Ev.gAr V (ww hw 18 rfl) (d3 26 rfl) (j := 4) rfl ?_
      refine Ev.iloadN (d3 27 rfl) rfl ?_
      refine Ev.iconst (z := -1) (d3 28 rfl) rfl ?_
      refine Ev.ias V (j := 4) rfl rfl (d3 29 rfl) b2 ?_
      revert hr
      generalize setA s6 4 (ix x1) (-1 : Int32) = s7
      intro hr
      replace hr := (bnd_eq _ _).symm.trans hr
      refine Ev.iinc (z := 1) (L' := [.val (.ref o), .val (.int (x1 + (1 : Int32)))]) (d3 30 rfl) rfl rfl rfl ?_
      refine Ev.goto (t := 2) (d3 31 rfl) rfl ?_
      exact ih (x1 + (1 : Int32)) s7  _ hr
    · replace hr := (if_neg c1).symm.trans hr
      refine Ev.aloadN (d3 32 rfl) rfl ?_
      refine Ev.iconst (z := 0) (d3 33 rfl) rfl ?_
      refine Ev.pI V (gok hw) (ww hw 62 rfl) (Or.inl (ww hw 63 rfl)) (d3 34 rfl) (j := 21) rfl ?_
      revert hr
      generalize setI s 21 (0 : Int32) = s8
      intro hr
      replace hr := (bnd_eq _ _).symm.trans hr
      cases hr
      exact Ev.vreturn rfl (d3 35 rfl)
def f_clearProgram (n : Nat) (s : St) : Option (St) :=
  f_clearProgram_2 n n (0 : Int32) s
set_option maxRecDepth 100000 in
theorem e_clearProgram {g : GT} {n : Nat} {s : St} {w : St} (hw : HW g) {K : St → MHeap} {o : Nat} {r : Nat → Nat} (V : View (GG g) Ln K o r) (hr : f_clearProgram n s = some w) : EvC (GG g) M_clearProgram [.ref o] (K s) (none, (K w)) := by
  refine EvC.enter (L0 := [.val (.ref o), .unset]) pl_clearProgram (fun _ => rfl) rfl rfl ?_
  unfold f_clearProgram at hr
  refine Ev.iconst (z := 0) (d3 0 rfl) rfl ?_
  refine Ev.istDN (L' := [.val (.ref o), .val (.int (0 : Int32))]) (d3 1 rfl) rfl rfl rfl ?_
  exact e_clearProgram_2 hw V  n (0 : Int32) s  _ hr
def f_clearOpen_2 (n : Nat) : Nat → Int32 → St → Option (St)
  | 0 => fun _ _ => none
  | k + 1 => fun x1 s =>
    if x1 < (4 : Int32) then
      grd (inb x1 4) <|
      bnd (setA s 5 (ix x1) (0 : Int32)) fun s3 =>
      bnd (setA s3 6 (ix x1) (-1 : Int32)) fun s4 =>
      bnd (setA s4 7 (ix x1) ((0 : Int32) &&& 1)) fun s5 =>
      f_clearOpen_2 n k (x1 + (1 : Int32)) s5
    else
      bnd (setI s 22 (0 : Int32)) fun s6 =>
      bnd (setI s6 23 (0 : Int32)) fun s7 =>
      some s7
set_option maxRecDepth 100000 in
theorem e_clearOpen_2 {g : GT} {n : Nat} (hw : HW g) {K : St → MHeap} {o : Nat} {r : Nat → Nat} (V : View (GG g) Ln K o r) (k : Nat) : ∀ (x1 : Int32) (s : St) (w : St), f_clearOpen_2 n k x1 s = some w → Ev (GG g) M_clearOpen 2 [.val (.ref o), .val (.int x1)] [] (K s) (none, (K w)) := by
  induction k with
  | zero => intro x1 s w hr; rw [f_clearOpen_2] at hr; cases hr
  | succ k ih =>
    intro x1 s w hr
    rw [f_clearOpen_2] at hr
    refine Ev.iloadN (d4 2 rfl) rfl ?_
    refine Ev.iconst (z := 4) (d4 3 rfl) rfl ?_
    refine Ev.icge (t := 34) (d4 4 rfl) rfl (fun c1 => ?_) (fun c1 => ?_)
    · replace hr := (if_pos c1).symm.trans hr
      refine Ev.aloadN (d4 5 rfl) rfl ?_
      refine Ev.gAr V (ww hw 20 rfl) (d4 6 rfl) (j := 5) rfl ?_
      refine Ev.iloadN (d4 7 rfl) rfl ?_
      refine Ev.iconst (z := 0) (d4 8 rfl) rfl ?_
      obtain ⟨b2, hr⟩ := grd_some hr
      refine Ev.ias V (j := 5) rfl rfl (d4 9 rfl) b2 ?_
      revert hr
      generalize setA s 5 (ix x1) (0 : Int32) = s3
      intro hr
      replace hr := (bnd_eq _ _).symm.trans hr
      refine Ev.aloadN (d4 10 rfl) rfl ?_
      refine Ev.gAr V (ww hw 22 rfl) (d4 11 rfl) (j := 6) rfl ?_
      refine Ev.iloadN (d4 12 rfl) rfl ?_
      refine Ev.iconst (z := -1) (d4 13 rfl) rfl ?_
      refine Ev.ias V (j := 6) rfl rfl (d4 14 rfl) b2 ?_
      revert hr
      generalize setA s3 6 (ix x1) (-1 : Int32) = s4
      intro hr
      replace hr := (bnd_eq _ _).symm.trans hr
      refine Ev.aloadN (d4 15 rfl) rfl ?_
      refine Ev.gAr V (ww hw 25 rfl) (d4 16 rfl) (j := 7) rfl ?_
      refine Ev.iloadN (d4 17 rfl) rfl ?_
      refine Ev.iconst (z := 0) (d4 18 rfl) rfl ?_
      refine Ev.bas V (j := 7) rfl rfl (d4 19 rfl) b2 ?_
      revert hr
      generalize setA s4 7 (ix x1) ((0 : Int32) &&& 1) = s5
      intro hr
      replace hr := (bnd_eq _ _).symm.trans hr
      refine Ev.iinc (z := 1) (L' := [.val (.ref o), .val (.int (x1 + (1 : Int32)))]) (d4 20 rfl) rfl rfl rfl ?_
      refine Ev.goto (t := 2) (d4 21 rfl) rfl ?_
      exact ih (x1 + (1 : Int32)) s5  _ hr
    · replace hr := (if_neg c1).symm.trans hr
      refine Ev.aloadN (d4 22 rfl) rfl ?_
      refine Ev.iconst (z := 0) (d4 23 rfl) rfl ?_
      refine Ev.pI V (gok hw) (ww hw 68 rfl) (Or.inl (ww hw 69 rfl)) (d4 24 rfl) (j := 22) rfl ?_
      revert hr
      generalize setI s 22 (0 : Int32) = s6
      intro hr
      replace hr := (bnd_eq _ _).symm.trans hr
      refine Ev.aloadN (d4 25 rfl) rfl ?_
      refine Ev.iconst (z := 0) (d4 26 rfl) rfl ?_
      refine Ev.pI V (gok hw) (ww hw 70 rfl) (Or.inl (ww hw 71 rfl)) (d4 27 rfl) (j := 23) rfl ?_
      revert hr
      generalize setI s6 23 (0 : Int32) = s7
      intro hr
      replace hr := (bnd_eq _ _).symm.trans hr
      cases hr
      exact Ev.vreturn rfl (d4 28 rfl)
def f_clearOpen (n : Nat) (s : St) : Option (St) :=
  f_clearOpen_2 n n (0 : Int32) s
set_option maxRecDepth 100000 in
theorem e_clearOpen {g : GT} {n : Nat} {s : St} {w : St} (hw : HW g) {K : St → MHeap} {o : Nat} {r : Nat → Nat} (V : View (GG g) Ln K o r) (hr : f_clearOpen n s = some w) : EvC (GG g) M_clearOpen [.ref o] (K s) (none, (K w)) := by
  refine EvC.enter (L0 := [.val (.ref o), .unset]) pl_clearOpen (fun _ => rfl) rfl rfl ?_
  unfold f_clearOpen at hr
  refine Ev.iconst (z := 0) (d4 0 rfl) rfl ?_
  refine Ev.istDN (L' := [.val (.ref o), .val (.int (0 : Int32))]) (d4 1 rfl) rfl rfl rfl ?_
  exact e_clearOpen_2 hw V  n (0 : Int32) s  _ hr
def f_clearResults_33 (n : Nat) : Nat → Int32 → St → Option (St)
  | 0 => fun _ _ => none
  | k + 1 => fun x1 s =>
    if x1 < (8 : Int32) then
      grd (inb x1 8) <|
      bnd (setA s 10 (ix x1) (0 : Int32)) fun s3 =>
      f_clearResults_33 n k (x1 + (1 : Int32)) s3
    else
      some s
set_option maxRecDepth 100000 in
theorem e_clearResults_33 {g : GT} {n : Nat} (hw : HW g) {K : St → MHeap} {o : Nat} {r : Nat → Nat} (V : View (GG g) Ln K o r) (k : Nat) : ∀ (x1 : Int32) (s : St) (w : St), f_clearResults_33 n k x1 s = some w → Ev (GG g) M_clearResults 33 [.val (.ref o), .val (.int x1)] [] (K s) (none, (K w)) := by
  induction k with
  | zero => intro x1 s w hr; rw [f_clearResults_33] at hr; cases hr
  | succ k ih =>
    intro x1 s w hr
    rw [f_clearResults_33] at hr
    refine Ev.iloadN (d5 20 rfl) rfl ?_
    refine Ev.bipush (z := 8) (d5 21 rfl) rfl ?_
    refine Ev.icge (t := 52) (d5 22 rfl) rfl (fun c1 => ?_) (fun c1 => ?_)
    · replace hr := (if_pos c1).symm.trans hr
      refine Ev.aloadN (d5 23 rfl) rfl ?_
      refine Ev.gAr V (ww hw 31 rfl) (d5 24 rfl) (j := 10) rfl ?_
      refine Ev.iloadN (d5 25 rfl) rfl ?_
      refine Ev.iconst (z := 0) (d5 26 rfl) rfl ?_
      obtain ⟨b2, hr⟩ := grd_some hr
      refine Ev.ias V (j := 10) rfl rfl (d5 27 rfl) b2 ?_
      revert hr
      generalize setA s 10 (ix x1) (0 : Int32) = s3
      intro hr
      replace hr := (bnd_eq _ _).symm.trans hr
      refine Ev.iinc (z := 1) (L' := [.val (.ref o), .val (.int (x1 + (1 : Int32)))]) (d5 28 rfl) rfl rfl rfl ?_
      refine Ev.goto (t := 33) (d5 29 rfl) rfl ?_
      exact ih (x1 + (1 : Int32)) s3  _ hr
    · replace hr := (if_neg c1).symm.trans hr
      cases hr
      exact Ev.vreturn rfl (d5 30 rfl)
def f_clearResults_12 (n : Nat) : Nat → Int32 → St → Option (St)
  | 0 => fun _ _ => none
  | k + 1 => fun x1 s =>
    if x1 < (32 : Int32) then
      grd (inb x1 32) <|
      bnd (setA s 9 (ix x1) (0 : Int32)) fun s3 =>
      f_clearResults_12 n k (x1 + (1 : Int32)) s3
    else
      f_clearResults_33 n n (0 : Int32) s
set_option maxRecDepth 100000 in
theorem e_clearResults_12 {g : GT} {n : Nat} (hw : HW g) {K : St → MHeap} {o : Nat} {r : Nat → Nat} (V : View (GG g) Ln K o r) (k : Nat) : ∀ (x1 : Int32) (s : St) (w : St), f_clearResults_12 n k x1 s = some w → Ev (GG g) M_clearResults 12 [.val (.ref o), .val (.int x1)] [] (K s) (none, (K w)) := by
  induction k with
  | zero => intro x1 s w hr; rw [f_clearResults_12] at hr; cases hr
  | succ k ih =>
    intro x1 s w hr
    rw [f_clearResults_12] at hr
    refine Ev.iloadN (d5 8 rfl) rfl ?_
    refine Ev.bipush (z := 32) (d5 9 rfl) rfl ?_
    refine Ev.icge (t := 31) (d5 10 rfl) rfl (fun c1 => ?_) (fun c1 => ?_)
    · replace hr := (if_pos c1).symm.trans hr
      refine Ev.aloadN (d5 11 rfl) rfl ?_
      refine Ev.gAr V (ww hw 29 rfl) (d5 12 rfl) (j := 9) rfl ?_
      refine Ev.iloadN (d5 13 rfl) rfl ?_
      refine Ev.iconst (z := 0) (d5 14 rfl) rfl ?_
      obtain ⟨b2, hr⟩ := grd_some hr
      refine Ev.ias V (j := 9) rfl rfl (d5 15 rfl) b2 ?_
      revert hr
      generalize setA s 9 (ix x1) (0 : Int32) = s3
      intro hr
      replace hr := (bnd_eq _ _).symm.trans hr
      refine Ev.iinc (z := 1) (L' := [.val (.ref o), .val (.int (x1 + (1 : Int32)))]) (d5 16 rfl) rfl rfl rfl ?_
      refine Ev.goto (t := 12) (d5 17 rfl) rfl ?_
      exact ih (x1 + (1 : Int32)) s3  _ hr
    · replace hr := (if_neg c1).symm.trans hr
      refine Ev.iconst (z := 0) (d5 18 rfl) rfl ?_
      refine Ev.istDN (L' := [.val (.ref o), .val (.int (0 : Int32))]) (d5 19 rfl) rfl rfl rfl ?_
      exact e_clearResults_33 hw V  n (0 : Int32) s  _ hr
def f_clearResults (n : Nat) (s : St) : Option (St) :=
  bnd (setI s 25 (0 : Int32)) fun s1 =>
  bnd (setI s1 26 (0 : Int32)) fun s2 =>
  f_clearResults_12 n n (0 : Int32) s2
set_option maxRecDepth 100000 in
theorem e_clearResults {g : GT} {n : Nat} {s : St} {w : St} (hw : HW g) {K : St → MHeap} {o : Nat} {r : Nat → Nat} (V : View (GG g) Ln K o r) (hr : f_clearResults n s = some w) : EvC (GG g) M_clearResults [.ref o] (K s) (none, (K w)) := by
  refine EvC.enter (L0 := [.val (.ref o), .unset]) pl_clearResults (fun _ => rfl) rfl rfl ?_
  unfold f_clearResults at hr
  refine Ev.aloadN (d5 0 rfl) rfl ?_
  refine Ev.iconst (z := 0) (d5 1 rfl) rfl ?_
  refine Ev.pI V (gok hw) (ww hw 78 rfl) (Or.inl (ww hw 79 rfl)) (d5 2 rfl) (j := 25) rfl ?_
  revert hr
  generalize setI s 25 (0 : Int32) = s1
  intro hr
  replace hr := (bnd_eq _ _).symm.trans hr
  refine Ev.aloadN (d5 3 rfl) rfl ?_
  refine Ev.iconst (z := 0) (d5 4 rfl) rfl ?_
  refine Ev.pI V (gok hw) (ww hw 80 rfl) (Or.inl (ww hw 81 rfl)) (d5 5 rfl) (j := 26) rfl ?_
  revert hr
  generalize setI s1 26 (0 : Int32) = s2
  intro hr
  replace hr := (bnd_eq _ _).symm.trans hr
  refine Ev.iconst (z := 0) (d5 6 rfl) rfl ?_
  refine Ev.istDN (L' := [.val (.ref o), .val (.int (0 : Int32))]) (d5 7 rfl) rfl rfl rfl ?_
  exact e_clearResults_12 hw V  n (0 : Int32) s2  _ hr
def f_reset_10 (n : Nat) : Nat → Int32 → St → Option (St)
  | 0 => fun _ _ => none
  | k + 1 => fun x1 s =>
    if x1 < (8 : Int32) then
      grd (inb x1 8) <|
      bnd (setA s 8 (ix x1) (0 : Int32)) fun s3 =>
      f_reset_10 n k (x1 + (1 : Int32)) s3
    else
      bnd (setI s 24 (0 : Int32)) fun s4 =>
      (f_clearResults n s4).bind fun q5 =>
      some q5
set_option maxRecDepth 100000 in
theorem e_reset_10 {g : GT} {n : Nat} (hw : HW g) {K : St → MHeap} {o : Nat} {r : Nat → Nat} (V : View (GG g) Ln K o r) (k : Nat) : ∀ (x1 : Int32) (s : St) (w : St), f_reset_10 n k x1 s = some w → Ev (GG g) M_reset 10 [.val (.ref o), .val (.int x1)] [] (K s) (none, (K w)) := by
  induction k with
  | zero => intro x1 s w hr; rw [f_reset_10] at hr; cases hr
  | succ k ih =>
    intro x1 s w hr
    rw [f_reset_10] at hr
    refine Ev.iloadN (d2 6 rfl) rfl ?_
    refine Ev.bipush (z := 8) (d2 7 rfl) rfl ?_
    refine Ev.icge (t := 29) (d2 8 rfl) rfl (fun c1 => ?_) (fun c1 => ?_)
    · replace hr := (if_pos c1).symm.trans hr
      refine Ev.aloadN (d2 9 rfl) rfl ?_
      refine Ev.gAr V (ww hw 27 rfl) (d2 10 rfl) (j := 8) rfl ?_
      refine Ev.iloadN (d2 11 rfl) rfl ?_
      refine Ev.iconst (z := 0) (d2 12 rfl) rfl ?_
      obtain ⟨b2, hr⟩ := grd_some hr
      refine Ev.ias V (j := 8) rfl rfl (d2 13 rfl) b2 ?_
      revert hr
      generalize setA s 8 (ix x1) (0 : Int32) = s3
      intro hr
      replace hr := (bnd_eq _ _).symm.trans hr
      refine Ev.iinc (z := 1) (L' := [.val (.ref o), .val (.int (x1 + (1 : Int32)))]) (d2 14 rfl) rfl rfl rfl ?_
      refine Ev.goto (t := 10) (d2 15 rfl) rfl ?_
      exact ih (x1 + (1 : Int32)) s3  _ hr
    · replace hr := (if_neg c1).symm.trans hr
      refine Ev.aloadN (d2 16 rfl) rfl ?_
      refine Ev.iconst (z := 0) (d2 17 rfl) rfl ?_
      refine Ev.pI V (gok hw) (ww hw 72 rfl) (Or.inl (ww hw 73 rfl)) (d2 18 rfl) (j := 24) rfl ?_
      revert hr
      generalize setI s 24 (0 : Int32) = s4
      intro hr
      replace hr := (bnd_eq _ _).symm.trans hr
      refine Ev.aloadN (d2 19 rfl) rfl ?_
      obtain ⟨q5, hq6, hr⟩ := Option.bind_eq_some_iff.mp hr
      refine Ev.priv (y := M_clearResults) (args := []) (rest := []) (gok hw) rfl nm_clearResults (ww hw 74 rfl) (ww hw 75 rfl) (ww hw 76 rfl) (ww hw 77 rfl) (lenOf pd_clearResults rfl) (d2 20 rfl) (V.2.1 s4) (e_clearResults hw V hq6) (by decide) (Nat.le_of_ble_eq_true rfl) rfl ?_
      cases hr
      exact Ev.vreturn rfl (d2 21 rfl)
def f_reset (n : Nat) (s : St) : Option (St) :=
  (f_clearProgram n s).bind fun q1 =>
  (f_clearOpen n q1).bind fun q3 =>
  f_reset_10 n n (0 : Int32) q3
set_option maxRecDepth 100000 in
theorem e_reset {g : GT} {n : Nat} {s : St} {w : St} (hw : HW g) {K : St → MHeap} {o : Nat} {r : Nat → Nat} (V : View (GG g) Ln K o r) (hr : f_reset n s = some w) : EvC (GG g) M_reset [.ref o] (K s) (none, (K w)) := by
  refine EvC.enter (L0 := [.val (.ref o), .unset]) pl_reset (fun _ => rfl) rfl rfl ?_
  unfold f_reset at hr
  refine Ev.aloadN (d2 0 rfl) rfl ?_
  obtain ⟨q1, hq2, hr⟩ := Option.bind_eq_some_iff.mp hr
  refine Ev.priv (y := M_clearProgram) (args := []) (rest := []) (gok hw) rfl nm_clearProgram (ww hw 58 rfl) (ww hw 59 rfl) (ww hw 60 rfl) (ww hw 61 rfl) (lenOf pd_clearProgram rfl) (d2 1 rfl) (V.2.1 s) (e_clearProgram hw V hq2) (by decide) (Nat.le_of_ble_eq_true rfl) rfl ?_
  refine Ev.aloadN (d2 2 rfl) rfl ?_
  obtain ⟨q3, hq4, hr⟩ := Option.bind_eq_some_iff.mp hr
  refine Ev.priv (y := M_clearOpen) (args := []) (rest := []) (gok hw) rfl nm_clearOpen (ww hw 64 rfl) (ww hw 65 rfl) (ww hw 66 rfl) (ww hw 67 rfl) (lenOf pd_clearOpen rfl) (d2 3 rfl) (V.2.1 q1) (e_clearOpen hw V hq4) (by decide) (Nat.le_of_ble_eq_true rfl) rfl ?_
  refine Ev.iconst (z := 0) (d2 4 rfl) rfl ?_
  refine Ev.istDN (L' := [.val (.ref o), .val (.int (0 : Int32))]) (d2 5 rfl) rfl rfl rfl ?_
  exact e_reset_10 hw V  n (0 : Int32) q3  _ hr
def f_ctor_164 (n : Nat) (s : St) : Option (St) :=
  (f_reset n s).bind fun q1 =>
  some q1
set_option maxRecDepth 100000 in
theorem e_ctor_164 {g : GT} {n : Nat} (hw : HW g) {K : St → MHeap} {o : Nat} {r : Nat → Nat} (V : View (GG g) Ln K o r) (s : St) (w : St) (hr : f_ctor_164 n s = some w) : Ev (GG g) M_ctor 164 [.val (.ref o)] [] (K s) (none, (K w)) := by
  unfold f_ctor_164 at hr
  refine Ev.aloadN (d0 86 rfl) rfl ?_
  obtain ⟨q1, hq2, hr⟩ := Option.bind_eq_some_iff.mp hr
  refine Ev.virt (y := M_reset) (args := []) (rest := []) (gok hw) rfl nm_reset (ww hw 53 rfl) (ww hw 54 rfl) (ww hw 55 rfl) (ww hw 56 rfl) (ww hw 57 rfl) (lenOf pd_reset rfl) (d0 87 rfl) (V.2.1 s) (e_reset hw V hq2) (by decide) (Nat.le_of_ble_eq_true rfl) rfl ?_
  cases hr
  exact Ev.vreturn rfl (d0 88 rfl)
def f_ctor (n : Nat) : Option (St) :=
  f_ctor_164 n zeroS
set_option maxRecDepth 100000 in
theorem e_ctor {g : GT} {n : Nat} {w : St} (hw : HW g) {pre : MHeap} (hk : k0 (GG g) ≤ pre.length) (hr : f_ctor n = some w) : EvC (GG g) M_ctor [.ref pre.length] (pre ++ [.inl dfl]) (none, KH flds al Ln pre [] w) := by
  refine EvC.enter (L0 := [.val (.ref pre.length)]) pl_ctor (fun _ => rfl) rfl rfl ?_
  unfold f_ctor at hr
  refine Ev.aloadN (d0 0 rfl) rfl ?_
  refine Ev.initO (ww hw 6 rfl) (ww hw 7 rfl) (ww hw 8 rfl) (d0 1 rfl) (by decide) (Nat.le_of_ble_eq_true rfl) ?_
  show Ev (GG g) M_ctor 4 _ _ (cons pre dfl []) _
  refine Ev.aloadN (d0 2 rfl) rfl ?_
  refine Ev.bipush (z := 24) (d0 3 rfl) rfl ?_
  refine Ev.cnew (aty := .int) (b := false) (k := 24) (q := 0) (as' := [(false, tab 24 (fun _ => 0))]) (ww hw 9 rfl) rfl (d0 4 rfl) (by decide) rfl (by decide) rfl rfl ?_
  refine Ev.cput (v' := .ref (pre.length + 1 + 0)) (fs' := [.ref (pre.length + 1 + 0), .null, .null, .null, .null, .null, .null, .null, .null, .null, .null, .null, .null, .null, .null, .null, .null, .null, .null, .null, .null, .int 0, .int 0, .int 0, .int 0, .int 0, .int 0, .int 0, .int 0, .int 0, .int 0]) (gok hw) hk (ww hw 10 rfl) (Or.inl (ww hw 11 rfl)) (d0 5 rfl) (j := 0) rfl rfl rfl ?_
  refine Ev.aloadN (d0 6 rfl) rfl ?_
  refine Ev.bipush (z := 24) (d0 7 rfl) rfl ?_
  refine Ev.cnew (aty := .int) (b := false) (k := 24) (q := 1) (as' := [(false, tab 24 (fun _ => 0)), (false, tab 24 (fun _ => 0))]) (ww hw 9 rfl) rfl (d0 8 rfl) (by decide) rfl (by decide) rfl rfl ?_
  refine Ev.cput (v' := .ref (pre.length + 1 + 1)) (fs' := [.ref (pre.length + 1 + 0), .ref (pre.length + 1 + 1), .null, .null, .null, .null, .null, .null, .null, .null, .null, .null, .null, .null, .null, .null, .null, .null, .null, .null, .null, .int 0, .int 0, .int 0, .int 0, .int 0, .int 0, .int 0, .int 0, .int 0, .int 0]) (gok hw) hk (ww hw 12 rfl) (Or.inl (ww hw 13 rfl)) (d0 9 rfl) (j := 1) rfl rfl rfl ?_
  refine Ev.aloadN (d0 10 rfl) rfl ?_
  refine Ev.bipush (z := 24) (d0 11 rfl) rfl ?_
  refine Ev.cnew (aty := .int) (b := false) (k := 24) (q := 2) (as' := [(false, tab 24 (fun _ => 0)), (false, tab 24 (fun _ => 0)), (false, tab 24 (fun _ => 0))]) (ww hw 9 rfl) rfl (d0 12 rfl) (by decide) rfl (by decide) rfl rfl ?_
  refine Ev.cput (v' := .ref (pre.length + 1 + 2)) (fs' := [.ref (pre.length + 1 + 0), .ref (pre.length + 1 + 1), .ref (pre.length + 1 + 2), .null, .null, .null, .null, .null, .null, .null, .null, .null, .null, .null, .null, .null, .null, .null, .null, .null, .null, .int 0, .int 0, .int 0, .int 0, .int 0, .int 0, .int 0, .int 0, .int 0, .int 0]) (gok hw) hk (ww hw 14 rfl) (Or.inl (ww hw 15 rfl)) (d0 13 rfl) (j := 2) rfl rfl rfl ?_
  refine Ev.aloadN (d0 14 rfl) rfl ?_
  refine Ev.bipush (z := 24) (d0 15 rfl) rfl ?_
  refine Ev.cnew (aty := .int) (b := false) (k := 24) (q := 3) (as' := [(false, tab 24 (fun _ => 0)), (false, tab 24 (fun _ => 0)), (false, tab 24 (fun _ => 0)), (false, tab 24 (fun _ => 0))]) (ww hw 9 rfl) rfl (d0 16 rfl) (by decide) rfl (by decide) rfl rfl ?_
  refine Ev.cput (v' := .ref (pre.length + 1 + 3)) (fs' := [.ref (pre.length + 1 + 0), .ref (pre.length + 1 + 1), .ref (pre.length + 1 + 2), .ref (pre.length + 1 + 3), .null, .null, .null, .null, .null, .null, .null, .null, .null, .null, .null, .null, .null, .null, .null, .null, .null, .int 0, .int 0, .int 0, .int 0, .int 0, .int 0, .int 0, .int 0, .int 0, .int 0]) (gok hw) hk (ww hw 16 rfl) (Or.inl (ww hw 17 rfl)) (d0 17 rfl) (j := 3) rfl rfl rfl ?_
  refine Ev.aloadN (d0 18 rfl) rfl ?_
  refine Ev.bipush (z := 24) (d0 19 rfl) rfl ?_
  refine Ev.cnew (aty := .int) (b := false) (k := 24) (q := 4) (as' := [(false, tab 24 (fun _ => 0)), (false, tab 24 (fun _ => 0)), (false, tab 24 (fun _ => 0)), (false, tab 24 (fun _ => 0)), (false, tab 24 (fun _ => 0))]) (ww hw 9 rfl) rfl (d0 20 rfl) (by decide) rfl (by decide) rfl rfl ?_
  refine Ev.cput (v' := .ref (pre.length + 1 + 4)) (fs' := [.ref (pre.length + 1 + 0), .ref (pre.length + 1 + 1), .ref (pre.length + 1 + 2), .ref (pre.length + 1 + 3), .ref (pre.length + 1 + 4), .null, .null, .null, .null, .null, .null, .null, .null, .null, .null, .null, .null, .null, .null, .null, .null, .int 0, .int 0, .int 0, .int 0, .int 0, .int 0, .int 0, .int 0, .int 0, .int 0]) (gok hw) hk (ww hw 18 rfl) (Or.inl (ww hw 19 rfl)) (d0 21 rfl) (j := 4) rfl rfl rfl ?_
  refine Ev.aloadN (d0 22 rfl) rfl ?_
  refine Ev.iconst (z := 4) (d0 23 rfl) rfl ?_
  refine Ev.cnew (aty := .int) (b := false) (k := 4) (q := 5) (as' := [(false, tab 24 (fun _ => 0)), (false, tab 24 (fun _ => 0)), (false, tab 24 (fun _ => 0)), (false, tab 24 (fun _ => 0)), (false, tab 24 (fun _ => 0)), (false, tab 4 (fun _ => 0))]) (ww hw 9 rfl) rfl (d0 24 rfl) (by decide) rfl (by decide) rfl rfl ?_
  refine Ev.cput (v' := .ref (pre.length + 1 + 5)) (fs' := [.ref (pre.length + 1 + 0), .ref (pre.length + 1 + 1), .ref (pre.length + 1 + 2), .ref (pre.length + 1 + 3), .ref (pre.length + 1 + 4), .ref (pre.length + 1 + 5), .null, .null, .null, .null, .null, .null, .null, .null, .null, .null, .null, .null, .null, .null, .null, .int 0, .int 0, .int 0, .int 0, .int 0, .int 0, .int 0, .int 0, .int 0, .int 0]) (gok hw) hk (ww hw 20 rfl) (Or.inl (ww hw 21 rfl)) (d0 25 rfl) (j := 5) rfl rfl rfl ?_
  refine Ev.aloadN (d0 26 rfl) rfl ?_
  refine Ev.iconst (z := 4) (d0 27 rfl) rfl ?_
  refine Ev.cnew (aty := .int) (b := false) (k := 4) (q := 6) (as' := [(false, tab 24 (fun _ => 0)), (false, tab 24 (fun _ => 0)), (false, tab 24 (fun _ => 0)), (false, tab 24 (fun _ => 0)), (false, tab 24 (fun _ => 0)), (false, tab 4 (fun _ => 0)), (false, tab 4 (fun _ => 0))]) (ww hw 9 rfl) rfl (d0 28 rfl) (by decide) rfl (by decide) rfl rfl ?_
  refine Ev.cput (v' := .ref (pre.length + 1 + 6)) (fs' := [.ref (pre.length + 1 + 0), .ref (pre.length + 1 + 1), .ref (pre.length + 1 + 2), .ref (pre.length + 1 + 3), .ref (pre.length + 1 + 4), .ref (pre.length + 1 + 5), .ref (pre.length + 1 + 6), .null, .null, .null, .null, .null, .null, .null, .null, .null, .null, .null, .null, .null, .null, .int 0, .int 0, .int 0, .int 0, .int 0, .int 0, .int 0, .int 0, .int 0, .int 0]) (gok hw) hk (ww hw 22 rfl) (Or.inl (ww hw 23 rfl)) (d0 29 rfl) (j := 6) rfl rfl rfl ?_
  refine Ev.aloadN (d0 30 rfl) rfl ?_
  refine Ev.iconst (z := 4) (d0 31 rfl) rfl ?_
  refine Ev.cnew (aty := .boolean) (b := true) (k := 4) (q := 7) (as' := [(false, tab 24 (fun _ => 0)), (false, tab 24 (fun _ => 0)), (false, tab 24 (fun _ => 0)), (false, tab 24 (fun _ => 0)), (false, tab 24 (fun _ => 0)), (false, tab 4 (fun _ => 0)), (false, tab 4 (fun _ => 0)), (true, tab 4 (fun _ => 0))]) (ww hw 24 rfl) rfl (d0 32 rfl) (by decide) rfl (by decide) rfl rfl ?_
  refine Ev.cput (v' := .ref (pre.length + 1 + 7)) (fs' := [.ref (pre.length + 1 + 0), .ref (pre.length + 1 + 1), .ref (pre.length + 1 + 2), .ref (pre.length + 1 + 3), .ref (pre.length + 1 + 4), .ref (pre.length + 1 + 5), .ref (pre.length + 1 + 6), .ref (pre.length + 1 + 7), .null, .null, .null, .null, .null, .null, .null, .null, .null, .null, .null, .null, .null, .int 0, .int 0, .int 0, .int 0, .int 0, .int 0, .int 0, .int 0, .int 0, .int 0]) (gok hw) hk (ww hw 25 rfl) (Or.inl (ww hw 26 rfl)) (d0 33 rfl) (j := 7) rfl rfl rfl ?_
  refine Ev.aloadN (d0 34 rfl) rfl ?_
  refine Ev.bipush (z := 8) (d0 35 rfl) rfl ?_
  refine Ev.cnew (aty := .int) (b := false) (k := 8) (q := 8) (as' := [(false, tab 24 (fun _ => 0)), (false, tab 24 (fun _ => 0)), (false, tab 24 (fun _ => 0)), (false, tab 24 (fun _ => 0)), (false, tab 24 (fun _ => 0)), (false, tab 4 (fun _ => 0)), (false, tab 4 (fun _ => 0)), (true, tab 4 (fun _ => 0)), (false, tab 8 (fun _ => 0))]) (ww hw 9 rfl) rfl (d0 36 rfl) (by decide) rfl (by decide) rfl rfl ?_
  refine Ev.cput (v' := .ref (pre.length + 1 + 8)) (fs' := [.ref (pre.length + 1 + 0), .ref (pre.length + 1 + 1), .ref (pre.length + 1 + 2), .ref (pre.length + 1 + 3), .ref (pre.length + 1 + 4), .ref (pre.length + 1 + 5), .ref (pre.length + 1 + 6), .ref (pre.length + 1 + 7), .ref (pre.length + 1 + 8), .null, .null, .null, .null, .null, .null, .null, .null, .null, .null, .null, .null, .int 0, .int 0, .int 0, .int 0, .int 0, .int 0, .int 0, .int 0, .int 0, .int 0]) (gok hw) hk (ww hw 27 rfl) (Or.inl (ww hw 28 rfl)) (d0 37 rfl) (j := 8) rfl rfl rfl ?_
  refine Ev.aloadN (d0 38 rfl) rfl ?_
  refine Ev.bipush (z := 32) (d0 39 rfl) rfl ?_
  refine Ev.cnew (aty := .int) (b := false) (k := 32) (q := 9) (as' := [(false, tab 24 (fun _ => 0)), (false, tab 24 (fun _ => 0)), (false, tab 24 (fun _ => 0)), (false, tab 24 (fun _ => 0)), (false, tab 24 (fun _ => 0)), (false, tab 4 (fun _ => 0)), (false, tab 4 (fun _ => 0)), (true, tab 4 (fun _ => 0)), (false, tab 8 (fun _ => 0)), (false, tab 32 (fun _ => 0))]) (ww hw 9 rfl) rfl (d0 40 rfl) (by decide) rfl (by decide) rfl rfl ?_
  refine Ev.cput (v' := .ref (pre.length + 1 + 9)) (fs' := [.ref (pre.length + 1 + 0), .ref (pre.length + 1 + 1), .ref (pre.length + 1 + 2), .ref (pre.length + 1 + 3), .ref (pre.length + 1 + 4), .ref (pre.length + 1 + 5), .ref (pre.length + 1 + 6), .ref (pre.length + 1 + 7), .ref (pre.length + 1 + 8), .ref (pre.length + 1 + 9), .null, .null, .null, .null, .null, .null, .null, .null, .null, .null, .null, .int 0, .int 0, .int 0, .int 0, .int 0, .int 0, .int 0, .int 0, .int 0, .int 0]) (gok hw) hk (ww hw 29 rfl) (Or.inl (ww hw 30 rfl)) (d0 41 rfl) (j := 9) rfl rfl rfl ?_
  refine Ev.aloadN (d0 42 rfl) rfl ?_
  refine Ev.bipush (z := 8) (d0 43 rfl) rfl ?_
  refine Ev.cnew (aty := .int) (b := false) (k := 8) (q := 10) (as' := [(false, tab 24 (fun _ => 0)), (false, tab 24 (fun _ => 0)), (false, tab 24 (fun _ => 0)), (false, tab 24 (fun _ => 0)), (false, tab 24 (fun _ => 0)), (false, tab 4 (fun _ => 0)), (false, tab 4 (fun _ => 0)), (true, tab 4 (fun _ => 0)), (false, tab 8 (fun _ => 0)), (false, tab 32 (fun _ => 0)), (false, tab 8 (fun _ => 0))]) (ww hw 9 rfl) rfl (d0 44 rfl) (by decide) rfl (by decide) rfl rfl ?_
  refine Ev.cput (v' := .ref (pre.length + 1 + 10)) (fs' := [.ref (pre.length + 1 + 0), .ref (pre.length + 1 + 1), .ref (pre.length + 1 + 2), .ref (pre.length + 1 + 3), .ref (pre.length + 1 + 4), .ref (pre.length + 1 + 5), .ref (pre.length + 1 + 6), .ref (pre.length + 1 + 7), .ref (pre.length + 1 + 8), .ref (pre.length + 1 + 9), .ref (pre.length + 1 + 10), .null, .null, .null, .null, .null, .null, .null, .null, .null, .null, .int 0, .int 0, .int 0, .int 0, .int 0, .int 0, .int 0, .int 0, .int 0, .int 0]) (gok hw) hk (ww hw 31 rfl) (Or.inl (ww hw 32 rfl)) (d0 45 rfl) (j := 10) rfl rfl rfl ?_
  refine Ev.aloadN (d0 46 rfl) rfl ?_
  refine Ev.bipush (z := 8) (d0 47 rfl) rfl ?_
  refine Ev.cnew (aty := .int) (b := false) (k := 8) (q := 11) (as' := [(false, tab 24 (fun _ => 0)), (false, tab 24 (fun _ => 0)), (false, tab 24 (fun _ => 0)), (false, tab 24 (fun _ => 0)), (false, tab 24 (fun _ => 0)), (false, tab 4 (fun _ => 0)), (false, tab 4 (fun _ => 0)), (true, tab 4 (fun _ => 0)), (false, tab 8 (fun _ => 0)), (false, tab 32 (fun _ => 0)), (false, tab 8 (fun _ => 0)), (false, tab 8 (fun _ => 0))]) (ww hw 9 rfl) rfl (d0 48 rfl) (by decide) rfl (by decide) rfl rfl ?_
  refine Ev.cput (v' := .ref (pre.length + 1 + 11)) (fs' := [.ref (pre.length + 1 + 0), .ref (pre.length + 1 + 1), .ref (pre.length + 1 + 2), .ref (pre.length + 1 + 3), .ref (pre.length + 1 + 4), .ref (pre.length + 1 + 5), .ref (pre.length + 1 + 6), .ref (pre.length + 1 + 7), .ref (pre.length + 1 + 8), .ref (pre.length + 1 + 9), .ref (pre.length + 1 + 10), .ref (pre.length + 1 + 11), .null, .null, .null, .null, .null, .null, .null, .null, .null, .int 0, .int 0, .int 0, .int 0, .int 0, .int 0, .int 0, .int 0, .int 0, .int 0]) (gok hw) hk (ww hw 33 rfl) (Or.inl (ww hw 34 rfl)) (d0 49 rfl) (j := 11) rfl rfl rfl ?_
  refine Ev.aloadN (d0 50 rfl) rfl ?_
  refine Ev.iconst (z := 2) (d0 51 rfl) rfl ?_
  refine Ev.cnew (aty := .int) (b := false) (k := 2) (q := 12) (as' := [(false, tab 24 (fun _ => 0)), (false, tab 24 (fun _ => 0)), (false, tab 24 (fun _ => 0)), (false, tab 24 (fun _ => 0)), (false, tab 24 (fun _ => 0)), (false, tab 4 (fun _ => 0)), (false, tab 4 (fun _ => 0)), (true, tab 4 (fun _ => 0)), (false, tab 8 (fun _ => 0)), (false, tab 32 (fun _ => 0)), (false, tab 8 (fun _ => 0)), (false, tab 8 (fun _ => 0)), (false, tab 2 (fun _ => 0))]) (ww hw 9 rfl) rfl (d0 52 rfl) (by decide) rfl (by decide) rfl rfl ?_
  refine Ev.cput (v' := .ref (pre.length + 1 + 12)) (fs' := [.ref (pre.length + 1 + 0), .ref (pre.length + 1 + 1), .ref (pre.length + 1 + 2), .ref (pre.length + 1 + 3), .ref (pre.length + 1 + 4), .ref (pre.length + 1 + 5), .ref (pre.length + 1 + 6), .ref (pre.length + 1 + 7), .ref (pre.length + 1 + 8), .ref (pre.length + 1 + 9), .ref (pre.length + 1 + 10), .ref (pre.length + 1 + 11), .ref (pre.length + 1 + 12), .null, .null, .null, .null, .null, .null, .null, .null, .int 0, .int 0, .int 0, .int 0, .int 0, .int 0, .int 0, .int 0, .int 0, .int 0]) (gok hw) hk (ww hw 35 rfl) (Or.inl (ww hw 36 rfl)) (d0 53 rfl) (j := 12) rfl rfl rfl ?_
  refine Ev.aloadN (d0 54 rfl) rfl ?_
  refine Ev.iconst (z := 2) (d0 55 rfl) rfl ?_
  refine Ev.cnew (aty := .int) (b := false) (k := 2) (q := 13) (as' := [(false, tab 24 (fun _ => 0)), (false, tab 24 (fun _ => 0)), (false, tab 24 (fun _ => 0)), (false, tab 24 (fun _ => 0)), (false, tab 24 (fun _ => 0)), (false, tab 4 (fun _ => 0)), (false, tab 4 (fun _ => 0)), (true, tab 4 (fun _ => 0)), (false, tab 8 (fun _ => 0)), (false, tab 32 (fun _ => 0)), (false, tab 8 (fun _ => 0)), (false, tab 8 (fun _ => 0)), (false, tab 2 (fun _ => 0)), (false, tab 2 (fun _ => 0))]) (ww hw 9 rfl) rfl (d0 56 rfl) (by decide) rfl (by decide) rfl rfl ?_
  refine Ev.cput (v' := .ref (pre.length + 1 + 13)) (fs' := [.ref (pre.length + 1 + 0), .ref (pre.length + 1 + 1), .ref (pre.length + 1 + 2), .ref (pre.length + 1 + 3), .ref (pre.length + 1 + 4), .ref (pre.length + 1 + 5), .ref (pre.length + 1 + 6), .ref (pre.length + 1 + 7), .ref (pre.length + 1 + 8), .ref (pre.length + 1 + 9), .ref (pre.length + 1 + 10), .ref (pre.length + 1 + 11), .ref (pre.length + 1 + 12), .ref (pre.length + 1 + 13), .null, .null, .null, .null, .null, .null, .null, .int 0, .int 0, .int 0, .int 0, .int 0, .int 0, .int 0, .int 0, .int 0, .int 0]) (gok hw) hk (ww hw 37 rfl) (Or.inl (ww hw 38 rfl)) (d0 57 rfl) (j := 13) rfl rfl rfl ?_
  refine Ev.aloadN (d0 58 rfl) rfl ?_
  refine Ev.iconst (z := 2) (d0 59 rfl) rfl ?_
  refine Ev.cnew (aty := .int) (b := false) (k := 2) (q := 14) (as' := [(false, tab 24 (fun _ => 0)), (false, tab 24 (fun _ => 0)), (false, tab 24 (fun _ => 0)), (false, tab 24 (fun _ => 0)), (false, tab 24 (fun _ => 0)), (false, tab 4 (fun _ => 0)), (false, tab 4 (fun _ => 0)), (true, tab 4 (fun _ => 0)), (false, tab 8 (fun _ => 0)), (false, tab 32 (fun _ => 0)), (false, tab 8 (fun _ => 0)), (false, tab 8 (fun _ => 0)), (false, tab 2 (fun _ => 0)), (false, tab 2 (fun _ => 0)), (false, tab 2 (fun _ => 0))]) (ww hw 9 rfl) rfl (d0 60 rfl) (by decide) rfl (by decide) rfl rfl ?_
  refine Ev.cput (v' := .ref (pre.length + 1 + 14)) (fs' := [.ref (pre.length + 1 + 0), .ref (pre.length + 1 + 1), .ref (pre.length + 1 + 2), .ref (pre.length + 1 + 3), .ref (pre.length + 1 + 4), .ref (pre.length + 1 + 5), .ref (pre.length + 1 + 6), .ref (pre.length + 1 + 7), .ref (pre.length + 1 + 8), .ref (pre.length + 1 + 9), .ref (pre.length + 1 + 10), .ref (pre.length + 1 + 11), .ref (pre.length + 1 + 12), .ref (pre.length + 1 + 13), .ref (pre.length + 1 + 14), .null, .null, .null, .null, .null, .null, .int 0, .int 0, .int 0, .int 0, .int 0, .int 0, .int 0, .int 0, .int 0, .int 0]) (gok hw) hk (ww hw 39 rfl) (Or.inl (ww hw 40 rfl)) (d0 61 rfl) (j := 14) rfl rfl rfl ?_
  refine Ev.aloadN (d0 62 rfl) rfl ?_
  refine Ev.iconst (z := 2) (d0 63 rfl) rfl ?_
  refine Ev.cnew (aty := .int) (b := false) (k := 2) (q := 15) (as' := [(false, tab 24 (fun _ => 0)), (false, tab 24 (fun _ => 0)), (false, tab 24 (fun _ => 0)), (false, tab 24 (fun _ => 0)), (false, tab 24 (fun _ => 0)), (false, tab 4 (fun _ => 0)), (false, tab 4 (fun _ => 0)), (true, tab 4 (fun _ => 0)), (false, tab 8 (fun _ => 0)), (false, tab 32 (fun _ => 0)), (false, tab 8 (fun _ => 0)), (false, tab 8 (fun _ => 0)), (false, tab 2 (fun _ => 0)), (false, tab 2 (fun _ => 0)), (false, tab 2 (fun _ => 0)), (false, tab 2 (fun _ => 0))]) (ww hw 9 rfl) rfl (d0 64 rfl) (by decide) rfl (by decide) rfl rfl ?_
  refine Ev.cput (v' := .ref (pre.length + 1 + 15)) (fs' := [.ref (pre.length + 1 + 0), .ref (pre.length + 1 + 1), .ref (pre.length + 1 + 2), .ref (pre.length + 1 + 3), .ref (pre.length + 1 + 4), .ref (pre.length + 1 + 5), .ref (pre.length + 1 + 6), .ref (pre.length + 1 + 7), .ref (pre.length + 1 + 8), .ref (pre.length + 1 + 9), .ref (pre.length + 1 + 10), .ref (pre.length + 1 + 11), .ref (pre.length + 1 + 12), .ref (pre.length + 1 + 13), .ref (pre.length + 1 + 14), .ref (pre.length + 1 + 15), .null, .null, .null, .null, .null, .int 0, .int 0, .int 0, .int 0, .int 0, .int 0, .int 0, .int 0, .int 0, .int 0]) (gok hw) hk (ww hw 41 rfl) (Or.inl (ww hw 42 rfl)) (d0 65 rfl) (j := 15) rfl rfl rfl ?_
  refine Ev.aloadN (d0 66 rfl) rfl ?_
  refine Ev.iconst (z := 2) (d0 67 rfl) rfl ?_
  refine Ev.cnew (aty := .int) (b := false) (k := 2) (q := 16) (as' := [(false, tab 24 (fun _ => 0)), (false, tab 24 (fun _ => 0)), (false, tab 24 (fun _ => 0)), (false, tab 24 (fun _ => 0)), (false, tab 24 (fun _ => 0)), (false, tab 4 (fun _ => 0)), (false, tab 4 (fun _ => 0)), (true, tab 4 (fun _ => 0)), (false, tab 8 (fun _ => 0)), (false, tab 32 (fun _ => 0)), (false, tab 8 (fun _ => 0)), (false, tab 8 (fun _ => 0)), (false, tab 2 (fun _ => 0)), (false, tab 2 (fun _ => 0)), (false, tab 2 (fun _ => 0)), (false, tab 2 (fun _ => 0)), (false, tab 2 (fun _ => 0))]) (ww hw 9 rfl) rfl (d0 68 rfl) (by decide) rfl (by decide) rfl rfl ?_
  refine Ev.cput (v' := .ref (pre.length + 1 + 16)) (fs' := [.ref (pre.length + 1 + 0), .ref (pre.length + 1 + 1), .ref (pre.length + 1 + 2), .ref (pre.length + 1 + 3), .ref (pre.length + 1 + 4), .ref (pre.length + 1 + 5), .ref (pre.length + 1 + 6), .ref (pre.length + 1 + 7), .ref (pre.length + 1 + 8), .ref (pre.length + 1 + 9), .ref (pre.length + 1 + 10), .ref (pre.length + 1 + 11), .ref (pre.length + 1 + 12), .ref (pre.length + 1 + 13), .ref (pre.length + 1 + 14), .ref (pre.length + 1 + 15), .ref (pre.length + 1 + 16), .null, .null, .null, .null, .int 0, .int 0, .int 0, .int 0, .int 0, .int 0, .int 0, .int 0, .int 0, .int 0]) (gok hw) hk (ww hw 43 rfl) (Or.inl (ww hw 44 rfl)) (d0 69 rfl) (j := 16) rfl rfl rfl ?_
  refine Ev.aloadN (d0 70 rfl) rfl ?_
  refine Ev.bipush (z := 24) (d0 71 rfl) rfl ?_
  refine Ev.cnew (aty := .boolean) (b := true) (k := 24) (q := 17) (as' := [(false, tab 24 (fun _ => 0)), (false, tab 24 (fun _ => 0)), (false, tab 24 (fun _ => 0)), (false, tab 24 (fun _ => 0)), (false, tab 24 (fun _ => 0)), (false, tab 4 (fun _ => 0)), (false, tab 4 (fun _ => 0)), (true, tab 4 (fun _ => 0)), (false, tab 8 (fun _ => 0)), (false, tab 32 (fun _ => 0)), (false, tab 8 (fun _ => 0)), (false, tab 8 (fun _ => 0)), (false, tab 2 (fun _ => 0)), (false, tab 2 (fun _ => 0)), (false, tab 2 (fun _ => 0)), (false, tab 2 (fun _ => 0)), (false, tab 2 (fun _ => 0)), (true, tab 24 (fun _ => 0))]) (ww hw 24 rfl) rfl (d0 72 rfl) (by decide) rfl (by decide) rfl rfl ?_
  refine Ev.cput (v' := .ref (pre.length + 1 + 17)) (fs' := [.ref (pre.length + 1 + 0), .ref (pre.length + 1 + 1), .ref (pre.length + 1 + 2), .ref (pre.length + 1 + 3), .ref (pre.length + 1 + 4), .ref (pre.length + 1 + 5), .ref (pre.length + 1 + 6), .ref (pre.length + 1 + 7), .ref (pre.length + 1 + 8), .ref (pre.length + 1 + 9), .ref (pre.length + 1 + 10), .ref (pre.length + 1 + 11), .ref (pre.length + 1 + 12), .ref (pre.length + 1 + 13), .ref (pre.length + 1 + 14), .ref (pre.length + 1 + 15), .ref (pre.length + 1 + 16), .ref (pre.length + 1 + 17), .null, .null, .null, .int 0, .int 0, .int 0, .int 0, .int 0, .int 0, .int 0, .int 0, .int 0, .int 0]) (gok hw) hk (ww hw 45 rfl) (Or.inl (ww hw 46 rfl)) (d0 73 rfl) (j := 17) rfl rfl rfl ?_
  refine Ev.aloadN (d0 74 rfl) rfl ?_
  refine Ev.bipush (z := 24) (d0 75 rfl) rfl ?_
  refine Ev.cnew (aty := .int) (b := false) (k := 24) (q := 18) (as' := [(false, tab 24 (fun _ => 0)), (false, tab 24 (fun _ => 0)), (false, tab 24 (fun _ => 0)), (false, tab 24 (fun _ => 0)), (false, tab 24 (fun _ => 0)), (false, tab 4 (fun _ => 0)), (false, tab 4 (fun _ => 0)), (true, tab 4 (fun _ => 0)), (false, tab 8 (fun _ => 0)), (false, tab 32 (fun _ => 0)), (false, tab 8 (fun _ => 0)), (false, tab 8 (fun _ => 0)), (false, tab 2 (fun _ => 0)), (false, tab 2 (fun _ => 0)), (false, tab 2 (fun _ => 0)), (false, tab 2 (fun _ => 0)), (false, tab 2 (fun _ => 0)), (true, tab 24 (fun _ => 0)), (false, tab 24 (fun _ => 0))]) (ww hw 9 rfl) rfl (d0 76 rfl) (by decide) rfl (by decide) rfl rfl ?_
  refine Ev.cput (v' := .ref (pre.length + 1 + 18)) (fs' := [.ref (pre.length + 1 + 0), .ref (pre.length + 1 + 1), .ref (pre.length + 1 + 2), .ref (pre.length + 1 + 3), .ref (pre.length + 1 + 4), .ref (pre.length + 1 + 5), .ref (pre.length + 1 + 6), .ref (pre.length + 1 + 7), .ref (pre.length + 1 + 8), .ref (pre.length + 1 + 9), .ref (pre.length + 1 + 10), .ref (pre.length + 1 + 11), .ref (pre.length + 1 + 12), .ref (pre.length + 1 + 13), .ref (pre.length + 1 + 14), .ref (pre.length + 1 + 15), .ref (pre.length + 1 + 16), .ref (pre.length + 1 + 17), .ref (pre.length + 1 + 18), .null, .null, .int 0, .int 0, .int 0, .int 0, .int 0, .int 0, .int 0, .int 0, .int 0, .int 0]) (gok hw) hk (ww hw 47 rfl) (Or.inl (ww hw 48 rfl)) (d0 77 rfl) (j := 18) rfl rfl rfl ?_
  refine Ev.aloadN (d0 78 rfl) rfl ?_
  refine Ev.bipush (z := 24) (d0 79 rfl) rfl ?_
  refine Ev.cnew (aty := .boolean) (b := true) (k := 24) (q := 19) (as' := [(false, tab 24 (fun _ => 0)), (false, tab 24 (fun _ => 0)), (false, tab 24 (fun _ => 0)), (false, tab 24 (fun _ => 0)), (false, tab 24 (fun _ => 0)), (false, tab 4 (fun _ => 0)), (false, tab 4 (fun _ => 0)), (true, tab 4 (fun _ => 0)), (false, tab 8 (fun _ => 0)), (false, tab 32 (fun _ => 0)), (false, tab 8 (fun _ => 0)), (false, tab 8 (fun _ => 0)), (false, tab 2 (fun _ => 0)), (false, tab 2 (fun _ => 0)), (false, tab 2 (fun _ => 0)), (false, tab 2 (fun _ => 0)), (false, tab 2 (fun _ => 0)), (true, tab 24 (fun _ => 0)), (false, tab 24 (fun _ => 0)), (true, tab 24 (fun _ => 0))]) (ww hw 24 rfl) rfl (d0 80 rfl) (by decide) rfl (by decide) rfl rfl ?_
  refine Ev.cput (v' := .ref (pre.length + 1 + 19)) (fs' := [.ref (pre.length + 1 + 0), .ref (pre.length + 1 + 1), .ref (pre.length + 1 + 2), .ref (pre.length + 1 + 3), .ref (pre.length + 1 + 4), .ref (pre.length + 1 + 5), .ref (pre.length + 1 + 6), .ref (pre.length + 1 + 7), .ref (pre.length + 1 + 8), .ref (pre.length + 1 + 9), .ref (pre.length + 1 + 10), .ref (pre.length + 1 + 11), .ref (pre.length + 1 + 12), .ref (pre.length + 1 + 13), .ref (pre.length + 1 + 14), .ref (pre.length + 1 + 15), .ref (pre.length + 1 + 16), .ref (pre.length + 1 + 17), .ref (pre.length + 1 + 18), .ref (pre.length + 1 + 19), .null, .int 0, .int 0, .int 0, .int 0, .int 0, .int 0, .int 0, .int 0, .int 0, .int 0]) (gok hw) hk (ww hw 49 rfl) (Or.inl (ww hw 50 rfl)) (d0 81 rfl) (j := 19) rfl rfl rfl ?_
  refine Ev.aloadN (d0 82 rfl) rfl ?_
  refine Ev.bipush (z := 24) (d0 83 rfl) rfl ?_
  refine Ev.cnew (aty := .boolean) (b := true) (k := 24) (q := 20) (as' := [(false, tab 24 (fun _ => 0)), (false, tab 24 (fun _ => 0)), (false, tab 24 (fun _ => 0)), (false, tab 24 (fun _ => 0)), (false, tab 24 (fun _ => 0)), (false, tab 4 (fun _ => 0)), (false, tab 4 (fun _ => 0)), (true, tab 4 (fun _ => 0)), (false, tab 8 (fun _ => 0)), (false, tab 32 (fun _ => 0)), (false, tab 8 (fun _ => 0)), (false, tab 8 (fun _ => 0)), (false, tab 2 (fun _ => 0)), (false, tab 2 (fun _ => 0)), (false, tab 2 (fun _ => 0)), (false, tab 2 (fun _ => 0)), (false, tab 2 (fun _ => 0)), (true, tab 24 (fun _ => 0)), (false, tab 24 (fun _ => 0)), (true, tab 24 (fun _ => 0)), (true, tab 24 (fun _ => 0))]) (ww hw 24 rfl) rfl (d0 84 rfl) (by decide) rfl (by decide) rfl rfl ?_
  refine Ev.cput (v' := .ref (pre.length + 1 + 20)) (fs' := [.ref (pre.length + 1 + 0), .ref (pre.length + 1 + 1), .ref (pre.length + 1 + 2), .ref (pre.length + 1 + 3), .ref (pre.length + 1 + 4), .ref (pre.length + 1 + 5), .ref (pre.length + 1 + 6), .ref (pre.length + 1 + 7), .ref (pre.length + 1 + 8), .ref (pre.length + 1 + 9), .ref (pre.length + 1 + 10), .ref (pre.length + 1 + 11), .ref (pre.length + 1 + 12), .ref (pre.length + 1 + 13), .ref (pre.length + 1 + 14), .ref (pre.length + 1 + 15), .ref (pre.length + 1 + 16), .ref (pre.length + 1 + 17), .ref (pre.length + 1 + 18), .ref (pre.length + 1 + 19), .ref (pre.length + 1 + 20), .int 0, .int 0, .int 0, .int 0, .int 0, .int 0, .int 0, .int 0, .int 0, .int 0]) (gok hw) hk (ww hw 51 rfl) (Or.inl (ww hw 52 rfl)) (d0 85 rfl) (j := 20) rfl rfl rfl ?_
  show Ev (GG g) M_ctor 164 [.val (.ref pre.length)] [] (KH flds al Ln pre [] zeroS) _
  exact e_ctor_164 hw (K := KH flds al Ln pre []) (o := pre.length) (r := rA pre.length al) (view_of hk al_ok al_nd)  zeroS  _ hr
def f_isVar (s : St) (a0 : Int32) : Option (Int32) :=
  if a0 < 0 then
    some (0 : Int32)
  else
    if a0 < (8 : Int32) then
      some (1 : Int32)
    else
      some (0 : Int32)
set_option maxRecDepth 100000 in
theorem e_isVar {g : GT} {s : St} {a0 : Int32} {w : Int32} (hw : HW g) {K : St → MHeap} {o : Nat} {r : Nat → Nat} (V : View (GG g) Ln K o r) (hr : f_isVar s a0 = some w) : EvC (GG g) M_isVar [.ref o, .int a0] (K s) ((some (.int w)), (K s)) := by
  refine EvC.enter (L0 := [.val (.ref o), .val (.int a0)]) pl_isVar (fun h => nomatch h) rfl rfl ?_
  unfold f_isVar at hr
  refine Ev.iloadN (d7 0 rfl) rfl ?_
  refine Ev.iflt (t := 14) (d7 1 rfl) rfl (fun c1 => ?_) (fun c1 => ?_)
  · replace hr := (if_pos c1).symm.trans hr
    refine Ev.iconst (z := 0) (d7 7 rfl) rfl ?_
    cases hr
    exact Ev.zret0 rfl (d7 8 rfl)
  · replace hr := (if_neg c1).symm.trans hr
    refine Ev.iloadN (d7 2 rfl) rfl ?_
    refine Ev.bipush (z := 8) (d7 3 rfl) rfl ?_
    refine Ev.icge (t := 14) (d7 4 rfl) rfl (fun c2 => ?_) (fun c2 => ?_)
    · replace hr := (if_pos c2).symm.trans hr
      refine Ev.iconst (z := 1) (d7 5 rfl) rfl ?_
      refine Ev.goto (t := 15) (d7 6 rfl) rfl ?_
      cases hr
      exact Ev.zret1 rfl (d7 8 rfl)
    · replace hr := (if_neg c2).symm.trans hr
      refine Ev.iconst (z := 0) (d7 7 rfl) rfl ?_
      cases hr
      exact Ev.zret0 rfl (d7 8 rfl)
def f_setInput (a0 : Int32) (a1 : Int32) (s : St) : Option (Int32 × St) :=
  (f_isVar s a0).bind fun q1 =>
  if q1 = 0 then
    some ((0 : Int32), s)
  else
    grd (inb a0 8) <|
    bnd (setA s 8 (ix a0) a1) fun s5 =>
    some ((1 : Int32), s5)
set_option maxRecDepth 100000 in
theorem e_setInput {g : GT} {a0 : Int32} {a1 : Int32} {s : St} {w : Int32 × St} (hw : HW g) {K : St → MHeap} {o : Nat} {r : Nat → Nat} (V : View (GG g) Ln K o r) (hr : f_setInput a0 a1 s = some w) : EvC (GG g) M_setInput [.ref o, .int a0, .int a1] (K s) ((some (.int w.1)), (K w.2)) := by
  refine EvC.enter (L0 := [.val (.ref o), .val (.int a0), .val (.int a1)]) pl_setInput (fun h => nomatch h) rfl rfl ?_
  unfold f_setInput at hr
  refine Ev.aloadN (d6 0 rfl) rfl ?_
  refine Ev.iloadN (d6 1 rfl) rfl ?_
  obtain ⟨q1, hq2, hr⟩ := Option.bind_eq_some_iff.mp hr
  refine Ev.priv (y := M_isVar) (args := [.int a0]) (rest := []) (gok hw) rfl nm_isVar (ww hw 87 rfl) (ww hw 88 rfl) (ww hw 89 rfl) (ww hw 90 rfl) (lenOf pd_isVar rfl) (d6 2 rfl) (V.2.1 s) (e_isVar hw V hq2) (by decide) (Nat.le_of_ble_eq_true rfl) rfl ?_
  refine Ev.ifne (t := 10) (d6 3 rfl) rfl (fun c3 => ?_) (fun c3 => ?_)
  · replace hr := (if_pos c3).symm.trans hr
    refine Ev.iconst (z := 0) (d6 4 rfl) rfl ?_
    cases hr
    exact Ev.zret0 rfl (d6 5 rfl)
  · replace hr := (if_neg c3).symm.trans hr
    refine Ev.aloadN (d6 6 rfl) rfl ?_
    refine Ev.gAr V (ww hw 27 rfl) (d6 7 rfl) (j := 8) rfl ?_
    refine Ev.iloadN (d6 8 rfl) rfl ?_
    refine Ev.iloadN (d6 9 rfl) rfl ?_
    obtain ⟨b4, hr⟩ := grd_some hr
    refine Ev.ias V (j := 8) rfl rfl (d6 10 rfl) b4 ?_
    revert hr
    generalize setA s 8 (ix a0) a1 = s5
    intro hr
    replace hr := (bnd_eq _ _).symm.trans hr
    refine Ev.iconst (z := 1) (d6 11 rfl) rfl ?_
    cases hr
    exact Ev.zret1 rfl (d6 12 rfl)
def f_usesA (s : St) (a0 : Int32) : Option (Int32) :=
  if (10 : Int32) < a0 then
    if a0 = (12 : Int32) then
      some (1 : Int32)
    else
      some (0 : Int32)
  else
    some (1 : Int32)
set_option maxRecDepth 100000 in
theorem e_usesA {g : GT} {s : St} {a0 : Int32} {w : Int32} (hw : HW g) {K : St → MHeap} {o : Nat} {r : Nat → Nat} (V : View (GG g) Ln K o r) (hr : f_usesA s a0 = some w) : EvC (GG g) M_usesA [.ref o, .int a0] (K s) ((some (.int w)), (K s)) := by
  refine EvC.enter (L0 := [.val (.ref o), .val (.int a0)]) pl_usesA (fun h => nomatch h) rfl rfl ?_
  unfold f_usesA at hr
  refine Ev.iloadN (d10 0 rfl) rfl ?_
  refine Ev.bipush (z := 10) (d10 1 rfl) rfl ?_
  refine Ev.icle (t := 12) (d10 2 rfl) rfl (fun c1 => ?_) (fun c1 => ?_)
  · replace hr := (if_pos c1).symm.trans hr
    refine Ev.iloadN (d10 3 rfl) rfl ?_
    refine Ev.bipush (z := 12) (d10 4 rfl) rfl ?_
    refine Ev.icne (t := 16) (d10 5 rfl) rfl (fun c2 => ?_) (fun c2 => ?_)
    · replace hr := (if_pos c2).symm.trans hr
      refine Ev.iconst (z := 1) (d10 6 rfl) rfl ?_
      refine Ev.goto (t := 17) (d10 7 rfl) rfl ?_
      cases hr
      exact Ev.zret1 rfl (d10 9 rfl)
    · replace hr := (if_neg c2).symm.trans hr
      refine Ev.iconst (z := 0) (d10 8 rfl) rfl ?_
      cases hr
      exact Ev.zret0 rfl (d10 9 rfl)
  · replace hr := (if_neg c1).symm.trans hr
    refine Ev.iconst (z := 1) (d10 6 rfl) rfl ?_
    refine Ev.goto (t := 17) (d10 7 rfl) rfl ?_
    cases hr
    exact Ev.zret1 rfl (d10 9 rfl)
def f_usesB_11 (s : St) (x1 : Int32) : Option (Int32) :=
  if x1 = (10 : Int32) then
    some (1 : Int32)
  else
    some (0 : Int32)
set_option maxRecDepth 100000 in
theorem e_usesB_11 {g : GT} {s : St} (hw : HW g) {K : St → MHeap} {o : Nat} {r : Nat → Nat} (V : View (GG g) Ln K o r) (x1 : Int32) (y0 : Slot) (hy0 : one1 y0 = true) (w : Int32) (hr : f_usesB_11 s x1 = some w) : Ev (GG g) M_usesB 11 [y0, .val (.int x1)] [] (K s) ((some (.int w)), (K s)) := by
  unfold f_usesB_11 at hr
  refine Ev.iloadN (d11 6 rfl) rfl ?_
  refine Ev.bipush (z := 10) (d11 7 rfl) rfl ?_
  refine Ev.icne (t := 21) (d11 8 rfl) rfl (fun c1 => ?_) (fun c1 => ?_)
  · replace hr := (if_pos c1).symm.trans hr
    refine Ev.iconst (z := 1) (d11 9 rfl) rfl ?_
    refine Ev.goto (t := 22) (d11 10 rfl) rfl ?_
    cases hr
    exact Ev.zret1 rfl (d11 12 rfl)
  · replace hr := (if_neg c1).symm.trans hr
    refine Ev.iconst (z := 0) (d11 11 rfl) rfl ?_
    cases hr
    exact Ev.zret0 rfl (d11 12 rfl)
def f_usesB (s : St) (a0 : Int32) : Option (Int32) :=
  if a0 < (2 : Int32) then
    f_usesB_11 s a0
  else
    if (8 : Int32) < a0 then
      f_usesB_11 s a0
    else
      some (1 : Int32)
set_option maxRecDepth 100000 in
theorem e_usesB {g : GT} {s : St} {a0 : Int32} {w : Int32} (hw : HW g) {K : St → MHeap} {o : Nat} {r : Nat → Nat} (V : View (GG g) Ln K o r) (hr : f_usesB s a0 = some w) : EvC (GG g) M_usesB [.ref o, .int a0] (K s) ((some (.int w)), (K s)) := by
  refine EvC.enter (L0 := [.val (.ref o), .val (.int a0)]) pl_usesB (fun h => nomatch h) rfl rfl ?_
  unfold f_usesB at hr
  refine Ev.iloadN (d11 0 rfl) rfl ?_
  refine Ev.iconst (z := 2) (d11 1 rfl) rfl ?_
  refine Ev.iclt (t := 11) (d11 2 rfl) rfl (fun c1 => ?_) (fun c1 => ?_)
  · replace hr := (if_pos c1).symm.trans hr
    exact e_usesB_11 hw V  a0 (.val (.ref o)) rfl _ hr
  · replace hr := (if_neg c1).symm.trans hr
    refine Ev.iloadN (d11 3 rfl) rfl ?_
    refine Ev.bipush (z := 8) (d11 4 rfl) rfl ?_
    refine Ev.icle (t := 17) (d11 5 rfl) rfl (fun c2 => ?_) (fun c2 => ?_)
    · replace hr := (if_pos c2).symm.trans hr
      exact e_usesB_11 hw V  a0 (.val (.ref o)) rfl _ hr
    · replace hr := (if_neg c2).symm.trans hr
      refine Ev.iconst (z := 1) (d11 9 rfl) rfl ?_
      refine Ev.goto (t := 22) (d11 10 rfl) rfl ?_
      cases hr
      exact Ev.zret1 rfl (d11 12 rfl)
def f_cIsVar (s : St) (a0 : Int32) : Option (Int32) :=
  if a0 < (2 : Int32) then
    some (0 : Int32)
  else
    if (7 : Int32) < a0 then
      some (0 : Int32)
    else
      some (1 : Int32)
set_option maxRecDepth 100000 in
theorem e_cIsVar {g : GT} {s : St} {a0 : Int32} {w : Int32} (hw : HW g) {K : St → MHeap} {o : Nat} {r : Nat → Nat} (V : View (GG g) Ln K o r) (hr : f_cIsVar s a0 = some w) : EvC (GG g) M_cIsVar [.ref o, .int a0] (K s) ((some (.int w)), (K s)) := by
  refine EvC.enter (L0 := [.val (.ref o), .val (.int a0)]) pl_cIsVar (fun h => nomatch h) rfl rfl ?_
  unfold f_cIsVar at hr
  refine Ev.iloadN (d12 0 rfl) rfl ?_
  refine Ev.iconst (z := 2) (d12 1 rfl) rfl ?_
  refine Ev.iclt (t := 15) (d12 2 rfl) rfl (fun c1 => ?_) (fun c1 => ?_)
  · replace hr := (if_pos c1).symm.trans hr
    refine Ev.iconst (z := 0) (d12 8 rfl) rfl ?_
    cases hr
    exact Ev.zret0 rfl (d12 9 rfl)
  · replace hr := (if_neg c1).symm.trans hr
    refine Ev.iloadN (d12 3 rfl) rfl ?_
    refine Ev.bipush (z := 7) (d12 4 rfl) rfl ?_
    refine Ev.icgt (t := 15) (d12 5 rfl) rfl (fun c2 => ?_) (fun c2 => ?_)
    · replace hr := (if_pos c2).symm.trans hr
      refine Ev.iconst (z := 0) (d12 8 rfl) rfl ?_
      cases hr
      exact Ev.zret0 rfl (d12 9 rfl)
    · replace hr := (if_neg c2).symm.trans hr
      refine Ev.iconst (z := 1) (d12 6 rfl) rfl ?_
      refine Ev.goto (t := 16) (d12 7 rfl) rfl ?_
      cases hr
      exact Ev.zret1 rfl (d12 9 rfl)
def f_operandsValid_55 (s : St) (x1 : Int32) (x4 : Int32) : Option (Int32) :=
  if x1 = (10 : Int32) then
    if x4 < (-128 : Int32) then
      some (0 : Int32)
    else
      if (127 : Int32) < x4 then
        some (0 : Int32)
      else
        if x4 = 0 then
          some (0 : Int32)
        else
          some (1 : Int32)
  else
    some (1 : Int32)
set_option maxRecDepth 100000 in
theorem e_operandsValid_55 {g : GT} {s : St} (hw : HW g) {K : St → MHeap} {o : Nat} {r : Nat → Nat} (V : View (GG g) Ln K o r) (x1 : Int32) (x4 : Int32) (y0 : Slot) (hy0 : one1 y0 = true) (y2 : Slot) (hy2 : one1 y2 = true) (y3 : Slot) (hy3 : one1 y3 = true) (w : Int32) (hr : f_operandsValid_55 s x1 x4 = some w) : Ev (GG g) M_operandsValid 55 [y0, .val (.int x1), y2, y3, .val (.int x4)] [] (K s) ((some (.int w)), (K s)) := by
  unfold f_operandsValid_55 at hr
  refine Ev.iloadN (d9 30 rfl) rfl ?_
  refine Ev.bipush (z := 10) (d9 31 rfl) rfl ?_
  refine Ev.icne (t := 82) (d9 32 rfl) rfl (fun c1 => ?_) (fun c1 => ?_)
  · replace hr := (if_pos c1).symm.trans hr
    refine Ev.iload (d9 33 rfl) rfl ?_
    refine Ev.bipush (z := -128) (d9 34 rfl) rfl ?_
    refine Ev.iclt (t := 80) (d9 35 rfl) rfl (fun c2 => ?_) (fun c2 => ?_)
    · replace hr := (if_pos c2).symm.trans hr
      refine Ev.iconst (z := 0) (d9 41 rfl) rfl ?_
      cases hr
      exact Ev.zret0 rfl (d9 42 rfl)
    · replace hr := (if_neg c2).symm.trans hr
      refine Ev.iload (d9 36 rfl) rfl ?_
      refine Ev.bipush (z := 127) (d9 37 rfl) rfl ?_
      refine Ev.icgt (t := 80) (d9 38 rfl) rfl (fun c3 => ?_) (fun c3 => ?_)
      · replace hr := (if_pos c3).symm.trans hr
        refine Ev.iconst (z := 0) (d9 41 rfl) rfl ?_
        cases hr
        exact Ev.zret0 rfl (d9 42 rfl)
      · replace hr := (if_neg c3).symm.trans hr
        refine Ev.iload (d9 39 rfl) rfl ?_
        refine Ev.ifne (t := 82) (d9 40 rfl) rfl (fun c4 => ?_) (fun c4 => ?_)
        · replace hr := (if_pos c4).symm.trans hr
          refine Ev.iconst (z := 0) (d9 41 rfl) rfl ?_
          cases hr
          exact Ev.zret0 rfl (d9 42 rfl)
        · replace hr := (if_neg c4).symm.trans hr
          refine Ev.iconst (z := 1) (d9 43 rfl) rfl ?_
          cases hr
          exact Ev.zret1 rfl (d9 44 rfl)
  · replace hr := (if_neg c1).symm.trans hr
    refine Ev.iconst (z := 1) (d9 43 rfl) rfl ?_
    cases hr
    exact Ev.zret1 rfl (d9 44 rfl)
def f_operandsValid_36 (s : St) (x1 : Int32) (x4 : Int32) : Option (Int32) :=
  (f_cIsVar s x1).bind fun q1 =>
  if q1 = 0 then
    f_operandsValid_55 s x1 x4
  else
    (f_isVar s x4).bind fun q4 =>
    if q4 = 0 then
      some (0 : Int32)
    else
      f_operandsValid_55 s x1 x4
set_option maxRecDepth 100000 in
theorem e_operandsValid_36 {g : GT} {s : St} (hw : HW g) {K : St → MHeap} {o : Nat} {r : Nat → Nat} (V : View (GG g) Ln K o r) (x1 : Int32) (x4 : Int32) (y2 : Slot) (hy2 : one1 y2 = true) (y3 : Slot) (hy3 : one1 y3 = true) (w : Int32) (hr : f_operandsValid_36 s x1 x4 = some w) : Ev (GG g) M_operandsValid 36 [.val (.ref o), .val (.int x1), y2, y3, .val (.int x4)] [] (K s) ((some (.int w)), (K s)) := by
  unfold f_operandsValid_36 at hr
  refine Ev.aloadN (d9 20 rfl) rfl ?_
  refine Ev.iloadN (d9 21 rfl) rfl ?_
  obtain ⟨q1, hq2, hr⟩ := Option.bind_eq_some_iff.mp hr
  refine Ev.priv (y := M_cIsVar) (args := [.int x1]) (rest := []) (gok hw) rfl nm_cIsVar (ww hw 108 rfl) (ww hw 109 rfl) (ww hw 110 rfl) (ww hw 111 rfl) (lenOf pd_cIsVar rfl) (d9 22 rfl) (V.2.1 s) (e_cIsVar hw V hq2) (by decide) (Nat.le_of_ble_eq_true rfl) rfl ?_
  refine Ev.ifeq (t := 55) (d9 23 rfl) rfl (fun c3 => ?_) (fun c3 => ?_)
  · replace hr := (if_pos c3).symm.trans hr
    exact e_operandsValid_55 hw V  x1 x4 (.val (.ref o)) rfl y2 hy2 y3 hy3 _ hr
  · replace hr := (if_neg c3).symm.trans hr
    refine Ev.aloadN (d9 24 rfl) rfl ?_
    refine Ev.iload (d9 25 rfl) rfl ?_
    obtain ⟨q4, hq5, hr⟩ := Option.bind_eq_some_iff.mp hr
    refine Ev.priv (y := M_isVar) (args := [.int x4]) (rest := []) (gok hw) rfl nm_isVar (ww hw 87 rfl) (ww hw 88 rfl) (ww hw 89 rfl) (ww hw 90 rfl) (lenOf pd_isVar rfl) (d9 26 rfl) (V.2.1 s) (e_isVar hw V hq5) (by decide) (Nat.le_of_ble_eq_true rfl) rfl ?_
    refine Ev.ifne (t := 55) (d9 27 rfl) rfl (fun c6 => ?_) (fun c6 => ?_)
    · replace hr := (if_pos c6).symm.trans hr
      refine Ev.iconst (z := 0) (d9 28 rfl) rfl ?_
      cases hr
      exact Ev.zret0 rfl (d9 29 rfl)
    · replace hr := (if_neg c6).symm.trans hr
      exact e_operandsValid_55 hw V  x1 x4 (.val (.ref o)) rfl y2 hy2 y3 hy3 _ hr
def f_operandsValid_18 (s : St) (x1 : Int32) (x3 : Int32) (x4 : Int32) : Option (Int32) :=
  (f_usesB s x1).bind fun q1 =>
  if q1 = 0 then
    f_operandsValid_36 s x1 x4
  else
    (f_isVar s x3).bind fun q4 =>
    if q4 = 0 then
      some (0 : Int32)
    else
      f_operandsValid_36 s x1 x4
set_option maxRecDepth 100000 in
theorem e_operandsValid_18 {g : GT} {s : St} (hw : HW g) {K : St → MHeap} {o : Nat} {r : Nat → Nat} (V : View (GG g) Ln K o r) (x1 : Int32) (x3 : Int32) (x4 : Int32) (y2 : Slot) (hy2 : one1 y2 = true) (w : Int32) (hr : f_operandsValid_18 s x1 x3 x4 = some w) : Ev (GG g) M_operandsValid 18 [.val (.ref o), .val (.int x1), y2, .val (.int x3), .val (.int x4)] [] (K s) ((some (.int w)), (K s)) := by
  unfold f_operandsValid_18 at hr
  refine Ev.aloadN (d9 10 rfl) rfl ?_
  refine Ev.iloadN (d9 11 rfl) rfl ?_
  obtain ⟨q1, hq2, hr⟩ := Option.bind_eq_some_iff.mp hr
  refine Ev.priv (y := M_usesB) (args := [.int x1]) (rest := []) (gok hw) rfl nm_usesB (ww hw 104 rfl) (ww hw 105 rfl) (ww hw 106 rfl) (ww hw 107 rfl) (lenOf pd_usesB rfl) (d9 12 rfl) (V.2.1 s) (e_usesB hw V hq2) (by decide) (Nat.le_of_ble_eq_true rfl) rfl ?_
  refine Ev.ifeq (t := 36) (d9 13 rfl) rfl (fun c3 => ?_) (fun c3 => ?_)
  · replace hr := (if_pos c3).symm.trans hr
    exact e_operandsValid_36 hw V  x1 x4 y2 hy2 (.val (.int x3)) rfl _ hr
  · replace hr := (if_neg c3).symm.trans hr
    refine Ev.aloadN (d9 14 rfl) rfl ?_
    refine Ev.iloadN (d9 15 rfl) rfl ?_
    obtain ⟨q4, hq5, hr⟩ := Option.bind_eq_some_iff.mp hr
    refine Ev.priv (y := M_isVar) (args := [.int x3]) (rest := []) (gok hw) rfl nm_isVar (ww hw 87 rfl) (ww hw 88 rfl) (ww hw 89 rfl) (ww hw 90 rfl) (lenOf pd_isVar rfl) (d9 16 rfl) (V.2.1 s) (e_isVar hw V hq5) (by decide) (Nat.le_of_ble_eq_true rfl) rfl ?_
    refine Ev.ifne (t := 36) (d9 17 rfl) rfl (fun c6 => ?_) (fun c6 => ?_)
    · replace hr := (if_pos c6).symm.trans hr
      refine Ev.iconst (z := 0) (d9 18 rfl) rfl ?_
      cases hr
      exact Ev.zret0 rfl (d9 19 rfl)
    · replace hr := (if_neg c6).symm.trans hr
      exact e_operandsValid_36 hw V  x1 x4 y2 hy2 (.val (.int x3)) rfl _ hr
def f_operandsValid (s : St) (a0 : Int32) (a1 : Int32) (a2 : Int32) (a3 : Int32) : Option (Int32) :=
  (f_usesA s a0).bind fun q1 =>
  if q1 = 0 then
    f_operandsValid_18 s a0 a2 a3
  else
    (f_isVar s a1).bind fun q4 =>
    if q4 = 0 then
      some (0 : Int32)
    else
      f_operandsValid_18 s a0 a2 a3
set_option maxRecDepth 100000 in
theorem e_operandsValid {g : GT} {s : St} {a0 : Int32} {a1 : Int32} {a2 : Int32} {a3 : Int32} {w : Int32} (hw : HW g) {K : St → MHeap} {o : Nat} {r : Nat → Nat} (V : View (GG g) Ln K o r) (hr : f_operandsValid s a0 a1 a2 a3 = some w) : EvC (GG g) M_operandsValid [.ref o, .int a0, .int a1, .int a2, .int a3] (K s) ((some (.int w)), (K s)) := by
  refine EvC.enter (L0 := [.val (.ref o), .val (.int a0), .val (.int a1), .val (.int a2), .val (.int a3)]) pl_operandsValid (fun h => nomatch h) rfl rfl ?_
  unfold f_operandsValid at hr
  refine Ev.aloadN (d9 0 rfl) rfl ?_
  refine Ev.iloadN (d9 1 rfl) rfl ?_
  obtain ⟨q1, hq2, hr⟩ := Option.bind_eq_some_iff.mp hr
  refine Ev.priv (y := M_usesA) (args := [.int a0]) (rest := []) (gok hw) rfl nm_usesA (ww hw 100 rfl) (ww hw 101 rfl) (ww hw 102 rfl) (ww hw 103 rfl) (lenOf pd_usesA rfl) (d9 2 rfl) (V.2.1 s) (e_usesA hw V hq2) (by decide) (Nat.le_of_ble_eq_true rfl) rfl ?_
  refine Ev.ifeq (t := 18) (d9 3 rfl) rfl (fun c3 => ?_) (fun c3 => ?_)
  · replace hr := (if_pos c3).symm.trans hr
    exact e_operandsValid_18 hw V  a0 a2 a3 (.val (.int a1)) rfl _ hr
  · replace hr := (if_neg c3).symm.trans hr
    refine Ev.aloadN (d9 4 rfl) rfl ?_
    refine Ev.iloadN (d9 5 rfl) rfl ?_
    obtain ⟨q4, hq5, hr⟩ := Option.bind_eq_some_iff.mp hr
    refine Ev.priv (y := M_isVar) (args := [.int a1]) (rest := []) (gok hw) rfl nm_isVar (ww hw 87 rfl) (ww hw 88 rfl) (ww hw 89 rfl) (ww hw 90 rfl) (lenOf pd_isVar rfl) (d9 6 rfl) (V.2.1 s) (e_isVar hw V hq5) (by decide) (Nat.le_of_ble_eq_true rfl) rfl ?_
    refine Ev.ifne (t := 18) (d9 7 rfl) rfl (fun c6 => ?_) (fun c6 => ?_)
    · replace hr := (if_pos c6).symm.trans hr
      refine Ev.iconst (z := 0) (d9 8 rfl) rfl ?_
      cases hr
      exact Ev.zret0 rfl (d9 9 rfl)
    · replace hr := (if_neg c6).symm.trans hr
      exact e_operandsValid_18 hw V  a0 a2 a3 (.val (.int a1)) rfl _ hr
def f_structureAllows (s : St) (a0 : Int32) : Option (Int32) :=
  if a0 = (10 : Int32) then
    if (s.1 22) < (4 : Int32) then
      if (s.1 23) < (2 : Int32) then
        some (1 : Int32)
      else
        some (0 : Int32)
    else
      some (0 : Int32)
  else
    if a0 = (12 : Int32) then
      if (s.1 22) < (4 : Int32) then
        some (1 : Int32)
      else
        some (0 : Int32)
    else
      if a0 = (13 : Int32) then
        if ((s.1 22) - (1 : Int32)) < 0 then
          some (0 : Int32)
        else
          grd (inb ((s.1 22) - (1 : Int32)) 4) <|
          if (s.2 7 (ix ((s.1 22) - (1 : Int32)))) = 0 then
            if (s.2 6 (ix ((s.1 22) - (1 : Int32)))) < 0 then
              some (1 : Int32)
            else
              some (0 : Int32)
          else
            some (0 : Int32)
      else
        if a0 = (11 : Int32) then
          if ((s.1 22) - (1 : Int32)) < 0 then
            some (0 : Int32)
          else
            grd (inb ((s.1 22) - (1 : Int32)) 4) <|
            if (s.2 7 (ix ((s.1 22) - (1 : Int32)))) = 0 then
              some (0 : Int32)
            else
              some (1 : Int32)
        else
          if a0 = (14 : Int32) then
            if ((s.1 22) - (1 : Int32)) < 0 then
              some (0 : Int32)
            else
              grd (inb ((s.1 22) - (1 : Int32)) 4) <|
              if (s.2 7 (ix ((s.1 22) - (1 : Int32)))) = 0 then
                some (1 : Int32)
              else
                some (0 : Int32)
          else
            some (1 : Int32)
set_option maxRecDepth 100000 in
theorem e_structureAllows {g : GT} {s : St} {a0 : Int32} {w : Int32} (hw : HW g) {K : St → MHeap} {o : Nat} {r : Nat → Nat} (V : View (GG g) Ln K o r) (hr : f_structureAllows s a0 = some w) : EvC (GG g) M_structureAllows [.ref o, .int a0] (K s) ((some (.int w)), (K s)) := by
  refine EvC.enter (L0 := [.val (.ref o), .val (.int a0), .unset]) pl_structureAllows (fun h => nomatch h) rfl rfl ?_
  unfold f_structureAllows at hr
  refine Ev.aloadN (d13 0 rfl) rfl ?_
  refine Ev.gI V (ww hw 68 rfl) (d13 1 rfl) (j := 22) rfl rfl ?_
  refine Ev.iconst (z := 1) (d13 2 rfl) rfl ?_
  refine Ev.isub (d13 3 rfl) ?_
  refine Ev.istDN (L' := [.val (.ref o), .val (.int a0), .val (.int ((s.1 22) - (1 : Int32)))]) (d13 4 rfl) rfl rfl rfl ?_
  refine Ev.iloadN (d13 5 rfl) rfl ?_
  refine Ev.bipush (z := 10) (d13 6 rfl) rfl ?_
  refine Ev.icne (t := 35) (d13 7 rfl) rfl (fun c1 => ?_) (fun c1 => ?_)
  · replace hr := (if_pos c1).symm.trans hr
    refine Ev.aloadN (d13 8 rfl) rfl ?_
    refine Ev.gI V (ww hw 68 rfl) (d13 9 rfl) (j := 22) rfl rfl ?_
    refine Ev.iconst (z := 4) (d13 10 rfl) rfl ?_
    refine Ev.icge (t := 33) (d13 11 rfl) rfl (fun c2 => ?_) (fun c2 => ?_)
    · replace hr := (if_pos c2).symm.trans hr
      refine Ev.aloadN (d13 12 rfl) rfl ?_
      refine Ev.gI V (ww hw 70 rfl) (d13 13 rfl) (j := 23) rfl rfl ?_
      refine Ev.iconst (z := 2) (d13 14 rfl) rfl ?_
      refine Ev.icge (t := 33) (d13 15 rfl) rfl (fun c3 => ?_) (fun c3 => ?_)
      · replace hr := (if_pos c3).symm.trans hr
        refine Ev.iconst (z := 1) (d13 16 rfl) rfl ?_
        refine Ev.goto (t := 34) (d13 17 rfl) rfl ?_
        cases hr
        exact Ev.zret1 rfl (d13 19 rfl)
      · replace hr := (if_neg c3).symm.trans hr
        refine Ev.iconst (z := 0) (d13 18 rfl) rfl ?_
        cases hr
        exact Ev.zret0 rfl (d13 19 rfl)
    · replace hr := (if_neg c2).symm.trans hr
      refine Ev.iconst (z := 0) (d13 18 rfl) rfl ?_
      cases hr
      exact Ev.zret0 rfl (d13 19 rfl)
  · replace hr := (if_neg c1).symm.trans hr
    refine Ev.iloadN (d13 20 rfl) rfl ?_
    refine Ev.bipush (z := 12) (d13 21 rfl) rfl ?_
    refine Ev.icne (t := 55) (d13 22 rfl) rfl (fun c4 => ?_) (fun c4 => ?_)
    · replace hr := (if_pos c4).symm.trans hr
      refine Ev.aloadN (d13 23 rfl) rfl ?_
      refine Ev.gI V (ww hw 68 rfl) (d13 24 rfl) (j := 22) rfl rfl ?_
      refine Ev.iconst (z := 4) (d13 25 rfl) rfl ?_
      refine Ev.icge (t := 53) (d13 26 rfl) rfl (fun c5 => ?_) (fun c5 => ?_)
      · replace hr := (if_pos c5).symm.trans hr
        refine Ev.iconst (z := 1) (d13 27 rfl) rfl ?_
        refine Ev.goto (t := 54) (d13 28 rfl) rfl ?_
        cases hr
        exact Ev.zret1 rfl (d13 30 rfl)
      · replace hr := (if_neg c5).symm.trans hr
        refine Ev.iconst (z := 0) (d13 29 rfl) rfl ?_
        cases hr
        exact Ev.zret0 rfl (d13 30 rfl)
    · replace hr := (if_neg c4).symm.trans hr
      refine Ev.iloadN (d13 31 rfl) rfl ?_
      refine Ev.bipush (z := 13) (d13 32 rfl) rfl ?_
      refine Ev.icne (t := 89) (d13 33 rfl) rfl (fun c6 => ?_) (fun c6 => ?_)
      · replace hr := (if_pos c6).symm.trans hr
        refine Ev.iloadN (d13 34 rfl) rfl ?_
        refine Ev.iflt (t := 87) (d13 35 rfl) rfl (fun c7 => ?_) (fun c7 => ?_)
        · replace hr := (if_pos c7).symm.trans hr
          refine Ev.iconst (z := 0) (d13 48 rfl) rfl ?_
          cases hr
          exact Ev.zret0 rfl (d13 49 rfl)
        · replace hr := (if_neg c7).symm.trans hr
          refine Ev.aloadN (d13 36 rfl) rfl ?_
          refine Ev.gAr V (ww hw 25 rfl) (d13 37 rfl) (j := 7) rfl ?_
          refine Ev.iloadN (d13 38 rfl) rfl ?_
          obtain ⟨b8, hr⟩ := grd_some hr
          refine Ev.bal V (j := 7) rfl rfl (d13 39 rfl) b8 ?_
          refine Ev.ifne (t := 87) (d13 40 rfl) rfl (fun c9 => ?_) (fun c9 => ?_)
          · replace hr := (if_pos c9).symm.trans hr
            refine Ev.aloadN (d13 41 rfl) rfl ?_
            refine Ev.gAr V (ww hw 22 rfl) (d13 42 rfl) (j := 6) rfl ?_
            refine Ev.iloadN (d13 43 rfl) rfl ?_
            refine Ev.ial V (j := 6) rfl rfl (d13 44 rfl) b8 ?_
            refine Ev.ifge (t := 87) (d13 45 rfl) rfl (fun c10 => ?_) (fun c10 => ?_)
            · replace hr := (if_pos c10).symm.trans hr
              refine Ev.iconst (z := 1) (d13 46 rfl) rfl ?_
              refine Ev.goto (t := 88) (d13 47 rfl) rfl ?_
              cases hr
              exact Ev.zret1 rfl (d13 49 rfl)
            · replace hr := (if_neg c10).symm.trans hr
              refine Ev.iconst (z := 0) (d13 48 rfl) rfl ?_
              cases hr
              exact Ev.zret0 rfl (d13 49 rfl)
          · replace hr := (if_neg c9).symm.trans hr
            refine Ev.iconst (z := 0) (d13 48 rfl) rfl ?_
            cases hr
            exact Ev.zret0 rfl (d13 49 rfl)
      · replace hr := (if_neg c6).symm.trans hr
        refine Ev.iloadN (d13 50 rfl) rfl ?_
        refine Ev.bipush (z := 11) (d13 51 rfl) rfl ?_
        refine Ev.icne (t := 114) (d13 52 rfl) rfl (fun c11 => ?_) (fun c11 => ?_)
        · replace hr := (if_pos c11).symm.trans hr
          refine Ev.iloadN (d13 53 rfl) rfl ?_
          refine Ev.iflt (t := 112) (d13 54 rfl) rfl (fun c12 => ?_) (fun c12 => ?_)
          · replace hr := (if_pos c12).symm.trans hr
            refine Ev.iconst (z := 0) (d13 62 rfl) rfl ?_
            cases hr
            exact Ev.zret0 rfl (d13 63 rfl)
          · replace hr := (if_neg c12).symm.trans hr
            refine Ev.aloadN (d13 55 rfl) rfl ?_
            refine Ev.gAr V (ww hw 25 rfl) (d13 56 rfl) (j := 7) rfl ?_
            refine Ev.iloadN (d13 57 rfl) rfl ?_
            obtain ⟨b13, hr⟩ := grd_some hr
            refine Ev.bal V (j := 7) rfl rfl (d13 58 rfl) b13 ?_
            refine Ev.ifeq (t := 112) (d13 59 rfl) rfl (fun c14 => ?_) (fun c14 => ?_)
            · replace hr := (if_pos c14).symm.trans hr
              refine Ev.iconst (z := 0) (d13 62 rfl) rfl ?_
              cases hr
              exact Ev.zret0 rfl (d13 63 rfl)
            · replace hr := (if_neg c14).symm.trans hr
              refine Ev.iconst (z := 1) (d13 60 rfl) rfl ?_
              refine Ev.goto (t := 113) (d13 61 rfl) rfl ?_
              cases hr
              exact Ev.zret1 rfl (d13 63 rfl)
        · replace hr := (if_neg c11).symm.trans hr
          refine Ev.iloadN (d13 64 rfl) rfl ?_
          refine Ev.bipush (z := 14) (d13 65 rfl) rfl ?_
          refine Ev.icne (t := 139) (d13 66 rfl) rfl (fun c15 => ?_) (fun c15 => ?_)
          · replace hr := (if_pos c15).symm.trans hr
            refine Ev.iloadN (d13 67 rfl) rfl ?_
            refine Ev.iflt (t := 137) (d13 68 rfl) rfl (fun c16 => ?_) (fun c16 => ?_)
            · replace hr := (if_pos c16).symm.trans hr
              refine Ev.iconst (z := 0) (d13 76 rfl) rfl ?_
              cases hr
              exact Ev.zret0 rfl (d13 77 rfl)
            · replace hr := (if_neg c16).symm.trans hr
              refine Ev.aloadN (d13 69 rfl) rfl ?_
              refine Ev.gAr V (ww hw 25 rfl) (d13 70 rfl) (j := 7) rfl ?_
              refine Ev.iloadN (d13 71 rfl) rfl ?_
              obtain ⟨b17, hr⟩ := grd_some hr
              refine Ev.bal V (j := 7) rfl rfl (d13 72 rfl) b17 ?_
              refine Ev.ifne (t := 137) (d13 73 rfl) rfl (fun c18 => ?_) (fun c18 => ?_)
              · replace hr := (if_pos c18).symm.trans hr
                refine Ev.iconst (z := 1) (d13 74 rfl) rfl ?_
                refine Ev.goto (t := 138) (d13 75 rfl) rfl ?_
                cases hr
                exact Ev.zret1 rfl (d13 77 rfl)
              · replace hr := (if_neg c18).symm.trans hr
                refine Ev.iconst (z := 0) (d13 76 rfl) rfl ?_
                cases hr
                exact Ev.zret0 rfl (d13 77 rfl)
          · replace hr := (if_neg c15).symm.trans hr
            refine Ev.iconst (z := 1) (d13 78 rfl) rfl ?_
            cases hr
            exact Ev.zret1 rfl (d13 79 rfl)
def f_usesC (s : St) (a0 : Int32) : Option (Int32) :=
  if (8 : Int32) < a0 then
    if a0 = (10 : Int32) then
      some (1 : Int32)
    else
      some (0 : Int32)
  else
    some (1 : Int32)
set_option maxRecDepth 100000 in
theorem e_usesC {g : GT} {s : St} {a0 : Int32} {w : Int32} (hw : HW g) {K : St → MHeap} {o : Nat} {r : Nat → Nat} (V : View (GG g) Ln K o r) (hr : f_usesC s a0 = some w) : EvC (GG g) M_usesC [.ref o, .int a0] (K s) ((some (.int w)), (K s)) := by
  refine EvC.enter (L0 := [.val (.ref o), .val (.int a0)]) pl_usesC (fun h => nomatch h) rfl rfl ?_
  unfold f_usesC at hr
  refine Ev.iloadN (d14 0 rfl) rfl ?_
  refine Ev.bipush (z := 8) (d14 1 rfl) rfl ?_
  refine Ev.icle (t := 12) (d14 2 rfl) rfl (fun c1 => ?_) (fun c1 => ?_)
  · replace hr := (if_pos c1).symm.trans hr
    refine Ev.iloadN (d14 3 rfl) rfl ?_
    refine Ev.bipush (z := 10) (d14 4 rfl) rfl ?_
    refine Ev.icne (t := 16) (d14 5 rfl) rfl (fun c2 => ?_) (fun c2 => ?_)
    · replace hr := (if_pos c2).symm.trans hr
      refine Ev.iconst (z := 1) (d14 6 rfl) rfl ?_
      refine Ev.goto (t := 17) (d14 7 rfl) rfl ?_
      cases hr
      exact Ev.zret1 rfl (d14 9 rfl)
    · replace hr := (if_neg c2).symm.trans hr
      refine Ev.iconst (z := 0) (d14 8 rfl) rfl ?_
      cases hr
      exact Ev.zret0 rfl (d14 9 rfl)
  · replace hr := (if_neg c1).symm.trans hr
    refine Ev.iconst (z := 1) (d14 6 rfl) rfl ?_
    refine Ev.goto (t := 17) (d14 7 rfl) rfl ?_
    cases hr
    exact Ev.zret1 rfl (d14 9 rfl)
def f_closeIf_36 (x1 : Int32) (x2 : Int32) (s : St) : Option (St) :=
  grd (inb x1 4) <|
  grd (inb x2 24) <|
  bnd (setA s 4 (ix x2) (s.2 5 (ix x1))) fun s3 =>
  bnd (setI s3 22 x1) fun s4 =>
  some s4
set_option maxRecDepth 100000 in
theorem e_closeIf_36 {g : GT} (hw : HW g) {K : St → MHeap} {o : Nat} {r : Nat → Nat} (V : View (GG g) Ln K o r) (x1 : Int32) (x2 : Int32) (s : St) (w : St) (hr : f_closeIf_36 x1 x2 s = some w) : Ev (GG g) M_closeIf 36 [.val (.ref o), .val (.int x1), .val (.int x2)] [] (K s) (none, (K w)) := by
  unfold f_closeIf_36 at hr
  refine Ev.aloadN (d16 22 rfl) rfl ?_
  refine Ev.gAr V (ww hw 18 rfl) (d16 23 rfl) (j := 4) rfl ?_
  refine Ev.iloadN (d16 24 rfl) rfl ?_
  refine Ev.aloadN (d16 25 rfl) rfl ?_
  refine Ev.gAr V (ww hw 20 rfl) (d16 26 rfl) (j := 5) rfl ?_
  refine Ev.iloadN (d16 27 rfl) rfl ?_
  obtain ⟨b1, hr⟩ := grd_some hr
  refine Ev.ial V (j := 5) rfl rfl (d16 28 rfl) b1 ?_
  obtain ⟨b2, hr⟩ := grd_some hr
  refine Ev.ias V (j := 4) rfl rfl (d16 29 rfl) b2 ?_
  revert hr
  generalize setA s 4 (ix x2) (s.2 5 (ix x1)) = s3
  intro hr
  replace hr := (bnd_eq _ _).symm.trans hr
  refine Ev.aloadN (d16 30 rfl) rfl ?_
  refine Ev.iloadN (d16 31 rfl) rfl ?_
  refine Ev.pI V (gok hw) (ww hw 68 rfl) (Or.inl (ww hw 69 rfl)) (d16 32 rfl) (j := 22) rfl ?_
  revert hr
  generalize setI s3 22 x1 = s4
  intro hr
  replace hr := (bnd_eq _ _).symm.trans hr
  cases hr
  exact Ev.vreturn rfl (d16 33 rfl)
def f_closeIf (a0 : Int32) (a1 : Int32) (s : St) : Option (St) :=
  grd (inb a0 4) <|
  if (s.2 6 (ix a0)) < 0 then
    grd (inb (s.2 5 (ix a0)) 24) <|
    bnd (setA s 4 (ix (s.2 5 (ix a0))) a1) fun s4 =>
    f_closeIf_36 a0 a1 s4
  else
    grd (inb (s.2 6 (ix a0)) 24) <|
    bnd (setA s 4 (ix (s.2 6 (ix a0))) a1) fun s6 =>
    f_closeIf_36 a0 a1 s6
set_option maxRecDepth 100000 in
theorem e_closeIf {g : GT} {a0 : Int32} {a1 : Int32} {s : St} {w : St} (hw : HW g) {K : St → MHeap} {o : Nat} {r : Nat → Nat} (V : View (GG g) Ln K o r) (hr : f_closeIf a0 a1 s = some w) : EvC (GG g) M_closeIf [.ref o, .int a0, .int a1] (K s) (none, (K w)) := by
  refine EvC.enter (L0 := [.val (.ref o), .val (.int a0), .val (.int a1)]) pl_closeIf (fun _ => rfl) rfl rfl ?_
  unfold f_closeIf at hr
  refine Ev.aloadN (d16 0 rfl) rfl ?_
  refine Ev.gAr V (ww hw 22 rfl) (d16 1 rfl) (j := 6) rfl ?_
  refine Ev.iloadN (d16 2 rfl) rfl ?_
  obtain ⟨b1, hr⟩ := grd_some hr
  refine Ev.ial V (j := 6) rfl rfl (d16 3 rfl) b1 ?_
  refine Ev.iflt (t := 24) (d16 4 rfl) rfl (fun c2 => ?_) (fun c2 => ?_)
  · replace hr := (if_pos c2).symm.trans hr
    refine Ev.aloadN (d16 14 rfl) rfl ?_
    refine Ev.gAr V (ww hw 18 rfl) (d16 15 rfl) (j := 4) rfl ?_
    refine Ev.aloadN (d16 16 rfl) rfl ?_
    refine Ev.gAr V (ww hw 20 rfl) (d16 17 rfl) (j := 5) rfl ?_
    refine Ev.iloadN (d16 18 rfl) rfl ?_
    refine Ev.ial V (j := 5) rfl rfl (d16 19 rfl) b1 ?_
    refine Ev.iloadN (d16 20 rfl) rfl ?_
    obtain ⟨b3, hr⟩ := grd_some hr
    refine Ev.ias V (j := 4) rfl rfl (d16 21 rfl) b3 ?_
    revert hr
    generalize setA s 4 (ix (s.2 5 (ix a0))) a1 = s4
    intro hr
    replace hr := (bnd_eq _ _).symm.trans hr
    exact e_closeIf_36 hw V  a0 a1 s4  _ hr
  · replace hr := (if_neg c2).symm.trans hr
    refine Ev.aloadN (d16 5 rfl) rfl ?_
    refine Ev.gAr V (ww hw 18 rfl) (d16 6 rfl) (j := 4) rfl ?_
    refine Ev.aloadN (d16 7 rfl) rfl ?_
    refine Ev.gAr V (ww hw 22 rfl) (d16 8 rfl) (j := 6) rfl ?_
    refine Ev.iloadN (d16 9 rfl) rfl ?_
    refine Ev.ial V (j := 6) rfl rfl (d16 10 rfl) b1 ?_
    refine Ev.iloadN (d16 11 rfl) rfl ?_
    obtain ⟨b5, hr⟩ := grd_some hr
    refine Ev.ias V (j := 4) rfl rfl (d16 12 rfl) b5 ?_
    revert hr
    generalize setA s 4 (ix (s.2 6 (ix a0))) a1 = s6
    intro hr
    replace hr := (bnd_eq _ _).symm.trans hr
    refine Ev.goto (t := 36) (d16 13 rfl) rfl ?_
    exact e_closeIf_36 hw V  a0 a1 s6  _ hr
def f_updateOpen_66 (x1 : Int32) (z0 : Int32) (z1 : Int32) (s : St) : Option (St) :=
  grd (inb z1 4) <|
  bnd (setA s 7 (ix z1) (z0 &&& 1)) fun s2 =>
  bnd (setI s2 22 ((s2.1 22) + (1 : Int32))) fun s3 =>
  if x1 = (10 : Int32) then
    bnd (setI s3 23 ((s3.1 23) + (1 : Int32))) fun s5 =>
    some s5
  else
    some s3
set_option maxRecDepth 100000 in
theorem e_updateOpen_66 {g : GT} (hw : HW g) {K : St → MHeap} {o : Nat} {r : Nat → Nat} (V : View (GG g) Ln K o r) (x1 : Int32) (z0 : Int32) (z1 : Int32) (s : St) (y2 : Slot) (hy2 : one1 y2 = true) (y3 : Slot) (hy3 : one1 y3 = true) (w : St) (hr : f_updateOpen_66 x1 z0 z1 s = some w) : Ev (GG g) M_updateOpen 66 [.val (.ref o), .val (.int x1), y2, y3] [.int z0, .int z1, .ref (r 7)] (K s) (none, (K w)) := by
  unfold f_updateOpen_66 at hr
  obtain ⟨b1, hr⟩ := grd_some hr
  refine Ev.bas V (j := 7) rfl rfl (d15 37 rfl) b1 ?_
  revert hr
  generalize setA s 7 (ix z1) (z0 &&& 1) = s2
  intro hr
  replace hr := (bnd_eq _ _).symm.trans hr
  refine Ev.aloadN (d15 38 rfl) rfl ?_
  refine Ev.dup (d15 39 rfl) rfl ?_
  refine Ev.gI V (ww hw 68 rfl) (d15 40 rfl) (j := 22) rfl rfl ?_
  refine Ev.iconst (z := 1) (d15 41 rfl) rfl ?_
  refine Ev.iadd (d15 42 rfl) ?_
  refine Ev.pI V (gok hw) (ww hw 68 rfl) (Or.inl (ww hw 69 rfl)) (d15 43 rfl) (j := 22) rfl ?_
  revert hr
  generalize setI s2 22 ((s2.1 22) + (1 : Int32)) = s3
  intro hr
  replace hr := (bnd_eq _ _).symm.trans hr
  refine Ev.iloadN (d15 44 rfl) rfl ?_
  refine Ev.bipush (z := 10) (d15 45 rfl) rfl ?_
  refine Ev.icne (t := 93) (d15 46 rfl) rfl (fun c4 => ?_) (fun c4 => ?_)
  · replace hr := (if_pos c4).symm.trans hr
    refine Ev.aloadN (d15 47 rfl) rfl ?_
    refine Ev.dup (d15 48 rfl) rfl ?_
    refine Ev.gI V (ww hw 70 rfl) (d15 49 rfl) (j := 23) rfl rfl ?_
    refine Ev.iconst (z := 1) (d15 50 rfl) rfl ?_
    refine Ev.iadd (d15 51 rfl) ?_
    refine Ev.pI V (gok hw) (ww hw 70 rfl) (Or.inl (ww hw 71 rfl)) (d15 52 rfl) (j := 23) rfl ?_
    revert hr
    generalize setI s3 23 ((s3.1 23) + (1 : Int32)) = s5
    intro hr
    replace hr := (bnd_eq _ _).symm.trans hr
    cases hr
    exact Ev.vreturn rfl (d15 53 rfl)
  · replace hr := (if_neg c4).symm.trans hr
    cases hr
    exact Ev.vreturn rfl (d15 53 rfl)
def f_updateOpen_19 (x1 : Int32) (x2 : Int32) (s : St) : Option (St) :=
  if (s.1 22) < (4 : Int32) then
    grd (inb (s.1 22) 4) <|
    bnd (setA s 5 (ix (s.1 22)) x2) fun s3 =>
    grd (inb (s3.1 22) 4) <|
    bnd (setA s3 6 (ix (s3.1 22)) (-1 : Int32)) fun s5 =>
    if x1 = (10 : Int32) then
      f_updateOpen_66 x1 (1 : Int32) (s5.1 22) s5
    else
      f_updateOpen_66 x1 (0 : Int32) (s5.1 22) s5
  else
    some s
set_option maxRecDepth 100000 in
theorem e_updateOpen_19 {g : GT} (hw : HW g) {K : St → MHeap} {o : Nat} {r : Nat → Nat} (V : View (GG g) Ln K o r) (x1 : Int32) (x2 : Int32) (s : St) (y3 : Slot) (hy3 : one1 y3 = true) (w : St) (hr : f_updateOpen_19 x1 x2 s = some w) : Ev (GG g) M_updateOpen 19 [.val (.ref o), .val (.int x1), .val (.int x2), y3] [] (K s) (none, (K w)) := by
  unfold f_updateOpen_19 at hr
  refine Ev.aloadN (d15 11 rfl) rfl ?_
  refine Ev.gI V (ww hw 68 rfl) (d15 12 rfl) (j := 22) rfl rfl ?_
  refine Ev.iconst (z := 4) (d15 13 rfl) rfl ?_
  refine Ev.icge (t := 93) (d15 14 rfl) rfl (fun c1 => ?_) (fun c1 => ?_)
  · replace hr := (if_pos c1).symm.trans hr
    refine Ev.aloadN (d15 15 rfl) rfl ?_
    refine Ev.gAr V (ww hw 20 rfl) (d15 16 rfl) (j := 5) rfl ?_
    refine Ev.aloadN (d15 17 rfl) rfl ?_
    refine Ev.gI V (ww hw 68 rfl) (d15 18 rfl) (j := 22) rfl rfl ?_
    refine Ev.iloadN (d15 19 rfl) rfl ?_
    obtain ⟨b2, hr⟩ := grd_some hr
    refine Ev.ias V (j := 5) rfl rfl (d15 20 rfl) b2 ?_
    revert hr
    generalize setA s 5 (ix (s.1 22)) x2 = s3
    intro hr
    replace hr := (bnd_eq _ _).symm.trans hr
    refine Ev.aloadN (d15 21 rfl) rfl ?_
    refine Ev.gAr V (ww hw 22 rfl) (d15 22 rfl) (j := 6) rfl ?_
    refine Ev.aloadN (d15 23 rfl) rfl ?_
    refine Ev.gI V (ww hw 68 rfl) (d15 24 rfl) (j := 22) rfl rfl ?_
    refine Ev.iconst (z := -1) (d15 25 rfl) rfl ?_
    obtain ⟨b4, hr⟩ := grd_some hr
    refine Ev.ias V (j := 6) rfl rfl (d15 26 rfl) b4 ?_
    revert hr
    generalize setA s3 6 (ix (s3.1 22)) (-1 : Int32) = s5
    intro hr
    replace hr := (bnd_eq _ _).symm.trans hr
    refine Ev.aloadN (d15 27 rfl) rfl ?_
    refine Ev.gAr V (ww hw 25 rfl) (d15 28 rfl) (j := 7) rfl ?_
    refine Ev.aloadN (d15 29 rfl) rfl ?_
    refine Ev.gI V (ww hw 68 rfl) (d15 30 rfl) (j := 22) rfl rfl ?_
    refine Ev.iloadN (d15 31 rfl) rfl ?_
    refine Ev.bipush (z := 10) (d15 32 rfl) rfl ?_
    refine Ev.icne (t := 65) (d15 33 rfl) rfl (fun c6 => ?_) (fun c6 => ?_)
    · replace hr := (if_pos c6).symm.trans hr
      refine Ev.iconst (z := 1) (d15 34 rfl) rfl ?_
      refine Ev.goto (t := 66) (d15 35 rfl) rfl ?_
      exact e_updateOpen_66 hw V  x1 (1 : Int32) (s5.1 22) s5 (.val (.int x2)) rfl y3 hy3 _ hr
    · replace hr := (if_neg c6).symm.trans hr
      refine Ev.iconst (z := 0) (d15 36 rfl) rfl ?_
      exact e_updateOpen_66 hw V  x1 (0 : Int32) (s5.1 22) s5 (.val (.int x2)) rfl y3 hy3 _ hr
  · replace hr := (if_neg c1).symm.trans hr
    cases hr
    exact Ev.vreturn rfl (d15 53 rfl)
def f_updateOpen (a0 : Int32) (a1 : Int32) (s : St) : Option (St) :=
  if a0 = (10 : Int32) then
    f_updateOpen_19 a0 a1 s
  else
    if a0 = (12 : Int32) then
      f_updateOpen_19 a0 a1 s
    else
      if ((s.1 22) - (1 : Int32)) < 0 then
        some s
      else
        if a0 = (13 : Int32) then
          grd (inb ((s.1 22) - (1 : Int32)) 4) <|
          bnd (setA s 6 (ix ((s.1 22) - (1 : Int32))) a1) fun s6 =>
          grd (inb (s6.2 5 (ix ((s.1 22) - (1 : Int32)))) 24) <|
          bnd (setA s6 4 (ix (s6.2 5 (ix ((s.1 22) - (1 : Int32))))) a1) fun s8 =>
          some s8
        else
          if a0 = (11 : Int32) then
            grd (inb ((s.1 22) - (1 : Int32)) 4) <|
            grd (inb (s.2 5 (ix ((s.1 22) - (1 : Int32)))) 24) <|
            bnd (setA s 4 (ix (s.2 5 (ix ((s.1 22) - (1 : Int32))))) a1) fun s12 =>
            grd (inb a1 24) <|
            bnd (setA s12 4 (ix a1) (s12.2 5 (ix ((s.1 22) - (1 : Int32))))) fun s14 =>
            bnd (setI s14 22 ((s.1 22) - (1 : Int32))) fun s15 =>
            bnd (setI s15 23 ((s15.1 23) - (1 : Int32))) fun s16 =>
            some s16
          else
            if a0 = (14 : Int32) then
              (f_closeIf ((s.1 22) - (1 : Int32)) a1 s).bind fun q18 =>
              some q18
            else
              some s
set_option maxRecDepth 100000 in
theorem e_updateOpen {g : GT} {a0 : Int32} {a1 : Int32} {s : St} {w : St} (hw : HW g) {K : St → MHeap} {o : Nat} {r : Nat → Nat} (V : View (GG g) Ln K o r) (hr : f_updateOpen a0 a1 s = some w) : EvC (GG g) M_updateOpen [.ref o, .int a0, .int a1] (K s) (none, (K w)) := by
  refine EvC.enter (L0 := [.val (.ref o), .val (.int a0), .val (.int a1), .unset]) pl_updateOpen (fun _ => rfl) rfl rfl ?_
  unfold f_updateOpen at hr
  refine Ev.aloadN (d15 0 rfl) rfl ?_
  refine Ev.gI V (ww hw 68 rfl) (d15 1 rfl) (j := 22) rfl rfl ?_
  refine Ev.iconst (z := 1) (d15 2 rfl) rfl ?_
  refine Ev.isub (d15 3 rfl) ?_
  refine Ev.istDN (L' := [.val (.ref o), .val (.int a0), .val (.int a1), .val (.int ((s.1 22) - (1 : Int32)))]) (d15 4 rfl) rfl rfl rfl ?_
  refine Ev.iloadN (d15 5 rfl) rfl ?_
  refine Ev.bipush (z := 10) (d15 6 rfl) rfl ?_
  refine Ev.iceq (t := 19) (d15 7 rfl) rfl (fun c1 => ?_) (fun c1 => ?_)
  · replace hr := (if_pos c1).symm.trans hr
    exact e_updateOpen_19 hw V  a0 a1 s (.val (.int ((s.1 22) - (1 : Int32)))) rfl _ hr
  · replace hr := (if_neg c1).symm.trans hr
    refine Ev.iloadN (d15 8 rfl) rfl ?_
    refine Ev.bipush (z := 12) (d15 9 rfl) rfl ?_
    refine Ev.icne (t := 94) (d15 10 rfl) rfl (fun c2 => ?_) (fun c2 => ?_)
    · replace hr := (if_pos c2).symm.trans hr
      exact e_updateOpen_19 hw V  a0 a1 s (.val (.int ((s.1 22) - (1 : Int32)))) rfl _ hr
    · replace hr := (if_neg c2).symm.trans hr
      refine Ev.iloadN (d15 54 rfl) rfl ?_
      refine Ev.ifge (t := 99) (d15 55 rfl) rfl (fun c3 => ?_) (fun c3 => ?_)
      · replace hr := (if_pos c3).symm.trans hr
        cases hr
        exact Ev.vreturn rfl (d15 56 rfl)
      · replace hr := (if_neg c3).symm.trans hr
        refine Ev.iloadN (d15 57 rfl) rfl ?_
        refine Ev.bipush (z := 13) (d15 58 rfl) rfl ?_
        refine Ev.icne (t := 127) (d15 59 rfl) rfl (fun c4 => ?_) (fun c4 => ?_)
        · replace hr := (if_pos c4).symm.trans hr
          refine Ev.aloadN (d15 60 rfl) rfl ?_
          refine Ev.gAr V (ww hw 22 rfl) (d15 61 rfl) (j := 6) rfl ?_
          refine Ev.iloadN (d15 62 rfl) rfl ?_
          refine Ev.iloadN (d15 63 rfl) rfl ?_
          obtain ⟨b5, hr⟩ := grd_some hr
          refine Ev.ias V (j := 6) rfl rfl (d15 64 rfl) b5 ?_
          revert hr
          generalize setA s 6 (ix ((s.1 22) - (1 : Int32))) a1 = s6
          intro hr
          replace hr := (bnd_eq _ _).symm.trans hr
          refine Ev.aloadN (d15 65 rfl) rfl ?_
          refine Ev.gAr V (ww hw 18 rfl) (d15 66 rfl) (j := 4) rfl ?_
          refine Ev.aloadN (d15 67 rfl) rfl ?_
          refine Ev.gAr V (ww hw 20 rfl) (d15 68 rfl) (j := 5) rfl ?_
          refine Ev.iloadN (d15 69 rfl) rfl ?_
          refine Ev.ial V (j := 5) rfl rfl (d15 70 rfl) b5 ?_
          refine Ev.iloadN (d15 71 rfl) rfl ?_
          obtain ⟨b7, hr⟩ := grd_some hr
          refine Ev.ias V (j := 4) rfl rfl (d15 72 rfl) b7 ?_
          revert hr
          generalize setA s6 4 (ix (s6.2 5 (ix ((s.1 22) - (1 : Int32))))) a1 = s8
          intro hr
          replace hr := (bnd_eq _ _).symm.trans hr
          refine Ev.goto (t := 187) (d15 73 rfl) rfl ?_
          cases hr
          exact Ev.vreturn rfl (d15 110 rfl)
        · replace hr := (if_neg c4).symm.trans hr
          refine Ev.iloadN (d15 74 rfl) rfl ?_
          refine Ev.bipush (z := 11) (d15 75 rfl) rfl ?_
          refine Ev.icne (t := 175) (d15 76 rfl) rfl (fun c9 => ?_) (fun c9 => ?_)
          · replace hr := (if_pos c9).symm.trans hr
            refine Ev.aloadN (d15 77 rfl) rfl ?_
            refine Ev.gAr V (ww hw 18 rfl) (d15 78 rfl) (j := 4) rfl ?_
            refine Ev.aloadN (d15 79 rfl) rfl ?_
            refine Ev.gAr V (ww hw 20 rfl) (d15 80 rfl) (j := 5) rfl ?_
            refine Ev.iloadN (d15 81 rfl) rfl ?_
            obtain ⟨b10, hr⟩ := grd_some hr
            refine Ev.ial V (j := 5) rfl rfl (d15 82 rfl) b10 ?_
            refine Ev.iloadN (d15 83 rfl) rfl ?_
            obtain ⟨b11, hr⟩ := grd_some hr
            refine Ev.ias V (j := 4) rfl rfl (d15 84 rfl) b11 ?_
            revert hr
            generalize setA s 4 (ix (s.2 5 (ix ((s.1 22) - (1 : Int32))))) a1 = s12
            intro hr
            replace hr := (bnd_eq _ _).symm.trans hr
            refine Ev.aloadN (d15 85 rfl) rfl ?_
            refine Ev.gAr V (ww hw 18 rfl) (d15 86 rfl) (j := 4) rfl ?_
            refine Ev.iloadN (d15 87 rfl) rfl ?_
            refine Ev.aloadN (d15 88 rfl) rfl ?_
            refine Ev.gAr V (ww hw 20 rfl) (d15 89 rfl) (j := 5) rfl ?_
            refine Ev.iloadN (d15 90 rfl) rfl ?_
            refine Ev.ial V (j := 5) rfl rfl (d15 91 rfl) b10 ?_
            obtain ⟨b13, hr⟩ := grd_some hr
            refine Ev.ias V (j := 4) rfl rfl (d15 92 rfl) b13 ?_
            revert hr
            generalize setA s12 4 (ix a1) (s12.2 5 (ix ((s.1 22) - (1 : Int32)))) = s14
            intro hr
            replace hr := (bnd_eq _ _).symm.trans hr
            refine Ev.aloadN (d15 93 rfl) rfl ?_
            refine Ev.iloadN (d15 94 rfl) rfl ?_
            refine Ev.pI V (gok hw) (ww hw 68 rfl) (Or.inl (ww hw 69 rfl)) (d15 95 rfl) (j := 22) rfl ?_
            revert hr
            generalize setI s14 22 ((s.1 22) - (1 : Int32)) = s15
            intro hr
            replace hr := (bnd_eq _ _).symm.trans hr
            refine Ev.aloadN (d15 96 rfl) rfl ?_
            refine Ev.dup (d15 97 rfl) rfl ?_
            refine Ev.gI V (ww hw 70 rfl) (d15 98 rfl) (j := 23) rfl rfl ?_
            refine Ev.iconst (z := 1) (d15 99 rfl) rfl ?_
            refine Ev.isub (d15 100 rfl) ?_
            refine Ev.pI V (gok hw) (ww hw 70 rfl) (Or.inl (ww hw 71 rfl)) (d15 101 rfl) (j := 23) rfl ?_
            revert hr
            generalize setI s15 23 ((s15.1 23) - (1 : Int32)) = s16
            intro hr
            replace hr := (bnd_eq _ _).symm.trans hr
            refine Ev.goto (t := 187) (d15 102 rfl) rfl ?_
            cases hr
            exact Ev.vreturn rfl (d15 110 rfl)
          · replace hr := (if_neg c9).symm.trans hr
            refine Ev.iloadN (d15 103 rfl) rfl ?_
            refine Ev.bipush (z := 14) (d15 104 rfl) rfl ?_
            refine Ev.icne (t := 187) (d15 105 rfl) rfl (fun c17 => ?_) (fun c17 => ?_)
            · replace hr := (if_pos c17).symm.trans hr
              refine Ev.aloadN (d15 106 rfl) rfl ?_
              refine Ev.iloadN (d15 107 rfl) rfl ?_
              refine Ev.iloadN (d15 108 rfl) rfl ?_
              obtain ⟨q18, hq19, hr⟩ := Option.bind_eq_some_iff.mp hr
              refine Ev.priv (y := M_closeIf) (args := [.int ((s.1 22) - (1 : Int32)), .int a1]) (rest := []) (gok hw) rfl nm_closeIf (ww hw 124 rfl) (ww hw 125 rfl) (ww hw 126 rfl) (ww hw 127 rfl) (lenOf pd_closeIf rfl) (d15 109 rfl) (V.2.1 s) (e_closeIf hw V hq19) (by decide) (Nat.le_of_ble_eq_true rfl) rfl ?_
              cases hr
              exact Ev.vreturn rfl (d15 110 rfl)
            · replace hr := (if_neg c17).symm.trans hr
              cases hr
              exact Ev.vreturn rfl (d15 110 rfl)
def f_emit_122 (x1 : Int32) (x5 : Int32) (z0 : Int32) (z1 : Int32) (s : St) : Option (Int32 × St) :=
  grd (inb z1 24) <|
  bnd (setA s 3 (ix z1) z0) fun s2 =>
  grd (inb x5 24) <|
  bnd (setA s2 4 (ix x5) (-1 : Int32)) fun s4 =>
  bnd (setI s4 21 (x5 + (1 : Int32))) fun s5 =>
  (f_updateOpen x1 x5 s5).bind fun q6 =>
  bnd (setI q6 24 (0 : Int32)) fun s8 =>
  some ((1 : Int32), s8)
set_option maxRecDepth 100000 in
theorem e_emit_122 {g : GT} (hw : HW g) {K : St → MHeap} {o : Nat} {r : Nat → Nat} (V : View (GG g) Ln K o r) (x1 : Int32) (x5 : Int32) (z0 : Int32) (z1 : Int32) (s : St) (y2 : Slot) (hy2 : one1 y2 = true) (y3 : Slot) (hy3 : one1 y3 = true) (y4 : Slot) (hy4 : one1 y4 = true) (w : Int32 × St) (hr : f_emit_122 x1 x5 z0 z1 s = some w) : Ev (GG g) M_emit 122 [.val (.ref o), .val (.int x1), y2, y3, y4, .val (.int x5)] [.int z0, .int z1, .ref (r 3)] (K s) ((some (.int w.1)), (K w.2)) := by
  unfold f_emit_122 at hr
  obtain ⟨b1, hr⟩ := grd_some hr
  refine Ev.ias V (j := 3) rfl rfl (d8 69 rfl) b1 ?_
  revert hr
  generalize setA s 3 (ix z1) z0 = s2
  intro hr
  replace hr := (bnd_eq _ _).symm.trans hr
  refine Ev.aloadN (d8 70 rfl) rfl ?_
  refine Ev.gAr V (ww hw 18 rfl) (d8 71 rfl) (j := 4) rfl ?_
  refine Ev.iload (d8 72 rfl) rfl ?_
  refine Ev.iconst (z := -1) (d8 73 rfl) rfl ?_
  obtain ⟨b3, hr⟩ := grd_some hr
  refine Ev.ias V (j := 4) rfl rfl (d8 74 rfl) b3 ?_
  revert hr
  generalize setA s2 4 (ix x5) (-1 : Int32) = s4
  intro hr
  replace hr := (bnd_eq _ _).symm.trans hr
  refine Ev.aloadN (d8 75 rfl) rfl ?_
  refine Ev.iload (d8 76 rfl) rfl ?_
  refine Ev.iconst (z := 1) (d8 77 rfl) rfl ?_
  refine Ev.iadd (d8 78 rfl) ?_
  refine Ev.pI V (gok hw) (ww hw 62 rfl) (Or.inl (ww hw 63 rfl)) (d8 79 rfl) (j := 21) rfl ?_
  revert hr
  generalize setI s4 21 (x5 + (1 : Int32)) = s5
  intro hr
  replace hr := (bnd_eq _ _).symm.trans hr
  refine Ev.aloadN (d8 80 rfl) rfl ?_
  refine Ev.iloadN (d8 81 rfl) rfl ?_
  refine Ev.iload (d8 82 rfl) rfl ?_
  obtain ⟨q6, hq7, hr⟩ := Option.bind_eq_some_iff.mp hr
  refine Ev.priv (y := M_updateOpen) (args := [.int x1, .int x5]) (rest := []) (gok hw) rfl nm_updateOpen (ww hw 120 rfl) (ww hw 121 rfl) (ww hw 122 rfl) (ww hw 123 rfl) (lenOf pd_updateOpen rfl) (d8 83 rfl) (V.2.1 s5) (e_updateOpen hw V hq7) (by decide) (Nat.le_of_ble_eq_true rfl) rfl ?_
  refine Ev.aloadN (d8 84 rfl) rfl ?_
  refine Ev.iconst (z := 0) (d8 85 rfl) rfl ?_
  refine Ev.pI V (gok hw) (ww hw 72 rfl) (Or.inl (ww hw 73 rfl)) (d8 86 rfl) (j := 24) rfl ?_
  revert hr
  generalize setI q6 24 (0 : Int32) = s8
  intro hr
  replace hr := (bnd_eq _ _).symm.trans hr
  refine Ev.iconst (z := 1) (d8 87 rfl) rfl ?_
  cases hr
  exact Ev.zret1 rfl (d8 88 rfl)
def f_emit_101 (x1 : Int32) (x4 : Int32) (x5 : Int32) (z0 : Int32) (z1 : Int32) (s : St) : Option (Int32 × St) :=
  grd (inb z1 24) <|
  bnd (setA s 2 (ix z1) z0) fun s2 =>
  (f_usesC s2 x1).bind fun q3 =>
  if q3 = 0 then
    f_emit_122 x1 x5 (0 : Int32) x5 s2
  else
    f_emit_122 x1 x5 x4 x5 s2
set_option maxRecDepth 100000 in
theorem e_emit_101 {g : GT} (hw : HW g) {K : St → MHeap} {o : Nat} {r : Nat → Nat} (V : View (GG g) Ln K o r) (x1 : Int32) (x4 : Int32) (x5 : Int32) (z0 : Int32) (z1 : Int32) (s : St) (y2 : Slot) (hy2 : one1 y2 = true) (y3 : Slot) (hy3 : one1 y3 = true) (w : Int32 × St) (hr : f_emit_101 x1 x4 x5 z0 z1 s = some w) : Ev (GG g) M_emit 101 [.val (.ref o), .val (.int x1), y2, y3, .val (.int x4), .val (.int x5)] [.int z0, .int z1, .ref (r 2)] (K s) ((some (.int w.1)), (K w.2)) := by
  unfold f_emit_101 at hr
  obtain ⟨b1, hr⟩ := grd_some hr
  refine Ev.ias V (j := 2) rfl rfl (d8 58 rfl) b1 ?_
  revert hr
  generalize setA s 2 (ix z1) z0 = s2
  intro hr
  replace hr := (bnd_eq _ _).symm.trans hr
  refine Ev.aloadN (d8 59 rfl) rfl ?_
  refine Ev.gAr V (ww hw 16 rfl) (d8 60 rfl) (j := 3) rfl ?_
  refine Ev.iload (d8 61 rfl) rfl ?_
  refine Ev.aloadN (d8 62 rfl) rfl ?_
  refine Ev.iloadN (d8 63 rfl) rfl ?_
  obtain ⟨q3, hq4, hr⟩ := Option.bind_eq_some_iff.mp hr
  refine Ev.priv (y := M_usesC) (args := [.int x1]) (rest := [.int x5, .ref (r 3)]) (gok hw) rfl nm_usesC (ww hw 116 rfl) (ww hw 117 rfl) (ww hw 118 rfl) (ww hw 119 rfl) (lenOf pd_usesC rfl) (d8 64 rfl) (V.2.1 s2) (e_usesC hw V hq4) (by decide) (Nat.le_of_ble_eq_true rfl) rfl ?_
  refine Ev.ifeq (t := 121) (d8 65 rfl) rfl (fun c5 => ?_) (fun c5 => ?_)
  · replace hr := (if_pos c5).symm.trans hr
    refine Ev.iconst (z := 0) (d8 68 rfl) rfl ?_
    exact e_emit_122 hw V  x1 x5 (0 : Int32) x5 s2 y2 hy2 y3 hy3 (.val (.int x4)) rfl _ hr
  · replace hr := (if_neg c5).symm.trans hr
    refine Ev.iload (d8 66 rfl) rfl ?_
    refine Ev.goto (t := 122) (d8 67 rfl) rfl ?_
    exact e_emit_122 hw V  x1 x5 x4 x5 s2 y2 hy2 y3 hy3 (.val (.int x4)) rfl _ hr
def f_emit_81 (x1 : Int32) (x3 : Int32) (x4 : Int32) (x5 : Int32) (z0 : Int32) (z1 : Int32) (s : St) : Option (Int32 × St) :=
  grd (inb z1 24) <|
  bnd (setA s 1 (ix z1) z0) fun s2 =>
  (f_usesB s2 x1).bind fun q3 =>
  if q3 = 0 then
    f_emit_101 x1 x4 x5 (0 : Int32) x5 s2
  else
    f_emit_101 x1 x4 x5 x3 x5 s2
set_option maxRecDepth 100000 in
theorem e_emit_81 {g : GT} (hw : HW g) {K : St → MHeap} {o : Nat} {r : Nat → Nat} (V : View (GG g) Ln K o r) (x1 : Int32) (x3 : Int32) (x4 : Int32) (x5 : Int32) (z0 : Int32) (z1 : Int32) (s : St) (y2 : Slot) (hy2 : one1 y2 = true) (w : Int32 × St) (hr : f_emit_81 x1 x3 x4 x5 z0 z1 s = some w) : Ev (GG g) M_emit 81 [.val (.ref o), .val (.int x1), y2, .val (.int x3), .val (.int x4), .val (.int x5)] [.int z0, .int z1, .ref (r 1)] (K s) ((some (.int w.1)), (K w.2)) := by
  unfold f_emit_81 at hr
  obtain ⟨b1, hr⟩ := grd_some hr
  refine Ev.ias V (j := 1) rfl rfl (d8 47 rfl) b1 ?_
  revert hr
  generalize setA s 1 (ix z1) z0 = s2
  intro hr
  replace hr := (bnd_eq _ _).symm.trans hr
  refine Ev.aloadN (d8 48 rfl) rfl ?_
  refine Ev.gAr V (ww hw 14 rfl) (d8 49 rfl) (j := 2) rfl ?_
  refine Ev.iload (d8 50 rfl) rfl ?_
  refine Ev.aloadN (d8 51 rfl) rfl ?_
  refine Ev.iloadN (d8 52 rfl) rfl ?_
  obtain ⟨q3, hq4, hr⟩ := Option.bind_eq_some_iff.mp hr
  refine Ev.priv (y := M_usesB) (args := [.int x1]) (rest := [.int x5, .ref (r 2)]) (gok hw) rfl nm_usesB (ww hw 104 rfl) (ww hw 105 rfl) (ww hw 106 rfl) (ww hw 107 rfl) (lenOf pd_usesB rfl) (d8 53 rfl) (V.2.1 s2) (e_usesB hw V hq4) (by decide) (Nat.le_of_ble_eq_true rfl) rfl ?_
  refine Ev.ifeq (t := 100) (d8 54 rfl) rfl (fun c5 => ?_) (fun c5 => ?_)
  · replace hr := (if_pos c5).symm.trans hr
    refine Ev.iconst (z := 0) (d8 57 rfl) rfl ?_
    exact e_emit_101 hw V  x1 x4 x5 (0 : Int32) x5 s2 y2 hy2 (.val (.int x3)) rfl _ hr
  · replace hr := (if_neg c5).symm.trans hr
    refine Ev.iloadN (d8 55 rfl) rfl ?_
    refine Ev.goto (t := 101) (d8 56 rfl) rfl ?_
    exact e_emit_101 hw V  x1 x4 x5 x3 x5 s2 y2 hy2 (.val (.int x3)) rfl _ hr
def f_emit (a0 : Int32) (a1 : Int32) (a2 : Int32) (a3 : Int32) (s : St) : Option (Int32 × St) :=
  if (s.1 21) < (24 : Int32) then
    if a0 < (1 : Int32) then
      some ((0 : Int32), s)
    else
      if (14 : Int32) < a0 then
        some ((0 : Int32), s)
      else
        (f_operandsValid s a0 a1 a2 a3).bind fun q4 =>
        if q4 = 0 then
          some ((0 : Int32), s)
        else
          (f_structureAllows s a0).bind fun q7 =>
          if q7 = 0 then
            some ((0 : Int32), s)
          else
            grd (inb (s.1 21) 24) <|
            bnd (setA s 0 (ix (s.1 21)) a0) fun s11 =>
            (f_usesA s11 a0).bind fun q12 =>
            if q12 = 0 then
              f_emit_81 a0 a2 a3 (s.1 21) (0 : Int32) (s.1 21) s11
            else
              f_emit_81 a0 a2 a3 (s.1 21) a1 (s.1 21) s11
  else
    some ((0 : Int32), s)
set_option maxRecDepth 100000 in
theorem e_emit {g : GT} {a0 : Int32} {a1 : Int32} {a2 : Int32} {a3 : Int32} {s : St} {w : Int32 × St} (hw : HW g) {K : St → MHeap} {o : Nat} {r : Nat → Nat} (V : View (GG g) Ln K o r) (hr : f_emit a0 a1 a2 a3 s = some w) : EvC (GG g) M_emit [.ref o, .int a0, .int a1, .int a2, .int a3] (K s) ((some (.int w.1)), (K w.2)) := by
  refine EvC.enter (L0 := [.val (.ref o), .val (.int a0), .val (.int a1), .val (.int a2), .val (.int a3), .unset]) pl_emit (fun h => nomatch h) rfl rfl ?_
  unfold f_emit at hr
  refine Ev.aloadN (d8 0 rfl) rfl ?_
  refine Ev.gI V (ww hw 62 rfl) (d8 1 rfl) (j := 21) rfl rfl ?_
  refine Ev.bipush (z := 24) (d8 2 rfl) rfl ?_
  refine Ev.iclt (t := 11) (d8 3 rfl) rfl (fun c1 => ?_) (fun c1 => ?_)
  · replace hr := (if_pos c1).symm.trans hr
    refine Ev.iloadN (d8 6 rfl) rfl ?_
    refine Ev.iconst (z := 1) (d8 7 rfl) rfl ?_
    refine Ev.iclt (t := 22) (d8 8 rfl) rfl (fun c2 => ?_) (fun c2 => ?_)
    · replace hr := (if_pos c2).symm.trans hr
      refine Ev.iconst (z := 0) (d8 12 rfl) rfl ?_
      cases hr
      exact Ev.zret0 rfl (d8 13 rfl)
    · replace hr := (if_neg c2).symm.trans hr
      refine Ev.iloadN (d8 9 rfl) rfl ?_
      refine Ev.bipush (z := 14) (d8 10 rfl) rfl ?_
      refine Ev.icle (t := 24) (d8 11 rfl) rfl (fun c3 => ?_) (fun c3 => ?_)
      · replace hr := (if_pos c3).symm.trans hr
        refine Ev.iconst (z := 0) (d8 12 rfl) rfl ?_
        cases hr
        exact Ev.zret0 rfl (d8 13 rfl)
      · replace hr := (if_neg c3).symm.trans hr
        refine Ev.aloadN (d8 14 rfl) rfl ?_
        refine Ev.iloadN (d8 15 rfl) rfl ?_
        refine Ev.iloadN (d8 16 rfl) rfl ?_
        refine Ev.iloadN (d8 17 rfl) rfl ?_
        refine Ev.iload (d8 18 rfl) rfl ?_
        obtain ⟨q4, hq5, hr⟩ := Option.bind_eq_some_iff.mp hr
        refine Ev.priv (y := M_operandsValid) (args := [.int a0, .int a1, .int a2, .int a3]) (rest := []) (gok hw) rfl nm_operandsValid (ww hw 96 rfl) (ww hw 97 rfl) (ww hw 98 rfl) (ww hw 99 rfl) (lenOf pd_operandsValid rfl) (d8 19 rfl) (V.2.1 s) (e_operandsValid hw V hq5) (by decide) (Nat.le_of_ble_eq_true rfl) rfl ?_
        refine Ev.ifne (t := 38) (d8 20 rfl) rfl (fun c6 => ?_) (fun c6 => ?_)
        · replace hr := (if_pos c6).symm.trans hr
          refine Ev.iconst (z := 0) (d8 21 rfl) rfl ?_
          cases hr
          exact Ev.zret0 rfl (d8 22 rfl)
        · replace hr := (if_neg c6).symm.trans hr
          refine Ev.aloadN (d8 23 rfl) rfl ?_
          refine Ev.iloadN (d8 24 rfl) rfl ?_
          obtain ⟨q7, hq8, hr⟩ := Option.bind_eq_some_iff.mp hr
          refine Ev.priv (y := M_structureAllows) (args := [.int a0]) (rest := []) (gok hw) rfl nm_structureAllows (ww hw 112 rfl) (ww hw 113 rfl) (ww hw 114 rfl) (ww hw 115 rfl) (lenOf pd_structureAllows rfl) (d8 25 rfl) (V.2.1 s) (e_structureAllows hw V hq8) (by decide) (Nat.le_of_ble_eq_true rfl) rfl ?_
          refine Ev.ifne (t := 48) (d8 26 rfl) rfl (fun c9 => ?_) (fun c9 => ?_)
          · replace hr := (if_pos c9).symm.trans hr
            refine Ev.iconst (z := 0) (d8 27 rfl) rfl ?_
            cases hr
            exact Ev.zret0 rfl (d8 28 rfl)
          · replace hr := (if_neg c9).symm.trans hr
            refine Ev.aloadN (d8 29 rfl) rfl ?_
            refine Ev.gI V (ww hw 62 rfl) (d8 30 rfl) (j := 21) rfl rfl ?_
            refine Ev.istD (L' := [.val (.ref o), .val (.int a0), .val (.int a1), .val (.int a2), .val (.int a3), .val (.int (s.1 21))]) (d8 31 rfl) rfl rfl rfl ?_
            refine Ev.aloadN (d8 32 rfl) rfl ?_
            refine Ev.gAr V (ww hw 10 rfl) (d8 33 rfl) (j := 0) rfl ?_
            refine Ev.iload (d8 34 rfl) rfl ?_
            refine Ev.iloadN (d8 35 rfl) rfl ?_
            obtain ⟨b10, hr⟩ := grd_some hr
            refine Ev.ias V (j := 0) rfl rfl (d8 36 rfl) b10 ?_
            revert hr
            generalize setA s 0 (ix (s.1 21)) a0 = s11
            intro hr
            replace hr := (bnd_eq _ _).symm.trans hr
            refine Ev.aloadN (d8 37 rfl) rfl ?_
            refine Ev.gAr V (ww hw 12 rfl) (d8 38 rfl) (j := 1) rfl ?_
            refine Ev.iload (d8 39 rfl) rfl ?_
            refine Ev.aloadN (d8 40 rfl) rfl ?_
            refine Ev.iloadN (d8 41 rfl) rfl ?_
            obtain ⟨q12, hq13, hr⟩ := Option.bind_eq_some_iff.mp hr
            refine Ev.priv (y := M_usesA) (args := [.int a0]) (rest := [.int (s.1 21), .ref (r 1)]) (gok hw) rfl nm_usesA (ww hw 100 rfl) (ww hw 101 rfl) (ww hw 102 rfl) (ww hw 103 rfl) (lenOf pd_usesA rfl) (d8 42 rfl) (V.2.1 s11) (e_usesA hw V hq13) (by decide) (Nat.le_of_ble_eq_true rfl) rfl ?_
            refine Ev.ifeq (t := 80) (d8 43 rfl) rfl (fun c14 => ?_) (fun c14 => ?_)
            · replace hr := (if_pos c14).symm.trans hr
              refine Ev.iconst (z := 0) (d8 46 rfl) rfl ?_
              exact e_emit_81 hw V  a0 a2 a3 (s.1 21) (0 : Int32) (s.1 21) s11 (.val (.int a1)) rfl _ hr
            · replace hr := (if_neg c14).symm.trans hr
              refine Ev.iloadN (d8 44 rfl) rfl ?_
              refine Ev.goto (t := 81) (d8 45 rfl) rfl ?_
              exact e_emit_81 hw V  a0 a2 a3 (s.1 21) a1 (s.1 21) s11 (.val (.int a1)) rfl _ hr
  · replace hr := (if_neg c1).symm.trans hr
    refine Ev.iconst (z := 0) (d8 4 rfl) rfl ?_
    cases hr
    exact Ev.zret0 rfl (d8 5 rfl)
def f_transform_27 (x2 : Int32) (s : St) : Option (Int32 × St) :=
  bnd (setI s 24 x2) fun s1 =>
  some ((1 : Int32), s1)
set_option maxRecDepth 100000 in
theorem e_transform_27 {g : GT} (hw : HW g) {K : St → MHeap} {o : Nat} {r : Nat → Nat} (V : View (GG g) Ln K o r) (x2 : Int32) (s : St) (y1 : Slot) (hy1 : one1 y1 = true) (w : Int32 × St) (hr : f_transform_27 x2 s = some w) : Ev (GG g) M_transform 27 [.val (.ref o), y1, .val (.int x2)] [] (K s) ((some (.int w.1)), (K w.2)) := by
  unfold f_transform_27 at hr
  refine Ev.aloadN (d17 17 rfl) rfl ?_
  refine Ev.iloadN (d17 18 rfl) rfl ?_
  refine Ev.pI V (gok hw) (ww hw 72 rfl) (Or.inl (ww hw 73 rfl)) (d17 19 rfl) (j := 24) rfl ?_
  revert hr
  generalize setI s 24 x2 = s1
  intro hr
  replace hr := (bnd_eq _ _).symm.trans hr
  refine Ev.iconst (z := 1) (d17 20 rfl) rfl ?_
  cases hr
  exact Ev.zret1 rfl (d17 21 rfl)
def f_transform_18 (x2 : Int32) (s : St) : Option (Int32 × St) :=
  if (8 : Int32) < x2 then
    f_transform_27 (8 : Int32) s
  else
    f_transform_27 x2 s
set_option maxRecDepth 100000 in
theorem e_transform_18 {g : GT} (hw : HW g) {K : St → MHeap} {o : Nat} {r : Nat → Nat} (V : View (GG g) Ln K o r) (x2 : Int32) (s : St) (y1 : Slot) (hy1 : one1 y1 = true) (w : Int32 × St) (hr : f_transform_18 x2 s = some w) : Ev (GG g) M_transform 18 [.val (.ref o), y1, .val (.int x2)] [] (K s) ((some (.int w.1)), (K w.2)) := by
  unfold f_transform_18 at hr
  refine Ev.iloadN (d17 12 rfl) rfl ?_
  refine Ev.bipush (z := 8) (d17 13 rfl) rfl ?_
  refine Ev.icle (t := 27) (d17 14 rfl) rfl (fun c1 => ?_) (fun c1 => ?_)
  · replace hr := (if_pos c1).symm.trans hr
    refine Ev.bipush (z := 8) (d17 15 rfl) rfl ?_
    refine Ev.istDN (L' := [.val (.ref o), y1, .val (.int (8 : Int32))]) (d17 16 rfl) rfl rfl rfl ?_
    exact e_transform_27 hw V  (8 : Int32) s y1 hy1 _ hr
  · replace hr := (if_neg c1).symm.trans hr
    exact e_transform_27 hw V  x2 s y1 hy1 _ hr
def f_transform (a0 : Int32) (s : St) : Option (Int32 × St) :=
  if (s.1 22) = 0 then
    if a0 < (1 : Int32) then
      f_transform_18 (1 : Int32) s
    else
      f_transform_18 a0 s
  else
    some ((0 : Int32), s)
set_option maxRecDepth 100000 in
theorem e_transform {g : GT} {a0 : Int32} {s : St} {w : Int32 × St} (hw : HW g) {K : St → MHeap} {o : Nat} {r : Nat → Nat} (V : View (GG g) Ln K o r) (hr : f_transform a0 s = some w) : EvC (GG g) M_transform [.ref o, .int a0] (K s) ((some (.int w.1)), (K w.2)) := by
  refine EvC.enter (L0 := [.val (.ref o), .val (.int a0), .unset]) pl_transform (fun h => nomatch h) rfl rfl ?_
  unfold f_transform at hr
  refine Ev.aloadN (d17 0 rfl) rfl ?_
  refine Ev.gI V (ww hw 68 rfl) (d17 1 rfl) (j := 22) rfl rfl ?_
  refine Ev.ifeq (t := 9) (d17 2 rfl) rfl (fun c1 => ?_) (fun c1 => ?_)
  · replace hr := (if_pos c1).symm.trans hr
    refine Ev.iloadN (d17 5 rfl) rfl ?_
    refine Ev.istDN (L' := [.val (.ref o), .val (.int a0), .val (.int a0)]) (d17 6 rfl) rfl rfl rfl ?_
    refine Ev.iloadN (d17 7 rfl) rfl ?_
    refine Ev.iconst (z := 1) (d17 8 rfl) rfl ?_
    refine Ev.icge (t := 18) (d17 9 rfl) rfl (fun c2 => ?_) (fun c2 => ?_)
    · replace hr := (if_pos c2).symm.trans hr
      refine Ev.iconst (z := 1) (d17 10 rfl) rfl ?_
      refine Ev.istDN (L' := [.val (.ref o), .val (.int a0), .val (.int (1 : Int32))]) (d17 11 rfl) rfl rfl rfl ?_
      exact e_transform_18 hw V  (1 : Int32) s (.val (.int a0)) rfl _ hr
    · replace hr := (if_neg c2).symm.trans hr
      exact e_transform_18 hw V  a0 s (.val (.int a0)) rfl _ hr
  · replace hr := (if_neg c1).symm.trans hr
    refine Ev.iconst (z := 0) (d17 3 rfl) rfl ?_
    cases hr
    exact Ev.zret0 rfl (d17 4 rfl)
def f_innermostLoop_4 (n : Nat) (s : St) : Nat → Int32 → Int32 → Option (Int32)
  | 0 => fun _ _ => none
  | k + 1 => fun x1 x2 =>
    if x2 < 0 then
      some (-1 : Int32)
    else
      grd (inb x2 24) <|
      if (s.2 0 (ix x2)) = (10 : Int32) then
        if x1 < (s.2 4 (ix x2)) then
          some x2
        else
          f_innermostLoop_4 n s k x1 (x2 + (-1 : Int32))
      else
        f_innermostLoop_4 n s k x1 (x2 + (-1 : Int32))
set_option maxRecDepth 100000 in
theorem e_innermostLoop_4 {g : GT} {n : Nat} {s : St} (hw : HW g) {K : St → MHeap} {o : Nat} {r : Nat → Nat} (V : View (GG g) Ln K o r) (k : Nat) : ∀ (x1 : Int32) (x2 : Int32) (w : Int32), f_innermostLoop_4 n s k x1 x2 = some w → Ev (GG g) M_innermostLoop 4 [.val (.ref o), .val (.int x1), .val (.int x2)] [] (K s) ((some (.int w)), (K s)) := by
  induction k with
  | zero => intro x1 x2 w hr; rw [f_innermostLoop_4] at hr; cases hr
  | succ k ih =>
    intro x1 x2 w hr
    rw [f_innermostLoop_4] at hr
    refine Ev.iloadN (d21 4 rfl) rfl ?_
    refine Ev.iflt (t := 37) (d21 5 rfl) rfl (fun c1 => ?_) (fun c1 => ?_)
    · replace hr := (if_pos c1).symm.trans hr
      refine Ev.iconst (z := -1) (d21 22 rfl) rfl ?_
      cases hr
      exact Ev.ireturn rfl (d21 23 rfl)
    · replace hr := (if_neg c1).symm.trans hr
      refine Ev.aloadN (d21 6 rfl) rfl ?_
      refine Ev.gAr V (ww hw 10 rfl) (d21 7 rfl) (j := 0) rfl ?_
      refine Ev.iloadN (d21 8 rfl) rfl ?_
      obtain ⟨b2, hr⟩ := grd_some hr
      refine Ev.ial V (j := 0) rfl rfl (d21 9 rfl) b2 ?_
      refine Ev.bipush (z := 10) (d21 10 rfl) rfl ?_
      refine Ev.icne (t := 31) (d21 11 rfl) rfl (fun c3 => ?_) (fun c3 => ?_)
      · replace hr := (if_pos c3).symm.trans hr
        refine Ev.aloadN (d21 12 rfl) rfl ?_
        refine Ev.gAr V (ww hw 18 rfl) (d21 13 rfl) (j := 4) rfl ?_
        refine Ev.iloadN (d21 14 rfl) rfl ?_
        refine Ev.ial V (j := 4) rfl rfl (d21 15 rfl) b2 ?_
        refine Ev.iloadN (d21 16 rfl) rfl ?_
        refine Ev.icle (t := 31) (d21 17 rfl) rfl (fun c4 => ?_) (fun c4 => ?_)
        · replace hr := (if_pos c4).symm.trans hr
          refine Ev.iloadN (d21 18 rfl) rfl ?_
          cases hr
          exact Ev.ireturn rfl (d21 19 rfl)
        · replace hr := (if_neg c4).symm.trans hr
          refine Ev.iinc (z := -1) (L' := [.val (.ref o), .val (.int x1), .val (.int (x2 + (-1 : Int32)))]) (d21 20 rfl) rfl rfl rfl ?_
          refine Ev.goto (t := 4) (d21 21 rfl) rfl ?_
          exact ih x1 (x2 + (-1 : Int32))  _ hr
      · replace hr := (if_neg c3).symm.trans hr
        refine Ev.iinc (z := -1) (L' := [.val (.ref o), .val (.int x1), .val (.int (x2 + (-1 : Int32)))]) (d21 20 rfl) rfl rfl rfl ?_
        refine Ev.goto (t := 4) (d21 21 rfl) rfl ?_
        exact ih x1 (x2 + (-1 : Int32))  _ hr
def f_innermostLoop (n : Nat) (s : St) (a0 : Int32) : Option (Int32) :=
  f_innermostLoop_4 n s n a0 (a0 - (1 : Int32))
set_option maxRecDepth 100000 in
theorem e_innermostLoop {g : GT} {n : Nat} {s : St} {a0 : Int32} {w : Int32} (hw : HW g) {K : St → MHeap} {o : Nat} {r : Nat → Nat} (V : View (GG g) Ln K o r) (hr : f_innermostLoop n s a0 = some w) : EvC (GG g) M_innermostLoop [.ref o, .int a0] (K s) ((some (.int w)), (K s)) := by
  refine EvC.enter (L0 := [.val (.ref o), .val (.int a0), .unset]) pl_innermostLoop (fun h => nomatch h) rfl rfl ?_
  unfold f_innermostLoop at hr
  refine Ev.iloadN (d21 0 rfl) rfl ?_
  refine Ev.iconst (z := 1) (d21 1 rfl) rfl ?_
  refine Ev.isub (d21 2 rfl) ?_
  refine Ev.istDN (L' := [.val (.ref o), .val (.int a0), .val (.int (a0 - (1 : Int32)))]) (d21 3 rfl) rfl rfl rfl ?_
  exact e_innermostLoop_4 hw V  n a0 (a0 - (1 : Int32))  _ hr
def f_hasDestination_11 (s : St) (x1 : Int32) : Option (Int32) :=
  if x1 = (10 : Int32) then
    some (1 : Int32)
  else
    some (0 : Int32)
set_option maxRecDepth 100000 in
theorem e_hasDestination_11 {g : GT} {s : St} (hw : HW g) {K : St → MHeap} {o : Nat} {r : Nat → Nat} (V : View (GG g) Ln K o r) (x1 : Int32) (y0 : Slot) (hy0 : one1 y0 = true) (w : Int32) (hr : f_hasDestination_11 s x1 = some w) : Ev (GG g) M_hasDestination 11 [y0, .val (.int x1)] [] (K s) ((some (.int w)), (K s)) := by
  unfold f_hasDestination_11 at hr
  refine Ev.iloadN (d22 6 rfl) rfl ?_
  refine Ev.bipush (z := 10) (d22 7 rfl) rfl ?_
  refine Ev.icne (t := 21) (d22 8 rfl) rfl (fun c1 => ?_) (fun c1 => ?_)
  · replace hr := (if_pos c1).symm.trans hr
    refine Ev.iconst (z := 1) (d22 9 rfl) rfl ?_
    refine Ev.goto (t := 22) (d22 10 rfl) rfl ?_
    cases hr
    exact Ev.zret1 rfl (d22 12 rfl)
  · replace hr := (if_neg c1).symm.trans hr
    refine Ev.iconst (z := 0) (d22 11 rfl) rfl ?_
    cases hr
    exact Ev.zret0 rfl (d22 12 rfl)
def f_hasDestination (s : St) (a0 : Int32) : Option (Int32) :=
  if a0 < (1 : Int32) then
    f_hasDestination_11 s a0
  else
    if (8 : Int32) < a0 then
      f_hasDestination_11 s a0
    else
      some (1 : Int32)
set_option maxRecDepth 100000 in
theorem e_hasDestination {g : GT} {s : St} {a0 : Int32} {w : Int32} (hw : HW g) {K : St → MHeap} {o : Nat} {r : Nat → Nat} (V : View (GG g) Ln K o r) (hr : f_hasDestination s a0 = some w) : EvC (GG g) M_hasDestination [.ref o, .int a0] (K s) ((some (.int w)), (K s)) := by
  refine EvC.enter (L0 := [.val (.ref o), .val (.int a0)]) pl_hasDestination (fun h => nomatch h) rfl rfl ?_
  unfold f_hasDestination at hr
  refine Ev.iloadN (d22 0 rfl) rfl ?_
  refine Ev.iconst (z := 1) (d22 1 rfl) rfl ?_
  refine Ev.iclt (t := 11) (d22 2 rfl) rfl (fun c1 => ?_) (fun c1 => ?_)
  · replace hr := (if_pos c1).symm.trans hr
    exact e_hasDestination_11 hw V  a0 (.val (.ref o)) rfl _ hr
  · replace hr := (if_neg c1).symm.trans hr
    refine Ev.iloadN (d22 3 rfl) rfl ?_
    refine Ev.bipush (z := 8) (d22 4 rfl) rfl ?_
    refine Ev.icle (t := 17) (d22 5 rfl) rfl (fun c2 => ?_) (fun c2 => ?_)
    · replace hr := (if_pos c2).symm.trans hr
      exact e_hasDestination_11 hw V  a0 (.val (.ref o)) rfl _ hr
    · replace hr := (if_neg c2).symm.trans hr
      refine Ev.iconst (z := 1) (d22 9 rfl) rfl ?_
      refine Ev.goto (t := 22) (d22 10 rfl) rfl ?_
      cases hr
      exact Ev.zret1 rfl (d22 12 rfl)
def f_isInvariantIf_44 (n : Nat) (s : St) : Nat → Int32 → Int32 → Int32 → Option (Int32)
  | 0 => fun _ _ _ => none
  | k + 1 => fun x3 x4 x5 =>
    if x5 < x4 then
      if x5 < (s.1 21) then
        grd (inb x5 24) <|
        (f_hasDestination s (s.2 0 (ix x5))).bind fun q4 =>
        if q4 = 0 then
          f_isInvariantIf_44 n s k x3 x4 (x5 + (1 : Int32))
        else
          if (s.2 1 (ix x5)) = x3 then
            some (0 : Int32)
          else
            f_isInvariantIf_44 n s k x3 x4 (x5 + (1 : Int32))
      else
        some (1 : Int32)
    else
      some (1 : Int32)
set_option maxRecDepth 100000 in
theorem e_isInvariantIf_44 {g : GT} {n : Nat} {s : St} (hw : HW g) {K : St → MHeap} {o : Nat} {r : Nat → Nat} (V : View (GG g) Ln K o r) (k : Nat) : ∀ (x3 : Int32) (x4 : Int32) (x5 : Int32) (y1 : Slot) (hy1 : one1 y1 = true) (y2 : Slot) (hy2 : one1 y2 = true) (w : Int32), f_isInvariantIf_44 n s k x3 x4 x5 = some w → Ev (GG g) M_isInvariantIf 44 [.val (.ref o), y1, y2, .val (.int x3), .val (.int x4), .val (.int x5)] [] (K s) ((some (.int w)), (K s)) := by
  induction k with
  | zero => intro x3 x4 x5 y1 hy1 y2 hy2 w hr; rw [f_isInvariantIf_44] at hr; cases hr
  | succ k ih =>
    intro x3 x4 x5 y1 hy1 y2 hy2 w hr
    rw [f_isInvariantIf_44] at hr
    refine Ev.iload (d20 30 rfl) rfl ?_
    refine Ev.iload (d20 31 rfl) rfl ?_
    refine Ev.icge (t := 93) (d20 32 rfl) rfl (fun c1 => ?_) (fun c1 => ?_)
    · replace hr := (if_pos c1).symm.trans hr
      refine Ev.iload (d20 33 rfl) rfl ?_
      refine Ev.aloadN (d20 34 rfl) rfl ?_
      refine Ev.gI V (ww hw 62 rfl) (d20 35 rfl) (j := 21) rfl rfl ?_
      refine Ev.icge (t := 93) (d20 36 rfl) rfl (fun c2 => ?_) (fun c2 => ?_)
      · replace hr := (if_pos c2).symm.trans hr
        refine Ev.aloadN (d20 37 rfl) rfl ?_
        refine Ev.aloadN (d20 38 rfl) rfl ?_
        refine Ev.gAr V (ww hw 10 rfl) (d20 39 rfl) (j := 0) rfl ?_
        refine Ev.iload (d20 40 rfl) rfl ?_
        obtain ⟨b3, hr⟩ := grd_some hr
        refine Ev.ial V (j := 0) rfl rfl (d20 41 rfl) b3 ?_
        obtain ⟨q4, hq5, hr⟩ := Option.bind_eq_some_iff.mp hr
        refine Ev.priv (y := M_hasDestination) (args := [.int (s.2 0 (ix x5))]) (rest := []) (gok hw) rfl nm_hasDestination (ww hw 152 rfl) (ww hw 153 rfl) (ww hw 154 rfl) (ww hw 155 rfl) (lenOf pd_hasDestination rfl) (d20 42 rfl) (V.2.1 s) (e_hasDestination hw V hq5) (by decide) (Nat.le_of_ble_eq_true rfl) rfl ?_
        refine Ev.ifeq (t := 87) (d20 43 rfl) rfl (fun c6 => ?_) (fun c6 => ?_)
        · replace hr := (if_pos c6).symm.trans hr
          refine Ev.iinc (z := 1) (L' := [.val (.ref o), y1, y2, .val (.int x3), .val (.int x4), .val (.int (x5 + (1 : Int32)))]) (d20 52 rfl) rfl rfl rfl ?_
          refine Ev.goto (t := 44) (d20 53 rfl) rfl ?_
          exact ih x3 x4 (x5 + (1 : Int32)) y1 hy1 y2 hy2 _ hr
        · replace hr := (if_neg c6).symm.trans hr
          refine Ev.aloadN (d20 44 rfl) rfl ?_
          refine Ev.gAr V (ww hw 12 rfl) (d20 45 rfl) (j := 1) rfl ?_
          refine Ev.iload (d20 46 rfl) rfl ?_
          refine Ev.ial V (j := 1) rfl rfl (d20 47 rfl) b3 ?_
          refine Ev.iloadN (d20 48 rfl) rfl ?_
          refine Ev.icne (t := 87) (d20 49 rfl) rfl (fun c7 => ?_) (fun c7 => ?_)
          · replace hr := (if_pos c7).symm.trans hr
            refine Ev.iconst (z := 0) (d20 50 rfl) rfl ?_
            cases hr
            exact Ev.zret0 rfl (d20 51 rfl)
          · replace hr := (if_neg c7).symm.trans hr
            refine Ev.iinc (z := 1) (L' := [.val (.ref o), y1, y2, .val (.int x3), .val (.int x4), .val (.int (x5 + (1 : Int32)))]) (d20 52 rfl) rfl rfl rfl ?_
            refine Ev.goto (t := 44) (d20 53 rfl) rfl ?_
            exact ih x3 x4 (x5 + (1 : Int32)) y1 hy1 y2 hy2 _ hr
      · replace hr := (if_neg c2).symm.trans hr
        refine Ev.iconst (z := 1) (d20 54 rfl) rfl ?_
        cases hr
        exact Ev.zret1 rfl (d20 55 rfl)
    · replace hr := (if_neg c1).symm.trans hr
      refine Ev.iconst (z := 1) (d20 54 rfl) rfl ?_
      cases hr
      exact Ev.zret1 rfl (d20 55 rfl)
def f_isInvariantIf (n : Nat) (s : St) (a0 : Int32) : Option (Int32) :=
  (f_innermostLoop n s a0).bind fun q1 =>
  if q1 < 0 then
    some (0 : Int32)
  else
    grd (inb a0 24) <|
    grd (inb q1 24) <|
    if (s.2 1 (ix a0)) = (s.2 1 (ix q1)) then
      some (0 : Int32)
    else
      f_isInvariantIf_44 n s n (s.2 1 (ix a0)) (s.2 4 (ix q1)) (q1 + (1 : Int32))
set_option maxRecDepth 100000 in
theorem e_isInvariantIf {g : GT} {n : Nat} {s : St} {a0 : Int32} {w : Int32} (hw : HW g) {K : St → MHeap} {o : Nat} {r : Nat → Nat} (V : View (GG g) Ln K o r) (hr : f_isInvariantIf n s a0 = some w) : EvC (GG g) M_isInvariantIf [.ref o, .int a0] (K s) ((some (.int w)), (K s)) := by
  refine EvC.enter (L0 := [.val (.ref o), .val (.int a0), .unset, .unset, .unset, .unset]) pl_isInvariantIf (fun h => nomatch h) rfl rfl ?_
  unfold f_isInvariantIf at hr
  refine Ev.aloadN (d20 0 rfl) rfl ?_
  refine Ev.iloadN (d20 1 rfl) rfl ?_
  obtain ⟨q1, hq2, hr⟩ := Option.bind_eq_some_iff.mp hr
  refine Ev.priv (y := M_innermostLoop) (args := [.int a0]) (rest := []) (gok hw) rfl nm_innermostLoop (ww hw 148 rfl) (ww hw 149 rfl) (ww hw 150 rfl) (ww hw 151 rfl) (lenOf pd_innermostLoop rfl) (d20 2 rfl) (V.2.1 s) (e_innermostLoop hw V hq2) (by decide) (Nat.le_of_ble_eq_true rfl) rfl ?_
  refine Ev.istDN (L' := [.val (.ref o), .val (.int a0), .val (.int q1), .unset, .unset, .unset]) (d20 3 rfl) rfl rfl rfl ?_
  refine Ev.iloadN (d20 4 rfl) rfl ?_
  refine Ev.ifge (t := 12) (d20 5 rfl) rfl (fun c3 => ?_) (fun c3 => ?_)
  · replace hr := (if_pos c3).symm.trans hr
    refine Ev.iconst (z := 0) (d20 6 rfl) rfl ?_
    cases hr
    exact Ev.zret0 rfl (d20 7 rfl)
  · replace hr := (if_neg c3).symm.trans hr
    refine Ev.aloadN (d20 8 rfl) rfl ?_
    refine Ev.gAr V (ww hw 12 rfl) (d20 9 rfl) (j := 1) rfl ?_
    refine Ev.iloadN (d20 10 rfl) rfl ?_
    obtain ⟨b4, hr⟩ := grd_some hr
    refine Ev.ial V (j := 1) rfl rfl (d20 11 rfl) b4 ?_
    refine Ev.istDN (L' := [.val (.ref o), .val (.int a0), .val (.int q1), .val (.int (s.2 1 (ix a0))), .unset, .unset]) (d20 12 rfl) rfl rfl rfl ?_
    refine Ev.iloadN (d20 13 rfl) rfl ?_
    refine Ev.aloadN (d20 14 rfl) rfl ?_
    refine Ev.gAr V (ww hw 12 rfl) (d20 15 rfl) (j := 1) rfl ?_
    refine Ev.iloadN (d20 16 rfl) rfl ?_
    obtain ⟨b5, hr⟩ := grd_some hr
    refine Ev.ial V (j := 1) rfl rfl (d20 17 rfl) b5 ?_
    refine Ev.icne (t := 31) (d20 18 rfl) rfl (fun c6 => ?_) (fun c6 => ?_)
    · replace hr := (if_pos c6).symm.trans hr
      refine Ev.iconst (z := 0) (d20 19 rfl) rfl ?_
      cases hr
      exact Ev.zret0 rfl (d20 20 rfl)
    · replace hr := (if_neg c6).symm.trans hr
      refine Ev.aloadN (d20 21 rfl) rfl ?_
      refine Ev.gAr V (ww hw 18 rfl) (d20 22 rfl) (j := 4) rfl ?_
      refine Ev.iloadN (d20 23 rfl) rfl ?_
      refine Ev.ial V (j := 4) rfl rfl (d20 24 rfl) b5 ?_
      refine Ev.istD (L' := [.val (.ref o), .val (.int a0), .val (.int q1), .val (.int (s.2 1 (ix a0))), .val (.int (s.2 4 (ix q1))), .unset]) (d20 25 rfl) rfl rfl rfl ?_
      refine Ev.iloadN (d20 26 rfl) rfl ?_
      refine Ev.iconst (z := 1) (d20 27 rfl) rfl ?_
      refine Ev.iadd (d20 28 rfl) ?_
      refine Ev.istD (L' := [.val (.ref o), .val (.int a0), .val (.int q1), .val (.int (s.2 1 (ix a0))), .val (.int (s.2 4 (ix q1))), .val (.int (q1 + (1 : Int32)))]) (d20 29 rfl) rfl rfl rfl ?_
      exact e_isInvariantIf_44 hw V  n (s.2 1 (ix a0)) (s.2 4 (ix q1)) (q1 + (1 : Int32)) (.val (.int a0)) rfl (.val (.int q1)) rfl _ hr
def f_prepare_113 (n : Nat) (k31 : Int32 → Int32 → St → Option (St)) (x1 : Int32) (x2 : Int32) (z0 : Int32) (z1 : Int32) (s : St) : Option (St) :=
  grd (inb z1 24) <|
  bnd (setA s 18 (ix z1) z0) fun s2 =>
  k31 x1 (x2 + (1 : Int32)) s2
set_option maxRecDepth 100000 in
theorem e_prepare_113 {g : GT} {n : Nat} (hw : HW g) {K : St → MHeap} {o : Nat} {r : Nat → Nat} (V : View (GG g) Ln K o r) {k31 : Int32 → Int32 → St → Option (St)} (hk31 : ∀ (x1 : Int32) (x2 : Int32) (s : St) (y3 : Slot) (hy3 : one1 y3 = true) (w : St), k31 x1 x2 s = some w → Ev (GG g) M_prepare 31 [.val (.ref o), .val (.int x1), .val (.int x2), y3] [] (K s) (none, (K w))) (x1 : Int32) (x2 : Int32) (z0 : Int32) (z1 : Int32) (s : St) (y3 : Slot) (hy3 : one1 y3 = true) (w : St) (hr : f_prepare_113 n k31 x1 x2 z0 z1 s = some w) : Ev (GG g) M_prepare 113 [.val (.ref o), .val (.int x1), .val (.int x2), y3] [.int z0, .int z1, .ref (r 18)] (K s) (none, (K w)) := by
  unfold f_prepare_113 at hr
  obtain ⟨b1, hr⟩ := grd_some hr
  refine Ev.ias V (j := 18) rfl rfl (d19 65 rfl) b1 ?_
  revert hr
  generalize setA s 18 (ix z1) z0 = s2
  intro hr
  replace hr := (bnd_eq _ _).symm.trans hr
  refine Ev.iinc (z := 1) (L' := [.val (.ref o), .val (.int x1), .val (.int (x2 + (1 : Int32))), y3]) (d19 66 rfl) rfl rfl rfl ?_
  refine Ev.goto (t := 31) (d19 67 rfl) rfl ?_
  exact hk31 x1 (x2 + (1 : Int32)) s2 y3 hy3 _ hr
def f_prepare_87 (n : Nat) (k31 : Int32 → Int32 → St → Option (St)) (x1 : Int32) (x2 : Int32) (z0 : Int32) (s : St) : Option (St) :=
  grd (inb x2 24) <|
  bnd (setA s 17 (ix x2) (z0 &&& 1)) fun s2 =>
  if z0 = 0 then
    f_prepare_113 n k31 x1 x2 (-1 : Int32) x2 s2
  else
    (f_innermostLoop n s2 x2).bind fun q4 =>
    f_prepare_113 n k31 x1 x2 q4 x2 s2
set_option maxRecDepth 100000 in
theorem e_prepare_87 {g : GT} {n : Nat} (hw : HW g) {K : St → MHeap} {o : Nat} {r : Nat → Nat} (V : View (GG g) Ln K o r) {k31 : Int32 → Int32 → St → Option (St)} (hk31 : ∀ (x1 : Int32) (x2 : Int32) (s : St) (y3 : Slot) (hy3 : one1 y3 = true) (w : St), k31 x1 x2 s = some w → Ev (GG g) M_prepare 31 [.val (.ref o), .val (.int x1), .val (.int x2), y3] [] (K s) (none, (K w))) (x1 : Int32) (x2 : Int32) (z0 : Int32) (s : St) (y3 : Slot) (hy3 : one1 y3 = true) (w : St) (hr : f_prepare_87 n k31 x1 x2 z0 s = some w) : Ev (GG g) M_prepare 87 [.val (.ref o), .val (.int x1), .val (.int x2), y3] [.int z0] (K s) (none, (K w)) := by
  unfold f_prepare_87 at hr
  refine Ev.istDN (L' := [.val (.ref o), .val (.int x1), .val (.int x2), .val (.int z0)]) (d19 49 rfl) rfl hy3 rfl ?_
  refine Ev.aloadN (d19 50 rfl) rfl ?_
  refine Ev.gAr V (ww hw 45 rfl) (d19 51 rfl) (j := 17) rfl ?_
  refine Ev.iloadN (d19 52 rfl) rfl ?_
  refine Ev.iloadN (d19 53 rfl) rfl ?_
  obtain ⟨b1, hr⟩ := grd_some hr
  refine Ev.bas V (j := 17) rfl rfl (d19 54 rfl) b1 ?_
  revert hr
  generalize setA s 17 (ix x2) (z0 &&& 1) = s2
  intro hr
  replace hr := (bnd_eq _ _).symm.trans hr
  refine Ev.aloadN (d19 55 rfl) rfl ?_
  refine Ev.gAr V (ww hw 47 rfl) (d19 56 rfl) (j := 18) rfl ?_
  refine Ev.iloadN (d19 57 rfl) rfl ?_
  refine Ev.iloadN (d19 58 rfl) rfl ?_
  refine Ev.ifeq (t := 112) (d19 59 rfl) rfl (fun c3 => ?_) (fun c3 => ?_)
  · replace hr := (if_pos c3).symm.trans hr
    refine Ev.iconst (z := -1) (d19 64 rfl) rfl ?_
    exact e_prepare_113 hw V hk31 x1 x2 (-1 : Int32) x2 s2 (.val (.int z0)) rfl _ hr
  · replace hr := (if_neg c3).symm.trans hr
    refine Ev.aloadN (d19 60 rfl) rfl ?_
    refine Ev.iloadN (d19 61 rfl) rfl ?_
    obtain ⟨q4, hq5, hr⟩ := Option.bind_eq_some_iff.mp hr
    refine Ev.priv (y := M_innermostLoop) (args := [.int x2]) (rest := [.int x2, .ref (r 18)]) (gok hw) rfl nm_innermostLoop (ww hw 148 rfl) (ww hw 149 rfl) (ww hw 150 rfl) (ww hw 151 rfl) (lenOf pd_innermostLoop rfl) (d19 62 rfl) (V.2.1 s2) (e_innermostLoop hw V hq5) (by decide) (Nat.le_of_ble_eq_true rfl) rfl ?_
    refine Ev.goto (t := 113) (d19 63 rfl) rfl ?_
    exact e_prepare_113 hw V hk31 x1 x2 q4 x2 s2 (.val (.int z0)) rfl _ hr
def f_prepare_31 (n : Nat) : Nat → Int32 → Int32 → St → Option (St)
  | 0 => fun _ _ _ => none
  | k + 1 => fun x1 x2 s =>
    if x2 < (24 : Int32) then
      grd (inb x2 24) <|
      bnd (setA s 19 (ix x2) ((0 : Int32) &&& 1)) fun s3 =>
      bnd (setA s3 20 (ix x2) ((0 : Int32) &&& 1)) fun s4 =>
      if x1 = 0 then
        f_prepare_87 n (f_prepare_31 n k) x1 x2 (0 : Int32) s4
      else
        if x2 < (s4.1 21) then
          if (s4.2 0 (ix x2)) = (12 : Int32) then
            (f_isInvariantIf n s4 x2).bind fun q8 =>
            if q8 = 0 then
              f_prepare_87 n (f_prepare_31 n k) x1 x2 (0 : Int32) s4
            else
              f_prepare_87 n (f_prepare_31 n k) x1 x2 (1 : Int32) s4
          else
            f_prepare_87 n (f_prepare_31 n k) x1 x2 (0 : Int32) s4
        else
          f_prepare_87 n (f_prepare_31 n k) x1 x2 (0 : Int32) s4
    else
      some s
set_option maxRecDepth 100000 in
theorem e_prepare_31 {g : GT} {n : Nat} (hw : HW g) {K : St → MHeap} {o : Nat} {r : Nat → Nat} (V : View (GG g) Ln K o r) (k : Nat) : ∀ (x1 : Int32) (x2 : Int32) (s : St) (y3 : Slot) (hy3 : one1 y3 = true) (w : St), f_prepare_31 n k x1 x2 s = some w → Ev (GG g) M_prepare 31 [.val (.ref o), .val (.int x1), .val (.int x2), y3] [] (K s) (none, (K w)) := by
  induction k with
  | zero => intro x1 x2 s y3 hy3 w hr; rw [f_prepare_31] at hr; cases hr
  | succ k ih =>
    intro x1 x2 s y3 hy3 w hr
    rw [f_prepare_31] at hr
    refine Ev.iloadN (d19 17 rfl) rfl ?_
    refine Ev.bipush (z := 24) (d19 18 rfl) rfl ?_
    refine Ev.icge (t := 120) (d19 19 rfl) rfl (fun c1 => ?_) (fun c1 => ?_)
    · replace hr := (if_pos c1).symm.trans hr
      refine Ev.aloadN (d19 20 rfl) rfl ?_
      refine Ev.gAr V (ww hw 49 rfl) (d19 21 rfl) (j := 19) rfl ?_
      refine Ev.iloadN (d19 22 rfl) rfl ?_
      refine Ev.iconst (z := 0) (d19 23 rfl) rfl ?_
      obtain ⟨b2, hr⟩ := grd_some hr
      refine Ev.bas V (j := 19) rfl rfl (d19 24 rfl) b2 ?_
      revert hr
      generalize setA s 19 (ix x2) ((0 : Int32) &&& 1) = s3
      intro hr
      replace hr := (bnd_eq _ _).symm.trans hr
      refine Ev.aloadN (d19 25 rfl) rfl ?_
      refine Ev.gAr V (ww hw 51 rfl) (d19 26 rfl) (j := 20) rfl ?_
      refine Ev.iloadN (d19 27 rfl) rfl ?_
      refine Ev.iconst (z := 0) (d19 28 rfl) rfl ?_
      refine Ev.bas V (j := 20) rfl rfl (d19 29 rfl) b2 ?_
      revert hr
      generalize setA s3 20 (ix x2) ((0 : Int32) &&& 1) = s4
      intro hr
      replace hr := (bnd_eq _ _).symm.trans hr
      refine Ev.iloadN (d19 30 rfl) rfl ?_
      refine Ev.ifeq (t := 86) (d19 31 rfl) rfl (fun c5 => ?_) (fun c5 => ?_)
      · replace hr := (if_pos c5).symm.trans hr
        refine Ev.iconst (z := 0) (d19 48 rfl) rfl ?_
        exact e_prepare_87 hw V ih x1 x2 (0 : Int32) s4 y3 hy3 _ hr
      · replace hr := (if_neg c5).symm.trans hr
        refine Ev.iloadN (d19 32 rfl) rfl ?_
        refine Ev.aloadN (d19 33 rfl) rfl ?_
        refine Ev.gI V (ww hw 62 rfl) (d19 34 rfl) (j := 21) rfl rfl ?_
        refine Ev.icge (t := 86) (d19 35 rfl) rfl (fun c6 => ?_) (fun c6 => ?_)
        · replace hr := (if_pos c6).symm.trans hr
          refine Ev.aloadN (d19 36 rfl) rfl ?_
          refine Ev.gAr V (ww hw 10 rfl) (d19 37 rfl) (j := 0) rfl ?_
          refine Ev.iloadN (d19 38 rfl) rfl ?_
          refine Ev.ial V (j := 0) rfl rfl (d19 39 rfl) b2 ?_
          refine Ev.bipush (z := 12) (d19 40 rfl) rfl ?_
          refine Ev.icne (t := 86) (d19 41 rfl) rfl (fun c7 => ?_) (fun c7 => ?_)
          · replace hr := (if_pos c7).symm.trans hr
            refine Ev.aloadN (d19 42 rfl) rfl ?_
            refine Ev.iloadN (d19 43 rfl) rfl ?_
            obtain ⟨q8, hq9, hr⟩ := Option.bind_eq_some_iff.mp hr
            refine Ev.priv (y := M_isInvariantIf) (args := [.int x2]) (rest := []) (gok hw) rfl nm_isInvariantIf (ww hw 144 rfl) (ww hw 145 rfl) (ww hw 146 rfl) (ww hw 147 rfl) (lenOf pd_isInvariantIf rfl) (d19 44 rfl) (V.2.1 s4) (e_isInvariantIf hw V hq9) (by decide) (Nat.le_of_ble_eq_true rfl) rfl ?_
            refine Ev.ifeq (t := 86) (d19 45 rfl) rfl (fun c10 => ?_) (fun c10 => ?_)
            · replace hr := (if_pos c10).symm.trans hr
              refine Ev.iconst (z := 0) (d19 48 rfl) rfl ?_
              exact e_prepare_87 hw V ih x1 x2 (0 : Int32) s4 y3 hy3 _ hr
            · replace hr := (if_neg c10).symm.trans hr
              refine Ev.iconst (z := 1) (d19 46 rfl) rfl ?_
              refine Ev.goto (t := 87) (d19 47 rfl) rfl ?_
              exact e_prepare_87 hw V ih x1 x2 (1 : Int32) s4 y3 hy3 _ hr
          · replace hr := (if_neg c7).symm.trans hr
            refine Ev.iconst (z := 0) (d19 48 rfl) rfl ?_
            exact e_prepare_87 hw V ih x1 x2 (0 : Int32) s4 y3 hy3 _ hr
        · replace hr := (if_neg c6).symm.trans hr
          refine Ev.iconst (z := 0) (d19 48 rfl) rfl ?_
          exact e_prepare_87 hw V ih x1 x2 (0 : Int32) s4 y3 hy3 _ hr
    · replace hr := (if_neg c1).symm.trans hr
      cases hr
      exact Ev.vreturn rfl (d19 68 rfl)
def f_prepare_29 (n : Nat) (x1 : Int32) (s : St) : Option (St) :=
  f_prepare_31 n n x1 (0 : Int32) s
set_option maxRecDepth 100000 in
theorem e_prepare_29 {g : GT} {n : Nat} (hw : HW g) {K : St → MHeap} {o : Nat} {r : Nat → Nat} (V : View (GG g) Ln K o r) (x1 : Int32) (s : St) (y2 : Slot) (hy2 : one1 y2 = true) (y3 : Slot) (hy3 : one1 y3 = true) (w : St) (hr : f_prepare_29 n x1 s = some w) : Ev (GG g) M_prepare 29 [.val (.ref o), .val (.int x1), y2, y3] [] (K s) (none, (K w)) := by
  unfold f_prepare_29 at hr
  refine Ev.iconst (z := 0) (d19 15 rfl) rfl ?_
  refine Ev.istDN (L' := [.val (.ref o), .val (.int x1), .val (.int (0 : Int32)), y3]) (d19 16 rfl) rfl hy2 rfl ?_
  exact e_prepare_31 hw V  n x1 (0 : Int32) s y3 hy3 _ hr
def f_prepare_13 (n : Nat) (x1 : Int32) (z0 : Int32) (s : St) : Option (St) :=
  bnd (setI s 27 z0) fun s1 =>
  if (s1.1 27) < (1 : Int32) then
    bnd (setI s1 27 (1 : Int32)) fun s3 =>
    f_prepare_29 n x1 s3
  else
    f_prepare_29 n x1 s1
set_option maxRecDepth 100000 in
theorem e_prepare_13 {g : GT} {n : Nat} (hw : HW g) {K : St → MHeap} {o : Nat} {r : Nat → Nat} (V : View (GG g) Ln K o r) (x1 : Int32) (z0 : Int32) (s : St) (y2 : Slot) (hy2 : one1 y2 = true) (y3 : Slot) (hy3 : one1 y3 = true) (w : St) (hr : f_prepare_13 n x1 z0 s = some w) : Ev (GG g) M_prepare 13 [.val (.ref o), .val (.int x1), y2, y3] [.int z0, .ref o] (K s) (none, (K w)) := by
  unfold f_prepare_13 at hr
  refine Ev.pI V (gok hw) (ww hw 142 rfl) (Or.inl (ww hw 143 rfl)) (d19 7 rfl) (j := 27) rfl ?_
  revert hr
  generalize setI s 27 z0 = s1
  intro hr
  replace hr := (bnd_eq _ _).symm.trans hr
  refine Ev.aloadN (d19 8 rfl) rfl ?_
  refine Ev.gI V (ww hw 142 rfl) (d19 9 rfl) (j := 27) rfl rfl ?_
  refine Ev.iconst (z := 1) (d19 10 rfl) rfl ?_
  refine Ev.icge (t := 29) (d19 11 rfl) rfl (fun c2 => ?_) (fun c2 => ?_)
  · replace hr := (if_pos c2).symm.trans hr
    refine Ev.aloadN (d19 12 rfl) rfl ?_
    refine Ev.iconst (z := 1) (d19 13 rfl) rfl ?_
    refine Ev.pI V (gok hw) (ww hw 142 rfl) (Or.inl (ww hw 143 rfl)) (d19 14 rfl) (j := 27) rfl ?_
    revert hr
    generalize setI s1 27 (1 : Int32) = s3
    intro hr
    replace hr := (bnd_eq _ _).symm.trans hr
    exact e_prepare_29 hw V  x1 s3 y2 hy2 y3 hy3 _ hr
  · replace hr := (if_neg c2).symm.trans hr
    exact e_prepare_29 hw V  x1 s1 y2 hy2 y3 hy3 _ hr
def f_prepare (n : Nat) (a0 : Int32) (s : St) : Option (St) :=
  if a0 = 0 then
    f_prepare_13 n a0 (1 : Int32) s
  else
    f_prepare_13 n a0 (s.1 24) s
set_option maxRecDepth 100000 in
theorem e_prepare {g : GT} {n : Nat} {a0 : Int32} {s : St} {w : St} (hw : HW g) {K : St → MHeap} {o : Nat} {r : Nat → Nat} (V : View (GG g) Ln K o r) (hr : f_prepare n a0 s = some w) : EvC (GG g) M_prepare [.ref o, .int a0] (K s) (none, (K w)) := by
  refine EvC.enter (L0 := [.val (.ref o), .val (.int a0), .unset, .unset]) pl_prepare (fun _ => rfl) rfl rfl ?_
  unfold f_prepare at hr
  refine Ev.aloadN (d19 0 rfl) rfl ?_
  refine Ev.iloadN (d19 1 rfl) rfl ?_
  refine Ev.ifeq (t := 12) (d19 2 rfl) rfl (fun c1 => ?_) (fun c1 => ?_)
  · replace hr := (if_pos c1).symm.trans hr
    refine Ev.iconst (z := 1) (d19 6 rfl) rfl ?_
    exact e_prepare_13 hw V  a0 (1 : Int32) s .unset rfl .unset rfl _ hr
  · replace hr := (if_neg c1).symm.trans hr
    refine Ev.aloadN (d19 3 rfl) rfl ?_
    refine Ev.gI V (ww hw 72 rfl) (d19 4 rfl) (j := 24) rfl rfl ?_
    refine Ev.goto (t := 13) (d19 5 rfl) rfl ?_
    exact e_prepare_13 hw V  a0 (s.1 24) s .unset rfl .unset rfl _ hr
def f_arith (s : St) (a0 : Int32) : Option (Int32) :=
  grd (inb a0 24) <|
  if (s.2 0 (ix a0)) = (1 : Int32) then
    some (s.2 3 (ix a0))
  else
    grd (inb (s.2 2 (ix a0)) 8) <|
    if (s.2 0 (ix a0)) = (8 : Int32) then
      some ((s.2 11 (ix (s.2 2 (ix a0)))) + (s.2 3 (ix a0)))
    else
      grd (inb (s.2 3 (ix a0)) 8) <|
      if (s.2 0 (ix a0)) = (2 : Int32) then
        some ((s.2 11 (ix (s.2 2 (ix a0)))) + (s.2 11 (ix (s.2 3 (ix a0)))))
      else
      if (s.2 0 (ix a0)) = (3 : Int32) then
        some ((s.2 11 (ix (s.2 2 (ix a0)))) - (s.2 11 (ix (s.2 3 (ix a0)))))
      else
      if (s.2 0 (ix a0)) = (4 : Int32) then
        some ((s.2 11 (ix (s.2 2 (ix a0)))) * (s.2 11 (ix (s.2 3 (ix a0)))))
      else
      if (s.2 0 (ix a0)) = (5 : Int32) then
        some ((s.2 11 (ix (s.2 2 (ix a0)))) &&& (s.2 11 (ix (s.2 3 (ix a0)))))
      else
      if (s.2 0 (ix a0)) = (6 : Int32) then
        some ((s.2 11 (ix (s.2 2 (ix a0)))) ^^^ (s.2 11 (ix (s.2 3 (ix a0)))))
      else
      if (s.2 11 (ix (s.2 2 (ix a0)))) < (s.2 11 (ix (s.2 3 (ix a0)))) then
        some (1 : Int32)
      else
        some (0 : Int32)
set_option maxRecDepth 100000 in
theorem e_arith {g : GT} {s : St} {a0 : Int32} {w : Int32} (hw : HW g) {K : St → MHeap} {o : Nat} {r : Nat → Nat} (V : View (GG g) Ln K o r) (hr : f_arith s a0 = some w) : EvC (GG g) M_arith [.ref o, .int a0] (K s) ((some (.int w)), (K s)) := by
  refine EvC.enter (L0 := [.val (.ref o), .val (.int a0), .unset, .unset, .unset]) pl_arith (fun h => nomatch h) rfl rfl ?_
  unfold f_arith at hr
  refine Ev.aloadN (d29 0 rfl) rfl ?_
  refine Ev.gAr V (ww hw 10 rfl) (d29 1 rfl) (j := 0) rfl ?_
  refine Ev.iloadN (d29 2 rfl) rfl ?_
  obtain ⟨b1, hr⟩ := grd_some hr
  refine Ev.ial V (j := 0) rfl rfl (d29 3 rfl) b1 ?_
  refine Ev.istDN (L' := [.val (.ref o), .val (.int a0), .val (.int (s.2 0 (ix a0))), .unset, .unset]) (d29 4 rfl) rfl rfl rfl ?_
  refine Ev.iloadN (d29 5 rfl) rfl ?_
  refine Ev.iconst (z := 1) (d29 6 rfl) rfl ?_
  refine Ev.icne (t := 19) (d29 7 rfl) rfl (fun c2 => ?_) (fun c2 => ?_)
  · replace hr := (if_pos c2).symm.trans hr
    refine Ev.aloadN (d29 8 rfl) rfl ?_
    refine Ev.gAr V (ww hw 16 rfl) (d29 9 rfl) (j := 3) rfl ?_
    refine Ev.iloadN (d29 10 rfl) rfl ?_
    refine Ev.ial V (j := 3) rfl rfl (d29 11 rfl) b1 ?_
    cases hr
    exact Ev.ireturn rfl (d29 12 rfl)
  · replace hr := (if_neg c2).symm.trans hr
    refine Ev.aloadN (d29 13 rfl) rfl ?_
    refine Ev.gAr V (ww hw 33 rfl) (d29 14 rfl) (j := 11) rfl ?_
    refine Ev.aloadN (d29 15 rfl) rfl ?_
    refine Ev.gAr V (ww hw 14 rfl) (d29 16 rfl) (j := 2) rfl ?_
    refine Ev.iloadN (d29 17 rfl) rfl ?_
    refine Ev.ial V (j := 2) rfl rfl (d29 18 rfl) b1 ?_
    obtain ⟨b3, hr⟩ := grd_some hr
    refine Ev.ial V (j := 11) rfl rfl (d29 19 rfl) b3 ?_
    refine Ev.istDN (L' := [.val (.ref o), .val (.int a0), .val (.int (s.2 0 (ix a0))), .val (.int (s.2 11 (ix (s.2 2 (ix a0))))), .unset]) (d29 20 rfl) rfl rfl rfl ?_
    refine Ev.iloadN (d29 21 rfl) rfl ?_
    refine Ev.bipush (z := 8) (d29 22 rfl) rfl ?_
    refine Ev.icne (t := 46) (d29 23 rfl) rfl (fun c4 => ?_) (fun c4 => ?_)
    · replace hr := (if_pos c4).symm.trans hr
      refine Ev.iloadN (d29 24 rfl) rfl ?_
      refine Ev.aloadN (d29 25 rfl) rfl ?_
      refine Ev.gAr V (ww hw 16 rfl) (d29 26 rfl) (j := 3) rfl ?_
      refine Ev.iloadN (d29 27 rfl) rfl ?_
      refine Ev.ial V (j := 3) rfl rfl (d29 28 rfl) b1 ?_
      refine Ev.iadd (d29 29 rfl) ?_
      cases hr
      exact Ev.ireturn rfl (d29 30 rfl)
    · replace hr := (if_neg c4).symm.trans hr
      refine Ev.aloadN (d29 31 rfl) rfl ?_
      refine Ev.gAr V (ww hw 33 rfl) (d29 32 rfl) (j := 11) rfl ?_
      refine Ev.aloadN (d29 33 rfl) rfl ?_
      refine Ev.gAr V (ww hw 16 rfl) (d29 34 rfl) (j := 3) rfl ?_
      refine Ev.iloadN (d29 35 rfl) rfl ?_
      refine Ev.ial V (j := 3) rfl rfl (d29 36 rfl) b1 ?_
      obtain ⟨b5, hr⟩ := grd_some hr
      refine Ev.ial V (j := 11) rfl rfl (d29 37 rfl) b5 ?_
      refine Ev.istD (L' := [.val (.ref o), .val (.int a0), .val (.int (s.2 0 (ix a0))), .val (.int (s.2 11 (ix (s.2 2 (ix a0))))), .val (.int (s.2 11 (ix (s.2 3 (ix a0)))))]) (d29 38 rfl) rfl rfl rfl ?_
      refine Ev.iloadN (d29 39 rfl) rfl ?_
      by_cases c6 : (s.2 0 (ix a0)) = (2 : Int32)
      · replace hr := (if_pos c6).symm.trans hr
        refine Ev.tswIn (t := 96) (o := 36) (d29 40 rfl) (by rw [c6]; decide) (by rw [c6]; rfl) rfl ?_
        refine Ev.iloadN (d29 41 rfl) rfl ?_
        refine Ev.iload (d29 42 rfl) rfl ?_
        refine Ev.iadd (d29 43 rfl) ?_
        cases hr
        exact Ev.ireturn rfl (d29 44 rfl)
      replace hr := (if_neg c6).symm.trans hr
      by_cases c7 : (s.2 0 (ix a0)) = (3 : Int32)
      · replace hr := (if_pos c7).symm.trans hr
        refine Ev.tswIn (t := 101) (o := 41) (d29 40 rfl) (by rw [c7]; decide) (by rw [c7]; rfl) rfl ?_
        refine Ev.iloadN (d29 45 rfl) rfl ?_
        refine Ev.iload (d29 46 rfl) rfl ?_
        refine Ev.isub (d29 47 rfl) ?_
        cases hr
        exact Ev.ireturn rfl (d29 48 rfl)
      replace hr := (if_neg c7).symm.trans hr
      by_cases c8 : (s.2 0 (ix a0)) = (4 : Int32)
      · replace hr := (if_pos c8).symm.trans hr
        refine Ev.tswIn (t := 106) (o := 46) (d29 40 rfl) (by rw [c8]; decide) (by rw [c8]; rfl) rfl ?_
        refine Ev.iloadN (d29 49 rfl) rfl ?_
        refine Ev.iload (d29 50 rfl) rfl ?_
        refine Ev.imul (d29 51 rfl) ?_
        cases hr
        exact Ev.ireturn rfl (d29 52 rfl)
      replace hr := (if_neg c8).symm.trans hr
      by_cases c9 : (s.2 0 (ix a0)) = (5 : Int32)
      · replace hr := (if_pos c9).symm.trans hr
        refine Ev.tswIn (t := 111) (o := 51) (d29 40 rfl) (by rw [c9]; decide) (by rw [c9]; rfl) rfl ?_
        refine Ev.iloadN (d29 53 rfl) rfl ?_
        refine Ev.iload (d29 54 rfl) rfl ?_
        refine Ev.iand (d29 55 rfl) ?_
        cases hr
        exact Ev.ireturn rfl (d29 56 rfl)
      replace hr := (if_neg c9).symm.trans hr
      by_cases c10 : (s.2 0 (ix a0)) = (6 : Int32)
      · replace hr := (if_pos c10).symm.trans hr
        refine Ev.tswIn (t := 116) (o := 56) (d29 40 rfl) (by rw [c10]; decide) (by rw [c10]; rfl) rfl ?_
        refine Ev.iloadN (d29 57 rfl) rfl ?_
        refine Ev.iload (d29 58 rfl) rfl ?_
        refine Ev.ixor (d29 59 rfl) ?_
        cases hr
        exact Ev.ireturn rfl (d29 60 rfl)
      replace hr := (if_neg c10).symm.trans hr
      refine Ev.tswOut (t := 121) (d29 40 rfl) (by have qc6 := ne_lit c6 (by decide : (2 : Int32).toInt = 2); have qc7 := ne_lit c7 (by decide : (3 : Int32).toInt = 3); have qc8 := ne_lit c8 (by decide : (4 : Int32).toInt = 4); have qc9 := ne_lit c9 (by decide : (5 : Int32).toInt = 5); have qc10 := ne_lit c10 (by decide : (6 : Int32).toInt = 6); omega) rfl ?_
      refine Ev.iloadN (d29 61 rfl) rfl ?_
      refine Ev.iload (d29 62 rfl) rfl ?_
      refine Ev.icge (t := 131) (d29 63 rfl) rfl (fun c11 => ?_) (fun c11 => ?_)
      · replace hr := (if_pos c11).symm.trans hr
        refine Ev.iconst (z := 1) (d29 64 rfl) rfl ?_
        refine Ev.goto (t := 132) (d29 65 rfl) rfl ?_
        cases hr
        exact Ev.ireturn rfl (d29 67 rfl)
      · replace hr := (if_neg c11).symm.trans hr
        refine Ev.iconst (z := 0) (d29 66 rfl) rfl ?_
        cases hr
        exact Ev.ireturn rfl (d29 67 rfl)
def f_appendOutput_19 (s : St) : Option (St) :=
  bnd (setI s 26 ((s.1 26) + (1 : Int32))) fun s1 =>
  some s1
set_option maxRecDepth 100000 in
theorem e_appendOutput_19 {g : GT} (hw : HW g) {K : St → MHeap} {o : Nat} {r : Nat → Nat} (V : View (GG g) Ln K o r) (s : St) (y1 : Slot) (hy1 : one1 y1 = true) (w : St) (hr : f_appendOutput_19 s = some w) : Ev (GG g) M_appendOutput 19 [.val (.ref o), y1] [] (K s) (none, (K w)) := by
  unfold f_appendOutput_19 at hr
  refine Ev.aloadN (d30 10 rfl) rfl ?_
  refine Ev.dup (d30 11 rfl) rfl ?_
  refine Ev.gI V (ww hw 80 rfl) (d30 12 rfl) (j := 26) rfl rfl ?_
  refine Ev.iconst (z := 1) (d30 13 rfl) rfl ?_
  refine Ev.iadd (d30 14 rfl) ?_
  refine Ev.pI V (gok hw) (ww hw 80 rfl) (Or.inl (ww hw 81 rfl)) (d30 15 rfl) (j := 26) rfl ?_
  revert hr
  generalize setI s 26 ((s.1 26) + (1 : Int32)) = s1
  intro hr
  replace hr := (bnd_eq _ _).symm.trans hr
  cases hr
  exact Ev.vreturn rfl (d30 16 rfl)
def f_appendOutput (a0 : Int32) (s : St) : Option (St) :=
  if (s.1 26) < (32 : Int32) then
    grd (inb (s.1 26) 32) <|
    bnd (setA s 9 (ix (s.1 26)) a0) fun s3 =>
    f_appendOutput_19 s3
  else
    f_appendOutput_19 s
set_option maxRecDepth 100000 in
theorem e_appendOutput {g : GT} {a0 : Int32} {s : St} {w : St} (hw : HW g) {K : St → MHeap} {o : Nat} {r : Nat → Nat} (V : View (GG g) Ln K o r) (hr : f_appendOutput a0 s = some w) : EvC (GG g) M_appendOutput [.ref o, .int a0] (K s) (none, (K w)) := by
  refine EvC.enter (L0 := [.val (.ref o), .val (.int a0)]) pl_appendOutput (fun _ => rfl) rfl rfl ?_
  unfold f_appendOutput at hr
  refine Ev.aloadN (d30 0 rfl) rfl ?_
  refine Ev.gI V (ww hw 80 rfl) (d30 1 rfl) (j := 26) rfl rfl ?_
  refine Ev.bipush (z := 32) (d30 2 rfl) rfl ?_
  refine Ev.icge (t := 19) (d30 3 rfl) rfl (fun c1 => ?_) (fun c1 => ?_)
  · replace hr := (if_pos c1).symm.trans hr
    refine Ev.aloadN (d30 4 rfl) rfl ?_
    refine Ev.gAr V (ww hw 29 rfl) (d30 5 rfl) (j := 9) rfl ?_
    refine Ev.aloadN (d30 6 rfl) rfl ?_
    refine Ev.gI V (ww hw 80 rfl) (d30 7 rfl) (j := 26) rfl rfl ?_
    refine Ev.iloadN (d30 8 rfl) rfl ?_
    obtain ⟨b2, hr⟩ := grd_some hr
    refine Ev.ias V (j := 9) rfl rfl (d30 9 rfl) b2 ?_
    revert hr
    generalize setA s 9 (ix (s.1 26)) a0 = s3
    intro hr
    replace hr := (bnd_eq _ _).symm.trans hr
    exact e_appendOutput_19 hw V  s3 (.val (.int a0)) rfl _ hr
  · replace hr := (if_neg c1).symm.trans hr
    exact e_appendOutput_19 hw V  s (.val (.int a0)) rfl _ hr
def f_tripCount (s : St) (a0 : Int32) (a1 : Int32) (a2 : Int32) : Option (Int64) :=
  if 0 < (XT.cmpL (a2).toInt64 (0 : Int64)) then
    if (XT.cmpL (a0).toInt64 (a1).toInt64) < 0 then
      grd ((a2).toInt64 ≠ 0) <|
      some (((((a1).toInt64 - (a0).toInt64) + (a2).toInt64) - (1 : Int64)) / (a2).toInt64)
    else
      some (0 : Int64)
  else
    if (XT.cmpL (a2).toInt64 (0 : Int64)) < 0 then
      if 0 < (XT.cmpL (a0).toInt64 (a1).toInt64) then
        grd ((-(a2).toInt64) ≠ 0) <|
        some (((((a0).toInt64 - (a1).toInt64) + (-(a2).toInt64)) - (1 : Int64)) / (-(a2).toInt64))
      else
        some (0 : Int64)
    else
      some (0 : Int64)
set_option maxRecDepth 100000 in
theorem e_tripCount {g : GT} {s : St} {a0 : Int32} {a1 : Int32} {a2 : Int32} {w : Int64} (hw : HW g) {K : St → MHeap} {o : Nat} {r : Nat → Nat} (V : View (GG g) Ln K o r) (hr : f_tripCount s a0 a1 a2 = some w) : EvC (GG g) M_tripCount [.ref o, .int a0, .int a1, .int a2] (K s) ((some (.long w)), (K s)) := by
  refine EvC.enter (L0 := [.val (.ref o), .val (.int a0), .val (.int a1), .val (.int a2), .unset, .unset, .unset, .unset, .unset, .unset, .unset, .unset]) pl_tripCount (fun h => nomatch h) rfl rfl ?_
  unfold f_tripCount at hr
  refine Ev.iloadN (d26 0 rfl) rfl ?_
  refine Ev.i2l (d26 1 rfl) ?_
  refine Ev.lstD (L' := [.val (.ref o), .val (.int a0), .val (.int a1), .val (.int a2), .val (.long (a0).toInt64), .second, .unset, .unset, .unset, .unset, .unset, .unset]) (d26 2 rfl) rfl rfl (Or.inl ⟨rfl, rfl⟩) rfl ?_
  refine Ev.iloadN (d26 3 rfl) rfl ?_
  refine Ev.i2l (d26 4 rfl) ?_
  refine Ev.lstD (L' := [.val (.ref o), .val (.int a0), .val (.int a1), .val (.int a2), .val (.long (a0).toInt64), .second, .val (.long (a1).toInt64), .second, .unset, .unset, .unset, .unset]) (d26 5 rfl) rfl rfl (Or.inl ⟨rfl, rfl⟩) rfl ?_
  refine Ev.iloadN (d26 6 rfl) rfl ?_
  refine Ev.i2l (d26 7 rfl) ?_
  refine Ev.lstD (L' := [.val (.ref o), .val (.int a0), .val (.int a1), .val (.int a2), .val (.long (a0).toInt64), .second, .val (.long (a1).toInt64), .second, .val (.long (a2).toInt64), .second, .unset, .unset]) (d26 8 rfl) rfl rfl (Or.inl ⟨rfl, rfl⟩) rfl ?_
  refine Ev.lload (d26 9 rfl) rfl ?_
  refine Ev.lconst (z := 0) (d26 10 rfl) rfl ?_
  refine Ev.lcmp (d26 11 rfl) ?_
  refine Ev.ifle (t := 45) (d26 12 rfl) rfl (fun c1 => ?_) (fun c1 => ?_)
  · replace hr := (if_pos c1).symm.trans hr
    refine Ev.lload (d26 13 rfl) rfl ?_
    refine Ev.lload (d26 14 rfl) rfl ?_
    refine Ev.lcmp (d26 15 rfl) ?_
    refine Ev.ifge (t := 43) (d26 16 rfl) rfl (fun c2 => ?_) (fun c2 => ?_)
    · replace hr := (if_pos c2).symm.trans hr
      refine Ev.lload (d26 17 rfl) rfl ?_
      refine Ev.lload (d26 18 rfl) rfl ?_
      refine Ev.lsub (d26 19 rfl) ?_
      refine Ev.lload (d26 20 rfl) rfl ?_
      refine Ev.ladd (d26 21 rfl) ?_
      refine Ev.lconst (z := 1) (d26 22 rfl) rfl ?_
      refine Ev.lsub (d26 23 rfl) ?_
      refine Ev.lload (d26 24 rfl) rfl ?_
      obtain ⟨c3, hr⟩ := grd_some hr
      refine Ev.ldiv (d26 25 rfl) c3 ?_
      refine Ev.goto (t := 44) (d26 26 rfl) rfl ?_
      cases hr
      exact Ev.lreturn rfl (d26 28 rfl)
    · replace hr := (if_neg c2).symm.trans hr
      refine Ev.lconst (z := 0) (d26 27 rfl) rfl ?_
      cases hr
      exact Ev.lreturn rfl (d26 28 rfl)
  · replace hr := (if_neg c1).symm.trans hr
    refine Ev.lload (d26 29 rfl) rfl ?_
    refine Ev.lconst (z := 0) (d26 30 rfl) rfl ?_
    refine Ev.lcmp (d26 31 rfl) ?_
    refine Ev.ifge (t := 83) (d26 32 rfl) rfl (fun c4 => ?_) (fun c4 => ?_)
    · replace hr := (if_pos c4).symm.trans hr
      refine Ev.lload (d26 33 rfl) rfl ?_
      refine Ev.lneg (d26 34 rfl) ?_
      refine Ev.lstD (L' := [.val (.ref o), .val (.int a0), .val (.int a1), .val (.int a2), .val (.long (a0).toInt64), .second, .val (.long (a1).toInt64), .second, .val (.long (a2).toInt64), .second, .val (.long (-(a2).toInt64)), .second]) (d26 35 rfl) rfl rfl (Or.inl ⟨rfl, rfl⟩) rfl ?_
      refine Ev.lload (d26 36 rfl) rfl ?_
      refine Ev.lload (d26 37 rfl) rfl ?_
      refine Ev.lcmp (d26 38 rfl) ?_
      refine Ev.ifle (t := 81) (d26 39 rfl) rfl (fun c5 => ?_) (fun c5 => ?_)
      · replace hr := (if_pos c5).symm.trans hr
        refine Ev.lload (d26 40 rfl) rfl ?_
        refine Ev.lload (d26 41 rfl) rfl ?_
        refine Ev.lsub (d26 42 rfl) ?_
        refine Ev.lload (d26 43 rfl) rfl ?_
        refine Ev.ladd (d26 44 rfl) ?_
        refine Ev.lconst (z := 1) (d26 45 rfl) rfl ?_
        refine Ev.lsub (d26 46 rfl) ?_
        refine Ev.lload (d26 47 rfl) rfl ?_
        obtain ⟨c6, hr⟩ := grd_some hr
        refine Ev.ldiv (d26 48 rfl) c6 ?_
        refine Ev.goto (t := 82) (d26 49 rfl) rfl ?_
        cases hr
        exact Ev.lreturn rfl (d26 51 rfl)
      · replace hr := (if_neg c5).symm.trans hr
        refine Ev.lconst (z := 0) (d26 50 rfl) rfl ?_
        cases hr
        exact Ev.lreturn rfl (d26 51 rfl)
    · replace hr := (if_neg c4).symm.trans hr
      refine Ev.lconst (z := 0) (d26 52 rfl) rfl ?_
      cases hr
      exact Ev.lreturn rfl (d26 53 rfl)
def f_decideGuards_74 (n : Nat) (k11 : Int32 → Int32 → Int32 → St → Option (St)) (x1 : Int32) (x2 : Int32) (x3 : Int32) (z0 : Int32) (z1 : Int32) (s : St) : Option (St) :=
  grd (inb z1 24) <|
  bnd (setA s 20 (ix z1) (z0 &&& 1)) fun s2 =>
  k11 x1 x2 (x3 + (1 : Int32)) s2
set_option maxRecDepth 100000 in
theorem e_decideGuards_74 {g : GT} {n : Nat} (hw : HW g) {K : St → MHeap} {o : Nat} {r : Nat → Nat} (V : View (GG g) Ln K o r) {k11 : Int32 → Int32 → Int32 → St → Option (St)} (hk11 : ∀ (x1 : Int32) (x2 : Int32) (x3 : Int32) (s : St) (w : St), k11 x1 x2 x3 s = some w → Ev (GG g) M_decideGuards 11 [.val (.ref o), .val (.int x1), .val (.int x2), .val (.int x3)] [] (K s) (none, (K w))) (x1 : Int32) (x2 : Int32) (x3 : Int32) (z0 : Int32) (z1 : Int32) (s : St) (w : St) (hr : f_decideGuards_74 n k11 x1 x2 x3 z0 z1 s = some w) : Ev (GG g) M_decideGuards 74 [.val (.ref o), .val (.int x1), .val (.int x2), .val (.int x3)] [.int z0, .int z1, .ref (r 20)] (K s) (none, (K w)) := by
  unfold f_decideGuards_74 at hr
  obtain ⟨b1, hr⟩ := grd_some hr
  refine Ev.bas V (j := 20) rfl rfl (d27 46 rfl) b1 ?_
  revert hr
  generalize setA s 20 (ix z1) (z0 &&& 1) = s2
  intro hr
  replace hr := (bnd_eq _ _).symm.trans hr
  refine Ev.iinc (z := 1) (L' := [.val (.ref o), .val (.int x1), .val (.int x2), .val (.int (x3 + (1 : Int32)))]) (d27 47 rfl) rfl rfl rfl ?_
  refine Ev.goto (t := 11) (d27 48 rfl) rfl ?_
  exact hk11 x1 x2 (x3 + (1 : Int32)) s2  _ hr
def f_decideGuards_11 (n : Nat) : Nat → Int32 → Int32 → Int32 → St → Option (St)
  | 0 => fun _ _ _ _ => none
  | k + 1 => fun x1 x2 x3 s =>
    if x3 < x2 then
      if x3 < (s.1 21) then
        grd (inb x3 24) <|
        if (s.2 17 (ix x3)) = 0 then
          f_decideGuards_11 n k x1 x2 (x3 + (1 : Int32)) s
        else
          if (s.2 18 (ix x3)) = x1 then
            bnd (setA s 19 (ix x3) ((1 : Int32) &&& 1)) fun s6 =>
            grd (inb (s6.2 1 (ix x3)) 8) <|
            if (s6.2 11 (ix (s6.2 1 (ix x3)))) = 0 then
              f_decideGuards_74 n (f_decideGuards_11 n k) x1 x2 x3 (0 : Int32) x3 s6
            else
              f_decideGuards_74 n (f_decideGuards_11 n k) x1 x2 x3 (1 : Int32) x3 s6
          else
            f_decideGuards_11 n k x1 x2 (x3 + (1 : Int32)) s
      else
        some s
    else
      some s
set_option maxRecDepth 100000 in
theorem e_decideGuards_11 {g : GT} {n : Nat} (hw : HW g) {K : St → MHeap} {o : Nat} {r : Nat → Nat} (V : View (GG g) Ln K o r) (k : Nat) : ∀ (x1 : Int32) (x2 : Int32) (x3 : Int32) (s : St) (w : St), f_decideGuards_11 n k x1 x2 x3 s = some w → Ev (GG g) M_decideGuards 11 [.val (.ref o), .val (.int x1), .val (.int x2), .val (.int x3)] [] (K s) (none, (K w)) := by
  induction k with
  | zero => intro x1 x2 x3 s w hr; rw [f_decideGuards_11] at hr; cases hr
  | succ k ih =>
    intro x1 x2 x3 s w hr
    rw [f_decideGuards_11] at hr
    refine Ev.iloadN (d27 9 rfl) rfl ?_
    refine Ev.iloadN (d27 10 rfl) rfl ?_
    refine Ev.icge (t := 81) (d27 11 rfl) rfl (fun c1 => ?_) (fun c1 => ?_)
    · replace hr := (if_pos c1).symm.trans hr
      refine Ev.iloadN (d27 12 rfl) rfl ?_
      refine Ev.aloadN (d27 13 rfl) rfl ?_
      refine Ev.gI V (ww hw 62 rfl) (d27 14 rfl) (j := 21) rfl rfl ?_
      refine Ev.icge (t := 81) (d27 15 rfl) rfl (fun c2 => ?_) (fun c2 => ?_)
      · replace hr := (if_pos c2).symm.trans hr
        refine Ev.aloadN (d27 16 rfl) rfl ?_
        refine Ev.gAr V (ww hw 45 rfl) (d27 17 rfl) (j := 17) rfl ?_
        refine Ev.iloadN (d27 18 rfl) rfl ?_
        obtain ⟨b3, hr⟩ := grd_some hr
        refine Ev.bal V (j := 17) rfl rfl (d27 19 rfl) b3 ?_
        refine Ev.ifeq (t := 75) (d27 20 rfl) rfl (fun c4 => ?_) (fun c4 => ?_)
        · replace hr := (if_pos c4).symm.trans hr
          refine Ev.iinc (z := 1) (L' := [.val (.ref o), .val (.int x1), .val (.int x2), .val (.int (x3 + (1 : Int32)))]) (d27 47 rfl) rfl rfl rfl ?_
          refine Ev.goto (t := 11) (d27 48 rfl) rfl ?_
          exact ih x1 x2 (x3 + (1 : Int32)) s  _ hr
        · replace hr := (if_neg c4).symm.trans hr
          refine Ev.aloadN (d27 21 rfl) rfl ?_
          refine Ev.gAr V (ww hw 47 rfl) (d27 22 rfl) (j := 18) rfl ?_
          refine Ev.iloadN (d27 23 rfl) rfl ?_
          refine Ev.ial V (j := 18) rfl rfl (d27 24 rfl) b3 ?_
          refine Ev.iloadN (d27 25 rfl) rfl ?_
          refine Ev.icne (t := 75) (d27 26 rfl) rfl (fun c5 => ?_) (fun c5 => ?_)
          · replace hr := (if_pos c5).symm.trans hr
            refine Ev.aloadN (d27 27 rfl) rfl ?_
            refine Ev.gAr V (ww hw 49 rfl) (d27 28 rfl) (j := 19) rfl ?_
            refine Ev.iloadN (d27 29 rfl) rfl ?_
            refine Ev.iconst (z := 1) (d27 30 rfl) rfl ?_
            refine Ev.bas V (j := 19) rfl rfl (d27 31 rfl) b3 ?_
            revert hr
            generalize setA s 19 (ix x3) ((1 : Int32) &&& 1) = s6
            intro hr
            replace hr := (bnd_eq _ _).symm.trans hr
            refine Ev.aloadN (d27 32 rfl) rfl ?_
            refine Ev.gAr V (ww hw 51 rfl) (d27 33 rfl) (j := 20) rfl ?_
            refine Ev.iloadN (d27 34 rfl) rfl ?_
            refine Ev.aloadN (d27 35 rfl) rfl ?_
            refine Ev.gAr V (ww hw 33 rfl) (d27 36 rfl) (j := 11) rfl ?_
            refine Ev.aloadN (d27 37 rfl) rfl ?_
            refine Ev.gAr V (ww hw 12 rfl) (d27 38 rfl) (j := 1) rfl ?_
            refine Ev.iloadN (d27 39 rfl) rfl ?_
            refine Ev.ial V (j := 1) rfl rfl (d27 40 rfl) b3 ?_
            obtain ⟨b7, hr⟩ := grd_some hr
            refine Ev.ial V (j := 11) rfl rfl (d27 41 rfl) b7 ?_
            refine Ev.ifeq (t := 73) (d27 42 rfl) rfl (fun c8 => ?_) (fun c8 => ?_)
            · replace hr := (if_pos c8).symm.trans hr
              refine Ev.iconst (z := 0) (d27 45 rfl) rfl ?_
              exact e_decideGuards_74 hw V ih x1 x2 x3 (0 : Int32) x3 s6  _ hr
            · replace hr := (if_neg c8).symm.trans hr
              refine Ev.iconst (z := 1) (d27 43 rfl) rfl ?_
              refine Ev.goto (t := 74) (d27 44 rfl) rfl ?_
              exact e_decideGuards_74 hw V ih x1 x2 x3 (1 : Int32) x3 s6  _ hr
          · replace hr := (if_neg c5).symm.trans hr
            refine Ev.iinc (z := 1) (L' := [.val (.ref o), .val (.int x1), .val (.int x2), .val (.int (x3 + (1 : Int32)))]) (d27 47 rfl) rfl rfl rfl ?_
            refine Ev.goto (t := 11) (d27 48 rfl) rfl ?_
            exact ih x1 x2 (x3 + (1 : Int32)) s  _ hr
      · replace hr := (if_neg c2).symm.trans hr
        cases hr
        exact Ev.vreturn rfl (d27 49 rfl)
    · replace hr := (if_neg c1).symm.trans hr
      cases hr
      exact Ev.vreturn rfl (d27 49 rfl)
def f_decideGuards (n : Nat) (a0 : Int32) (s : St) : Option (St) :=
  grd (inb a0 24) <|
  f_decideGuards_11 n n a0 (s.2 4 (ix a0)) (a0 + (1 : Int32)) s
set_option maxRecDepth 100000 in
theorem e_decideGuards {g : GT} {n : Nat} {a0 : Int32} {s : St} {w : St} (hw : HW g) {K : St → MHeap} {o : Nat} {r : Nat → Nat} (V : View (GG g) Ln K o r) (hr : f_decideGuards n a0 s = some w) : EvC (GG g) M_decideGuards [.ref o, .int a0] (K s) (none, (K w)) := by
  refine EvC.enter (L0 := [.val (.ref o), .val (.int a0), .unset, .unset]) pl_decideGuards (fun _ => rfl) rfl rfl ?_
  unfold f_decideGuards at hr
  refine Ev.aloadN (d27 0 rfl) rfl ?_
  refine Ev.gAr V (ww hw 18 rfl) (d27 1 rfl) (j := 4) rfl ?_
  refine Ev.iloadN (d27 2 rfl) rfl ?_
  obtain ⟨b1, hr⟩ := grd_some hr
  refine Ev.ial V (j := 4) rfl rfl (d27 3 rfl) b1 ?_
  refine Ev.istDN (L' := [.val (.ref o), .val (.int a0), .val (.int (s.2 4 (ix a0))), .unset]) (d27 4 rfl) rfl rfl rfl ?_
  refine Ev.iloadN (d27 5 rfl) rfl ?_
  refine Ev.iconst (z := 1) (d27 6 rfl) rfl ?_
  refine Ev.iadd (d27 7 rfl) ?_
  refine Ev.istDN (L' := [.val (.ref o), .val (.int a0), .val (.int (s.2 4 (ix a0))), .val (.int (a0 + (1 : Int32)))]) (d27 8 rfl) rfl rfl rfl ?_
  exact e_decideGuards_11 hw V  n a0 (s.2 4 (ix a0)) (a0 + (1 : Int32)) s  _ hr
def f_enterLoop_72 (n : Nat) (x1 : Int32) (x2 : Int32) (x3 : Int32) (s : St) : Option (St) :=
  grd (inb x2 8) <|
  bnd (setA s 11 (ix x2) x3) fun s2 =>
  grd (inb x1 24) <|
  bnd (setI s2 28 ((s2.2 4 (ix x1)) + (1 : Int32))) fun s4 =>
  some s4
set_option maxRecDepth 100000 in
theorem e_enterLoop_72 {g : GT} {n : Nat} (hw : HW g) {K : St → MHeap} {o : Nat} {r : Nat → Nat} (V : View (GG g) Ln K o r) (x1 : Int32) (x2 : Int32) (x3 : Int32) (s : St) (y4 : Slot) (hy4 : one1 y4 = true) (y5 y6 : Slot) (hy5 : two2 y5 y6) (w : St) (hr : f_enterLoop_72 n x1 x2 x3 s = some w) : Ev (GG g) M_enterLoop 72 [.val (.ref o), .val (.int x1), .val (.int x2), .val (.int x3), y4, y5, y6] [] (K s) (none, (K w)) := by
  unfold f_enterLoop_72 at hr
  refine Ev.aloadN (d25 43 rfl) rfl ?_
  refine Ev.gAr V (ww hw 33 rfl) (d25 44 rfl) (j := 11) rfl ?_
  refine Ev.iloadN (d25 45 rfl) rfl ?_
  refine Ev.iloadN (d25 46 rfl) rfl ?_
  obtain ⟨b1, hr⟩ := grd_some hr
  refine Ev.ias V (j := 11) rfl rfl (d25 47 rfl) b1 ?_
  revert hr
  generalize setA s 11 (ix x2) x3 = s2
  intro hr
  replace hr := (bnd_eq _ _).symm.trans hr
  refine Ev.aloadN (d25 48 rfl) rfl ?_
  refine Ev.aloadN (d25 49 rfl) rfl ?_
  refine Ev.gAr V (ww hw 18 rfl) (d25 50 rfl) (j := 4) rfl ?_
  refine Ev.iloadN (d25 51 rfl) rfl ?_
  obtain ⟨b3, hr⟩ := grd_some hr
  refine Ev.ial V (j := 4) rfl rfl (d25 52 rfl) b3 ?_
  refine Ev.iconst (z := 1) (d25 53 rfl) rfl ?_
  refine Ev.iadd (d25 54 rfl) ?_
  refine Ev.pI V (gok hw) (ww hw 160 rfl) (Or.inl (ww hw 161 rfl)) (d25 55 rfl) (j := 28) rfl ?_
  revert hr
  generalize setI s2 28 ((s2.2 4 (ix x1)) + (1 : Int32)) = s4
  intro hr
  replace hr := (bnd_eq _ _).symm.trans hr
  cases hr
  exact Ev.vreturn rfl (d25 56 rfl)
def f_enterLoop (n : Nat) (a0 : Int32) (s : St) : Option (St) :=
  grd (inb a0 24) <|
  grd (inb (s.2 1 (ix a0)) 8) <|
  grd (inb (s.2 2 (ix a0)) 8) <|
  (f_tripCount s (s.2 11 (ix (s.2 1 (ix a0)))) (s.2 11 (ix (s.2 2 (ix a0)))) (s.2 3 (ix a0))).bind fun q4 =>
  if 0 < (XT.cmpL q4 (16 : Int64)) then
    bnd (setI s 30 ((1 : Int32) &&& 1)) fun s7 =>
    some s7
  else
    if 0 < (XT.cmpL q4 (0 : Int64)) then
      if (s.1 29) < (2 : Int32) then
        grd (inb (s.1 29) 2) <|
        bnd (setA s 12 (ix (s.1 29)) a0) fun s11 =>
        grd (inb (s11.1 29) 2) <|
        bnd (setA s11 13 (ix (s11.1 29)) (s.2 11 (ix (s.2 1 (ix a0))))) fun s13 =>
        grd (inb (s13.1 29) 2) <|
        bnd (setA s13 14 (ix (s13.1 29)) (q4).toInt32) fun s15 =>
        grd (inb (s15.1 29) 2) <|
        bnd (setA s15 15 (ix (s15.1 29)) (0 : Int32)) fun s17 =>
        grd (inb (s17.1 29) 2) <|
        bnd (setA s17 16 (ix (s17.1 29)) (0 : Int32)) fun s19 =>
        bnd (setI s19 29 ((s19.1 29) + (1 : Int32))) fun s20 =>
        (f_decideGuards n a0 s20).bind fun q21 =>
        bnd (setA q21 11 (ix (s.2 1 (ix a0))) (s.2 11 (ix (s.2 1 (ix a0))))) fun s23 =>
        bnd (setI s23 28 (a0 + (1 : Int32))) fun s24 =>
        some s24
      else
        f_enterLoop_72 n a0 (s.2 1 (ix a0)) (s.2 11 (ix (s.2 1 (ix a0)))) s
    else
      f_enterLoop_72 n a0 (s.2 1 (ix a0)) (s.2 11 (ix (s.2 1 (ix a0)))) s
set_option maxRecDepth 100000 in
theorem e_enterLoop {g : GT} {n : Nat} {a0 : Int32} {s : St} {w : St} (hw : HW g) {K : St → MHeap} {o : Nat} {r : Nat → Nat} (V : View (GG g) Ln K o r) (hr : f_enterLoop n a0 s = some w) : EvC (GG g) M_enterLoop [.ref o, .int a0] (K s) (none, (K w)) := by
  refine EvC.enter (L0 := [.val (.ref o), .val (.int a0), .unset, .unset, .unset, .unset, .unset]) pl_enterLoop (fun _ => rfl) rfl rfl ?_
  unfold f_enterLoop at hr
  refine Ev.aloadN (d25 0 rfl) rfl ?_
  refine Ev.gAr V (ww hw 12 rfl) (d25 1 rfl) (j := 1) rfl ?_
  refine Ev.iloadN (d25 2 rfl) rfl ?_
  obtain ⟨b1, hr⟩ := grd_some hr
  refine Ev.ial V (j := 1) rfl rfl (d25 3 rfl) b1 ?_
  refine Ev.istDN (L' := [.val (.ref o), .val (.int a0), .val (.int (s.2 1 (ix a0))), .unset, .unset, .unset, .unset]) (d25 4 rfl) rfl rfl rfl ?_
  refine Ev.aloadN (d25 5 rfl) rfl ?_
  refine Ev.gAr V (ww hw 33 rfl) (d25 6 rfl) (j := 11) rfl ?_
  refine Ev.iloadN (d25 7 rfl) rfl ?_
  obtain ⟨b2, hr⟩ := grd_some hr
  refine Ev.ial V (j := 11) rfl rfl (d25 8 rfl) b2 ?_
  refine Ev.istDN (L' := [.val (.ref o), .val (.int a0), .val (.int (s.2 1 (ix a0))), .val (.int (s.2 11 (ix (s.2 1 (ix a0))))), .unset, .unset, .unset]) (d25 9 rfl) rfl rfl rfl ?_
  refine Ev.aloadN (d25 10 rfl) rfl ?_
  refine Ev.gAr V (ww hw 33 rfl) (d25 11 rfl) (j := 11) rfl ?_
  refine Ev.aloadN (d25 12 rfl) rfl ?_
  refine Ev.gAr V (ww hw 14 rfl) (d25 13 rfl) (j := 2) rfl ?_
  refine Ev.iloadN (d25 14 rfl) rfl ?_
  refine Ev.ial V (j := 2) rfl rfl (d25 15 rfl) b1 ?_
  obtain ⟨b3, hr⟩ := grd_some hr
  refine Ev.ial V (j := 11) rfl rfl (d25 16 rfl) b3 ?_
  refine Ev.istD (L' := [.val (.ref o), .val (.int a0), .val (.int (s.2 1 (ix a0))), .val (.int (s.2 11 (ix (s.2 1 (ix a0))))), .val (.int (s.2 11 (ix (s.2 2 (ix a0))))), .unset, .unset]) (d25 17 rfl) rfl rfl rfl ?_
  refine Ev.aloadN (d25 18 rfl) rfl ?_
  refine Ev.iloadN (d25 19 rfl) rfl ?_
  refine Ev.iload (d25 20 rfl) rfl ?_
  refine Ev.aloadN (d25 21 rfl) rfl ?_
  refine Ev.gAr V (ww hw 16 rfl) (d25 22 rfl) (j := 3) rfl ?_
  refine Ev.iloadN (d25 23 rfl) rfl ?_
  refine Ev.ial V (j := 3) rfl rfl (d25 24 rfl) b1 ?_
  obtain ⟨q4, hq5, hr⟩ := Option.bind_eq_some_iff.mp hr
  refine Ev.priv (y := M_tripCount) (args := [.int (s.2 11 (ix (s.2 1 (ix a0)))), .int (s.2 11 (ix (s.2 2 (ix a0)))), .int (s.2 3 (ix a0))]) (rest := []) (gok hw) rfl nm_tripCount (ww hw 174 rfl) (ww hw 175 rfl) (ww hw 176 rfl) (ww hw 177 rfl) (lenOf pd_tripCount rfl) (d25 25 rfl) (V.2.1 s) (e_tripCount hw V hq5) (by decide) (Nat.le_of_ble_eq_true rfl) rfl ?_
  refine Ev.lstD (L' := [.val (.ref o), .val (.int a0), .val (.int (s.2 1 (ix a0))), .val (.int (s.2 11 (ix (s.2 1 (ix a0))))), .val (.int (s.2 11 (ix (s.2 2 (ix a0))))), .val (.long q4), .second]) (d25 26 rfl) rfl rfl (Or.inl ⟨rfl, rfl⟩) rfl ?_
  refine Ev.lload (d25 27 rfl) rfl ?_
  refine Ev.ldcL (ww hw 178 rfl) (d25 28 rfl) ?_
  refine Ev.lcmp (d25 29 rfl) ?_
  refine Ev.ifle (t := 57) (d25 30 rfl) rfl (fun c6 => ?_) (fun c6 => ?_)
  · replace hr := (if_pos c6).symm.trans hr
    refine Ev.aloadN (d25 31 rfl) rfl ?_
    refine Ev.iconst (z := 1) (d25 32 rfl) rfl ?_
    refine Ev.pZ V (gok hw) (ww hw 164 rfl) (Or.inl (ww hw 165 rfl)) (d25 33 rfl) (j := 30) rfl ?_
    revert hr
    generalize setI s 30 ((1 : Int32) &&& 1) = s7
    intro hr
    replace hr := (bnd_eq _ _).symm.trans hr
    cases hr
    exact Ev.vreturn rfl (d25 34 rfl)
  · replace hr := (if_neg c6).symm.trans hr
    refine Ev.lload (d25 35 rfl) rfl ?_
    refine Ev.lconst (z := 0) (d25 36 rfl) rfl ?_
    refine Ev.lcmp (d25 37 rfl) ?_
    refine Ev.ifle (t := 72) (d25 38 rfl) rfl (fun c8 => ?_) (fun c8 => ?_)
    · replace hr := (if_pos c8).symm.trans hr
      refine Ev.aloadN (d25 39 rfl) rfl ?_
      refine Ev.gI V (ww hw 162 rfl) (d25 40 rfl) (j := 29) rfl rfl ?_
      refine Ev.iconst (z := 2) (d25 41 rfl) rfl ?_
      refine Ev.iclt (t := 92) (d25 42 rfl) rfl (fun c9 => ?_) (fun c9 => ?_)
      · replace hr := (if_pos c9).symm.trans hr
        refine Ev.aloadN (d25 57 rfl) rfl ?_
        refine Ev.gAr V (ww hw 35 rfl) (d25 58 rfl) (j := 12) rfl ?_
        refine Ev.aloadN (d25 59 rfl) rfl ?_
        refine Ev.gI V (ww hw 162 rfl) (d25 60 rfl) (j := 29) rfl rfl ?_
        refine Ev.iloadN (d25 61 rfl) rfl ?_
        obtain ⟨b10, hr⟩ := grd_some hr
        refine Ev.ias V (j := 12) rfl rfl (d25 62 rfl) b10 ?_
        revert hr
        generalize setA s 12 (ix (s.1 29)) a0 = s11
        intro hr
        replace hr := (bnd_eq _ _).symm.trans hr
        refine Ev.aloadN (d25 63 rfl) rfl ?_
        refine Ev.gAr V (ww hw 37 rfl) (d25 64 rfl) (j := 13) rfl ?_
        refine Ev.aloadN (d25 65 rfl) rfl ?_
        refine Ev.gI V (ww hw 162 rfl) (d25 66 rfl) (j := 29) rfl rfl ?_
        refine Ev.iloadN (d25 67 rfl) rfl ?_
        obtain ⟨b12, hr⟩ := grd_some hr
        refine Ev.ias V (j := 13) rfl rfl (d25 68 rfl) b12 ?_
        revert hr
        generalize setA s11 13 (ix (s11.1 29)) (s.2 11 (ix (s.2 1 (ix a0)))) = s13
        intro hr
        replace hr := (bnd_eq _ _).symm.trans hr
        refine Ev.aloadN (d25 69 rfl) rfl ?_
        refine Ev.gAr V (ww hw 39 rfl) (d25 70 rfl) (j := 14) rfl ?_
        refine Ev.aloadN (d25 71 rfl) rfl ?_
        refine Ev.gI V (ww hw 162 rfl) (d25 72 rfl) (j := 29) rfl rfl ?_
        refine Ev.lload (d25 73 rfl) rfl ?_
        refine Ev.l2i (d25 74 rfl) ?_
        obtain ⟨b14, hr⟩ := grd_some hr
        refine Ev.ias V (j := 14) rfl rfl (d25 75 rfl) b14 ?_
        revert hr
        generalize setA s13 14 (ix (s13.1 29)) (q4).toInt32 = s15
        intro hr
        replace hr := (bnd_eq _ _).symm.trans hr
        refine Ev.aloadN (d25 76 rfl) rfl ?_
        refine Ev.gAr V (ww hw 41 rfl) (d25 77 rfl) (j := 15) rfl ?_
        refine Ev.aloadN (d25 78 rfl) rfl ?_
        refine Ev.gI V (ww hw 162 rfl) (d25 79 rfl) (j := 29) rfl rfl ?_
        refine Ev.iconst (z := 0) (d25 80 rfl) rfl ?_
        obtain ⟨b16, hr⟩ := grd_some hr
        refine Ev.ias V (j := 15) rfl rfl (d25 81 rfl) b16 ?_
        revert hr
        generalize setA s15 15 (ix (s15.1 29)) (0 : Int32) = s17
        intro hr
        replace hr := (bnd_eq _ _).symm.trans hr
        refine Ev.aloadN (d25 82 rfl) rfl ?_
        refine Ev.gAr V (ww hw 43 rfl) (d25 83 rfl) (j := 16) rfl ?_
        refine Ev.aloadN (d25 84 rfl) rfl ?_
        refine Ev.gI V (ww hw 162 rfl) (d25 85 rfl) (j := 29) rfl rfl ?_
        refine Ev.iconst (z := 0) (d25 86 rfl) rfl ?_
        obtain ⟨b18, hr⟩ := grd_some hr
        refine Ev.ias V (j := 16) rfl rfl (d25 87 rfl) b18 ?_
        revert hr
        generalize setA s17 16 (ix (s17.1 29)) (0 : Int32) = s19
        intro hr
        replace hr := (bnd_eq _ _).symm.trans hr
        refine Ev.aloadN (d25 88 rfl) rfl ?_
        refine Ev.dup (d25 89 rfl) rfl ?_
        refine Ev.gI V (ww hw 162 rfl) (d25 90 rfl) (j := 29) rfl rfl ?_
        refine Ev.iconst (z := 1) (d25 91 rfl) rfl ?_
        refine Ev.iadd (d25 92 rfl) ?_
        refine Ev.pI V (gok hw) (ww hw 162 rfl) (Or.inl (ww hw 163 rfl)) (d25 93 rfl) (j := 29) rfl ?_
        revert hr
        generalize setI s19 29 ((s19.1 29) + (1 : Int32)) = s20
        intro hr
        replace hr := (bnd_eq _ _).symm.trans hr
        refine Ev.aloadN (d25 94 rfl) rfl ?_
        refine Ev.iloadN (d25 95 rfl) rfl ?_
        obtain ⟨q21, hq22, hr⟩ := Option.bind_eq_some_iff.mp hr
        refine Ev.priv (y := M_decideGuards) (args := [.int a0]) (rest := []) (gok hw) rfl nm_decideGuards (ww hw 179 rfl) (ww hw 180 rfl) (ww hw 181 rfl) (ww hw 182 rfl) (lenOf pd_decideGuards rfl) (d25 96 rfl) (V.2.1 s20) (e_decideGuards hw V hq22) (by decide) (Nat.le_of_ble_eq_true rfl) rfl ?_
        refine Ev.aloadN (d25 97 rfl) rfl ?_
        refine Ev.gAr V (ww hw 33 rfl) (d25 98 rfl) (j := 11) rfl ?_
        refine Ev.iloadN (d25 99 rfl) rfl ?_
        refine Ev.iloadN (d25 100 rfl) rfl ?_
        refine Ev.ias V (j := 11) rfl rfl (d25 101 rfl) b2 ?_
        revert hr
        generalize setA q21 11 (ix (s.2 1 (ix a0))) (s.2 11 (ix (s.2 1 (ix a0)))) = s23
        intro hr
        replace hr := (bnd_eq _ _).symm.trans hr
        refine Ev.aloadN (d25 102 rfl) rfl ?_
        refine Ev.iloadN (d25 103 rfl) rfl ?_
        refine Ev.iconst (z := 1) (d25 104 rfl) rfl ?_
        refine Ev.iadd (d25 105 rfl) ?_
        refine Ev.pI V (gok hw) (ww hw 160 rfl) (Or.inl (ww hw 161 rfl)) (d25 106 rfl) (j := 28) rfl ?_
        revert hr
        generalize setI s23 28 (a0 + (1 : Int32)) = s24
        intro hr
        replace hr := (bnd_eq _ _).symm.trans hr
        cases hr
        exact Ev.vreturn rfl (d25 107 rfl)
      · replace hr := (if_neg c9).symm.trans hr
        exact e_enterLoop_72 hw V  a0 (s.2 1 (ix a0)) (s.2 11 (ix (s.2 1 (ix a0)))) s (.val (.int (s.2 11 (ix (s.2 2 (ix a0)))))) rfl (.val (.long q4)) .second (Or.inr ⟨_, rfl, rfl⟩) _ hr
    · replace hr := (if_neg c8).symm.trans hr
      exact e_enterLoop_72 hw V  a0 (s.2 1 (ix a0)) (s.2 11 (ix (s.2 1 (ix a0)))) s (.val (.int (s.2 11 (ix (s.2 2 (ix a0)))))) rfl (.val (.long q4)) .second (Or.inr ⟨_, rfl, rfl⟩) _ hr
def f_endIteration_16 (x1 : Int32) (s : St) : Option (St) :=
  bnd (setI s 28 (x1 + (1 : Int32))) fun s1 =>
  some s1
set_option maxRecDepth 100000 in
theorem e_endIteration_16 {g : GT} (hw : HW g) {K : St → MHeap} {o : Nat} {r : Nat → Nat} (V : View (GG g) Ln K o r) (x1 : Int32) (s : St) (y2 : Slot) (hy2 : one1 y2 = true) (y3 : Slot) (hy3 : one1 y3 = true) (y4 : Slot) (hy4 : one1 y4 = true) (y5 : Slot) (hy5 : one1 y5 = true) (y6 : Slot) (hy6 : one1 y6 = true) (y7 : Slot) (hy7 : one1 y7 = true) (y8 : Slot) (hy8 : one1 y8 = true) (w : St) (hr : f_endIteration_16 x1 s = some w) : Ev (GG g) M_endIteration 16 [.val (.ref o), .val (.int x1), y2, y3, y4, y5, y6, y7, y8] [] (K s) (none, (K w)) := by
  unfold f_endIteration_16 at hr
  refine Ev.aloadN (d31 10 rfl) rfl ?_
  refine Ev.iloadN (d31 11 rfl) rfl ?_
  refine Ev.iconst (z := 1) (d31 12 rfl) rfl ?_
  refine Ev.iadd (d31 13 rfl) ?_
  refine Ev.pI V (gok hw) (ww hw 160 rfl) (Or.inl (ww hw 161 rfl)) (d31 14 rfl) (j := 28) rfl ?_
  revert hr
  generalize setI s 28 (x1 + (1 : Int32)) = s1
  intro hr
  replace hr := (bnd_eq _ _).symm.trans hr
  cases hr
  exact Ev.vreturn rfl (d31 15 rfl)
def f_endIteration_64 (x1 : Int32) (x2 : Int32) (x3 : Int32) (x4 : Int32) (x5 : Int32) (s : St) : Option (St) :=
  grd (inb x2 2) <|
  bnd (setA s 16 (ix x2) x4) fun s2 =>
  bnd (setA s2 15 (ix x2) x5) fun s3 =>
  grd (inb x3 24) <|
  if ((x5 * (s3.1 27)) + x4) < (s3.2 14 (ix x2)) then
    grd (inb (s3.2 1 (ix x3)) 8) <|
    bnd (setA s3 11 (ix (s3.2 1 (ix x3))) ((s3.2 13 (ix x2)) + (((x5 * (s3.1 27)) + x4) * (s3.2 3 (ix x3))))) fun s7 =>
    bnd (setI s7 28 (x3 + (1 : Int32))) fun s8 =>
    some s8
  else
    grd (inb (s3.2 1 (ix x3)) 8) <|
    bnd (setA s3 11 (ix (s3.2 1 (ix x3))) ((s3.2 13 (ix x2)) + ((s3.2 14 (ix x2)) * (s3.2 3 (ix x3))))) fun s10 =>
    bnd (setI s10 29 x2) fun s11 =>
    bnd (setI s11 28 (x1 + (1 : Int32))) fun s12 =>
    some s12
set_option maxRecDepth 100000 in
theorem e_endIteration_64 {g : GT} (hw : HW g) {K : St → MHeap} {o : Nat} {r : Nat → Nat} (V : View (GG g) Ln K o r) (x1 : Int32) (x2 : Int32) (x3 : Int32) (x4 : Int32) (x5 : Int32) (s : St) (y6 : Slot) (hy6 : one1 y6 = true) (y7 : Slot) (hy7 : one1 y7 = true) (y8 : Slot) (hy8 : one1 y8 = true) (w : St) (hr : f_endIteration_64 x1 x2 x3 x4 x5 s = some w) : Ev (GG g) M_endIteration 64 [.val (.ref o), .val (.int x1), .val (.int x2), .val (.int x3), .val (.int x4), .val (.int x5), y6, y7, y8] [] (K s) (none, (K w)) := by
  unfold f_endIteration_64 at hr
  refine Ev.aloadN (d31 40 rfl) rfl ?_
  refine Ev.gAr V (ww hw 43 rfl) (d31 41 rfl) (j := 16) rfl ?_
  refine Ev.iloadN (d31 42 rfl) rfl ?_
  refine Ev.iload (d31 43 rfl) rfl ?_
  obtain ⟨b1, hr⟩ := grd_some hr
  refine Ev.ias V (j := 16) rfl rfl (d31 44 rfl) b1 ?_
  revert hr
  generalize setA s 16 (ix x2) x4 = s2
  intro hr
  replace hr := (bnd_eq _ _).symm.trans hr
  refine Ev.aloadN (d31 45 rfl) rfl ?_
  refine Ev.gAr V (ww hw 41 rfl) (d31 46 rfl) (j := 15) rfl ?_
  refine Ev.iloadN (d31 47 rfl) rfl ?_
  refine Ev.iload (d31 48 rfl) rfl ?_
  refine Ev.ias V (j := 15) rfl rfl (d31 49 rfl) b1 ?_
  revert hr
  generalize setA s2 15 (ix x2) x5 = s3
  intro hr
  replace hr := (bnd_eq _ _).symm.trans hr
  refine Ev.iload (d31 50 rfl) rfl ?_
  refine Ev.aloadN (d31 51 rfl) rfl ?_
  refine Ev.gI V (ww hw 142 rfl) (d31 52 rfl) (j := 27) rfl rfl ?_
  refine Ev.imul (d31 53 rfl) ?_
  refine Ev.iload (d31 54 rfl) rfl ?_
  refine Ev.iadd (d31 55 rfl) ?_
  refine Ev.istD (L' := [.val (.ref o), .val (.int x1), .val (.int x2), .val (.int x3), .val (.int x4), .val (.int x5), .val (.int ((x5 * (s3.1 27)) + x4)), y7, y8]) (d31 56 rfl) rfl hy6 rfl ?_
  refine Ev.aloadN (d31 57 rfl) rfl ?_
  refine Ev.gAr V (ww hw 12 rfl) (d31 58 rfl) (j := 1) rfl ?_
  refine Ev.iloadN (d31 59 rfl) rfl ?_
  obtain ⟨b4, hr⟩ := grd_some hr
  refine Ev.ial V (j := 1) rfl rfl (d31 60 rfl) b4 ?_
  refine Ev.istD (L' := [.val (.ref o), .val (.int x1), .val (.int x2), .val (.int x3), .val (.int x4), .val (.int x5), .val (.int ((x5 * (s3.1 27)) + x4)), .val (.int (s3.2 1 (ix x3))), y8]) (d31 61 rfl) rfl hy7 rfl ?_
  refine Ev.aloadN (d31 62 rfl) rfl ?_
  refine Ev.gAr V (ww hw 16 rfl) (d31 63 rfl) (j := 3) rfl ?_
  refine Ev.iloadN (d31 64 rfl) rfl ?_
  refine Ev.ial V (j := 3) rfl rfl (d31 65 rfl) b4 ?_
  refine Ev.istD (L' := [.val (.ref o), .val (.int x1), .val (.int x2), .val (.int x3), .val (.int x4), .val (.int x5), .val (.int ((x5 * (s3.1 27)) + x4)), .val (.int (s3.2 1 (ix x3))), .val (.int (s3.2 3 (ix x3)))]) (d31 66 rfl) rfl hy8 rfl ?_
  refine Ev.iload (d31 67 rfl) rfl ?_
  refine Ev.aloadN (d31 68 rfl) rfl ?_
  refine Ev.gAr V (ww hw 39 rfl) (d31 69 rfl) (j := 14) rfl ?_
  refine Ev.iloadN (d31 70 rfl) rfl ?_
  refine Ev.ial V (j := 14) rfl rfl (d31 71 rfl) b1 ?_
  refine Ev.icge (t := 146) (d31 72 rfl) rfl (fun c5 => ?_) (fun c5 => ?_)
  · replace hr := (if_pos c5).symm.trans hr
    refine Ev.aloadN (d31 73 rfl) rfl ?_
    refine Ev.gAr V (ww hw 33 rfl) (d31 74 rfl) (j := 11) rfl ?_
    refine Ev.iload (d31 75 rfl) rfl ?_
    refine Ev.aloadN (d31 76 rfl) rfl ?_
    refine Ev.gAr V (ww hw 37 rfl) (d31 77 rfl) (j := 13) rfl ?_
    refine Ev.iloadN (d31 78 rfl) rfl ?_
    refine Ev.ial V (j := 13) rfl rfl (d31 79 rfl) b1 ?_
    refine Ev.iload (d31 80 rfl) rfl ?_
    refine Ev.iload (d31 81 rfl) rfl ?_
    refine Ev.imul (d31 82 rfl) ?_
    refine Ev.iadd (d31 83 rfl) ?_
    obtain ⟨b6, hr⟩ := grd_some hr
    refine Ev.ias V (j := 11) rfl rfl (d31 84 rfl) b6 ?_
    revert hr
    generalize setA s3 11 (ix (s3.2 1 (ix x3))) ((s3.2 13 (ix x2)) + (((x5 * (s3.1 27)) + x4) * (s3.2 3 (ix x3)))) = s7
    intro hr
    replace hr := (bnd_eq _ _).symm.trans hr
    refine Ev.aloadN (d31 85 rfl) rfl ?_
    refine Ev.iloadN (d31 86 rfl) rfl ?_
    refine Ev.iconst (z := 1) (d31 87 rfl) rfl ?_
    refine Ev.iadd (d31 88 rfl) ?_
    refine Ev.pI V (gok hw) (ww hw 160 rfl) (Or.inl (ww hw 161 rfl)) (d31 89 rfl) (j := 28) rfl ?_
    revert hr
    generalize setI s7 28 (x3 + (1 : Int32)) = s8
    intro hr
    replace hr := (bnd_eq _ _).symm.trans hr
    cases hr
    exact Ev.vreturn rfl (d31 90 rfl)
  · replace hr := (if_neg c5).symm.trans hr
    refine Ev.aloadN (d31 91 rfl) rfl ?_
    refine Ev.gAr V (ww hw 33 rfl) (d31 92 rfl) (j := 11) rfl ?_
    refine Ev.iload (d31 93 rfl) rfl ?_
    refine Ev.aloadN (d31 94 rfl) rfl ?_
    refine Ev.gAr V (ww hw 37 rfl) (d31 95 rfl) (j := 13) rfl ?_
    refine Ev.iloadN (d31 96 rfl) rfl ?_
    refine Ev.ial V (j := 13) rfl rfl (d31 97 rfl) b1 ?_
    refine Ev.aloadN (d31 98 rfl) rfl ?_
    refine Ev.gAr V (ww hw 39 rfl) (d31 99 rfl) (j := 14) rfl ?_
    refine Ev.iloadN (d31 100 rfl) rfl ?_
    refine Ev.ial V (j := 14) rfl rfl (d31 101 rfl) b1 ?_
    refine Ev.iload (d31 102 rfl) rfl ?_
    refine Ev.imul (d31 103 rfl) ?_
    refine Ev.iadd (d31 104 rfl) ?_
    obtain ⟨b9, hr⟩ := grd_some hr
    refine Ev.ias V (j := 11) rfl rfl (d31 105 rfl) b9 ?_
    revert hr
    generalize setA s3 11 (ix (s3.2 1 (ix x3))) ((s3.2 13 (ix x2)) + ((s3.2 14 (ix x2)) * (s3.2 3 (ix x3)))) = s10
    intro hr
    replace hr := (bnd_eq _ _).symm.trans hr
    refine Ev.aloadN (d31 106 rfl) rfl ?_
    refine Ev.iloadN (d31 107 rfl) rfl ?_
    refine Ev.pI V (gok hw) (ww hw 162 rfl) (Or.inl (ww hw 163 rfl)) (d31 108 rfl) (j := 29) rfl ?_
    revert hr
    generalize setI s10 29 x2 = s11
    intro hr
    replace hr := (bnd_eq _ _).symm.trans hr
    refine Ev.aloadN (d31 109 rfl) rfl ?_
    refine Ev.iloadN (d31 110 rfl) rfl ?_
    refine Ev.iconst (z := 1) (d31 111 rfl) rfl ?_
    refine Ev.iadd (d31 112 rfl) ?_
    refine Ev.pI V (gok hw) (ww hw 160 rfl) (Or.inl (ww hw 161 rfl)) (d31 113 rfl) (j := 28) rfl ?_
    revert hr
    generalize setI s11 28 (x1 + (1 : Int32)) = s12
    intro hr
    replace hr := (bnd_eq _ _).symm.trans hr
    cases hr
    exact Ev.vreturn rfl (d31 114 rfl)
def f_endIteration (a0 : Int32) (s : St) : Option (St) :=
  if ((s.1 29) - (1 : Int32)) < 0 then
    f_endIteration_16 a0 s
  else
    if ((s.1 29) - (1 : Int32)) < (2 : Int32) then
      grd (inb ((s.1 29) - (1 : Int32)) 2) <|
      bnd ((s.2 16 (ix ((s.1 29) - (1 : Int32)))) + (1 : Int32)) fun v4 =>
      if v4 < (s.1 27) then
        f_endIteration_64 a0 ((s.1 29) - (1 : Int32)) (s.2 12 (ix ((s.1 29) - (1 : Int32)))) v4 (s.2 15 (ix ((s.1 29) - (1 : Int32)))) s
      else
        f_endIteration_64 a0 ((s.1 29) - (1 : Int32)) (s.2 12 (ix ((s.1 29) - (1 : Int32)))) (0 : Int32) ((s.2 15 (ix ((s.1 29) - (1 : Int32)))) + (1 : Int32)) s
    else
      f_endIteration_16 a0 s
set_option maxRecDepth 100000 in
theorem e_endIteration {g : GT} {a0 : Int32} {s : St} {w : St} (hw : HW g) {K : St → MHeap} {o : Nat} {r : Nat → Nat} (V : View (GG g) Ln K o r) (hr : f_endIteration a0 s = some w) : EvC (GG g) M_endIteration [.ref o, .int a0] (K s) (none, (K w)) := by
  refine EvC.enter (L0 := [.val (.ref o), .val (.int a0), .unset, .unset, .unset, .unset, .unset, .unset, .unset]) pl_endIteration (fun _ => rfl) rfl rfl ?_
  unfold f_endIteration at hr
  refine Ev.aloadN (d31 0 rfl) rfl ?_
  refine Ev.gI V (ww hw 162 rfl) (d31 1 rfl) (j := 29) rfl rfl ?_
  refine Ev.iconst (z := 1) (d31 2 rfl) rfl ?_
  refine Ev.isub (d31 3 rfl) ?_
  refine Ev.istDN (L' := [.val (.ref o), .val (.int a0), .val (.int ((s.1 29) - (1 : Int32))), .unset, .unset, .unset, .unset, .unset, .unset]) (d31 4 rfl) rfl rfl rfl ?_
  refine Ev.iloadN (d31 5 rfl) rfl ?_
  refine Ev.iflt (t := 16) (d31 6 rfl) rfl (fun c1 => ?_) (fun c1 => ?_)
  · replace hr := (if_pos c1).symm.trans hr
    exact e_endIteration_16 hw V  a0 s (.val (.int ((s.1 29) - (1 : Int32)))) rfl .unset rfl .unset rfl .unset rfl .unset rfl .unset rfl .unset rfl _ hr
  · replace hr := (if_neg c1).symm.trans hr
    refine Ev.iloadN (d31 7 rfl) rfl ?_
    refine Ev.iconst (z := 2) (d31 8 rfl) rfl ?_
    refine Ev.iclt (t := 24) (d31 9 rfl) rfl (fun c2 => ?_) (fun c2 => ?_)
    · replace hr := (if_pos c2).symm.trans hr
      refine Ev.aloadN (d31 16 rfl) rfl ?_
      refine Ev.gAr V (ww hw 35 rfl) (d31 17 rfl) (j := 12) rfl ?_
      refine Ev.iloadN (d31 18 rfl) rfl ?_
      obtain ⟨b3, hr⟩ := grd_some hr
      refine Ev.ial V (j := 12) rfl rfl (d31 19 rfl) b3 ?_
      refine Ev.istDN (L' := [.val (.ref o), .val (.int a0), .val (.int ((s.1 29) - (1 : Int32))), .val (.int (s.2 12 (ix ((s.1 29) - (1 : Int32))))), .unset, .unset, .unset, .unset, .unset]) (d31 20 rfl) rfl rfl rfl ?_
      refine Ev.aloadN (d31 21 rfl) rfl ?_
      refine Ev.gAr V (ww hw 43 rfl) (d31 22 rfl) (j := 16) rfl ?_
      refine Ev.iloadN (d31 23 rfl) rfl ?_
      refine Ev.ial V (j := 16) rfl rfl (d31 24 rfl) b3 ?_
      refine Ev.iconst (z := 1) (d31 25 rfl) rfl ?_
      refine Ev.iadd (d31 26 rfl) ?_
      revert hr
      generalize ((s.2 16 (ix ((s.1 29) - (1 : Int32)))) + (1 : Int32)) = v4
      intro hr
      replace hr := (bnd_eq _ _).symm.trans hr
      refine Ev.istD (L' := [.val (.ref o), .val (.int a0), .val (.int ((s.1 29) - (1 : Int32))), .val (.int (s.2 12 (ix ((s.1 29) - (1 : Int32))))), .val (.int v4), .unset, .unset, .unset, .unset]) (d31 27 rfl) rfl rfl rfl ?_
      refine Ev.aloadN (d31 28 rfl) rfl ?_
      refine Ev.gAr V (ww hw 41 rfl) (d31 29 rfl) (j := 15) rfl ?_
      refine Ev.iloadN (d31 30 rfl) rfl ?_
      refine Ev.ial V (j := 15) rfl rfl (d31 31 rfl) b3 ?_
      refine Ev.istD (L' := [.val (.ref o), .val (.int a0), .val (.int ((s.1 29) - (1 : Int32))), .val (.int (s.2 12 (ix ((s.1 29) - (1 : Int32))))), .val (.int v4), .val (.int (s.2 15 (ix ((s.1 29) - (1 : Int32))))), .unset, .unset, .unset]) (d31 32 rfl) rfl rfl rfl ?_
      refine Ev.iload (d31 33 rfl) rfl ?_
      refine Ev.aloadN (d31 34 rfl) rfl ?_
      refine Ev.gI V (ww hw 142 rfl) (d31 35 rfl) (j := 27) rfl rfl ?_
      refine Ev.iclt (t := 64) (d31 36 rfl) rfl (fun c5 => ?_) (fun c5 => ?_)
      · replace hr := (if_pos c5).symm.trans hr
        exact e_endIteration_64 hw V  a0 ((s.1 29) - (1 : Int32)) (s.2 12 (ix ((s.1 29) - (1 : Int32)))) v4 (s.2 15 (ix ((s.1 29) - (1 : Int32)))) s .unset rfl .unset rfl .unset rfl _ hr
      · replace hr := (if_neg c5).symm.trans hr
        refine Ev.iconst (z := 0) (d31 37 rfl) rfl ?_
        refine Ev.istD (L' := [.val (.ref o), .val (.int a0), .val (.int ((s.1 29) - (1 : Int32))), .val (.int (s.2 12 (ix ((s.1 29) - (1 : Int32))))), .val (.int (0 : Int32)), .val (.int (s.2 15 (ix ((s.1 29) - (1 : Int32))))), .unset, .unset, .unset]) (d31 38 rfl) rfl rfl rfl ?_
        refine Ev.iinc (z := 1) (L' := [.val (.ref o), .val (.int a0), .val (.int ((s.1 29) - (1 : Int32))), .val (.int (s.2 12 (ix ((s.1 29) - (1 : Int32))))), .val (.int (0 : Int32)), .val (.int ((s.2 15 (ix ((s.1 29) - (1 : Int32)))) + (1 : Int32))), .unset, .unset, .unset]) (d31 39 rfl) rfl rfl rfl ?_
        exact e_endIteration_64 hw V  a0 ((s.1 29) - (1 : Int32)) (s.2 12 (ix ((s.1 29) - (1 : Int32)))) (0 : Int32) ((s.2 15 (ix ((s.1 29) - (1 : Int32)))) + (1 : Int32)) s .unset rfl .unset rfl .unset rfl _ hr
    · replace hr := (if_neg c2).symm.trans hr
      exact e_endIteration_16 hw V  a0 s (.val (.int ((s.1 29) - (1 : Int32)))) rfl .unset rfl .unset rfl .unset rfl .unset rfl .unset rfl .unset rfl _ hr
def f_branch_67 (z0 : Int32) (s : St) : Option (St) :=
  bnd (setI s 28 z0) fun s1 =>
  some s1
set_option maxRecDepth 100000 in
theorem e_branch_67 {g : GT} (hw : HW g) {K : St → MHeap} {o : Nat} {r : Nat → Nat} (V : View (GG g) Ln K o r) (z0 : Int32) (s : St) (y0 : Slot) (hy0 : one1 y0 = true) (y1 : Slot) (hy1 : one1 y1 = true) (y2 : Slot) (hy2 : one1 y2 = true) (w : St) (hr : f_branch_67 z0 s = some w) : Ev (GG g) M_branch 67 [y0, y1, y2] [.int z0, .ref o] (K s) (none, (K w)) := by
  unfold f_branch_67 at hr
  refine Ev.pI V (gok hw) (ww hw 160 rfl) (Or.inl (ww hw 161 rfl)) (d28 41 rfl) (j := 28) rfl ?_
  revert hr
  generalize setI s 28 z0 = s1
  intro hr
  replace hr := (bnd_eq _ _).symm.trans hr
  cases hr
  exact Ev.vreturn rfl (d28 42 rfl)
def f_branch_48 (x1 : Int32) (x2 : Int32) (s : St) : Option (St) :=
  if x2 = 0 then
    grd (inb x1 24) <|
    f_branch_67 ((s.2 4 (ix x1)) + (1 : Int32)) s
  else
    f_branch_67 (x1 + (1 : Int32)) s
set_option maxRecDepth 100000 in
theorem e_branch_48 {g : GT} (hw : HW g) {K : St → MHeap} {o : Nat} {r : Nat → Nat} (V : View (GG g) Ln K o r) (x1 : Int32) (x2 : Int32) (s : St) (w : St) (hr : f_branch_48 x1 x2 s = some w) : Ev (GG g) M_branch 48 [.val (.ref o), .val (.int x1), .val (.int x2)] [] (K s) (none, (K w)) := by
  unfold f_branch_48 at hr
  refine Ev.aloadN (d28 28 rfl) rfl ?_
  refine Ev.iloadN (d28 29 rfl) rfl ?_
  refine Ev.ifeq (t := 59) (d28 30 rfl) rfl (fun c1 => ?_) (fun c1 => ?_)
  · replace hr := (if_pos c1).symm.trans hr
    refine Ev.aloadN (d28 35 rfl) rfl ?_
    refine Ev.gAr V (ww hw 18 rfl) (d28 36 rfl) (j := 4) rfl ?_
    refine Ev.iloadN (d28 37 rfl) rfl ?_
    obtain ⟨b2, hr⟩ := grd_some hr
    refine Ev.ial V (j := 4) rfl rfl (d28 38 rfl) b2 ?_
    refine Ev.iconst (z := 1) (d28 39 rfl) rfl ?_
    refine Ev.iadd (d28 40 rfl) ?_
    exact e_branch_67 hw V  ((s.2 4 (ix x1)) + (1 : Int32)) s (.val (.ref o)) rfl (.val (.int x1)) rfl (.val (.int x2)) rfl _ hr
  · replace hr := (if_neg c1).symm.trans hr
    refine Ev.iloadN (d28 31 rfl) rfl ?_
    refine Ev.iconst (z := 1) (d28 32 rfl) rfl ?_
    refine Ev.iadd (d28 33 rfl) ?_
    refine Ev.goto (t := 67) (d28 34 rfl) rfl ?_
    exact e_branch_67 hw V  (x1 + (1 : Int32)) s (.val (.ref o)) rfl (.val (.int x1)) rfl (.val (.int x2)) rfl _ hr
def f_branch_47 (x1 : Int32) (z0 : Int32) (s : St) : Option (St) :=
  f_branch_48 x1 z0 s
set_option maxRecDepth 100000 in
theorem e_branch_47 {g : GT} (hw : HW g) {K : St → MHeap} {o : Nat} {r : Nat → Nat} (V : View (GG g) Ln K o r) (x1 : Int32) (z0 : Int32) (s : St) (y2 : Slot) (hy2 : one1 y2 = true) (w : St) (hr : f_branch_47 x1 z0 s = some w) : Ev (GG g) M_branch 47 [.val (.ref o), .val (.int x1), y2] [.int z0] (K s) (none, (K w)) := by
  unfold f_branch_47 at hr
  refine Ev.istDN (L' := [.val (.ref o), .val (.int x1), .val (.int z0)]) (d28 27 rfl) rfl hy2 rfl ?_
  exact e_branch_48 hw V  x1 z0 s  _ hr
def f_branch_28 (x1 : Int32) (s : St) : Option (St) :=
  grd (inb x1 24) <|
  grd (inb (s.2 1 (ix x1)) 8) <|
  if (s.2 11 (ix (s.2 1 (ix x1)))) = 0 then
    f_branch_47 x1 (0 : Int32) s
  else
    f_branch_47 x1 (1 : Int32) s
set_option maxRecDepth 100000 in
theorem e_branch_28 {g : GT} (hw : HW g) {K : St → MHeap} {o : Nat} {r : Nat → Nat} (V : View (GG g) Ln K o r) (x1 : Int32) (s : St) (y2 : Slot) (hy2 : one1 y2 = true) (w : St) (hr : f_branch_28 x1 s = some w) : Ev (GG g) M_branch 28 [.val (.ref o), .val (.int x1), y2] [] (K s) (none, (K w)) := by
  unfold f_branch_28 at hr
  refine Ev.aloadN (d28 16 rfl) rfl ?_
  refine Ev.gAr V (ww hw 33 rfl) (d28 17 rfl) (j := 11) rfl ?_
  refine Ev.aloadN (d28 18 rfl) rfl ?_
  refine Ev.gAr V (ww hw 12 rfl) (d28 19 rfl) (j := 1) rfl ?_
  refine Ev.iloadN (d28 20 rfl) rfl ?_
  obtain ⟨b1, hr⟩ := grd_some hr
  refine Ev.ial V (j := 1) rfl rfl (d28 21 rfl) b1 ?_
  obtain ⟨b2, hr⟩ := grd_some hr
  refine Ev.ial V (j := 11) rfl rfl (d28 22 rfl) b2 ?_
  refine Ev.ifeq (t := 46) (d28 23 rfl) rfl (fun c3 => ?_) (fun c3 => ?_)
  · replace hr := (if_pos c3).symm.trans hr
    refine Ev.iconst (z := 0) (d28 26 rfl) rfl ?_
    exact e_branch_47 hw V  x1 (0 : Int32) s y2 hy2 _ hr
  · replace hr := (if_neg c3).symm.trans hr
    refine Ev.iconst (z := 1) (d28 24 rfl) rfl ?_
    refine Ev.goto (t := 47) (d28 25 rfl) rfl ?_
    exact e_branch_47 hw V  x1 (1 : Int32) s y2 hy2 _ hr
def f_branch (a0 : Int32) (s : St) : Option (St) :=
  grd (inb a0 24) <|
  if (s.2 17 (ix a0)) = 0 then
    f_branch_28 a0 s
  else
    if (s.2 19 (ix a0)) = 0 then
      f_branch_28 a0 s
    else
      f_branch_48 a0 (s.2 20 (ix a0)) s
set_option maxRecDepth 100000 in
theorem e_branch {g : GT} {a0 : Int32} {s : St} {w : St} (hw : HW g) {K : St → MHeap} {o : Nat} {r : Nat → Nat} (V : View (GG g) Ln K o r) (hr : f_branch a0 s = some w) : EvC (GG g) M_branch [.ref o, .int a0] (K s) (none, (K w)) := by
  refine EvC.enter (L0 := [.val (.ref o), .val (.int a0), .unset]) pl_branch (fun _ => rfl) rfl rfl ?_
  unfold f_branch at hr
  refine Ev.aloadN (d28 0 rfl) rfl ?_
  refine Ev.gAr V (ww hw 45 rfl) (d28 1 rfl) (j := 17) rfl ?_
  refine Ev.iloadN (d28 2 rfl) rfl ?_
  obtain ⟨b1, hr⟩ := grd_some hr
  refine Ev.bal V (j := 17) rfl rfl (d28 3 rfl) b1 ?_
  refine Ev.ifeq (t := 28) (d28 4 rfl) rfl (fun c2 => ?_) (fun c2 => ?_)
  · replace hr := (if_pos c2).symm.trans hr
    exact e_branch_28 hw V  a0 s .unset rfl _ hr
  · replace hr := (if_neg c2).symm.trans hr
    refine Ev.aloadN (d28 5 rfl) rfl ?_
    refine Ev.gAr V (ww hw 49 rfl) (d28 6 rfl) (j := 19) rfl ?_
    refine Ev.iloadN (d28 7 rfl) rfl ?_
    refine Ev.bal V (j := 19) rfl rfl (d28 8 rfl) b1 ?_
    refine Ev.ifeq (t := 28) (d28 9 rfl) rfl (fun c3 => ?_) (fun c3 => ?_)
    · replace hr := (if_pos c3).symm.trans hr
      exact e_branch_28 hw V  a0 s .unset rfl _ hr
    · replace hr := (if_neg c3).symm.trans hr
      refine Ev.aloadN (d28 10 rfl) rfl ?_
      refine Ev.gAr V (ww hw 51 rfl) (d28 11 rfl) (j := 20) rfl ?_
      refine Ev.iloadN (d28 12 rfl) rfl ?_
      refine Ev.bal V (j := 20) rfl rfl (d28 13 rfl) b1 ?_
      refine Ev.istDN (L' := [.val (.ref o), .val (.int a0), .val (.int (s.2 20 (ix a0)))]) (d28 14 rfl) rfl rfl rfl ?_
      refine Ev.goto (t := 48) (d28 15 rfl) rfl ?_
      exact e_branch_48 hw V  a0 (s.2 20 (ix a0)) s  _ hr
def f_executeAt_46 (n : Nat) (x1 : Int32) (x2 : Int32) (s : St) : Option (St) :=
  if x2 = (9 : Int32) then
    grd (inb x1 24) <|
    grd (inb (s.2 1 (ix x1)) 8) <|
    (f_appendOutput (s.2 11 (ix (s.2 1 (ix x1)))) s).bind fun q4 =>
    bnd (setI q4 28 (x1 + (1 : Int32))) fun s6 =>
    some s6
  else
    if x2 = (10 : Int32) then
      (f_enterLoop n x1 s).bind fun q8 =>
      some q8
    else
      if x2 = (11 : Int32) then
        (f_endIteration x1 s).bind fun q11 =>
        some q11
      else
        if x2 = (12 : Int32) then
          (f_branch x1 s).bind fun q14 =>
          some q14
        else
          if x2 = (13 : Int32) then
            grd (inb x1 24) <|
            bnd (setI s 28 ((s.2 4 (ix x1)) + (1 : Int32))) fun s18 =>
            some s18
          else
            bnd (setI s 28 (x1 + (1 : Int32))) fun s19 =>
            some s19
set_option maxRecDepth 100000 in
theorem e_executeAt_46 {g : GT} {n : Nat} (hw : HW g) {K : St → MHeap} {o : Nat} {r : Nat → Nat} (V : View (GG g) Ln K o r) (x1 : Int32) (x2 : Int32) (s : St) (y3 : Slot) (hy3 : one1 y3 = true) (w : St) (hr : f_executeAt_46 n x1 x2 s = some w) : Ev (GG g) M_executeAt 46 [.val (.ref o), .val (.int x1), .val (.int x2), y3] [] (K s) (none, (K w)) := by
  unfold f_executeAt_46 at hr
  refine Ev.iloadN (d24 29 rfl) rfl ?_
  refine Ev.bipush (z := 9) (d24 30 rfl) rfl ?_
  refine Ev.icne (t := 77) (d24 31 rfl) rfl (fun c1 => ?_) (fun c1 => ?_)
  · replace hr := (if_pos c1).symm.trans hr
    refine Ev.aloadN (d24 32 rfl) rfl ?_
    refine Ev.aloadN (d24 33 rfl) rfl ?_
    refine Ev.gAr V (ww hw 33 rfl) (d24 34 rfl) (j := 11) rfl ?_
    refine Ev.aloadN (d24 35 rfl) rfl ?_
    refine Ev.gAr V (ww hw 12 rfl) (d24 36 rfl) (j := 1) rfl ?_
    refine Ev.iloadN (d24 37 rfl) rfl ?_
    obtain ⟨b2, hr⟩ := grd_some hr
    refine Ev.ial V (j := 1) rfl rfl (d24 38 rfl) b2 ?_
    obtain ⟨b3, hr⟩ := grd_some hr
    refine Ev.ial V (j := 11) rfl rfl (d24 39 rfl) b3 ?_
    obtain ⟨q4, hq5, hr⟩ := Option.bind_eq_some_iff.mp hr
    refine Ev.priv (y := M_appendOutput) (args := [.int (s.2 11 (ix (s.2 1 (ix x1))))]) (rest := []) (gok hw) rfl nm_appendOutput (ww hw 191 rfl) (ww hw 192 rfl) (ww hw 193 rfl) (ww hw 194 rfl) (lenOf pd_appendOutput rfl) (d24 40 rfl) (V.2.1 s) (e_appendOutput hw V hq5) (by decide) (Nat.le_of_ble_eq_true rfl) rfl ?_
    refine Ev.aloadN (d24 41 rfl) rfl ?_
    refine Ev.iloadN (d24 42 rfl) rfl ?_
    refine Ev.iconst (z := 1) (d24 43 rfl) rfl ?_
    refine Ev.iadd (d24 44 rfl) ?_
    refine Ev.pI V (gok hw) (ww hw 160 rfl) (Or.inl (ww hw 161 rfl)) (d24 45 rfl) (j := 28) rfl ?_
    revert hr
    generalize setI q4 28 (x1 + (1 : Int32)) = s6
    intro hr
    replace hr := (bnd_eq _ _).symm.trans hr
    refine Ev.goto (t := 147) (d24 46 rfl) rfl ?_
    cases hr
    exact Ev.vreturn rfl (d24 85 rfl)
  · replace hr := (if_neg c1).symm.trans hr
    refine Ev.iloadN (d24 47 rfl) rfl ?_
    refine Ev.bipush (z := 10) (d24 48 rfl) rfl ?_
    refine Ev.icne (t := 91) (d24 49 rfl) rfl (fun c7 => ?_) (fun c7 => ?_)
    · replace hr := (if_pos c7).symm.trans hr
      refine Ev.aloadN (d24 50 rfl) rfl ?_
      refine Ev.iloadN (d24 51 rfl) rfl ?_
      obtain ⟨q8, hq9, hr⟩ := Option.bind_eq_some_iff.mp hr
      refine Ev.priv (y := M_enterLoop) (args := [.int x1]) (rest := []) (gok hw) rfl nm_enterLoop (ww hw 170 rfl) (ww hw 171 rfl) (ww hw 172 rfl) (ww hw 173 rfl) (lenOf pd_enterLoop rfl) (d24 52 rfl) (V.2.1 s) (e_enterLoop hw V hq9) (by decide) (Nat.le_of_ble_eq_true rfl) rfl ?_
      refine Ev.goto (t := 147) (d24 53 rfl) rfl ?_
      cases hr
      exact Ev.vreturn rfl (d24 85 rfl)
    · replace hr := (if_neg c7).symm.trans hr
      refine Ev.iloadN (d24 54 rfl) rfl ?_
      refine Ev.bipush (z := 11) (d24 55 rfl) rfl ?_
      refine Ev.icne (t := 105) (d24 56 rfl) rfl (fun c10 => ?_) (fun c10 => ?_)
      · replace hr := (if_pos c10).symm.trans hr
        refine Ev.aloadN (d24 57 rfl) rfl ?_
        refine Ev.iloadN (d24 58 rfl) rfl ?_
        obtain ⟨q11, hq12, hr⟩ := Option.bind_eq_some_iff.mp hr
        refine Ev.priv (y := M_endIteration) (args := [.int x1]) (rest := []) (gok hw) rfl nm_endIteration (ww hw 195 rfl) (ww hw 196 rfl) (ww hw 197 rfl) (ww hw 198 rfl) (lenOf pd_endIteration rfl) (d24 59 rfl) (V.2.1 s) (e_endIteration hw V hq12) (by decide) (Nat.le_of_ble_eq_true rfl) rfl ?_
        refine Ev.goto (t := 147) (d24 60 rfl) rfl ?_
        cases hr
        exact Ev.vreturn rfl (d24 85 rfl)
      · replace hr := (if_neg c10).symm.trans hr
        refine Ev.iloadN (d24 61 rfl) rfl ?_
        refine Ev.bipush (z := 12) (d24 62 rfl) rfl ?_
        refine Ev.icne (t := 119) (d24 63 rfl) rfl (fun c13 => ?_) (fun c13 => ?_)
        · replace hr := (if_pos c13).symm.trans hr
          refine Ev.aloadN (d24 64 rfl) rfl ?_
          refine Ev.iloadN (d24 65 rfl) rfl ?_
          obtain ⟨q14, hq15, hr⟩ := Option.bind_eq_some_iff.mp hr
          refine Ev.priv (y := M_branch) (args := [.int x1]) (rest := []) (gok hw) rfl nm_branch (ww hw 183 rfl) (ww hw 184 rfl) (ww hw 185 rfl) (ww hw 186 rfl) (lenOf pd_branch rfl) (d24 66 rfl) (V.2.1 s) (e_branch hw V hq15) (by decide) (Nat.le_of_ble_eq_true rfl) rfl ?_
          refine Ev.goto (t := 147) (d24 67 rfl) rfl ?_
          cases hr
          exact Ev.vreturn rfl (d24 85 rfl)
        · replace hr := (if_neg c13).symm.trans hr
          refine Ev.iloadN (d24 68 rfl) rfl ?_
          refine Ev.bipush (z := 13) (d24 69 rfl) rfl ?_
          refine Ev.icne (t := 140) (d24 70 rfl) rfl (fun c16 => ?_) (fun c16 => ?_)
          · replace hr := (if_pos c16).symm.trans hr
            refine Ev.aloadN (d24 71 rfl) rfl ?_
            refine Ev.aloadN (d24 72 rfl) rfl ?_
            refine Ev.gAr V (ww hw 18 rfl) (d24 73 rfl) (j := 4) rfl ?_
            refine Ev.iloadN (d24 74 rfl) rfl ?_
            obtain ⟨b17, hr⟩ := grd_some hr
            refine Ev.ial V (j := 4) rfl rfl (d24 75 rfl) b17 ?_
            refine Ev.iconst (z := 1) (d24 76 rfl) rfl ?_
            refine Ev.iadd (d24 77 rfl) ?_
            refine Ev.pI V (gok hw) (ww hw 160 rfl) (Or.inl (ww hw 161 rfl)) (d24 78 rfl) (j := 28) rfl ?_
            revert hr
            generalize setI s 28 ((s.2 4 (ix x1)) + (1 : Int32)) = s18
            intro hr
            replace hr := (bnd_eq _ _).symm.trans hr
            refine Ev.goto (t := 147) (d24 79 rfl) rfl ?_
            cases hr
            exact Ev.vreturn rfl (d24 85 rfl)
          · replace hr := (if_neg c16).symm.trans hr
            refine Ev.aloadN (d24 80 rfl) rfl ?_
            refine Ev.iloadN (d24 81 rfl) rfl ?_
            refine Ev.iconst (z := 1) (d24 82 rfl) rfl ?_
            refine Ev.iadd (d24 83 rfl) ?_
            refine Ev.pI V (gok hw) (ww hw 160 rfl) (Or.inl (ww hw 161 rfl)) (d24 84 rfl) (j := 28) rfl ?_
            revert hr
            generalize setI s 28 (x1 + (1 : Int32)) = s19
            intro hr
            replace hr := (bnd_eq _ _).symm.trans hr
            cases hr
            exact Ev.vreturn rfl (d24 85 rfl)
def f_executeAt (n : Nat) (a0 : Int32) (s : St) : Option (St) :=
  grd (inb a0 24) <|
  if (s.2 0 (ix a0)) < (1 : Int32) then
    f_executeAt_46 n a0 (s.2 0 (ix a0)) s
  else
    if (8 : Int32) < (s.2 0 (ix a0)) then
      f_executeAt_46 n a0 (s.2 0 (ix a0)) s
    else
      (f_arith s a0).bind fun q4 =>
      grd (inb (s.2 1 (ix a0)) 8) <|
      bnd (setA s 11 (ix (s.2 1 (ix a0))) q4) fun s7 =>
      bnd (setI s7 28 (a0 + (1 : Int32))) fun s8 =>
      some s8
set_option maxRecDepth 100000 in
theorem e_executeAt {g : GT} {n : Nat} {a0 : Int32} {s : St} {w : St} (hw : HW g) {K : St → MHeap} {o : Nat} {r : Nat → Nat} (V : View (GG g) Ln K o r) (hr : f_executeAt n a0 s = some w) : EvC (GG g) M_executeAt [.ref o, .int a0] (K s) (none, (K w)) := by
  refine EvC.enter (L0 := [.val (.ref o), .val (.int a0), .unset, .unset]) pl_executeAt (fun _ => rfl) rfl rfl ?_
  unfold f_executeAt at hr
  refine Ev.aloadN (d24 0 rfl) rfl ?_
  refine Ev.gAr V (ww hw 10 rfl) (d24 1 rfl) (j := 0) rfl ?_
  refine Ev.iloadN (d24 2 rfl) rfl ?_
  obtain ⟨b1, hr⟩ := grd_some hr
  refine Ev.ial V (j := 0) rfl rfl (d24 3 rfl) b1 ?_
  refine Ev.istDN (L' := [.val (.ref o), .val (.int a0), .val (.int (s.2 0 (ix a0))), .unset]) (d24 4 rfl) rfl rfl rfl ?_
  refine Ev.iloadN (d24 5 rfl) rfl ?_
  refine Ev.iconst (z := 1) (d24 6 rfl) rfl ?_
  refine Ev.iclt (t := 46) (d24 7 rfl) rfl (fun c2 => ?_) (fun c2 => ?_)
  · replace hr := (if_pos c2).symm.trans hr
    exact e_executeAt_46 hw V  a0 (s.2 0 (ix a0)) s .unset rfl _ hr
  · replace hr := (if_neg c2).symm.trans hr
    refine Ev.iloadN (d24 8 rfl) rfl ?_
    refine Ev.bipush (z := 8) (d24 9 rfl) rfl ?_
    refine Ev.icgt (t := 46) (d24 10 rfl) rfl (fun c3 => ?_) (fun c3 => ?_)
    · replace hr := (if_pos c3).symm.trans hr
      exact e_executeAt_46 hw V  a0 (s.2 0 (ix a0)) s .unset rfl _ hr
    · replace hr := (if_neg c3).symm.trans hr
      refine Ev.aloadN (d24 11 rfl) rfl ?_
      refine Ev.iloadN (d24 12 rfl) rfl ?_
      obtain ⟨q4, hq5, hr⟩ := Option.bind_eq_some_iff.mp hr
      refine Ev.priv (y := M_arith) (args := [.int a0]) (rest := []) (gok hw) rfl nm_arith (ww hw 187 rfl) (ww hw 188 rfl) (ww hw 189 rfl) (ww hw 190 rfl) (lenOf pd_arith rfl) (d24 13 rfl) (V.2.1 s) (e_arith hw V hq5) (by decide) (Nat.le_of_ble_eq_true rfl) rfl ?_
      refine Ev.istDN (L' := [.val (.ref o), .val (.int a0), .val (.int (s.2 0 (ix a0))), .val (.int q4)]) (d24 14 rfl) rfl rfl rfl ?_
      refine Ev.aloadN (d24 15 rfl) rfl ?_
      refine Ev.gAr V (ww hw 33 rfl) (d24 16 rfl) (j := 11) rfl ?_
      refine Ev.aloadN (d24 17 rfl) rfl ?_
      refine Ev.gAr V (ww hw 12 rfl) (d24 18 rfl) (j := 1) rfl ?_
      refine Ev.iloadN (d24 19 rfl) rfl ?_
      refine Ev.ial V (j := 1) rfl rfl (d24 20 rfl) b1 ?_
      refine Ev.iloadN (d24 21 rfl) rfl ?_
      obtain ⟨b6, hr⟩ := grd_some hr
      refine Ev.ias V (j := 11) rfl rfl (d24 22 rfl) b6 ?_
      revert hr
      generalize setA s 11 (ix (s.2 1 (ix a0))) q4 = s7
      intro hr
      replace hr := (bnd_eq _ _).symm.trans hr
      refine Ev.aloadN (d24 23 rfl) rfl ?_
      refine Ev.iloadN (d24 24 rfl) rfl ?_
      refine Ev.iconst (z := 1) (d24 25 rfl) rfl ?_
      refine Ev.iadd (d24 26 rfl) ?_
      refine Ev.pI V (gok hw) (ww hw 160 rfl) (Or.inl (ww hw 161 rfl)) (d24 27 rfl) (j := 28) rfl ?_
      revert hr
      generalize setI s7 28 (a0 + (1 : Int32)) = s8
      intro hr
      replace hr := (bnd_eq _ _).symm.trans hr
      refine Ev.goto (t := 147) (d24 28 rfl) rfl ?_
      cases hr
      exact Ev.vreturn rfl (d24 85 rfl)
def f_execute_21 (n : Nat) : Nat → Int32 → Int32 → St → Option (St)
  | 0 => fun _ _ _ => none
  | k + 1 => fun x1 x2 s =>
    if x2 < x1 then
      if (s.1 28) < 0 then
        some s
      else
        if (s.1 28) < (s.1 21) then
          if (s.1 30) = 0 then
            (f_executeAt n (s.1 28) s).bind fun q5 =>
            f_execute_21 n k x1 (x2 + (1 : Int32)) q5
          else
            some s
        else
          some s
    else
      some s
set_option maxRecDepth 100000 in
theorem e_execute_21 {g : GT} {n : Nat} (hw : HW g) {K : St → MHeap} {o : Nat} {r : Nat → Nat} (V : View (GG g) Ln K o r) (k : Nat) : ∀ (x1 : Int32) (x2 : Int32) (s : St) (w : St), f_execute_21 n k x1 x2 s = some w → Ev (GG g) M_execute 21 [.val (.ref o), .val (.int x1), .val (.int x2)] [] (K s) (none, (K w)) := by
  induction k with
  | zero => intro x1 x2 s w hr; rw [f_execute_21] at hr; cases hr
  | succ k ih =>
    intro x1 x2 s w hr
    rw [f_execute_21] at hr
    refine Ev.iloadN (d23 13 rfl) rfl ?_
    refine Ev.iloadN (d23 14 rfl) rfl ?_
    refine Ev.icge (t := 65) (d23 15 rfl) rfl (fun c1 => ?_) (fun c1 => ?_)
    · replace hr := (if_pos c1).symm.trans hr
      refine Ev.aloadN (d23 16 rfl) rfl ?_
      refine Ev.gI V (ww hw 160 rfl) (d23 17 rfl) (j := 28) rfl rfl ?_
      refine Ev.iflt (t := 65) (d23 18 rfl) rfl (fun c2 => ?_) (fun c2 => ?_)
      · replace hr := (if_pos c2).symm.trans hr
        cases hr
        exact Ev.vreturn rfl (d23 33 rfl)
      · replace hr := (if_neg c2).symm.trans hr
        refine Ev.aloadN (d23 19 rfl) rfl ?_
        refine Ev.gI V (ww hw 160 rfl) (d23 20 rfl) (j := 28) rfl rfl ?_
        refine Ev.aloadN (d23 21 rfl) rfl ?_
        refine Ev.gI V (ww hw 62 rfl) (d23 22 rfl) (j := 21) rfl rfl ?_
        refine Ev.icge (t := 65) (d23 23 rfl) rfl (fun c3 => ?_) (fun c3 => ?_)
        · replace hr := (if_pos c3).symm.trans hr
          refine Ev.aloadN (d23 24 rfl) rfl ?_
          refine Ev.gI V (ww hw 164 rfl) (d23 25 rfl) (j := 30) rfl rfl ?_
          refine Ev.ifne (t := 65) (d23 26 rfl) rfl (fun c4 => ?_) (fun c4 => ?_)
          · replace hr := (if_pos c4).symm.trans hr
            refine Ev.aloadN (d23 27 rfl) rfl ?_
            refine Ev.aloadN (d23 28 rfl) rfl ?_
            refine Ev.gI V (ww hw 160 rfl) (d23 29 rfl) (j := 28) rfl rfl ?_
            obtain ⟨q5, hq6, hr⟩ := Option.bind_eq_some_iff.mp hr
            refine Ev.priv (y := M_executeAt) (args := [.int (s.1 28)]) (rest := []) (gok hw) rfl nm_executeAt (ww hw 166 rfl) (ww hw 167 rfl) (ww hw 168 rfl) (ww hw 169 rfl) (lenOf pd_executeAt rfl) (d23 30 rfl) (V.2.1 s) (e_executeAt hw V hq6) (by decide) (Nat.le_of_ble_eq_true rfl) rfl ?_
            refine Ev.iinc (z := 1) (L' := [.val (.ref o), .val (.int x1), .val (.int (x2 + (1 : Int32)))]) (d23 31 rfl) rfl rfl rfl ?_
            refine Ev.goto (t := 21) (d23 32 rfl) rfl ?_
            exact ih x1 (x2 + (1 : Int32)) q5  _ hr
          · replace hr := (if_neg c4).symm.trans hr
            cases hr
            exact Ev.vreturn rfl (d23 33 rfl)
        · replace hr := (if_neg c3).symm.trans hr
          cases hr
          exact Ev.vreturn rfl (d23 33 rfl)
    · replace hr := (if_neg c1).symm.trans hr
      cases hr
      exact Ev.vreturn rfl (d23 33 rfl)
def f_execute (n : Nat) (s : St) : Option (St) :=
  bnd (setI s 28 (0 : Int32)) fun s1 =>
  bnd (setI s1 29 (0 : Int32)) fun s2 =>
  bnd (setI s2 30 ((0 : Int32) &&& 1)) fun s3 =>
  f_execute_21 n n (6937 : Int32) (0 : Int32) s3
set_option maxRecDepth 100000 in
theorem e_execute {g : GT} {n : Nat} {s : St} {w : St} (hw : HW g) {K : St → MHeap} {o : Nat} {r : Nat → Nat} (V : View (GG g) Ln K o r) (hr : f_execute n s = some w) : EvC (GG g) M_execute [.ref o] (K s) (none, (K w)) := by
  refine EvC.enter (L0 := [.val (.ref o), .unset, .unset]) pl_execute (fun _ => rfl) rfl rfl ?_
  unfold f_execute at hr
  refine Ev.aloadN (d23 0 rfl) rfl ?_
  refine Ev.iconst (z := 0) (d23 1 rfl) rfl ?_
  refine Ev.pI V (gok hw) (ww hw 160 rfl) (Or.inl (ww hw 161 rfl)) (d23 2 rfl) (j := 28) rfl ?_
  revert hr
  generalize setI s 28 (0 : Int32) = s1
  intro hr
  replace hr := (bnd_eq _ _).symm.trans hr
  refine Ev.aloadN (d23 3 rfl) rfl ?_
  refine Ev.iconst (z := 0) (d23 4 rfl) rfl ?_
  refine Ev.pI V (gok hw) (ww hw 162 rfl) (Or.inl (ww hw 163 rfl)) (d23 5 rfl) (j := 29) rfl ?_
  revert hr
  generalize setI s1 29 (0 : Int32) = s2
  intro hr
  replace hr := (bnd_eq _ _).symm.trans hr
  refine Ev.aloadN (d23 6 rfl) rfl ?_
  refine Ev.iconst (z := 0) (d23 7 rfl) rfl ?_
  refine Ev.pZ V (gok hw) (ww hw 164 rfl) (Or.inl (ww hw 165 rfl)) (d23 8 rfl) (j := 30) rfl ?_
  revert hr
  generalize setI s2 30 ((0 : Int32) &&& 1) = s3
  intro hr
  replace hr := (bnd_eq _ _).symm.trans hr
  refine Ev.sipush (z := 6937) (d23 9 rfl) rfl ?_
  refine Ev.istDN (L' := [.val (.ref o), .val (.int (6937 : Int32)), .unset]) (d23 10 rfl) rfl rfl rfl ?_
  refine Ev.iconst (z := 0) (d23 11 rfl) rfl ?_
  refine Ev.istDN (L' := [.val (.ref o), .val (.int (6937 : Int32)), .val (.int (0 : Int32))]) (d23 12 rfl) rfl rfl rfl ?_
  exact e_execute_21 hw V  n (6937 : Int32) (0 : Int32) s3  _ hr
def f_run_100 (n : Nat) : Nat → Int32 → St → Option (Int32 × St)
  | 0 => fun _ _ => none
  | k + 1 => fun x2 s =>
    if x2 < (8 : Int32) then
      grd (inb x2 8) <|
      bnd (setA s 10 (ix x2) (s.2 11 (ix x2))) fun s3 =>
      f_run_100 n k (x2 + (1 : Int32)) s3
    else
      some ((s.1 25), s)
set_option maxRecDepth 100000 in
theorem e_run_100 {g : GT} {n : Nat} (hw : HW g) {K : St → MHeap} {o : Nat} {r : Nat → Nat} (V : View (GG g) Ln K o r) (k : Nat) : ∀ (x2 : Int32) (s : St) (y1 : Slot) (hy1 : one1 y1 = true) (w : Int32 × St), f_run_100 n k x2 s = some w → Ev (GG g) M_run 100 [.val (.ref o), y1, .val (.int x2)] [] (K s) ((some (.int w.1)), (K w.2)) := by
  induction k with
  | zero => intro x2 s y1 hy1 w hr; rw [f_run_100] at hr; cases hr
  | succ k ih =>
    intro x2 s y1 hy1 w hr
    rw [f_run_100] at hr
    refine Ev.iloadN (d18 57 rfl) rfl ?_
    refine Ev.bipush (z := 8) (d18 58 rfl) rfl ?_
    refine Ev.icge (t := 124) (d18 59 rfl) rfl (fun c1 => ?_) (fun c1 => ?_)
    · replace hr := (if_pos c1).symm.trans hr
      refine Ev.aloadN (d18 60 rfl) rfl ?_
      refine Ev.gAr V (ww hw 31 rfl) (d18 61 rfl) (j := 10) rfl ?_
      refine Ev.iloadN (d18 62 rfl) rfl ?_
      refine Ev.aloadN (d18 63 rfl) rfl ?_
      refine Ev.gAr V (ww hw 33 rfl) (d18 64 rfl) (j := 11) rfl ?_
      refine Ev.iloadN (d18 65 rfl) rfl ?_
      obtain ⟨b2, hr⟩ := grd_some hr
      refine Ev.ial V (j := 11) rfl rfl (d18 66 rfl) b2 ?_
      refine Ev.ias V (j := 10) rfl rfl (d18 67 rfl) b2 ?_
      revert hr
      generalize setA s 10 (ix x2) (s.2 11 (ix x2)) = s3
      intro hr
      replace hr := (bnd_eq _ _).symm.trans hr
      refine Ev.iinc (z := 1) (L' := [.val (.ref o), y1, .val (.int (x2 + (1 : Int32)))]) (d18 68 rfl) rfl rfl rfl ?_
      refine Ev.goto (t := 100) (d18 69 rfl) rfl ?_
      exact ih (x2 + (1 : Int32)) s3 y1 hy1 _ hr
    · replace hr := (if_neg c1).symm.trans hr
      refine Ev.aloadN (d18 70 rfl) rfl ?_
      refine Ev.gI V (ww hw 78 rfl) (d18 71 rfl) (j := 25) rfl rfl ?_
      cases hr
      exact Ev.ireturn rfl (d18 72 rfl)
def f_run_95 (n : Nat) (z0 : Int32) (s : St) : Option (Int32 × St) :=
  bnd (setI s 25 z0) fun s1 =>
  f_run_100 n n (0 : Int32) s1
set_option maxRecDepth 100000 in
theorem e_run_95 {g : GT} {n : Nat} (hw : HW g) {K : St → MHeap} {o : Nat} {r : Nat → Nat} (V : View (GG g) Ln K o r) (z0 : Int32) (s : St) (y1 : Slot) (hy1 : one1 y1 = true) (y2 : Slot) (hy2 : one1 y2 = true) (w : Int32 × St) (hr : f_run_95 n z0 s = some w) : Ev (GG g) M_run 95 [.val (.ref o), y1, y2] [.int z0, .ref o] (K s) ((some (.int w.1)), (K w.2)) := by
  unfold f_run_95 at hr
  refine Ev.pI V (gok hw) (ww hw 78 rfl) (Or.inl (ww hw 79 rfl)) (d18 54 rfl) (j := 25) rfl ?_
  revert hr
  generalize setI s 25 z0 = s1
  intro hr
  replace hr := (bnd_eq _ _).symm.trans hr
  refine Ev.iconst (z := 0) (d18 55 rfl) rfl ?_
  refine Ev.istDN (L' := [.val (.ref o), y1, .val (.int (0 : Int32))]) (d18 56 rfl) rfl hy2 rfl ?_
  exact e_run_100 hw V  n (0 : Int32) s1 y1 hy1 _ hr
def f_run_75 (n : Nat) (z0 : Int32) (s : St) : Option (Int32 × St) :=
  (f_prepare n z0 s).bind fun q1 =>
  (f_execute n q1).bind fun q3 =>
  if (q3.1 30) = 0 then
    f_run_95 n (1 : Int32) q3
  else
    f_run_95 n (2 : Int32) q3
set_option maxRecDepth 100000 in
theorem e_run_75 {g : GT} {n : Nat} (hw : HW g) {K : St → MHeap} {o : Nat} {r : Nat → Nat} (V : View (GG g) Ln K o r) (z0 : Int32) (s : St) (y1 : Slot) (hy1 : one1 y1 = true) (y2 : Slot) (hy2 : one1 y2 = true) (w : Int32 × St) (hr : f_run_75 n z0 s = some w) : Ev (GG g) M_run 75 [.val (.ref o), y1, y2] [.int z0, .ref o] (K s) ((some (.int w.1)), (K w.2)) := by
  unfold f_run_75 at hr
  obtain ⟨q1, hq2, hr⟩ := Option.bind_eq_some_iff.mp hr
  refine Ev.priv (y := M_prepare) (args := [.int z0]) (rest := []) (gok hw) rfl nm_prepare (ww hw 138 rfl) (ww hw 139 rfl) (ww hw 140 rfl) (ww hw 141 rfl) (lenOf pd_prepare rfl) (d18 44 rfl) (V.2.1 s) (e_prepare hw V hq2) (by decide) (Nat.le_of_ble_eq_true rfl) rfl ?_
  refine Ev.aloadN (d18 45 rfl) rfl ?_
  obtain ⟨q3, hq4, hr⟩ := Option.bind_eq_some_iff.mp hr
  refine Ev.priv (y := M_execute) (args := []) (rest := []) (gok hw) rfl nm_execute (ww hw 156 rfl) (ww hw 157 rfl) (ww hw 158 rfl) (ww hw 159 rfl) (lenOf pd_execute rfl) (d18 46 rfl) (V.2.1 q1) (e_execute hw V hq4) (by decide) (Nat.le_of_ble_eq_true rfl) rfl ?_
  refine Ev.aloadN (d18 47 rfl) rfl ?_
  refine Ev.aloadN (d18 48 rfl) rfl ?_
  refine Ev.gI V (ww hw 164 rfl) (d18 49 rfl) (j := 30) rfl rfl ?_
  refine Ev.ifeq (t := 94) (d18 50 rfl) rfl (fun c5 => ?_) (fun c5 => ?_)
  · replace hr := (if_pos c5).symm.trans hr
    refine Ev.iconst (z := 1) (d18 53 rfl) rfl ?_
    exact e_run_95 hw V  (1 : Int32) q3 y1 hy1 y2 hy2 _ hr
  · replace hr := (if_neg c5).symm.trans hr
    refine Ev.iconst (z := 2) (d18 51 rfl) rfl ?_
    refine Ev.goto (t := 95) (d18 52 rfl) rfl ?_
    exact e_run_95 hw V  (2 : Int32) q3 y1 hy1 y2 hy2 _ hr
def f_run_40 (n : Nat) : Nat → Int32 → Int32 → St → Option (Int32 × St)
  | 0 => fun _ _ _ => none
  | k + 1 => fun x1 x2 s =>
    if x2 < (8 : Int32) then
      grd (inb x2 8) <|
      bnd (setA s 11 (ix x2) (s.2 8 (ix x2))) fun s3 =>
      f_run_40 n k x1 (x2 + (1 : Int32)) s3
    else
      if x1 = (1 : Int32) then
        f_run_75 n (1 : Int32) s
      else
        f_run_75 n (0 : Int32) s
set_option maxRecDepth 100000 in
theorem e_run_40 {g : GT} {n : Nat} (hw : HW g) {K : St → MHeap} {o : Nat} {r : Nat → Nat} (V : View (GG g) Ln K o r) (k : Nat) : ∀ (x1 : Int32) (x2 : Int32) (s : St) (w : Int32 × St), f_run_40 n k x1 x2 s = some w → Ev (GG g) M_run 40 [.val (.ref o), .val (.int x1), .val (.int x2)] [] (K s) ((some (.int w.1)), (K w.2)) := by
  induction k with
  | zero => intro x1 x2 s w hr; rw [f_run_40] at hr; cases hr
  | succ k ih =>
    intro x1 x2 s w hr
    rw [f_run_40] at hr
    refine Ev.iloadN (d18 24 rfl) rfl ?_
    refine Ev.bipush (z := 8) (d18 25 rfl) rfl ?_
    refine Ev.icge (t := 64) (d18 26 rfl) rfl (fun c1 => ?_) (fun c1 => ?_)
    · replace hr := (if_pos c1).symm.trans hr
      refine Ev.aloadN (d18 27 rfl) rfl ?_
      refine Ev.gAr V (ww hw 33 rfl) (d18 28 rfl) (j := 11) rfl ?_
      refine Ev.iloadN (d18 29 rfl) rfl ?_
      refine Ev.aloadN (d18 30 rfl) rfl ?_
      refine Ev.gAr V (ww hw 27 rfl) (d18 31 rfl) (j := 8) rfl ?_
      refine Ev.iloadN (d18 32 rfl) rfl ?_
      obtain ⟨b2, hr⟩ := grd_some hr
      refine Ev.ial V (j := 8) rfl rfl (d18 33 rfl) b2 ?_
      refine Ev.ias V (j := 11) rfl rfl (d18 34 rfl) b2 ?_
      revert hr
      generalize setA s 11 (ix x2) (s.2 8 (ix x2)) = s3
      intro hr
      replace hr := (bnd_eq _ _).symm.trans hr
      refine Ev.iinc (z := 1) (L' := [.val (.ref o), .val (.int x1), .val (.int (x2 + (1 : Int32)))]) (d18 35 rfl) rfl rfl rfl ?_
      refine Ev.goto (t := 40) (d18 36 rfl) rfl ?_
      exact ih x1 (x2 + (1 : Int32)) s3  _ hr
    · replace hr := (if_neg c1).symm.trans hr
      refine Ev.aloadN (d18 37 rfl) rfl ?_
      refine Ev.iloadN (d18 38 rfl) rfl ?_
      refine Ev.iconst (z := 1) (d18 39 rfl) rfl ?_
      refine Ev.icne (t := 74) (d18 40 rfl) rfl (fun c4 => ?_) (fun c4 => ?_)
      · replace hr := (if_pos c4).symm.trans hr
        refine Ev.iconst (z := 1) (d18 41 rfl) rfl ?_
        refine Ev.goto (t := 75) (d18 42 rfl) rfl ?_
        exact e_run_75 hw V  (1 : Int32) s (.val (.int x1)) rfl (.val (.int x2)) rfl _ hr
      · replace hr := (if_neg c4).symm.trans hr
        refine Ev.iconst (z := 0) (d18 43 rfl) rfl ?_
        exact e_run_75 hw V  (0 : Int32) s (.val (.int x1)) rfl (.val (.int x2)) rfl _ hr
def f_run_34 (n : Nat) (x1 : Int32) (s : St) : Option (Int32 × St) :=
  (f_clearResults n s).bind fun q1 =>
  f_run_40 n n x1 (0 : Int32) q1
set_option maxRecDepth 100000 in
theorem e_run_34 {g : GT} {n : Nat} (hw : HW g) {K : St → MHeap} {o : Nat} {r : Nat → Nat} (V : View (GG g) Ln K o r) (x1 : Int32) (s : St) (y2 : Slot) (hy2 : one1 y2 = true) (w : Int32 × St) (hr : f_run_34 n x1 s = some w) : Ev (GG g) M_run 34 [.val (.ref o), .val (.int x1), y2] [] (K s) ((some (.int w.1)), (K w.2)) := by
  unfold f_run_34 at hr
  refine Ev.aloadN (d18 20 rfl) rfl ?_
  obtain ⟨q1, hq2, hr⟩ := Option.bind_eq_some_iff.mp hr
  refine Ev.priv (y := M_clearResults) (args := []) (rest := []) (gok hw) rfl nm_clearResults (ww hw 74 rfl) (ww hw 75 rfl) (ww hw 76 rfl) (ww hw 77 rfl) (lenOf pd_clearResults rfl) (d18 21 rfl) (V.2.1 s) (e_clearResults hw V hq2) (by decide) (Nat.le_of_ble_eq_true rfl) rfl ?_
  refine Ev.iconst (z := 0) (d18 22 rfl) rfl ?_
  refine Ev.istDN (L' := [.val (.ref o), .val (.int x1), .val (.int (0 : Int32))]) (d18 23 rfl) rfl hy2 rfl ?_
  exact e_run_40 hw V  n x1 (0 : Int32) q1  _ hr
def f_run_11 (n : Nat) (x1 : Int32) (s : St) : Option (Int32 × St) :=
  if (s.1 22) = 0 then
    if x1 = (1 : Int32) then
      if (s.1 24) = 0 then
        some ((-1 : Int32), s)
      else
        f_run_34 n x1 s
    else
      f_run_34 n x1 s
  else
    some ((-1 : Int32), s)
set_option maxRecDepth 100000 in
theorem e_run_11 {g : GT} {n : Nat} (hw : HW g) {K : St → MHeap} {o : Nat} {r : Nat → Nat} (V : View (GG g) Ln K o r) (x1 : Int32) (s : St) (y2 : Slot) (hy2 : one1 y2 = true) (w : Int32 × St) (hr : f_run_11 n x1 s = some w) : Ev (GG g) M_run 11 [.val (.ref o), .val (.int x1), y2] [] (K s) ((some (.int w.1)), (K w.2)) := by
  unfold f_run_11 at hr
  refine Ev.aloadN (d18 7 rfl) rfl ?_
  refine Ev.gI V (ww hw 68 rfl) (d18 8 rfl) (j := 22) rfl rfl ?_
  refine Ev.ifeq (t := 20) (d18 9 rfl) rfl (fun c1 => ?_) (fun c1 => ?_)
  · replace hr := (if_pos c1).symm.trans hr
    refine Ev.iloadN (d18 12 rfl) rfl ?_
    refine Ev.iconst (z := 1) (d18 13 rfl) rfl ?_
    refine Ev.icne (t := 34) (d18 14 rfl) rfl (fun c2 => ?_) (fun c2 => ?_)
    · replace hr := (if_pos c2).symm.trans hr
      refine Ev.aloadN (d18 15 rfl) rfl ?_
      refine Ev.gI V (ww hw 72 rfl) (d18 16 rfl) (j := 24) rfl rfl ?_
      refine Ev.ifne (t := 34) (d18 17 rfl) rfl (fun c3 => ?_) (fun c3 => ?_)
      · replace hr := (if_pos c3).symm.trans hr
        refine Ev.iconst (z := -1) (d18 18 rfl) rfl ?_
        cases hr
        exact Ev.ireturn rfl (d18 19 rfl)
      · replace hr := (if_neg c3).symm.trans hr
        exact e_run_34 hw V  x1 s y2 hy2 _ hr
    · replace hr := (if_neg c2).symm.trans hr
      exact e_run_34 hw V  x1 s y2 hy2 _ hr
  · replace hr := (if_neg c1).symm.trans hr
    refine Ev.iconst (z := -1) (d18 10 rfl) rfl ?_
    cases hr
    exact Ev.ireturn rfl (d18 11 rfl)
def f_run (n : Nat) (a0 : Int32) (s : St) : Option (Int32 × St) :=
  if a0 = 0 then
    f_run_11 n a0 s
  else
    if a0 = (1 : Int32) then
      f_run_11 n a0 s
    else
      some ((-1 : Int32), s)
set_option maxRecDepth 100000 in
theorem e_run {g : GT} {n : Nat} {a0 : Int32} {s : St} {w : Int32 × St} (hw : HW g) {K : St → MHeap} {o : Nat} {r : Nat → Nat} (V : View (GG g) Ln K o r) (hr : f_run n a0 s = some w) : EvC (GG g) M_run [.ref o, .int a0] (K s) ((some (.int w.1)), (K w.2)) := by
  refine EvC.enter (L0 := [.val (.ref o), .val (.int a0), .unset]) pl_run (fun h => nomatch h) rfl rfl ?_
  unfold f_run at hr
  refine Ev.iloadN (d18 0 rfl) rfl ?_
  refine Ev.ifeq (t := 11) (d18 1 rfl) rfl (fun c1 => ?_) (fun c1 => ?_)
  · replace hr := (if_pos c1).symm.trans hr
    exact e_run_11 hw V  a0 s .unset rfl _ hr
  · replace hr := (if_neg c1).symm.trans hr
    refine Ev.iloadN (d18 2 rfl) rfl ?_
    refine Ev.iconst (z := 1) (d18 3 rfl) rfl ?_
    refine Ev.iceq (t := 11) (d18 4 rfl) rfl (fun c2 => ?_) (fun c2 => ?_)
    · replace hr := (if_pos c2).symm.trans hr
      exact e_run_11 hw V  a0 s .unset rfl _ hr
    · replace hr := (if_neg c2).symm.trans hr
      refine Ev.iconst (z := -1) (d18 5 rfl) rfl ?_
      cases hr
      exact Ev.ireturn rfl (d18 6 rfl)
def f_lastStatus (s : St) : Option (Int32) :=
  some (s.1 25)
set_option maxRecDepth 100000 in
theorem e_lastStatus {g : GT} {s : St} {w : Int32} (hw : HW g) {K : St → MHeap} {o : Nat} {r : Nat → Nat} (V : View (GG g) Ln K o r) (hr : f_lastStatus s = some w) : EvC (GG g) M_lastStatus [.ref o] (K s) ((some (.int w)), (K s)) := by
  refine EvC.enter (L0 := [.val (.ref o)]) pl_lastStatus (fun h => nomatch h) rfl rfl ?_
  unfold f_lastStatus at hr
  refine Ev.aloadN (d32 0 rfl) rfl ?_
  refine Ev.gI V (ww hw 78 rfl) (d32 1 rfl) (j := 25) rfl rfl ?_
  cases hr
  exact Ev.ireturn rfl (d32 2 rfl)
def f_outputCount (s : St) : Option (Int32) :=
  some (s.1 26)
set_option maxRecDepth 100000 in
theorem e_outputCount {g : GT} {s : St} {w : Int32} (hw : HW g) {K : St → MHeap} {o : Nat} {r : Nat → Nat} (V : View (GG g) Ln K o r) (hr : f_outputCount s = some w) : EvC (GG g) M_outputCount [.ref o] (K s) ((some (.int w)), (K s)) := by
  refine EvC.enter (L0 := [.val (.ref o)]) pl_outputCount (fun h => nomatch h) rfl rfl ?_
  unfold f_outputCount at hr
  refine Ev.aloadN (d33 0 rfl) rfl ?_
  refine Ev.gI V (ww hw 80 rfl) (d33 1 rfl) (j := 26) rfl rfl ?_
  cases hr
  exact Ev.ireturn rfl (d33 2 rfl)
def f_output (s : St) (a0 : Int32) : Option (Int32) :=
  if a0 < 0 then
    some (0 : Int32)
  else
    if a0 < (s.1 26) then
      if a0 < (32 : Int32) then
        grd (inb a0 32) <|
        some (s.2 9 (ix a0))
      else
        some (0 : Int32)
    else
      some (0 : Int32)
set_option maxRecDepth 100000 in
theorem e_output {g : GT} {s : St} {a0 : Int32} {w : Int32} (hw : HW g) {K : St → MHeap} {o : Nat} {r : Nat → Nat} (V : View (GG g) Ln K o r) (hr : f_output s a0 = some w) : EvC (GG g) M_output [.ref o, .int a0] (K s) ((some (.int w)), (K s)) := by
  refine EvC.enter (L0 := [.val (.ref o), .val (.int a0)]) pl_output (fun h => nomatch h) rfl rfl ?_
  unfold f_output at hr
  refine Ev.iloadN (d34 0 rfl) rfl ?_
  refine Ev.iflt (t := 18) (d34 1 rfl) rfl (fun c1 => ?_) (fun c1 => ?_)
  · replace hr := (if_pos c1).symm.trans hr
    refine Ev.iconst (z := 0) (d34 9 rfl) rfl ?_
    cases hr
    exact Ev.ireturn rfl (d34 10 rfl)
  · replace hr := (if_neg c1).symm.trans hr
    refine Ev.iloadN (d34 2 rfl) rfl ?_
    refine Ev.aloadN (d34 3 rfl) rfl ?_
    refine Ev.gI V (ww hw 80 rfl) (d34 4 rfl) (j := 26) rfl rfl ?_
    refine Ev.icge (t := 18) (d34 5 rfl) rfl (fun c2 => ?_) (fun c2 => ?_)
    · replace hr := (if_pos c2).symm.trans hr
      refine Ev.iloadN (d34 6 rfl) rfl ?_
      refine Ev.bipush (z := 32) (d34 7 rfl) rfl ?_
      refine Ev.iclt (t := 20) (d34 8 rfl) rfl (fun c3 => ?_) (fun c3 => ?_)
      · replace hr := (if_pos c3).symm.trans hr
        refine Ev.aloadN (d34 11 rfl) rfl ?_
        refine Ev.gAr V (ww hw 29 rfl) (d34 12 rfl) (j := 9) rfl ?_
        refine Ev.iloadN (d34 13 rfl) rfl ?_
        obtain ⟨b4, hr⟩ := grd_some hr
        refine Ev.ial V (j := 9) rfl rfl (d34 14 rfl) b4 ?_
        cases hr
        exact Ev.ireturn rfl (d34 15 rfl)
      · replace hr := (if_neg c3).symm.trans hr
        refine Ev.iconst (z := 0) (d34 9 rfl) rfl ?_
        cases hr
        exact Ev.ireturn rfl (d34 10 rfl)
    · replace hr := (if_neg c2).symm.trans hr
      refine Ev.iconst (z := 0) (d34 9 rfl) rfl ?_
      cases hr
      exact Ev.ireturn rfl (d34 10 rfl)
def f_hdue (a0 : Int64) (a1 : Int64) (a2 : Int32) (a3 : Int32) (a4 : Int32) : Option (Int32) :=
  if a2 = 0 then
    some (0 : Int32)
  else
    if (XT.cmpL a0 a1) < 0 then
      some (((a3).toInt64 + a0)).toInt32
    else
      if (XT.cmpL a0 a1) = 0 then
        some a4
      else
        some (0 : Int32)
set_option maxRecDepth 100000 in
theorem e_hdue {g : GT} {a0 : Int64} {a1 : Int64} {a2 : Int32} {a3 : Int32} {a4 : Int32} {w : Int32} (hw : HW g) {h : MHeap} (hr : f_hdue a0 a1 a2 a3 a4 = some w) : EvC (GG g) M_hdue [.long a0, .long a1, .int a2, .int a3, .int a4] h ((some (.int w)), h) := by
  refine EvC.enter (L0 := [.val (.long a0), .second, .val (.long a1), .second, .val (.int a2), .val (.int a3), .val (.int a4)]) pl_hdue (fun h => nomatch h) rfl rfl ?_
  unfold f_hdue at hr
  refine Ev.iload (d35 0 rfl) rfl ?_
  refine Ev.ifne (t := 7) (d35 1 rfl) rfl (fun c1 => ?_) (fun c1 => ?_)
  · replace hr := (if_pos c1).symm.trans hr
    refine Ev.iconst (z := 0) (d35 2 rfl) rfl ?_
    cases hr
    exact Ev.ireturn rfl (d35 3 rfl)
  · replace hr := (if_neg c1).symm.trans hr
    refine Ev.lloadN (d35 4 rfl) rfl ?_
    refine Ev.lloadN (d35 5 rfl) rfl ?_
    refine Ev.lcmp (d35 6 rfl) ?_
    refine Ev.ifge (t := 20) (d35 7 rfl) rfl (fun c2 => ?_) (fun c2 => ?_)
    · replace hr := (if_pos c2).symm.trans hr
      refine Ev.iload (d35 8 rfl) rfl ?_
      refine Ev.i2l (d35 9 rfl) ?_
      refine Ev.lloadN (d35 10 rfl) rfl ?_
      refine Ev.ladd (d35 11 rfl) ?_
      refine Ev.l2i (d35 12 rfl) ?_
      cases hr
      exact Ev.ireturn rfl (d35 13 rfl)
    · replace hr := (if_neg c2).symm.trans hr
      refine Ev.lloadN (d35 14 rfl) rfl ?_
      refine Ev.lloadN (d35 15 rfl) rfl ?_
      refine Ev.lcmp (d35 16 rfl) ?_
      refine Ev.ifne (t := 29) (d35 17 rfl) rfl (fun c3 => ?_) (fun c3 => ?_)
      · replace hr := (if_pos c3).symm.trans hr
        refine Ev.iload (d35 18 rfl) rfl ?_
        cases hr
        exact Ev.ireturn rfl (d35 19 rfl)
      · replace hr := (if_neg c3).symm.trans hr
        refine Ev.iconst (z := 0) (d35 20 rfl) rfl ?_
        cases hr
        exact Ev.ireturn rfl (d35 21 rfl)
def f_finalVar (s : St) (a0 : Int32) : Option (Int32) :=
  (f_isVar s a0).bind fun q1 =>
  if q1 = 0 then
    some (0 : Int32)
  else
    grd (inb a0 8) <|
    some (s.2 10 (ix a0))
set_option maxRecDepth 100000 in
theorem e_finalVar {g : GT} {s : St} {a0 : Int32} {w : Int32} (hw : HW g) {K : St → MHeap} {o : Nat} {r : Nat → Nat} (V : View (GG g) Ln K o r) (hr : f_finalVar s a0 = some w) : EvC (GG g) M_finalVar [.ref o, .int a0] (K s) ((some (.int w)), (K s)) := by
  refine EvC.enter (L0 := [.val (.ref o), .val (.int a0)]) pl_finalVar (fun h => nomatch h) rfl rfl ?_
  unfold f_finalVar at hr
  refine Ev.aloadN (d36 0 rfl) rfl ?_
  refine Ev.iloadN (d36 1 rfl) rfl ?_
  obtain ⟨q1, hq2, hr⟩ := Option.bind_eq_some_iff.mp hr
  refine Ev.priv (y := M_isVar) (args := [.int a0]) (rest := []) (gok hw) rfl nm_isVar (ww hw 87 rfl) (ww hw 88 rfl) (ww hw 89 rfl) (ww hw 90 rfl) (lenOf pd_isVar rfl) (d36 2 rfl) (V.2.1 s) (e_isVar hw V hq2) (by decide) (Nat.le_of_ble_eq_true rfl) rfl ?_
  refine Ev.ifne (t := 10) (d36 3 rfl) rfl (fun c3 => ?_) (fun c3 => ?_)
  · replace hr := (if_pos c3).symm.trans hr
    refine Ev.iconst (z := 0) (d36 4 rfl) rfl ?_
    cases hr
    exact Ev.ireturn rfl (d36 5 rfl)
  · replace hr := (if_neg c3).symm.trans hr
    refine Ev.aloadN (d36 6 rfl) rfl ?_
    refine Ev.gAr V (ww hw 31 rfl) (d36 7 rfl) (j := 10) rfl ?_
    refine Ev.iloadN (d36 8 rfl) rfl ?_
    obtain ⟨b4, hr⟩ := grd_some hr
    refine Ev.ial V (j := 10) rfl rfl (d36 9 rfl) b4 ?_
    cases hr
    exact Ev.ireturn rfl (d36 10 rfl)
def f_law_418 (n : Nat) (k344 : Int32 → Int32 → Int32 → Int32 → Int64 → Int32 → Int32 → Int32 → St → Option (Int32 × St)) (x0 : Int32) (x1 : Int32) (x2 : Int32) (x9 : Int64) (x11 : Int32) (x12 : Int32) (x15 : Int32) (z0 : Int32) (z1 : Int32) (s : St) : Option (Int32 × St) :=
  k344 x0 x1 x2 (z1 &&& z0) x9 x11 x12 (x15 + (1 : Int32)) s
set_option maxRecDepth 100000 in
theorem e_law_418 {g : GT} {n : Nat} (hw : HW g) {K : St → MHeap} {o : Nat} {r : Nat → Nat} (V : View (GG g) Ln K o r) {k344 : Int32 → Int32 → Int32 → Int32 → Int64 → Int32 → Int32 → Int32 → St → Option (Int32 × St)} (hk344 : ∀ (x0 : Int32) (x1 : Int32) (x2 : Int32) (x5 : Int32) (x9 : Int64) (x11 : Int32) (x12 : Int32) (x15 : Int32) (s : St) (y3 : Slot) (hy3 : one1 y3 = true) (y6 : Slot) (hy6 : one1 y6 = true) (y7 : Slot) (hy7 : one1 y7 = true) (y8 : Slot) (hy8 : one1 y8 = true) (y13 : Slot) (hy13 : one1 y13 = true) (y14 : Slot) (hy14 : one1 y14 = true) (y16 : Slot) (hy16 : one1 y16 = true) (y17 : Slot) (hy17 : one1 y17 = true) (y18 : Slot) (hy18 : one1 y18 = true) (w : Int32 × St), k344 x0 x1 x2 x5 x9 x11 x12 x15 s = some w → Ev (GG g) M_law 344 [.val (.int x0), .val (.int x1), .val (.int x2), y3, .val (.ref o), .val (.int x5), y6, y7, y8, .val (.long x9), .second, .val (.int x11), .val (.int x12), y13, y14, .val (.int x15), y16, y17, y18] [] (K s) ((some (.int w.1)), (K w.2))) (x0 : Int32) (x1 : Int32) (x2 : Int32) (x9 : Int64) (x11 : Int32) (x12 : Int32) (x15 : Int32) (z0 : Int32) (z1 : Int32) (s : St) (y3 : Slot) (hy3 : one1 y3 = true) (y5 : Slot) (hy5 : one1 y5 = true) (y6 : Slot) (hy6 : one1 y6 = true) (y7 : Slot) (hy7 : one1 y7 = true) (y8 : Slot) (hy8 : one1 y8 = true) (y13 : Slot) (hy13 : one1 y13 = true) (y14 : Slot) (hy14 : one1 y14 = true) (y16 : Slot) (hy16 : one1 y16 = true) (y17 : Slot) (hy17 : one1 y17 = true) (y18 : Slot) (hy18 : one1 y18 = true) (w : Int32 × St) (hr : f_law_418 n k344 x0 x1 x2 x9 x11 x12 x15 z0 z1 s = some w) : Ev (GG g) M_law 418 [.val (.int x0), .val (.int x1), .val (.int x2), y3, .val (.ref o), y5, y6, y7, y8, .val (.long x9), .second, .val (.int x11), .val (.int x12), y13, y14, .val (.int x15), y16, y17, y18] [.int z0, .int z1] (K s) ((some (.int w.1)), (K w.2)) := by
  unfold f_law_418 at hr
  refine Ev.iand at_418 ?_
  refine Ev.istD (L' := [.val (.int x0), .val (.int x1), .val (.int x2), y3, .val (.ref o), .val (.int (z1 &&& z0)), y6, y7, y8, .val (.long x9), .second, .val (.int x11), .val (.int x12), y13, y14, .val (.int x15), y16, y17, y18]) at_419 rfl hy5 rfl ?_
  refine Ev.iinc (z := 1) (L' := [.val (.int x0), .val (.int x1), .val (.int x2), y3, .val (.ref o), .val (.int (z1 &&& z0)), y6, y7, y8, .val (.long x9), .second, .val (.int x11), .val (.int x12), y13, y14, .val (.int (x15 + (1 : Int32))), y16, y17, y18]) at_421 rfl rfl rfl ?_
  refine Ev.goto (t := 344) at_424 rfl ?_
  exact hk344 x0 x1 x2 (z1 &&& z0) x9 x11 x12 (x15 + (1 : Int32)) s y3 hy3 y6 hy6 y7 hy7 y8 hy8 y13 hy13 y14 hy14 y16 hy16 y17 hy17 y18 hy18 _ hr
def f_law_554 (n : Nat) (k467 : Int32 → Int32 → Int32 → Int32 → Int64 → Int32 → Int32 → Int32 → St → Option (Int32 × St)) (x0 : Int32) (x1 : Int32) (x2 : Int32) (x9 : Int64) (x11 : Int32) (x12 : Int32) (x16 : Int32) (z0 : Int32) (z1 : Int32) (s : St) : Option (Int32 × St) :=
  k467 x0 x1 x2 (z1 &&& z0) x9 x11 x12 (x16 + (1 : Int32)) s
set_option maxRecDepth 100000 in
theorem e_law_554 {g : GT} {n : Nat} (hw : HW g) {K : St → MHeap} {o : Nat} {r : Nat → Nat} (V : View (GG g) Ln K o r) {k467 : Int32 → Int32 → Int32 → Int32 → Int64 → Int32 → Int32 → Int32 → St → Option (Int32 × St)} (hk467 : ∀ (x0 : Int32) (x1 : Int32) (x2 : Int32) (x5 : Int32) (x9 : Int64) (x11 : Int32) (x12 : Int32) (x16 : Int32) (s : St) (y3 : Slot) (hy3 : one1 y3 = true) (y6 : Slot) (hy6 : one1 y6 = true) (y7 : Slot) (hy7 : one1 y7 = true) (y8 : Slot) (hy8 : one1 y8 = true) (y13 : Slot) (hy13 : one1 y13 = true) (y14 : Slot) (hy14 : one1 y14 = true) (y15 : Slot) (hy15 : one1 y15 = true) (y17 : Slot) (hy17 : one1 y17 = true) (y18 : Slot) (hy18 : one1 y18 = true) (w : Int32 × St), k467 x0 x1 x2 x5 x9 x11 x12 x16 s = some w → Ev (GG g) M_law 467 [.val (.int x0), .val (.int x1), .val (.int x2), y3, .val (.ref o), .val (.int x5), y6, y7, y8, .val (.long x9), .second, .val (.int x11), .val (.int x12), y13, y14, y15, .val (.int x16), y17, y18] [] (K s) ((some (.int w.1)), (K w.2))) (x0 : Int32) (x1 : Int32) (x2 : Int32) (x9 : Int64) (x11 : Int32) (x12 : Int32) (x16 : Int32) (z0 : Int32) (z1 : Int32) (s : St) (y3 : Slot) (hy3 : one1 y3 = true) (y5 : Slot) (hy5 : one1 y5 = true) (y6 : Slot) (hy6 : one1 y6 = true) (y7 : Slot) (hy7 : one1 y7 = true) (y8 : Slot) (hy8 : one1 y8 = true) (y13 : Slot) (hy13 : one1 y13 = true) (y14 : Slot) (hy14 : one1 y14 = true) (y15 : Slot) (hy15 : one1 y15 = true) (y17 : Slot) (hy17 : one1 y17 = true) (y18 : Slot) (hy18 : one1 y18 = true) (w : Int32 × St) (hr : f_law_554 n k467 x0 x1 x2 x9 x11 x12 x16 z0 z1 s = some w) : Ev (GG g) M_law 554 [.val (.int x0), .val (.int x1), .val (.int x2), y3, .val (.ref o), y5, y6, y7, y8, .val (.long x9), .second, .val (.int x11), .val (.int x12), y13, y14, y15, .val (.int x16), y17, y18] [.int z0, .int z1] (K s) ((some (.int w.1)), (K w.2)) := by
  unfold f_law_554 at hr
  refine Ev.iand at_554 ?_
  refine Ev.istD (L' := [.val (.int x0), .val (.int x1), .val (.int x2), y3, .val (.ref o), .val (.int (z1 &&& z0)), y6, y7, y8, .val (.long x9), .second, .val (.int x11), .val (.int x12), y13, y14, y15, .val (.int x16), y17, y18]) at_555 rfl hy5 rfl ?_
  refine Ev.iinc (z := 1) (L' := [.val (.int x0), .val (.int x1), .val (.int x2), y3, .val (.ref o), .val (.int (z1 &&& z0)), y6, y7, y8, .val (.long x9), .second, .val (.int x11), .val (.int x12), y13, y14, y15, .val (.int (x16 + (1 : Int32))), y17, y18]) at_557 rfl rfl rfl ?_
  refine Ev.goto (t := 467) at_560 rfl ?_
  exact hk467 x0 x1 x2 (z1 &&& z0) x9 x11 x12 (x16 + (1 : Int32)) s y3 hy3 y6 hy6 y7 hy7 y8 hy8 y13 hy13 y14 hy14 y15 hy15 y17 hy17 y18 hy18 _ hr
def f_law_538 (n : Nat) (k467 : Int32 → Int32 → Int32 → Int32 → Int64 → Int32 → Int32 → Int32 → St → Option (Int32 × St)) (x0 : Int32) (x1 : Int32) (x2 : Int32) (x5 : Int32) (x9 : Int64) (x11 : Int32) (x12 : Int32) (x16 : Int32) (x17 : Int32) (z0 : Int32) (s : St) : Option (Int32 × St) :=
  if x17 = z0 then
    f_law_554 n k467 x0 x1 x2 x9 x11 x12 x16 (1 : Int32) x5 s
  else
    f_law_554 n k467 x0 x1 x2 x9 x11 x12 x16 (0 : Int32) x5 s
set_option maxRecDepth 100000 in
theorem e_law_538 {g : GT} {n : Nat} (hw : HW g) {K : St → MHeap} {o : Nat} {r : Nat → Nat} (V : View (GG g) Ln K o r) {k467 : Int32 → Int32 → Int32 → Int32 → Int64 → Int32 → Int32 → Int32 → St → Option (Int32 × St)} (hk467 : ∀ (x0 : Int32) (x1 : Int32) (x2 : Int32) (x5 : Int32) (x9 : Int64) (x11 : Int32) (x12 : Int32) (x16 : Int32) (s : St) (y3 : Slot) (hy3 : one1 y3 = true) (y6 : Slot) (hy6 : one1 y6 = true) (y7 : Slot) (hy7 : one1 y7 = true) (y8 : Slot) (hy8 : one1 y8 = true) (y13 : Slot) (hy13 : one1 y13 = true) (y14 : Slot) (hy14 : one1 y14 = true) (y15 : Slot) (hy15 : one1 y15 = true) (y17 : Slot) (hy17 : one1 y17 = true) (y18 : Slot) (hy18 : one1 y18 = true) (w : Int32 × St), k467 x0 x1 x2 x5 x9 x11 x12 x16 s = some w → Ev (GG g) M_law 467 [.val (.int x0), .val (.int x1), .val (.int x2), y3, .val (.ref o), .val (.int x5), y6, y7, y8, .val (.long x9), .second, .val (.int x11), .val (.int x12), y13, y14, y15, .val (.int x16), y17, y18] [] (K s) ((some (.int w.1)), (K w.2))) (x0 : Int32) (x1 : Int32) (x2 : Int32) (x5 : Int32) (x9 : Int64) (x11 : Int32) (x12 : Int32) (x16 : Int32) (x17 : Int32) (z0 : Int32) (s : St) (y3 : Slot) (hy3 : one1 y3 = true) (y6 : Slot) (hy6 : one1 y6 = true) (y7 : Slot) (hy7 : one1 y7 = true) (y8 : Slot) (hy8 : one1 y8 = true) (y13 : Slot) (hy13 : one1 y13 = true) (y14 : Slot) (hy14 : one1 y14 = true) (y15 : Slot) (hy15 : one1 y15 = true) (y18 : Slot) (hy18 : one1 y18 = true) (w : Int32 × St) (hr : f_law_538 n k467 x0 x1 x2 x5 x9 x11 x12 x16 x17 z0 s = some w) : Ev (GG g) M_law 538 [.val (.int x0), .val (.int x1), .val (.int x2), y3, .val (.ref o), .val (.int x5), y6, y7, y8, .val (.long x9), .second, .val (.int x11), .val (.int x12), y13, y14, y15, .val (.int x16), .val (.int x17), y18] [.int z0] (K s) ((some (.int w.1)), (K w.2)) := by
  unfold f_law_538 at hr
  refine Ev.istD (L' := [.val (.int x0), .val (.int x1), .val (.int x2), y3, .val (.ref o), .val (.int x5), y6, y7, y8, .val (.long x9), .second, .val (.int x11), .val (.int x12), y13, y14, y15, .val (.int x16), .val (.int x17), .val (.int z0)]) at_538 rfl hy18 rfl ?_
  refine Ev.iload at_540 rfl ?_
  refine Ev.iload at_542 rfl ?_
  refine Ev.iload at_544 rfl ?_
  refine Ev.icne (t := 553) at_546 rfl (fun c1 => ?_) (fun c1 => ?_)
  · replace hr := (if_pos c1).symm.trans hr
    refine Ev.iconst (z := 1) at_549 rfl ?_
    refine Ev.goto (t := 554) at_550 rfl ?_
    exact e_law_554 hw V hk467 x0 x1 x2 x9 x11 x12 x16 (1 : Int32) x5 s y3 hy3 (.val (.int x5)) rfl y6 hy6 y7 hy7 y8 hy8 y13 hy13 y14 hy14 y15 hy15 (.val (.int x17)) rfl (.val (.int z0)) rfl _ hr
  · replace hr := (if_neg c1).symm.trans hr
    refine Ev.iconst (z := 0) at_553 rfl ?_
    exact e_law_554 hw V hk467 x0 x1 x2 x9 x11 x12 x16 (0 : Int32) x5 s y3 hy3 (.val (.int x5)) rfl y6 hy6 y7 hy7 y8 hy8 y13 hy13 y14 hy14 y15 hy15 (.val (.int x17)) rfl (.val (.int z0)) rfl _ hr
def f_law_467 (n : Nat) : Nat → Int32 → Int32 → Int32 → Int32 → Int64 → Int32 → Int32 → Int32 → St → Option (Int32 × St)
  | 0 => fun _ _ _ _ _ _ _ _ _ => none
  | k + 1 => fun x0 x1 x2 x5 x9 x11 x12 x16 s =>
    if x16 < (8 : Int32) then
      (f_finalVar s x16).bind fun q2 =>
      if x16 = 0 then
        if x11 = 0 then
          f_law_538 n (f_law_467 n k) x0 x1 x2 x5 x9 x11 x12 x16 q2 x0 s
        else
          f_law_538 n (f_law_467 n k) x0 x1 x2 x5 x9 x11 x12 x16 q2 ((((x0).toInt64 + x9)).toInt32) s
      else
        if x16 = (1 : Int32) then
          f_law_538 n (f_law_467 n k) x0 x1 x2 x5 x9 x11 x12 x16 q2 x1 s
        else
          if x16 = (2 : Int32) then
            f_law_538 n (f_law_467 n k) x0 x1 x2 x5 x9 x11 x12 x16 q2 x2 s
          else
            if x16 = (3 : Int32) then
              f_law_538 n (f_law_467 n k) x0 x1 x2 x5 x9 x11 x12 x16 q2 x12 s
            else
              f_law_538 n (f_law_467 n k) x0 x1 x2 x5 x9 x11 x12 x16 q2 (0 : Int32) s
    else
      some ((x5 &&& 1), s)
set_option maxRecDepth 100000 in
theorem e_law_467 {g : GT} {n : Nat} (hw : HW g) {K : St → MHeap} {o : Nat} {r : Nat → Nat} (V : View (GG g) Ln K o r) (k : Nat) : ∀ (x0 : Int32) (x1 : Int32) (x2 : Int32) (x5 : Int32) (x9 : Int64) (x11 : Int32) (x12 : Int32) (x16 : Int32) (s : St) (y3 : Slot) (hy3 : one1 y3 = true) (y6 : Slot) (hy6 : one1 y6 = true) (y7 : Slot) (hy7 : one1 y7 = true) (y8 : Slot) (hy8 : one1 y8 = true) (y13 : Slot) (hy13 : one1 y13 = true) (y14 : Slot) (hy14 : one1 y14 = true) (y15 : Slot) (hy15 : one1 y15 = true) (y17 : Slot) (hy17 : one1 y17 = true) (y18 : Slot) (hy18 : one1 y18 = true) (w : Int32 × St), f_law_467 n k x0 x1 x2 x5 x9 x11 x12 x16 s = some w → Ev (GG g) M_law 467 [.val (.int x0), .val (.int x1), .val (.int x2), y3, .val (.ref o), .val (.int x5), y6, y7, y8, .val (.long x9), .second, .val (.int x11), .val (.int x12), y13, y14, y15, .val (.int x16), y17, y18] [] (K s) ((some (.int w.1)), (K w.2)) := by
  induction k with
  | zero => intro x0 x1 x2 x5 x9 x11 x12 x16 s y3 hy3 y6 hy6 y7 hy7 y8 hy8 y13 hy13 y14 hy14 y15 hy15 y17 hy17 y18 hy18 w hr; rw [f_law_467] at hr; cases hr
  | succ k ih =>
    intro x0 x1 x2 x5 x9 x11 x12 x16 s y3 hy3 y6 hy6 y7 hy7 y8 hy8 y13 hy13 y14 hy14 y15 hy15 y17 hy17 y18 hy18 w hr
    rw [f_law_467] at hr
    refine Ev.iload at_467 rfl ?_
    refine Ev.bipush (z := 8) at_469 rfl ?_
    refine Ev.icge (t := 563) at_471 rfl (fun c1 => ?_) (fun c1 => ?_)
    · replace hr := (if_pos c1).symm.trans hr
      refine Ev.aload at_474 rfl ?_
      refine Ev.iload at_476 rfl ?_
      obtain ⟨q2, hq3, hr⟩ := Option.bind_eq_some_iff.mp hr
      refine Ev.virt (y := M_finalVar) (args := [.int x16]) (rest := []) (gok hw) rfl nm_finalVar (ww hw 220 rfl) (ww hw 221 rfl) (ww hw 222 rfl) (ww hw 223 rfl) (ww hw 224 rfl) (lenOf pd_finalVar rfl) at_478 (V.2.1 s) (e_finalVar hw V hq3) (by decide) (Nat.le_of_ble_eq_true rfl) rfl ?_
      refine Ev.istD (L' := [.val (.int x0), .val (.int x1), .val (.int x2), y3, .val (.ref o), .val (.int x5), y6, y7, y8, .val (.long x9), .second, .val (.int x11), .val (.int x12), y13, y14, y15, .val (.int x16), .val (.int q2), y18]) at_481 rfl hy17 rfl ?_
      refine Ev.iload at_483 rfl ?_
      refine Ev.ifne (t := 506) at_485 rfl (fun c4 => ?_) (fun c4 => ?_)
      · replace hr := (if_pos c4).symm.trans hr
        refine Ev.iload at_488 rfl ?_
        refine Ev.ifeq (t := 502) at_490 rfl (fun c5 => ?_) (fun c5 => ?_)
        · replace hr := (if_pos c5).symm.trans hr
          refine Ev.iloadN at_502 rfl ?_
          refine Ev.goto (t := 538) at_503 rfl ?_
          exact e_law_538 hw V ih x0 x1 x2 x5 x9 x11 x12 x16 q2 x0 s y3 hy3 y6 hy6 y7 hy7 y8 hy8 y13 hy13 y14 hy14 y15 hy15 y18 hy18 _ hr
        · replace hr := (if_neg c5).symm.trans hr
          refine Ev.iloadN at_493 rfl ?_
          refine Ev.i2l at_494 ?_
          refine Ev.lload at_495 rfl ?_
          refine Ev.ladd at_497 ?_
          refine Ev.l2i at_498 ?_
          refine Ev.goto (t := 538) at_499 rfl ?_
          exact e_law_538 hw V ih x0 x1 x2 x5 x9 x11 x12 x16 q2 ((((x0).toInt64 + x9)).toInt32) s y3 hy3 y6 hy6 y7 hy7 y8 hy8 y13 hy13 y14 hy14 y15 hy15 y18 hy18 _ hr
      · replace hr := (if_neg c4).symm.trans hr
        refine Ev.iload at_506 rfl ?_
        refine Ev.iconst (z := 1) at_508 rfl ?_
        refine Ev.icne (t := 516) at_509 rfl (fun c6 => ?_) (fun c6 => ?_)
        · replace hr := (if_pos c6).symm.trans hr
          refine Ev.iloadN at_512 rfl ?_
          refine Ev.goto (t := 538) at_513 rfl ?_
          exact e_law_538 hw V ih x0 x1 x2 x5 x9 x11 x12 x16 q2 x1 s y3 hy3 y6 hy6 y7 hy7 y8 hy8 y13 hy13 y14 hy14 y15 hy15 y18 hy18 _ hr
        · replace hr := (if_neg c6).symm.trans hr
          refine Ev.iload at_516 rfl ?_
          refine Ev.iconst (z := 2) at_518 rfl ?_
          refine Ev.icne (t := 526) at_519 rfl (fun c7 => ?_) (fun c7 => ?_)
          · replace hr := (if_pos c7).symm.trans hr
            refine Ev.iloadN at_522 rfl ?_
            refine Ev.goto (t := 538) at_523 rfl ?_
            exact e_law_538 hw V ih x0 x1 x2 x5 x9 x11 x12 x16 q2 x2 s y3 hy3 y6 hy6 y7 hy7 y8 hy8 y13 hy13 y14 hy14 y15 hy15 y18 hy18 _ hr
          · replace hr := (if_neg c7).symm.trans hr
            refine Ev.iload at_526 rfl ?_
            refine Ev.iconst (z := 3) at_528 rfl ?_
            refine Ev.icne (t := 537) at_529 rfl (fun c8 => ?_) (fun c8 => ?_)
            · replace hr := (if_pos c8).symm.trans hr
              refine Ev.iload at_532 rfl ?_
              refine Ev.goto (t := 538) at_534 rfl ?_
              exact e_law_538 hw V ih x0 x1 x2 x5 x9 x11 x12 x16 q2 x12 s y3 hy3 y6 hy6 y7 hy7 y8 hy8 y13 hy13 y14 hy14 y15 hy15 y18 hy18 _ hr
            · replace hr := (if_neg c8).symm.trans hr
              refine Ev.iconst (z := 0) at_537 rfl ?_
              exact e_law_538 hw V ih x0 x1 x2 x5 x9 x11 x12 x16 q2 (0 : Int32) s y3 hy3 y6 hy6 y7 hy7 y8 hy8 y13 hy13 y14 hy14 y15 hy15 y18 hy18 _ hr
    · replace hr := (if_neg c1).symm.trans hr
      refine Ev.iload at_563 rfl ?_
      cases hr
      exact Ev.zreturn rfl at_565
def f_law_461 (n : Nat) (x0 : Int32) (x1 : Int32) (x2 : Int32) (x9 : Int64) (x11 : Int32) (x12 : Int32) (z0 : Int32) (z1 : Int32) (s : St) : Option (Int32 × St) :=
  f_law_467 n n x0 x1 x2 (z1 &&& z0) x9 x11 x12 (0 : Int32) s
set_option maxRecDepth 100000 in
theorem e_law_461 {g : GT} {n : Nat} (hw : HW g) {K : St → MHeap} {o : Nat} {r : Nat → Nat} (V : View (GG g) Ln K o r) (x0 : Int32) (x1 : Int32) (x2 : Int32) (x9 : Int64) (x11 : Int32) (x12 : Int32) (z0 : Int32) (z1 : Int32) (s : St) (y3 : Slot) (hy3 : one1 y3 = true) (y5 : Slot) (hy5 : one1 y5 = true) (y6 : Slot) (hy6 : one1 y6 = true) (y7 : Slot) (hy7 : one1 y7 = true) (y8 : Slot) (hy8 : one1 y8 = true) (y13 : Slot) (hy13 : one1 y13 = true) (y14 : Slot) (hy14 : one1 y14 = true) (y15 : Slot) (hy15 : one1 y15 = true) (y16 : Slot) (hy16 : one1 y16 = true) (y17 : Slot) (hy17 : one1 y17 = true) (y18 : Slot) (hy18 : one1 y18 = true) (w : Int32 × St) (hr : f_law_461 n x0 x1 x2 x9 x11 x12 z0 z1 s = some w) : Ev (GG g) M_law 461 [.val (.int x0), .val (.int x1), .val (.int x2), y3, .val (.ref o), y5, y6, y7, y8, .val (.long x9), .second, .val (.int x11), .val (.int x12), y13, y14, y15, y16, y17, y18] [.int z0, .int z1] (K s) ((some (.int w.1)), (K w.2)) := by
  unfold f_law_461 at hr
  refine Ev.iand at_461 ?_
  refine Ev.istD (L' := [.val (.int x0), .val (.int x1), .val (.int x2), y3, .val (.ref o), .val (.int (z1 &&& z0)), y6, y7, y8, .val (.long x9), .second, .val (.int x11), .val (.int x12), y13, y14, y15, y16, y17, y18]) at_462 rfl hy5 rfl ?_
  refine Ev.iconst (z := 0) at_464 rfl ?_
  refine Ev.istD (L' := [.val (.int x0), .val (.int x1), .val (.int x2), y3, .val (.ref o), .val (.int (z1 &&& z0)), y6, y7, y8, .val (.long x9), .second, .val (.int x11), .val (.int x12), y13, y14, y15, .val (.int (0 : Int32)), y17, y18]) at_465 rfl hy16 rfl ?_
  exact e_law_467 hw V  n x0 x1 x2 (z1 &&& z0) x9 x11 x12 (0 : Int32) s y3 hy3 y6 hy6 y7 hy7 y8 hy8 y13 hy13 y14 hy14 y15 hy15 y17 hy17 y18 hy18 _ hr
def f_law_344 (n : Nat) : Nat → Int32 → Int32 → Int32 → Int32 → Int64 → Int32 → Int32 → Int32 → St → Option (Int32 × St)
  | 0 => fun _ _ _ _ _ _ _ _ _ => none
  | k + 1 => fun x0 x1 x2 x5 x9 x11 x12 x15 s =>
    if x15 < (8 : Int32) then
      (f_output s x15).bind fun q2 =>
      (f_output s (x15 + (8 : Int32))).bind fun q4 =>
      (f_hdue (x15).toInt64 x9 x11 x0 x12).bind fun q6 =>
      if q2 = q6 then
        (f_hdue ((x15 + (8 : Int32))).toInt64 x9 x11 x0 x12).bind fun q9 =>
        if q4 = q9 then
          f_law_418 n (f_law_344 n k) x0 x1 x2 x9 x11 x12 x15 (1 : Int32) x5 s
        else
          f_law_418 n (f_law_344 n k) x0 x1 x2 x9 x11 x12 x15 (0 : Int32) x5 s
      else
        f_law_418 n (f_law_344 n k) x0 x1 x2 x9 x11 x12 x15 (0 : Int32) x5 s
    else
      (f_output s (16 : Int32)).bind fun q12 =>
      (f_hdue (16 : Int64) x9 x11 x0 x12).bind fun q14 =>
      if q12 = q14 then
        f_law_461 n x0 x1 x2 x9 x11 x12 (1 : Int32) x5 s
      else
        f_law_461 n x0 x1 x2 x9 x11 x12 (0 : Int32) x5 s
set_option maxRecDepth 100000 in
theorem e_law_344 {g : GT} {n : Nat} (hw : HW g) {K : St → MHeap} {o : Nat} {r : Nat → Nat} (V : View (GG g) Ln K o r) (k : Nat) : ∀ (x0 : Int32) (x1 : Int32) (x2 : Int32) (x5 : Int32) (x9 : Int64) (x11 : Int32) (x12 : Int32) (x15 : Int32) (s : St) (y3 : Slot) (hy3 : one1 y3 = true) (y6 : Slot) (hy6 : one1 y6 = true) (y7 : Slot) (hy7 : one1 y7 = true) (y8 : Slot) (hy8 : one1 y8 = true) (y13 : Slot) (hy13 : one1 y13 = true) (y14 : Slot) (hy14 : one1 y14 = true) (y16 : Slot) (hy16 : one1 y16 = true) (y17 : Slot) (hy17 : one1 y17 = true) (y18 : Slot) (hy18 : one1 y18 = true) (w : Int32 × St), f_law_344 n k x0 x1 x2 x5 x9 x11 x12 x15 s = some w → Ev (GG g) M_law 344 [.val (.int x0), .val (.int x1), .val (.int x2), y3, .val (.ref o), .val (.int x5), y6, y7, y8, .val (.long x9), .second, .val (.int x11), .val (.int x12), y13, y14, .val (.int x15), y16, y17, y18] [] (K s) ((some (.int w.1)), (K w.2)) := by
  induction k with
  | zero => intro x0 x1 x2 x5 x9 x11 x12 x15 s y3 hy3 y6 hy6 y7 hy7 y8 hy8 y13 hy13 y14 hy14 y16 hy16 y17 hy17 y18 hy18 w hr; rw [f_law_344] at hr; cases hr
  | succ k ih =>
    intro x0 x1 x2 x5 x9 x11 x12 x15 s y3 hy3 y6 hy6 y7 hy7 y8 hy8 y13 hy13 y14 hy14 y16 hy16 y17 hy17 y18 hy18 w hr
    rw [f_law_344] at hr
    refine Ev.iload at_344 rfl ?_
    refine Ev.bipush (z := 8) at_346 rfl ?_
    refine Ev.icge (t := 427) at_348 rfl (fun c1 => ?_) (fun c1 => ?_)
    · replace hr := (if_pos c1).symm.trans hr
      refine Ev.aload at_351 rfl ?_
      refine Ev.iload at_353 rfl ?_
      obtain ⟨q2, hq3, hr⟩ := Option.bind_eq_some_iff.mp hr
      refine Ev.virt (y := M_output) (args := [.int x15]) (rest := []) (gok hw) rfl nm_output (ww hw 211 rfl) (ww hw 212 rfl) (ww hw 213 rfl) (ww hw 214 rfl) (ww hw 215 rfl) (lenOf pd_output rfl) at_355 (V.2.1 s) (e_output hw V hq3) (by decide) (Nat.le_of_ble_eq_true rfl) rfl ?_
      refine Ev.istD (L' := [.val (.int x0), .val (.int x1), .val (.int x2), y3, .val (.ref o), .val (.int x5), y6, y7, y8, .val (.long x9), .second, .val (.int x11), .val (.int x12), y13, y14, .val (.int x15), .val (.int q2), y17, y18]) at_358 rfl hy16 rfl ?_
      refine Ev.aload at_360 rfl ?_
      refine Ev.iload at_362 rfl ?_
      refine Ev.bipush (z := 8) at_364 rfl ?_
      refine Ev.iadd at_366 ?_
      obtain ⟨q4, hq5, hr⟩ := Option.bind_eq_some_iff.mp hr
      refine Ev.virt (y := M_output) (args := [.int (x15 + (8 : Int32))]) (rest := []) (gok hw) rfl nm_output (ww hw 211 rfl) (ww hw 212 rfl) (ww hw 213 rfl) (ww hw 214 rfl) (ww hw 215 rfl) (lenOf pd_output rfl) at_367 (V.2.1 s) (e_output hw V hq5) (by decide) (Nat.le_of_ble_eq_true rfl) rfl ?_
      refine Ev.istD (L' := [.val (.int x0), .val (.int x1), .val (.int x2), y3, .val (.ref o), .val (.int x5), y6, y7, y8, .val (.long x9), .second, .val (.int x11), .val (.int x12), y13, y14, .val (.int x15), .val (.int q2), .val (.int q4), y18]) at_370 rfl hy17 rfl ?_
      refine Ev.iload at_372 rfl ?_
      refine Ev.iload at_374 rfl ?_
      refine Ev.iload at_376 rfl ?_
      refine Ev.i2l at_378 ?_
      refine Ev.lload at_379 rfl ?_
      refine Ev.iload at_381 rfl ?_
      refine Ev.iloadN at_383 rfl ?_
      refine Ev.iload at_384 rfl ?_
      obtain ⟨q6, hq7, hr⟩ := Option.bind_eq_some_iff.mp hr
      refine Ev.stat (y := M_hdue) (args := [.long (x15).toInt64, .long x9, .int x11, .int x0, .int x12]) (rest := [.int q2, .int x5]) nm_hdue (ww hw 216 rfl) (ww hw 217 rfl) (ww hw 218 rfl) (ww hw 219 rfl) (lenOf pd_hdue rfl) at_386 (e_hdue hw hq7) (by decide) (Nat.le_of_ble_eq_true rfl) rfl ?_
      refine Ev.icne (t := 417) at_389 rfl (fun c8 => ?_) (fun c8 => ?_)
      · replace hr := (if_pos c8).symm.trans hr
        refine Ev.iload at_392 rfl ?_
        refine Ev.iload at_394 rfl ?_
        refine Ev.bipush (z := 8) at_396 rfl ?_
        refine Ev.iadd at_398 ?_
        refine Ev.i2l at_399 ?_
        refine Ev.lload at_400 rfl ?_
        refine Ev.iload at_402 rfl ?_
        refine Ev.iloadN at_404 rfl ?_
        refine Ev.iload at_405 rfl ?_
        obtain ⟨q9, hq10, hr⟩ := Option.bind_eq_some_iff.mp hr
        refine Ev.stat (y := M_hdue) (args := [.long ((x15 + (8 : Int32))).toInt64, .long x9, .int x11, .int x0, .int x12]) (rest := [.int q4, .int x5]) nm_hdue (ww hw 216 rfl) (ww hw 217 rfl) (ww hw 218 rfl) (ww hw 219 rfl) (lenOf pd_hdue rfl) at_407 (e_hdue hw hq10) (by decide) (Nat.le_of_ble_eq_true rfl) rfl ?_
        refine Ev.icne (t := 417) at_410 rfl (fun c11 => ?_) (fun c11 => ?_)
        · replace hr := (if_pos c11).symm.trans hr
          refine Ev.iconst (z := 1) at_413 rfl ?_
          refine Ev.goto (t := 418) at_414 rfl ?_
          exact e_law_418 hw V ih x0 x1 x2 x9 x11 x12 x15 (1 : Int32) x5 s y3 hy3 (.val (.int x5)) rfl y6 hy6 y7 hy7 y8 hy8 y13 hy13 y14 hy14 (.val (.int q2)) rfl (.val (.int q4)) rfl y18 hy18 _ hr
        · replace hr := (if_neg c11).symm.trans hr
          refine Ev.iconst (z := 0) at_417 rfl ?_
          exact e_law_418 hw V ih x0 x1 x2 x9 x11 x12 x15 (0 : Int32) x5 s y3 hy3 (.val (.int x5)) rfl y6 hy6 y7 hy7 y8 hy8 y13 hy13 y14 hy14 (.val (.int q2)) rfl (.val (.int q4)) rfl y18 hy18 _ hr
      · replace hr := (if_neg c8).symm.trans hr
        refine Ev.iconst (z := 0) at_417 rfl ?_
        exact e_law_418 hw V ih x0 x1 x2 x9 x11 x12 x15 (0 : Int32) x5 s y3 hy3 (.val (.int x5)) rfl y6 hy6 y7 hy7 y8 hy8 y13 hy13 y14 hy14 (.val (.int q2)) rfl (.val (.int q4)) rfl y18 hy18 _ hr
    · replace hr := (if_neg c1).symm.trans hr
      refine Ev.aload at_427 rfl ?_
      refine Ev.bipush (z := 16) at_429 rfl ?_
      obtain ⟨q12, hq13, hr⟩ := Option.bind_eq_some_iff.mp hr
      refine Ev.virt (y := M_output) (args := [.int (16 : Int32)]) (rest := []) (gok hw) rfl nm_output (ww hw 211 rfl) (ww hw 212 rfl) (ww hw 213 rfl) (ww hw 214 rfl) (ww hw 215 rfl) (lenOf pd_output rfl) at_431 (V.2.1 s) (e_output hw V hq13) (by decide) (Nat.le_of_ble_eq_true rfl) rfl ?_
      refine Ev.istD (L' := [.val (.int x0), .val (.int x1), .val (.int x2), y3, .val (.ref o), .val (.int x5), y6, y7, y8, .val (.long x9), .second, .val (.int x11), .val (.int x12), y13, y14, .val (.int q12), y16, y17, y18]) at_434 rfl rfl rfl ?_
      refine Ev.iload at_436 rfl ?_
      refine Ev.iload at_438 rfl ?_
      refine Ev.ldcL (ww hw 209 rfl) at_440 ?_
      refine Ev.lload at_443 rfl ?_
      refine Ev.iload at_445 rfl ?_
      refine Ev.iloadN at_447 rfl ?_
      refine Ev.iload at_448 rfl ?_
      obtain ⟨q14, hq15, hr⟩ := Option.bind_eq_some_iff.mp hr
      refine Ev.stat (y := M_hdue) (args := [.long (16 : Int64), .long x9, .int x11, .int x0, .int x12]) (rest := [.int q12, .int x5]) nm_hdue (ww hw 216 rfl) (ww hw 217 rfl) (ww hw 218 rfl) (ww hw 219 rfl) (lenOf pd_hdue rfl) at_450 (e_hdue hw hq15) (by decide) (Nat.le_of_ble_eq_true rfl) rfl ?_
      refine Ev.icne (t := 460) at_453 rfl (fun c16 => ?_) (fun c16 => ?_)
      · replace hr := (if_pos c16).symm.trans hr
        refine Ev.iconst (z := 1) at_456 rfl ?_
        refine Ev.goto (t := 461) at_457 rfl ?_
        exact e_law_461 hw V  x0 x1 x2 x9 x11 x12 (1 : Int32) x5 s y3 hy3 (.val (.int x5)) rfl y6 hy6 y7 hy7 y8 hy8 y13 hy13 y14 hy14 (.val (.int q12)) rfl y16 hy16 y17 hy17 y18 hy18 _ hr
      · replace hr := (if_neg c16).symm.trans hr
        refine Ev.iconst (z := 0) at_460 rfl ?_
        exact e_law_461 hw V  x0 x1 x2 x9 x11 x12 (0 : Int32) x5 s y3 hy3 (.val (.int x5)) rfl y6 hy6 y7 hy7 y8 hy8 y13 hy13 y14 hy14 (.val (.int q12)) rfl y16 hy16 y17 hy17 y18 hy18 _ hr
def f_law_338 (n : Nat) (x0 : Int32) (x1 : Int32) (x2 : Int32) (x9 : Int64) (x11 : Int32) (x12 : Int32) (z0 : Int32) (z1 : Int32) (s : St) : Option (Int32 × St) :=
  f_law_344 n n x0 x1 x2 (z1 &&& z0) x9 x11 x12 (0 : Int32) s
set_option maxRecDepth 100000 in
theorem e_law_338 {g : GT} {n : Nat} (hw : HW g) {K : St → MHeap} {o : Nat} {r : Nat → Nat} (V : View (GG g) Ln K o r) (x0 : Int32) (x1 : Int32) (x2 : Int32) (x9 : Int64) (x11 : Int32) (x12 : Int32) (z0 : Int32) (z1 : Int32) (s : St) (y3 : Slot) (hy3 : one1 y3 = true) (y5 : Slot) (hy5 : one1 y5 = true) (y6 : Slot) (hy6 : one1 y6 = true) (y7 : Slot) (hy7 : one1 y7 = true) (y8 : Slot) (hy8 : one1 y8 = true) (y13 : Slot) (hy13 : one1 y13 = true) (y14 : Slot) (hy14 : one1 y14 = true) (y15 : Slot) (hy15 : one1 y15 = true) (y16 : Slot) (hy16 : one1 y16 = true) (y17 : Slot) (hy17 : one1 y17 = true) (y18 : Slot) (hy18 : one1 y18 = true) (w : Int32 × St) (hr : f_law_338 n x0 x1 x2 x9 x11 x12 z0 z1 s = some w) : Ev (GG g) M_law 338 [.val (.int x0), .val (.int x1), .val (.int x2), y3, .val (.ref o), y5, y6, y7, y8, .val (.long x9), .second, .val (.int x11), .val (.int x12), y13, y14, y15, y16, y17, y18] [.int z0, .int z1] (K s) ((some (.int w.1)), (K w.2)) := by
  unfold f_law_338 at hr
  refine Ev.iand at_338 ?_
  refine Ev.istD (L' := [.val (.int x0), .val (.int x1), .val (.int x2), y3, .val (.ref o), .val (.int (z1 &&& z0)), y6, y7, y8, .val (.long x9), .second, .val (.int x11), .val (.int x12), y13, y14, y15, y16, y17, y18]) at_339 rfl hy5 rfl ?_
  refine Ev.iconst (z := 0) at_341 rfl ?_
  refine Ev.istD (L' := [.val (.int x0), .val (.int x1), .val (.int x2), y3, .val (.ref o), .val (.int (z1 &&& z0)), y6, y7, y8, .val (.long x9), .second, .val (.int x11), .val (.int x12), y13, y14, .val (.int (0 : Int32)), y16, y17, y18]) at_342 rfl hy15 rfl ?_
  exact e_law_344 hw V  n x0 x1 x2 (z1 &&& z0) x9 x11 x12 (0 : Int32) s y3 hy3 y6 hy6 y7 hy7 y8 hy8 y13 hy13 y14 hy14 y16 hy16 y17 hy17 y18 hy18 _ hr
def f_law_308 (n : Nat) (x0 : Int32) (x1 : Int32) (x2 : Int32) (x5 : Int32) (x6 : Int32) (x7 : Int32) (x8 : Int32) (x9 : Int64) (x11 : Int32) (x12 : Int32) (x13 : Int32) (z0 : Int32) (s : St) : Option (Int32 × St) :=
  if x6 = x13 then
    if x7 = x13 then
      if x8 = z0 then
        f_law_338 n x0 x1 x2 x9 x11 x12 (1 : Int32) x5 s
      else
        f_law_338 n x0 x1 x2 x9 x11 x12 (0 : Int32) x5 s
    else
      f_law_338 n x0 x1 x2 x9 x11 x12 (0 : Int32) x5 s
  else
    f_law_338 n x0 x1 x2 x9 x11 x12 (0 : Int32) x5 s
set_option maxRecDepth 100000 in
theorem e_law_308 {g : GT} {n : Nat} (hw : HW g) {K : St → MHeap} {o : Nat} {r : Nat → Nat} (V : View (GG g) Ln K o r) (x0 : Int32) (x1 : Int32) (x2 : Int32) (x5 : Int32) (x6 : Int32) (x7 : Int32) (x8 : Int32) (x9 : Int64) (x11 : Int32) (x12 : Int32) (x13 : Int32) (z0 : Int32) (s : St) (y3 : Slot) (hy3 : one1 y3 = true) (y14 : Slot) (hy14 : one1 y14 = true) (y15 : Slot) (hy15 : one1 y15 = true) (y16 : Slot) (hy16 : one1 y16 = true) (y17 : Slot) (hy17 : one1 y17 = true) (y18 : Slot) (hy18 : one1 y18 = true) (w : Int32 × St) (hr : f_law_308 n x0 x1 x2 x5 x6 x7 x8 x9 x11 x12 x13 z0 s = some w) : Ev (GG g) M_law 308 [.val (.int x0), .val (.int x1), .val (.int x2), y3, .val (.ref o), .val (.int x5), .val (.int x6), .val (.int x7), .val (.int x8), .val (.long x9), .second, .val (.int x11), .val (.int x12), .val (.int x13), y14, y15, y16, y17, y18] [.int z0] (K s) ((some (.int w.1)), (K w.2)) := by
  unfold f_law_308 at hr
  refine Ev.istD (L' := [.val (.int x0), .val (.int x1), .val (.int x2), y3, .val (.ref o), .val (.int x5), .val (.int x6), .val (.int x7), .val (.int x8), .val (.long x9), .second, .val (.int x11), .val (.int x12), .val (.int x13), .val (.int z0), y15, y16, y17, y18]) at_308 rfl hy14 rfl ?_
  refine Ev.iload at_310 rfl ?_
  refine Ev.iload at_312 rfl ?_
  refine Ev.iload at_314 rfl ?_
  refine Ev.icne (t := 337) at_316 rfl (fun c1 => ?_) (fun c1 => ?_)
  · replace hr := (if_pos c1).symm.trans hr
    refine Ev.iload at_319 rfl ?_
    refine Ev.iload at_321 rfl ?_
    refine Ev.icne (t := 337) at_323 rfl (fun c2 => ?_) (fun c2 => ?_)
    · replace hr := (if_pos c2).symm.trans hr
      refine Ev.iload at_326 rfl ?_
      refine Ev.iload at_328 rfl ?_
      refine Ev.icne (t := 337) at_330 rfl (fun c3 => ?_) (fun c3 => ?_)
      · replace hr := (if_pos c3).symm.trans hr
        refine Ev.iconst (z := 1) at_333 rfl ?_
        refine Ev.goto (t := 338) at_334 rfl ?_
        exact e_law_338 hw V  x0 x1 x2 x9 x11 x12 (1 : Int32) x5 s y3 hy3 (.val (.int x5)) rfl (.val (.int x6)) rfl (.val (.int x7)) rfl (.val (.int x8)) rfl (.val (.int x13)) rfl (.val (.int z0)) rfl y15 hy15 y16 hy16 y17 hy17 y18 hy18 _ hr
      · replace hr := (if_neg c3).symm.trans hr
        refine Ev.iconst (z := 0) at_337 rfl ?_
        exact e_law_338 hw V  x0 x1 x2 x9 x11 x12 (0 : Int32) x5 s y3 hy3 (.val (.int x5)) rfl (.val (.int x6)) rfl (.val (.int x7)) rfl (.val (.int x8)) rfl (.val (.int x13)) rfl (.val (.int z0)) rfl y15 hy15 y16 hy16 y17 hy17 y18 hy18 _ hr
    · replace hr := (if_neg c2).symm.trans hr
      refine Ev.iconst (z := 0) at_337 rfl ?_
      exact e_law_338 hw V  x0 x1 x2 x9 x11 x12 (0 : Int32) x5 s y3 hy3 (.val (.int x5)) rfl (.val (.int x6)) rfl (.val (.int x7)) rfl (.val (.int x8)) rfl (.val (.int x13)) rfl (.val (.int z0)) rfl y15 hy15 y16 hy16 y17 hy17 y18 hy18 _ hr
  · replace hr := (if_neg c1).symm.trans hr
    refine Ev.iconst (z := 0) at_337 rfl ?_
    exact e_law_338 hw V  x0 x1 x2 x9 x11 x12 (0 : Int32) x5 s y3 hy3 (.val (.int x5)) rfl (.val (.int x6)) rfl (.val (.int x7)) rfl (.val (.int x8)) rfl (.val (.int x13)) rfl (.val (.int z0)) rfl y15 hy15 y16 hy16 y17 hy17 y18 hy18 _ hr
def f_law_292 (n : Nat) (x0 : Int32) (x1 : Int32) (x2 : Int32) (x5 : Int32) (x6 : Int32) (x7 : Int32) (x8 : Int32) (x9 : Int64) (x11 : Int32) (x12 : Int32) (z0 : Int32) (s : St) : Option (Int32 × St) :=
  if x11 = 0 then
    f_law_308 n x0 x1 x2 x5 x6 x7 x8 x9 x11 x12 z0 (0 : Int32) s
  else
    f_law_308 n x0 x1 x2 x5 x6 x7 x8 x9 x11 x12 z0 ((x9).toInt32 + (1 : Int32)) s
set_option maxRecDepth 100000 in
theorem e_law_292 {g : GT} {n : Nat} (hw : HW g) {K : St → MHeap} {o : Nat} {r : Nat → Nat} (V : View (GG g) Ln K o r) (x0 : Int32) (x1 : Int32) (x2 : Int32) (x5 : Int32) (x6 : Int32) (x7 : Int32) (x8 : Int32) (x9 : Int64) (x11 : Int32) (x12 : Int32) (z0 : Int32) (s : St) (y3 : Slot) (hy3 : one1 y3 = true) (y13 y14 : Slot) (hy13 : two2 y13 y14) (y15 : Slot) (hy15 : one1 y15 = true) (y16 : Slot) (hy16 : one1 y16 = true) (y17 : Slot) (hy17 : one1 y17 = true) (y18 : Slot) (hy18 : one1 y18 = true) (w : Int32 × St) (hr : f_law_292 n x0 x1 x2 x5 x6 x7 x8 x9 x11 x12 z0 s = some w) : Ev (GG g) M_law 292 [.val (.int x0), .val (.int x1), .val (.int x2), y3, .val (.ref o), .val (.int x5), .val (.int x6), .val (.int x7), .val (.int x8), .val (.long x9), .second, .val (.int x11), .val (.int x12), y13, y14, y15, y16, y17, y18] [.int z0] (K s) ((some (.int w.1)), (K w.2)) := by
  unfold f_law_292 at hr
  refine Ev.istT (L' := fun b1 => [.val (.int x0), .val (.int x1), .val (.int x2), y3, .val (.ref o), .val (.int x5), .val (.int x6), .val (.int x7), .val (.int x8), .val (.long x9), .second, .val (.int x11), .val (.int x12), .val (.int z0), b1, y15, y16, y17, y18]) at_292 rfl rfl hy13 (fun _ => rfl) (fun b1 hb2 => ?_)
  refine Ev.iload at_294 rfl ?_
  refine Ev.ifeq (t := 307) at_296 rfl (fun c3 => ?_) (fun c3 => ?_)
  · replace hr := (if_pos c3).symm.trans hr
    refine Ev.iconst (z := 0) at_307 rfl ?_
    exact e_law_308 hw V  x0 x1 x2 x5 x6 x7 x8 x9 x11 x12 z0 (0 : Int32) s y3 hy3 b1 hb2 y15 hy15 y16 hy16 y17 hy17 y18 hy18 _ hr
  · replace hr := (if_neg c3).symm.trans hr
    refine Ev.lload at_299 rfl ?_
    refine Ev.l2i at_301 ?_
    refine Ev.iconst (z := 1) at_302 rfl ?_
    refine Ev.iadd at_303 ?_
    refine Ev.goto (t := 308) at_304 rfl ?_
    exact e_law_308 hw V  x0 x1 x2 x5 x6 x7 x8 x9 x11 x12 z0 ((x9).toInt32 + (1 : Int32)) s y3 hy3 b1 hb2 y15 hy15 y16 hy16 y17 hy17 y18 hy18 _ hr
def f_law_282 (n : Nat) (x0 : Int32) (x1 : Int32) (x2 : Int32) (x5 : Int32) (x6 : Int32) (x7 : Int32) (x8 : Int32) (x9 : Int64) (x11 : Int32) (x12 : Int32) (s : St) : Option (Int32 × St) :=
  if x11 = 0 then
    f_law_292 n x0 x1 x2 x5 x6 x7 x8 x9 x11 x12 (2 : Int32) s
  else
    f_law_292 n x0 x1 x2 x5 x6 x7 x8 x9 x11 x12 (1 : Int32) s
set_option maxRecDepth 100000 in
theorem e_law_282 {g : GT} {n : Nat} (hw : HW g) {K : St → MHeap} {o : Nat} {r : Nat → Nat} (V : View (GG g) Ln K o r) (x0 : Int32) (x1 : Int32) (x2 : Int32) (x5 : Int32) (x6 : Int32) (x7 : Int32) (x8 : Int32) (x9 : Int64) (x11 : Int32) (x12 : Int32) (s : St) (y3 : Slot) (hy3 : one1 y3 = true) (y13 y14 : Slot) (hy13 : two2 y13 y14) (y15 : Slot) (hy15 : one1 y15 = true) (y16 : Slot) (hy16 : one1 y16 = true) (y17 : Slot) (hy17 : one1 y17 = true) (y18 : Slot) (hy18 : one1 y18 = true) (w : Int32 × St) (hr : f_law_282 n x0 x1 x2 x5 x6 x7 x8 x9 x11 x12 s = some w) : Ev (GG g) M_law 282 [.val (.int x0), .val (.int x1), .val (.int x2), y3, .val (.ref o), .val (.int x5), .val (.int x6), .val (.int x7), .val (.int x8), .val (.long x9), .second, .val (.int x11), .val (.int x12), y13, y14, y15, y16, y17, y18] [] (K s) ((some (.int w.1)), (K w.2)) := by
  unfold f_law_282 at hr
  refine Ev.iload at_282 rfl ?_
  refine Ev.ifeq (t := 291) at_284 rfl (fun c1 => ?_) (fun c1 => ?_)
  · replace hr := (if_pos c1).symm.trans hr
    refine Ev.iconst (z := 2) at_291 rfl ?_
    exact e_law_292 hw V  x0 x1 x2 x5 x6 x7 x8 x9 x11 x12 (2 : Int32) s y3 hy3 y13 y14 hy13 y15 hy15 y16 hy16 y17 hy17 y18 hy18 _ hr
  · replace hr := (if_neg c1).symm.trans hr
    refine Ev.iconst (z := 1) at_287 rfl ?_
    refine Ev.goto (t := 292) at_288 rfl ?_
    exact e_law_292 hw V  x0 x1 x2 x5 x6 x7 x8 x9 x11 x12 (1 : Int32) s y3 hy3 y13 y14 hy13 y15 hy15 y16 hy16 y17 hy17 y18 hy18 _ hr
def f_law_239 (n : Nat) (x0 : Int32) (x1 : Int32) (x2 : Int32) (x5 : Int32) (x6 : Int32) (x7 : Int32) (x8 : Int32) (x9 : Int64) (z0 : Int32) (s : St) : Option (Int32 × St) :=
  if z0 = 0 then
    f_law_282 n x0 x1 x2 x5 x6 x7 x8 x9 z0 (0 : Int32) s
  else
    bnd ((x9 * (x0).toInt64) + ((x9 * (x9 - (1 : Int64))) / (2 : Int64))) fun v2 =>
    if x2 = 0 then
      f_law_282 n x0 x1 x2 x5 x6 x7 x8 x9 z0 (-(v2).toInt32) s
    else
      f_law_282 n x0 x1 x2 x5 x6 x7 x8 x9 z0 ((v2).toInt32) s
set_option maxRecDepth 100000 in
theorem e_law_239 {g : GT} {n : Nat} (hw : HW g) {K : St → MHeap} {o : Nat} {r : Nat → Nat} (V : View (GG g) Ln K o r) (x0 : Int32) (x1 : Int32) (x2 : Int32) (x5 : Int32) (x6 : Int32) (x7 : Int32) (x8 : Int32) (x9 : Int64) (z0 : Int32) (s : St) (y3 : Slot) (hy3 : one1 y3 = true) (y11 : Slot) (hy11 : one1 y11 = true) (y12 : Slot) (hy12 : one1 y12 = true) (y13 : Slot) (hy13 : one1 y13 = true) (y14 : Slot) (hy14 : one1 y14 = true) (y15 : Slot) (hy15 : one1 y15 = true) (y16 : Slot) (hy16 : one1 y16 = true) (y17 : Slot) (hy17 : one1 y17 = true) (y18 : Slot) (hy18 : one1 y18 = true) (w : Int32 × St) (hr : f_law_239 n x0 x1 x2 x5 x6 x7 x8 x9 z0 s = some w) : Ev (GG g) M_law 239 [.val (.int x0), .val (.int x1), .val (.int x2), y3, .val (.ref o), .val (.int x5), .val (.int x6), .val (.int x7), .val (.int x8), .val (.long x9), .second, y11, y12, y13, y14, y15, y16, y17, y18] [.int z0] (K s) ((some (.int w.1)), (K w.2)) := by
  unfold f_law_239 at hr
  refine Ev.istD (L' := [.val (.int x0), .val (.int x1), .val (.int x2), y3, .val (.ref o), .val (.int x5), .val (.int x6), .val (.int x7), .val (.int x8), .val (.long x9), .second, .val (.int z0), y12, y13, y14, y15, y16, y17, y18]) at_239 rfl hy11 rfl ?_
  refine Ev.iconst (z := 0) at_241 rfl ?_
  refine Ev.istD (L' := [.val (.int x0), .val (.int x1), .val (.int x2), y3, .val (.ref o), .val (.int x5), .val (.int x6), .val (.int x7), .val (.int x8), .val (.long x9), .second, .val (.int z0), .val (.int (0 : Int32)), y13, y14, y15, y16, y17, y18]) at_242 rfl hy12 rfl ?_
  refine Ev.iload at_244 rfl ?_
  refine Ev.ifeq (t := 282) at_246 rfl (fun c1 => ?_) (fun c1 => ?_)
  · replace hr := (if_pos c1).symm.trans hr
    exact e_law_282 hw V  x0 x1 x2 x5 x6 x7 x8 x9 z0 (0 : Int32) s y3 hy3 y13 y14 (Or.inl ⟨hy13, hy14⟩) y15 hy15 y16 hy16 y17 hy17 y18 hy18 _ hr
  · replace hr := (if_neg c1).symm.trans hr
    refine Ev.lload at_249 rfl ?_
    refine Ev.iloadN at_251 rfl ?_
    refine Ev.i2l at_252 ?_
    refine Ev.lmul at_253 ?_
    refine Ev.lload at_254 rfl ?_
    refine Ev.lload at_256 rfl ?_
    refine Ev.lconst (z := 1) at_258 rfl ?_
    refine Ev.lsub at_259 ?_
    refine Ev.lmul at_260 ?_
    refine Ev.ldcL (ww hw 210 rfl) at_261 ?_
    refine Ev.ldiv at_264 (by decide) ?_
    refine Ev.ladd at_265 ?_
    revert hr
    generalize ((x9 * (x0).toInt64) + ((x9 * (x9 - (1 : Int64))) / (2 : Int64))) = v2
    intro hr
    replace hr := (bnd_eq _ _).symm.trans hr
    refine Ev.lstD (L' := [.val (.int x0), .val (.int x1), .val (.int x2), y3, .val (.ref o), .val (.int x5), .val (.int x6), .val (.int x7), .val (.int x8), .val (.long x9), .second, .val (.int z0), .val (.int (0 : Int32)), .val (.long v2), .second, y15, y16, y17, y18]) at_266 rfl rfl (Or.inl ⟨hy13, hy14⟩) rfl ?_
    refine Ev.lload at_268 rfl ?_
    refine Ev.l2i at_270 ?_
    refine Ev.istD (L' := [.val (.int x0), .val (.int x1), .val (.int x2), y3, .val (.ref o), .val (.int x5), .val (.int x6), .val (.int x7), .val (.int x8), .val (.long x9), .second, .val (.int z0), .val (.int (v2).toInt32), .val (.long v2), .second, y15, y16, y17, y18]) at_271 rfl rfl rfl ?_
    refine Ev.iloadN at_273 rfl ?_
    refine Ev.ifne (t := 282) at_274 rfl (fun c3 => ?_) (fun c3 => ?_)
    · replace hr := (if_pos c3).symm.trans hr
      refine Ev.iload at_277 rfl ?_
      refine Ev.ineg at_279 ?_
      refine Ev.istD (L' := [.val (.int x0), .val (.int x1), .val (.int x2), y3, .val (.ref o), .val (.int x5), .val (.int x6), .val (.int x7), .val (.int x8), .val (.long x9), .second, .val (.int z0), .val (.int (-(v2).toInt32)), .val (.long v2), .second, y15, y16, y17, y18]) at_280 rfl rfl rfl ?_
      exact e_law_282 hw V  x0 x1 x2 x5 x6 x7 x8 x9 z0 (-(v2).toInt32) s y3 hy3 (.val (.long v2)) .second (Or.inr ⟨_, rfl, rfl⟩) y15 hy15 y16 hy16 y17 hy17 y18 hy18 _ hr
    · replace hr := (if_neg c3).symm.trans hr
      exact e_law_282 hw V  x0 x1 x2 x5 x6 x7 x8 x9 z0 ((v2).toInt32) s y3 hy3 (.val (.long v2)) .second (Or.inr ⟨_, rfl, rfl⟩) y15 hy15 y16 hy16 y17 hy17 y18 hy18 _ hr
def f_law_225 (n : Nat) (x0 : Int32) (x1 : Int32) (x2 : Int32) (x5 : Int32) (x6 : Int32) (x7 : Int32) (x8 : Int32) (x9 : Int64) (s : St) : Option (Int32 × St) :=
  if 0 < (XT.cmpL x9 (16 : Int64)) then
    f_law_239 n x0 x1 x2 x5 x6 x7 x8 x9 (0 : Int32) s
  else
    f_law_239 n x0 x1 x2 x5 x6 x7 x8 x9 (1 : Int32) s
set_option maxRecDepth 100000 in
theorem e_law_225 {g : GT} {n : Nat} (hw : HW g) {K : St → MHeap} {o : Nat} {r : Nat → Nat} (V : View (GG g) Ln K o r) (x0 : Int32) (x1 : Int32) (x2 : Int32) (x5 : Int32) (x6 : Int32) (x7 : Int32) (x8 : Int32) (x9 : Int64) (s : St) (y3 : Slot) (hy3 : one1 y3 = true) (y11 : Slot) (hy11 : one1 y11 = true) (y12 : Slot) (hy12 : one1 y12 = true) (y13 : Slot) (hy13 : one1 y13 = true) (y14 : Slot) (hy14 : one1 y14 = true) (y15 : Slot) (hy15 : one1 y15 = true) (y16 : Slot) (hy16 : one1 y16 = true) (y17 : Slot) (hy17 : one1 y17 = true) (y18 : Slot) (hy18 : one1 y18 = true) (w : Int32 × St) (hr : f_law_225 n x0 x1 x2 x5 x6 x7 x8 x9 s = some w) : Ev (GG g) M_law 225 [.val (.int x0), .val (.int x1), .val (.int x2), y3, .val (.ref o), .val (.int x5), .val (.int x6), .val (.int x7), .val (.int x8), .val (.long x9), .second, y11, y12, y13, y14, y15, y16, y17, y18] [] (K s) ((some (.int w.1)), (K w.2)) := by
  unfold f_law_225 at hr
  refine Ev.lload at_225 rfl ?_
  refine Ev.ldcL (ww hw 209 rfl) at_227 ?_
  refine Ev.lcmp at_230 ?_
  refine Ev.ifgt (t := 238) at_231 rfl (fun c1 => ?_) (fun c1 => ?_)
  · replace hr := (if_pos c1).symm.trans hr
    refine Ev.iconst (z := 0) at_238 rfl ?_
    exact e_law_239 hw V  x0 x1 x2 x5 x6 x7 x8 x9 (0 : Int32) s y3 hy3 y11 hy11 y12 hy12 y13 hy13 y14 hy14 y15 hy15 y16 hy16 y17 hy17 y18 hy18 _ hr
  · replace hr := (if_neg c1).symm.trans hr
    refine Ev.iconst (z := 1) at_234 rfl ?_
    refine Ev.goto (t := 239) at_235 rfl ?_
    exact e_law_239 hw V  x0 x1 x2 x5 x6 x7 x8 x9 (1 : Int32) s y3 hy3 y11 hy11 y12 hy12 y13 hy13 y14 hy14 y15 hy15 y16 hy16 y17 hy17 y18 hy18 _ hr
def f_law_7 (n : Nat) (x0 : Int32) (x1 : Int32) (x2 : Int32) (x3 : Int32) (s : St) : Option (Int32 × St) :=
  (f_setInput (0 : Int32) x0 s).bind fun q1 =>
  (f_setInput (1 : Int32) x1 q1.2).bind fun q3 =>
  (f_setInput (2 : Int32) x2 q3.2).bind fun q5 =>
  (f_emit (10 : Int32) (0 : Int32) (1 : Int32) (1 : Int32) q5.2).bind fun q7 =>
  bnd (((q1.1 &&& q3.1) &&& q5.1) &&& q7.1) fun v9 =>
  (f_emit (12 : Int32) (2 : Int32) (0 : Int32) (0 : Int32) q7.2).bind fun q10 =>
  (f_emit (2 : Int32) (3 : Int32) (3 : Int32) (0 : Int32) q10.2).bind fun q12 =>
  (f_emit (13 : Int32) (0 : Int32) (0 : Int32) (0 : Int32) q12.2).bind fun q14 =>
  bnd (((v9 &&& q10.1) &&& q12.1) &&& q14.1) fun v16 =>
  (f_emit (3 : Int32) (3 : Int32) (3 : Int32) (0 : Int32) q14.2).bind fun q17 =>
  (f_emit (14 : Int32) (0 : Int32) (0 : Int32) (0 : Int32) q17.2).bind fun q19 =>
  (f_emit (9 : Int32) (0 : Int32) (0 : Int32) (0 : Int32) q19.2).bind fun q21 =>
  bnd (((v16 &&& q17.1) &&& q19.1) &&& q21.1) fun v23 =>
  (f_emit (11 : Int32) (0 : Int32) (0 : Int32) (0 : Int32) q21.2).bind fun q24 =>
  (f_emit (9 : Int32) (3 : Int32) (0 : Int32) (0 : Int32) q24.2).bind fun q26 =>
  (f_transform x3 q26.2).bind fun q28 =>
  bnd (((v23 &&& q24.1) &&& q26.1) &&& q28.1) fun v30 =>
  (f_run n (1 : Int32) q28.2).bind fun q31 =>
  (f_lastStatus q31.2).bind fun q33 =>
  (f_outputCount q31.2).bind fun q35 =>
  if (XT.cmpL ((x1).toInt64 - (x0).toInt64) (0 : Int64)) < 0 then
    f_law_225 n x0 x1 x2 v30 q31.1 q33 q35 (0 : Int64) q31.2
  else
    f_law_225 n x0 x1 x2 v30 q31.1 q33 q35 ((x1).toInt64 - (x0).toInt64) q31.2
set_option maxRecDepth 100000 in
theorem e_law_7 {g : GT} {n : Nat} (hw : HW g) {K : St → MHeap} {o : Nat} {r : Nat → Nat} (V : View (GG g) Ln K o r) (x0 : Int32) (x1 : Int32) (x2 : Int32) (x3 : Int32) (s : St) (y4 : Slot) (hy4 : one1 y4 = true) (y5 : Slot) (hy5 : one1 y5 = true) (y6 : Slot) (hy6 : one1 y6 = true) (y7 : Slot) (hy7 : one1 y7 = true) (y8 : Slot) (hy8 : one1 y8 = true) (y9 : Slot) (hy9 : one1 y9 = true) (y10 : Slot) (hy10 : one1 y10 = true) (y11 : Slot) (hy11 : one1 y11 = true) (y12 : Slot) (hy12 : one1 y12 = true) (y13 : Slot) (hy13 : one1 y13 = true) (y14 : Slot) (hy14 : one1 y14 = true) (y15 : Slot) (hy15 : one1 y15 = true) (y16 : Slot) (hy16 : one1 y16 = true) (y17 : Slot) (hy17 : one1 y17 = true) (y18 : Slot) (hy18 : one1 y18 = true) (w : Int32 × St) (hr : f_law_7 n x0 x1 x2 x3 s = some w) : Ev (GG g) M_law 7 [.val (.int x0), .val (.int x1), .val (.int x2), .val (.int x3), y4, y5, y6, y7, y8, y9, y10, y11, y12, y13, y14, y15, y16, y17, y18] [.ref o] (K s) ((some (.int w.1)), (K w.2)) := by
  unfold f_law_7 at hr
  refine Ev.astD (L' := [.val (.int x0), .val (.int x1), .val (.int x2), .val (.int x3), .val (.ref o), y5, y6, y7, y8, y9, y10, y11, y12, y13, y14, y15, y16, y17, y18]) at_7 rfl hy4 rfl ?_
  refine Ev.aload at_9 rfl ?_
  refine Ev.iconst (z := 0) at_11 rfl ?_
  refine Ev.iloadN at_12 rfl ?_
  obtain ⟨q1, hq2, hr⟩ := Option.bind_eq_some_iff.mp hr
  refine Ev.virt (y := M_setInput) (args := [.int (0 : Int32), .int x0]) (rest := []) (gok hw) rfl nm_setInput (ww hw 82 rfl) (ww hw 83 rfl) (ww hw 84 rfl) (ww hw 85 rfl) (ww hw 86 rfl) (lenOf pd_setInput rfl) at_13 (V.2.1 s) (e_setInput hw V hq2) (by decide) (Nat.le_of_ble_eq_true rfl) rfl ?_
  refine Ev.istD (L' := [.val (.int x0), .val (.int x1), .val (.int x2), .val (.int x3), .val (.ref o), .val (.int q1.1), y6, y7, y8, y9, y10, y11, y12, y13, y14, y15, y16, y17, y18]) at_16 rfl hy5 rfl ?_
  refine Ev.iload at_18 rfl ?_
  refine Ev.aload at_20 rfl ?_
  refine Ev.iconst (z := 1) at_22 rfl ?_
  refine Ev.iloadN at_23 rfl ?_
  obtain ⟨q3, hq4, hr⟩ := Option.bind_eq_some_iff.mp hr
  refine Ev.virt (y := M_setInput) (args := [.int (1 : Int32), .int x1]) (rest := [.int q1.1]) (gok hw) rfl nm_setInput (ww hw 82 rfl) (ww hw 83 rfl) (ww hw 84 rfl) (ww hw 85 rfl) (ww hw 86 rfl) (lenOf pd_setInput rfl) at_24 (V.2.1 q1.2) (e_setInput hw V hq4) (by decide) (Nat.le_of_ble_eq_true rfl) rfl ?_
  refine Ev.iand at_27 ?_
  refine Ev.istD (L' := [.val (.int x0), .val (.int x1), .val (.int x2), .val (.int x3), .val (.ref o), .val (.int (q1.1 &&& q3.1)), y6, y7, y8, y9, y10, y11, y12, y13, y14, y15, y16, y17, y18]) at_28 rfl rfl rfl ?_
  refine Ev.iload at_30 rfl ?_
  refine Ev.aload at_32 rfl ?_
  refine Ev.iconst (z := 2) at_34 rfl ?_
  refine Ev.iloadN at_35 rfl ?_
  obtain ⟨q5, hq6, hr⟩ := Option.bind_eq_some_iff.mp hr
  refine Ev.virt (y := M_setInput) (args := [.int (2 : Int32), .int x2]) (rest := [.int (q1.1 &&& q3.1)]) (gok hw) rfl nm_setInput (ww hw 82 rfl) (ww hw 83 rfl) (ww hw 84 rfl) (ww hw 85 rfl) (ww hw 86 rfl) (lenOf pd_setInput rfl) at_36 (V.2.1 q3.2) (e_setInput hw V hq6) (by decide) (Nat.le_of_ble_eq_true rfl) rfl ?_
  refine Ev.iand at_39 ?_
  refine Ev.istD (L' := [.val (.int x0), .val (.int x1), .val (.int x2), .val (.int x3), .val (.ref o), .val (.int ((q1.1 &&& q3.1) &&& q5.1)), y6, y7, y8, y9, y10, y11, y12, y13, y14, y15, y16, y17, y18]) at_40 rfl rfl rfl ?_
  refine Ev.iload at_42 rfl ?_
  refine Ev.aload at_44 rfl ?_
  refine Ev.bipush (z := 10) at_46 rfl ?_
  refine Ev.iconst (z := 0) at_48 rfl ?_
  refine Ev.iconst (z := 1) at_49 rfl ?_
  refine Ev.iconst (z := 1) at_50 rfl ?_
  obtain ⟨q7, hq8, hr⟩ := Option.bind_eq_some_iff.mp hr
  refine Ev.virt (y := M_emit) (args := [.int (10 : Int32), .int (0 : Int32), .int (1 : Int32), .int (1 : Int32)]) (rest := [.int ((q1.1 &&& q3.1) &&& q5.1)]) (gok hw) rfl nm_emit (ww hw 91 rfl) (ww hw 92 rfl) (ww hw 93 rfl) (ww hw 94 rfl) (ww hw 95 rfl) (lenOf pd_emit rfl) at_51 (V.2.1 q5.2) (e_emit hw V hq8) (by decide) (Nat.le_of_ble_eq_true rfl) rfl ?_
  refine Ev.iand at_54 ?_
  revert hr
  generalize (((q1.1 &&& q3.1) &&& q5.1) &&& q7.1) = v9
  intro hr
  replace hr := (bnd_eq _ _).symm.trans hr
  refine Ev.istD (L' := [.val (.int x0), .val (.int x1), .val (.int x2), .val (.int x3), .val (.ref o), .val (.int v9), y6, y7, y8, y9, y10, y11, y12, y13, y14, y15, y16, y17, y18]) at_55 rfl rfl rfl ?_
  refine Ev.iload at_57 rfl ?_
  refine Ev.aload at_59 rfl ?_
  refine Ev.bipush (z := 12) at_61 rfl ?_
  refine Ev.iconst (z := 2) at_63 rfl ?_
  refine Ev.iconst (z := 0) at_64 rfl ?_
  refine Ev.iconst (z := 0) at_65 rfl ?_
  obtain ⟨q10, hq11, hr⟩ := Option.bind_eq_some_iff.mp hr
  refine Ev.virt (y := M_emit) (args := [.int (12 : Int32), .int (2 : Int32), .int (0 : Int32), .int (0 : Int32)]) (rest := [.int v9]) (gok hw) rfl nm_emit (ww hw 91 rfl) (ww hw 92 rfl) (ww hw 93 rfl) (ww hw 94 rfl) (ww hw 95 rfl) (lenOf pd_emit rfl) at_66 (V.2.1 q7.2) (e_emit hw V hq11) (by decide) (Nat.le_of_ble_eq_true rfl) rfl ?_
  refine Ev.iand at_69 ?_
  refine Ev.istD (L' := [.val (.int x0), .val (.int x1), .val (.int x2), .val (.int x3), .val (.ref o), .val (.int (v9 &&& q10.1)), y6, y7, y8, y9, y10, y11, y12, y13, y14, y15, y16, y17, y18]) at_70 rfl rfl rfl ?_
  refine Ev.iload at_72 rfl ?_
  refine Ev.aload at_74 rfl ?_
  refine Ev.iconst (z := 2) at_76 rfl ?_
  refine Ev.iconst (z := 3) at_77 rfl ?_
  refine Ev.iconst (z := 3) at_78 rfl ?_
  refine Ev.iconst (z := 0) at_79 rfl ?_
  obtain ⟨q12, hq13, hr⟩ := Option.bind_eq_some_iff.mp hr
  refine Ev.virt (y := M_emit) (args := [.int (2 : Int32), .int (3 : Int32), .int (3 : Int32), .int (0 : Int32)]) (rest := [.int (v9 &&& q10.1)]) (gok hw) rfl nm_emit (ww hw 91 rfl) (ww hw 92 rfl) (ww hw 93 rfl) (ww hw 94 rfl) (ww hw 95 rfl) (lenOf pd_emit rfl) at_80 (V.2.1 q10.2) (e_emit hw V hq13) (by decide) (Nat.le_of_ble_eq_true rfl) rfl ?_
  refine Ev.iand at_83 ?_
  refine Ev.istD (L' := [.val (.int x0), .val (.int x1), .val (.int x2), .val (.int x3), .val (.ref o), .val (.int ((v9 &&& q10.1) &&& q12.1)), y6, y7, y8, y9, y10, y11, y12, y13, y14, y15, y16, y17, y18]) at_84 rfl rfl rfl ?_
  refine Ev.iload at_86 rfl ?_
  refine Ev.aload at_88 rfl ?_
  refine Ev.bipush (z := 13) at_90 rfl ?_
  refine Ev.iconst (z := 0) at_92 rfl ?_
  refine Ev.iconst (z := 0) at_93 rfl ?_
  refine Ev.iconst (z := 0) at_94 rfl ?_
  obtain ⟨q14, hq15, hr⟩ := Option.bind_eq_some_iff.mp hr
  refine Ev.virt (y := M_emit) (args := [.int (13 : Int32), .int (0 : Int32), .int (0 : Int32), .int (0 : Int32)]) (rest := [.int ((v9 &&& q10.1) &&& q12.1)]) (gok hw) rfl nm_emit (ww hw 91 rfl) (ww hw 92 rfl) (ww hw 93 rfl) (ww hw 94 rfl) (ww hw 95 rfl) (lenOf pd_emit rfl) at_95 (V.2.1 q12.2) (e_emit hw V hq15) (by decide) (Nat.le_of_ble_eq_true rfl) rfl ?_
  refine Ev.iand at_98 ?_
  revert hr
  generalize (((v9 &&& q10.1) &&& q12.1) &&& q14.1) = v16
  intro hr
  replace hr := (bnd_eq _ _).symm.trans hr
  refine Ev.istD (L' := [.val (.int x0), .val (.int x1), .val (.int x2), .val (.int x3), .val (.ref o), .val (.int v16), y6, y7, y8, y9, y10, y11, y12, y13, y14, y15, y16, y17, y18]) at_99 rfl rfl rfl ?_
  refine Ev.iload at_101 rfl ?_
  refine Ev.aload at_103 rfl ?_
  refine Ev.iconst (z := 3) at_105 rfl ?_
  refine Ev.iconst (z := 3) at_106 rfl ?_
  refine Ev.iconst (z := 3) at_107 rfl ?_
  refine Ev.iconst (z := 0) at_108 rfl ?_
  obtain ⟨q17, hq18, hr⟩ := Option.bind_eq_some_iff.mp hr
  refine Ev.virt (y := M_emit) (args := [.int (3 : Int32), .int (3 : Int32), .int (3 : Int32), .int (0 : Int32)]) (rest := [.int v16]) (gok hw) rfl nm_emit (ww hw 91 rfl) (ww hw 92 rfl) (ww hw 93 rfl) (ww hw 94 rfl) (ww hw 95 rfl) (lenOf pd_emit rfl) at_109 (V.2.1 q14.2) (e_emit hw V hq18) (by decide) (Nat.le_of_ble_eq_true rfl) rfl ?_
  refine Ev.iand at_112 ?_
  refine Ev.istD (L' := [.val (.int x0), .val (.int x1), .val (.int x2), .val (.int x3), .val (.ref o), .val (.int (v16 &&& q17.1)), y6, y7, y8, y9, y10, y11, y12, y13, y14, y15, y16, y17, y18]) at_113 rfl rfl rfl ?_
  refine Ev.iload at_115 rfl ?_
  refine Ev.aload at_117 rfl ?_
  refine Ev.bipush (z := 14) at_119 rfl ?_
  refine Ev.iconst (z := 0) at_121 rfl ?_
  refine Ev.iconst (z := 0) at_122 rfl ?_
  refine Ev.iconst (z := 0) at_123 rfl ?_
  obtain ⟨q19, hq20, hr⟩ := Option.bind_eq_some_iff.mp hr
  refine Ev.virt (y := M_emit) (args := [.int (14 : Int32), .int (0 : Int32), .int (0 : Int32), .int (0 : Int32)]) (rest := [.int (v16 &&& q17.1)]) (gok hw) rfl nm_emit (ww hw 91 rfl) (ww hw 92 rfl) (ww hw 93 rfl) (ww hw 94 rfl) (ww hw 95 rfl) (lenOf pd_emit rfl) at_124 (V.2.1 q17.2) (e_emit hw V hq20) (by decide) (Nat.le_of_ble_eq_true rfl) rfl ?_
  refine Ev.iand at_127 ?_
  refine Ev.istD (L' := [.val (.int x0), .val (.int x1), .val (.int x2), .val (.int x3), .val (.ref o), .val (.int ((v16 &&& q17.1) &&& q19.1)), y6, y7, y8, y9, y10, y11, y12, y13, y14, y15, y16, y17, y18]) at_128 rfl rfl rfl ?_
  refine Ev.iload at_130 rfl ?_
  refine Ev.aload at_132 rfl ?_
  refine Ev.bipush (z := 9) at_134 rfl ?_
  refine Ev.iconst (z := 0) at_136 rfl ?_
  refine Ev.iconst (z := 0) at_137 rfl ?_
  refine Ev.iconst (z := 0) at_138 rfl ?_
  obtain ⟨q21, hq22, hr⟩ := Option.bind_eq_some_iff.mp hr
  refine Ev.virt (y := M_emit) (args := [.int (9 : Int32), .int (0 : Int32), .int (0 : Int32), .int (0 : Int32)]) (rest := [.int ((v16 &&& q17.1) &&& q19.1)]) (gok hw) rfl nm_emit (ww hw 91 rfl) (ww hw 92 rfl) (ww hw 93 rfl) (ww hw 94 rfl) (ww hw 95 rfl) (lenOf pd_emit rfl) at_139 (V.2.1 q19.2) (e_emit hw V hq22) (by decide) (Nat.le_of_ble_eq_true rfl) rfl ?_
  refine Ev.iand at_142 ?_
  revert hr
  generalize (((v16 &&& q17.1) &&& q19.1) &&& q21.1) = v23
  intro hr
  replace hr := (bnd_eq _ _).symm.trans hr
  refine Ev.istD (L' := [.val (.int x0), .val (.int x1), .val (.int x2), .val (.int x3), .val (.ref o), .val (.int v23), y6, y7, y8, y9, y10, y11, y12, y13, y14, y15, y16, y17, y18]) at_143 rfl rfl rfl ?_
  refine Ev.iload at_145 rfl ?_
  refine Ev.aload at_147 rfl ?_
  refine Ev.bipush (z := 11) at_149 rfl ?_
  refine Ev.iconst (z := 0) at_151 rfl ?_
  refine Ev.iconst (z := 0) at_152 rfl ?_
  refine Ev.iconst (z := 0) at_153 rfl ?_
  obtain ⟨q24, hq25, hr⟩ := Option.bind_eq_some_iff.mp hr
  refine Ev.virt (y := M_emit) (args := [.int (11 : Int32), .int (0 : Int32), .int (0 : Int32), .int (0 : Int32)]) (rest := [.int v23]) (gok hw) rfl nm_emit (ww hw 91 rfl) (ww hw 92 rfl) (ww hw 93 rfl) (ww hw 94 rfl) (ww hw 95 rfl) (lenOf pd_emit rfl) at_154 (V.2.1 q21.2) (e_emit hw V hq25) (by decide) (Nat.le_of_ble_eq_true rfl) rfl ?_
  refine Ev.iand at_157 ?_
  refine Ev.istD (L' := [.val (.int x0), .val (.int x1), .val (.int x2), .val (.int x3), .val (.ref o), .val (.int (v23 &&& q24.1)), y6, y7, y8, y9, y10, y11, y12, y13, y14, y15, y16, y17, y18]) at_158 rfl rfl rfl ?_
  refine Ev.iload at_160 rfl ?_
  refine Ev.aload at_162 rfl ?_
  refine Ev.bipush (z := 9) at_164 rfl ?_
  refine Ev.iconst (z := 3) at_166 rfl ?_
  refine Ev.iconst (z := 0) at_167 rfl ?_
  refine Ev.iconst (z := 0) at_168 rfl ?_
  obtain ⟨q26, hq27, hr⟩ := Option.bind_eq_some_iff.mp hr
  refine Ev.virt (y := M_emit) (args := [.int (9 : Int32), .int (3 : Int32), .int (0 : Int32), .int (0 : Int32)]) (rest := [.int (v23 &&& q24.1)]) (gok hw) rfl nm_emit (ww hw 91 rfl) (ww hw 92 rfl) (ww hw 93 rfl) (ww hw 94 rfl) (ww hw 95 rfl) (lenOf pd_emit rfl) at_169 (V.2.1 q24.2) (e_emit hw V hq27) (by decide) (Nat.le_of_ble_eq_true rfl) rfl ?_
  refine Ev.iand at_172 ?_
  refine Ev.istD (L' := [.val (.int x0), .val (.int x1), .val (.int x2), .val (.int x3), .val (.ref o), .val (.int ((v23 &&& q24.1) &&& q26.1)), y6, y7, y8, y9, y10, y11, y12, y13, y14, y15, y16, y17, y18]) at_173 rfl rfl rfl ?_
  refine Ev.iload at_175 rfl ?_
  refine Ev.aload at_177 rfl ?_
  refine Ev.iloadN at_179 rfl ?_
  obtain ⟨q28, hq29, hr⟩ := Option.bind_eq_some_iff.mp hr
  refine Ev.virt (y := M_transform) (args := [.int x3]) (rest := [.int ((v23 &&& q24.1) &&& q26.1)]) (gok hw) rfl nm_transform (ww hw 128 rfl) (ww hw 129 rfl) (ww hw 130 rfl) (ww hw 131 rfl) (ww hw 132 rfl) (lenOf pd_transform rfl) at_180 (V.2.1 q26.2) (e_transform hw V hq29) (by decide) (Nat.le_of_ble_eq_true rfl) rfl ?_
  refine Ev.iand at_183 ?_
  revert hr
  generalize (((v23 &&& q24.1) &&& q26.1) &&& q28.1) = v30
  intro hr
  replace hr := (bnd_eq _ _).symm.trans hr
  refine Ev.istD (L' := [.val (.int x0), .val (.int x1), .val (.int x2), .val (.int x3), .val (.ref o), .val (.int v30), y6, y7, y8, y9, y10, y11, y12, y13, y14, y15, y16, y17, y18]) at_184 rfl rfl rfl ?_
  refine Ev.aload at_186 rfl ?_
  refine Ev.iconst (z := 1) at_188 rfl ?_
  obtain ⟨q31, hq32, hr⟩ := Option.bind_eq_some_iff.mp hr
  refine Ev.virt (y := M_run) (args := [.int (1 : Int32)]) (rest := []) (gok hw) rfl nm_run (ww hw 133 rfl) (ww hw 134 rfl) (ww hw 135 rfl) (ww hw 136 rfl) (ww hw 137 rfl) (lenOf pd_run rfl) at_189 (V.2.1 q28.2) (e_run hw V hq32) (by decide) (Nat.le_of_ble_eq_true rfl) rfl ?_
  refine Ev.istD (L' := [.val (.int x0), .val (.int x1), .val (.int x2), .val (.int x3), .val (.ref o), .val (.int v30), .val (.int q31.1), y7, y8, y9, y10, y11, y12, y13, y14, y15, y16, y17, y18]) at_192 rfl hy6 rfl ?_
  refine Ev.aload at_194 rfl ?_
  obtain ⟨q33, hq34, hr⟩ := Option.bind_eq_some_iff.mp hr
  refine Ev.virt (y := M_lastStatus) (args := []) (rest := []) (gok hw) rfl nm_lastStatus (ww hw 199 rfl) (ww hw 200 rfl) (ww hw 201 rfl) (ww hw 202 rfl) (ww hw 203 rfl) (lenOf pd_lastStatus rfl) at_196 (V.2.1 q31.2) (e_lastStatus hw V hq34) (by decide) (Nat.le_of_ble_eq_true rfl) rfl ?_
  refine Ev.istD (L' := [.val (.int x0), .val (.int x1), .val (.int x2), .val (.int x3), .val (.ref o), .val (.int v30), .val (.int q31.1), .val (.int q33), y8, y9, y10, y11, y12, y13, y14, y15, y16, y17, y18]) at_199 rfl hy7 rfl ?_
  refine Ev.aload at_201 rfl ?_
  obtain ⟨q35, hq36, hr⟩ := Option.bind_eq_some_iff.mp hr
  refine Ev.virt (y := M_outputCount) (args := []) (rest := []) (gok hw) rfl nm_outputCount (ww hw 204 rfl) (ww hw 205 rfl) (ww hw 206 rfl) (ww hw 207 rfl) (ww hw 208 rfl) (lenOf pd_outputCount rfl) at_203 (V.2.1 q31.2) (e_outputCount hw V hq36) (by decide) (Nat.le_of_ble_eq_true rfl) rfl ?_
  refine Ev.istD (L' := [.val (.int x0), .val (.int x1), .val (.int x2), .val (.int x3), .val (.ref o), .val (.int v30), .val (.int q31.1), .val (.int q33), .val (.int q35), y9, y10, y11, y12, y13, y14, y15, y16, y17, y18]) at_206 rfl hy8 rfl ?_
  refine Ev.iloadN at_208 rfl ?_
  refine Ev.i2l at_209 ?_
  refine Ev.iloadN at_210 rfl ?_
  refine Ev.i2l at_211 ?_
  refine Ev.lsub at_212 ?_
  refine Ev.lstD (L' := [.val (.int x0), .val (.int x1), .val (.int x2), .val (.int x3), .val (.ref o), .val (.int v30), .val (.int q31.1), .val (.int q33), .val (.int q35), .val (.long ((x1).toInt64 - (x0).toInt64)), .second, y11, y12, y13, y14, y15, y16, y17, y18]) at_213 rfl rfl (Or.inl ⟨hy9, hy10⟩) rfl ?_
  refine Ev.lload at_215 rfl ?_
  refine Ev.lconst (z := 0) at_217 rfl ?_
  refine Ev.lcmp at_218 ?_
  refine Ev.ifge (t := 225) at_219 rfl (fun c37 => ?_) (fun c37 => ?_)
  · replace hr := (if_pos c37).symm.trans hr
    refine Ev.lconst (z := 0) at_222 rfl ?_
    refine Ev.lstD (L' := [.val (.int x0), .val (.int x1), .val (.int x2), .val (.int x3), .val (.ref o), .val (.int v30), .val (.int q31.1), .val (.int q33), .val (.int q35), .val (.long (0 : Int64)), .second, y11, y12, y13, y14, y15, y16, y17, y18]) at_223 rfl rfl (Or.inr ⟨_, rfl, rfl⟩) rfl ?_
    exact e_law_225 hw V  x0 x1 x2 v30 q31.1 q33 q35 (0 : Int64) q31.2 (.val (.int x3)) rfl y11 hy11 y12 hy12 y13 hy13 y14 hy14 y15 hy15 y16 hy16 y17 hy17 y18 hy18 _ hr
  · replace hr := (if_neg c37).symm.trans hr
    exact e_law_225 hw V  x0 x1 x2 v30 q31.1 q33 q35 ((x1).toInt64 - (x0).toInt64) q31.2 (.val (.int x3)) rfl y11 hy11 y12 hy12 y13 hy13 y14 hy14 y15 hy15 y16 hy16 y17 hy17 y18 hy18 _ hr
def f_law (n : Nat) (a0 : Int32) (a1 : Int32) (a2 : Int32) (a3 : Int32) : Option (Int32 × St) :=
  (f_ctor n).bind fun q1 =>
  f_law_7 n a0 a1 a2 a3 q1
set_option maxRecDepth 100000 in
theorem e_law {g : GT} {n : Nat} {a0 : Int32} {a1 : Int32} {a2 : Int32} {a3 : Int32} {w : Int32 × St} (hw : HW g) (hk : k0 (GG g) ≤ (H0).length) (hr : f_law n a0 a1 a2 a3 = some w) : EvC (GG g) M_law [.int a0, .int a1, .int a2, .int a3] H0 ((some (.int w.1)), (KL w.2)) := by
  refine EvC.enter (L0 := [.val (.int a0), .val (.int a1), .val (.int a2), .val (.int a3), .unset, .unset, .unset, .unset, .unset, .unset, .unset, .unset, .unset, .unset, .unset, .unset, .unset, .unset, .unset]) pl_law (fun h => nomatch h) rfl rfl ?_
  unfold f_law at hr
  refine Ev.new (gok hw) (ww hw 0 rfl) at_0 (fs := dfl) rfl ?_
  refine Ev.dup at_3 rfl ?_
  obtain ⟨q1, hq2, hr⟩ := Option.bind_eq_some_iff.mp hr
  refine Ev.ctor (y := M_ctor) (args := []) (rest := [.ref (H0).length]) rfl rfl nm_ctor (ww hw 3 rfl) (ww hw 4 rfl) (ww hw 5 rfl) (ww hw 2 rfl) (lenOf pd_ctor rfl) at_4 (e_ctor hw hk hq2) (by decide) (Nat.le_of_ble_eq_true rfl) rfl ?_
  exact e_law_7 hw (K := KL) (o := (H0).length) (r := rA (H0).length al) (view_of hk al_ok al_nd)  a0 a1 a2 a3 q1 .unset rfl .unset rfl .unset rfl .unset rfl .unset rfl .unset rfl .unset rfl .unset rfl .unset rfl .unset rfl .unset rfl .unset rfl .unset rfl .unset rfl .unset rfl _ hr
theorem fin_len (w : St) : (KL w).length - H0.length ≤ 56 := by
  have q : al.length = 21 := rfl
  unfold KL; rw [KH_len]; simp only [List.length_nil]; omega
theorem fin_hsl (w : St) : hsl 31 (KL w) - hsl 31 H0 ≤ 768 := by
  have q : (al.map fun q => Ln q.1).sum = 294 := by decide +kernel
  have z : hsl 31 [] = 0 := rfl
  unfold KL; rw [hsl_KH, q, z]; omega
set_option maxRecDepth 100000 in
theorem comes_1 (plain : ∀ i0 i1 i2 i3 : Int32, ∃ n w, f_law n i0 i1 i2 i3 = some (1, w)) {Post : Tables → Env → Array Value → State → Outcome → State → Prop} (hpost : ∀ tb e args s v u, (limb_1_1.after args s (.returned v) u = true ∧ limb_1_2.after args s (.returned v) u = true ∧ True) → FrameEnd s (.returned v) u (Jvm.fieldLocs frame_1_writes args s ++ Jvm.arrayLocs frame_1_arrays args s ++ Jvm.staticLocs frame_1_statics s) 56 768 → Post tb e args s (.returned v) u) :
    ArmFor flags0 classFile x code maxLocals ret World_1 tables_1 room_1 Calls_1 rest_1 Pre_1 Post := by
  intro l hfl _ _ p e ha hc hk s m args below hf hA hF happ hP
  obtain ⟨hcalls, hrest, hpre⟩ := hP
  obtain ⟨-, -, -, hnamed, -, -, -, hat⟩ := (Spec.applies_iff hf).mp happ
  obtain ⟨hg, hn⟩ := and_e (Cond.before_iff.mp (show (Jvm.Cond.and given_1 narrow_1).before args s = true from hpre))
  obtain ⟨g0, hg⟩ := and_e hg
  obtain ⟨g1, hg⟩ := and_e hg
  obtain ⟨g2, hg⟩ := and_e hg
  obtain ⟨g3, hg⟩ := and_e hg
  obtain ⟨w0, w1, w2, w3, rfl⟩ : ∃ w0 w1 w2 w3 : Value, args = #[w0, w1, w2, w3] := by
    have hs : args.size = 4 := by simpa [Cond.value, given_1] using g0
    obtain ⟨L⟩ := args
    match L, hs with
    | [w0, w1, w2, w3], _ => exact ⟨w0, w1, w2, w3, rfl⟩
  have hw := fun d (hd : d ∈ tables_1) => atoms_spec (ws := Jvm.Cond.code x code maxLocals ret :: tables_1) hat d (List.mem_cons_of_mem _ hd)
  obtain ⟨i0, ei0⟩ := is_v g1
  obtain rfl : w0 = (.int i0) := Option.some.inj ei0
  obtain ⟨i1, ei1⟩ := is_v g2
  obtain rfl : w1 = (.int i1) := Option.some.inj ei1
  obtain ⟨i2, ei2⟩ := is_v g3
  obtain rfl : w2 = (.int i2) := Option.some.inj ei2
  obtain ⟨i3, ei3⟩ := is_v hg
  obtain rfl : w3 = (.int i3) := Option.some.inj ei3
  obtain ⟨n, w, hr⟩ := plain i0 i1 i2 i3
  have hE := e_law (g := (s, _, l, none, s.heap.size)) hw (Nat.le_refl _) hr
  obtain ⟨n, o, h1, h2, h3, _, L, rfl, ⟨rfl, N, -⟩, hq⟩ := hE.2 tables_1 room_1 s.heap (by decide) (by decide) (fin_len w) (fin_hsl w) ⟨rfl, Nat.le_refl _, fun a q => (nomatch q), fun i c q => by simp [H0] at q⟩ p e ha hc hk s m _ below hf ((Spec.applies_iff_loose hf).mp happ).1 ⟨rfl, State.Warmed39.refl s, rfl⟩ trivial
  exact ⟨n, _, h1, h2, h3, hpost _ _ _ _ _ _ ⟨Cond.after_iff.mpr rfl, Cond.after_iff.mpr (eq_i res_at (Term.int_eval (1)) rfl), trivial⟩ ⟨hq.1, hq.2.1, (hq.2.2.sift fun y hy => Or.inr (N y hy)).mono (fin_len w) (fin_hsl w)⟩⟩
theorem u_innermostLoop_4 (n : Nat) (s : St) (k : Nat) (x1 : Int32) (x2 : Int32) : f_innermostLoop_4 n s (k + 1) x1 x2 =
    (if x2 < 0 then
      some (-1 : Int32)
    else
      grd (inb x2 24) <|
      if (s.2 0 (ix x2)) = (10 : Int32) then
        if x1 < (s.2 4 (ix x2)) then
          some x2
        else
          f_innermostLoop_4 n s k x1 (x2 + (-1 : Int32))
      else
        f_innermostLoop_4 n s k x1 (x2 + (-1 : Int32))) := rfl
theorem u_isInvariantIf_44 (n : Nat) (s : St) (k : Nat) (x3 : Int32) (x4 : Int32) (x5 : Int32) : f_isInvariantIf_44 n s (k + 1) x3 x4 x5 =
    (if x5 < x4 then
      if x5 < (s.1 21) then
        grd (inb x5 24) <|
        (f_hasDestination s (s.2 0 (ix x5))).bind fun q4 =>
        if q4 = 0 then
          f_isInvariantIf_44 n s k x3 x4 (x5 + (1 : Int32))
        else
          if (s.2 1 (ix x5)) = x3 then
            some (0 : Int32)
          else
            f_isInvariantIf_44 n s k x3 x4 (x5 + (1 : Int32))
      else
        some (1 : Int32)
    else
      some (1 : Int32)) := rfl
theorem u_prepare_31 (n : Nat) (k : Nat) (x1 : Int32) (x2 : Int32) (s : St) : f_prepare_31 n (k + 1) x1 x2 s =
    (if x2 < (24 : Int32) then
      grd (inb x2 24) <|
      bnd (setA s 19 (ix x2) ((0 : Int32) &&& 1)) fun s3 =>
      bnd (setA s3 20 (ix x2) ((0 : Int32) &&& 1)) fun s4 =>
      if x1 = 0 then
        f_prepare_87 n (f_prepare_31 n k) x1 x2 (0 : Int32) s4
      else
        if x2 < (s4.1 21) then
          if (s4.2 0 (ix x2)) = (12 : Int32) then
            (f_isInvariantIf n s4 x2).bind fun q8 =>
            if q8 = 0 then
              f_prepare_87 n (f_prepare_31 n k) x1 x2 (0 : Int32) s4
            else
              f_prepare_87 n (f_prepare_31 n k) x1 x2 (1 : Int32) s4
          else
            f_prepare_87 n (f_prepare_31 n k) x1 x2 (0 : Int32) s4
        else
          f_prepare_87 n (f_prepare_31 n k) x1 x2 (0 : Int32) s4
    else
      some s) := rfl
theorem u_execute_21 (n : Nat) (k : Nat) (x1 : Int32) (x2 : Int32) (s : St) : f_execute_21 n (k + 1) x1 x2 s =
    (if x2 < x1 then
      if (s.1 28) < 0 then
        some s
      else
        if (s.1 28) < (s.1 21) then
          if (s.1 30) = 0 then
            (f_executeAt n (s.1 28) s).bind fun q5 =>
            f_execute_21 n k x1 (x2 + (1 : Int32)) q5
          else
            some s
        else
          some s
    else
      some s) := rfl
theorem u_decideGuards_11 (n : Nat) (k : Nat) (x1 : Int32) (x2 : Int32) (x3 : Int32) (s : St) : f_decideGuards_11 n (k + 1) x1 x2 x3 s =
    (if x3 < x2 then
      if x3 < (s.1 21) then
        grd (inb x3 24) <|
        if (s.2 17 (ix x3)) = 0 then
          f_decideGuards_11 n k x1 x2 (x3 + (1 : Int32)) s
        else
          if (s.2 18 (ix x3)) = x1 then
            bnd (setA s 19 (ix x3) ((1 : Int32) &&& 1)) fun s6 =>
            grd (inb (s6.2 1 (ix x3)) 8) <|
            if (s6.2 11 (ix (s6.2 1 (ix x3)))) = 0 then
              f_decideGuards_74 n (f_decideGuards_11 n k) x1 x2 x3 (0 : Int32) x3 s6
            else
              f_decideGuards_74 n (f_decideGuards_11 n k) x1 x2 x3 (1 : Int32) x3 s6
          else
            f_decideGuards_11 n k x1 x2 (x3 + (1 : Int32)) s
      else
        some s
    else
      some s) := rfl
theorem u_run_100 (n : Nat) (k : Nat) (x2 : Int32) (s : St) : f_run_100 n (k + 1) x2 s =
    (if x2 < (8 : Int32) then
      grd (inb x2 8) <|
      bnd (setA s 10 (ix x2) (s.2 11 (ix x2))) fun s3 =>
      f_run_100 n k (x2 + (1 : Int32)) s3
    else
      some ((s.1 25), s)) := rfl
theorem u_law_344 (n : Nat) (k : Nat) (x0 : Int32) (x1 : Int32) (x2 : Int32) (x5 : Int32) (x9 : Int64) (x11 : Int32) (x12 : Int32) (x15 : Int32) (s : St) : f_law_344 n (k + 1) x0 x1 x2 x5 x9 x11 x12 x15 s =
    (if x15 < (8 : Int32) then
      (f_output s x15).bind fun q2 =>
      (f_output s (x15 + (8 : Int32))).bind fun q4 =>
      (f_hdue (x15).toInt64 x9 x11 x0 x12).bind fun q6 =>
      if q2 = q6 then
        (f_hdue ((x15 + (8 : Int32))).toInt64 x9 x11 x0 x12).bind fun q9 =>
        if q4 = q9 then
          f_law_418 n (f_law_344 n k) x0 x1 x2 x9 x11 x12 x15 (1 : Int32) x5 s
        else
          f_law_418 n (f_law_344 n k) x0 x1 x2 x9 x11 x12 x15 (0 : Int32) x5 s
      else
        f_law_418 n (f_law_344 n k) x0 x1 x2 x9 x11 x12 x15 (0 : Int32) x5 s
    else
      (f_output s (16 : Int32)).bind fun q12 =>
      (f_hdue (16 : Int64) x9 x11 x0 x12).bind fun q14 =>
      if q12 = q14 then
        f_law_461 n x0 x1 x2 x9 x11 x12 (1 : Int32) x5 s
      else
        f_law_461 n x0 x1 x2 x9 x11 x12 (0 : Int32) x5 s) := rfl
theorem u_law_467 (n : Nat) (k : Nat) (x0 : Int32) (x1 : Int32) (x2 : Int32) (x5 : Int32) (x9 : Int64) (x11 : Int32) (x12 : Int32) (x16 : Int32) (s : St) : f_law_467 n (k + 1) x0 x1 x2 x5 x9 x11 x12 x16 s =
    (if x16 < (8 : Int32) then
      (f_finalVar s x16).bind fun q2 =>
      if x16 = 0 then
        if x11 = 0 then
          f_law_538 n (f_law_467 n k) x0 x1 x2 x5 x9 x11 x12 x16 q2 x0 s
        else
          f_law_538 n (f_law_467 n k) x0 x1 x2 x5 x9 x11 x12 x16 q2 ((((x0).toInt64 + x9)).toInt32) s
      else
        if x16 = (1 : Int32) then
          f_law_538 n (f_law_467 n k) x0 x1 x2 x5 x9 x11 x12 x16 q2 x1 s
        else
          if x16 = (2 : Int32) then
            f_law_538 n (f_law_467 n k) x0 x1 x2 x5 x9 x11 x12 x16 q2 x2 s
          else
            if x16 = (3 : Int32) then
              f_law_538 n (f_law_467 n k) x0 x1 x2 x5 x9 x11 x12 x16 q2 x12 s
            else
              f_law_538 n (f_law_467 n k) x0 x1 x2 x5 x9 x11 x12 x16 q2 (0 : Int32) s
    else
      some ((x5 &&& 1), s)) := rfl
theorem u_clearProgram_2 (n : Nat) (k : Nat) (x1 : Int32) (s : St) : f_clearProgram_2 n (k + 1) x1 s =
    (if x1 < (24 : Int32) then
      grd (inb x1 24) <|
      bnd (setA s 0 (ix x1) (0 : Int32)) fun s3 =>
      bnd (setA s3 1 (ix x1) (0 : Int32)) fun s4 =>
      bnd (setA s4 2 (ix x1) (0 : Int32)) fun s5 =>
      bnd (setA s5 3 (ix x1) (0 : Int32)) fun s6 =>
      bnd (setA s6 4 (ix x1) (-1 : Int32)) fun s7 =>
      f_clearProgram_2 n k (x1 + (1 : Int32)) s7
    else
      bnd (setI s 21 (0 : Int32)) fun s8 =>
      some s8) := rfl
theorem u_clearOpen_2 (n : Nat) (k : Nat) (x1 : Int32) (s : St) : f_clearOpen_2 n (k + 1) x1 s =
    (if x1 < (4 : Int32) then
      grd (inb x1 4) <|
      bnd (setA s 5 (ix x1) (0 : Int32)) fun s3 =>
      bnd (setA s3 6 (ix x1) (-1 : Int32)) fun s4 =>
      bnd (setA s4 7 (ix x1) ((0 : Int32) &&& 1)) fun s5 =>
      f_clearOpen_2 n k (x1 + (1 : Int32)) s5
    else
      bnd (setI s 22 (0 : Int32)) fun s6 =>
      bnd (setI s6 23 (0 : Int32)) fun s7 =>
      some s7) := rfl
theorem u_clearResults_33 (n : Nat) (k : Nat) (x1 : Int32) (s : St) : f_clearResults_33 n (k + 1) x1 s =
    (if x1 < (8 : Int32) then
      grd (inb x1 8) <|
      bnd (setA s 10 (ix x1) (0 : Int32)) fun s3 =>
      f_clearResults_33 n k (x1 + (1 : Int32)) s3
    else
      some s) := rfl
theorem u_clearResults_12 (n : Nat) (k : Nat) (x1 : Int32) (s : St) : f_clearResults_12 n (k + 1) x1 s =
    (if x1 < (32 : Int32) then
      grd (inb x1 32) <|
      bnd (setA s 9 (ix x1) (0 : Int32)) fun s3 =>
      f_clearResults_12 n k (x1 + (1 : Int32)) s3
    else
      f_clearResults_33 n n (0 : Int32) s) := rfl
theorem u_reset_10 (n : Nat) (k : Nat) (x1 : Int32) (s : St) : f_reset_10 n (k + 1) x1 s =
    (if x1 < (8 : Int32) then
      grd (inb x1 8) <|
      bnd (setA s 8 (ix x1) (0 : Int32)) fun s3 =>
      f_reset_10 n k (x1 + (1 : Int32)) s3
    else
      bnd (setI s 24 (0 : Int32)) fun s4 =>
      (f_clearResults n s4).bind fun q5 =>
      some q5) := rfl
/-! ### the plain law -/
/-- the fixed program -/
def own_Pg (t : St) : Prop := (t.2 0 0 = 10 ∧ t.2 0 1 = 12 ∧ t.2 0 2 = 2 ∧ t.2 0 3 = 13 ∧ t.2 0 4 = 3 ∧ t.2 0 5 = 14 ∧ t.2 0 6 = 9 ∧ t.2 0 7 = 11 ∧ t.2 0 8 = 9) ∧
  (t.2 1 0 = 0 ∧ t.2 1 1 = 2 ∧ t.2 1 2 = 3 ∧ t.2 1 4 = 3 ∧ t.2 1 6 = 0 ∧ t.2 1 8 = 3) ∧ (t.2 2 0 = 1 ∧ t.2 2 2 = 3 ∧ t.2 2 4 = 3) ∧ (t.2 3 0 = 1 ∧ t.2 3 2 = 0 ∧ t.2 3 4 = 0) ∧
  (t.2 4 0 = 7 ∧ t.2 4 1 = 3 ∧ t.2 4 3 = 5) ∧ t.1 21 = 9
theorem own_PgA {t : St} (h : own_Pg t) (j i : Nat) (v : Int32) (hj : 5 ≤ j) : own_Pg (setA t j i v) := by
  have e : ∀ k, k < 5 → (setA t j i v).2 k = t.2 k := fun k hk => by
    funext x; rw [setA_2, if_neg (fun z => by omega)]
  unfold own_Pg
  rw [e 0 (by omega), e 1 (by omega), e 2 (by omega), e 3 (by omega), e 4 (by omega)]
  exact h
theorem own_PgI {t : St} (h : own_Pg t) (k : Nat) (v : Int32) (hk : k ≠ 21) : own_Pg (setI t k v) := by
  unfold own_Pg
  rw [setI_2, setI_1, if_neg (fun z => hk z.symm)]
  exact h
theorem own_inner {m : Nat} {t : St} (h : own_Pg t) : f_innermostLoop (m + 1) t 1 = some 0 := by
  obtain ⟨⟨a0, -⟩, -, -, -, ⟨m0, -⟩, -⟩ := h
  unfold f_innermostLoop
  rw [show (1 : Int32) - 1 = 0 from rfl, u_innermostLoop_4, if_neg (by decide), grd_pos (by decide), show ix (0 : Int32) = 0 from rfl, a0, if_pos rfl, m0, if_pos (by decide)]
theorem own_inv {m : Nat} {t : St} (h : own_Pg t) : f_isInvariantIf (m + 8) t 1 = some 1 := by
  have hi := own_inner (m := m + 7) h
  obtain ⟨⟨a0, a1, a2, a3, a4, a5, a6, a7, a8⟩, ⟨b0, b1, b2, b4, b6, b8⟩, -, -, ⟨m0, m1, m3⟩, c9⟩ := h
  unfold f_isInvariantIf
  rw [hi, Option.bind_some, if_neg (by decide), grd_pos (by decide), grd_pos (by decide), show ix (1 : Int32) = 1 from rfl, show ix (0 : Int32) = 0 from rfl, b1, b0, if_neg (by decide), m0, show (0 : Int32) + 1 = 1 from rfl]
  have d : ∀ o : Int32, f_hasDestination t o = some (if o < 1 then (if o = 10 then 1 else 0) else if 8 < o then (if o = 10 then 1 else 0) else 1) := fun o => by
    unfold f_hasDestination f_hasDestination_11
    by_cases q1 : o < 1
    · rw [if_pos q1, if_pos q1]; split <;> rfl
    · rw [if_neg q1, if_neg q1]
      by_cases q2 : 8 < o
      · rw [if_pos q2, if_pos q2]; split <;> rfl
      · rw [if_neg q2, if_neg q2]
  rw [u_isInvariantIf_44, if_pos (by decide), c9, if_pos (by decide), grd_pos (by decide), show ix (1 : Int32) = 1 from rfl, a1, d, Option.bind_some, if_pos (by decide)]
  rw [show (1 : Int32) + 1 = 2 from rfl, u_isInvariantIf_44, if_pos (by decide), c9, if_pos (by decide), grd_pos (by decide), show ix (2 : Int32) = 2 from rfl, a2, d, Option.bind_some, if_neg (by decide), b2, if_neg (by decide)]
  rw [show (2 : Int32) + 1 = 3 from rfl, u_isInvariantIf_44, if_pos (by decide), c9, if_pos (by decide), grd_pos (by decide), show ix (3 : Int32) = 3 from rfl, a3, d, Option.bind_some, if_pos (by decide)]
  rw [show (3 : Int32) + 1 = 4 from rfl, u_isInvariantIf_44, if_pos (by decide), c9, if_pos (by decide), grd_pos (by decide), show ix (4 : Int32) = 4 from rfl, a4, d, Option.bind_some, if_neg (by decide), b4, if_neg (by decide)]
  rw [show (4 : Int32) + 1 = 5 from rfl, u_isInvariantIf_44, if_pos (by decide), c9, if_pos (by decide), grd_pos (by decide), show ix (5 : Int32) = 5 from rfl, a5, d, Option.bind_some, if_pos (by decide)]
  rw [show (5 : Int32) + 1 = 6 from rfl, u_isInvariantIf_44, if_pos (by decide), c9, if_pos (by decide), grd_pos (by decide), show ix (6 : Int32) = 6 from rfl, a6, d, Option.bind_some, if_pos (by decide)]
  rw [show (6 : Int32) + 1 = 7 from rfl, u_isInvariantIf_44, if_neg (by decide)]
theorem own_87a {n : Nat} (K : Int32 → Int32 → St → Option St) (x1 : Int32) (t : St) {i : Nat} (hi : i < 24) : f_prepare_87 n K x1 (Int32.ofNat i) 0 t = K x1 (Int32.ofNat i + 1) (setA (setA t 17 i 0) 18 i (-1)) := by
  unfold f_prepare_87 f_prepare_113
  rw [grd_pos (inbN hi (by omega)), bnd_eq, if_pos rfl, grd_pos (inbN hi (by omega)), bnd_eq, ix_N (by omega)]
  rfl
theorem own_prep {m : Nat} {b : St} {F : Int32} (h : own_Pg b) (hF : b.1 24 = F) (hF1 : ¬ F < 1) : ∃ c, f_prepare (m + 40) 1 b = some c ∧ own_Pg c ∧ c.1 = (setI b 27 F).1 ∧ c.2 11 = b.2 11 ∧ c.2 9 = b.2 9 ∧ (∀ i, i < 24 → c.2 17 i = if i = 1 then 1 else 0) ∧ c.2 18 1 = 0 := by
  unfold f_prepare f_prepare_13 f_prepare_29
  rw [if_neg (by decide), bnd_eq, hF, show (setI b 27 F).1 27 = F by simp [setI_1], if_neg hF1]
  obtain ⟨c, e1, p1, p2, p3, p4, p5, p6⟩ := loopP (F := fun k i t => f_prepare_31 (m + 40) k 1 i t) (N := 24)
    (P := fun i t => own_Pg t ∧ t.1 = (setI b 27 F).1 ∧ t.2 11 = b.2 11 ∧ t.2 9 = b.2 9 ∧ (∀ j, j < i → t.2 17 j = if j = 1 then 1 else 0) ∧ (1 < i → t.2 18 1 = 0))
    (Q := fun t => own_Pg t ∧ t.1 = (setI b 27 F).1 ∧ t.2 11 = b.2 11 ∧ t.2 9 = b.2 9 ∧ (∀ j, j < 24 → t.2 17 j = if j = 1 then 1 else 0) ∧ (1 < 24 → t.2 18 1 = 0))
    (fun k i t hi hp => Or.inl (by
      obtain ⟨p1, p2, p3, p4, p5, p6⟩ := hp
      show ∃ s', f_prepare_31 (m + 40) (k + 1) 1 (Int32.ofNat i) t = f_prepare_31 (m + 40) k 1 (Int32.ofNat i + 1) s' ∧ _
      have hb : inb (Int32.ofNat i) 24 := inbN hi (by omega)
      obtain ⟨w, hw⟩ : ∃ w, w = setA (setA t 19 i (0 &&& 1)) 20 i (0 &&& 1) := ⟨_, rfl⟩
      have wP : own_Pg w := by rw [hw]; exact own_PgA (own_PgA p1 _ _ _ (by omega)) _ _ _ (by omega)
      have w1 : w.1 = t.1 := by rw [hw]; rfl
      have wk : ∀ k, k ≠ 19 → k ≠ 20 → w.2 k = t.2 k := fun k h1 h2 => by
        rw [hw]; funext x; rw [setA_2, if_neg (fun z => h2 z.1), setA_2, if_neg (fun z => h1 z.1)]
      rw [u_prepare_31, if_pos (ltZ (z := 24) 24 rfl hi (by omega)), grd_pos hb, bnd_eq, bnd_eq, ix_N (by omega), ← hw, if_neg (by decide)]
      have zero : ∃ s', f_prepare_87 (m + 40) (f_prepare_31 (m + 40) k) 1 (Int32.ofNat i) 0 w = f_prepare_31 (m + 40) k 1 (Int32.ofNat i + 1) s' ∧ (i ≠ 1 → own_Pg s' ∧ s'.1 = (setI b 27 F).1 ∧ s'.2 11 = b.2 11 ∧ s'.2 9 = b.2 9 ∧ (∀ j, j < i + 1 → s'.2 17 j = if j = 1 then 1 else 0) ∧ (1 < i + 1 → s'.2 18 1 = 0)) := by
        refine ⟨_, own_87a _ _ _ hi, fun ne => ⟨own_PgA (own_PgA wP _ _ _ (by omega)) _ _ _ (by omega), w1.trans p2, ?_, ?_, fun j hj => ?_, fun h1 => ?_⟩⟩
        · funext x; simp only [setA_2]; rw [if_neg (fun z => by omega), if_neg (fun z => by omega), wk 11 (by decide) (by decide), p3]
        · funext x; simp only [setA_2]; rw [if_neg (fun z => by omega), if_neg (fun z => by omega), wk 9 (by decide) (by decide), p4]
        · simp only [setA_2]
          rw [if_neg (fun z => by omega)]
          by_cases q : j = i
          · rw [if_pos ⟨by trivial, q⟩, q, if_neg ne]
          · rw [if_neg (fun z => q z.2), wk 17 (by decide) (by decide)]; exact p5 j (by omega)
        · simp only [setA_2]
          rw [if_neg (fun z => ne z.2.symm), if_neg (fun z => by omega), wk 18 (by decide) (by decide)]; exact p6 (by omega)
      obtain ⟨s', e, hs⟩ := zero
      by_cases i9 : i < 9
      · rw [wP.2.2.2.2.2, if_pos (ltZ (z := 9) 9 rfl i9 (by omega))]
        by_cases i1 : i = 1
        · subst i1
          rw [wP.1.2.1, if_pos rfl, show Int32.ofNat 1 = (1 : Int32) from rfl, own_inv (m := m + 32) wP, Option.bind_some, if_neg (by decide)]
          unfold f_prepare_87
          rw [grd_pos (by decide), bnd_eq, if_neg (by decide), own_inner (m := m + 39) (own_PgA wP _ _ _ (by omega)), Option.bind_some]
          unfold f_prepare_113
          rw [grd_pos (by decide), bnd_eq, show ix (1 : Int32) = 1 from rfl]
          refine ⟨_, rfl, own_PgA (own_PgA wP _ _ _ (by omega)) _ _ _ (by omega), w1.trans p2, ?_, ?_, fun j hj => ?_, fun _ => by simp [setA_2]⟩
          · funext x; simp only [setA_2]; rw [if_neg (fun z => by omega), if_neg (fun z => by omega), wk 11 (by decide) (by decide), p3]
          · funext x; simp only [setA_2]; rw [if_neg (fun z => by omega), if_neg (fun z => by omega), wk 9 (by decide) (by decide), p4]
          · simp only [setA_2]
            rw [if_neg (fun z => by omega)]
            by_cases q : j = 1
            · rw [if_pos ⟨by trivial, q⟩, if_pos q]; rfl
            · rw [if_neg (fun z => q z.2), wk 17 (by decide) (by decide)]; exact p5 j (by omega)
        · have no : ¬ w.2 0 i = 12 := by
            obtain ⟨⟨a0, a1, a2, a3, a4, a5, a6, a7, a8⟩, -⟩ := wP
            have : i = 0 ∨ i = 2 ∨ i = 3 ∨ i = 4 ∨ i = 5 ∨ i = 6 ∨ i = 7 ∨ i = 8 := by omega
            rcases this with rfl | rfl | rfl | rfl | rfl | rfl | rfl | rfl
            · rw [a0]; decide
            · rw [a2]; decide
            · rw [a3]; decide
            · rw [a4]; decide
            · rw [a5]; decide
            · rw [a6]; decide
            · rw [a7]; decide
            · rw [a8]; decide
          rw [if_neg no]
          exact ⟨s', e, hs i1⟩
      · rw [wP.2.2.2.2.2, if_neg (fun z => by rw [show (9 : Int32) = Int32.ofNat 9 from rfl, N_lt (by omega) (by omega)] at z; omega)]
        exact ⟨s', e, hs (by omega)⟩))
    (fun k t hp => by
      show ∃ r, f_prepare_31 (m + 40) (k + 1) 1 (Int32.ofNat 24) t = some r ∧ _
      rw [u_prepare_31, if_neg (by decide)]
      exact ⟨t, rfl, hp⟩) 24 0 (m + 40) (setI b 27 F) (by omega) (by omega) ⟨own_PgI h _ _ (by decide), rfl, rfl, rfl, fun j hj => by omega, fun h1 => by omega⟩
  exact ⟨c, e1, p1, p2, p3, p4, p5, p6 (by omega)⟩
/-- the running sum -/
def own_acc (s k : Int32) : Nat → Int32
  | 0 => 0
  | i + 1 => if k = 0 then own_acc s k i - (s + Int32.ofNat i) else own_acc s k i + (s + Int32.ofNat i)
/-- what stands at the head of turn i, or behind the loop -/
def own_W (s lim k : Int32) (FN i : Nat) (a0 a3 : Int32) (t : St) : Prop :=
  own_Pg t ∧ t.1 27 = Int32.ofNat FN ∧ t.1 30 = 0 ∧ t.1 26 = Int32.ofNat i ∧ t.2 11 0 = a0 ∧ t.2 11 1 = lim ∧ t.2 11 2 = k ∧ t.2 11 3 = a3 ∧ (∀ j, 4 ≤ j → j < 8 → t.2 11 j = 0) ∧ (∀ j, j < i → t.2 9 j = s + Int32.ofNat j)
def own_Y (s k : Int32) (FN trip i : Nat) (t : St) : Prop :=
  t.1 29 = 1 ∧ t.2 12 0 = 0 ∧ t.2 13 0 = s ∧ t.2 14 0 = Int32.ofNat trip ∧ (∃ ch cp : Nat, t.2 15 0 = Int32.ofNat ch ∧ t.2 16 0 = Int32.ofNat cp ∧ ch * FN + cp = i ∧ cp < FN) ∧
  t.2 17 1 = 1 ∧ t.2 19 1 = 1 ∧ t.2 20 1 = (if k = 0 then 0 else 1)
theorem own_st {n K : Nat} {L x2 p : Int32} {t u : St} (hP : own_Pg t) (hL : x2 < L) (hp : t.1 28 = p) (h0 : ¬ p < 0) (h9 : p < 9) (h30 : t.1 30 = 0) (e : f_executeAt n p t = some u) : f_execute_21 n (K + 1) L x2 t = f_execute_21 n K L (x2 + 1) u := by
  rw [u_execute_21, if_pos hL, hp, if_neg h0, hP.2.2.2.2.2, if_pos h9, if_pos h30, e, Option.bind_some]
theorem own_x1 {n : Nat} {t : St} {k : Int32} (h : own_Pg t) (h17 : t.2 17 1 = 1) (h19 : t.2 19 1 = 1) (h20 : t.2 20 1 = (if k = 0 then 0 else 1)) : f_executeAt n 1 t = some (setI t 28 (if k = 0 then 4 else 2)) := by
  obtain ⟨⟨-, a1, -⟩, -, -, -, ⟨-, m1, -⟩, -⟩ := h
  unfold f_executeAt
  rw [grd_pos (by decide), show ix (1 : Int32) = 1 from rfl, a1, if_neg (by decide), if_pos (by decide)]
  unfold f_executeAt_46
  rw [if_neg (by decide), if_neg (by decide), if_neg (by decide), if_pos rfl]
  unfold f_branch
  rw [grd_pos (by decide), show ix (1 : Int32) = 1 from rfl, h17, if_neg (by decide), h19, if_neg (by decide), h20]
  unfold f_branch_48
  by_cases q : k = 0
  · rw [if_pos q, if_pos rfl, grd_pos (by decide), show ix (1 : Int32) = 1 from rfl, m1, if_pos q]; rfl
  · rw [if_neg q, if_neg (by decide), if_neg q]; rfl
theorem own_x2 {n : Nat} {t : St} (h : own_Pg t) : f_executeAt n 2 t = some (setI (setA t 11 3 (t.2 11 3 + t.2 11 0)) 28 3) := by
  obtain ⟨⟨-, -, a2, -⟩, ⟨-, -, b2, -⟩, ⟨-, c2, -⟩, ⟨-, d2, -⟩, -, -⟩ := h
  unfold f_executeAt f_arith
  rw [grd_pos (by decide), show ix (2 : Int32) = 2 from rfl, a2, if_neg (by decide), if_neg (by decide), grd_pos (by decide), if_neg (by decide), c2, grd_pos (by decide), if_neg (by decide), d2, grd_pos (by decide), if_pos rfl, Option.bind_some, b2, grd_pos (by decide)]
  rfl
theorem own_x3 {n : Nat} {t : St} (h : own_Pg t) : f_executeAt n 3 t = some (setI t 28 6) := by
  obtain ⟨⟨-, -, -, a3, -⟩, -, -, -, ⟨-, -, m3⟩, -⟩ := h
  unfold f_executeAt f_executeAt_46
  rw [grd_pos (by decide), show ix (3 : Int32) = 3 from rfl, a3, if_neg (by decide), if_pos (by decide), if_neg (by decide), if_neg (by decide), if_neg (by decide), if_neg (by decide), if_pos rfl, grd_pos (by decide), bnd_eq, m3]
  rfl
theorem own_x4 {n : Nat} {t : St} (h : own_Pg t) : f_executeAt n 4 t = some (setI (setA t 11 3 (t.2 11 3 - t.2 11 0)) 28 5) := by
  obtain ⟨⟨-, -, -, -, a4, -⟩, ⟨-, -, -, b4, -⟩, ⟨-, -, c4⟩, ⟨-, -, d4⟩, -, -⟩ := h
  unfold f_executeAt f_arith
  rw [grd_pos (by decide), show ix (4 : Int32) = 4 from rfl, a4, if_neg (by decide), if_neg (by decide), grd_pos (by decide), if_neg (by decide), c4, grd_pos (by decide), if_neg (by decide), d4, grd_pos (by decide), if_neg (by decide), if_pos rfl, Option.bind_some, b4, grd_pos (by decide)]
  rfl
theorem own_x5 {n : Nat} {t : St} (h : own_Pg t) : f_executeAt n 5 t = some (setI t 28 6) := by
  obtain ⟨⟨-, -, -, -, -, a5, -⟩, -, -, -, -, -⟩ := h
  unfold f_executeAt f_executeAt_46
  rw [grd_pos (by decide), show ix (5 : Int32) = 5 from rfl, a5, if_neg (by decide), if_pos (by decide), if_neg (by decide), if_neg (by decide), if_neg (by decide), if_neg (by decide), if_neg (by decide), bnd_eq]
  rfl
theorem own_out {t : St} {i : Nat} (v : Int32) (hi : i < 32) (h : t.1 26 = Int32.ofNat i) : f_appendOutput v t = some (setI (setA t 9 i v) 26 (Int32.ofNat (i + 1))) := by
  unfold f_appendOutput f_appendOutput_19
  rw [h, if_pos (ltZ (z := 32) 32 rfl hi (by omega)), grd_pos (inbN hi (by omega)), bnd_eq, bnd_eq, setA_1, h, N_succ, ix_N (by omega)]
theorem own_x6 {n : Nat} {t : St} {i : Nat} (h : own_Pg t) (hi : i < 32) (ho : t.1 26 = Int32.ofNat i) : f_executeAt n 6 t = some (setI (setI (setA t 9 i (t.2 11 0)) 26 (Int32.ofNat (i + 1))) 28 7) := by
  obtain ⟨⟨-, -, -, -, -, -, a6, -⟩, ⟨-, -, -, -, b6, -⟩, -, -, -, -⟩ := h
  unfold f_executeAt f_executeAt_46
  rw [grd_pos (by decide), show ix (6 : Int32) = 6 from rfl, a6, if_neg (by decide), if_pos (by decide), if_pos rfl, grd_pos (by decide), b6, grd_pos (by decide), show ix (0 : Int32) = 0 from rfl, own_out _ hi ho, Option.bind_some, bnd_eq]
  rfl
theorem own_x8 {n : Nat} {t : St} {i : Nat} (h : own_Pg t) (hi : i < 32) (ho : t.1 26 = Int32.ofNat i) : f_executeAt n 8 t = some (setI (setI (setA t 9 i (t.2 11 3)) 26 (Int32.ofNat (i + 1))) 28 9) := by
  obtain ⟨⟨-, -, -, -, -, -, -, -, a8⟩, ⟨-, -, -, -, -, b8⟩, -, -, -, -⟩ := h
  unfold f_executeAt f_executeAt_46
  rw [grd_pos (by decide), show ix (8 : Int32) = 8 from rfl, a8, if_neg (by decide), if_pos (by decide), if_pos rfl, grd_pos (by decide), b8, grd_pos (by decide), show ix (3 : Int32) = 3 from rfl, own_out _ hi ho, Option.bind_some, bnd_eq]
  rfl
theorem own_x7 {n : Nat} {t : St} {s k : Int32} {FN trip i : Nat} (h : own_Pg t) (hr : t.1 27 = Int32.ofNat FN) (hF : FN ≤ 8) (hi : i < trip) (ht : trip ≤ 16) (Y : own_Y s k FN trip i t) :
    ∃ ch' cp' : Nat, ch' * FN + cp' = i + 1 ∧ cp' < FN ∧ f_executeAt n 7 t = some (if i + 1 < trip then setI (setA (setA (setA t 16 0 (Int32.ofNat cp')) 15 0 (Int32.ofNat ch')) 11 0 (s + Int32.ofNat (i + 1))) 28 1
      else setI (setI (setA (setA (setA t 16 0 (Int32.ofNat cp')) 15 0 (Int32.ofNat ch')) 11 0 (s + Int32.ofNat trip)) 29 0) 28 8) := by
  obtain ⟨y1, y2, y3, y4, ⟨ch, cp, y5, y6, y7, y8⟩, -⟩ := Y
  obtain ⟨⟨-, -, -, -, -, -, -, a7, -⟩, ⟨b0, -⟩, -, ⟨d0, -⟩, -, -⟩ := h
  have hch : ch ≤ i := by
    have : ch * 1 ≤ ch * FN := Nat.mul_le_mul_left _ (by omega)
    omega
  have fin : ∀ ch' cp' : Nat, ch' * FN + cp' = i + 1 → ch' ≤ 20 → cp' ≤ 20 → f_endIteration_64 7 0 0 (Int32.ofNat cp') (Int32.ofNat ch') t = some (if i + 1 < trip then setI (setA (setA (setA t 16 0 (Int32.ofNat cp')) 15 0 (Int32.ofNat ch')) 11 0 (s + Int32.ofNat (i + 1))) 28 1
      else setI (setI (setA (setA (setA t 16 0 (Int32.ofNat cp')) 15 0 (Int32.ofNat ch')) 11 0 (s + Int32.ofNat trip)) 29 0) 28 8) := by
    intro ch' cp' e1 h1 h2
    unfold f_endIteration_64
    simp only [bnd_eq, show ix (0 : Int32) = 0 from rfl, setA_1, setA_2, show ¬ ((14 : Nat) = 15) by decide, show ¬ ((14 : Nat) = 16) by decide, show ¬ ((1 : Nat) = 15) by decide, show ¬ ((1 : Nat) = 16) by decide,
      show ¬ ((13 : Nat) = 15) by decide, show ¬ ((13 : Nat) = 16) by decide, show ¬ ((3 : Nat) = 15) by decide, show ¬ ((3 : Nat) = 16) by decide, false_and, if_false, hr, y3, y4, b0, d0]
    rw [grd_pos (by decide), grd_pos (by decide), N_mul, N_add, e1, grd_pos (by decide), grd_pos (by decide), Int32.mul_one, Int32.mul_one]
    by_cases q : i + 1 < trip
    · rw [if_pos (ltN q (by omega)), if_pos q]; rfl
    · rw [if_neg (fun z => q ((N_lt (by omega) (by omega)).mp z)), if_neg q]; rfl
  have head : ∀ v : Option St, f_endIteration 7 t = v → f_executeAt n 7 t = v := fun v e => by
    unfold f_executeAt f_executeAt_46
    rw [grd_pos (by decide), show ix (7 : Int32) = 7 from rfl, a7, if_neg (by decide), if_pos (by decide), if_neg (by decide), if_neg (by decide), if_pos rfl, e]
    cases v <;> rfl
  have e : f_endIteration 7 t = (if Int32.ofNat (cp + 1) < Int32.ofNat FN then f_endIteration_64 7 0 0 (Int32.ofNat (cp + 1)) (Int32.ofNat ch) t else f_endIteration_64 7 0 0 0 (Int32.ofNat (ch + 1)) t) := by
    unfold f_endIteration
    rw [y1, show (1 : Int32) - 1 = 0 from rfl, if_neg (by decide), if_pos (by decide), grd_pos (by decide), show ix (0 : Int32) = 0 from rfl, y6, y2, y5, bnd_eq, hr, N_succ, N_succ]
  by_cases q : cp + 1 < FN
  · refine ⟨ch, cp + 1, by omega, q, head _ ?_⟩
    rw [e, if_pos (ltN q (by omega))]
    exact fin ch (cp + 1) (by omega) (by omega) (by omega)
  · have cf : cp + 1 = FN := by omega
    refine ⟨ch + 1, 0, by rw [Nat.add_mul]; omega, by omega, head _ ?_⟩
    rw [e, if_neg (fun z => q ((N_lt (by omega) (by omega)).mp z))]
    exact fin (ch + 1) 0 (by rw [Nat.add_mul]; omega) (by omega) (by omega)
theorem own_pcpc (t : St) (p : Nat) (a b : Int32) : setI (setI t p a) p b = setI t p b := by
  apply Prod.ext
  · funext x; rw [setI_1, setI_1, setI_1]; split <;> rfl
  · rfl
theorem own_t3 {n K : Nat} {L x s k : Int32} {i : Nat} {t : St} (h : own_Pg t) (h17 : t.2 17 1 = 1) (h19 : t.2 19 1 = 1) (h20 : t.2 20 1 = (if k = 0 then 0 else 1)) (h30 : t.1 30 = 0) (hp : t.1 28 = 1) (v0 : t.2 11 0 = s + Int32.ofNat i) (v3 : t.2 11 3 = own_acc s k i)
    (l1 : x < L) (l2 : x + 1 < L) (l3 : x + 1 + 1 < L) : f_execute_21 n (K + 3) L x t = f_execute_21 n K L (x + 1 + 1 + 1) (setI (setA t 11 3 (own_acc s k (i + 1))) 28 6) := by
  have pcI : ∀ (u : St) (p : Int32), (setI u 28 p).1 28 = p := fun u p => by rw [setI_1, if_pos (by trivial)]
  have stI : ∀ (u : St) (p : Int32), (setI u 28 p).1 30 = u.1 30 := fun u p => by rw [setI_1, if_neg (by decide)]
  rw [own_st (K := K + 2) h l1 hp (by decide) (by decide) h30 (own_x1 h h17 h19 h20)]
  by_cases q : k = 0
  · rw [if_pos q]
    have P1 := own_PgI (k := 28) h 4 (by decide)
    rw [own_st (K := K + 1) P1 l2 (pcI _ _) (by decide) (by decide) ((stI _ _).trans h30) (own_x4 P1)]
    have P2 := own_PgI (k := 28) (own_PgA (j := 11) P1 3 ((setI t 28 4).2 11 3 - (setI t 28 4).2 11 0) (by decide)) 5 (by decide)
    rw [own_st (K := K) P2 l3 (pcI _ _) (by decide) (by decide) (by rw [setI_1, if_neg (by decide), setA_1, setI_1, if_neg (by decide)]; exact h30) (own_x5 P2), own_pcpc, setI_2, v0, v3]
    show _ = f_execute_21 n K L (x + 1 + 1 + 1) (setI (setA t 11 3 (if k = 0 then own_acc s k i - (s + Int32.ofNat i) else own_acc s k i + (s + Int32.ofNat i))) 28 6)
    rw [if_pos q]
    exact congrArg _ (own_pcpc (setA t 11 3 (own_acc s k i - (s + Int32.ofNat i))) 28 4 6)
  · rw [if_neg q]
    have P1 := own_PgI (k := 28) h 2 (by decide)
    rw [own_st (K := K + 1) P1 l2 (pcI _ _) (by decide) (by decide) ((stI _ _).trans h30) (own_x2 P1)]
    have P2 := own_PgI (k := 28) (own_PgA (j := 11) P1 3 ((setI t 28 2).2 11 3 + (setI t 28 2).2 11 0) (by decide)) 3 (by decide)
    rw [own_st (K := K) P2 l3 (pcI _ _) (by decide) (by decide) (by rw [setI_1, if_neg (by decide), setA_1, setI_1, if_neg (by decide)]; exact h30) (own_x3 P2), own_pcpc, setI_2, v0, v3]
    show _ = f_execute_21 n K L (x + 1 + 1 + 1) (setI (setA t 11 3 (if k = 0 then own_acc s k i - (s + Int32.ofNat i) else own_acc s k i + (s + Int32.ofNat i))) 28 6)
    rw [if_neg q]
    exact congrArg _ (own_pcpc (setA t 11 3 (own_acc s k i + (s + Int32.ofNat i))) 28 2 6)
theorem own_turn {n K X : Nat} {s lim k : Int32} {FN trip i : Nat} {t : St} (W : own_W s lim k FN i (s + Int32.ofNat i) (own_acc s k i) t) (Y : own_Y s k FN trip i t) (hp : t.1 28 = 1) (hi : i < trip) (ht : trip ≤ 16) (hF : FN ≤ 8) (hX : X < 1000) :
    ∃ u, f_execute_21 n (K + 5) 6937 (Int32.ofNat X) t = f_execute_21 n K 6937 (Int32.ofNat (X + 5)) u ∧ own_W s lim k FN (i + 1) (s + Int32.ofNat (i + 1)) (own_acc s k (i + 1)) u ∧ (i + 1 < trip → u.1 28 = 1 ∧ own_Y s k FN trip (i + 1) u) ∧ (¬ i + 1 < trip → u.1 28 = 8) := by
  obtain ⟨w1, w2, w3, w4, w5, w6, w7, w8, w9, w10⟩ := W
  have Y' := Y
  obtain ⟨y1, y2, y3, y4, ⟨ch, cp, y5, y6, y7, y8⟩, y9, y10, y11⟩ := Y'
  have l : ∀ d, d < 10 → Int32.ofNat (X + d) < 6937 := fun d hd => ltZ (z := 6937) 6937 rfl (by omega) (by omega)
  rw [own_t3 (K := K + 2) (x := Int32.ofNat X) (i := i) w1 y9 y10 y11 w3 hp w5 w8 (l 0 (by omega)) (by rw [N_succ]; exact l 1 (by omega)) (by rw [N_succ, N_succ]; exact l 2 (by omega)), N_succ, N_succ, N_succ]
  obtain ⟨t3, e3⟩ : ∃ t3, t3 = setI (setA t 11 3 (own_acc s k (i + 1))) 28 6 := ⟨_, rfl⟩
  have P3 : own_Pg t3 := by rw [e3]; exact own_PgI (own_PgA w1 _ _ _ (by decide)) _ _ (by decide)
  have I3 : ∀ j, j ≠ 28 → t3.1 j = t.1 j := fun j hj => by rw [e3, setI_1, if_neg hj]; rfl
  have A3 : ∀ j x, t3.2 j x = if j = 11 ∧ x = 3 then own_acc s k (i + 1) else t.2 j x := fun j x => by rw [e3, setI_2, setA_2]
  have p3 : t3.1 28 = 6 := by rw [e3, setI_1, if_pos (by trivial)]
  rw [← e3]
  clear e3
  rw [own_st (K := K + 1) P3 (l 3 (by omega)) p3 (by decide) (by decide) ((I3 _ (by decide)).trans w3) (own_x6 (i := i) P3 (by omega) ((I3 _ (by decide)).trans w4)), N_succ]
  obtain ⟨t4, e4⟩ : ∃ t4, t4 = setI (setI (setA t3 9 i (t3.2 11 0)) 26 (Int32.ofNat (i + 1))) 28 7 := ⟨_, rfl⟩
  have P4 : own_Pg t4 := by rw [e4]; exact own_PgI (own_PgI (own_PgA P3 _ _ _ (by decide)) _ _ (by decide)) _ _ (by decide)
  have I4 : ∀ j, j ≠ 28 → j ≠ 26 → t4.1 j = t.1 j := fun j hj h2 => by rw [e4, setI_1, if_neg hj, setI_1, if_neg h2]; exact I3 j hj
  have o4 : t4.1 26 = Int32.ofNat (i + 1) := by rw [e4, setI_1, if_neg (by decide), setI_1, if_pos (by trivial)]
  have A4 : ∀ j x, t4.2 j x = if j = 9 ∧ x = i then s + Int32.ofNat i else if j = 11 ∧ x = 3 then own_acc s k (i + 1) else t.2 j x := fun j x => by
    rw [e4, setI_2, setI_2, setA_2, show t3.2 11 0 = s + Int32.ofNat i by rw [A3, if_neg (fun z => by omega), w5], A3]
  have p4 : t4.1 28 = 7 := by rw [e4, setI_1, if_pos (by trivial)]
  rw [← e4]
  clear e4
  have Y4 : own_Y s k FN trip i t4 := by
    have a : ∀ j x, j ≠ 9 → j ≠ 11 → t4.2 j x = t.2 j x := fun j x h1 h2 => by rw [A4, if_neg (fun z => h1 z.1), if_neg (fun z => h2 z.1)]
    exact ⟨(I4 _ (by decide) (by decide)).trans y1, (a _ _ (by decide) (by decide)).trans y2, (a _ _ (by decide) (by decide)).trans y3, (a _ _ (by decide) (by decide)).trans y4, ⟨ch, cp, (a _ _ (by decide) (by decide)).trans y5, (a _ _ (by decide) (by decide)).trans y6, y7, y8⟩, (a _ _ (by decide) (by decide)).trans y9, (a _ _ (by decide) (by decide)).trans y10, (a _ _ (by decide) (by decide)).trans y11⟩
  obtain ⟨ch', cp', g1, g2, ge⟩ := own_x7 (n := n) P4 ((I4 _ (by decide) (by decide)).trans w2) hF hi ht Y4
  rw [own_st (K := K) P4 (l 4 (by omega)) p4 (by decide) (by decide) ((I4 _ (by decide) (by decide)).trans w3) ge, N_succ]
  have WW : ∀ u : St, own_Pg u → (∀ j, j ≠ 28 → j ≠ 29 → u.1 j = t4.1 j) → (∀ x, u.2 11 x = if x = 0 then s + Int32.ofNat (i + 1) else t4.2 11 x) → (∀ x, u.2 9 x = t4.2 9 x) → own_W s lim k FN (i + 1) (s + Int32.ofNat (i + 1)) (own_acc s k (i + 1)) u := by
    intro u hP hI hv ho
    refine ⟨hP, ?_, ?_, ?_, ?_, ?_, ?_, ?_, fun j h4 h8 => ?_, fun j hj => ?_⟩
    · rw [hI _ (by decide) (by decide), I4 _ (by decide) (by decide), w2]
    · rw [hI _ (by decide) (by decide), I4 _ (by decide) (by decide), w3]
    · rw [hI _ (by decide) (by decide), o4]
    · rw [hv, if_pos rfl]
    · rw [hv, if_neg (by decide), A4, if_neg (fun z => by omega), if_neg (fun z => by omega), w6]
    · rw [hv, if_neg (by decide), A4, if_neg (fun z => by omega), if_neg (fun z => by omega), w7]
    · rw [hv, if_neg (by decide), A4, if_neg (fun z => by omega), if_pos ⟨by trivial, rfl⟩]
    · rw [hv, if_neg (by omega), A4, if_neg (fun z => by omega), if_neg (fun z => by omega), w9 j h4 h8]
    · rw [ho, A4]
      by_cases q : j = i
      · rw [if_pos ⟨by trivial, q⟩, q]
      · rw [if_neg (fun z => q z.2), if_neg (fun z => by omega), w10 j (by omega)]
  by_cases q : i + 1 < trip
  · rw [if_pos q]
    refine ⟨_, rfl, WW _ ?_ (fun j h1 h2 => by rw [setI_1, if_neg h1]; rfl) (fun x => by rw [setI_2]; simp only [setA_2]; by_cases q : x = 0 <;> simp [q]) (fun x => by rw [setI_2]; simp only [setA_2]; simp), fun _ => ⟨by rw [setI_1, if_pos (by trivial)], ?_⟩, fun z => absurd q z⟩
    · exact own_PgI (own_PgA (own_PgA (own_PgA P4 _ _ _ (by decide)) _ _ _ (by decide)) _ _ _ (by decide)) _ _ (by decide)
    · obtain ⟨v1, v2, v3, v4, -, v9, v10, v11⟩ := Y4
      refine ⟨by rw [setI_1, if_neg (by decide)]; exact v1, ?_, ?_, ?_, ⟨ch', cp', ?_, ?_, g1, g2⟩, ?_, ?_, ?_⟩ <;> rw [setI_2] <;> simp only [setA_2]
      · simpa using v2
      · simpa using v3
      · simpa using v4
      · simp
      · simp
      · simpa using v9
      · simpa using v10
      · simpa using v11
  · rw [if_neg q]
    have te : trip = i + 1 := by omega
    refine ⟨_, rfl, WW _ ?_ (fun j h1 h2 => by rw [setI_1, if_neg h1, setI_1, if_neg h2]; rfl) (fun x => by rw [setI_2, setI_2, te]; simp only [setA_2]; by_cases q : x = 0 <;> simp [q]) (fun x => by rw [setI_2, setI_2]; simp only [setA_2]; simp), fun z => absurd z q, fun _ => by rw [setI_1, if_pos (by trivial)]⟩
    exact own_PgI (own_PgI (own_PgA (own_PgA (own_PgA P4 _ _ _ (by decide)) _ _ _ (by decide)) _ _ _ (by decide)) _ _ (by decide)) _ _ (by decide)
theorem own_turns {n : Nat} {s lim k : Int32} {FN trip : Nat} (ht : trip ≤ 16) (hF : FN ≤ 8) : ∀ (d i K X : Nat) (t : St), i + d = trip → 0 < d → own_W s lim k FN i (s + Int32.ofNat i) (own_acc s k i) t → own_Y s k FN trip i t → t.1 28 = 1 → X = 1 + 5 * i →
    ∃ u, f_execute_21 n (K + 5 * d) 6937 (Int32.ofNat X) t = f_execute_21 n K 6937 (Int32.ofNat (1 + 5 * trip)) u ∧ own_W s lim k FN trip (s + Int32.ofNat trip) (own_acc s k trip) u ∧ u.1 28 = 8 := by
  intro d
  induction d with
  | zero => intro i K X t _ h; omega
  | succ d ih =>
    intro i K X t hd _ W Y hp hX
    obtain ⟨u, e, W', c1, c2⟩ := own_turn (n := n) (K := K + 5 * d) (X := X) W Y hp (by omega) ht hF (by omega)
    rw [show K + 5 * (d + 1) = K + 5 * d + 5 by omega, e]
    by_cases q : d = 0
    · subst q
      have te : trip = i + 1 := by omega
      subst te
      refine ⟨u, ?_, W', c2 (by omega)⟩
      rw [hX, show 1 + 5 * i + 5 = 1 + 5 * (i + 1) by omega, show K + 5 * 0 = K from rfl]
    · obtain ⟨c3, c4⟩ := c1 (by omega)
      exact ih (i + 1) K (X + 5) u (by omega) (by omega) W' c4 c3 (by omega)
/-- the end: OUT, then off the program -/
theorem own_tail {n K X : Nat} {s lim k a0 a3 : Int32} {FN i : Nat} {t : St} (W : own_W s lim k FN i a0 a3 t) (hp : t.1 28 = 8) (hi : i ≤ 16) (hX : X < 1000) :
    ∃ u, f_execute_21 n (K + 2) 6937 (Int32.ofNat X) t = some u ∧ own_W s lim k FN i a0 a3 (setI u 26 (Int32.ofNat i)) ∧ u.1 30 = 0 ∧ u.1 26 = Int32.ofNat (i + 1) ∧ u.2 9 i = a3 := by
  obtain ⟨w1, w2, w3, w4, w5, w6, w7, w8, w9, w10⟩ := W
  have l : ∀ d, d < 10 → Int32.ofNat (X + d) < 6937 := fun d hd => ltZ (z := 6937) 6937 rfl (by omega) (by omega)
  rw [own_st (K := K + 1) (x2 := Int32.ofNat X) w1 (l 0 (by omega)) hp (by decide) (by decide) w3 (own_x8 (i := i) w1 (by omega) w4), N_succ, w8]
  obtain ⟨t4, e4⟩ : ∃ t4, t4 = setI (setI (setA t 9 i a3) 26 (Int32.ofNat (i + 1))) 28 9 := ⟨_, rfl⟩
  have P4 : own_Pg t4 := by rw [e4]; exact own_PgI (own_PgI (own_PgA w1 _ _ _ (by decide)) _ _ (by decide)) _ _ (by decide)
  have I4 : ∀ j, j ≠ 28 → j ≠ 26 → t4.1 j = t.1 j := fun j hj h2 => by rw [e4, setI_1, if_neg hj, setI_1, if_neg h2]; rfl
  have o4 : t4.1 26 = Int32.ofNat (i + 1) := by rw [e4, setI_1, if_neg (by decide), setI_1, if_pos (by trivial)]
  have A4 : ∀ j x, t4.2 j x = if j = 9 ∧ x = i then a3 else t.2 j x := fun j x => by
    rw [e4, setI_2, setI_2, setA_2]
  have p4 : t4.1 28 = 9 := by rw [e4, setI_1, if_pos (by trivial)]
  rw [← e4]
  clear e4
  refine ⟨t4, ?_, ⟨own_PgI P4 _ _ (by decide), ?_, ?_, ?_, ?_, ?_, ?_, ?_, fun j h4 h8 => ?_, fun j hj => ?_⟩, ?_, o4, ?_⟩
  · rw [u_execute_21, if_pos (l 1 (by omega)), p4, if_neg (by decide), P4.2.2.2.2.2, if_neg (by decide)]
  · rw [setI_1, if_neg (by decide), I4 _ (by decide) (by decide), w2]
  · rw [setI_1, if_neg (by decide), I4 _ (by decide) (by decide), w3]
  · rw [setI_1, if_pos (by trivial)]
  · rw [setI_2, A4, if_neg (fun z => by omega), w5]
  · rw [setI_2, A4, if_neg (fun z => by omega), w6]
  · rw [setI_2, A4, if_neg (fun z => by omega), w7]
  · rw [setI_2, A4, if_neg (fun z => by omega), w8]
  · rw [setI_2, A4, if_neg (fun z => by omega), w9 j h4 h8]
  · rw [setI_2, A4, if_neg (fun z => by omega), w10 j hj]
  · rw [I4 _ (by decide) (by decide), w3]
  · rw [A4, if_pos ⟨by trivial, rfl⟩]
/-- the trip count -/
theorem own_dg {m : Nat} {t : St} {k : Int32} (h : own_Pg t) (hI : ∀ i, i < 24 → t.2 17 i = if i = 1 then 1 else 0) (h18 : t.2 18 1 = 0) (hk : t.2 11 2 = k) : f_decideGuards (m + 8) 0 t = some (setA (setA t 19 1 1) 20 1 (if k = 0 then 0 else 1)) := by
  obtain ⟨a, ⟨b0, b1, b⟩, c, d, ⟨m0, m1, m3⟩, c9⟩ := h
  unfold f_decideGuards
  rw [grd_pos (by decide), show ix (0 : Int32) = 0 from rfl, m0, show (0 : Int32) + 1 = 1 from rfl, u_decideGuards_11, if_pos (by decide), c9, if_pos (by decide), grd_pos (by decide), show ix (1 : Int32) = 1 from rfl, hI 1 (by omega), if_pos rfl, if_neg (by decide), h18, if_pos rfl, bnd_eq, setA_2, if_neg (by decide), b1, grd_pos (by decide), show ix (2 : Int32) = 2 from rfl, show (setA t 19 1 (1 &&& 1)).2 11 2 = k from hk]
  unfold f_decideGuards_74
  obtain ⟨u, eu⟩ : ∃ u, u = setA (setA t 19 1 1) 20 1 (if k = 0 then 0 else 1) := ⟨_, rfl⟩
  have go : ∀ (x : Int32) (i : Nat) (K : Nat), Int32.ofNat i = x → 2 ≤ i → i < 7 → f_decideGuards_11 (m + 8) (K + 1) 0 7 x u = f_decideGuards_11 (m + 8) K 0 7 (x + 1) u := fun x i K e h2 h7 => by
    have u1 : u.1 21 = 9 := by rw [eu]; exact c9
    have u2 : u.2 17 i = 0 := by
      rw [eu, setA_2, if_neg (fun z => by omega), setA_2, if_neg (fun z => by omega), hI i (by omega), if_neg (by omega)]
    rw [u_decideGuards_11, ← e, if_pos (ltZ (z := 7) 7 rfl h7 (by omega)), u1, if_pos (ltZ (z := 9) 9 rfl (by omega) (by omega)), grd_pos (inbN (by omega) (by omega)), ix_N (by omega), u2, if_pos rfl]
  have fin : f_decideGuards_11 (m + 8) (m + 7) 0 7 (1 + 1) u = some u := by
    rw [show (1 : Int32) + 1 = 2 from rfl, go 2 2 (m + 6) rfl (by omega) (by omega), show (2 : Int32) + 1 = 3 from rfl, go 3 3 (m + 5) rfl (by omega) (by omega), show (3 : Int32) + 1 = 4 from rfl, go 4 4 (m + 4) rfl (by omega) (by omega), show (4 : Int32) + 1 = 5 from rfl, go 5 5 (m + 3) rfl (by omega) (by omega), show (5 : Int32) + 1 = 6 from rfl, go 6 6 (m + 2) rfl (by omega) (by omega), show (6 : Int32) + 1 = 7 from rfl]
    rw [u_decideGuards_11, if_neg (by decide)]
  rw [eu] at fin
  by_cases q : k = 0
  · rw [if_pos q, grd_pos (by decide), bnd_eq]
    rw [if_pos q] at fin ⊢
    exact fin
  · rw [if_neg q, grd_pos (by decide), bnd_eq]
    rw [if_neg q] at fin ⊢
    exact fin
theorem own_cl0 (x y : Int64) : XT.cmpL x y < 0 ↔ x.toInt < y.toInt := by
  unfold XT.cmpL
  have a : y < x ↔ y.toInt < x.toInt := Int64.lt_iff_toInt_lt
  have c : x = y ↔ x.toInt = y.toInt := Int64.toInt_inj.symm
  by_cases q : y < x
  · rw [if_pos q]; exact ⟨fun z => absurd z (by decide), fun z => by have := a.mp q; omega⟩
  · rw [if_neg q]
    by_cases r : x = y
    · rw [if_pos r]; exact ⟨fun z => absurd z (by decide), fun z => by have := c.mp r; omega⟩
    · rw [if_neg r]; exact ⟨fun z => by have h1 := mt a.mpr q; have h2 := mt c.mpr r; omega, fun z => by decide⟩
theorem own_cg0 (x y : Int64) : 0 < XT.cmpL x y ↔ y.toInt < x.toInt := by
  unfold XT.cmpL
  have a : y < x ↔ y.toInt < x.toInt := Int64.lt_iff_toInt_lt
  by_cases q : y < x
  · rw [if_pos q]; exact ⟨fun z => a.mp q, fun z => by decide⟩
  · rw [if_neg q]
    by_cases r : x = y
    · rw [if_pos r]; exact ⟨fun z => absurd z (by decide), fun z => absurd (a.mpr z) q⟩
    · rw [if_neg r]; exact ⟨fun z => absurd z (by decide), fun z => absurd (a.mpr z) q⟩
theorem own_ce0 (x y : Int64) : XT.cmpL x y = 0 ↔ x.toInt = y.toInt := by
  unfold XT.cmpL
  have a : y < x ↔ y.toInt < x.toInt := Int64.lt_iff_toInt_lt
  have c : x = y ↔ x.toInt = y.toInt := Int64.toInt_inj.symm
  by_cases q : y < x
  · rw [if_pos q]; exact ⟨fun z => absurd z (by decide), fun z => by have := a.mp q; omega⟩
  · rw [if_neg q]
    by_cases r : x = y
    · rw [if_pos r]; exact ⟨fun _ => c.mp r, fun _ => rfl⟩
    · rw [if_neg r]; exact ⟨fun z => absurd z (by decide), fun z => absurd (c.mpr z) r⟩
theorem own_D (s lim : Int32) : (lim.toInt64 - s.toInt64).toInt = lim.toInt - s.toInt := by
  have a := rng s
  have b := rng lim
  rw [Int64.toInt_sub, Int32.toInt_toInt64, Int32.toInt_toInt64]
  rw [Int.bmod_eq_of_le (by omega) (by omega)]
/-- the number of turns -/
def own_T (s lim : Int32) : Int64 := if s.toInt < lim.toInt then lim.toInt64 - s.toInt64 else 0
theorem own_Tn (s lim : Int32) : 0 ≤ (own_T s lim).toInt := by
  unfold own_T
  split
  · rw [own_D]; omega
  · decide
theorem own_trip (t : St) (s lim : Int32) : f_tripCount t s lim 1 = some (own_T s lim) := by
  unfold f_tripCount own_T
  rw [show (1 : Int32).toInt64 = 1 from rfl, if_pos (by decide)]
  have c := own_cl0 s.toInt64 lim.toInt64
  rw [Int32.toInt_toInt64, Int32.toInt_toInt64] at c
  by_cases q : s.toInt < lim.toInt
  · rw [if_pos (c.mpr q), if_pos q, grd_pos (by decide), Int64.add_sub_cancel, Int64.div_one]
  · rw [if_neg (fun z => q (c.mp z)), if_neg q]
theorem own_lawT {α : Type} (s lim : Int32) (G : Int64 → α) : (if XT.cmpL (lim.toInt64 - s.toInt64) 0 < 0 then G 0 else G (lim.toInt64 - s.toInt64)) = G (own_T s lim) := by
  have c := own_cl0 (lim.toInt64 - s.toInt64) 0
  have d := own_D s lim
  rw [d, show (0 : Int64).toInt = 0 from rfl] at c
  unfold own_T
  by_cases q : lim.toInt - s.toInt < 0
  · rw [if_pos (c.mpr q), if_neg (by omega)]
  · rw [if_neg (fun z => q (c.mp z))]
    by_cases r : s.toInt < lim.toInt
    · rw [if_pos r]
    · rw [if_neg r, show lim.toInt64 - s.toInt64 = 0 from Int64.toInt_inj.mp (by rw [d, show (0 : Int64).toInt = 0 from rfl]; omega)]
theorem own_x0 {n : Nat} {t : St} (h : own_Pg t) : f_executeAt n 0 t = f_enterLoop n 0 t := by
  obtain ⟨⟨a0, -⟩, -⟩ := h
  unfold f_executeAt f_executeAt_46
  rw [grd_pos (by decide), show ix (0 : Int32) = 0 from rfl, a0, if_neg (by decide), if_pos (by decide), if_neg (by decide), if_pos rfl]
  cases f_enterLoop n 0 t <;> rfl
theorem own_en1 {n : Nat} {t : St} {s lim : Int32} (h : own_Pg t) (v0 : t.2 11 0 = s) (v1 : t.2 11 1 = lim) (hT : 16 < (own_T s lim).toInt) : f_enterLoop n 0 t = some (setI t 30 1) := by
  obtain ⟨-, ⟨b0, -⟩, ⟨c0, -⟩, ⟨d0, -⟩, -⟩ := h
  unfold f_enterLoop
  rw [grd_pos (by decide), show ix (0 : Int32) = 0 from rfl, b0, c0, d0, grd_pos (by decide), grd_pos (by decide), show ix (0 : Int32) = 0 from rfl, show ix (1 : Int32) = 1 from rfl, v0, v1, own_trip, Option.bind_some, if_pos ((own_cg0 (own_T s lim) 16).mpr hT)]
  rfl
theorem own_en0 {n : Nat} {t : St} {s lim : Int32} (h : own_Pg t) (v0 : t.2 11 0 = s) (v1 : t.2 11 1 = lim) (hT : (own_T s lim).toInt = 0) : f_enterLoop n 0 t = some (setI (setA t 11 0 s) 28 8) := by
  obtain ⟨-, ⟨b0, -⟩, ⟨c0, -⟩, ⟨d0, -⟩, ⟨m0, -⟩, -⟩ := h
  unfold f_enterLoop
  rw [grd_pos (by decide), show ix (0 : Int32) = 0 from rfl, b0, c0, d0, grd_pos (by decide), grd_pos (by decide), show ix (0 : Int32) = 0 from rfl, show ix (1 : Int32) = 1 from rfl, v0, v1, own_trip, Option.bind_some, if_neg (fun z => by
    have := (own_cg0 _ _).mp z
    rw [show (16 : Int64).toInt = 16 from rfl] at this
    omega), if_neg (fun z => by
    have := (own_cg0 _ _).mp z
    rw [show (0 : Int64).toInt = 0 from rfl] at this
    omega)]
  unfold f_enterLoop_72
  rw [grd_pos (by decide), bnd_eq, grd_pos (by decide), show ix (0 : Int32) = 0 from rfl, show (setA t 11 0 s).2 4 0 = 7 from m0]
  rfl
theorem own_en2 {m : Nat} {t : St} {s lim k : Int32} {FN trip : Nat} (h : own_Pg t) (v0 : t.2 11 0 = s) (v1 : t.2 11 1 = lim) (v2 : t.2 11 2 = k) (hT : own_T s lim = Int64.ofNat trip) (h1 : 0 < trip) (h16 : trip ≤ 16) (hf : t.1 29 = 0) (hF : 1 ≤ FN)
    (hI : ∀ i, i < 24 → t.2 17 i = if i = 1 then 1 else 0) (h18 : t.2 18 1 = 0) :
    ∃ u, f_enterLoop (m + 8) 0 t = some u ∧ own_Pg u ∧ u.1 28 = 1 ∧ (∀ j, j ≠ 28 → j ≠ 29 → u.1 j = t.1 j) ∧ u.2 11 = t.2 11 ∧ u.2 9 = t.2 9 ∧ own_Y s k FN trip 0 u := by
  have hh := h
  obtain ⟨-, ⟨b0, -⟩, ⟨c0, -⟩, ⟨d0, -⟩, -⟩ := h
  have ti : (Int64.ofNat trip).toInt = trip := Int64.toInt_ofNat_of_lt (by omega)
  unfold f_enterLoop
  rw [grd_pos (by decide), show ix (0 : Int32) = 0 from rfl, b0, c0, d0, grd_pos (by decide), grd_pos (by decide), show ix (0 : Int32) = 0 from rfl, show ix (1 : Int32) = 1 from rfl, v0, v1, own_trip, Option.bind_some, hT, if_neg (fun z => by
    have := (own_cg0 _ _).mp z
    rw [show (16 : Int64).toInt = 16 from rfl, ti] at this
    omega), if_pos ((own_cg0 _ _).mpr (by rw [show (0 : Int64).toInt = 0 from rfl, ti]; omega)), hf, if_pos (by decide), grd_pos (by decide), show ix (0 : Int32) = 0 from rfl]
  rw [bnd_eq, setA_1, hf, grd_pos (by decide), show ix (0 : Int32) = 0 from rfl]
  rw [bnd_eq, setA_1, setA_1, hf, grd_pos (by decide), show ix (0 : Int32) = 0 from rfl]
  rw [bnd_eq, setA_1, setA_1, setA_1, hf, grd_pos (by decide), show ix (0 : Int32) = 0 from rfl]
  rw [bnd_eq, setA_1, setA_1, setA_1, setA_1, hf, grd_pos (by decide), show ix (0 : Int32) = 0 from rfl]
  rw [bnd_eq, bnd_eq, setA_1, setA_1, setA_1, setA_1, setA_1, hf, show (Int64.ofNat trip).toInt32 = Int32.ofNat trip from Int64.toInt32_ofNat]
  obtain ⟨w, ew⟩ : ∃ w, w = setI (setA (setA (setA (setA (setA t 12 0 0) 13 0 s) 14 0 (Int32.ofNat trip)) 15 0 0) 16 0 0) 29 (0 + 1) := ⟨_, rfl⟩
  have wP : own_Pg w := by
    rw [ew]
    exact own_PgI (own_PgA (own_PgA (own_PgA (own_PgA (own_PgA hh _ _ _ (by decide)) _ _ _ (by decide)) _ _ _ (by decide)) _ _ _ (by decide)) _ _ _ (by decide)) _ _ (by decide)
  have wA : ∀ j x, j ≠ 12 → j ≠ 13 → j ≠ 14 → j ≠ 15 → j ≠ 16 → w.2 j x = t.2 j x := fun j x g1 g2 g3 g4 g5 => by
    rw [ew, setI_2, setA_2, if_neg (fun z => g5 z.1), setA_2, if_neg (fun z => g4 z.1), setA_2, if_neg (fun z => g3 z.1), setA_2, if_neg (fun z => g2 z.1), setA_2, if_neg (fun z => g1 z.1)]
  rw [← ew, own_dg (k := k) wP (fun i hi => by rw [wA _ _ (by decide) (by decide) (by decide) (by decide) (by decide)]; exact hI i hi) (by rw [wA _ _ (by decide) (by decide) (by decide) (by decide) (by decide)]; exact h18) (by rw [wA _ _ (by decide) (by decide) (by decide) (by decide) (by decide)]; exact v2), Option.bind_some, bnd_eq, bnd_eq]
  refine ⟨_, rfl, ?_, by rw [setI_1, if_pos (by trivial)]; rfl, fun j g1 g2 => ?_, ?_, ?_, ?_⟩
  · exact own_PgI (own_PgA (own_PgA (own_PgA wP _ _ _ (by decide)) _ _ _ (by decide)) _ _ _ (by decide)) _ _ (by decide)
  · rw [setI_1, if_neg g1, setA_1, setA_1, setA_1, ew, setI_1, if_neg g2]; rfl
  · funext x
    rw [setI_2, setA_2]
    by_cases q : x = 0
    · rw [if_pos ⟨by trivial, q⟩, q, v0]
    · rw [if_neg (fun z => q z.2), setA_2, if_neg (fun z => by omega), setA_2, if_neg (fun z => by omega), wA _ _ (by decide) (by decide) (by decide) (by decide) (by decide)]
  · funext x
    rw [setI_2, setA_2, if_neg (fun z => by omega), setA_2, if_neg (fun z => by omega), setA_2, if_neg (fun z => by omega), wA _ _ (by decide) (by decide) (by decide) (by decide) (by decide)]
  · refine ⟨?_, ?_, ?_, ?_, ⟨0, 0, ?_, ?_, by omega, by omega⟩, ?_, ?_, ?_⟩
    · rw [setI_1, if_neg (by decide), setA_1, setA_1, setA_1, ew, setI_1, if_pos (by trivial)]; rfl
    · rw [setI_2, ew]; simp [setA_2, setI_2]
    · rw [setI_2, ew]; simp [setA_2, setI_2]
    · rw [setI_2, ew]; simp [setA_2, setI_2]
    · rw [setI_2, ew]; simp [setA_2, setI_2]
    · rw [setI_2, ew]; simp [setA_2, setI_2]
    · rw [setI_2, setA_2, if_neg (fun z => by omega), setA_2, if_neg (fun z => by omega), setA_2, if_neg (fun z => by omega), wA _ _ (by decide) (by decide) (by decide) (by decide) (by decide)]; exact hI 1 (by omega)
    · rw [setI_2, setA_2, if_neg (fun z => by omega), setA_2, if_neg (fun z => by omega), setA_2, if_pos ⟨by trivial, rfl⟩]
    · rw [setI_2, setA_2, if_neg (fun z => by omega), setA_2, if_pos ⟨by trivial, rfl⟩]
/-- what the run leaves -/
def own_Z (s lim k : Int32) (FN : Nat) (q : St) : Prop :=
  (16 < (own_T s lim).toInt ∧ q.1 30 = 1 ∧ q.1 26 = 0 ∧ q.2 11 0 = s ∧ q.2 11 1 = lim ∧ q.2 11 2 = k ∧ q.2 11 3 = 0 ∧ (∀ j, 4 ≤ j → j < 8 → q.2 11 j = 0)) ∨
  ∃ trip, trip ≤ 16 ∧ own_T s lim = Int64.ofNat trip ∧ q.1 30 = 0 ∧ q.1 26 = Int32.ofNat (trip + 1) ∧ q.2 9 trip = own_acc s k trip ∧ own_W s lim k FN trip (s + Int32.ofNat trip) (own_acc s k trip) (setI q 26 (Int32.ofNat trip))
theorem own_exec {m FN : Nat} {s lim k : Int32} {c : St} (h : own_Pg c) (hr : c.1 27 = Int32.ofNat FN) (hF1 : 1 ≤ FN) (hF8 : FN ≤ 8) (ho : c.1 26 = 0) (v0 : c.2 11 0 = s) (v1 : c.2 11 1 = lim) (v2 : c.2 11 2 = k) (v3 : c.2 11 3 = 0) (v4 : ∀ j, 4 ≤ j → j < 8 → c.2 11 j = 0)
    (hI : ∀ i, i < 24 → c.2 17 i = if i = 1 then 1 else 0) (h18 : c.2 18 1 = 0) : ∃ q, f_execute (m + 100) c = some q ∧ own_Z s lim k FN q := by
  unfold f_execute
  rw [bnd_eq, bnd_eq, bnd_eq]
  obtain ⟨t, et⟩ : ∃ t, t = setI (setI (setI c 28 0) 29 0) 30 (0 &&& 1) := ⟨_, rfl⟩
  rw [← et]
  have P : own_Pg t := by rw [et]; exact own_PgI (own_PgI (own_PgI h _ _ (by decide)) _ _ (by decide)) _ _ (by decide)
  have A : t.2 = c.2 := by rw [et]; rfl
  have I : ∀ j, j ≠ 28 → j ≠ 29 → j ≠ 30 → t.1 j = c.1 j := fun j g1 g2 g3 => by rw [et, setI_1, if_neg g3, setI_1, if_neg g2, setI_1, if_neg g1]
  have p0 : t.1 28 = 0 := by rw [et, setI_1, if_neg (by decide), setI_1, if_neg (by decide), setI_1, if_pos (by trivial)]
  have f0 : t.1 29 = 0 := by rw [et, setI_1, if_neg (by decide), setI_1, if_pos (by trivial)]
  have s0 : t.1 30 = 0 := by rw [et, setI_1, if_pos (by trivial)]; rfl
  clear et
  have Tn := own_Tn s lim
  by_cases big : 16 < (own_T s lim).toInt
  · have e := own_en1 (n := m + 100) P (s := s) (lim := lim) (by rw [A]; exact v0) (by rw [A]; exact v1) big
    rw [own_st (K := m + 99) P (by decide) p0 (by decide) (by decide) s0 ((own_x0 P).trans e)]
    refine ⟨setI t 30 1, ?_, Or.inl ⟨big, by rw [setI_1, if_pos (by trivial)], ?_, ?_, ?_, ?_, ?_, fun j h4 h8 => ?_⟩⟩
    · rw [u_execute_21, if_pos (by decide), show (setI t 30 1).1 28 = 0 by rw [setI_1, if_neg (by decide)]; exact p0, if_neg (by decide), show (setI t 30 1).1 21 = 9 by rw [setI_1, if_neg (by decide)]; exact P.2.2.2.2.2, if_pos (by decide), show (setI t 30 1).1 30 = 1 by rw [setI_1, if_pos (by trivial)], if_neg (by decide)]
    · rw [setI_1, if_neg (by decide), I _ (by decide) (by decide) (by decide), ho]
    · rw [setI_2, A, v0]
    · rw [setI_2, A, v1]
    · rw [setI_2, A, v2]
    · rw [setI_2, A, v3]
    · rw [setI_2, A, v4 j h4 h8]
  · obtain ⟨trip, ht⟩ : ∃ trip : Nat, (own_T s lim).toInt = trip := ⟨(own_T s lim).toInt.toNat, by omega⟩
    have hT : own_T s lim = Int64.ofNat trip := Int64.toInt_inj.mp (by rw [ht, Int64.toInt_ofNat_of_lt (by omega)])
    have fin : ∀ (K X : Nat) (u : St), own_W s lim k FN trip (s + Int32.ofNat trip) (own_acc s k trip) u → u.1 28 = 8 → X < 1000 → ∃ q, f_execute_21 (m + 100) (K + 2) 6937 (Int32.ofNat X) u = some q ∧ own_Z s lim k FN q := fun K X u W p8 hX => by
      obtain ⟨q, e, w, q1, q2, q3⟩ := own_tail (n := m + 100) (K := K) W p8 (by omega) hX
      exact ⟨q, e, Or.inr ⟨trip, by omega, hT, q1, q2, q3, w⟩⟩
    by_cases z : trip = 0
    · have e := own_en0 (n := m + 100) P (s := s) (lim := lim) (by rw [A]; exact v0) (by rw [A]; exact v1) (by rw [ht, z]; rfl)
      rw [own_st (K := m + 99) P (by decide) p0 (by decide) (by decide) s0 ((own_x0 P).trans e)]
      refine fin (m + 97) 1 _ ⟨own_PgI (own_PgA P _ _ _ (by decide)) _ _ (by decide), ?_, ?_, ?_, ?_, ?_, ?_, ?_, fun j h4 h8 => ?_, fun j hj => by omega⟩ (by rw [setI_1, if_pos (by trivial)]) (by omega)
      · rw [setI_1, if_neg (by decide), setA_1, I _ (by decide) (by decide) (by decide), hr]
      · rw [setI_1, if_neg (by decide), setA_1, s0]
      · rw [setI_1, if_neg (by decide), setA_1, I _ (by decide) (by decide) (by decide), ho, z]; rfl
      · rw [setI_2, setA_2, if_pos ⟨by trivial, rfl⟩, z]; exact (Int32.add_zero s).symm
      · rw [setI_2, setA_2, if_neg (fun z => by omega), A, v1]
      · rw [setI_2, setA_2, if_neg (fun z => by omega), A, v2]
      · rw [setI_2, setA_2, if_neg (fun z => by omega), A, v3, z]; rfl
      · rw [setI_2, setA_2, if_neg (fun z => by omega), A, v4 j h4 h8]
    · obtain ⟨u, e, uP, up, uI, uv, uo, uY⟩ := own_en2 (m := m + 92) (k := k) (FN := FN) (trip := trip) P (s := s) (lim := lim) (by rw [A]; exact v0) (by rw [A]; exact v1) (by rw [A]; exact v2) hT (by omega) (by omega) f0 hF1 (by rw [A]; exact hI) (by rw [A]; exact h18)
      rw [own_st (K := m + 99) P (by decide) p0 (by decide) (by decide) s0 ((own_x0 P).trans e)]
      have W0 : own_W s lim k FN 0 (s + Int32.ofNat 0) (own_acc s k 0) u := by
        refine ⟨uP, ?_, ?_, ?_, ?_, ?_, ?_, ?_, fun j h4 h8 => ?_, fun j hj => by omega⟩
        · rw [uI _ (by decide) (by decide), I _ (by decide) (by decide) (by decide), hr]
        · rw [uI _ (by decide) (by decide), s0]
        · rw [uI _ (by decide) (by decide), I _ (by decide) (by decide) (by decide), ho]; rfl
        · rw [uv, A, v0]; exact (Int32.add_zero s).symm
        · rw [uv, A, v1]
        · rw [uv, A, v2]
        · rw [uv, A, v3]; rfl
        · rw [uv, A, v4 j h4 h8]
      obtain ⟨w, e2, w2, w3⟩ := own_turns (n := m + 100) (lim := lim) (s := s) (k := k) (FN := FN) (trip := trip) (by omega) hF8 trip 0 (m + 99 - 5 * trip) 1 u (by omega) (by omega) W0 uY up (by omega)
      rw [show m + 99 - 5 * trip + 5 * trip = m + 99 by omega] at e2
      rw [show (0 : Int32) + 1 = Int32.ofNat 1 from rfl, e2, show m + 99 - 5 * trip = (m + 97 - 5 * trip) + 2 by omega]
      exact fin _ _ w w2 w3 (by omega)
theorem own_r100 {m : Nat} (s : St) : ∃ t, f_run_100 (m + 100) (m + 100) 0 s = some (s.1 25, t) ∧ t.1 = s.1 ∧ t.2 9 = s.2 9 ∧ ∀ x, x < 8 → t.2 10 x = s.2 11 x := by
  obtain ⟨c, e, p⟩ := loopP (F := fun k i t => f_run_100 (m + 100) k i t) (N := 8)
    (P := fun i t => t.1 = s.1 ∧ t.2 9 = s.2 9 ∧ t.2 11 = s.2 11 ∧ ∀ x, x < i → t.2 10 x = s.2 11 x)
    (Q := fun r => r.1 = s.1 25 ∧ r.2.1 = s.1 ∧ r.2.2 9 = s.2 9 ∧ ∀ x, x < 8 → r.2.2 10 x = s.2 11 x)
    (fun k i t hi hp => Or.inl (by
      obtain ⟨p1, p2, p3, p4⟩ := hp
      show ∃ s', f_run_100 (m + 100) (k + 1) (Int32.ofNat i) t = f_run_100 (m + 100) k (Int32.ofNat i + 1) s' ∧ _
      rw [u_run_100, if_pos (ltZ (z := 8) 8 rfl hi (by omega)), grd_pos (inbN hi (by omega)), bnd_eq, ix_N (by omega)]
      refine ⟨_, rfl, p1, ?_, ?_, fun x hx => ?_⟩
      · funext x; rw [setA_2, if_neg (fun z => by omega), p2]
      · funext x; rw [setA_2, if_neg (fun z => by omega), p3]
      · rw [setA_2]
        by_cases q : x = i
        · rw [if_pos ⟨by trivial, q⟩, q, p3]
        · rw [if_neg (fun z => q z.2), p4 x (by omega)]))
    (fun k t hp => by
      obtain ⟨p1, p2, p3, p4⟩ := hp
      show ∃ r, f_run_100 (m + 100) (k + 1) (Int32.ofNat 8) t = some r ∧ _
      rw [u_run_100, if_neg (by decide)]
      exact ⟨_, rfl, by rw [p1], p1, p2, p4⟩) 8 0 (m + 100) s (by omega) (by omega) ⟨rfl, rfl, rfl, fun x hx => by omega⟩
  obtain ⟨c1, c2⟩ := c
  obtain ⟨g1, g2, g3, g4⟩ := p
  exact ⟨c2, by rw [← g1]; exact e, g2, g3, g4⟩
/-- the run as the law sees it -/
def own_R (s lim k : Int32) (st : Int32) (q : St) : Prop :=
  (16 < (own_T s lim).toInt ∧ st = 2 ∧ q.1 25 = 2 ∧ q.1 26 = 0 ∧ q.2 10 0 = s ∧ q.2 10 1 = lim ∧ q.2 10 2 = k ∧ q.2 10 3 = 0 ∧ (∀ j, 4 ≤ j → j < 8 → q.2 10 j = 0)) ∨
  ∃ trip, trip ≤ 16 ∧ own_T s lim = Int64.ofNat trip ∧ st = 1 ∧ q.1 25 = 1 ∧ q.1 26 = Int32.ofNat (trip + 1) ∧ q.2 9 trip = own_acc s k trip ∧ (∀ j, j < trip → q.2 9 j = s + Int32.ofNat j) ∧ q.2 10 0 = s + Int32.ofNat trip ∧ q.2 10 1 = lim ∧ q.2 10 2 = k ∧ q.2 10 3 = own_acc s k trip ∧ (∀ j, 4 ≤ j → j < 8 → q.2 10 j = 0)
theorem own_r75 {m FN : Nat} {s lim k : Int32} {b : St} (h : own_Pg b) (hr : b.1 24 = Int32.ofNat FN) (hF1 : 1 ≤ FN) (hF8 : FN ≤ 8) (ho : b.1 26 = 0) (v0 : b.2 11 0 = s) (v1 : b.2 11 1 = lim) (v2 : b.2 11 2 = k) (v3 : b.2 11 3 = 0) (v4 : ∀ j, 4 ≤ j → j < 8 → b.2 11 j = 0) :
    ∃ st q, f_run_75 (m + 100) 1 b = some (st, q) ∧ own_R s lim k st q := by
  obtain ⟨c, e, cP, c1, cv, co, cI, c18⟩ := own_prep (m := m + 60) h hr (fun z => by
    rw [show (1 : Int32) = Int32.ofNat 1 from rfl, N_lt (by omega) (by omega)] at z; omega)
  obtain ⟨q, e2, Z⟩ := own_exec (m := m) (FN := FN) (s := s) (lim := lim) (k := k) cP (by rw [c1, setI_1, if_pos (by trivial)]) hF1 hF8 (by rw [c1, setI_1, if_neg (by decide), ho]) (by rw [cv, v0]) (by rw [cv, v1]) (by rw [cv, v2]) (by rw [cv, v3]) (by rw [cv]; exact v4) cI c18
  unfold f_run_75
  rw [e, Option.bind_some, e2, Option.bind_some]
  unfold f_run_95
  obtain ⟨z1, z2, z3, z4, z5, z6, z7, z8⟩ | ⟨trip, z1, z2, z3, z4, z5, z6⟩ := Z
  · rw [z2, if_neg (by decide), bnd_eq]
    obtain ⟨t, e3, t1, t2, t3⟩ := own_r100 (m := m) (setI q 25 2)
    have s2 : (setI q 25 2).1 25 = 2 := by rw [setI_1, if_pos (by trivial)]
    refine ⟨_, t, e3, Or.inl ⟨z1, s2, by rw [t1, s2], ?_, ?_, ?_, ?_, ?_, fun j h4 h8 => ?_⟩⟩
    · rw [t1, setI_1, if_neg (by decide), z3]
    · rw [t3 _ (by omega), setI_2, z4]
    · rw [t3 _ (by omega), setI_2, z5]
    · rw [t3 _ (by omega), setI_2, z6]
    · rw [t3 _ (by omega), setI_2, z7]
    · rw [t3 _ (by omega), setI_2, z8 j h4 h8]
  · rw [z3, if_pos rfl, bnd_eq]
    obtain ⟨t, e3, t1, t2, t3⟩ := own_r100 (m := m) (setI q 25 1)
    have s2 : (setI q 25 1).1 25 = 1 := by rw [setI_1, if_pos (by trivial)]
    obtain ⟨-, -, -, -, w5, w6, w7, w8, w9, w10⟩ := z6
    rw [setI_2] at w5 w6 w7 w8
    refine ⟨_, t, e3, Or.inr ⟨trip, z1, z2, s2, by rw [t1, s2], ?_, ?_, fun j hj => ?_, ?_, ?_, ?_, ?_, fun j h4 h8 => ?_⟩⟩
    · rw [t1, setI_1, if_neg (by decide), z4]
    · rw [t2, setI_2, z5]
    · rw [t2, setI_2]; exact w10 j hj
    · rw [t3 _ (by omega), setI_2, w5]
    · rw [t3 _ (by omega), setI_2, w6]
    · rw [t3 _ (by omega), setI_2, w7]
    · rw [t3 _ (by omega), setI_2, w8]
    · rw [t3 _ (by omega), setI_2]; exact w9 j h4 h8
/-- 0 + 1 + .. below i -/
def own_tri : Nat → Nat
  | 0 => 0
  | i + 1 => own_tri i + i
theorem own_triE : ∀ i, i ≤ 16 → (Int64.ofNat i * (Int64.ofNat i - 1)) / 2 = Int64.ofNat (own_tri i) := by decide
theorem own_accE (s k : Int32) : ∀ i, own_acc s k i = if k = 0 then -(Int32.ofNat i * s + Int32.ofNat (own_tri i)) else Int32.ofNat i * s + Int32.ofNat (own_tri i) := by
  intro i
  have st : ∀ j, Int32.ofNat (j + 1) * s + Int32.ofNat (own_tri (j + 1)) = Int32.ofNat j * s + Int32.ofNat (own_tri j) + (s + Int32.ofNat j) := fun j => by
    show Int32.ofNat (j + 1) * s + Int32.ofNat (own_tri j + j) = _
    rw [Int32.ofNat_add, Int32.ofNat_add, show Int32.ofNat 1 = (1 : Int32) from rfl, Int32.add_mul, Int32.one_mul]
    ac_rfl
  have z0 : Int32.ofNat 0 * s + Int32.ofNat (own_tri 0) = 0 := by
    show (0 : Int32) * s + 0 = 0
    rw [Int32.zero_mul]; rfl
  induction i with
  | zero =>
    rw [z0]
    split <;> rfl
  | succ i ih =>
    rw [st i]
    show (if k = 0 then own_acc s k i - (s + Int32.ofNat i) else own_acc s k i + (s + Int32.ofNat i)) = _
    by_cases q : k = 0
    · rw [if_pos q] at ih
      rw [if_pos q, if_pos q, ih]; exact Int32.neg_add.symm
    · rw [if_neg q] at ih
      rw [if_neg q, if_neg q, ih]
theorem own_64 {a : Nat} (h : a < 2147483648) : (Int32.ofNat a).toInt64 = Int64.ofNat a := by
  rw [← Int64.toInt_inj, Int32.toInt_toInt64, N_toInt h, Int64.toInt_ofNat_of_lt (by omega)]
theorem own_i32 (a : Nat) : (Int64.ofNat a).toInt32 = Int32.ofNat a := Int64.toInt32_ofNat'
theorem own_v2 (s : Int32) (i : Nat) (h : i ≤ 16) : (Int64.ofNat i * s.toInt64 + Int64.ofNat i * (Int64.ofNat i - 1) / 2).toInt32 = Int32.ofNat i * s + Int32.ofNat (own_tri i) := by
  rw [own_triE i h, Int64.toInt32_add, Int64.toInt32_mul, Int32.toInt32_toInt64, own_i32, own_i32]
theorem own_344 {n : Nat} {x0 x1 x2 x11 x12 : Int32} {T : Int64} {q : St} (hO : ∀ i, i < 17 → ∃ v, f_output q (Int32.ofNat i) = some v ∧ f_hdue (Int64.ofNat i) T x11 x0 x12 = some v) :
    ∀ (d K i : Nat), i + d = 8 → d < K → f_law_344 n K x0 x1 x2 1 T x11 x12 (Int32.ofNat i) q = f_law_461 n x0 x1 x2 T x11 x12 1 1 q := by
  intro d
  induction d with
  | zero =>
    intro K i hi hK
    obtain ⟨K, rfl⟩ : ∃ K', K = K' + 1 := ⟨K - 1, by omega⟩
    have : i = 8 := by omega
    subst this
    obtain ⟨v, e1, e2⟩ := hO 16 (by omega)
    rw [u_law_344, if_neg (by decide), show (16 : Int32) = Int32.ofNat 16 from rfl, e1, Option.bind_some, show (16 : Int64) = Int64.ofNat 16 from rfl, e2, Option.bind_some, if_pos rfl]
  | succ d ih =>
    intro K i hi hK
    obtain ⟨K, rfl⟩ : ∃ K', K = K' + 1 := ⟨K - 1, by omega⟩
    obtain ⟨v, e1, e2⟩ := hO i (by omega)
    obtain ⟨w, g1, g2⟩ := hO (i + 8) (by omega)
    rw [u_law_344, if_pos (ltZ (z := 8) 8 rfl (by omega) (by omega)), e1, Option.bind_some, show Int32.ofNat i + 8 = Int32.ofNat (i + 8) from N_add i 8, g1, Option.bind_some, own_64 (by omega), e2, Option.bind_some, if_pos rfl, own_64 (by omega), g2, Option.bind_some, if_pos rfl]
    unfold f_law_418
    rw [N_succ, show (1 : Int32) &&& 1 = 1 from rfl]
    exact ih K (i + 1) (by omega) (by omega)
theorem own_467 {m : Nat} {x0 x1 x2 x11 x12 : Int32} {T : Int64} {q : St} (h0 : q.2 10 0 = if x11 = 0 then x0 else (x0.toInt64 + T).toInt32) (h1 : q.2 10 1 = x1) (h2 : q.2 10 2 = x2) (h3 : q.2 10 3 = x12) (h4 : ∀ j, 4 ≤ j → j < 8 → q.2 10 j = 0) :
    f_law_461 (m + 100) x0 x1 x2 T x11 x12 1 1 q = some (1, q) := by
  have fv : ∀ (x : Int32) (i : Nat), Int32.ofNat i = x → i < 8 → f_finalVar q x = some (q.2 10 i) := fun x i e hi => by
    unfold f_finalVar f_isVar
    rw [← e, if_neg (N_neg (by omega)), if_pos (ltZ (z := 8) 8 rfl hi (by omega)), Option.bind_some, if_neg (by decide), grd_pos (inbN hi (by omega)), ix_N (by omega)]
  have ok : ∀ (G : Int32 → Int32 → Int32 → Int32 → Int64 → Int32 → Int32 → Int32 → St → Option (Int32 × St)) (x y : Int32), f_law_538 (m + 100) G x0 x1 x2 1 T x11 x12 x y y q = G x0 x1 x2 1 T x11 x12 (x + 1) q := fun G x y => by
    unfold f_law_538 f_law_554
    rw [if_pos rfl]; rfl
  unfold f_law_461
  rw [show (1 : Int32) &&& 1 = 1 from rfl]
  rw [u_law_467, if_pos (by decide), fv 0 0 rfl (by omega), Option.bind_some, if_pos rfl, h0]
  have s0 : ∀ G, (if x11 = 0 then f_law_538 (m + 100) G x0 x1 x2 1 T x11 x12 0 (if x11 = 0 then x0 else (x0.toInt64 + T).toInt32) x0 q else f_law_538 (m + 100) G x0 x1 x2 1 T x11 x12 0 (if x11 = 0 then x0 else (x0.toInt64 + T).toInt32) (x0.toInt64 + T).toInt32 q) = G x0 x1 x2 1 T x11 x12 (0 + 1) q := fun G => by
    by_cases z : x11 = 0
    · rw [if_pos z, if_pos z, ok]
    · rw [if_neg z, if_neg z, ok]
  rw [s0, show (0 : Int32) + 1 = 1 from rfl]
  rw [u_law_467, if_pos (by decide), fv 1 1 rfl (by omega), Option.bind_some, if_neg (by decide), if_pos rfl, h1, ok, show (1 : Int32) + 1 = 2 from rfl]
  rw [u_law_467, if_pos (by decide), fv 2 2 rfl (by omega), Option.bind_some, if_neg (by decide), if_neg (by decide), if_pos rfl, h2, ok, show (2 : Int32) + 1 = 3 from rfl]
  rw [u_law_467, if_pos (by decide), fv 3 3 rfl (by omega), Option.bind_some, if_neg (by decide), if_neg (by decide), if_neg (by decide), if_pos rfl, h3, ok, show (3 : Int32) + 1 = 4 from rfl]
  rw [u_law_467, if_pos (by decide), fv 4 4 rfl (by omega), Option.bind_some, if_neg (by decide), if_neg (by decide), if_neg (by decide), if_neg (by decide), h4 4 (by omega) (by omega), ok, show (4 : Int32) + 1 = 5 from rfl]
  rw [u_law_467, if_pos (by decide), fv 5 5 rfl (by omega), Option.bind_some, if_neg (by decide), if_neg (by decide), if_neg (by decide), if_neg (by decide), h4 5 (by omega) (by omega), ok, show (5 : Int32) + 1 = 6 from rfl]
  rw [u_law_467, if_pos (by decide), fv 6 6 rfl (by omega), Option.bind_some, if_neg (by decide), if_neg (by decide), if_neg (by decide), if_neg (by decide), h4 6 (by omega) (by omega), ok, show (6 : Int32) + 1 = 7 from rfl]
  rw [u_law_467, if_pos (by decide), fv 7 7 rfl (by omega), Option.bind_some, if_neg (by decide), if_neg (by decide), if_neg (by decide), if_neg (by decide), h4 7 (by omega) (by omega), ok, show (7 : Int32) + 1 = 8 from rfl]
  rw [u_law_467, if_neg (by decide)]
  rfl
theorem own_225 {m : Nat} {s lim k st : Int32} {q : St} (R : own_R s lim k st q) : f_law_225 (m + 100) s lim k 1 st (q.1 25) (q.1 26) (own_T s lim) q = some (1, q) := by
  unfold f_law_225
  obtain ⟨r1, r2, r3, r4, r5, r6, r7, r8, r9⟩ | ⟨trip, r1, r2, r3, r4, r5, r6, r7, r8, r9, r10, r11, r12⟩ := R
  · rw [if_pos ((own_cg0 (own_T s lim) 16).mpr r1)]
    unfold f_law_239 f_law_282 f_law_292 f_law_308
    rw [if_pos rfl, if_pos rfl, if_pos rfl, r2, r3, r4, if_pos rfl, if_pos rfl, if_pos rfl]
    unfold f_law_338
    rw [show (1 : Int32) &&& 1 = 1 from rfl]
    refine (own_344 (fun i hi => ⟨0, ?_, ?_⟩) 8 (m + 100) 0 (by omega) (by omega)).trans ?_
    rotate_left 2
    · exact own_467 (by rw [if_pos rfl]; exact r5) r6 r7 r8 r9
    · unfold f_output
      rw [if_neg (N_neg (by omega)), r4, if_neg (N_neg (by omega))]
    · unfold f_hdue
      rw [if_pos rfl]
  · have ti : (Int64.ofNat trip).toInt = trip := Int64.toInt_ofNat_of_lt (by omega)
    rw [r2, if_neg (fun z => by
      have := (own_cg0 _ _).mp z
      rw [show (16 : Int64).toInt = 16 from rfl, ti] at this
      omega)]
    unfold f_law_239
    rw [if_neg (by decide), bnd_eq, own_v2 s trip r1]
    have go : f_law_282 (m + 100) s lim k 1 st (q.1 25) (q.1 26) (Int64.ofNat trip) 1 (own_acc s k trip) q = some (1, q) := by
      unfold f_law_282 f_law_292 f_law_308
      rw [if_neg (by decide), if_neg (by decide), r3, r4, r5, if_pos rfl, if_pos rfl, own_i32, N_succ, if_pos rfl]
      unfold f_law_338
      rw [show (1 : Int32) &&& 1 = 1 from rfl]
      refine (own_344 ?_ 8 (m + 100) 0 (by omega) (by omega)).trans ?_
      rotate_left 1
      · exact own_467 (by rw [if_neg (by decide), Int64.toInt32_add, Int32.toInt32_toInt64, own_i32]; exact r8) r9 r10 r11 r12
      · intro i hi
        have ii : (Int64.ofNat i).toInt = i := Int64.toInt_ofNat_of_lt (by omega)
        have c1 := own_cl0 (Int64.ofNat i) (Int64.ofNat trip)
        have c2 := own_ce0 (Int64.ofNat i) (Int64.ofNat trip)
        rw [ti, ii] at c1 c2
        unfold f_output f_hdue
        rw [if_neg (N_neg (by omega)), r5, if_neg (show ¬ ((1 : Int32) = 0) by decide), if_pos (ltZ (i := i) (z := 32) 32 rfl (by omega) (by omega)), grd_pos (inbN (by omega) (by omega)), ix_N (by omega)]
        by_cases l : i < trip
        · rw [if_pos (ltN (by omega) (by omega)), if_pos (c1.mpr (by omega)), r7 i l, Int64.toInt32_add, Int32.toInt32_toInt64, own_i32]
          exact ⟨_, rfl, rfl⟩
        · have n1 : ¬ XT.cmpL (Int64.ofNat i) (Int64.ofNat trip) < 0 := fun z => l (by have := c1.mp z; omega)
          by_cases e : i = trip
          · rw [if_pos (ltN (by omega) (by omega)), if_neg n1, if_pos (c2.mpr (by omega)), e, r6]
            exact ⟨_, rfl, rfl⟩
          · have n2 : ¬ XT.cmpL (Int64.ofNat i) (Int64.ofNat trip) = 0 := fun z => e (by have := c2.mp z; omega)
            rw [if_neg (fun z => by rw [N_lt (by omega) (by omega)] at z; omega), if_neg n1, if_neg n2]
            exact ⟨_, rfl, rfl⟩
    have ae := own_accE s k trip
    by_cases z : k = 0
    · rw [if_pos z] at ae ⊢
      rw [← ae]; exact go
    · rw [if_neg z] at ae ⊢
      rw [← ae]; exact go
theorem own_ctor0 {n : Nat} (hn : 40 ≤ n) : f_ctor n = some (fun _ => 0, fun j x => if j = 4 ∧ x < 24 then -1 else if j = 6 ∧ x < 4 then -1 else 0) := by
  obtain ⟨B, eB⟩ : ∃ B : St, B = (fun _ => 0, fun j x => if j = 4 ∧ x < 24 then -1 else if j = 6 ∧ x < 4 then -1 else 0) := ⟨_, rfl⟩
  have Bz : ∀ j x, j ≠ 4 → j ≠ 6 → B.2 j x = 0 := fun j x h1 h2 => by
    rw [eB]; show (if j = 4 ∧ x < 24 then (-1 : Int32) else if j = 6 ∧ x < 4 then -1 else 0) = 0
    rw [if_neg (fun z => h1 z.1), if_neg (fun z => h2 z.1)]
  have BA : ∀ j x, j ≠ 4 → j ≠ 6 → setA B j x 0 = B := fun j x h1 h2 => by
    refine Prod.ext rfl ?_
    funext k y
    rw [setA_2]
    by_cases q : k = j ∧ y = x
    · rw [if_pos q, Bz k y (by rw [q.1]; exact h1) (by rw [q.1]; exact h2)]
    · rw [if_neg q]
  have BI : ∀ j, setI B j 0 = B := fun j => by
    refine Prod.ext ?_ rfl
    funext k
    rw [setI_1]
    by_cases q : k = j
    · rw [if_pos q, eB]
    · rw [if_neg q]
  obtain ⟨s1, e1, f1, g1⟩ := loopP (F := f_clearProgram_2 n) (N := 24) (P := fun i t => t.1 = (fun _ => 0) ∧ ∀ j x, t.2 j x = if j = 4 ∧ x < i then (-1 : Int32) else 0) (Q := fun t => t.1 = (fun _ => 0) ∧ ∀ j x, t.2 j x = if j = 4 ∧ x < 24 then (-1 : Int32) else 0)
    (fun k i t hi hp => Or.inl (by
      rw [u_clearProgram_2, if_pos (ltZ (z := 24) 24 rfl hi (by omega)), grd_pos (inbN hi (by omega)), ix_N (by omega)]
      rw [bnd_eq, bnd_eq, bnd_eq, bnd_eq, bnd_eq]
      refine ⟨_, rfl, hp.1, fun j x => ?_⟩
      rw [setA_2]
      by_cases q : j = 4 ∧ x = i
      · rw [if_pos q, if_pos ⟨q.1, by omega⟩]
      · rw [if_neg q, setA_2, setA_2, setA_2, setA_2, hp.2]
        by_cases r : j = 4
        · rw [if_neg (fun z => by omega), if_neg (fun z => by omega), if_neg (fun z => by omega), if_neg (fun z => by omega)]
          by_cases v : x < i
          · rw [if_pos ⟨r, v⟩, if_pos ⟨r, by omega⟩]
          · rw [if_neg (fun z => v z.2), if_neg (fun z => by omega)]
        · simp [r]))
    (fun k t hp => ⟨setI t 21 0, by rw [u_clearProgram_2, if_neg (by decide)]; rfl, by funext k; rw [setI_1, hp.1]; split <;> rfl, hp.2⟩) 24 0 n zeroS (by omega) (by omega) ⟨rfl, fun j x => by rw [if_neg (fun z => by omega)]; rfl⟩
  obtain ⟨s2, e2, f2⟩ := loopP (F := f_clearOpen_2 n) (N := 4) (P := fun i t => t.1 = (fun _ => 0) ∧ ∀ j x, t.2 j x = if j = 4 ∧ x < 24 then (-1 : Int32) else if j = 6 ∧ x < i then -1 else 0) (Q := fun t => t = B)
    (fun k i t hi hp => Or.inl (by
      rw [u_clearOpen_2, if_pos (ltZ (z := 4) 4 rfl hi (by omega)), grd_pos (inbN hi (by omega)), ix_N (by omega)]
      rw [bnd_eq, bnd_eq, bnd_eq]
      refine ⟨_, rfl, hp.1, fun j x => ?_⟩
      rw [setA_2]
      by_cases q0 : j = 7 ∧ x = i
      · rw [if_pos q0, if_neg (fun z => by omega), if_neg (fun z => by omega)]; rfl
      · rw [if_neg q0, setA_2]
        by_cases q : j = 6 ∧ x = i
        · rw [if_pos q, if_neg (fun z => by omega), if_pos ⟨q.1, by omega⟩]
        · rw [if_neg q, setA_2]
          by_cases q1 : j = 5 ∧ x = i
          · rw [if_pos q1, if_neg (fun z => by omega), if_neg (fun z => by omega)]
          · rw [if_neg q1, hp.2]
            by_cases r : j = 4 ∧ x < 24
            · rw [if_pos r, if_pos r]
            · rw [if_neg r, if_neg r]
              by_cases v : j = 6 ∧ x < i
              · rw [if_pos v, if_pos ⟨v.1, by omega⟩]
              · rw [if_neg v, if_neg (fun z => by omega)]))
    (fun k t hp => ⟨setI (setI t 22 0) 23 0, by rw [u_clearOpen_2, if_neg (by decide)]; rfl, by
      rw [eB]
      refine Prod.ext ?_ ?_
      · funext k; rw [setI_1, setI_1, hp.1]; split
        · rfl
        · split <;> rfl
      · funext j x; exact hp.2 j x⟩) 4 0 n s1 (by omega) (by omega) ⟨f1, fun j x => by rw [g1, if_neg (fun z => by omega) (α := Int32) (c := j = 6 ∧ x < 0)]⟩
  have r33 : f_clearResults_33 n n 0 B = some B := by
    obtain ⟨u, e, f⟩ := loopP (F := f_clearResults_33 n) (N := 8) (P := fun _ t => t = B) (Q := fun t => t = B)
      (fun k i t hi hp => Or.inl (by
        rw [u_clearResults_33, if_pos (ltZ (z := 8) 8 rfl hi (by omega)), grd_pos (inbN hi (by omega)), bnd_eq]
        exact ⟨_, rfl, by rw [hp]; exact BA _ _ (by decide) (by decide)⟩))
      (fun k t hp => ⟨_, by rw [u_clearResults_33, if_neg (by decide)], hp⟩) 8 0 n B (by omega) (by omega) rfl
    rw [f] at e; exact e
  have r12 : f_clearResults_12 n n 0 B = some B := by
    obtain ⟨u, e, f⟩ := loopP (F := f_clearResults_12 n) (N := 32) (P := fun _ t => t = B) (Q := fun t => t = B)
      (fun k i t hi hp => Or.inl (by
        rw [u_clearResults_12, if_pos (ltZ (z := 32) 32 rfl hi (by omega)), grd_pos (inbN hi (by omega)), bnd_eq]
        exact ⟨_, rfl, by rw [hp]; exact BA _ _ (by decide) (by decide)⟩))
      (fun k t hp => ⟨B, by rw [u_clearResults_12, if_neg (by decide), hp]; exact r33, rfl⟩) 32 0 n B (by omega) (by omega) rfl
    rw [f] at e; exact e
  have r10 : f_reset_10 n n 0 B = some B := by
    obtain ⟨u, e, f⟩ := loopP (F := f_reset_10 n) (N := 8) (P := fun _ t => t = B) (Q := fun t => t = B)
      (fun k i t hi hp => Or.inl (by
        rw [u_reset_10, if_pos (ltZ (z := 8) 8 rfl hi (by omega)), grd_pos (inbN hi (by omega)), bnd_eq]
        exact ⟨_, rfl, by rw [hp]; exact BA _ _ (by decide) (by decide)⟩))
      (fun k t hp => ⟨B, by
        rw [u_reset_10, if_neg (by decide), hp, bnd_eq, BI]
        unfold f_clearResults
        rw [bnd_eq, bnd_eq, BI, BI, r12]; rfl, rfl⟩) 8 0 n B (by omega) (by omega) rfl
    rw [f] at e; exact e
  unfold f_ctor f_ctor_164 f_reset f_clearProgram f_clearOpen
  rw [show f_clearProgram_2 n n 0 zeroS = some s1 from e1, Option.bind_some, show f_clearOpen_2 n n 0 s1 = some s2 from e2, Option.bind_some, f2, r10, Option.bind_some, eB]

def own_em (n : Nat) (x0 x1 x2 : Int32) (s : St) : Option (Int32 × St) :=
  (f_setInput (0 : Int32) x0 s).bind fun q1 =>
  (f_setInput (1 : Int32) x1 q1.2).bind fun q3 =>
  (f_setInput (2 : Int32) x2 q3.2).bind fun q5 =>
  (f_emit (10 : Int32) (0 : Int32) (1 : Int32) (1 : Int32) q5.2).bind fun q7 =>
  bnd (((q1.1 &&& q3.1) &&& q5.1) &&& q7.1) fun v9 =>
  (f_emit (12 : Int32) (2 : Int32) (0 : Int32) (0 : Int32) q7.2).bind fun q10 =>
  (f_emit (2 : Int32) (3 : Int32) (3 : Int32) (0 : Int32) q10.2).bind fun q12 =>
  (f_emit (13 : Int32) (0 : Int32) (0 : Int32) (0 : Int32) q12.2).bind fun q14 =>
  bnd (((v9 &&& q10.1) &&& q12.1) &&& q14.1) fun v16 =>
  (f_emit (3 : Int32) (3 : Int32) (3 : Int32) (0 : Int32) q14.2).bind fun q17 =>
  (f_emit (14 : Int32) (0 : Int32) (0 : Int32) (0 : Int32) q17.2).bind fun q19 =>
  (f_emit (9 : Int32) (0 : Int32) (0 : Int32) (0 : Int32) q19.2).bind fun q21 =>
  bnd (((v16 &&& q17.1) &&& q19.1) &&& q21.1) fun v23 =>
  (f_emit (11 : Int32) (0 : Int32) (0 : Int32) (0 : Int32) q21.2).bind fun q24 =>
  (f_emit (9 : Int32) (3 : Int32) (0 : Int32) (0 : Int32) q24.2).bind fun q26 =>
  some (((v23 &&& q24.1) &&& q26.1), q26.2)
def own_r40 (n : Nat) : Nat → Int32 → St → Option St
  | 0 => fun _ _ => none
  | k + 1 => fun x2 s =>
    if x2 < (8 : Int32) then
      grd (inb x2 8) <|
      bnd (setA s 11 (ix x2) (s.2 8 (ix x2))) fun s3 =>
      own_r40 n k (x2 + (1 : Int32)) s3
    else
      some s
theorem own_r40E (n : Nat) : ∀ (k : Nat) (x2 : Int32) (s : St), f_run_40 n k 1 x2 s = (own_r40 n k x2 s).bind fun t => f_run_75 n 1 t := by
  intro k
  induction k with
  | zero => intro x2 s; rfl
  | succ k ih =>
    intro x2 s
    simp only [f_run_40, own_r40]
    by_cases q : x2 < 8
    · rw [if_pos q, if_pos q]
      by_cases b : inb x2 8
      · rw [grd_pos b, grd_pos b, bnd_eq, bnd_eq]; exact ih _ _
      · unfold grd; rw [if_neg b, if_neg b]; rfl
    · rw [if_neg q, if_neg q]; rfl
def own_V (t : St) : List Int32 := [t.2 0 0, t.2 0 1, t.2 0 2, t.2 0 3, t.2 0 4, t.2 0 5, t.2 0 6, t.2 0 7, t.2 0 8, t.2 1 0, t.2 1 1, t.2 1 2, t.2 1 3, t.2 1 4, t.2 1 5, t.2 1 6, t.2 1 7, t.2 1 8, t.2 2 0, t.2 2 1, t.2 2 2, t.2 2 3, t.2 2 4, t.2 2 5, t.2 2 6, t.2 2 7, t.2 2 8, t.2 3 0, t.2 3 1, t.2 3 2, t.2 3 3, t.2 3 4, t.2 3 5, t.2 3 6, t.2 3 7, t.2 3 8, t.2 4 0, t.2 4 1, t.2 4 2, t.2 4 3, t.2 4 4, t.2 4 5, t.2 4 6, t.2 4 7, t.2 4 8, t.2 11 0, t.2 11 1, t.2 11 2, t.2 11 3, t.2 11 4, t.2 11 5, t.2 11 6, t.2 11 7, t.1 21, t.1 24, t.1 26]
def own_B0 : St := (fun _ => 0, fun j x => if j = 4 ∧ x < 24 then -1 else if j = 6 ∧ x < 4 then -1 else 0)
def own_all (n : Nat) (F s lim k : Int32) : Option (Int32 × Int32 × List Int32) := (own_em n s lim k own_B0).bind fun p => (f_clearResults n (setI p.2 24 F)).bind fun a => (own_r40 n n 0 a).bind fun u => some (p.1, p.2.1 22, own_V u)
set_option maxRecDepth 100000 in
set_option maxHeartbeats 4000000 in
theorem own_w (F s lim k : Int32) : own_all 100 F s lim k = some (1, 0, [10, 12, 2, 13, 3, 14, 9, 11, 9, 0, 2, 3, 0, 3, 0, 0, 0, 3, 1, 0, 3, 0, 3, 0, 0, 0, 0, 1, 0, 0, 0, 0, 0, 0, 0, 0, 7, 3, -1, 5, -1, 1, -1, 0, -1, s, lim, k, 0, 0, 0, 0, 0, 9, F, 0]) := by cbv
theorem own_law7E (n : Nat) (x0 x1 x2 x3 : Int32) (s : St) : f_law_7 n x0 x1 x2 x3 s = (own_em n x0 x1 x2 s).bind fun p => (f_transform x3 p.2).bind fun q28 => (f_run n 1 q28.2).bind fun q31 => f_law_225 n x0 x1 x2 (p.1 &&& q28.1) q31.1 (q31.2.1 25) (q31.2.1 26) (own_T x0 x1) q31.2 := by
  unfold f_law_7 own_em f_lastStatus f_outputCount
  simp only [bnd_eq, Option.bind_assoc, Option.bind_some]
  have e : ∀ (v : Int32) (q31 : Int32 × St), (if XT.cmpL (x1.toInt64 - x0.toInt64) 0 < 0 then f_law_225 n x0 x1 x2 v q31.1 (q31.2.1 25) (q31.2.1 26) 0 q31.2 else f_law_225 n x0 x1 x2 v q31.1 (q31.2.1 25) (q31.2.1 26) (x1.toInt64 - x0.toInt64) q31.2) = f_law_225 n x0 x1 x2 v q31.1 (q31.2.1 25) (q31.2.1 26) (own_T x0 x1) q31.2 := fun v q31 => own_lawT x0 x1 (fun T => f_law_225 n x0 x1 x2 v q31.1 (q31.2.1 25) (q31.2.1 26) T q31.2)
  simp only [e]
theorem own_tr {f : Int32} {t : St} (h : t.1 22 = 0) : ∃ FN : Nat, 1 ≤ FN ∧ FN ≤ 8 ∧ f_transform f t = some (1, setI t 24 (Int32.ofNat FN)) := by
  unfold f_transform f_transform_18 f_transform_27
  rw [if_pos h]
  by_cases q : f < 1
  · rw [if_pos q, if_neg (by decide)]; exact ⟨1, by omega, by omega, rfl⟩
  · rw [if_neg q]
    by_cases r : 8 < f
    · rw [if_pos r]; exact ⟨8, by omega, by omega, rfl⟩
    · rw [if_neg r]
      rw [lt_I, show (1 : Int32).toInt = 1 from rfl] at q
      rw [lt_I, show (8 : Int32).toInt = 8 from rfl] at r
      obtain ⟨N, rfl, n1, n2⟩ := own_nat (x := f) (lo := 1) (hi := 8) (by omega) (by omega)
      exact ⟨N, n1, n2, rfl⟩
theorem own_main {m : Nat} {s lim k f : Int32} (hw : ∀ F, own_all (m + 100) F s lim k = some (1, 0, [10, 12, 2, 13, 3, 14, 9, 11, 9, 0, 2, 3, 0, 3, 0, 0, 0, 3, 1, 0, 3, 0, 3, 0, 0, 0, 0, 1, 0, 0, 0, 0, 0, 0, 0, 0, 7, 3, -1, 5, -1, 1, -1, 0, -1, s, lim, k, 0, 0, 0, 0, 0, 9, F, 0])) : ∃ w, f_law_7 (m + 100) s lim k f own_B0 = some (1, w) := by
  rw [own_law7E]
  unfold own_all at hw
  cases e1 : own_em (m + 100) s lim k own_B0 with
  | none => rw [e1] at hw; exact absurd (hw 0) (by intro z; cases z)
  | some p =>
    rw [e1] at hw
    rw [Option.bind_some]
    have p22 : p.1 = 1 ∧ p.2.1 22 = 0 := by
      have h0 := hw 0
      rw [Option.bind_some] at h0
      cases e2 : f_clearResults (m + 100) (setI p.2 24 0) with
      | none => rw [e2] at h0; cases h0
      | some a =>
        rw [e2, Option.bind_some] at h0
        cases e3 : own_r40 (m + 100) (m + 100) 0 a with
        | none => rw [e3] at h0; cases h0
        | some u =>
          rw [e3, Option.bind_some] at h0
          have h1 := Option.some.inj h0
          exact ⟨congrArg Prod.fst h1, congrArg (fun x => x.2.1) h1⟩
    obtain ⟨FN, n1, n8, et⟩ := own_tr (f := f) p22.2
    rw [et, Option.bind_some]
    have h0 := hw (Int32.ofNat FN)
    rw [Option.bind_some] at h0
    have f0 : (setI p.2 24 (Int32.ofNat FN)).1 24 = Int32.ofNat FN := by rw [setI_1, if_pos (by trivial)]
    have f22 : (setI p.2 24 (Int32.ofNat FN)).1 22 = 0 := by rw [setI_1, if_neg (by decide)]; exact p22.2
    have er : f_run (m + 100) 1 (setI p.2 24 (Int32.ofNat FN)) = f_run_34 (m + 100) 1 (setI p.2 24 (Int32.ofNat FN)) := by
      unfold f_run f_run_11
      rw [if_neg (by decide), if_pos rfl, f22, if_pos rfl, if_pos rfl, f0, if_neg (fun z => by
        rw [show (0 : Int32) = Int32.ofNat 0 from rfl, N_inj (by omega) (by omega)] at z; omega)]
    show ∃ w, (f_run (m + 100) 1 (setI p.2 24 (Int32.ofNat FN))).bind (fun q31 => f_law_225 (m + 100) s lim k (p.1 &&& 1) q31.1 (q31.2.1 25) (q31.2.1 26) (own_T s lim) q31.2) = _
    rw [er]
    unfold f_run_34
    cases e2 : f_clearResults (m + 100) (setI p.2 24 (Int32.ofNat FN)) with
    | none => rw [e2] at h0; cases h0
    | some a =>
      rw [e2, Option.bind_some] at h0
      rw [Option.bind_some, own_r40E]
      cases e3 : own_r40 (m + 100) (m + 100) 0 a with
      | none => rw [e3] at h0; cases h0
      | some u =>
        rw [e3, Option.bind_some] at h0
        rw [Option.bind_some]
        have h1 := congrArg (fun x => x.2.2) (Option.some.inj h0)
        have h2 : own_V u = _ := h1
        unfold own_V at h2
        simp only [List.cons.injEq] at h2
        obtain ⟨o0, o1, o2, o3, o4, o5, o6, o7, o8, a0, a1, a2, a3, a4, a5, a6, a7, a8, b0, b1, b2, b3, b4, b5, b6, b7, b8, c0, c1, c2, c3, c4, c5, c6, c7, c8, m0, m1, m2, m3, m4, m5, m6, m7, m8, v0, v1, v2, v3, v4, v5, v6, v7, cs, fa, oc, -⟩ := h2
        have P : own_Pg u := ⟨⟨o0, o1, o2, o3, o4, o5, o6, o7, o8⟩, ⟨a0, a1, a2, a4, a6, a8⟩, ⟨b0, b2, b4⟩, ⟨c0, c2, c4⟩, ⟨m0, m1, m3⟩, cs⟩
        obtain ⟨st, q, e4, R⟩ := own_r75 (m := m) (FN := FN) P fa n1 n8 oc v0 v1 v2 v3 (fun j h4 h8 => by
          have : j = 4 ∨ j = 5 ∨ j = 6 ∨ j = 7 := by omega
          rcases this with rfl | rfl | rfl | rfl
          · exact v4
          · exact v5
          · exact v6
          · exact v7)
        rw [e4, Option.bind_some, p22.1]
        exact ⟨q, own_225 R⟩
theorem plain : ∀ a b c d, ∃ n w, f_law n a b c d = some (1, w) := by
  intro a b c d
  obtain ⟨m, hm⟩ : ∃ m, m = 0 := ⟨0, rfl⟩
  refine ⟨m + 100, ?_⟩
  unfold f_law
  rw [own_ctor0 (by omega), Option.bind_some]
  exact own_main (fun F => by rw [hm]; exact own_w F a b c)
theorem main_1_1 : Claimed_1_1 := comes_1 plain fun _ _ _ _ _ _ h hF => ⟨h.1, hF⟩
theorem main_1_2 : Claimed_1_2 := comes_1 plain fun _ _ _ _ _ _ h hF => ⟨h.2.1, hF⟩


end Jvm.Pilot.@@N@@
namespace Jvm.Pilot.@@N@@
open Jvm Jvm.ClassFile Sem Op Lib Jvm.Free Jvm.Stand Jvm.Pilot.@@N@@.Jvm.D
/-! MADE BY PROGRAM (witnessworld.py) out of the Statement's table words and the real class files: 11 classes; the members and pool entries that the words name. The judged class is class 1, her method 2. -/
namespace start1
open Jvm.ClassFile
def u (s : String) : CpInfo := .utf8 (stringToUtf16 s)
/-- a pool by its gaps: so many unusable entries, then the entry; so many at the end -/
def gap : Nat → List CpInfo → List CpInfo
  | 0, r => r
  | n + 1, r => .unusable :: gap n r
def poolList (es : List (Nat × CpInfo)) (last : Nat) : List CpInfo := es.foldr (fun e r => gap e.1 (e.2 :: r)) (gap last [])
def pool (es : List (Nat × CpInfo)) (last : Nat) : Array CpInfo := ⟨poolList es last⟩
def fileOf (pool : Array CpInfo) (this : Nat) (attrs : Array Attribute := #[]) (ms : Array MethodInfo := #[]) (fl : Nat := 33) (sup : Nat := 0) (ifs : Array Nat := #[]) (fds : Array FieldInfo := #[]) : ClassFile where
  minorVersion := 0
  majorVersion := 65
  constantPool := pool
  accessFlags := fl
  thisClass := this
  superClass := sup
  interfaces := ifs
  fields := fds
  methods := ms
  attributes := attrs
def plain (name : String) (sup : Option ClassId) : Class where
  name := name
  kind := .ordinary
  loader := none
  accessFlags := 33
  super := sup
  interfaces := #[]
  cf := none
  fields := #[]
  methods := #[]
  instanceTypes := #[]
  staticTypes := #[]
  resolved := #[]
  callSites := []
  init := .initialized
  statics := none
  mirror := none

def pool0 : Array CpInfo := pool [(5, u "<init>"), (0, u "()V"), (1, .class_ 10), (1, u "java/lang/Object")] 113

def k0c0 : Code := { maxStack := 0, maxLocals := 1, code := object_method_1_code, exceptionTable := #[], attributes := #[] }
def k0m0 : Method := { name := "<init>", desc := "()V", sig := { parameters := [], returnType := none }, accessFlags := 1, code := some k0c0 }
/-- java/lang/Object -/
def k0 : Class := { plain "java/lang/Object" none with
  accessFlags := 33
  interfaces := #[]
  cf := some (fileOf pool0 8 #[] #[{ accessFlags := 1, nameIndex := 5, descriptorIndex := 6, attributes := #[] }] 33 0 #[] #[])
  fields := #[]
  methods := #[k0m0]
  instanceTypes := #[]
  staticTypes := #[]
  resolved := Array.replicate 124 none
  statics := none }

def pool1 : Array CpInfo := pool [(2, .class_ 4), (0, .nameAndType 5 6), (0, u "java/lang/Object"), (0, u "<init>"), (0, u "()V"), (0, .class_ 8), (0, u "LoopUnroller"), (0, .methodref 7 3), (0, .methodref 7 11), (0, .nameAndType 12 13), (0, u "setInput"), (0, u "(II)Z"), (0, .methodref 7 15), (0, .nameAndType 16 17), (0, u "emit"), (0, u "(IIII)Z"), (0, .methodref 7 19), (0, .nameAndType 20 21), (0, u "transform"), (0, u "(I)Z"), (0, .methodref 7 23), (0, .nameAndType 24 25), (0, u "run"), (0, u "(I)I"), (0, .methodref 7 27), (0, .nameAndType 28 29), (0, u "lastStatus"), (0, u "()I"), (0, .methodref 7 31), (0, .nameAndType 32 29), (0, u "outputCount"), (0, .long 16), (1, .long 2), (1, .methodref 7 38), (0, .nameAndType 39 25), (0, u "output"), (0, .methodref 41 42), (0, .class_ 43), (0, .nameAndType 44 45), (0, u "LoopUnrollerL3"), (0, u "due"), (0, u "(JJZII)I"), (0, .methodref 7 47), (0, .nameAndType 48 25), (0, u "finalVar"), (3, u "law")] 2

def k1m0 : Method := { name := "<init>", desc := "()V", sig := { parameters := [], returnType := none }, accessFlags := 1, code := none }
def k1c1 : Code := { maxStack := 4, maxLocals := 7, code := method_2_code, exceptionTable := #[], attributes := #[] }
def k1m1 : Method := { name := "due", desc := "(JJZII)I", sig := { parameters := [.long, .long, .boolean, .int, .int], returnType := some .int }, accessFlags := 10, code := some k1c1 }
def k1c2 : Code := { maxStack := 9, maxLocals := 19, code := code, exceptionTable := #[], attributes := #[] }
def k1m2 : Method := { name := "law", desc := "(IIII)Z", sig := { parameters := [.int, .int, .int, .int], returnType := some .boolean }, accessFlags := 9, code := some k1c2 }
/-- LoopUnrollerL3 -/
def k1 : Class := { plain "LoopUnrollerL3" (some 0) with
  accessFlags := 49
  interfaces := #[]
  cf := some (fileOf pool1 41 #[] #[{ accessFlags := 1, nameIndex := 5, descriptorIndex := 6, attributes := #[] }, { accessFlags := 10, nameIndex := 44, descriptorIndex := 45, attributes := #[] }, { accessFlags := 9, nameIndex := 52, descriptorIndex := 17, attributes := #[] }] 49 2 #[] #[])
  fields := #[]
  methods := #[k1m0, k1m1, k1m2]
  instanceTypes := #[]
  staticTypes := #[]
  resolved := Array.replicate 55 none
  statics := none }

def pool2 : Array CpInfo := pool [(1, .methodref 2 3), (0, .class_ 4), (0, .nameAndType 5 6), (0, u "java/lang/Object"), (0, u "<init>"), (0, u "()V"), (0, .fieldref 8 9), (0, .class_ 10), (0, .nameAndType 11 12), (0, u "LoopUnroller"), (0, u "ops"), (0, u "[I"), (0, .fieldref 8 14), (0, .nameAndType 15 12), (0, u "fieldA"), (0, .fieldref 8 17), (0, .nameAndType 18 12), (0, u "fieldB"), (0, .fieldref 8 20), (0, .nameAndType 21 12), (0, u "fieldC"), (0, .fieldref 8 23), (0, .nameAndType 24 12), (0, u "match"), (0, .fieldref 8 26), (0, .nameAndType 27 12), (0, u "openPos"), (0, .fieldref 8 29), (0, .nameAndType 30 12), (0, u "openElse"), (0, .fieldref 8 32), (0, .nameAndType 33 34), (0, u "openLoop"), (0, u "[Z"), (0, .fieldref 8 36), (0, .nameAndType 37 12), (0, u "inputs"), (0, .fieldref 8 39), (0, .nameAndType 40 12), (0, u "outs"), (0, .fieldref 8 42), (0, .nameAndType 43 12), (0, u "finals"), (0, .fieldref 8 45), (0, .nameAndType 46 12), (0, u "vars"), (0, .fieldref 8 48), (0, .nameAndType 49 12), (0, u "frameAt"), (0, .fieldref 8 51), (0, .nameAndType 52 12), (0, u "frameStart"), (0, .fieldref 8 54), (0, .nameAndType 55 12), (0, u "frameTrip"), (0, .fieldref 8 57), (0, .nameAndType 58 12), (0, u "frameChunk"), (0, .fieldref 8 60), (0, .nameAndType 61 12), (0, u "frameCopy"), (0, .fieldref 8 63), (0, .nameAndType 64 34), (0, u "invariantIf"), (0, .fieldref 8 66), (0, .nameAndType 67 12), (0, u "ifLoop"), (0, .fieldref 8 69), (0, .nameAndType 70 34), (0, u "guardKnown"), (0, .fieldref 8 72), (0, .nameAndType 73 34), (0, u "guardValue"), (0, .methodref 8 75), (0, .nameAndType 76 6), (0, u "reset"), (0, .methodref 8 78), (0, .nameAndType 79 6), (0, u "clearProgram"), (0, .methodref 8 81), (0, .nameAndType 82 6), (0, u "clearOpen"), (0, .fieldref 8 84), (0, .nameAndType 85 86), (0, u "factor"), (0, u "I"), (0, .methodref 8 88), (0, .nameAndType 89 6), (0, u "clearResults"), (0, .fieldref 8 91), (0, .nameAndType 92 86), (0, u "codeSize"), (0, .methodref 8 94), (0, .nameAndType 95 96), (0, u "operandsValid"), (0, u "(IIII)Z"), (0, .methodref 8 98), (0, .nameAndType 99 100), (0, u "structureAllows"), (0, u "(I)Z"), (0, .methodref 8 102), (0, .nameAndType 103 100), (0, u "usesA"), (0, .methodref 8 105), (0, .nameAndType 106 100), (0, u "usesB"), (0, .methodref 8 108), (0, .nameAndType 109 100), (0, u "usesC"), (0, .methodref 8 111), (0, .nameAndType 112 113), (0, u "updateOpen"), (0, u "(II)V"), (0, .fieldref 8 115), (0, .nameAndType 116 86), (0, u "openCount"), (0, .methodref 8 118), (0, .nameAndType 119 100), (0, u "isVar"), (0, .methodref 8 121), (0, .nameAndType 122 100), (0, u "isInvariantIf"), (0, .methodref 8 124), (0, .nameAndType 125 126), (0, u "prepare"), (0, u "(Z)V"), (0, .methodref 8 128), (0, .nameAndType 129 6), (0, u "execute"), (0, .fieldref 8 131), (0, .nameAndType 132 133), (0, u "stopped"), (0, u "Z"), (0, .fieldref 8 135), (0, .nameAndType 136 86), (0, u "status"), (0, .fieldref 8 138), (0, .nameAndType 139 86), (0, u "outCount"), (0, .fieldref 8 141), (0, .nameAndType 142 86), (0, u "openLoops"), (0, .methodref 8 144), (0, .nameAndType 145 100), (0, u "cIsVar"), (0, .methodref 8 147), (0, .nameAndType 148 113), (0, u "closeIf"), (0, .methodref 8 150), (0, .nameAndType 151 152), (0, u "innermostLoop"), (0, u "(I)I"), (0, .methodref 8 154), (0, .nameAndType 155 100), (0, u "hasDestination"), (0, .fieldref 8 157), (0, .nameAndType 158 86), (0, u "runFactor"), (0, .fieldref 8 160), (0, .nameAndType 161 86), (0, u "pc"), (0, .fieldref 8 163), (0, .nameAndType 164 86), (0, u "frames"), (0, .methodref 8 166), (0, .nameAndType 167 168), (0, u "executeAt"), (0, u "(I)V"), (0, .methodref 8 170), (0, .nameAndType 171 152), (0, u "arith"), (0, .methodref 8 173), (0, .nameAndType 174 168), (0, u "appendOutput"), (0, .methodref 8 176), (0, .nameAndType 177 168), (0, u "enterLoop"), (0, .methodref 8 179), (0, .nameAndType 180 168), (0, u "endIteration"), (0, .methodref 8 182), (0, .nameAndType 183 168), (0, u "branch"), (0, .methodref 8 185), (0, .nameAndType 186 187), (0, u "tripCount"), (0, u "(III)J"), (0, .long 16), (1, .methodref 8 191), (0, .nameAndType 192 168), (0, u "decideGuards"), (0, u "SET"), (2, u "ADD"), (1, u "SUB"), (1, u "MUL"), (1, u "AND"), (1, u "XOR"), (1, u "LT"), (1, u "ADDI"), (1, u "OUT"), (1, u "LOOP"), (1, u "END"), (1, u "IF"), (1, u "ELSE"), (1, u "ENDIF"), (1, u "FIELD_OP"), (1, u "FIELD_A"), (0, u "FIELD_B"), (0, u "FIELD_C"), (0, u "RUN_ORIGINAL"), (0, u "RUN_TRANSFORMED"), (0, u "REFUSED"), (1, u "STATUS_NONE"), (0, u "STATUS_DONE"), (0, u "STATUS_TOO_LONG"), (0, u "MAX_CODE"), (1, u "NUM_VARS"), (0, u "MAX_OUT"), (1, u "MAX_TRIP"), (1, u "MAX_OPEN"), (0, u "MAX_OPEN_LOOPS"), (0, u "MIN_STEP"), (1, u "MAX_STEP"), (1, u "MIN_FACTOR"), (0, u "MAX_FACTOR"), (3, u "emit"), (2, u "()I"), (3, u "setInput"), (0, u "(II)Z"), (2, u "transform"), (1, u "run"), (0, u "lastStatus"), (0, u "outputCount"), (0, u "output"), (0, u "finalVar")] 3

def k2c0 : Code := { maxStack := 2, maxLocals := 1, code := prog_1_method_1_code, exceptionTable := #[], attributes := #[] }
def k2m0 : Method := { name := "<init>", desc := "()V", sig := { parameters := [], returnType := none }, accessFlags := 1, code := some k2c0 }
def k2c1 : Code := { maxStack := 3, maxLocals := 2, code := prog_1_method_2_code, exceptionTable := #[], attributes := #[] }
def k2m1 : Method := { name := "reset", desc := "()V", sig := { parameters := [], returnType := none }, accessFlags := 1, code := some k2c1 }
def k2c2 : Code := { maxStack := 5, maxLocals := 6, code := prog_1_method_3_code, exceptionTable := #[], attributes := #[] }
def k2m2 : Method := { name := "emit", desc := "(IIII)Z", sig := { parameters := [.int, .int, .int, .int], returnType := some .boolean }, accessFlags := 1, code := some k2c2 }
def k2c3 : Code := { maxStack := 3, maxLocals := 3, code := prog_1_method_7_code, exceptionTable := #[], attributes := #[] }
def k2m3 : Method := { name := "setInput", desc := "(II)Z", sig := { parameters := [.int, .int], returnType := some .boolean }, accessFlags := 1, code := some k2c3 }
def k2c4 : Code := { maxStack := 2, maxLocals := 3, code := prog_1_method_10_code, exceptionTable := #[], attributes := #[] }
def k2m4 : Method := { name := "transform", desc := "(I)Z", sig := { parameters := [.int], returnType := some .boolean }, accessFlags := 1, code := some k2c4 }
def k2c5 : Code := { maxStack := 4, maxLocals := 3, code := prog_1_method_12_code, exceptionTable := #[], attributes := #[] }
def k2m5 : Method := { name := "run", desc := "(I)I", sig := { parameters := [.int], returnType := some .int }, accessFlags := 1, code := some k2c5 }
def k2c6 : Code := { maxStack := 1, maxLocals := 1, code := prog_1_method_13_code, exceptionTable := #[], attributes := #[] }
def k2m6 : Method := { name := "lastStatus", desc := "()I", sig := { parameters := [], returnType := some .int }, accessFlags := 1, code := some k2c6 }
def k2c7 : Code := { maxStack := 1, maxLocals := 1, code := prog_1_method_14_code, exceptionTable := #[], attributes := #[] }
def k2m7 : Method := { name := "outputCount", desc := "()I", sig := { parameters := [], returnType := some .int }, accessFlags := 1, code := some k2c7 }
def k2c8 : Code := { maxStack := 2, maxLocals := 2, code := prog_1_method_15_code, exceptionTable := #[], attributes := #[] }
def k2m8 : Method := { name := "output", desc := "(I)I", sig := { parameters := [.int], returnType := some .int }, accessFlags := 1, code := some k2c8 }
def k2c9 : Code := { maxStack := 2, maxLocals := 2, code := prog_1_method_16_code, exceptionTable := #[], attributes := #[] }
def k2m9 : Method := { name := "finalVar", desc := "(I)I", sig := { parameters := [.int], returnType := some .int }, accessFlags := 1, code := some k2c9 }
def k2c10 : Code := { maxStack := 3, maxLocals := 2, code := prog_1_method_17_code, exceptionTable := #[], attributes := #[] }
def k2m10 : Method := { name := "clearProgram", desc := "()V", sig := { parameters := [], returnType := none }, accessFlags := 2, code := some k2c10 }
def k2c11 : Code := { maxStack := 3, maxLocals := 2, code := prog_1_method_18_code, exceptionTable := #[], attributes := #[] }
def k2m11 : Method := { name := "clearOpen", desc := "()V", sig := { parameters := [], returnType := none }, accessFlags := 2, code := some k2c11 }
def k2c12 : Code := { maxStack := 3, maxLocals := 2, code := prog_1_method_19_code, exceptionTable := #[], attributes := #[] }
def k2m12 : Method := { name := "clearResults", desc := "()V", sig := { parameters := [], returnType := none }, accessFlags := 2, code := some k2c12 }
def k2c13 : Code := { maxStack := 2, maxLocals := 2, code := prog_1_method_20_code, exceptionTable := #[], attributes := #[] }
def k2m13 : Method := { name := "isVar", desc := "(I)Z", sig := { parameters := [.int], returnType := some .boolean }, accessFlags := 2, code := some k2c13 }
def k2c14 : Code := { maxStack := 2, maxLocals := 2, code := prog_1_method_21_code, exceptionTable := #[], attributes := #[] }
def k2m14 : Method := { name := "usesA", desc := "(I)Z", sig := { parameters := [.int], returnType := some .boolean }, accessFlags := 2, code := some k2c14 }
def k2c15 : Code := { maxStack := 2, maxLocals := 2, code := prog_1_method_22_code, exceptionTable := #[], attributes := #[] }
def k2m15 : Method := { name := "usesB", desc := "(I)Z", sig := { parameters := [.int], returnType := some .boolean }, accessFlags := 2, code := some k2c15 }
def k2c16 : Code := { maxStack := 2, maxLocals := 2, code := prog_1_method_23_code, exceptionTable := #[], attributes := #[] }
def k2m16 : Method := { name := "usesC", desc := "(I)Z", sig := { parameters := [.int], returnType := some .boolean }, accessFlags := 2, code := some k2c16 }
def k2c17 : Code := { maxStack := 2, maxLocals := 2, code := prog_1_method_24_code, exceptionTable := #[], attributes := #[] }
def k2m17 : Method := { name := "cIsVar", desc := "(I)Z", sig := { parameters := [.int], returnType := some .boolean }, accessFlags := 2, code := some k2c17 }
def k2c18 : Code := { maxStack := 2, maxLocals := 2, code := prog_1_method_25_code, exceptionTable := #[], attributes := #[] }
def k2m18 : Method := { name := "hasDestination", desc := "(I)Z", sig := { parameters := [.int], returnType := some .boolean }, accessFlags := 2, code := some k2c18 }
def k2c19 : Code := { maxStack := 2, maxLocals := 5, code := prog_1_method_26_code, exceptionTable := #[], attributes := #[] }
def k2m19 : Method := { name := "operandsValid", desc := "(IIII)Z", sig := { parameters := [.int, .int, .int, .int], returnType := some .boolean }, accessFlags := 2, code := some k2c19 }
def k2c20 : Code := { maxStack := 2, maxLocals := 3, code := prog_1_method_27_code, exceptionTable := #[], attributes := #[] }
def k2m20 : Method := { name := "structureAllows", desc := "(I)Z", sig := { parameters := [.int], returnType := some .boolean }, accessFlags := 2, code := some k2c20 }
def k2c21 : Code := { maxStack := 4, maxLocals := 4, code := prog_1_method_28_code, exceptionTable := #[], attributes := #[] }
def k2m21 : Method := { name := "updateOpen", desc := "(II)V", sig := { parameters := [.int, .int], returnType := none }, accessFlags := 2, code := some k2c21 }
def k2c22 : Code := { maxStack := 4, maxLocals := 3, code := prog_1_method_29_code, exceptionTable := #[], attributes := #[] }
def k2m22 : Method := { name := "closeIf", desc := "(II)V", sig := { parameters := [.int, .int], returnType := none }, accessFlags := 2, code := some k2c22 }
def k2c23 : Code := { maxStack := 2, maxLocals := 3, code := prog_1_method_30_code, exceptionTable := #[], attributes := #[] }
def k2m23 : Method := { name := "innermostLoop", desc := "(I)I", sig := { parameters := [.int], returnType := some .int }, accessFlags := 2, code := some k2c23 }
def k2c24 : Code := { maxStack := 3, maxLocals := 6, code := prog_1_method_31_code, exceptionTable := #[], attributes := #[] }
def k2m24 : Method := { name := "isInvariantIf", desc := "(I)Z", sig := { parameters := [.int], returnType := some .boolean }, accessFlags := 2, code := some k2c24 }
def k2c25 : Code := { maxStack := 4, maxLocals := 4, code := prog_1_method_32_code, exceptionTable := #[], attributes := #[] }
def k2m25 : Method := { name := "prepare", desc := "(Z)V", sig := { parameters := [.boolean], returnType := none }, accessFlags := 2, code := some k2c25 }
def k2c26 : Code := { maxStack := 2, maxLocals := 3, code := prog_1_method_33_code, exceptionTable := #[], attributes := #[] }
def k2m26 : Method := { name := "execute", desc := "()V", sig := { parameters := [], returnType := none }, accessFlags := 2, code := some k2c26 }
def k2c27 : Code := { maxStack := 4, maxLocals := 4, code := prog_1_method_34_code, exceptionTable := #[], attributes := #[] }
def k2m27 : Method := { name := "executeAt", desc := "(I)V", sig := { parameters := [.int], returnType := none }, accessFlags := 2, code := some k2c27 }
def k2c28 : Code := { maxStack := 3, maxLocals := 5, code := prog_1_method_35_code, exceptionTable := #[], attributes := #[] }
def k2m28 : Method := { name := "arith", desc := "(I)I", sig := { parameters := [.int], returnType := some .int }, accessFlags := 2, code := some k2c28 }
def k2c29 : Code := { maxStack := 3, maxLocals := 2, code := prog_1_method_36_code, exceptionTable := #[], attributes := #[] }
def k2m29 : Method := { name := "appendOutput", desc := "(I)V", sig := { parameters := [.int], returnType := none }, accessFlags := 2, code := some k2c29 }
def k2c30 : Code := { maxStack := 4, maxLocals := 12, code := prog_1_method_37_code, exceptionTable := #[], attributes := #[] }
def k2m30 : Method := { name := "tripCount", desc := "(III)J", sig := { parameters := [.int, .int, .int], returnType := some .long }, accessFlags := 2, code := some k2c30 }
def k2c31 : Code := { maxStack := 5, maxLocals := 7, code := prog_1_method_38_code, exceptionTable := #[], attributes := #[] }
def k2m31 : Method := { name := "enterLoop", desc := "(I)V", sig := { parameters := [.int], returnType := none }, accessFlags := 2, code := some k2c31 }
def k2c32 : Code := { maxStack := 5, maxLocals := 4, code := prog_1_method_39_code, exceptionTable := #[], attributes := #[] }
def k2m32 : Method := { name := "decideGuards", desc := "(I)V", sig := { parameters := [.int], returnType := none }, accessFlags := 2, code := some k2c32 }
def k2c33 : Code := { maxStack := 5, maxLocals := 9, code := prog_1_method_40_code, exceptionTable := #[], attributes := #[] }
def k2m33 : Method := { name := "endIteration", desc := "(I)V", sig := { parameters := [.int], returnType := none }, accessFlags := 2, code := some k2c33 }
def k2c34 : Code := { maxStack := 3, maxLocals := 3, code := prog_1_method_41_code, exceptionTable := #[], attributes := #[] }
def k2m34 : Method := { name := "branch", desc := "(I)V", sig := { parameters := [.int], returnType := none }, accessFlags := 2, code := some k2c34 }
/-- LoopUnroller -/
def k2 : Class := { plain "LoopUnroller" (some 0) with
  accessFlags := 49
  interfaces := #[]
  cf := some (fileOf pool2 8 #[] #[{ accessFlags := 1, nameIndex := 5, descriptorIndex := 6, attributes := #[] }, { accessFlags := 1, nameIndex := 76, descriptorIndex := 6, attributes := #[] }, { accessFlags := 1, nameIndex := 252, descriptorIndex := 96, attributes := #[] }, { accessFlags := 1, nameIndex := 259, descriptorIndex := 260, attributes := #[] }, { accessFlags := 1, nameIndex := 263, descriptorIndex := 100, attributes := #[] }, { accessFlags := 1, nameIndex := 265, descriptorIndex := 152, attributes := #[] }, { accessFlags := 1, nameIndex := 266, descriptorIndex := 255, attributes := #[] }, { accessFlags := 1, nameIndex := 267, descriptorIndex := 255, attributes := #[] }, { accessFlags := 1, nameIndex := 268, descriptorIndex := 152, attributes := #[] }, { accessFlags := 1, nameIndex := 269, descriptorIndex := 152, attributes := #[] }, { accessFlags := 2, nameIndex := 79, descriptorIndex := 6, attributes := #[] }, { accessFlags := 2, nameIndex := 82, descriptorIndex := 6, attributes := #[] }, { accessFlags := 2, nameIndex := 89, descriptorIndex := 6, attributes := #[] }, { accessFlags := 2, nameIndex := 119, descriptorIndex := 100, attributes := #[] }, { accessFlags := 2, nameIndex := 103, descriptorIndex := 100, attributes := #[] }, { accessFlags := 2, nameIndex := 106, descriptorIndex := 100, attributes := #[] }, { accessFlags := 2, nameIndex := 109, descriptorIndex := 100, attributes := #[] }, { accessFlags := 2, nameIndex := 145, descriptorIndex := 100, attributes := #[] }, { accessFlags := 2, nameIndex := 155, descriptorIndex := 100, attributes := #[] }, { accessFlags := 2, nameIndex := 95, descriptorIndex := 96, attributes := #[] }, { accessFlags := 2, nameIndex := 99, descriptorIndex := 100, attributes := #[] }, { accessFlags := 2, nameIndex := 112, descriptorIndex := 113, attributes := #[] }, { accessFlags := 2, nameIndex := 148, descriptorIndex := 113, attributes := #[] }, { accessFlags := 2, nameIndex := 151, descriptorIndex := 152, attributes := #[] }, { accessFlags := 2, nameIndex := 122, descriptorIndex := 100, attributes := #[] }, { accessFlags := 2, nameIndex := 125, descriptorIndex := 126, attributes := #[] }, { accessFlags := 2, nameIndex := 129, descriptorIndex := 6, attributes := #[] }, { accessFlags := 2, nameIndex := 167, descriptorIndex := 168, attributes := #[] }, { accessFlags := 2, nameIndex := 171, descriptorIndex := 152, attributes := #[] }, { accessFlags := 2, nameIndex := 174, descriptorIndex := 168, attributes := #[] }, { accessFlags := 2, nameIndex := 186, descriptorIndex := 187, attributes := #[] }, { accessFlags := 2, nameIndex := 177, descriptorIndex := 168, attributes := #[] }, { accessFlags := 2, nameIndex := 192, descriptorIndex := 168, attributes := #[] }, { accessFlags := 2, nameIndex := 180, descriptorIndex := 168, attributes := #[] }, { accessFlags := 2, nameIndex := 183, descriptorIndex := 168, attributes := #[] }] 49 2 #[] #[{ accessFlags := 25, nameIndex := 193, descriptorIndex := 86, attributes := #[] }, { accessFlags := 25, nameIndex := 196, descriptorIndex := 86, attributes := #[] }, { accessFlags := 25, nameIndex := 198, descriptorIndex := 86, attributes := #[] }, { accessFlags := 25, nameIndex := 200, descriptorIndex := 86, attributes := #[] }, { accessFlags := 25, nameIndex := 202, descriptorIndex := 86, attributes := #[] }, { accessFlags := 25, nameIndex := 204, descriptorIndex := 86, attributes := #[] }, { accessFlags := 25, nameIndex := 206, descriptorIndex := 86, attributes := #[] }, { accessFlags := 25, nameIndex := 208, descriptorIndex := 86, attributes := #[] }, { accessFlags := 25, nameIndex := 210, descriptorIndex := 86, attributes := #[] }, { accessFlags := 25, nameIndex := 212, descriptorIndex := 86, attributes := #[] }, { accessFlags := 25, nameIndex := 214, descriptorIndex := 86, attributes := #[] }, { accessFlags := 25, nameIndex := 216, descriptorIndex := 86, attributes := #[] }, { accessFlags := 25, nameIndex := 218, descriptorIndex := 86, attributes := #[] }, { accessFlags := 25, nameIndex := 220, descriptorIndex := 86, attributes := #[] }, { accessFlags := 25, nameIndex := 222, descriptorIndex := 86, attributes := #[] }, { accessFlags := 25, nameIndex := 224, descriptorIndex := 86, attributes := #[] }, { accessFlags := 25, nameIndex := 225, descriptorIndex := 86, attributes := #[] }, { accessFlags := 25, nameIndex := 226, descriptorIndex := 86, attributes := #[] }, { accessFlags := 25, nameIndex := 227, descriptorIndex := 86, attributes := #[] }, { accessFlags := 25, nameIndex := 228, descriptorIndex := 86, attributes := #[] }, { accessFlags := 25, nameIndex := 229, descriptorIndex := 86, attributes := #[] }, { accessFlags := 25, nameIndex := 231, descriptorIndex := 86, attributes := #[] }, { accessFlags := 25, nameIndex := 232, descriptorIndex := 86, attributes := #[] }, { accessFlags := 25, nameIndex := 233, descriptorIndex := 86, attributes := #[] }, { accessFlags := 25, nameIndex := 234, descriptorIndex := 86, attributes := #[] }, { accessFlags := 25, nameIndex := 236, descriptorIndex := 86, attributes := #[] }, { accessFlags := 25, nameIndex := 237, descriptorIndex := 86, attributes := #[] }, { accessFlags := 25, nameIndex := 239, descriptorIndex := 86, attributes := #[] }, { accessFlags := 25, nameIndex := 241, descriptorIndex := 86, attributes := #[] }, { accessFlags := 25, nameIndex := 242, descriptorIndex := 86, attributes := #[] }, { accessFlags := 25, nameIndex := 243, descriptorIndex := 86, attributes := #[] }, { accessFlags := 25, nameIndex := 245, descriptorIndex := 86, attributes := #[] }, { accessFlags := 25, nameIndex := 247, descriptorIndex := 86, attributes := #[] }, { accessFlags := 25, nameIndex := 248, descriptorIndex := 86, attributes := #[] }, { accessFlags := 2, nameIndex := 11, descriptorIndex := 12, attributes := #[] }, { accessFlags := 2, nameIndex := 15, descriptorIndex := 12, attributes := #[] }, { accessFlags := 2, nameIndex := 18, descriptorIndex := 12, attributes := #[] }, { accessFlags := 2, nameIndex := 21, descriptorIndex := 12, attributes := #[] }, { accessFlags := 2, nameIndex := 24, descriptorIndex := 12, attributes := #[] }, { accessFlags := 2, nameIndex := 92, descriptorIndex := 86, attributes := #[] }, { accessFlags := 2, nameIndex := 27, descriptorIndex := 12, attributes := #[] }, { accessFlags := 2, nameIndex := 30, descriptorIndex := 12, attributes := #[] }, { accessFlags := 2, nameIndex := 33, descriptorIndex := 34, attributes := #[] }, { accessFlags := 2, nameIndex := 116, descriptorIndex := 86, attributes := #[] }, { accessFlags := 2, nameIndex := 142, descriptorIndex := 86, attributes := #[] }, { accessFlags := 2, nameIndex := 37, descriptorIndex := 12, attributes := #[] }, { accessFlags := 2, nameIndex := 85, descriptorIndex := 86, attributes := #[] }, { accessFlags := 2, nameIndex := 136, descriptorIndex := 86, attributes := #[] }, { accessFlags := 2, nameIndex := 139, descriptorIndex := 86, attributes := #[] }, { accessFlags := 2, nameIndex := 40, descriptorIndex := 12, attributes := #[] }, { accessFlags := 2, nameIndex := 43, descriptorIndex := 12, attributes := #[] }, { accessFlags := 2, nameIndex := 46, descriptorIndex := 12, attributes := #[] }, { accessFlags := 2, nameIndex := 161, descriptorIndex := 86, attributes := #[] }, { accessFlags := 2, nameIndex := 132, descriptorIndex := 133, attributes := #[] }, { accessFlags := 2, nameIndex := 158, descriptorIndex := 86, attributes := #[] }, { accessFlags := 2, nameIndex := 164, descriptorIndex := 86, attributes := #[] }, { accessFlags := 2, nameIndex := 49, descriptorIndex := 12, attributes := #[] }, { accessFlags := 2, nameIndex := 52, descriptorIndex := 12, attributes := #[] }, { accessFlags := 2, nameIndex := 55, descriptorIndex := 12, attributes := #[] }, { accessFlags := 2, nameIndex := 58, descriptorIndex := 12, attributes := #[] }, { accessFlags := 2, nameIndex := 61, descriptorIndex := 12, attributes := #[] }, { accessFlags := 2, nameIndex := 64, descriptorIndex := 34, attributes := #[] }, { accessFlags := 2, nameIndex := 67, descriptorIndex := 12, attributes := #[] }, { accessFlags := 2, nameIndex := 70, descriptorIndex := 34, attributes := #[] }, { accessFlags := 2, nameIndex := 73, descriptorIndex := 34, attributes := #[] }])
  fields := #[{ name := "SET", type := .int, accessFlags := 25, slot := 0, constantValue := 0 }, { name := "ADD", type := .int, accessFlags := 25, slot := 1, constantValue := 0 }, { name := "SUB", type := .int, accessFlags := 25, slot := 2, constantValue := 0 }, { name := "MUL", type := .int, accessFlags := 25, slot := 3, constantValue := 0 }, { name := "AND", type := .int, accessFlags := 25, slot := 4, constantValue := 0 }, { name := "XOR", type := .int, accessFlags := 25, slot := 5, constantValue := 0 }, { name := "LT", type := .int, accessFlags := 25, slot := 6, constantValue := 0 }, { name := "ADDI", type := .int, accessFlags := 25, slot := 7, constantValue := 0 }, { name := "OUT", type := .int, accessFlags := 25, slot := 8, constantValue := 0 }, { name := "LOOP", type := .int, accessFlags := 25, slot := 9, constantValue := 0 }, { name := "END", type := .int, accessFlags := 25, slot := 10, constantValue := 0 }, { name := "IF", type := .int, accessFlags := 25, slot := 11, constantValue := 0 }, { name := "ELSE", type := .int, accessFlags := 25, slot := 12, constantValue := 0 }, { name := "ENDIF", type := .int, accessFlags := 25, slot := 13, constantValue := 0 }, { name := "FIELD_OP", type := .int, accessFlags := 25, slot := 14, constantValue := 0 }, { name := "FIELD_A", type := .int, accessFlags := 25, slot := 15, constantValue := 0 }, { name := "FIELD_B", type := .int, accessFlags := 25, slot := 16, constantValue := 0 }, { name := "FIELD_C", type := .int, accessFlags := 25, slot := 17, constantValue := 0 }, { name := "RUN_ORIGINAL", type := .int, accessFlags := 25, slot := 18, constantValue := 0 }, { name := "RUN_TRANSFORMED", type := .int, accessFlags := 25, slot := 19, constantValue := 0 }, { name := "REFUSED", type := .int, accessFlags := 25, slot := 20, constantValue := 0 }, { name := "STATUS_NONE", type := .int, accessFlags := 25, slot := 21, constantValue := 0 }, { name := "STATUS_DONE", type := .int, accessFlags := 25, slot := 22, constantValue := 0 }, { name := "STATUS_TOO_LONG", type := .int, accessFlags := 25, slot := 23, constantValue := 0 }, { name := "MAX_CODE", type := .int, accessFlags := 25, slot := 24, constantValue := 0 }, { name := "NUM_VARS", type := .int, accessFlags := 25, slot := 25, constantValue := 0 }, { name := "MAX_OUT", type := .int, accessFlags := 25, slot := 26, constantValue := 0 }, { name := "MAX_TRIP", type := .int, accessFlags := 25, slot := 27, constantValue := 0 }, { name := "MAX_OPEN", type := .int, accessFlags := 25, slot := 28, constantValue := 0 }, { name := "MAX_OPEN_LOOPS", type := .int, accessFlags := 25, slot := 29, constantValue := 0 }, { name := "MIN_STEP", type := .int, accessFlags := 25, slot := 30, constantValue := 0 }, { name := "MAX_STEP", type := .int, accessFlags := 25, slot := 31, constantValue := 0 }, { name := "MIN_FACTOR", type := .int, accessFlags := 25, slot := 32, constantValue := 0 }, { name := "MAX_FACTOR", type := .int, accessFlags := 25, slot := 33, constantValue := 0 }, { name := "ops", type := (.array .int), accessFlags := 2, slot := 0, constantValue := 0 }, { name := "fieldA", type := (.array .int), accessFlags := 2, slot := 1, constantValue := 0 }, { name := "fieldB", type := (.array .int), accessFlags := 2, slot := 2, constantValue := 0 }, { name := "fieldC", type := (.array .int), accessFlags := 2, slot := 3, constantValue := 0 }, { name := "match", type := (.array .int), accessFlags := 2, slot := 4, constantValue := 0 }, { name := "codeSize", type := .int, accessFlags := 2, slot := 5, constantValue := 0 }, { name := "openPos", type := (.array .int), accessFlags := 2, slot := 6, constantValue := 0 }, { name := "openElse", type := (.array .int), accessFlags := 2, slot := 7, constantValue := 0 }, { name := "openLoop", type := (.array .boolean), accessFlags := 2, slot := 8, constantValue := 0 }, { name := "openCount", type := .int, accessFlags := 2, slot := 9, constantValue := 0 }, { name := "openLoops", type := .int, accessFlags := 2, slot := 10, constantValue := 0 }, { name := "inputs", type := (.array .int), accessFlags := 2, slot := 11, constantValue := 0 }, { name := "factor", type := .int, accessFlags := 2, slot := 12, constantValue := 0 }, { name := "status", type := .int, accessFlags := 2, slot := 13, constantValue := 0 }, { name := "outCount", type := .int, accessFlags := 2, slot := 14, constantValue := 0 }, { name := "outs", type := (.array .int), accessFlags := 2, slot := 15, constantValue := 0 }, { name := "finals", type := (.array .int), accessFlags := 2, slot := 16, constantValue := 0 }, { name := "vars", type := (.array .int), accessFlags := 2, slot := 17, constantValue := 0 }, { name := "pc", type := .int, accessFlags := 2, slot := 18, constantValue := 0 }, { name := "stopped", type := .boolean, accessFlags := 2, slot := 19, constantValue := 0 }, { name := "runFactor", type := .int, accessFlags := 2, slot := 20, constantValue := 0 }, { name := "frames", type := .int, accessFlags := 2, slot := 21, constantValue := 0 }, { name := "frameAt", type := (.array .int), accessFlags := 2, slot := 22, constantValue := 0 }, { name := "frameStart", type := (.array .int), accessFlags := 2, slot := 23, constantValue := 0 }, { name := "frameTrip", type := (.array .int), accessFlags := 2, slot := 24, constantValue := 0 }, { name := "frameChunk", type := (.array .int), accessFlags := 2, slot := 25, constantValue := 0 }, { name := "frameCopy", type := (.array .int), accessFlags := 2, slot := 26, constantValue := 0 }, { name := "invariantIf", type := (.array .boolean), accessFlags := 2, slot := 27, constantValue := 0 }, { name := "ifLoop", type := (.array .int), accessFlags := 2, slot := 28, constantValue := 0 }, { name := "guardKnown", type := (.array .boolean), accessFlags := 2, slot := 29, constantValue := 0 }, { name := "guardValue", type := (.array .boolean), accessFlags := 2, slot := 30, constantValue := 0 }]
  methods := #[k2m0, k2m1, k2m2, k2m3, k2m4, k2m5, k2m6, k2m7, k2m8, k2m9, k2m10, k2m11, k2m12, k2m13, k2m14, k2m15, k2m16, k2m17, k2m18, k2m19, k2m20, k2m21, k2m22, k2m23, k2m24, k2m25, k2m26, k2m27, k2m28, k2m29, k2m30, k2m31, k2m32, k2m33, k2m34]
  instanceTypes := #[(.array .int), (.array .int), (.array .int), (.array .int), (.array .int), .int, (.array .int), (.array .int), (.array .boolean), .int, .int, (.array .int), .int, .int, .int, (.array .int), (.array .int), (.array .int), .int, .boolean, .int, .int, (.array .int), (.array .int), (.array .int), (.array .int), (.array .int), (.array .boolean), (.array .int), (.array .boolean), (.array .boolean)]
  staticTypes := #[.int, .int, .int, .int, .int, .int, .int, .int, .int, .int, .int, .int, .int, .int, .int, .int, .int, .int, .int, .int, .int, .int, .int, .int, .int, .int, .int, .int, .int, .int, .int, .int, .int, .int]
  resolved := Array.replicate 273 none
  statics := none }

def pool3 : Array CpInfo := pool [(1, u "java/lang/Cloneable"), (0, .class_ 1), (0, u "java/lang/Object"), (0, .class_ 3)] 3

/-- java/lang/Cloneable -/
def k3 : Class := { plain "java/lang/Cloneable" (some 0) with
  accessFlags := 1537
  interfaces := #[]
  cf := some (fileOf pool3 2 #[] #[] 1537 4 #[] #[])
  fields := #[]
  methods := #[]
  instanceTypes := #[]
  staticTypes := #[]
  resolved := Array.replicate 8 none
  statics := none }

def pool4 : Array CpInfo := pool [(1, u "java/io/Serializable"), (0, .class_ 1), (0, u "java/lang/Object"), (0, .class_ 3)] 3

/-- java/io/Serializable -/
def k4 : Class := { plain "java/io/Serializable" (some 0) with
  accessFlags := 1537
  interfaces := #[]
  cf := some (fileOf pool4 2 #[] #[] 1537 4 #[] #[])
  fields := #[]
  methods := #[]
  instanceTypes := #[]
  staticTypes := #[]
  resolved := Array.replicate 8 none
  statics := none }

/-- the primitive boolean -/
def k5 : Class := { plain "boolean" none with kind := .primitive 'Z', accessFlags := 0x411 }
/-- [Z -/
def k6 : Class := { plain "[Z" (some 0) with kind := .array 5 .boolean, interfaces := #[3, 4], accessFlags := 1041 }

/-- the primitive byte -/
def k7 : Class := { plain "byte" none with kind := .primitive 'B', accessFlags := 0x411 }
/-- [B -/
def k8 : Class := { plain "[B" (some 0) with kind := .array 7 .byte, interfaces := #[3, 4], accessFlags := 1041 }

/-- the primitive int -/
def k9 : Class := { plain "int" none with kind := .primitive 'I', accessFlags := 0x411 }
/-- [I -/
def k10 : Class := { plain "[I" (some 0) with kind := .array 9 .int, interfaces := #[3, 4], accessFlags := 1041 }

def heap : Heap := #[]
def classes : Array Class := #[k0, k1, k2, k3, k4, k5, k6, k7, k8, k9, k10]
def interned : List (Array UInt16 × Addr) := []
def slotsUsed : Nat := 0
def theMethod : MethodId := ⟨1, 2⟩
def args0 : Array Value := #[.int 5, .int 5, .int 5, .int 5]
def aboutOver (below : List Frame) : State where
  vm := { classes := classes, interned := interned.toArray }
  heap := heap
  slotsUsed := slotsUsed
  threads := #[{ frames := .invoking theMethod args0 :: below }]
def below0 : List Frame := [.native { method := ⟨0, 0⟩, args := #[] }]
def about1 : State := aboutOver below0
def p0 : Program := .bare "" "" ""
def e0 : Env := launch0.env 0 0 0
theorem w_frames : about1.frames = Frame.invoking theMethod args0 :: below0 := rfl
set_option maxRecDepth 65536 in
theorem w_args : argsFit about1.vm theMethod args0 = true := by decide +kernel
set_option maxRecDepth 65536 in
theorem w_heap : heapFits about1 = true := by decide +kernel
set_option maxRecDepth 65536 in
theorem w_runnable : about1.curStatus? = some .runnable := by decide +kernel
set_option maxRecDepth 65536 in
theorem w_alone : about1.alone = true := by decide +kernel
set_option maxRecDepth 65536 in
theorem w_named : about1.methodNamed? x = some theMethod := by decide +kernel
set_option maxRecDepth 65536 in
theorem w_hears : about1.hears theMethod below0 = true := by decide +kernel
set_option maxRecDepth 65536 in
theorem w_ripe : about1.ripe theMethod args0 below0 = true := by decide +kernel
theorem w_running : about1.status = .running := rfl
set_option maxRecDepth 65536 in
theorem w_room : about1.hasRoom e0.platform room_1 = true :=
  launch0.hasRoom_least _ room_1 (by decide +kernel) (by decide +kernel) (by decide +kernel) (by decide +kernel) (by decide +kernel) (by decide +kernel)
theorem allAtoms_all (ts : List Jvm.Cond) (a : Array Jvm.Value) (st : Jvm.State) : (allAtoms ts).before a st = ts.all (fun c => c.before a st) := by
  induction ts with
  | nil => rfl
  | cons c t ih =>
    show (Jvm.Cond.and c (allAtoms t)).before a st = _
    rw [Jvm.Cond.before_and, ih, List.all_cons]
def words1 : List Jvm.Cond := Jvm.Cond.code x code maxLocals ret :: tables_1
/-- a 'code' word, met by the world's own term for the bytes: nothing is compared byte by byte -/
theorem code_word {y : MethodName} {bytes : ByteArray} {mx : Nat} {rt : Option FieldType} {a : Array Value} {s : State} {m : MethodId} {meth : Method} {c : Code} (h1 : s.methodNamed? y = some m) (h2 : s.vm.method? m = some meth) (h3 : meth.code = some c) (h4 : c.code = bytes)
    (h5 : (c.maxLocals == mx && c.exceptionTable.isEmpty && decide (c.maxStack ≤ mostOperands) && decide (meth.sig.returnType = rt) && !meth.locks && decide (parseMethodDescriptor y.desc = some meth.sig)) = true) : (Jvm.Cond.code y bytes mx rt).before a s = true := by
  simp only [Bool.and_eq_true, beq_iff_eq, Bool.not_eq_true', decide_eq_true_eq] at h5
  obtain ⟨⟨⟨⟨⟨g1, g2⟩, g3⟩, g4⟩, g5⟩, g6⟩ := h5
  simp [Cond.before, Cond.holds, Cond.value, h1, h2, h3, h4, g1, g2, g3, g4, g5, g6]
def isCode : Jvm.Cond → Bool
  | .code _ _ _ _ => true
  | _ => false
theorem all_split {L : List Jvm.Cond} {P : Jvm.Cond → Bool} (h1 : L.all (fun c => isCode c || P c) = true) (h2 : ∀ c ∈ L.filter isCode, P c = true) : L.all P = true := by
  refine List.all_eq_true.mpr fun c hc => ?_
  have h := List.all_eq_true.mp h1 c hc
  rcases Bool.eq_false_or_eq_true (isCode c) with hi | hi
  · exact h2 c (List.mem_filter.mpr ⟨hc, hi⟩)
  · simpa [hi] using h
set_option maxRecDepth 65536 in
theorem w_c0 : (Jvm.Cond.code x code maxLocals ret).before args0 about1 = true := code_word (m := ⟨1, 2⟩) (meth := k1m2) (c := k1c2) (by decide +kernel) rfl rfl rfl (by decide +kernel)
set_option maxRecDepth 65536 in
theorem w_c1 : (Jvm.Cond.code ({ cls := "LoopUnroller", name := "<init>", desc := "()V" } : Jvm.MethodName) prog_1_method_1_code (1 : Nat) (Option.none : Option Jvm.ClassFile.FieldType)).before args0 about1 = true := code_word (m := ⟨2, 0⟩) (meth := k2m0) (c := k2c0) (by decide +kernel) rfl rfl rfl (by decide +kernel)
set_option maxRecDepth 65536 in
theorem w_c2 : (Jvm.Cond.code ({ cls := "java/lang/Object", name := "<init>", desc := "()V" } : Jvm.MethodName) object_method_1_code (1 : Nat) (Option.none : Option Jvm.ClassFile.FieldType)).before args0 about1 = true := code_word (m := ⟨0, 0⟩) (meth := k0m0) (c := k0c0) (by decide +kernel) rfl rfl rfl (by decide +kernel)
set_option maxRecDepth 65536 in
theorem w_c3 : (Jvm.Cond.code ({ cls := "LoopUnroller", name := "reset", desc := "()V" } : Jvm.MethodName) prog_1_method_2_code (2 : Nat) (Option.none : Option Jvm.ClassFile.FieldType)).before args0 about1 = true := code_word (m := ⟨2, 1⟩) (meth := k2m1) (c := k2c1) (by decide +kernel) rfl rfl rfl (by decide +kernel)
set_option maxRecDepth 65536 in
theorem w_c4 : (Jvm.Cond.code ({ cls := "LoopUnroller", name := "clearProgram", desc := "()V" } : Jvm.MethodName) prog_1_method_17_code (2 : Nat) (Option.none : Option Jvm.ClassFile.FieldType)).before args0 about1 = true := code_word (m := ⟨2, 10⟩) (meth := k2m10) (c := k2c10) (by decide +kernel) rfl rfl rfl (by decide +kernel)
set_option maxRecDepth 65536 in
theorem w_c5 : (Jvm.Cond.code ({ cls := "LoopUnroller", name := "clearOpen", desc := "()V" } : Jvm.MethodName) prog_1_method_18_code (2 : Nat) (Option.none : Option Jvm.ClassFile.FieldType)).before args0 about1 = true := code_word (m := ⟨2, 11⟩) (meth := k2m11) (c := k2c11) (by decide +kernel) rfl rfl rfl (by decide +kernel)
set_option maxRecDepth 65536 in
theorem w_c6 : (Jvm.Cond.code ({ cls := "LoopUnroller", name := "clearResults", desc := "()V" } : Jvm.MethodName) prog_1_method_19_code (2 : Nat) (Option.none : Option Jvm.ClassFile.FieldType)).before args0 about1 = true := code_word (m := ⟨2, 12⟩) (meth := k2m12) (c := k2c12) (by decide +kernel) rfl rfl rfl (by decide +kernel)
set_option maxRecDepth 65536 in
theorem w_c7 : (Jvm.Cond.code ({ cls := "LoopUnroller", name := "setInput", desc := "(II)Z" } : Jvm.MethodName) prog_1_method_7_code (3 : Nat) (Option.some Jvm.ClassFile.FieldType.boolean)).before args0 about1 = true := code_word (m := ⟨2, 3⟩) (meth := k2m3) (c := k2c3) (by decide +kernel) rfl rfl rfl (by decide +kernel)
set_option maxRecDepth 65536 in
theorem w_c8 : (Jvm.Cond.code ({ cls := "LoopUnroller", name := "isVar", desc := "(I)Z" } : Jvm.MethodName) prog_1_method_20_code (2 : Nat) (Option.some Jvm.ClassFile.FieldType.boolean)).before args0 about1 = true := code_word (m := ⟨2, 13⟩) (meth := k2m13) (c := k2c13) (by decide +kernel) rfl rfl rfl (by decide +kernel)
set_option maxRecDepth 65536 in
theorem w_c9 : (Jvm.Cond.code ({ cls := "LoopUnroller", name := "emit", desc := "(IIII)Z" } : Jvm.MethodName) prog_1_method_3_code (6 : Nat) (Option.some Jvm.ClassFile.FieldType.boolean)).before args0 about1 = true := code_word (m := ⟨2, 2⟩) (meth := k2m2) (c := k2c2) (by decide +kernel) rfl rfl rfl (by decide +kernel)
set_option maxRecDepth 65536 in
theorem w_c10 : (Jvm.Cond.code ({ cls := "LoopUnroller", name := "operandsValid", desc := "(IIII)Z" } : Jvm.MethodName) prog_1_method_26_code (5 : Nat) (Option.some Jvm.ClassFile.FieldType.boolean)).before args0 about1 = true := code_word (m := ⟨2, 19⟩) (meth := k2m19) (c := k2c19) (by decide +kernel) rfl rfl rfl (by decide +kernel)
set_option maxRecDepth 65536 in
theorem w_c11 : (Jvm.Cond.code ({ cls := "LoopUnroller", name := "usesA", desc := "(I)Z" } : Jvm.MethodName) prog_1_method_21_code (2 : Nat) (Option.some Jvm.ClassFile.FieldType.boolean)).before args0 about1 = true := code_word (m := ⟨2, 14⟩) (meth := k2m14) (c := k2c14) (by decide +kernel) rfl rfl rfl (by decide +kernel)
set_option maxRecDepth 65536 in
theorem w_c12 : (Jvm.Cond.code ({ cls := "LoopUnroller", name := "usesB", desc := "(I)Z" } : Jvm.MethodName) prog_1_method_22_code (2 : Nat) (Option.some Jvm.ClassFile.FieldType.boolean)).before args0 about1 = true := code_word (m := ⟨2, 15⟩) (meth := k2m15) (c := k2c15) (by decide +kernel) rfl rfl rfl (by decide +kernel)
set_option maxRecDepth 65536 in
theorem w_c13 : (Jvm.Cond.code ({ cls := "LoopUnroller", name := "cIsVar", desc := "(I)Z" } : Jvm.MethodName) prog_1_method_24_code (2 : Nat) (Option.some Jvm.ClassFile.FieldType.boolean)).before args0 about1 = true := code_word (m := ⟨2, 17⟩) (meth := k2m17) (c := k2c17) (by decide +kernel) rfl rfl rfl (by decide +kernel)
set_option maxRecDepth 65536 in
theorem w_c14 : (Jvm.Cond.code ({ cls := "LoopUnroller", name := "structureAllows", desc := "(I)Z" } : Jvm.MethodName) prog_1_method_27_code (3 : Nat) (Option.some Jvm.ClassFile.FieldType.boolean)).before args0 about1 = true := code_word (m := ⟨2, 20⟩) (meth := k2m20) (c := k2c20) (by decide +kernel) rfl rfl rfl (by decide +kernel)
set_option maxRecDepth 65536 in
theorem w_c15 : (Jvm.Cond.code ({ cls := "LoopUnroller", name := "usesC", desc := "(I)Z" } : Jvm.MethodName) prog_1_method_23_code (2 : Nat) (Option.some Jvm.ClassFile.FieldType.boolean)).before args0 about1 = true := code_word (m := ⟨2, 16⟩) (meth := k2m16) (c := k2c16) (by decide +kernel) rfl rfl rfl (by decide +kernel)
set_option maxRecDepth 65536 in
theorem w_c16 : (Jvm.Cond.code ({ cls := "LoopUnroller", name := "updateOpen", desc := "(II)V" } : Jvm.MethodName) prog_1_method_28_code (4 : Nat) (Option.none : Option Jvm.ClassFile.FieldType)).before args0 about1 = true := code_word (m := ⟨2, 21⟩) (meth := k2m21) (c := k2c21) (by decide +kernel) rfl rfl rfl (by decide +kernel)
set_option maxRecDepth 65536 in
theorem w_c17 : (Jvm.Cond.code ({ cls := "LoopUnroller", name := "closeIf", desc := "(II)V" } : Jvm.MethodName) prog_1_method_29_code (3 : Nat) (Option.none : Option Jvm.ClassFile.FieldType)).before args0 about1 = true := code_word (m := ⟨2, 22⟩) (meth := k2m22) (c := k2c22) (by decide +kernel) rfl rfl rfl (by decide +kernel)
set_option maxRecDepth 65536 in
theorem w_c18 : (Jvm.Cond.code ({ cls := "LoopUnroller", name := "transform", desc := "(I)Z" } : Jvm.MethodName) prog_1_method_10_code (3 : Nat) (Option.some Jvm.ClassFile.FieldType.boolean)).before args0 about1 = true := code_word (m := ⟨2, 4⟩) (meth := k2m4) (c := k2c4) (by decide +kernel) rfl rfl rfl (by decide +kernel)
set_option maxRecDepth 65536 in
theorem w_c19 : (Jvm.Cond.code ({ cls := "LoopUnroller", name := "run", desc := "(I)I" } : Jvm.MethodName) prog_1_method_12_code (3 : Nat) (Option.some Jvm.ClassFile.FieldType.int)).before args0 about1 = true := code_word (m := ⟨2, 5⟩) (meth := k2m5) (c := k2c5) (by decide +kernel) rfl rfl rfl (by decide +kernel)
set_option maxRecDepth 65536 in
theorem w_c20 : (Jvm.Cond.code ({ cls := "LoopUnroller", name := "prepare", desc := "(Z)V" } : Jvm.MethodName) prog_1_method_32_code (4 : Nat) (Option.none : Option Jvm.ClassFile.FieldType)).before args0 about1 = true := code_word (m := ⟨2, 25⟩) (meth := k2m25) (c := k2c25) (by decide +kernel) rfl rfl rfl (by decide +kernel)
set_option maxRecDepth 65536 in
theorem w_c21 : (Jvm.Cond.code ({ cls := "LoopUnroller", name := "isInvariantIf", desc := "(I)Z" } : Jvm.MethodName) prog_1_method_31_code (6 : Nat) (Option.some Jvm.ClassFile.FieldType.boolean)).before args0 about1 = true := code_word (m := ⟨2, 24⟩) (meth := k2m24) (c := k2c24) (by decide +kernel) rfl rfl rfl (by decide +kernel)
set_option maxRecDepth 65536 in
theorem w_c22 : (Jvm.Cond.code ({ cls := "LoopUnroller", name := "innermostLoop", desc := "(I)I" } : Jvm.MethodName) prog_1_method_30_code (3 : Nat) (Option.some Jvm.ClassFile.FieldType.int)).before args0 about1 = true := code_word (m := ⟨2, 23⟩) (meth := k2m23) (c := k2c23) (by decide +kernel) rfl rfl rfl (by decide +kernel)
set_option maxRecDepth 65536 in
theorem w_c23 : (Jvm.Cond.code ({ cls := "LoopUnroller", name := "hasDestination", desc := "(I)Z" } : Jvm.MethodName) prog_1_method_25_code (2 : Nat) (Option.some Jvm.ClassFile.FieldType.boolean)).before args0 about1 = true := code_word (m := ⟨2, 18⟩) (meth := k2m18) (c := k2c18) (by decide +kernel) rfl rfl rfl (by decide +kernel)
set_option maxRecDepth 65536 in
theorem w_c24 : (Jvm.Cond.code ({ cls := "LoopUnroller", name := "execute", desc := "()V" } : Jvm.MethodName) prog_1_method_33_code (3 : Nat) (Option.none : Option Jvm.ClassFile.FieldType)).before args0 about1 = true := code_word (m := ⟨2, 26⟩) (meth := k2m26) (c := k2c26) (by decide +kernel) rfl rfl rfl (by decide +kernel)
set_option maxRecDepth 65536 in
theorem w_c25 : (Jvm.Cond.code ({ cls := "LoopUnroller", name := "executeAt", desc := "(I)V" } : Jvm.MethodName) prog_1_method_34_code (4 : Nat) (Option.none : Option Jvm.ClassFile.FieldType)).before args0 about1 = true := code_word (m := ⟨2, 27⟩) (meth := k2m27) (c := k2c27) (by decide +kernel) rfl rfl rfl (by decide +kernel)
set_option maxRecDepth 65536 in
theorem w_c26 : (Jvm.Cond.code ({ cls := "LoopUnroller", name := "enterLoop", desc := "(I)V" } : Jvm.MethodName) prog_1_method_38_code (7 : Nat) (Option.none : Option Jvm.ClassFile.FieldType)).before args0 about1 = true := code_word (m := ⟨2, 31⟩) (meth := k2m31) (c := k2c31) (by decide +kernel) rfl rfl rfl (by decide +kernel)
set_option maxRecDepth 65536 in
theorem w_c27 : (Jvm.Cond.code ({ cls := "LoopUnroller", name := "tripCount", desc := "(III)J" } : Jvm.MethodName) prog_1_method_37_code (12 : Nat) (Option.some Jvm.ClassFile.FieldType.long)).before args0 about1 = true := code_word (m := ⟨2, 30⟩) (meth := k2m30) (c := k2c30) (by decide +kernel) rfl rfl rfl (by decide +kernel)
set_option maxRecDepth 65536 in
theorem w_c28 : (Jvm.Cond.code ({ cls := "LoopUnroller", name := "decideGuards", desc := "(I)V" } : Jvm.MethodName) prog_1_method_39_code (4 : Nat) (Option.none : Option Jvm.ClassFile.FieldType)).before args0 about1 = true := code_word (m := ⟨2, 32⟩) (meth := k2m32) (c := k2c32) (by decide +kernel) rfl rfl rfl (by decide +kernel)
set_option maxRecDepth 65536 in
theorem w_c29 : (Jvm.Cond.code ({ cls := "LoopUnroller", name := "branch", desc := "(I)V" } : Jvm.MethodName) prog_1_method_41_code (3 : Nat) (Option.none : Option Jvm.ClassFile.FieldType)).before args0 about1 = true := code_word (m := ⟨2, 34⟩) (meth := k2m34) (c := k2c34) (by decide +kernel) rfl rfl rfl (by decide +kernel)
set_option maxRecDepth 65536 in
theorem w_c30 : (Jvm.Cond.code ({ cls := "LoopUnroller", name := "arith", desc := "(I)I" } : Jvm.MethodName) prog_1_method_35_code (5 : Nat) (Option.some Jvm.ClassFile.FieldType.int)).before args0 about1 = true := code_word (m := ⟨2, 28⟩) (meth := k2m28) (c := k2c28) (by decide +kernel) rfl rfl rfl (by decide +kernel)
set_option maxRecDepth 65536 in
theorem w_c31 : (Jvm.Cond.code ({ cls := "LoopUnroller", name := "appendOutput", desc := "(I)V" } : Jvm.MethodName) prog_1_method_36_code (2 : Nat) (Option.none : Option Jvm.ClassFile.FieldType)).before args0 about1 = true := code_word (m := ⟨2, 29⟩) (meth := k2m29) (c := k2c29) (by decide +kernel) rfl rfl rfl (by decide +kernel)
set_option maxRecDepth 65536 in
theorem w_c32 : (Jvm.Cond.code ({ cls := "LoopUnroller", name := "endIteration", desc := "(I)V" } : Jvm.MethodName) prog_1_method_40_code (9 : Nat) (Option.none : Option Jvm.ClassFile.FieldType)).before args0 about1 = true := code_word (m := ⟨2, 33⟩) (meth := k2m33) (c := k2c33) (by decide +kernel) rfl rfl rfl (by decide +kernel)
set_option maxRecDepth 65536 in
theorem w_c33 : (Jvm.Cond.code ({ cls := "LoopUnroller", name := "lastStatus", desc := "()I" } : Jvm.MethodName) prog_1_method_13_code (1 : Nat) (Option.some Jvm.ClassFile.FieldType.int)).before args0 about1 = true := code_word (m := ⟨2, 6⟩) (meth := k2m6) (c := k2c6) (by decide +kernel) rfl rfl rfl (by decide +kernel)
set_option maxRecDepth 65536 in
theorem w_c34 : (Jvm.Cond.code ({ cls := "LoopUnroller", name := "outputCount", desc := "()I" } : Jvm.MethodName) prog_1_method_14_code (1 : Nat) (Option.some Jvm.ClassFile.FieldType.int)).before args0 about1 = true := code_word (m := ⟨2, 7⟩) (meth := k2m7) (c := k2c7) (by decide +kernel) rfl rfl rfl (by decide +kernel)
set_option maxRecDepth 65536 in
theorem w_c35 : (Jvm.Cond.code ({ cls := "LoopUnroller", name := "output", desc := "(I)I" } : Jvm.MethodName) prog_1_method_15_code (2 : Nat) (Option.some Jvm.ClassFile.FieldType.int)).before args0 about1 = true := code_word (m := ⟨2, 8⟩) (meth := k2m8) (c := k2c8) (by decide +kernel) rfl rfl rfl (by decide +kernel)
set_option maxRecDepth 65536 in
theorem w_c36 : (Jvm.Cond.code ({ cls := "LoopUnrollerL3", name := "due", desc := "(JJZII)I" } : Jvm.MethodName) method_2_code (7 : Nat) (Option.some Jvm.ClassFile.FieldType.int)).before args0 about1 = true := code_word (m := ⟨1, 1⟩) (meth := k1m1) (c := k1c1) (by decide +kernel) rfl rfl rfl (by decide +kernel)
set_option maxRecDepth 65536 in
theorem w_c37 : (Jvm.Cond.code ({ cls := "LoopUnroller", name := "finalVar", desc := "(I)I" } : Jvm.MethodName) prog_1_method_16_code (2 : Nat) (Option.some Jvm.ClassFile.FieldType.int)).before args0 about1 = true := code_word (m := ⟨2, 9⟩) (meth := k2m9) (c := k2c9) (by decide +kernel) rfl rfl rfl (by decide +kernel)
def codes1 : List Jvm.Cond := [Jvm.Cond.code x code maxLocals ret, Jvm.Cond.code ({ cls := "LoopUnroller", name := "<init>", desc := "()V" } : Jvm.MethodName) prog_1_method_1_code (1 : Nat) (Option.none : Option Jvm.ClassFile.FieldType), Jvm.Cond.code ({ cls := "java/lang/Object", name := "<init>", desc := "()V" } : Jvm.MethodName) object_method_1_code (1 : Nat) (Option.none : Option Jvm.ClassFile.FieldType), Jvm.Cond.code ({ cls := "LoopUnroller", name := "reset", desc := "()V" } : Jvm.MethodName) prog_1_method_2_code (2 : Nat) (Option.none : Option Jvm.ClassFile.FieldType), Jvm.Cond.code ({ cls := "LoopUnroller", name := "clearProgram", desc := "()V" } : Jvm.MethodName) prog_1_method_17_code (2 : Nat) (Option.none : Option Jvm.ClassFile.FieldType), Jvm.Cond.code ({ cls := "LoopUnroller", name := "clearOpen", desc := "()V" } : Jvm.MethodName) prog_1_method_18_code (2 : Nat) (Option.none : Option Jvm.ClassFile.FieldType), Jvm.Cond.code ({ cls := "LoopUnroller", name := "clearResults", desc := "()V" } : Jvm.MethodName) prog_1_method_19_code (2 : Nat) (Option.none : Option Jvm.ClassFile.FieldType), Jvm.Cond.code ({ cls := "LoopUnroller", name := "setInput", desc := "(II)Z" } : Jvm.MethodName) prog_1_method_7_code (3 : Nat) (Option.some Jvm.ClassFile.FieldType.boolean), Jvm.Cond.code ({ cls := "LoopUnroller", name := "isVar", desc := "(I)Z" } : Jvm.MethodName) prog_1_method_20_code (2 : Nat) (Option.some Jvm.ClassFile.FieldType.boolean), Jvm.Cond.code ({ cls := "LoopUnroller", name := "emit", desc := "(IIII)Z" } : Jvm.MethodName) prog_1_method_3_code (6 : Nat) (Option.some Jvm.ClassFile.FieldType.boolean), Jvm.Cond.code ({ cls := "LoopUnroller", name := "operandsValid", desc := "(IIII)Z" } : Jvm.MethodName) prog_1_method_26_code (5 : Nat) (Option.some Jvm.ClassFile.FieldType.boolean), Jvm.Cond.code ({ cls := "LoopUnroller", name := "usesA", desc := "(I)Z" } : Jvm.MethodName) prog_1_method_21_code (2 : Nat) (Option.some Jvm.ClassFile.FieldType.boolean), Jvm.Cond.code ({ cls := "LoopUnroller", name := "usesB", desc := "(I)Z" } : Jvm.MethodName) prog_1_method_22_code (2 : Nat) (Option.some Jvm.ClassFile.FieldType.boolean), Jvm.Cond.code ({ cls := "LoopUnroller", name := "cIsVar", desc := "(I)Z" } : Jvm.MethodName) prog_1_method_24_code (2 : Nat) (Option.some Jvm.ClassFile.FieldType.boolean), Jvm.Cond.code ({ cls := "LoopUnroller", name := "structureAllows", desc := "(I)Z" } : Jvm.MethodName) prog_1_method_27_code (3 : Nat) (Option.some Jvm.ClassFile.FieldType.boolean), Jvm.Cond.code ({ cls := "LoopUnroller", name := "usesC", desc := "(I)Z" } : Jvm.MethodName) prog_1_method_23_code (2 : Nat) (Option.some Jvm.ClassFile.FieldType.boolean), Jvm.Cond.code ({ cls := "LoopUnroller", name := "updateOpen", desc := "(II)V" } : Jvm.MethodName) prog_1_method_28_code (4 : Nat) (Option.none : Option Jvm.ClassFile.FieldType), Jvm.Cond.code ({ cls := "LoopUnroller", name := "closeIf", desc := "(II)V" } : Jvm.MethodName) prog_1_method_29_code (3 : Nat) (Option.none : Option Jvm.ClassFile.FieldType), Jvm.Cond.code ({ cls := "LoopUnroller", name := "transform", desc := "(I)Z" } : Jvm.MethodName) prog_1_method_10_code (3 : Nat) (Option.some Jvm.ClassFile.FieldType.boolean), Jvm.Cond.code ({ cls := "LoopUnroller", name := "run", desc := "(I)I" } : Jvm.MethodName) prog_1_method_12_code (3 : Nat) (Option.some Jvm.ClassFile.FieldType.int), Jvm.Cond.code ({ cls := "LoopUnroller", name := "prepare", desc := "(Z)V" } : Jvm.MethodName) prog_1_method_32_code (4 : Nat) (Option.none : Option Jvm.ClassFile.FieldType), Jvm.Cond.code ({ cls := "LoopUnroller", name := "isInvariantIf", desc := "(I)Z" } : Jvm.MethodName) prog_1_method_31_code (6 : Nat) (Option.some Jvm.ClassFile.FieldType.boolean), Jvm.Cond.code ({ cls := "LoopUnroller", name := "innermostLoop", desc := "(I)I" } : Jvm.MethodName) prog_1_method_30_code (3 : Nat) (Option.some Jvm.ClassFile.FieldType.int), Jvm.Cond.code ({ cls := "LoopUnroller", name := "hasDestination", desc := "(I)Z" } : Jvm.MethodName) prog_1_method_25_code (2 : Nat) (Option.some Jvm.ClassFile.FieldType.boolean), Jvm.Cond.code ({ cls := "LoopUnroller", name := "execute", desc := "()V" } : Jvm.MethodName) prog_1_method_33_code (3 : Nat) (Option.none : Option Jvm.ClassFile.FieldType), Jvm.Cond.code ({ cls := "LoopUnroller", name := "executeAt", desc := "(I)V" } : Jvm.MethodName) prog_1_method_34_code (4 : Nat) (Option.none : Option Jvm.ClassFile.FieldType), Jvm.Cond.code ({ cls := "LoopUnroller", name := "enterLoop", desc := "(I)V" } : Jvm.MethodName) prog_1_method_38_code (7 : Nat) (Option.none : Option Jvm.ClassFile.FieldType), Jvm.Cond.code ({ cls := "LoopUnroller", name := "tripCount", desc := "(III)J" } : Jvm.MethodName) prog_1_method_37_code (12 : Nat) (Option.some Jvm.ClassFile.FieldType.long), Jvm.Cond.code ({ cls := "LoopUnroller", name := "decideGuards", desc := "(I)V" } : Jvm.MethodName) prog_1_method_39_code (4 : Nat) (Option.none : Option Jvm.ClassFile.FieldType), Jvm.Cond.code ({ cls := "LoopUnroller", name := "branch", desc := "(I)V" } : Jvm.MethodName) prog_1_method_41_code (3 : Nat) (Option.none : Option Jvm.ClassFile.FieldType), Jvm.Cond.code ({ cls := "LoopUnroller", name := "arith", desc := "(I)I" } : Jvm.MethodName) prog_1_method_35_code (5 : Nat) (Option.some Jvm.ClassFile.FieldType.int), Jvm.Cond.code ({ cls := "LoopUnroller", name := "appendOutput", desc := "(I)V" } : Jvm.MethodName) prog_1_method_36_code (2 : Nat) (Option.none : Option Jvm.ClassFile.FieldType), Jvm.Cond.code ({ cls := "LoopUnroller", name := "endIteration", desc := "(I)V" } : Jvm.MethodName) prog_1_method_40_code (9 : Nat) (Option.none : Option Jvm.ClassFile.FieldType), Jvm.Cond.code ({ cls := "LoopUnroller", name := "lastStatus", desc := "()I" } : Jvm.MethodName) prog_1_method_13_code (1 : Nat) (Option.some Jvm.ClassFile.FieldType.int), Jvm.Cond.code ({ cls := "LoopUnroller", name := "outputCount", desc := "()I" } : Jvm.MethodName) prog_1_method_14_code (1 : Nat) (Option.some Jvm.ClassFile.FieldType.int), Jvm.Cond.code ({ cls := "LoopUnroller", name := "output", desc := "(I)I" } : Jvm.MethodName) prog_1_method_15_code (2 : Nat) (Option.some Jvm.ClassFile.FieldType.int), Jvm.Cond.code ({ cls := "LoopUnrollerL3", name := "due", desc := "(JJZII)I" } : Jvm.MethodName) method_2_code (7 : Nat) (Option.some Jvm.ClassFile.FieldType.int), Jvm.Cond.code ({ cls := "LoopUnroller", name := "finalVar", desc := "(I)I" } : Jvm.MethodName) prog_1_method_16_code (2 : Nat) (Option.some Jvm.ClassFile.FieldType.int)]
set_option maxRecDepth 65536 in
theorem codes_eq : words1.filter isCode = codes1 := rfl
theorem w_codes : ∀ c ∈ words1.filter isCode, c.before args0 about1 = true := by
  rw [codes_eq]
  intro c hc
  simp only [codes1, List.mem_cons, List.not_mem_nil, or_false] at hc
  rcases hc with rfl | rfl | rfl | rfl | rfl | rfl | rfl | rfl | rfl | rfl | rfl | rfl | rfl | rfl | rfl | rfl | rfl | rfl | rfl | rfl | rfl | rfl | rfl | rfl | rfl | rfl | rfl | rfl | rfl | rfl | rfl | rfl | rfl | rfl | rfl | rfl | rfl | rfl
  · exact w_c0
  · exact w_c1
  · exact w_c2
  · exact w_c3
  · exact w_c4
  · exact w_c5
  · exact w_c6
  · exact w_c7
  · exact w_c8
  · exact w_c9
  · exact w_c10
  · exact w_c11
  · exact w_c12
  · exact w_c13
  · exact w_c14
  · exact w_c15
  · exact w_c16
  · exact w_c17
  · exact w_c18
  · exact w_c19
  · exact w_c20
  · exact w_c21
  · exact w_c22
  · exact w_c23
  · exact w_c24
  · exact w_c25
  · exact w_c26
  · exact w_c27
  · exact w_c28
  · exact w_c29
  · exact w_c30
  · exact w_c31
  · exact w_c32
  · exact w_c33
  · exact w_c34
  · exact w_c35
  · exact w_c36
  · exact w_c37
set_option maxRecDepth 65536 in
theorem w_t1 : (words1.take 24).all (fun c => isCode c || c.before args0 about1) = true := by decide +kernel
set_option maxRecDepth 65536 in
theorem w_t2 : ((words1.drop 24).take 24).all (fun c => isCode c || c.before args0 about1) = true := by decide +kernel
set_option maxRecDepth 65536 in
theorem w_t3 : (((words1.drop 24).drop 24).take 24).all (fun c => isCode c || c.before args0 about1) = true := by decide +kernel
set_option maxRecDepth 65536 in
theorem w_t4 : ((((words1.drop 24).drop 24).drop 24).take 24).all (fun c => isCode c || c.before args0 about1) = true := by decide +kernel
set_option maxRecDepth 65536 in
theorem w_t5 : (((((words1.drop 24).drop 24).drop 24).drop 24).take 24).all (fun c => isCode c || c.before args0 about1) = true := by decide +kernel
set_option maxRecDepth 65536 in
theorem w_t6 : ((((((words1.drop 24).drop 24).drop 24).drop 24).drop 24).take 24).all (fun c => isCode c || c.before args0 about1) = true := by decide +kernel
set_option maxRecDepth 65536 in
theorem w_t7 : (((((((words1.drop 24).drop 24).drop 24).drop 24).drop 24).drop 24).take 24).all (fun c => isCode c || c.before args0 about1) = true := by decide +kernel
set_option maxRecDepth 65536 in
theorem w_t8 : ((((((((words1.drop 24).drop 24).drop 24).drop 24).drop 24).drop 24).drop 24).take 24).all (fun c => isCode c || c.before args0 about1) = true := by decide +kernel
set_option maxRecDepth 65536 in
theorem w_t9 : (((((((((words1.drop 24).drop 24).drop 24).drop 24).drop 24).drop 24).drop 24).drop 24).take 24).all (fun c => isCode c || c.before args0 about1) = true := by decide +kernel
set_option maxRecDepth 65536 in
theorem w_t10 : (((((((((words1.drop 24).drop 24).drop 24).drop 24).drop 24).drop 24).drop 24).drop 24).drop 24).all (fun c => isCode c || c.before args0 about1) = true := by decide +kernel
theorem w_tables : (allAtoms (Jvm.Cond.code x code maxLocals ret :: tables_1)).before args0 about1 = true := by
  rw [allAtoms_all]
  show words1.all (fun c => c.before args0 about1) = true
  refine all_split ?_ w_codes
  rw [← List.take_append_drop 24 words1, List.all_append, w_t1, ← List.take_append_drop 24 (words1.drop 24), List.all_append, w_t2, ← List.take_append_drop 24 ((words1.drop 24).drop 24), List.all_append, w_t3, ← List.take_append_drop 24 (((words1.drop 24).drop 24).drop 24), List.all_append, w_t4, ← List.take_append_drop 24 ((((words1.drop 24).drop 24).drop 24).drop 24), List.all_append, w_t5, ← List.take_append_drop 24 (((((words1.drop 24).drop 24).drop 24).drop 24).drop 24), List.all_append, w_t6, ← List.take_append_drop 24 ((((((words1.drop 24).drop 24).drop 24).drop 24).drop 24).drop 24), List.all_append, w_t7, ← List.take_append_drop 24 (((((((words1.drop 24).drop 24).drop 24).drop 24).drop 24).drop 24).drop 24), List.all_append, w_t8, ← List.take_append_drop 24 ((((((((words1.drop 24).drop 24).drop 24).drop 24).drop 24).drop 24).drop 24).drop 24), List.all_append, w_t9, w_t10]
  rfl
set_option maxRecDepth 65536 in
theorem w_case : (Jvm.Cond.and given_1 narrow_1).before args0 about1 = true := by decide +kernel
theorem w_applies : (headSpec (Jvm.Cond.code x code maxLocals ret :: tables_1) room_1).applies x e0.platform about1 = true :=
  (Spec.applies_iff w_frames).mpr ⟨w_running, w_runnable, w_alone, w_named, w_hears, w_ripe, w_room, w_tables⟩
theorem atStart : AtStart classFile x code maxLocals ret World_1 tables_1 room_1 Calls_1 rest_1 Pre_1 launch0 p0 e0 about1 theMethod args0 below0 :=
  ⟨lists_1, trivial, launch0.admits_env _ _ _, launch0.least_env, fairChoices_fair.cas, fairChoices_fair.clock, w_frames, w_args, w_heap, w_applies, trivial, trivial, w_case⟩
end start1
theorem witness_1 : WitnessClaimed_1 := ⟨start1.p0, start1.e0, start1.about1, start1.theMethod, start1.args0, start1.below0, start1.atStart⟩
end Jvm.Pilot.@@N@@
