import JvmDerived
import JvmDerived.Pilot.@@N@@Statement
import JvmDerived.Pilot.@@N@@Code
set_option linter.unusedVariables false
set_option linter.unusedSimpArgs false
namespace Jvm.Own
open Sem ClassFile Op Lib Jvm.Stand Jvm.Free Jvm.LawKit Jvm.RoadKit
/-! ## 1. Small heaps: a list of cells: an object of the one class (its fields in order), or an array (of booleans, of ints) -/
abbrev MCell := List Value ⊕ (Bool × List Int32)
abbrev MHeap := List MCell
abbrev Fd := String × String × FieldType
/-- start, its arguments, launch, the script's place, the heap's first length, the class, its fields, its slots -/
abbrev Ctx := State × Array Value × Launch × Option Nat × Nat × String × List Fd × Nat
abbrev gZ (G : Ctx) : State := G.1
abbrev gA (G : Ctx) : Array Value := G.2.1
abbrev gL (G : Ctx) : Launch := G.2.2.1
abbrev gS (G : Ctx) : Option Nat := G.2.2.2.1
abbrev gN (G : Ctx) : Nat := G.2.2.2.2.1
abbrev gC (G : Ctx) : String := G.2.2.2.2.2.1
abbrev gF (G : Ctx) : List Fd := G.2.2.2.2.2.2.1
abbrev gK (G : Ctx) : Nat := G.2.2.2.2.2.2.2
/-- a method: name, bytes, locals, result, frames and words that it needs -/
abbrev Mi := MethodName × ByteArray × Nat × Option FieldType × Nat × Nat
abbrev mN (M : Mi) : MethodName := M.1
abbrev mB (M : Mi) : ByteArray := M.2.1
abbrev mL (M : Mi) : Nat := M.2.2.1
abbrev mR (M : Mi) : Option FieldType := M.2.2.2.1
abbrev mF (M : Mi) : Nat := M.2.2.2.2.1
abbrev mW (M : Mi) : Nat := M.2.2.2.2.2
def rhoA (sa : Option Nat) (n0 i : Nat) : Nat := match sa with
  | none => n0 + i
  | some a => match i with
    | 0 => a
    | j + 1 => n0 + j
def k0A (sa : Option Nat) : Nat := match sa with
  | none => 0
  | some _ => 1
def rho (G : Ctx) (i : Nat) : Nat := rhoA (gS G) (gN G) i
def k0 (G : Ctx) : Nat := k0A (gS G)
def tr (G : Ctx) : Value → Value
  | .ref i => .ref (rho G i)
  | v => v
def trS (G : Ctx) : Slot → Slot
  | .val v => .val (tr G v)
  | s => s
theorem tr_cat (G : Ctx) (v : Value) : (tr G v).category = v.category := by cases v <;> rfl
theorem tr_cats (G : Ctx) (S : List Value) : ((S.map (tr G)).map fun v => v.category).sum = (S.map fun v => v.category).sum := by
  rw [List.map_map]
  congr 1
  exact List.map_congr_left fun v _ => tr_cat G v
def kd : Bool → FieldType
  | true => .boolean
  | false => .int
def CellAt (G : Ctx) (hr : Heap) (a : Nat) : MCell → Prop
  | .inl fs => Exa (gZ G) hr a (gC G) ∧ fs.length = (gF G).length ∧ ∀ (j : Nat) (n d : String) (ty : FieldType) (v : Value), (gF G)[j]? = some (n, d, ty) → fs[j]? = some v → Fld (gZ G) hr a (gC G) n d (tr G v)
  | .inr bx => ∃ c : Cell, Arr (gZ G) hr a c (kd bx.1) ∧ c.slots = (bx.2.map Value.int).toArray
def Rel (G : Ctx) (hr : Heap) (h : MHeap) : Prop :=
  hr.size + k0 G = gN G + h.length ∧ k0 G ≤ h.length ∧ (∀ a, gS G = some a → a < gN G) ∧ ∀ i c, h[i]? = some c → CellAt G hr (rho G i) c
/-- what the sheet says of the class -/
def GOk (G : Ctx) : Prop :=
  (∀ (j : Nat) (n d : String) (ty : FieldType), (gF G)[j]? = some (n, d, ty) → Laid (gZ G) (gA G) (gC G) (gC G) n d ∧ parseFieldDescriptor d = some ty) ∧
  (∀ (j j' : Nat) (f f' : Fd), (gF G)[j]? = some f → (gF G)[j']? = some f' → j ≠ j' → f.1 ≠ f'.1) ∧
  (Cond.instantiable (gC G) (gK G)).before (gA G) (gZ G) = true ∧ (Cond.initialized (gC G)).before (gA G) (gZ G) = true
theorem rhoA_inj {sa : Option Nat} {n0 i j : Nat} (h : ∀ a, sa = some a → a < n0) (e : rhoA sa n0 i = rhoA sa n0 j) : i = j := by
  cases sa with
  | none => simp only [rhoA] at e; omega
  | some a =>
    have := h a rfl
    cases i <;> cases j <;> simp only [rhoA] at e <;> omega
theorem rho_inj {G : Ctx} {i j : Nat} (h : ∀ a, gS G = some a → a < gN G) (e : rho G i = rho G j) : i = j := rhoA_inj h e
theorem rhoA_new {sa : Option Nat} {n0 i : Nat} (h : k0A sa ≤ i) : rhoA sa n0 i = n0 + (i - k0A sa) := by
  cases sa with
  | none => simp only [rhoA, k0A]; omega
  | some a =>
    cases i with
    | zero => simp only [k0A] at h; omega
    | succ j => simp only [rhoA, k0A]; omega
theorem rho_new {G : Ctx} {i : Nat} (h : k0 G ≤ i) : rho G i = gN G + (i - k0 G) := rhoA_new h
theorem rho_ge {G : Ctx} {i : Nat} (h : k0 G ≤ i) : gN G ≤ rho G i := by rw [rho_new h]; omega
theorem CellAt.other {G : Ctx} {hr hr' : Heap} {a b : Nat} {sl : Nat} {v : Value} (W : Wr hr hr' a sl v) (hne : b ≠ a) : ∀ {c : MCell}, CellAt G hr b c → CellAt G hr' b c
  | .inl _, ⟨h1, h2, h3⟩ => ⟨h1.wr W, h2, fun j n d ty v hf hv => Fld.other W (h3 j n d ty v hf hv) (Or.inl hne)⟩
  | .inr _, ⟨c, h1, h2⟩ => ⟨c, h1.other W hne, h2⟩
theorem CellAt.ext {G : Ctx} {hr hr' : Heap} {b : Nat} (E : Ext hr hr') : ∀ {c : MCell}, CellAt G hr b c → CellAt G hr' b c
  | .inl _, ⟨h1, h2, h3⟩ => ⟨h1.ext E, h2, fun j n d ty v hf hv => Fld.ext E (h3 j n d ty v hf hv)⟩
  | .inr _, ⟨c, h1, h2⟩ => ⟨c, h1.ext E, h2⟩
theorem Rel.push {G : Ctx} {hr hr' : Heap} {h : MHeap} {c : MCell} (R : Rel G hr h) (E : Ext hr hr') (hs : hr'.size = hr.size + 1) (hc : CellAt G hr' hr.size c) : Rel G hr' (h ++ [c]) := by
  obtain ⟨h1, h2, h3, h4⟩ := R
  refine ⟨by rw [List.length_append, List.length_singleton]; omega, by rw [List.length_append]; omega, h3, fun i c' hi => ?_⟩
  rcases Nat.lt_or_ge i h.length with q | q
  · rw [List.getElem?_append_left q] at hi
    exact (h4 i c' hi).ext E
  · have hi2 := hi
    rw [List.getElem?_append_right q] at hi2
    have : i - h.length = 0 := by
      rcases Nat.eq_zero_or_pos (i - h.length) with z | z
      · exact z
      · rw [List.getElem?_eq_none (by simp; omega)] at hi2; cases hi2
    have e : i = h.length := by omega
    subst e
    rw [Nat.sub_self] at hi2
    cases hi2
    have : rho G h.length = hr.size := by rw [rho_new h2]; omega
    rw [this]; exact hc
theorem Rel.wrArr {G : Ctx} {hr hr' : Heap} {h : MHeap} {i j : Nat} {b : Bool} {xs : List Int32} {x : Int32} (R : Rel G hr h) (hi : h[i]? = some (.inr (b, xs))) (W : Wr hr hr' (rho G i) j (.int x)) : Rel G hr' (h.set i (.inr (b, xs.set j x))) := by
  obtain ⟨h1, h2, h3, h4⟩ := R
  refine ⟨by rw [W.size, List.length_set]; exact h1, by rw [List.length_set]; exact h2, h3, fun k c' hk => ?_⟩
  by_cases e : i = k
  · subst e
    rw [List.getElem?_set_self (List.getElem?_eq_some_iff.mp hi).1] at hk
    cases hk
    obtain ⟨c, A, hs⟩ := h4 i _ hi
    refine ⟨c.setSlot j (.int x), A.same W, ?_⟩
    show c.slots.setIfInBounds j (.int x) = _
    rw [hs]
    simp [List.map_set]
  · rw [List.getElem?_set_ne e] at hk
    exact (h4 k c' hk).other W fun q => e (rho_inj h3 q).symm
theorem Rel.wrFld {G : Ctx} {hr hr' : Heap} {h : MHeap} {i j : Nat} {fs : List Value} {n d : String} {ty : FieldType} {v : Value} (R : Rel G hr h) (K : GOk G) (hi : h[i]? = some (.inl fs)) (hF : (gF G)[j]? = some (n, d, ty)) (W : Wr hr hr' (rho G i) (Jvm.RoadKit.slotOf (gZ G) (gC G) n d) (tr G v)) : Rel G hr' (h.set i (.inl (fs.set j v))) := by
  obtain ⟨h1, h2, h3, h4⟩ := R
  refine ⟨by rw [W.size, List.length_set]; exact h1, by rw [List.length_set]; exact h2, h3, fun k c' hk => ?_⟩
  by_cases e : i = k
  · subst e
    rw [List.getElem?_set_self (List.getElem?_eq_some_iff.mp hi).1] at hk
    cases hk
    obtain ⟨e1, e2, e3⟩ := h4 i _ hi
    refine ⟨e1.wr W, by rw [List.length_set]; exact e2, fun j' n' d' ty' v' hf' hv' => ?_⟩
    by_cases q : j = j'
    · subst q
      cases hF.symm.trans hf'
      have hlt : j < fs.length := by rw [e2]; exact (List.getElem?_eq_some_iff.mp hF).1
      rw [List.getElem?_set_self hlt] at hv'
      cases hv'
      obtain ⟨w, hw⟩ : ∃ w, fs[j]? = some w := ⟨_, List.getElem?_eq_getElem hlt⟩
      exact Fld.same W (e3 j n d ty w hF hw)
    · rw [List.getElem?_set_ne q] at hv'
      refine Fld.other W (e3 j' n' d' ty' v' hf' hv') (Or.inr ?_)
      exact slot_ne (K.1 j' n' d' ty' hf').1 (K.1 j n d ty hF).1 (K.2.1 j' j _ _ hf' hF (Ne.symm q)) (K.1 j' n' d' ty' hf').2 (K.1 j n d ty hF).2
  · rw [List.getElem?_set_ne e] at hk
    exact (h4 k c' hk).other W fun q => e (rho_inj h3 q).symm
def csl (k : Nat) : MCell → Nat
  | .inl _ => k
  | .inr bx => bx.2.length
def hsl (k : Nat) (h : MHeap) : Nat := (h.map (csl k)).sum
theorem hsl_push (k : Nat) (h : MHeap) (c : MCell) : hsl k (h ++ [c]) = hsl k h + csl k c := by simp [hsl]
theorem hsl_set (k : Nat) : ∀ (h : MHeap) (i : Nat) (c c' : MCell), h[i]? = some c → csl k c' = csl k c → hsl k (h.set i c') = hsl k h
  | [], _, _, _, h, _ => by simp at h
  | a :: t, 0, c, c', h, e => by simp at h; subst h; simp [hsl, e]
  | a :: t, i + 1, c, c', h, e => by
    have := hsl_set k t i c c' (by simpa using h) e
    simp only [hsl, List.set_cons_succ, List.map_cons, List.sum_cons] at this ⊢
    omega
/-! ## 2. Storing a local variable, on lists -/
def lsetAt (l : List Slot) (i : Nat) (x : Slot) : Option (List Slot) := if i < l.length then some (l.set i x) else none
def lstoreSelf (l : List Slot) (i : Nat) (v : Value) : Option (List Slot) :=
  match lsetAt l i (.val v) with
  | none => none
  | some l => if v.category = 2 then
      (match l[i + 1]? with
      | none => none
      | some (.val old) => if old.category = 2 then (match lsetAt l (i + 2) .unset with | none => none | some l2 => lsetAt l2 (i + 1) .second) else lsetAt l (i + 1) .second
      | some _ => lsetAt l (i + 1) .second)
    else some l
def mst (l : List Slot) (i : Nat) (v : Value) : Option (List Slot) :=
  match l[i]? with
  | none => none
  | some .second => (match lsetAt l (i - 1) .unset with | none => none | some l2 => lstoreSelf l2 i v)
  | some (.val old) => if old.category = 2 then (match lsetAt l (i + 1) .unset with | none => none | some l2 => lstoreSelf l2 i v) else lstoreSelf l i v
  | some .unset => lstoreSelf l i v
def arL (G : Ctx) (l : List Slot) : Array Slot := (l.map (trS G)).toArray
theorem setAt_map (G : Ctx) (l : List Slot) (i : Nat) (x : Slot) : setAt (arL G l) i (trS G x) = (lsetAt l i x).map (arL G) := by
  unfold setAt lsetAt arL
  by_cases h : i < l.length <;> simp [h, List.map_set]
theorem arL_get (G : Ctx) (l : List Slot) (i : Nat) : (arL G l)[i]? = (l[i]?).map (trS G) := by simp [arL]
theorem storeSelf_map (G : Ctx) (l : List Slot) (i : Nat) (v : Value) : storeSelf (arL G l) i (tr G v) = (lstoreSelf l i v).map (arL G) := by
  unfold storeSelf lstoreSelf
  have e := setAt_map G l i (.val v)
  simp only [trS] at e
  rw [e]
  cases h1 : lsetAt l i (.val v) with
  | none => rfl
  | some l1 =>
    simp only [Option.map_some, Option.bind_eq_bind, Option.bind_some, tr_cat]
    by_cases hc : v.category = 2
    · simp only [hc, if_true, arL_get]
      cases h2 : l1[i + 1]? with
      | none => rfl
      | some sl =>
        simp only [Option.map_some, Option.bind_some]
        have u2 := setAt_map G l1 (i + 2) .unset
        have s1 := setAt_map G l1 (i + 1) .second
        simp only [trS] at u2 s1
        cases sl with
        | unset => exact s1
        | second => exact s1
        | val old =>
          simp only [trS, tr_cat]
          by_cases hq : old.category = 2
          · simp only [hq, if_true, u2]
            cases h3 : lsetAt l1 (i + 2) .unset with
            | none => rfl
            | some l2 =>
              have s2 := setAt_map G l2 (i + 1) .second
              simp only [trS] at s2
              exact s2
          · simp only [hq, if_false]
            exact s1
    · simp only [hc, if_false]
      rfl
theorem mst_map (G : Ctx) (l : List Slot) (i : Nat) (v : Value) : storeLocals (arL G l) i (tr G v) = (mst l i v).map (arL G) := by
  unfold storeLocals mst
  simp only [arL_get]
  cases h1 : l[i]? with
  | none => rfl
  | some sl =>
    simp only [Option.map_some, Option.bind_eq_bind, Option.bind_some]
    have u1 := setAt_map G l (i - 1) .unset
    have u2 := setAt_map G l (i + 1) .unset
    simp only [trS] at u1 u2
    cases sl with
    | unset => exact storeSelf_map G l i v
    | second =>
      simp only [trS, u1]
      cases h3 : lsetAt l (i - 1) .unset with
      | none => rfl
      | some l2 => exact storeSelf_map G l2 i v
    | val old =>
      simp only [trS, tr_cat]
      by_cases hq : old.category = 2
      · simp only [hq, if_true, u2]
        cases h3 : lsetAt l (i + 1) .unset with
        | none => rfl
        | some l2 => exact storeSelf_map G l2 i v
      · simp only [hq, if_false]
        exact storeSelf_map G l i v
theorem lsetAt_len {l l' : List Slot} {i : Nat} {x : Slot} (h : lsetAt l i x = some l') : l'.length = l.length := by
  unfold lsetAt at h; split at h
  · cases h; simp
  · cases h
theorem lstoreSelf_len {l l' : List Slot} {i : Nat} {v : Value} (h : lstoreSelf l i v = some l') : l'.length = l.length := by
  unfold lstoreSelf at h
  split at h
  · cases h
  · rename_i l1 h1
    have e1 := lsetAt_len h1
    split at h
    · split at h
      · cases h
      · split at h
        · split at h
          · cases h
          · rename_i h2; rw [lsetAt_len h, lsetAt_len h2, e1]
        · rw [lsetAt_len h, e1]
      · rw [lsetAt_len h, e1]
    · cases h; exact e1
theorem mst_len {l l' : List Slot} {i : Nat} {v : Value} (h : mst l i v = some l') : l'.length = l.length := by
  unfold mst at h
  split at h
  · cases h
  · split at h
    · cases h
    · rename_i h2; rw [lstoreSelf_len h, lsetAt_len h2]
  · split at h
    · split at h
      · cases h
      · rename_i h2; rw [lstoreSelf_len h, lsetAt_len h2]
    · exact lstoreSelf_len h
  · exact lstoreSelf_len h
theorem st_of {G : Ctx} {l l' : List Slot} {i : Nat} {v : Value} (h : mst l i v = some l') : storeLocals (arL G l) i (tr G v) = some (arL G l') := by rw [mst_map, h]; rfl
theorem ld_of {G : Ctx} {l : List Slot} {i : Nat} {s : Slot} (h : l[i]? = some s) : (arL G l)[i]? = some (trS G s) := by rw [arL_get, h]; rfl
/-! ## 3. What a run of a body from a point does -/
def Ev (G : Ctx) (M : Mi) (pc : Nat) (L : List Slot) (S : List Value) (h : MHeap) (r : Option Value × MHeap) : Prop :=
  (h.length ≤ r.2.length ∧ hsl (gK G) h ≤ hsl (gK G) r.2) ∧
  ∀ (p : Program) (e : Env) (R : Room) (s : State) (m : MethodId) (args : Array Value) (below : List Frame) (meth : Method) (c : Code) (T : State) (locs : List Loc) (cells slots : Nat),
    Stand p (gL G) e R s m args below meth c T locs cells slots → p.tables.exec = Jvm.exec → (gZ G).Warmed39 s.vm → s.vm.findClass (mN M).cls = some m.cls →
    c.code = mB M → c.maxLocals = mL M → meth.sig.returnType = mR M → meth.name = (mN M).name → L.length = mL M → mF M ≤ R.frames → mW M ≤ R.locals →
    s.heap.size + cells = T.heap.size → Rel G T.heap h → Fr (gN G) locs → cells + (r.2.length - h.length) ≤ R.cells → slots + (hsl (gK G) r.2 - hsl (gK G) h) ≤ R.slots →
    ∃ T' locs', Stand p (gL G) e R s m args below meth c T' locs' (cells + (r.2.length - h.length)) (slots + (hsl (gK G) r.2 - hsl (gK G) h)) ∧ Rel G T'.heap r.2 ∧ Fr (gN G) locs' ∧
      ∀ fs, (∀ (f : JFrame) (acts : List Action), f.method = m → f.locked = none → f.entered = [] → (doReturn e (T'.setTop f) acts (r.1.map (tr G))).1 = T'.setFrames fs) →
        Steps p.tables e below (T.setTop (mkF m pc (arL G L) (S.map (tr G)))) (T'.setFrames fs)
/-- a whole call -/
def EvC (G : Ctx) (y : Mi) (args : List Value) (h : MHeap) (r : Option Value × MHeap) : Prop :=
  (h.length ≤ r.2.length ∧ hsl (gK G) h ≤ hsl (gK G) r.2) ∧
  ∀ (ws : List Jvm.Cond) (R : Room) (hr : Heap), mF y ≤ R.frames → mW y ≤ R.locals → r.2.length - h.length ≤ R.cells → hsl (gK G) r.2 - hsl (gK G) h ≤ R.slots → Rel G hr h →
    MetFree (gL G) (mN y) (head1 (Jvm.Cond.code (mN y) (mB y) (mL y) (mR y) :: ws) R) (fun a U => a = (args.map (tr G)).toArray ∧ (gZ G).Warmed39 U.vm ∧ U.heap = hr) (fun _ _ _ _ _ => True)
      (fun _ U o U' => ∃ v L, o = .returned v ∧ (v = r.1.map (tr G) ∧ Fr (gN G) L ∧ Rel G U'.heap r.2) ∧ FrameEnd U o U' L (r.2.length - h.length) (hsl (gK G) r.2 - hsl (gK G) h))
section Rules
variable {G : Ctx} {M : Mi} {pc : Nat} {L : List Slot} {S : List Value} {h : MHeap} {r : Option Value × MHeap}
theorem Ev.gen {pc' : Nat} {L' : List Slot} {S' : List Value} {h' : MHeap} (hm1 : h.length ≤ h'.length) (hm2 : hsl (gK G) h ≤ hsl (gK G) h') (hL : L'.length = L.length) (hn : Ev G M pc' L' S' h' r)
    (st : ∀ {p : Program} {e : Env} {R : Room} {s : State} {m : MethodId} {args : Array Value} {below : List Frame} {meth : Method} {c : Code} {T : State} {locs : List Loc} {cells slots : Nat},
      Stand p (gL G) e R s m args below meth c T locs cells slots → p.tables.exec = Jvm.exec → (gZ G).Warmed39 s.vm → s.vm.findClass (mN M).cls = some m.cls →
      c.code = mB M → c.maxLocals = mL M → meth.name = (mN M).name → L.length = mL M → mF M ≤ R.frames → mW M ≤ R.locals →
      s.heap.size + cells = T.heap.size → Rel G T.heap h → Fr (gN G) locs → cells + (h'.length - h.length) ≤ R.cells → slots + (hsl (gK G) h' - hsl (gK G) h) ≤ R.slots →
      ∃ T' locs', Stand p (gL G) e R s m args below meth c T' locs' (cells + (h'.length - h.length)) (slots + (hsl (gK G) h' - hsl (gK G) h)) ∧ Rel G T'.heap h' ∧ Fr (gN G) locs' ∧
        ∀ target, Steps p.tables e below (T'.setTop (mkF m pc' (arL G L') (S'.map (tr G)))) target → Steps p.tables e below (T.setTop (mkF m pc (arL G L) (S.map (tr G)))) target) :
    Ev G M pc L S h r := by
  obtain ⟨⟨g1, g2⟩, hn⟩ := hn
  refine ⟨⟨Nat.le_trans hm1 g1, Nat.le_trans hm2 g2⟩, ?_⟩
  intro p e R s m args below meth c T locs cells slots X hx hZ hown hby hml hret hnm hLm hfr hlo hsz hR hF hc hs
  obtain ⟨T1, locs1, X1, R1, F1, st1⟩ := st X hx hZ hown hby hml hnm hLm hfr hlo hsz hR hF (by omega) (by omega)
  have hsz1 : s.heap.size + (cells + (h'.length - h.length)) = T1.heap.size := by
    have a1 := hR.1
    have a2 := R1.1
    omega
  obtain ⟨T2, locs2, X2, R2, F2, st2⟩ := hn p e R s m args below meth c T1 locs1 _ _ X1 hx hZ hown hby hml hret hnm (hL.trans hLm) hfr hlo hsz1 R1 F1 (by omega) (by omega)
  refine ⟨T2, locs2, ?_, R2, F2, fun fs hl => st1 _ (st2 fs hl)⟩
  have e1 : cells + (h'.length - h.length) + (r.2.length - h'.length) = cells + (r.2.length - h.length) := by omega
  have e2 : slots + (hsl (gK G) h' - hsl (gK G) h) + (hsl (gK G) r.2 - hsl (gK G) h') = slots + (hsl (gK G) r.2 - hsl (gK G) h) := by omega
  rw [e1, e2] at X2
  exact X2
/-- a step that leaves the heap -/
theorem Ev.same {pc' : Nat} {L' : List Slot} {S' : List Value} (hL : L'.length = L.length) (hn : Ev G M pc' L' S' h r)
    (st : ∀ {p : Program} {e : Env} {R : Room} {s : State} {m : MethodId} {args : Array Value} {below : List Frame} {meth : Method} {c : Code} {T : State} {locs : List Loc} {cells slots : Nat},
      Stand p (gL G) e R s m args below meth c T locs cells slots → p.tables.exec = Jvm.exec → (gZ G).Warmed39 s.vm → s.vm.findClass (mN M).cls = some m.cls →
      c.code = mB M → c.maxLocals = mL M → L.length = mL M → mF M ≤ R.frames → mW M ≤ R.locals → Rel G T.heap h →
      ∃ T', Stand p (gL G) e R s m args below meth c T' locs cells slots ∧ T'.heap = T.heap ∧
        ∀ target, Steps p.tables e below (T'.setTop (mkF m pc' (arL G L') (S'.map (tr G)))) target → Steps p.tables e below (T.setTop (mkF m pc (arL G L) (S.map (tr G)))) target) :
    Ev G M pc L S h r := by
  refine Ev.gen (Nat.le_refl _) (Nat.le_refl _) hL hn ?_
  intro p e R s m args below meth c T locs cells slots X hx hZ hown hby hml hnm hLm hfr hlo hsz hR hF hc hs
  obtain ⟨T', X', e', st'⟩ := st X hx hZ hown hby hml hLm hfr hlo hR
  refine ⟨T', locs, ?_, by rw [e']; exact hR, hF, st'⟩
  rw [Nat.sub_self, Nat.sub_self, Nat.add_zero, Nat.add_zero]
  exact X'
/-- a step that leaves all but the frame -/
theorem Ev.pure {pc' : Nat} {L' : List Slot} {S' : List Value} (hL : L'.length = L.length) (hn : Ev G M pc' L' S' h r)
    (st : ∀ {p : Program} {e : Env} {R : Room} {s : State} {m : MethodId} {args : Array Value} {below : List Frame} {meth : Method} {c : Code} {T : State} {locs : List Loc} {cells slots : Nat},
      Stand p (gL G) e R s m args below meth c T locs cells slots → p.tables.exec = Jvm.exec → (gZ G).Warmed39 s.vm → s.vm.findClass (mN M).cls = some m.cls →
      c.code = mB M → ∀ target, Steps p.tables e below (T.setTop (mkF m pc' (arL G L') (S'.map (tr G)))) target → Steps p.tables e below (T.setTop (mkF m pc (arL G L) (S.map (tr G)))) target) :
    Ev G M pc L S h r :=
  Ev.same hL hn fun {p e R s m args below meth c T locs cells slots} X hx hZ hown hby hml hLm hfr hlo hR => ⟨T, X, rfl, st X hx hZ hown hby⟩
/-! ### loads, stores, constants -/
theorem Ev.iload {k : Nat} {v : Int32} (hd : decode (mB M) pc = .ok (.iload k, 2)) (hl : L[k]? = some (.val (.int v))) (hn : Ev G M (pc + 2) L (.int v :: S) h r) : Ev G M pc L S h r :=
  Ev.pure rfl hn fun {_ _ _ _ m _ _ _ _ _ _ _ _} X hx hZ hown hby target q => XS.iload (g := mkF m pc (arL G L) (List.map (tr G) S)) X.here hx rfl (hb hby hd) (ld_of hl) q
theorem Ev.iloadN {k : Fin 4} {v : Int32} (hd : decode (mB M) pc = .ok (.iload_n k, 1)) (hl : L[k.val]? = some (.val (.int v))) (hn : Ev G M (pc + 1) L (.int v :: S) h r) : Ev G M pc L S h r :=
  Ev.pure rfl hn fun {_ _ _ _ m _ _ _ _ _ _ _ _} X hx hZ hown hby target q => XS.iloadN (g := mkF m pc (arL G L) (List.map (tr G) S)) X.here hx rfl (hb hby hd) (ld_of hl) q
theorem Ev.aload {k : Nat} {v : Nat} (hd : decode (mB M) pc = .ok (.aload k, 2)) (hl : L[k]? = some (.val (.ref v))) (hn : Ev G M (pc + 2) L (.ref v :: S) h r) : Ev G M pc L S h r :=
  Ev.pure rfl hn fun {_ _ _ _ m _ _ _ _ _ _ _ _} X hx hZ hown hby target q => XS.aload (g := mkF m pc (arL G L) (List.map (tr G) S)) X.here hx rfl (hb hby hd) (ld_of hl) rfl q
theorem Ev.aloadN {k : Fin 4} {v : Nat} (hd : decode (mB M) pc = .ok (.aload_n k, 1)) (hl : L[k.val]? = some (.val (.ref v))) (hn : Ev G M (pc + 1) L (.ref v :: S) h r) : Ev G M pc L S h r :=
  Ev.pure rfl hn fun {_ _ _ _ m _ _ _ _ _ _ _ _} X hx hZ hown hby target q => XS.aloadN (g := mkF m pc (arL G L) (List.map (tr G) S)) X.here hx rfl (hb hby hd) (ld_of hl) rfl q
theorem Ev.lload {k : Nat} {v : Int64} (hd : decode (mB M) pc = .ok (.lload k, 2)) (hl : L[k]? = some (.val (.long v))) (hn : Ev G M (pc + 2) L (.long v :: S) h r) : Ev G M pc L S h r :=
  Ev.pure rfl hn fun {_ _ _ _ m _ _ _ _ _ _ _ _} X hx hZ hown hby target q => XT.lload (g := mkF m pc (arL G L) (List.map (tr G) S)) X.here hx rfl (hb hby hd) (ld_of hl) q
theorem Ev.lloadN {k : Fin 4} {v : Int64} (hd : decode (mB M) pc = .ok (.lload_n k, 1)) (hl : L[k.val]? = some (.val (.long v))) (hn : Ev G M (pc + 1) L (.long v :: S) h r) : Ev G M pc L S h r :=
  Ev.pure rfl hn fun {_ _ _ _ m _ _ _ _ _ _ _ _} X hx hZ hown hby target q => XT.lloadN (g := mkF m pc (arL G L) (List.map (tr G) S)) X.here hx rfl (hb hby hd) (ld_of hl) q
theorem Ev.istore {k : Nat} {v : Int32} {L' : List Slot} (hd : decode (mB M) pc = .ok (.istore k, 2)) (hl : mst L k (.int v) = some L') (hn : Ev G M (pc + 2) L' S h r) : Ev G M pc L (.int v :: S) h r :=
  Ev.pure (mst_len hl) hn fun {_ _ _ _ m _ _ _ _ _ _ _ _} X hx hZ hown hby target q => XS.istore (g := mkF m pc (arL G L) (List.map (tr G) (Value.int v :: S))) X.here hx rfl (hb hby hd) rfl (st_of hl) q
theorem Ev.istoreN {k : Fin 4} {v : Int32} {L' : List Slot} (hd : decode (mB M) pc = .ok (.istore_n k, 1)) (hl : mst L k.val (.int v) = some L') (hn : Ev G M (pc + 1) L' S h r) : Ev G M pc L (.int v :: S) h r :=
  Ev.pure (mst_len hl) hn fun {_ _ _ _ m _ _ _ _ _ _ _ _} X hx hZ hown hby target q => XS.istoreN (g := mkF m pc (arL G L) (List.map (tr G) (Value.int v :: S))) X.here hx rfl (hb hby hd) rfl (st_of hl) q
theorem Ev.astore {k v : Nat} {L' : List Slot} (hd : decode (mB M) pc = .ok (.astore k, 2)) (hl : mst L k (.ref v) = some L') (hn : Ev G M (pc + 2) L' S h r) : Ev G M pc L (.ref v :: S) h r :=
  Ev.pure (mst_len hl) hn fun {_ _ _ _ m _ _ _ _ _ _ _ _} X hx hZ hown hby target q => XS.astore (g := mkF m pc (arL G L) (List.map (tr G) (Value.ref v :: S))) X.here hx rfl (hb hby hd) rfl rfl (st_of hl) q
theorem Ev.astoreN {k : Fin 4} {v : Nat} {L' : List Slot} (hd : decode (mB M) pc = .ok (.astore_n k, 1)) (hl : mst L k.val (.ref v) = some L') (hn : Ev G M (pc + 1) L' S h r) : Ev G M pc L (.ref v :: S) h r :=
  Ev.pure (mst_len hl) hn fun {_ _ _ _ m _ _ _ _ _ _ _ _} X hx hZ hown hby target q => XS.astoreN (g := mkF m pc (arL G L) (List.map (tr G) (Value.ref v :: S))) X.here hx rfl (hb hby hd) rfl rfl (st_of hl) q
theorem Ev.lstore {k : Nat} {v : Int64} {L' : List Slot} (hd : decode (mB M) pc = .ok (.lstore k, 2)) (hl : mst L k (.long v) = some L') (hn : Ev G M (pc + 2) L' S h r) : Ev G M pc L (.long v :: S) h r :=
  Ev.pure (mst_len hl) hn fun {_ _ _ _ m _ _ _ _ _ _ _ _} X hx hZ hown hby target q => XT.lstore (g := mkF m pc (arL G L) (List.map (tr G) (Value.long v :: S))) X.here hx rfl (hb hby hd) rfl (st_of hl) q
theorem Ev.lstoreN {k : Fin 4} {v : Int64} {L' : List Slot} (hd : decode (mB M) pc = .ok (.lstore_n k, 1)) (hl : mst L k.val (.long v) = some L') (hn : Ev G M (pc + 1) L' S h r) : Ev G M pc L (.long v :: S) h r :=
  Ev.pure (mst_len hl) hn fun {_ _ _ _ m _ _ _ _ _ _ _ _} X hx hZ hown hby target q => XT.lstoreN (g := mkF m pc (arL G L) (List.map (tr G) (Value.long v :: S))) X.here hx rfl (hb hby hd) rfl (st_of hl) q
theorem Ev.iconst {i : Int} {z : Int32} (hd : decode (mB M) pc = .ok (.iconst i, 1)) (hz : Int32.ofInt i = z) (hn : Ev G M (pc + 1) L (.int z :: S) h r) : Ev G M pc L S h r :=
  Ev.pure rfl (hz ▸ hn) fun {_ _ _ _ m _ _ _ _ _ _ _ _} X hx hZ hown hby target q => XS.iconst (g := mkF m pc (arL G L) (List.map (tr G) S)) X.here hx rfl (hb hby hd) q
theorem Ev.bipush {i : Int} {z : Int32} (hd : decode (mB M) pc = .ok (.bipush i, 2)) (hz : (Int8.ofInt i).toInt32 = z) (hn : Ev G M (pc + 2) L (.int z :: S) h r) : Ev G M pc L S h r :=
  Ev.pure rfl (hz ▸ hn) fun {_ _ _ _ m _ _ _ _ _ _ _ _} X hx hZ hown hby target q => XS.bipush (g := mkF m pc (arL G L) (List.map (tr G) S)) X.here hx rfl (hb hby hd) q
theorem Ev.sipush {i : Int} {z : Int32} (hd : decode (mB M) pc = .ok (.sipush i, 3)) (hz : (Int16.ofInt i).toInt32 = z) (hn : Ev G M (pc + 3) L (.int z :: S) h r) : Ev G M pc L S h r :=
  Ev.pure rfl (hz ▸ hn) fun {_ _ _ _ m _ _ _ _ _ _ _ _} X hx hZ hown hby target q => XS.sipush (g := mkF m pc (arL G L) (List.map (tr G) S)) X.here hx rfl (hb hby hd) q
theorem Ev.lconst {k : Fin 2} {z : Int64} (hd : decode (mB M) pc = .ok (.lconst k, 1)) (hz : Int64.ofNat k = z) (hn : Ev G M (pc + 1) L (.long z :: S) h r) : Ev G M pc L S h r :=
  Ev.pure rfl (hz ▸ hn) fun {_ _ _ _ m _ _ _ _ _ _ _ _} X hx hZ hown hby target q => XT.lconst (g := mkF m pc (arL G L) (List.map (tr G) S)) X.here hx rfl (hb hby hd) q
theorem Ev.ldc {k : Nat} {v : Int32} (w : (Jvm.Cond.constant (mN M).cls k v).before (gA G) (gZ G) = true) (hd : decode (mB M) pc = .ok (.ldc k, 2)) (hn : Ev G M (pc + 2) L (.int v :: S) h r) : Ev G M pc L S h r :=
  Ev.pure rfl hn fun {_ _ _ _ m _ _ _ _ _ _ _ _} X hx hZ hown hby target q => X.ldcInt hx hown (mvT hZ w) (g := mkF m pc (arL G L) (List.map (tr G) S)) rfl (hb hby hd) target q
theorem Ev.ldcW {k : Nat} {v : Int32} (w : (Jvm.Cond.constant (mN M).cls k v).before (gA G) (gZ G) = true) (hd : decode (mB M) pc = .ok (.ldc_w k, 3)) (hn : Ev G M (pc + 3) L (.int v :: S) h r) : Ev G M pc L S h r :=
  Ev.pure rfl hn fun {_ _ _ _ m _ _ _ _ _ _ _ _} X hx hZ hown hby target q => X.ldcwInt hx hown (mvT hZ w) (g := mkF m pc (arL G L) (List.map (tr G) S)) rfl (hb hby hd) target q
theorem Ev.ldcL {k : Nat} {v : Int64} (w : (Jvm.Cond.constantLong (mN M).cls k v).before (gA G) (gZ G) = true) (hd : decode (mB M) pc = .ok (.ldc2_w k, 3)) (hn : Ev G M (pc + 3) L (.long v :: S) h r) : Ev G M pc L S h r :=
  Ev.pure rfl hn fun {_ _ _ _ m _ _ _ _ _ _ _ _} X hx hZ hown hby target q => X.ldc2Long hx hown (mvT hZ w) (g := mkF m pc (arL G L) (List.map (tr G) S)) rfl (hb hby hd) target q
/-! ### reckoning -/
theorem Ev.iadd {x y : Int32} (hd : decode (mB M) pc = .ok (.iadd, 1)) (hn : Ev G M (pc + 1) L (.int (x + y) :: S) h r) : Ev G M pc L (.int y :: .int x :: S) h r :=
  Ev.pure rfl hn fun {_ _ _ _ m _ _ _ _ _ _ _ _} X hx hZ hown hby target q => XS.iadd (g := mkF m pc (arL G L) (List.map (tr G) (Value.int y :: Value.int x :: S))) X.here hx rfl (hb hby hd) rfl q
theorem Ev.isub {x y : Int32} (hd : decode (mB M) pc = .ok (.isub, 1)) (hn : Ev G M (pc + 1) L (.int (x - y) :: S) h r) : Ev G M pc L (.int y :: .int x :: S) h r :=
  Ev.pure rfl hn fun {_ _ _ _ m _ _ _ _ _ _ _ _} X hx hZ hown hby target q => XS.isub (g := mkF m pc (arL G L) (List.map (tr G) (Value.int y :: Value.int x :: S))) X.here hx rfl (hb hby hd) rfl q
theorem Ev.imul {x y : Int32} (hd : decode (mB M) pc = .ok (.imul, 1)) (hn : Ev G M (pc + 1) L (.int (x * y) :: S) h r) : Ev G M pc L (.int y :: .int x :: S) h r :=
  Ev.pure rfl hn fun {_ _ _ _ m _ _ _ _ _ _ _ _} X hx hZ hown hby target q => XS.imul (g := mkF m pc (arL G L) (List.map (tr G) (Value.int y :: Value.int x :: S))) X.here hx rfl (hb hby hd) rfl q
theorem Ev.idiv {x y : Int32} (hd : decode (mB M) pc = .ok (.idiv, 1)) (hy : y ≠ 0) (hn : Ev G M (pc + 1) L (.int (x / y) :: S) h r) : Ev G M pc L (.int y :: .int x :: S) h r :=
  Ev.pure rfl hn fun {_ _ _ _ m _ _ _ _ _ _ _ _} X hx hZ hown hby target q => XS.idiv (g := mkF m pc (arL G L) (List.map (tr G) (Value.int y :: Value.int x :: S))) X.here hx rfl (hb hby hd) rfl hy q
theorem Ev.irem {x y : Int32} (hd : decode (mB M) pc = .ok (.irem, 1)) (hy : y ≠ 0) (hn : Ev G M (pc + 1) L (.int (x % y) :: S) h r) : Ev G M pc L (.int y :: .int x :: S) h r :=
  Ev.pure rfl hn fun {_ _ _ _ m _ _ _ _ _ _ _ _} X hx hZ hown hby target q => iremM (g := mkF m pc (arL G L) (List.map (tr G) (Value.int y :: Value.int x :: S))) X hx rfl (hb hby hd) rfl hy q
theorem Ev.ineg {x : Int32} (hd : decode (mB M) pc = .ok (.ineg, 1)) (hn : Ev G M (pc + 1) L (.int (-x) :: S) h r) : Ev G M pc L (.int x :: S) h r :=
  Ev.pure rfl hn fun {_ _ _ _ m _ _ _ _ _ _ _ _} X hx hZ hown hby target q => XS.ineg (g := mkF m pc (arL G L) (List.map (tr G) (Value.int x :: S))) X.here hx rfl (hb hby hd) rfl q
theorem Ev.iand {x y : Int32} (hd : decode (mB M) pc = .ok (.iand, 1)) (hn : Ev G M (pc + 1) L (.int (x &&& y) :: S) h r) : Ev G M pc L (.int y :: .int x :: S) h r :=
  Ev.pure rfl hn fun {_ _ _ _ m _ _ _ _ _ _ _ _} X hx hZ hown hby target q => XS.iand (g := mkF m pc (arL G L) (List.map (tr G) (Value.int y :: Value.int x :: S))) X.here hx rfl (hb hby hd) rfl q
theorem Ev.ior {x y : Int32} (hd : decode (mB M) pc = .ok (.ior, 1)) (hn : Ev G M (pc + 1) L (.int (x ||| y) :: S) h r) : Ev G M pc L (.int y :: .int x :: S) h r :=
  Ev.pure rfl hn fun {_ _ _ _ m _ _ _ _ _ _ _ _} X hx hZ hown hby target q => XT.ior (g := mkF m pc (arL G L) (List.map (tr G) (Value.int y :: Value.int x :: S))) X.here hx rfl (hb hby hd) rfl q
theorem Ev.ixor {x y : Int32} (hd : decode (mB M) pc = .ok (.ixor, 1)) (hn : Ev G M (pc + 1) L (.int (x ^^^ y) :: S) h r) : Ev G M pc L (.int y :: .int x :: S) h r :=
  Ev.pure rfl hn fun {_ _ _ _ m _ _ _ _ _ _ _ _} X hx hZ hown hby target q => XT.ixor (g := mkF m pc (arL G L) (List.map (tr G) (Value.int y :: Value.int x :: S))) X.here hx rfl (hb hby hd) rfl q
theorem Ev.ishl {x y : Int32} (hd : decode (mB M) pc = .ok (.ishl, 1)) (hn : Ev G M (pc + 1) L (.int (x <<< (y &&& 31)) :: S) h r) : Ev G M pc L (.int y :: .int x :: S) h r :=
  Ev.pure rfl hn fun {_ _ _ _ m _ _ _ _ _ _ _ _} X hx hZ hown hby target q => XT.ishl (g := mkF m pc (arL G L) (List.map (tr G) (Value.int y :: Value.int x :: S))) X.here hx rfl (hb hby hd) rfl q
theorem Ev.ishr {x y : Int32} (hd : decode (mB M) pc = .ok (.ishr, 1)) (hn : Ev G M (pc + 1) L (.int (x >>> (y &&& 31)) :: S) h r) : Ev G M pc L (.int y :: .int x :: S) h r :=
  Ev.pure rfl hn fun {_ _ _ _ m _ _ _ _ _ _ _ _} X hx hZ hown hby target q => XT.ishr (g := mkF m pc (arL G L) (List.map (tr G) (Value.int y :: Value.int x :: S))) X.here hx rfl (hb hby hd) rfl q
theorem Ev.iushr {x y : Int32} (hd : decode (mB M) pc = .ok (.iushr, 1)) (hn : Ev G M (pc + 1) L (.int (XT.ushr x y) :: S) h r) : Ev G M pc L (.int y :: .int x :: S) h r :=
  Ev.pure rfl hn fun {_ _ _ _ m _ _ _ _ _ _ _ _} X hx hZ hown hby target q => XT.iushr (g := mkF m pc (arL G L) (List.map (tr G) (Value.int y :: Value.int x :: S))) X.here hx rfl (hb hby hd) rfl q
theorem Ev.ladd {x y : Int64} (hd : decode (mB M) pc = .ok (.ladd, 1)) (hn : Ev G M (pc + 1) L (.long (x + y) :: S) h r) : Ev G M pc L (.long y :: .long x :: S) h r :=
  Ev.pure rfl hn fun {_ _ _ _ m _ _ _ _ _ _ _ _} X hx hZ hown hby target q => XT.ladd (g := mkF m pc (arL G L) (List.map (tr G) (Value.long y :: Value.long x :: S))) X.here hx rfl (hb hby hd) rfl q
theorem Ev.lsub {x y : Int64} (hd : decode (mB M) pc = .ok (.lsub, 1)) (hn : Ev G M (pc + 1) L (.long (x - y) :: S) h r) : Ev G M pc L (.long y :: .long x :: S) h r :=
  Ev.pure rfl hn fun {_ _ _ _ m _ _ _ _ _ _ _ _} X hx hZ hown hby target q => XT.lsub (g := mkF m pc (arL G L) (List.map (tr G) (Value.long y :: Value.long x :: S))) X.here hx rfl (hb hby hd) rfl q
theorem Ev.lmul {x y : Int64} (hd : decode (mB M) pc = .ok (.lmul, 1)) (hn : Ev G M (pc + 1) L (.long (x * y) :: S) h r) : Ev G M pc L (.long y :: .long x :: S) h r :=
  Ev.pure rfl hn fun {_ _ _ _ m _ _ _ _ _ _ _ _} X hx hZ hown hby target q => XT.lmul (g := mkF m pc (arL G L) (List.map (tr G) (Value.long y :: Value.long x :: S))) X.here hx rfl (hb hby hd) rfl q
theorem Ev.ldiv {x y : Int64} (hd : decode (mB M) pc = .ok (.ldiv, 1)) (hy : y ≠ 0) (hn : Ev G M (pc + 1) L (.long (x / y) :: S) h r) : Ev G M pc L (.long y :: .long x :: S) h r :=
  Ev.pure rfl hn fun {_ _ _ _ m _ _ _ _ _ _ _ _} X hx hZ hown hby target q => XT.ldiv (g := mkF m pc (arL G L) (List.map (tr G) (Value.long y :: Value.long x :: S))) X.here hx rfl (hb hby hd) rfl hy q
theorem Ev.lneg {x : Int64} (hd : decode (mB M) pc = .ok (.lneg, 1)) (hn : Ev G M (pc + 1) L (.long (-x) :: S) h r) : Ev G M pc L (.long x :: S) h r :=
  Ev.pure rfl hn fun {_ _ _ _ m _ _ _ _ _ _ _ _} X hx hZ hown hby target q => XT.lneg (g := mkF m pc (arL G L) (List.map (tr G) (Value.long x :: S))) X.here hx rfl (hb hby hd) rfl q
theorem Ev.land {x y : Int64} (hd : decode (mB M) pc = .ok (.land, 1)) (hn : Ev G M (pc + 1) L (.long (x &&& y) :: S) h r) : Ev G M pc L (.long y :: .long x :: S) h r :=
  Ev.pure rfl hn fun {_ _ _ _ m _ _ _ _ _ _ _ _} X hx hZ hown hby target q => XT.land (g := mkF m pc (arL G L) (List.map (tr G) (Value.long y :: Value.long x :: S))) X.here hx rfl (hb hby hd) rfl q
theorem Ev.lor {x y : Int64} (hd : decode (mB M) pc = .ok (.lor, 1)) (hn : Ev G M (pc + 1) L (.long (x ||| y) :: S) h r) : Ev G M pc L (.long y :: .long x :: S) h r :=
  Ev.pure rfl hn fun {_ _ _ _ m _ _ _ _ _ _ _ _} X hx hZ hown hby target q => XT.lor (g := mkF m pc (arL G L) (List.map (tr G) (Value.long y :: Value.long x :: S))) X.here hx rfl (hb hby hd) rfl q
theorem Ev.lxor {x y : Int64} (hd : decode (mB M) pc = .ok (.lxor, 1)) (hn : Ev G M (pc + 1) L (.long (x ^^^ y) :: S) h r) : Ev G M pc L (.long y :: .long x :: S) h r :=
  Ev.pure rfl hn fun {_ _ _ _ m _ _ _ _ _ _ _ _} X hx hZ hown hby target q => XT.lxor (g := mkF m pc (arL G L) (List.map (tr G) (Value.long y :: Value.long x :: S))) X.here hx rfl (hb hby hd) rfl q
theorem Ev.lshl {x : Int64} {y : Int32} (hd : decode (mB M) pc = .ok (.lshl, 1)) (hn : Ev G M (pc + 1) L (.long (x <<< (y.toInt64 &&& 63)) :: S) h r) : Ev G M pc L (.int y :: .long x :: S) h r :=
  Ev.pure rfl hn fun {_ _ _ _ m _ _ _ _ _ _ _ _} X hx hZ hown hby target q => XT.lshl (g := mkF m pc (arL G L) (List.map (tr G) (Value.int y :: Value.long x :: S))) X.here hx rfl (hb hby hd) rfl q
theorem Ev.lushr {x : Int64} {y : Int32} (hd : decode (mB M) pc = .ok (.lushr, 1)) (hn : Ev G M (pc + 1) L (.long (XT.ushrL x y) :: S) h r) : Ev G M pc L (.int y :: .long x :: S) h r :=
  Ev.pure rfl hn fun {_ _ _ _ m _ _ _ _ _ _ _ _} X hx hZ hown hby target q => XT.lushr (g := mkF m pc (arL G L) (List.map (tr G) (Value.int y :: Value.long x :: S))) X.here hx rfl (hb hby hd) rfl q
theorem Ev.lcmp {x y : Int64} (hd : decode (mB M) pc = .ok (.lcmp, 1)) (hn : Ev G M (pc + 1) L (.int (XT.cmpL x y) :: S) h r) : Ev G M pc L (.long y :: .long x :: S) h r :=
  Ev.pure rfl hn fun {_ _ _ _ m _ _ _ _ _ _ _ _} X hx hZ hown hby target q => XT.lcmp (g := mkF m pc (arL G L) (List.map (tr G) (Value.long y :: Value.long x :: S))) X.here hx rfl (hb hby hd) rfl q
theorem Ev.i2l {x : Int32} (hd : decode (mB M) pc = .ok (.i2l, 1)) (hn : Ev G M (pc + 1) L (.long x.toInt64 :: S) h r) : Ev G M pc L (.int x :: S) h r :=
  Ev.pure rfl hn fun {_ _ _ _ m _ _ _ _ _ _ _ _} X hx hZ hown hby target q => XT.i2l (g := mkF m pc (arL G L) (List.map (tr G) (Value.int x :: S))) X.here hx rfl (hb hby hd) rfl q
theorem Ev.l2i {x : Int64} (hd : decode (mB M) pc = .ok (.l2i, 1)) (hn : Ev G M (pc + 1) L (.int x.toInt32 :: S) h r) : Ev G M pc L (.long x :: S) h r :=
  Ev.pure rfl hn fun {_ _ _ _ m _ _ _ _ _ _ _ _} X hx hZ hown hby target q => XT.l2i (g := mkF m pc (arL G L) (List.map (tr G) (Value.long x :: S))) X.here hx rfl (hb hby hd) rfl q
theorem Ev.i2b {x : Int32} (hd : decode (mB M) pc = .ok (.i2b, 1)) (hn : Ev G M (pc + 1) L (.int x.toInt8.toInt32 :: S) h r) : Ev G M pc L (.int x :: S) h r :=
  Ev.pure rfl hn fun {_ _ _ _ m _ _ _ _ _ _ _ _} X hx hZ hown hby target q => XT.i2b (g := mkF m pc (arL G L) (List.map (tr G) (Value.int x :: S))) X.here hx rfl (hb hby hd) rfl q
theorem Ev.iinc {k : Nat} {i : Int} {x z : Int32} {L' : List Slot} (hd : decode (mB M) pc = .ok (.iinc k i, 3)) (hl : L[k]? = some (.val (.int x))) (hz : Int32.ofInt i = z) (hl' : mst L k (.int (x + z)) = some L') (hn : Ev G M (pc + 3) L' S h r) : Ev G M pc L S h r :=
  Ev.pure (mst_len hl') hn fun {_ _ _ _ m _ _ _ _ _ _ _ _} X hx hZ hown hby target q => XS.iinc (g := mkF m pc (arL G L) (List.map (tr G) S)) X.here hx rfl (hb hby hd) (ld_of hl) (by rw [hz]; exact st_of hl') q
theorem iincW {tb : Tables} [Ours tb] {e : Env} {below : List Frame} {T target : State} {m : MethodId} {c : Code} {g : JFrame} (h : At T m c below) (hx : tb.exec = Jvm.exec) (hg : g.method = m) {k : Nat} {cst : Int} {x : Int32} {l' : Array Slot} (hd : decode c.code g.pc = .ok (.iinc k cst, 6)) (hl : g.locals[k]? = some (.val (.int x))) (hl' : storeLocals g.locals k (.int (x + Int32.ofInt cst)) = some l')
    (hr : Steps tb e below (T.setTop { g with pc := g.pc + 6, locals := l' }) target) : Steps tb e below (T.setTop g) target := by
  subst hg
  jvm_step h [h.top, hx, hd, hl, hl']
  exact hr
theorem Ev.iincW {k : Nat} {i : Int} {x z : Int32} {L' : List Slot} (hd : decode (mB M) pc = .ok (.iinc k i, 6)) (hl : L[k]? = some (.val (.int x))) (hz : Int32.ofInt i = z) (hl' : mst L k (.int (x + z)) = some L') (hn : Ev G M (pc + 6) L' S h r) : Ev G M pc L S h r :=
  Ev.pure (mst_len hl') hn fun {_ _ _ _ m _ _ _ _ _ _ _ _} X hx hZ hown hby target q => Own.iincW (g := mkF m pc (arL G L) (List.map (tr G) S)) X.here hx rfl (hb hby hd) (ld_of hl) (by rw [hz]; exact st_of hl') q
theorem Ev.dup {x : Value} (hd : decode (mB M) pc = .ok (.dup, 1)) (hc : x.category = 1) (hn : Ev G M (pc + 1) L (x :: x :: S) h r) : Ev G M pc L (x :: S) h r :=
  Ev.pure rfl hn fun {_ _ _ _ m _ _ _ _ _ _ _ _} X hx hZ hown hby target q => XS.dup (g := mkF m pc (arL G L) (List.map (tr G) (x :: S))) X.here hx rfl (hb hby hd) rfl ((tr_cat G x).trans hc) q
theorem Ev.dup2 {x y : Value} (hd : decode (mB M) pc = .ok (.dup2, 1)) (hc : x.category = 1) (hc' : y.category = 1) (hn : Ev G M (pc + 1) L (x :: y :: x :: y :: S) h r) : Ev G M pc L (x :: y :: S) h r :=
  Ev.pure rfl hn fun {_ _ _ _ m _ _ _ _ _ _ _ _} X hx hZ hown hby target q => XT.dup2 (g := mkF m pc (arL G L) (List.map (tr G) (x :: y :: S))) X.here hx rfl (hb hby hd) rfl ((tr_cat G x).trans hc) ((tr_cat G y).trans hc') q
theorem Ev.pop {x : Value} (hd : decode (mB M) pc = .ok (.pop, 1)) (hc : x.category = 1) (hn : Ev G M (pc + 1) L S h r) : Ev G M pc L (x :: S) h r :=
  Ev.pure rfl hn fun {_ _ _ _ m _ _ _ _ _ _ _ _} X hx hZ hown hby target q => XT.pop (g := mkF m pc (arL G L) (List.map (tr G) (x :: S))) X.here hx rfl (hb hby hd) rfl ((tr_cat G x).trans hc) q
/-! ### branches -/
theorem Ev.goto {o : Int} {t : Nat} (hd : decode (mB M) pc = .ok (.goto o, 3)) (hp : (pc : Int) + o = (t : Int)) (hn : Ev G M t L S h r) : Ev G M pc L S h r :=
  Ev.pure rfl hn fun {_ _ _ _ m _ _ _ _ _ _ _ _} X hx hZ hown hby target q => XS.goto (g := mkF m pc (arL G L) (List.map (tr G) S)) X.here hx rfl rfl (hb hby hd) (by rw [hp]; exact Int.natCast_nonneg t) (by rw [hp]; rfl) q
theorem Ev.ifc {cd : ClassFile.Cond} {x : Int32} {o : Int} {t : Nat} (hd : decode (mB M) pc = .ok (.ifCond cd o, 3)) (hp : (pc : Int) + o = (t : Int)) (h1 : ifCond.holds cd x = true → Ev G M t L S h r) (h2 : ifCond.holds cd x = false → Ev G M (pc + 3) L S h r) : Ev G M pc L (.int x :: S) h r := by
  cases hc : ifCond.holds cd x with
  | true => exact Ev.pure rfl (h1 hc) fun {_ _ _ _ m _ _ _ _ _ _ _ _} X hx hZ hown hby target q => XS.ifYes (g := mkF m pc (arL G L) (List.map (tr G) (Value.int x :: S))) X.here hx rfl rfl (hb hby hd) rfl hc (by rw [hp]; exact Int.natCast_nonneg t) (by rw [hp]; rfl) q
  | false => exact Ev.pure rfl (h2 hc) fun {_ _ _ _ m _ _ _ _ _ _ _ _} X hx hZ hown hby target q => XS.ifNo (g := mkF m pc (arL G L) (List.map (tr G) (Value.int x :: S))) X.here hx rfl (hb hby hd) rfl hc q
theorem Ev.icc {cd : ClassFile.Cond} {x y : Int32} {o : Int} {t : Nat} (hd : decode (mB M) pc = .ok (.if_icmp cd o, 3)) (hp : (pc : Int) + o = (t : Int)) (h1 : if_icmp.holds cd x y = true → Ev G M t L S h r) (h2 : if_icmp.holds cd x y = false → Ev G M (pc + 3) L S h r) : Ev G M pc L (.int y :: .int x :: S) h r := by
  cases hc : if_icmp.holds cd x y with
  | true => exact Ev.pure rfl (h1 hc) fun {_ _ _ _ m _ _ _ _ _ _ _ _} X hx hZ hown hby target q => XS.icmpYes (g := mkF m pc (arL G L) (List.map (tr G) (Value.int y :: Value.int x :: S))) X.here hx rfl rfl (hb hby hd) rfl hc (by rw [hp]; exact Int.natCast_nonneg t) (by rw [hp]; rfl) q
  | false => exact Ev.pure rfl (h2 hc) fun {_ _ _ _ m _ _ _ _ _ _ _ _} X hx hZ hown hby target q => XS.icmpNo (g := mkF m pc (arL G L) (List.map (tr G) (Value.int y :: Value.int x :: S))) X.here hx rfl (hb hby hd) rfl hc q
theorem Ev.iclt {x y : Int32} {o : Int} {t : Nat} (hd : decode (mB M) pc = .ok (.if_icmp .lt o, 3)) (hp : (pc : Int) + o = (t : Int)) (h1 : x < y → Ev G M t L S h r) (h2 : ¬ x < y → Ev G M (pc + 3) L S h r) : Ev G M pc L (.int y :: .int x :: S) h r :=
  Ev.icc hd hp (fun q => h1 (by simpa [if_icmp.holds] using q)) (fun q => h2 (by simpa [if_icmp.holds] using q))
theorem Ev.icge {x y : Int32} {o : Int} {t : Nat} (hd : decode (mB M) pc = .ok (.if_icmp .ge o, 3)) (hp : (pc : Int) + o = (t : Int)) (h1 : x < y → Ev G M (pc + 3) L S h r) (h2 : ¬ x < y → Ev G M t L S h r) : Ev G M pc L (.int y :: .int x :: S) h r :=
  Ev.icc hd hp (fun q => h2 (by simpa [if_icmp.holds] using q)) (fun q => h1 (by simpa [if_icmp.holds] using q))
theorem Ev.icgt {x y : Int32} {o : Int} {t : Nat} (hd : decode (mB M) pc = .ok (.if_icmp .gt o, 3)) (hp : (pc : Int) + o = (t : Int)) (h1 : y < x → Ev G M t L S h r) (h2 : ¬ y < x → Ev G M (pc + 3) L S h r) : Ev G M pc L (.int y :: .int x :: S) h r :=
  Ev.icc hd hp (fun q => h1 (by simpa [if_icmp.holds] using q)) (fun q => h2 (by simpa [if_icmp.holds] using q))
theorem Ev.icle {x y : Int32} {o : Int} {t : Nat} (hd : decode (mB M) pc = .ok (.if_icmp .le o, 3)) (hp : (pc : Int) + o = (t : Int)) (h1 : y < x → Ev G M (pc + 3) L S h r) (h2 : ¬ y < x → Ev G M t L S h r) : Ev G M pc L (.int y :: .int x :: S) h r :=
  Ev.icc hd hp (fun q => h2 (by simpa [if_icmp.holds] using q)) (fun q => h1 (by simpa [if_icmp.holds] using q))
theorem Ev.iceq {x y : Int32} {o : Int} {t : Nat} (hd : decode (mB M) pc = .ok (.if_icmp .eq o, 3)) (hp : (pc : Int) + o = (t : Int)) (h1 : x = y → Ev G M t L S h r) (h2 : ¬ x = y → Ev G M (pc + 3) L S h r) : Ev G M pc L (.int y :: .int x :: S) h r :=
  Ev.icc hd hp (fun q => h1 (by simpa [if_icmp.holds] using q)) (fun q => h2 (by simpa [if_icmp.holds] using q))
theorem Ev.icne {x y : Int32} {o : Int} {t : Nat} (hd : decode (mB M) pc = .ok (.if_icmp .ne o, 3)) (hp : (pc : Int) + o = (t : Int)) (h1 : x = y → Ev G M (pc + 3) L S h r) (h2 : ¬ x = y → Ev G M t L S h r) : Ev G M pc L (.int y :: .int x :: S) h r :=
  Ev.icc hd hp (fun q => h2 (by simpa [if_icmp.holds] using q)) (fun q => h1 (by simpa [if_icmp.holds] using q))
theorem Ev.iflt {x : Int32} {o : Int} {t : Nat} (hd : decode (mB M) pc = .ok (.ifCond .lt o, 3)) (hp : (pc : Int) + o = (t : Int)) (h1 : x < 0 → Ev G M t L S h r) (h2 : ¬ x < 0 → Ev G M (pc + 3) L S h r) : Ev G M pc L (.int x :: S) h r :=
  Ev.ifc hd hp (fun q => h1 (by simpa [ifCond.holds] using q)) (fun q => h2 (by simpa [ifCond.holds] using q))
theorem Ev.ifge {x : Int32} {o : Int} {t : Nat} (hd : decode (mB M) pc = .ok (.ifCond .ge o, 3)) (hp : (pc : Int) + o = (t : Int)) (h1 : x < 0 → Ev G M (pc + 3) L S h r) (h2 : ¬ x < 0 → Ev G M t L S h r) : Ev G M pc L (.int x :: S) h r :=
  Ev.ifc hd hp (fun q => h2 (by simpa [ifCond.holds] using q)) (fun q => h1 (by simpa [ifCond.holds] using q))
theorem Ev.ifgt {x : Int32} {o : Int} {t : Nat} (hd : decode (mB M) pc = .ok (.ifCond .gt o, 3)) (hp : (pc : Int) + o = (t : Int)) (h1 : 0 < x → Ev G M t L S h r) (h2 : ¬ 0 < x → Ev G M (pc + 3) L S h r) : Ev G M pc L (.int x :: S) h r :=
  Ev.ifc hd hp (fun q => h1 (by simpa [ifCond.holds] using q)) (fun q => h2 (by simpa [ifCond.holds] using q))
theorem Ev.ifle {x : Int32} {o : Int} {t : Nat} (hd : decode (mB M) pc = .ok (.ifCond .le o, 3)) (hp : (pc : Int) + o = (t : Int)) (h1 : 0 < x → Ev G M (pc + 3) L S h r) (h2 : ¬ 0 < x → Ev G M t L S h r) : Ev G M pc L (.int x :: S) h r :=
  Ev.ifc hd hp (fun q => h2 (by simpa [ifCond.holds] using q)) (fun q => h1 (by simpa [ifCond.holds] using q))
theorem Ev.ifeq {x : Int32} {o : Int} {t : Nat} (hd : decode (mB M) pc = .ok (.ifCond .eq o, 3)) (hp : (pc : Int) + o = (t : Int)) (h1 : x = 0 → Ev G M t L S h r) (h2 : ¬ x = 0 → Ev G M (pc + 3) L S h r) : Ev G M pc L (.int x :: S) h r :=
  Ev.ifc hd hp (fun q => h1 (by simpa [ifCond.holds] using q)) (fun q => h2 (by simpa [ifCond.holds] using q))
theorem Ev.ifne {x : Int32} {o : Int} {t : Nat} (hd : decode (mB M) pc = .ok (.ifCond .ne o, 3)) (hp : (pc : Int) + o = (t : Int)) (h1 : x = 0 → Ev G M (pc + 3) L S h r) (h2 : ¬ x = 0 → Ev G M t L S h r) : Ev G M pc L (.int x :: S) h r :=
  Ev.ifc hd hp (fun q => h2 (by simpa [ifCond.holds] using q)) (fun q => h1 (by simpa [ifCond.holds] using q))
theorem Ev.tswIn {x : Int32} {dflt low high : Int} {offs : Array Int} {len t : Nat} {o : Int} (hd : decode (mB M) pc = .ok (.tableswitch dflt low high offs, len)) (hin : ¬ (x.toInt < low ∨ x.toInt > high)) (ho : offs[(x.toInt - low).toNat]? = some o) (hp : (pc : Int) + o = (t : Int)) (hn : Ev G M t L S h r) : Ev G M pc L (.int x :: S) h r :=
  Ev.pure rfl hn fun {_ _ _ _ m _ _ _ _ _ _ _ _} X hx hZ hown hby target q => XS.tswIn (g := mkF m pc (arL G L) (List.map (tr G) (Value.int x :: S))) X.here hx rfl rfl (hb hby hd) rfl hin ho (by rw [hp]; exact Int.natCast_nonneg t) (by rw [hp]; rfl) q
theorem Ev.tswOut {x : Int32} {dflt low high : Int} {offs : Array Int} {len t : Nat} (hd : decode (mB M) pc = .ok (.tableswitch dflt low high offs, len)) (hout : x.toInt < low ∨ x.toInt > high) (hp : (pc : Int) + dflt = (t : Int)) (hn : Ev G M t L S h r) : Ev G M pc L (.int x :: S) h r :=
  Ev.pure rfl hn fun {_ _ _ _ m _ _ _ _ _ _ _ _} X hx hZ hown hby target q => XS.tswOut (g := mkF m pc (arL G L) (List.map (tr G) (Value.int x :: S))) X.here hx rfl rfl (hb hby hd) rfl hout (by rw [hp]; exact Int.natCast_nonneg t) (by rw [hp]; rfl) q
/-! ### fields -/
theorem Ev.getfield {idx j i : Nat} {n d : String} {ty : FieldType} {fs : List Value} {v : Value} (w : (Jvm.Cond.fieldLink (mN M).cls idx (gC G) n d).before (gA G) (gZ G) = true) (hd : decode (mB M) pc = .ok (.getfield idx, 3))
    (hF : (gF G)[j]? = some (n, d, ty)) (hi : h[i]? = some (.inl fs)) (hv : fs[j]? = some v) (hn : Ev G M (pc + 3) L (v :: S) h r) : Ev G M pc L (.ref i :: S) h r := by
  refine Ev.same rfl hn ?_
  intro p e R s m args below meth c T locs cells slots X hx hZ hown hby hml hLm hfr hlo hR
  obtain ⟨-, -, h3⟩ := hR.2.2.2 i _ hi
  obtain ⟨T', X', e', st⟩ := getF X hx hZ hown (host := "") (Or.inl w) Via.refl rfl (h3 j n d ty v hF hv) (g := mkF m pc (arL G L) ((Value.ref i :: S).map (tr G))) rfl rfl (hb hby hd)
  exact ⟨T', X', e', st⟩
def mput : FieldType → Value → Option Value
  | .int, .int z => some (.int z)
  | .boolean, .int z => some (.int (z &&& 1))
  | .array _, .ref a => some (.ref a)
  | _, _ => none
theorem mput_spec {G : Ctx} {ty : FieldType} {v v' : Value} (h : mput ty v = some v') : narrow ty (tr G v) = tr G v' ∧ fits ty (tr G v') = true := by
  unfold mput at h
  split at h
  · cases h; exact ⟨rfl, rfl⟩
  · cases h; exact ⟨rfl, fits_nar_bool _⟩
  · cases h; exact ⟨rfl, rfl⟩
  · cases h
theorem Ev.putfield {idx j i : Nat} {n d : String} {ty : FieldType} {fs : List Value} {v v' : Value} (K : GOk G) (w : (Jvm.Cond.fieldLink (mN M).cls idx (gC G) n d).before (gA G) (gZ G) = true)
    (wl : (Jvm.Cond.lays (gC G) (gC G) n d).before (gA G) (gZ G) = true ∨ ((Jvm.Cond.laysFinal (gC G) (gC G) n d).before (gA G) (gZ G) = true ∧ (mN M).cls = gC G ∧ (mN M).name = "<init>"))
    (hd : decode (mB M) pc = .ok (.putfield idx, 3)) (hF : (gF G)[j]? = some (n, d, ty)) (hk : k0 G ≤ i) (hi : h[i]? = some (.inl fs)) (hp : mput ty v = some v') (hn : Ev G M (pc + 3) L S (h.set i (.inl (fs.set j v'))) r) : Ev G M pc L (v :: .ref i :: S) h r := by
  have hs := hsl_set (gK G) h i (.inl fs) (.inl (fs.set j v')) hi rfl
  refine Ev.gen (by rw [List.length_set]; exact Nat.le_refl _) (by rw [hs]; exact Nat.le_refl _) rfl hn ?_
  intro p e R s m args below meth c T locs cells slots X hx hZ hown hby hml hnm hLm hfr hlo hsz hR hFr hc hsq
  obtain ⟨e1, e2, e3⟩ := hR.2.2.2 i _ hi
  obtain ⟨q1, q2⟩ := mput_spec (G := G) hp
  have hlt : j < fs.length := by rw [e2]; exact (List.getElem?_eq_some_iff.mp hF).1
  have F := e3 j n d ty _ hF (List.getElem?_eq_getElem hlt)
  obtain ⟨T', h', X', eT', W, st⟩ := putFN X hx hZ hown w Via.refl rfl F e1 (wl.imp id fun ⟨a, b, c⟩ => ⟨a, b, by rw [hnm]; exact c⟩) K.2.2.1 (K.1 j n d ty hF).2 q1 q2 (g := mkF m pc (arL G L) ((v :: Value.ref i :: S).map (tr G))) rfl rfl (hb hby hd)
  refine ⟨T', _, ?_, ?_, Fr.snoc X' hFr (rho_ge hk), st⟩
  · rw [hs, List.length_set, Nat.sub_self, Nat.sub_self, Nat.add_zero, Nat.add_zero]; exact X'
  · rw [eT']; exact hR.wrFld K hi hF W
/-! ### arrays -/
theorem get_arr {xs : List Int32} {c : Cell} (hs : c.slots = (xs.map Value.int).toArray) (k : Nat) : c.slots[k]? = (xs[k]?).map Value.int := by rw [hs]; simp
theorem arr_size {xs : List Int32} {c : Cell} (hs : c.slots = (xs.map Value.int).toArray) : c.slots.size = xs.length := by rw [hs]; simp
theorem Ev.arraylength {i : Nat} {b : Bool} {xs : List Int32} (hd : decode (mB M) pc = .ok (.arraylength, 1)) (hi : h[i]? = some (.inr (b, xs))) (hn : Ev G M (pc + 1) L (.int xs.length.toInt32 :: S) h r) : Ev G M pc L (.ref i :: S) h r := by
  refine Ev.same rfl hn ?_
  intro p e R s m args below meth c T locs cells slots X hx hZ hown hby hml hLm hfr hlo hR
  obtain ⟨cl, A, hs⟩ := hR.2.2.2 i _ hi
  refine ⟨T, X, rfl, fun target k => X.arraylength hx A.1 (State.isArrayOf_alike hZ.alike A.2.1) (g := mkF m pc (arL G L) ((Value.ref i :: S).map (tr G))) rfl rfl (hb hby hd) target ?_⟩
  rw [arr_size hs]; exact k
theorem Ev.iaload {i : Nat} {xs : List Int32} {j v : Int32} (hd : decode (mB M) pc = .ok (.iaload, 1)) (hi : h[i]? = some (.inr (false, xs))) (hj : ¬ j < 0) (hv : xs[j.toNatClampNeg]? = some v) (hn : Ev G M (pc + 1) L (.int v :: S) h r) : Ev G M pc L (.int j :: .ref i :: S) h r := by
  refine Ev.same rfl hn ?_
  intro p e R s m args below meth c T locs cells slots X hx hZ hown hby hml hLm hfr hlo hR
  obtain ⟨cl, A, hs⟩ := hR.2.2.2 i _ hi
  have hlt := (List.getElem?_eq_some_iff.mp hv).1
  exact ⟨T, X, rfl, fun target k => X.iaload hx A.1 (State.isArrayOf_alike hZ.alike A.2.1) A.2.2 (fun q => q.elim hj fun q => absurd (arr_size hs ▸ q) (Nat.not_le.mpr hlt)) (by rw [get_arr hs, hv]; rfl) (g := mkF m pc (arL G L) ((Value.int j :: Value.ref i :: S).map (tr G))) rfl rfl (hb hby hd) target k⟩
theorem Ev.baload {i : Nat} {xs : List Int32} {j v : Int32} (hd : decode (mB M) pc = .ok (.baload, 1)) (hi : h[i]? = some (.inr (true, xs))) (hj : ¬ j < 0) (hv : xs[j.toNatClampNeg]? = some v) (hn : Ev G M (pc + 1) L (.int v :: S) h r) : Ev G M pc L (.int j :: .ref i :: S) h r := by
  refine Ev.same rfl hn ?_
  intro p e R s m args below meth c T locs cells slots X hx hZ hown hby hml hLm hfr hlo hR
  obtain ⟨cl, A, hs⟩ := hR.2.2.2 i _ hi
  have hlt := (List.getElem?_eq_some_iff.mp hv).1
  exact ⟨T, X, rfl, fun target k => X.baloadBooleans hx A.1 (State.isArrayOf_alike hZ.alike A.2.1) A.2.2 (fun q => q.elim hj fun q => absurd (arr_size hs ▸ q) (Nat.not_le.mpr hlt)) (by rw [get_arr hs, hv]; rfl) (g := mkF m pc (arL G L) ((Value.int j :: Value.ref i :: S).map (tr G))) rfl rfl (hb hby hd) target k⟩
theorem Ev.iastore {i : Nat} {xs : List Int32} {j v : Int32} (hd : decode (mB M) pc = .ok (.iastore, 1)) (hk : k0 G ≤ i) (hi : h[i]? = some (.inr (false, xs))) (hj : ¬ j < 0) (hlt : j.toNatClampNeg < xs.length) (hn : Ev G M (pc + 1) L S (h.set i (.inr (false, xs.set j.toNatClampNeg v))) r) : Ev G M pc L (.int v :: .int j :: .ref i :: S) h r := by
  have hs := hsl_set (gK G) h i (.inr (false, xs)) (.inr (false, xs.set j.toNatClampNeg v)) hi (by simp [csl])
  refine Ev.gen (by rw [List.length_set]; exact Nat.le_refl _) (by rw [hs]; exact Nat.le_refl _) rfl hn ?_
  intro p e R s m args below meth c T locs cells slots X hx hZ hown hby hml hnm hLm hfr hlo hsz hR hFr hc hsq
  obtain ⟨cl, A, hsz'⟩ := hR.2.2.2 i _ hi
  obtain ⟨T', h', X', eT', W, st⟩ := stI X hx hZ rfl A (j := j) (x := v) (fun q => q.elim hj fun q => absurd (arr_size hsz' ▸ q) (Nat.not_le.mpr hlt)) (g := mkF m pc (arL G L) ((Value.int v :: Value.int j :: Value.ref i :: S).map (tr G))) rfl rfl (hb hby hd)
  refine ⟨T', _, ?_, ?_, Fr.snoc X' hFr (rho_ge hk), st⟩
  · rw [hs, List.length_set, Nat.sub_self, Nat.sub_self, Nat.add_zero, Nat.add_zero]; exact X'
  · rw [eT']; exact hR.wrArr hi W
theorem Ev.bastore {i : Nat} {xs : List Int32} {j v : Int32} (hd : decode (mB M) pc = .ok (.bastore, 1)) (hk : k0 G ≤ i) (hi : h[i]? = some (.inr (true, xs))) (hj : ¬ j < 0) (hlt : j.toNatClampNeg < xs.length) (hn : Ev G M (pc + 1) L S (h.set i (.inr (true, xs.set j.toNatClampNeg (v &&& 1)))) r) : Ev G M pc L (.int v :: .int j :: .ref i :: S) h r := by
  have hs := hsl_set (gK G) h i (.inr (true, xs)) (.inr (true, xs.set j.toNatClampNeg (v &&& 1))) hi (by simp [csl])
  refine Ev.gen (by rw [List.length_set]; exact Nat.le_refl _) (by rw [hs]; exact Nat.le_refl _) rfl hn ?_
  intro p e R s m args below meth c T locs cells slots X hx hZ hown hby hml hnm hLm hfr hlo hsz hR hFr hc hsq
  obtain ⟨cl, A, hsz'⟩ := hR.2.2.2 i _ hi
  obtain ⟨T', h', X', eT', W, st⟩ := stZ X hx hZ rfl A (j := j) (x := v) (fun q => q.elim hj fun q => absurd (arr_size hsz' ▸ q) (Nat.not_le.mpr hlt)) (g := mkF m pc (arL G L) ((Value.int v :: Value.int j :: Value.ref i :: S).map (tr G))) rfl rfl (hb hby hd)
  refine ⟨T', _, ?_, ?_, Fr.snoc X' hFr (rho_ge hk), st⟩
  · rw [hs, List.length_set, Nat.sub_self, Nat.sub_self, Nat.add_zero, Nat.add_zero]; exact X'
  · rw [eT']; exact hR.wrArr hi W
/-! ### making -/
theorem Ev.new {idx : Nat} {fs : List Value} (K : GOk G) (w : (Jvm.Cond.classLink (mN M).cls idx (gC G)).before (gA G) (gZ G) = true) (hd : decode (mB M) pc = .ok (.new idx, 3)) (hf : fs = (gF G).map fun f => defaultValue f.2.2)
    (hn : Ev G M (pc + 3) L (.ref h.length :: S) (h ++ [.inl fs]) r) : Ev G M pc L S h r := by
  subst hf
  have hs := hsl_push (gK G) h (.inl ((gF G).map fun f => defaultValue f.2.2))
  refine Ev.gen (by simp) (by rw [hs]; exact Nat.le_add_right _ _) rfl hn ?_
  intro p e R s m args below meth c T locs cells slots X hx hZ hown hby hml hnm hLm hfr hlo hsz hR hFr hc hsq
  have el : (h ++ [(.inl ((gF G).map fun f => defaultValue f.2.2) : MCell)]).length - h.length = 1 := by simp
  have es : hsl (gK G) (h ++ [.inl ((gF G).map fun f => defaultValue f.2.2)]) - hsl (gK G) h = gK G := by rw [hs]; simp [csl]
  rw [el] at hc
  rw [es] at hsq
  obtain ⟨T', h', X', eT', E, A, D, -, st⟩ := newO X hx hZ hown w K.2.2.1 K.2.2.2 rfl (g := mkF m pc (arL G L) (S.map (tr G))) rfl (hb hby hd) hc hsq
  rw [el, es]
  have hrho : rho G h.length = T.heap.size := by rw [rho_new hR.2.1]; have := hR.1; have := hR.2.1; omega
  refine ⟨T', _, X', ?_, hFr, fun target k => st target ?_⟩
  · rw [eT']
    refine hR.push E ?_ ⟨A, by simp, fun j n d ty v hf hv => ?_⟩
    · have h1 := X'.heapSize
      have h2 : T.heap.size < h'.size := A.lt
      rw [eT'] at h1
      omega
    · rw [List.getElem?_map, hf] at hv
      cases hv
      have := D (K.1 j n d ty hf).1 (K.1 j n d ty hf).2
      have e : tr G (defaultValue ty) = defaultValue ty := by cases ty <;> rfl
      rw [e]; exact this
  · rw [← hrho]; exact k
theorem Ev.newarray {aty : ArrayType} {b : Bool} {n : Int32} {k : Nat} (w : (Jvm.Cond.arrayClass (newarray.typeOf aty)).before (gA G) (gZ G) = true) (hb' : newarray.typeOf aty = kd b) (hd : decode (mB M) pc = .ok (.newarray aty, 2)) (hn0 : ¬ n < 0) (hk : n.toNatClampNeg = k) (hcap : k ≤ 67108864)
    (hn : Ev G M (pc + 2) L (.ref h.length :: S) (h ++ [.inr (b, List.replicate k 0)]) r) : Ev G M pc L (.int n :: S) h r := by
  subst hk
  have hs := hsl_push (gK G) h (.inr (b, List.replicate n.toNatClampNeg 0))
  refine Ev.gen (by simp) (by rw [hs]; exact Nat.le_add_right _ _) rfl hn ?_
  intro p e R s m args below meth c T locs cells slots X hx hZ hown hby hml hnm hLm hfr hlo hsz hR hFr hc hsq
  have el : (h ++ [(.inr (b, List.replicate n.toNatClampNeg 0) : MCell)]).length - h.length = 1 := by simp
  have es : hsl (gK G) (h ++ [.inr (b, List.replicate n.toNatClampNeg 0)]) - hsl (gK G) h = n.toNatClampNeg := by rw [hs]; simp [csl]
  rw [el] at hc
  rw [es] at hsq
  obtain ⟨T', h', cA, X', eT', E, A, st⟩ := newP X hx hZ w rfl (g := mkF m pc (arL G L) ((Value.int n :: S).map (tr G))) rfl (hb hby hd) rfl hn0 (cap := n.toNatClampNeg) (Nat.le_refl _) (by omega) hc hsq
  rw [el, es]
  have hrho : rho G h.length = T.heap.size := by rw [rho_new hR.2.1]; have := hR.1; have := hR.2.1; omega
  refine ⟨T', _, X', ?_, hFr, fun target k => st target ?_⟩
  · rw [eT']
    refine hR.push E ?_ ⟨_, hb' ▸ A, ?_⟩
    · have h1 := X'.heapSize
      have h2 : T.heap.size < h'.size := A.lt
      rw [eT'] at h1
      omega
    · have e0 : defaultValue (kd b) = .int 0 := by cases b <;> rfl
      show Array.replicate n.toNatClampNeg (defaultValue (kd b)) = _
      rw [e0]
      simp
  · rw [← hrho]; exact k
theorem Ev.initO {idx i : Nat} (w1 : (Jvm.Cond.methodLink (mN M).cls idx Lib.objectInit).before (gA G) (gZ G) = true) (w2 : (Jvm.Cond.instanceMethod Lib.objectInit).before (gA G) (gZ G) = true) (w3 : (Jvm.Cond.code Lib.objectInit ⟨#[0xb1]⟩ 1 none).before (gA G) (gZ G) = true)
    (hd : decode (mB M) pc = .ok (.invokespecial idx, 3)) (hf : 1 ≤ mF M) (hl : (S.map fun v => v.category).sum + 12 ≤ mW M) (hn : Ev G M (pc + 3) L S h r) : Ev G M pc L (.ref i :: S) h r := by
  refine Ev.same rfl hn ?_
  intro p e R s m args below meth c T locs cells slots X hx hZ hown hby hml hLm hfr hlo hR
  obtain ⟨T', X', e', st⟩ := RoadKit.initO X hx hZ hown w1 w2 w3 rfl (g := mkF m pc (arL G L) ((Value.ref i :: S).map (tr G))) rfl (by rw [hml, ← hLm]; simp [arL]) (a := rho G i) (rest := S.map (tr G)) rfl (hb hby hd) (Nat.le_trans hf hfr) (W := (S.map fun v => v.category).sum) (by rw [tr_cats]; show 2 * 0 + _ ≤ _; omega) (by omega)
  exact ⟨T', X', e', st⟩
/-! ### calls -/
def notMH (y : Mi) : Prop := (mN y).cls ≠ "java/lang/invoke/MethodHandle" ∧ (mN y).cls ≠ "java/lang/invoke/VarHandle"
theorem mapRev (G : Ctx) (args : List Value) : (args.reverse).map (tr G) = (args.map (tr G)).reverse := by simp
theorem vList (G : Ctx) (v : Option Value) (S : List Value) : (v.map (tr G)).toList ++ S.map (tr G) = (v.toList ++ S).map (tr G) := by cases v <;> simp
theorem back_of_evc {p : Program} {e : Env} {R : Room} {s : State} {args0 : Array Value} {below : List Frame} {y : Mi} {args : List Value} {r1 : Option Value × MHeap} {hr : Heap} {W : Nat} (hC : EvC G y args h r1) (hR : Rel G hr h) (hZ : (gZ G).Warmed39 s.vm)
    (wc : (Jvm.Cond.code (mN y) (mB y) (mL y) (mR y)).before (gA G) (gZ G) = true) (wz : (Jvm.Cond.initialized (mN y).cls).before (gA G) (gZ G) = true) (hf : mF y + 1 ≤ R.frames) (hl : W + (mL y + 11) + mW y ≤ R.locals) :
    Back (gL G) R p e below s args0 (mN y) 3 W (fun A a => a = (args.map (tr G)).toArray ∧ A.U.heap = hr ∧ A.cells + (r1.2.length - h.length) ≤ R.cells ∧ A.slots + (hsl (gK G) r1.2 - hsl (gK G) h) ≤ R.slots)
      (fun A _ v B => ∃ L, (v = r1.1.map (tr G) ∧ Fr (gN G) L ∧ Rel G B.U.heap r1.2) ∧ B.locs = A.locs ++ L ∧ B.cells = A.cells + (r1.2.length - h.length) ∧ B.slots = A.slots + (hsl (gK G) r1.2 - hsl (gK G) h)) :=
  backOf (Q := fun v hp L => v = r1.1.map (tr G) ∧ Fr (gN G) L ∧ Rel G hp r1.2) (rm := { frames := mF y, cells := r1.2.length - h.length, slots := hsl (gK G) r1.2 - hsl (gK G) h, locals := mW y })
    (hC.2 [] { frames := mF y, cells := r1.2.length - h.length, slots := hsl (gK G) r1.2 - hsl (gK G) h, locals := mW y } hr (Nat.le_refl _) (Nat.le_refl _) (Nat.le_refl _) (Nat.le_refl _) hR) hZ wc wz hf hl
/-- a private method of the class -/
theorem Ev.priv {y : Mi} {idx i : Nat} {args rest : List Value} {v : Option Value} {h1 : MHeap} {fs : List Value} (K : GOk G) (hcls : (mN y).cls = gC G) (hy : notMH y)
    (wl : (Jvm.Cond.methodLink (mN M).cls idx (mN y)).before (gA G) (gZ G) = true) (wi : (Jvm.Cond.instanceMethod (mN y)).before (gA G) (gZ G) = true) (wp : (Jvm.Cond.privateMethod (mN y)).before (gA G) (gZ G) = true)
    (wc : (Jvm.Cond.code (mN y) (mB y) (mL y) (mR y)).before (gA G) (gZ G) = true) (hlen : ∀ sig, parseMethodDescriptor (mN y).desc = some sig → args.length = sig.parameters.length)
    (hd : decode (mB M) pc = .ok (.invokevirtual idx, 3)) (hi : h[i]? = some (.inl fs)) (hC : EvC G y (.ref i :: args) h (v, h1)) (hfr : mF y + 1 ≤ mF M) (hlo : (rest.map fun v => v.category).sum + (mL y + 11) + mW y ≤ mW M)
    (hS : S = args.reverse ++ .ref i :: rest) (hn : Ev G M (pc + 3) L (v.toList ++ rest) h1 r) : Ev G M pc L S h r := by
  subst hS
  refine Ev.gen hC.1.1 hC.1.2 rfl hn ?_
  intro p e R s m args0 below meth c T locs cells slots X hx hZ hown hby hml hnm hLm hfr' hlo' hsz hR hFr hc hsq
  obtain ⟨e1, -, -⟩ := hR.2.2.2 i _ hi
  obtain ⟨cell, hcell, hobj⟩ := e1.cell
  have hwi : (Jvm.Cond.instanceMethod (mN y)).before args0 s = true := mvT hZ wi
  have hpr := Jvm.Cond.privateMethod_at (mvP hZ wp (args := #[]))
  have hsel : (Jvm.Cond.selects (mN y).cls (mN y) (mN y)).before args0 s = true := by
    obtain ⟨c0, k0', q1, q2, -, q4, -⟩ := Jvm.Cond.instantiable_spec (mvT hZ K.2.2.1 (args := #[]) (s := s))
    refine selects_self_of_private (c := c0) (k := k0') (by rw [hcls]; exact q1) q2 ?_ hpr hwi hy
    simp only [Bool.or_eq_false_iff] at q4
    exact q4.1
  obtain ⟨v', vm1, ⟨T', L', k', n'⟩, -, X', ⟨Lc, ⟨rfl, hF', hR'⟩, l1, l2, l3⟩, st⟩ := X.privateBack hx (y := mN y) hown (mvT hZ wl) hwi hsel hpr (mvT hZ wc) hy
    (back_of_evc (W := (rest.map fun v => v.category).sum) hC hR hZ wc (hcls ▸ K.2.2.2) (Nat.le_trans hfr hfr') (Nat.le_trans hlo hlo')) (g := mkF m pc (arL G L) ((args.reverse ++ Value.ref i :: rest).map (tr G))) rfl (by rw [hml, ← hLm]; simp [arL]) (Steps.refl _) hcell hobj
    (argsL := args.map (tr G)) (rest := rest.map (tr G)) (fun sig hsig => by rw [List.length_map]; exact hlen sig hsig) (by simp [tr]) (by rw [tr_cats]; show 2 * 0 + _ ≤ _; omega) (hb hby hd) (fun vm1 hW1 => ⟨rfl, rfl, hc, hsq⟩)
  dsimp only [Pt.U, Pt.locs, Pt.cells, Pt.slots] at X' l1 l2 l3 st hR'
  subst l1 l2 l3
  refine ⟨T', _, X', hR', hFr.app hF', fun target k => st.trans ?_⟩
  rw [vList]
  exact k
/-- a method of the class that no one overrides -/
theorem Ev.virt {y : Mi} {idx i : Nat} {args rest : List Value} {v : Option Value} {h1 : MHeap} {fs : List Value} (K : GOk G) (hcls : (mN y).cls = gC G) (hy : notMH y)
    (wl : (Jvm.Cond.methodLink (mN M).cls idx (mN y)).before (gA G) (gZ G) = true) (wd : (Jvm.Cond.declares (mN y)).before (gA G) (gZ G) = true) (wi : (Jvm.Cond.instanceMethod (mN y)).before (gA G) (gZ G) = true) (ws : (Jvm.Cond.selects (gC G) (mN y) (mN y)).before (gA G) (gZ G) = true)
    (wc : (Jvm.Cond.code (mN y) (mB y) (mL y) (mR y)).before (gA G) (gZ G) = true) (hlen : ∀ sig, parseMethodDescriptor (mN y).desc = some sig → args.length = sig.parameters.length)
    (hd : decode (mB M) pc = .ok (.invokevirtual idx, 3)) (hi : h[i]? = some (.inl fs)) (hC : EvC G y (.ref i :: args) h (v, h1)) (hfr : mF y + 1 ≤ mF M) (hlo : (rest.map fun v => v.category).sum + (mL y + 11) + mW y ≤ mW M)
    (hS : S = args.reverse ++ .ref i :: rest) (hn : Ev G M (pc + 3) L (v.toList ++ rest) h1 r) : Ev G M pc L S h r := by
  subst hS
  refine Ev.gen hC.1.1 hC.1.2 rfl hn ?_
  intro p e R s m args0 below meth c T locs cells slots X hx hZ hown hby hml hnm hLm hfr' hlo' hsz hR hFr hc hsq
  obtain ⟨e1, -, -⟩ := hR.2.2.2 i _ hi
  obtain ⟨cq, kq, qa, qb, qc⟩ := isOf (T := T) hZ rfl e1
  obtain ⟨v', vm1, ⟨T', L', k', n'⟩, -, X', ⟨Lc, ⟨rfl, hF', hR'⟩, l1, l2, l3⟩, st⟩ := X.virtualBack hx (y := mN y) (z := mN y) hown (mvT hZ wl) (mvT hZ wd) (notFace_of_selects (args := #[]) (mvT hZ ws)) (mvT hZ ws) (mvT hZ wi) hy
    (back_of_evc (W := (rest.map fun v => v.category).sum) hC hR hZ wc (hcls ▸ K.2.2.2) (Nat.le_trans hfr hfr') (Nat.le_trans hlo hlo')) qa qc (g := mkF m pc (arL G L) ((args.reverse ++ Value.ref i :: rest).map (tr G))) rfl (by rw [hml, ← hLm]; simp [arL]) (Steps.refl _)
    (argsL := args.map (tr G)) (rest := rest.map (tr G)) (fun sig hsig => by rw [List.length_map]; exact hlen sig hsig) (by simp [tr]) (by rw [tr_cats]; show 2 * 0 + _ ≤ _; omega) (hb hby hd) (fun vm1 hW1 => ⟨rfl, rfl, hc, hsq⟩)
  dsimp only [Pt.U, Pt.locs, Pt.cells, Pt.slots] at X' l1 l2 l3 st hR'
  subst l1 l2 l3
  refine ⟨T', _, X', hR', hFr.app hF', fun target k => st.trans ?_⟩
  rw [vList]
  exact k
/-- a constructor -/
theorem Ev.ctor {y : Mi} {idx i : Nat} {args rest : List Value} {v : Option Value} {h1 : MHeap} (hy1 : (mN y).name = "<init>") (hret : mR y = none) (hy : notMH y)
    (wl : (Jvm.Cond.methodLink (mN M).cls idx (mN y)).before (gA G) (gZ G) = true) (wi : (Jvm.Cond.instanceMethod (mN y)).before (gA G) (gZ G) = true)
    (wc : (Jvm.Cond.code (mN y) (mB y) (mL y) (mR y)).before (gA G) (gZ G) = true) (wz : (Jvm.Cond.initialized (mN y).cls).before (gA G) (gZ G) = true) (hlen : ∀ sig, parseMethodDescriptor (mN y).desc = some sig → args.length = sig.parameters.length)
    (hd : decode (mB M) pc = .ok (.invokespecial idx, 3)) (hC : EvC G y (.ref i :: args) h (v, h1)) (hfr : mF y + 1 ≤ mF M) (hlo : (rest.map fun v => v.category).sum + (mL y + 11) + mW y ≤ mW M)
    (hS : S = args.reverse ++ .ref i :: rest) (hn : Ev G M (pc + 3) L (v.toList ++ rest) h1 r) : Ev G M pc L S h r := by
  subst hS
  refine Ev.gen hC.1.1 hC.1.2 rfl hn ?_
  intro p e R s m args0 below meth c T locs cells slots X hx hZ hown hby hml hnm hLm hfr' hlo' hsz hR hFr hc hsq
  obtain ⟨v', vm1, ⟨T', L', k', n'⟩, -, X', ⟨Lc, ⟨rfl, hF', hR'⟩, l1, l2, l3⟩, st⟩ := X.specialBack hx (y := mN y) hy1 hown (mvT hZ wl) (mvT hZ wi) (mvT hZ (hret ▸ wc)) hy
    (back_of_evc (W := (rest.map fun v => v.category).sum) hC hR hZ wc wz (Nat.le_trans hfr hfr') (Nat.le_trans hlo hlo')) (g := mkF m pc (arL G L) ((args.reverse ++ Value.ref i :: rest).map (tr G))) rfl (by rw [hml, ← hLm]; simp [arL]) (Steps.refl _)
    (a := rho G i) (argsL := args.map (tr G)) (rest := rest.map (tr G)) (fun sig hsig => by rw [List.length_map]; exact hlen sig hsig) (by simp [tr]) (by rw [tr_cats]; show 2 * 0 + _ ≤ _; omega) (hb hby hd) (fun vm1 hW1 => ⟨rfl, rfl, hc, hsq⟩)
  dsimp only [Pt.U, Pt.locs, Pt.cells, Pt.slots] at X' l1 l2 l3 st hR'
  subst l1 l2 l3
  refine ⟨T', _, X', hR', hFr.app hF', fun target k => st.trans ?_⟩
  rw [vList]
  exact k
/-- a static method -/
theorem Ev.stat {y : Mi} {idx : Nat} {args rest : List Value} {v : Option Value} {h1 : MHeap} (hy : notMH y)
    (wl : (Jvm.Cond.methodLink (mN M).cls idx (mN y)).before (gA G) (gZ G) = true) (wst : (Jvm.Cond.static (mN y)).before (gA G) (gZ G) = true) (wz : (Jvm.Cond.initialized (mN y).cls).before (gA G) (gZ G) = true)
    (wc : (Jvm.Cond.code (mN y) (mB y) (mL y) (mR y)).before (gA G) (gZ G) = true) (hlen : ∀ sig, parseMethodDescriptor (mN y).desc = some sig → args.length = sig.parameters.length)
    (hd : decode (mB M) pc = .ok (.invokestatic idx, 3)) (hC : EvC G y args h (v, h1)) (hfr : mF y + 1 ≤ mF M) (hlo : (rest.map fun v => v.category).sum + (mL y + 11) + mW y ≤ mW M)
    (hS : S = args.reverse ++ rest) (hn : Ev G M (pc + 3) L (v.toList ++ rest) h1 r) : Ev G M pc L S h r := by
  subst hS
  refine Ev.gen hC.1.1 hC.1.2 rfl hn ?_
  intro p e R s m args0 below meth c T locs cells slots X hx hZ hown hby hml hnm hLm hfr' hlo' hsz hR hFr hc hsq
  obtain ⟨v', vm1, ⟨T', L', k', n'⟩, -, X', ⟨Lc, ⟨rfl, hF', hR'⟩, l1, l2, l3⟩, st⟩ := Jvm.LawKit.callS X hx (y := mN y) hown (mvT hZ wl) (mvT hZ wst) (mvT hZ wz) (mvT hZ wc) hy
    (back_of_evc (W := (rest.map fun v => v.category).sum) hC hR hZ wc wz (Nat.le_trans hfr hfr') (Nat.le_trans hlo hlo')) (g := mkF m pc (arL G L) ((args.reverse ++ rest).map (tr G))) rfl (by rw [hml, ← hLm]; simp [arL])
    (argsL := args.map (tr G)) (rest := rest.map (tr G)) (fun sig hsig => by rw [List.length_map]; exact hlen sig hsig) (by simp) (by rw [tr_cats]; show 2 * 0 + _ ≤ _; omega) (hb hby hd) (fun vm1 hW1 => ⟨rfl, rfl, hc, hsq⟩)
  dsimp only [Pt.U, Pt.locs, Pt.cells, Pt.slots] at X' l1 l2 l3 st hR'
  subst l1 l2 l3
  refine ⟨T', _, X', hR', hFr.app hF', fun target k => st target ?_⟩
  rw [vList]
  exact k
/-! ### returns -/
theorem Ev.ret {v : Option Value} (st : ∀ {p : Program} {e : Env} {R : Room} {s : State} {m : MethodId} {args : Array Value} {below : List Frame} {meth : Method} {c : Code} {T : State} {locs : List Loc} {cells slots : Nat},
      Stand p (gL G) e R s m args below meth c T locs cells slots → p.tables.exec = Jvm.exec → c.code = mB M → meth.sig.returnType = mR M → ∀ fs,
      (∀ (f : JFrame) (acts : List Action), f.method = m → f.locked = none → f.entered = [] → (doReturn e (T.setTop f) acts (v.map (tr G))).1 = T.setFrames fs) → Steps p.tables e below (T.setTop (mkF m pc (arL G L) (S.map (tr G)))) (T.setFrames fs)) :
    Ev G M pc L S h (v, h) := by
  refine ⟨⟨Nat.le_refl _, Nat.le_refl _⟩, ?_⟩
  intro p e R s m args below meth c T locs cells slots X hx hZ hown hby hml hret hnm hLm hfr hlo hsz hR hF hc hs
  refine ⟨T, locs, ?_, hR, hF, st X hx hby hret⟩
  rw [Nat.sub_self, Nat.sub_self, Nat.add_zero, Nat.add_zero]
  exact X
theorem Ev.ireturn {z : Int32} (hret : mR M = some .int) (hd : decode (mB M) pc = .ok (.ireturn, 1)) : Ev G M pc L (.int z :: S) h (some (.int z), h) :=
  Ev.ret fun X hx hby hr fs hl => retOut X hx (hr.trans hret) rfl (Or.inl ⟨rfl, Or.inl rfl, z, rfl⟩) (hb hby hd) hl
theorem Ev.zreturn {z : Int32} (hret : mR M = some .boolean) (hd : decode (mB M) pc = .ok (.ireturn, 1)) : Ev G M pc L (.int z :: S) h (some (.int (z &&& 1)), h) :=
  Ev.ret fun X hx hby hr fs hl => retN X hx (t := .boolean) (hr.trans hret) (Or.inl rfl) (hb hby hd) hl
theorem Ev.lreturn {z : Int64} (hret : mR M = some .long) (hd : decode (mB M) pc = .ok (.lreturn, 1)) : Ev G M pc L (.long z :: S) h (some (.long z), h) :=
  Ev.ret fun X hx hby hr fs hl => retOut X hx (hr.trans hret) rfl (Or.inr (Or.inl ⟨rfl, rfl, z, rfl⟩)) (hb hby hd) hl
theorem Ev.vreturn (hret : mR M = none) (hd : decode (mB M) pc = .ok (.return_, 1)) : Ev G M pc L [] h (none, h) :=
  Ev.ret fun X hx hby hr fs hl => X.returnOut hx (hr.trans hret) (hb hby hd) hl
/-! ### entering -/
def margs : List Value → List Slot
  | [] => []
  | v :: vs => if v.category = 2 then .val v :: .second :: margs vs else .val v :: margs vs
theorem margs_fold (vs : List Value) : ∀ acc : Array Slot, vs.foldl (init := acc) (fun acc v => if v.category = 2 then (acc.push (.val v)).push .second else acc.push (.val v)) = acc ++ (margs vs).toArray := by
  induction vs with
  | nil => intro acc; simp [margs]
  | cons v vs ih =>
    intro acc
    rw [List.foldl_cons, ih]
    by_cases h : v.category = 2
    · simp [margs, h]
    · simp [margs, h]
theorem margs_map (G : Ctx) : ∀ vs : List Value, margs (vs.map (tr G)) = (margs vs).map (trS G)
  | [] => rfl
  | v :: vs => by
    have ih := margs_map G vs
    by_cases h : v.category = 2
    · simp only [List.map_cons, margs, tr_cat, h, if_true, ih]; rfl
    · simp only [List.map_cons, margs, tr_cat, h, if_false, ih]; rfl
def ment (args : List Value) (k : Nat) : List Slot := margs args ++ List.replicate (k - (margs args).length) .unset
theorem entry_eq (G : Ctx) (m : MethodId) (args : List Value) (k : Nat) : entryFrame m (args.map (tr G)).toArray k = mkF m 0 (arL G (ment args k)) [] := by
  have e : argsToLocals (args.map (tr G)).toArray k = arL G (ment args k) := by
    unfold argsToLocals arL ment
    have q := margs_fold (args.map (tr G)) #[]
    rw [List.foldl_toArray']
    · rw [q, margs_map]
      simp [trS]
    · simp
  unfold entryFrame
  rw [e]
theorem EvC.enter {y : Mi} {args : List Value} {L0 : List Slot} (hp : plainFor (mN y) = true) (hv : mR y = none → r.1 = none) (hL : ment args (mL y) = L0) (hlen : L0.length = mL y) (hn : Ev G y 0 L0 [] h r) : EvC G y args h r := by
  subst hL
  refine ⟨hn.1, fun ws R hr hf hl hc hs hR => ?_⟩
  refine MetFree.of_bodySF hp hisR ?_
  intro p e s m args' below meth c s₁ Bd hml0 hP hK
  obtain ⟨rfl, hZ, hh⟩ := hP
  have X0 : Stand p (gL G) e R s m _ below meth c s₁ [] 0 0 := Stand.of_body Bd
  have e0 : s₁.heap = hr := by rw [← hh, Bd.state]; rfl
  obtain ⟨T', locs', X', R', F', st⟩ := hn.2 p e R s m _ below meth c s₁ [] 0 0 X0 Bd.exec hZ (findClass_of_methodNamed Bd.named) Bd.bytes hml0 Bd.returns (name_of_methodNamed Bd.named Bd.method).1 hlen hf hl (by rw [e0, hh]; rfl) (by rw [e0]; exact hR) (Fr.nil _) (by omega) (by omega)
  rw [Nat.zero_add, Nat.zero_add] at X'
  obtain ⟨fs, hret, hrun, hended, hW, hsame⟩ := X'.leave (v := r.1.map (tr G)) (fun q => by rw [hv (Bd.returns.symm.trans q)]; rfl)
  refine ⟨_, _, castTop (entry_eq G m args (mL y)) (st fs hret), hrun, hended, _, _, rfl, ⟨rfl, F', ?_⟩, ⟨_, rfl⟩, hW, hsame⟩
  exact R'
end Rules
end Jvm.Own
namespace Jvm.Own
open Sem ClassFile Op Lib Jvm.Stand Jvm.Free Jvm.LawKit Jvm.RoadKit
/-! ## 4. An object as two functions: its ints by the field's number, its arrays by the field's number and the place -/
abbrev St := (Nat → Int32) × (Nat → Nat → Int32)
def setI (s : St) (j : Nat) (z : Int32) : St := (fun k => if k = j then z else s.1 k, s.2)
def setA (s : St) (j i : Nat) (z : Int32) : St := (s.1, fun k x => if k = j ∧ x = i then z else s.2 k x)
def zeroS : St := (fun _ => 0, fun _ _ => 0)
theorem setI_1 (s : St) (j : Nat) (z : Int32) (k : Nat) : (setI s j z).1 k = if k = j then z else s.1 k := rfl
theorem setI_2 (s : St) (j : Nat) (z : Int32) : (setI s j z).2 = s.2 := rfl
theorem setA_1 (s : St) (j i : Nat) (z : Int32) : (setA s j i z).1 = s.1 := rfl
theorem setA_2 (s : St) (j i : Nat) (z : Int32) (k x : Nat) : (setA s j i z).2 k x = if k = j ∧ x = i then z else s.2 k x := rfl
def ix (j : Int32) : Nat := j.toNatClampNeg
/-- the place j lies in an array of n -/
def inb (j : Int32) (n : Nat) : Prop := ¬ j < 0 ∧ ix j < n
instance (j : Int32) (n : Nat) : Decidable (inb j n) := inferInstanceAs (Decidable (_ ∧ _))
def bnd {α β : Type} (x : α) (f : α → β) : β := f x
theorem bnd_eq {α β : Type} (x : α) (f : α → β) : bnd x f = f x := rfl
def tab (n : Nat) (f : Nat → Int32) : List Int32 := (List.range n).map f
theorem tab_len (n : Nat) (f : Nat → Int32) : (tab n f).length = n := by simp [tab]
theorem tab_get {n : Nat} {f : Nat → Int32} {i : Nat} (h : i < n) : (tab n f)[i]? = some (f i) := by simp [tab, h]
theorem tab_set {n : Nat} {f : Nat → Int32} {i : Nat} {z : Int32} : (tab n f).set i z = tab n (fun x => if x = i then z else f x) := by
  apply List.ext_getElem?
  intro k
  rw [List.getElem?_set]
  by_cases h : i = k
  · subst h
    by_cases q : i < n
    · simp [tab, q]
    · simp [tab, q]
  · by_cases q : k < n
    · simp [tab, q, h, Ne.symm h]
    · simp [tab, q, h]
theorem tab_zero (n : Nat) : tab n (fun _ => 0) = List.replicate n 0 := by
  apply List.ext_getElem?
  intro k
  by_cases q : k < n <;> simp [tab, q]
theorem tab_of (xs : List Int32) : xs = tab xs.length (fun i => xs.getD i 0) := by
  apply List.ext_getElem?
  intro k
  by_cases q : k < xs.length
  · simp [tab, q]
  · simp [tab, q]
def isA : FieldType → Bool
  | .array _ => true
  | _ => false
def isB : FieldType → Bool
  | .boolean => true
  | _ => false
def fv1 (r : Nat → Nat) (s : St) (j : Nat) (f : Fd) : Value := match f.2.2 with
  | .array _ => .ref (r j)
  | _ => .int (s.1 j)
def fvA (r : Nat → Nat) (s : St) : Nat → List Fd → List Value
  | _, [] => []
  | j, f :: fs => fv1 r s j f :: fvA r s (j + 1) fs
theorem fvA_get (r : Nat → Nat) (s : St) : ∀ (F : List Fd) (k j : Nat), (fvA r s k F)[j]? = (F[j]?).map (fv1 r s (k + j))
  | [], _, _ => by simp [fvA]
  | f :: fs, k, 0 => by simp [fvA]
  | f :: fs, k, j + 1 => by
    have := fvA_get r s fs (k + 1) j
    simp only [fvA, List.getElem?_cons_succ, this]
    rw [show k + 1 + j = k + (j + 1) by omega]
theorem fvA_len (r : Nat → Nat) (s : St) : ∀ (F : List Fd) (k : Nat), (fvA r s k F).length = F.length
  | [], _ => rfl
  | f :: fs, k => by simp [fvA, fvA_len r s fs (k + 1)]
theorem fvA_set {r : Nat → Nat} {s : St} {F : List Fd} {j : Nat} {f : Fd} {z : Int32} (hF : F[j]? = some f) (ht : isA f.2.2 = false) : (fvA r s 0 F).set j (.int z) = fvA r (setI s j z) 0 F := by
  apply List.ext_getElem?
  intro k
  rw [List.getElem?_set, fvA_get, fvA_get, Nat.zero_add]
  by_cases h : j = k
  · subst h
    simp only [if_true, fvA_len, (List.getElem?_eq_some_iff.mp hF).1, hF, Option.map_some]
    congr 1
    unfold fv1
    split
    · rename_i t e; rw [e] at ht; cases ht
    · simp [setI_1]
  · simp only [h, if_false]
    cases F[k]? with
    | none => rfl
    | some g =>
      simp only [Option.map_some]
      congr 1
      unfold fv1
      split
      · rfl
      · rw [setI_1, if_neg (Ne.symm h)]
theorem fvA_same (r : Nat → Nat) {s s' : St} (h : s.1 = s'.1) : ∀ (F : List Fd) (k : Nat), fvA r s k F = fvA r s' k F
  | [], _ => rfl
  | f :: fs, k => by
    simp only [fvA, fvA_same r h fs (k + 1)]
    congr 1
    unfold fv1
    split
    · rfl
    · rw [h]
/-- the heap K s shows the object at o, its arrays at r, as s tells -/
def View (G : Ctx) (Ln : Nat → Nat) (K : St → MHeap) (o : Nat) (r : Nat → Nat) : Prop :=
  k0 G ≤ o ∧ (∀ s, (K s)[o]? = some (.inl (fvA r s 0 (gF G)))) ∧
  (∀ s j f z, (gF G)[j]? = some f → isA f.2.2 = false → (K s).set o (.inl ((fvA r s 0 (gF G)).set j (.int z))) = K (setI s j z)) ∧
  (∀ j n d t, (gF G)[j]? = some (n, d, .array t) → k0 G ≤ r j ∧ (∀ s, (K s)[r j]? = some (.inr (isB t, tab (Ln j) (s.2 j)))) ∧ ∀ s i z, i < Ln j → (K s).set (r j) (.inr (isB t, (tab (Ln j) (s.2 j)).set i z)) = K (setA s j i z))
section ViewRules
variable {G : Ctx} {M : Mi} {pc : Nat} {L : List Slot} {S : List Value} {rr : Option Value × MHeap} {Ln : Nat → Nat} {K : St → MHeap} {o : Nat} {r : Nat → Nat} {s : St}
theorem Ev.gI {idx j : Nat} {n d : String} {ty : FieldType} (V : View G Ln K o r) (w : (Jvm.Cond.fieldLink (mN M).cls idx (gC G) n d).before (gA G) (gZ G) = true) (hd : decode (mB M) pc = .ok (.getfield idx, 3)) (hF : (gF G)[j]? = some (n, d, ty)) (ht : isA ty = false)
    (hn : Ev G M (pc + 3) L (.int (s.1 j) :: S) (K s) rr) : Ev G M pc L (.ref o :: S) (K s) rr :=
  Ev.getfield w hd hF (V.2.1 s) (v := .int (s.1 j)) (by rw [fvA_get, hF, Nat.zero_add]; simp only [Option.map_some, fv1]; cases ty <;> first | rfl | cases ht) hn
theorem Ev.gAr {idx j : Nat} {n d : String} {t : FieldType} (V : View G Ln K o r) (w : (Jvm.Cond.fieldLink (mN M).cls idx (gC G) n d).before (gA G) (gZ G) = true) (hd : decode (mB M) pc = .ok (.getfield idx, 3)) (hF : (gF G)[j]? = some (n, d, .array t))
    (hn : Ev G M (pc + 3) L (.ref (r j) :: S) (K s) rr) : Ev G M pc L (.ref o :: S) (K s) rr :=
  Ev.getfield w hd hF (V.2.1 s) (v := .ref (r j)) (by rw [fvA_get, hF, Nat.zero_add]; rfl) hn
theorem Ev.pI {idx j : Nat} {n d : String} {z : Int32} (V : View G Ln K o r) (Kk : GOk G) (w : (Jvm.Cond.fieldLink (mN M).cls idx (gC G) n d).before (gA G) (gZ G) = true)
    (wl : (Jvm.Cond.lays (gC G) (gC G) n d).before (gA G) (gZ G) = true ∨ ((Jvm.Cond.laysFinal (gC G) (gC G) n d).before (gA G) (gZ G) = true ∧ (mN M).cls = gC G ∧ (mN M).name = "<init>"))
    (hd : decode (mB M) pc = .ok (.putfield idx, 3)) (hF : (gF G)[j]? = some (n, d, .int)) (hn : Ev G M (pc + 3) L S (K (setI s j z)) rr) : Ev G M pc L (.int z :: .ref o :: S) (K s) rr := by
  refine Ev.putfield Kk w wl hd hF V.1 (V.2.1 s) (v' := .int z) rfl ?_
  rw [V.2.2.1 s j _ z hF rfl]; exact hn
theorem Ev.pZ {idx j : Nat} {n d : String} {z : Int32} (V : View G Ln K o r) (Kk : GOk G) (w : (Jvm.Cond.fieldLink (mN M).cls idx (gC G) n d).before (gA G) (gZ G) = true)
    (wl : (Jvm.Cond.lays (gC G) (gC G) n d).before (gA G) (gZ G) = true ∨ ((Jvm.Cond.laysFinal (gC G) (gC G) n d).before (gA G) (gZ G) = true ∧ (mN M).cls = gC G ∧ (mN M).name = "<init>"))
    (hd : decode (mB M) pc = .ok (.putfield idx, 3)) (hF : (gF G)[j]? = some (n, d, .boolean)) (hn : Ev G M (pc + 3) L S (K (setI s j (z &&& 1))) rr) : Ev G M pc L (.int z :: .ref o :: S) (K s) rr := by
  refine Ev.putfield Kk w wl hd hF V.1 (V.2.1 s) (v' := .int (z &&& 1)) rfl ?_
  rw [V.2.2.1 s j _ _ hF rfl]; exact hn
theorem Ev.ial {j : Nat} {n d : String} {i : Int32} {N : Nat} (V : View G Ln K o r) (hF : (gF G)[j]? = some (n, d, .array .int)) (hN : Ln j = N) (hd : decode (mB M) pc = .ok (.iaload, 1)) (hb : inb i N) (hn : Ev G M (pc + 1) L (.int (s.2 j (ix i)) :: S) (K s) rr) : Ev G M pc L (.int i :: .ref (r j) :: S) (K s) rr :=
  Ev.iaload hd ((V.2.2.2 j n d _ hF).2.1 s) hb.1 (tab_get (hN ▸ hb.2)) hn
theorem Ev.bal {j : Nat} {n d : String} {i : Int32} {N : Nat} (V : View G Ln K o r) (hF : (gF G)[j]? = some (n, d, .array .boolean)) (hN : Ln j = N) (hd : decode (mB M) pc = .ok (.baload, 1)) (hb : inb i N) (hn : Ev G M (pc + 1) L (.int (s.2 j (ix i)) :: S) (K s) rr) : Ev G M pc L (.int i :: .ref (r j) :: S) (K s) rr :=
  Ev.baload hd ((V.2.2.2 j n d _ hF).2.1 s) hb.1 (tab_get (hN ▸ hb.2)) hn
theorem Ev.ias {j : Nat} {n d : String} {i z : Int32} {N : Nat} (V : View G Ln K o r) (hF : (gF G)[j]? = some (n, d, .array .int)) (hN : Ln j = N) (hd : decode (mB M) pc = .ok (.iastore, 1)) (hb : inb i N) (hn : Ev G M (pc + 1) L S (K (setA s j (ix i) z)) rr) : Ev G M pc L (.int z :: .int i :: .ref (r j) :: S) (K s) rr := by
  obtain ⟨q1, q2, q3⟩ := V.2.2.2 j n d _ hF
  refine Ev.iastore hd q1 (q2 s) hb.1 (by rw [tab_len, hN]; exact hb.2) ?_
  have := q3 s (ix i) z (hN ▸ hb.2)
  exact this ▸ hn
theorem Ev.bas {j : Nat} {n d : String} {i z : Int32} {N : Nat} (V : View G Ln K o r) (hF : (gF G)[j]? = some (n, d, .array .boolean)) (hN : Ln j = N) (hd : decode (mB M) pc = .ok (.bastore, 1)) (hb : inb i N) (hn : Ev G M (pc + 1) L S (K (setA s j (ix i) (z &&& 1))) rr) : Ev G M pc L (.int z :: .int i :: .ref (r j) :: S) (K s) rr := by
  obtain ⟨q1, q2, q3⟩ := V.2.2.2 j n d _ hF
  refine Ev.bastore hd q1 (q2 s) hb.1 (by rw [tab_len, hN]; exact hb.2) ?_
  have := q3 s (ix i) (z &&& 1) (hN ▸ hb.2)
  exact this ▸ hn
theorem Ev.sal {h : MHeap} {i : Int32} {N k : Nat} {f : Nat → Int32} (hs : h[k]? = some (.inr (false, tab N f))) (hd : decode (mB M) pc = .ok (.iaload, 1)) (hb : inb i N) (hn : Ev G M (pc + 1) L (.int (f (ix i)) :: S) h rr) : Ev G M pc L (.int i :: .ref k :: S) h rr :=
  Ev.iaload hd hs hb.1 (tab_get hb.2) hn
theorem Ev.sln {h : MHeap} {N k : Nat} {f : Nat → Int32} (hs : h[k]? = some (.inr (false, tab N f))) (hd : decode (mB M) pc = .ok (.arraylength, 1)) (hn : Ev G M (pc + 1) L (.int N.toInt32 :: S) h rr) : Ev G M pc L (.ref k :: S) h rr :=
  Ev.arraylength hd hs (by rw [tab_len]; exact hn)
theorem Ev.zret1 {h : MHeap} (hret : mR M = some .boolean) (hd : decode (mB M) pc = .ok (.ireturn, 1)) : Ev G M pc L (.int 1 :: S) h (some (.int 1), h) := Ev.zreturn hret hd
theorem Ev.zret0 {h : MHeap} (hret : mR M = some .boolean) (hd : decode (mB M) pc = .ok (.ireturn, 1)) : Ev G M pc L (.int 0 :: S) h (some (.int 0), h) := Ev.zreturn hret hd
/-- a slot over which an int may be stored at once -/
def one1 : Slot → Bool
  | .unset => true
  | .val v => v.category == 1
  | .second => false
theorem mst_one {l : List Slot} {i : Nat} {v : Value} {o : Slot} (ho : l[i]? = some o) (h1 : one1 o = true) (hv : v.category = 1) : mst l i v = some (l.set i (.val v)) := by
  have hlt := (List.getElem?_eq_some_iff.mp ho).1
  have e : lstoreSelf l i v = some (l.set i (.val v)) := by simp [lstoreSelf, lsetAt, hlt, hv]
  unfold mst
  rw [ho]
  cases o with
  | unset => exact e
  | second => cases h1
  | val w =>
    have : w.category = 1 := by simpa [one1] using h1
    simp only [this]
    exact e
theorem Ev.istD {k : Nat} {v : Int32} {L' : List Slot} {o : Slot} {h : MHeap} (hd : decode (mB M) pc = .ok (.istore k, 2)) (ho : L[k]? = some o) (h1 : one1 o = true) (hl : L.set k (.val (.int v)) = L') (hn : Ev G M (pc + 2) L' S h rr) : Ev G M pc L (.int v :: S) h rr :=
  Ev.istore hd (by rw [mst_one ho h1 rfl, hl]) hn
theorem Ev.istDN {k : Fin 4} {v : Int32} {L' : List Slot} {o : Slot} {h : MHeap} (hd : decode (mB M) pc = .ok (.istore_n k, 1)) (ho : L[k.val]? = some o) (h1 : one1 o = true) (hl : L.set k.val (.val (.int v)) = L') (hn : Ev G M (pc + 1) L' S h rr) : Ev G M pc L (.int v :: S) h rr :=
  Ev.istoreN hd (by rw [mst_one ho h1 rfl, hl]) hn
/-- a pair of slots over which a long may be stored at once -/
def two2 (a b : Slot) : Prop := (one1 a = true ∧ one1 b = true) ∨ (∃ x, a = .val (.long x) ∧ b = .second)
theorem set_set2 {l : List Slot} {i : Nat} {a b c : Slot} : ((l.set (i + 1) a).set i b).set (i + 1) c = (l.set i b).set (i + 1) c := by
  rw [List.set_comm _ _ (by omega : i + 1 ≠ i), List.set_set]
theorem mst_two {l : List Slot} {i : Nat} {v : Int64} {o o' : Slot} (ho : l[i]? = some o) (ho' : l[i + 1]? = some o') (h2 : two2 o o') : mst l i (.long v) = some ((l.set i (.val (.long v))).set (i + 1) .second) := by
  have hlt := (List.getElem?_eq_some_iff.mp ho).1
  have hlt' := (List.getElem?_eq_some_iff.mp ho').1
  rcases h2 with ⟨h1, h1'⟩ | ⟨x, rfl, rfl⟩
  · have e : lstoreSelf l i (.long v) = some ((l.set i (.val (.long v))).set (i + 1) .second) := by
      have q : (l.set i (.val (.long v)))[i + 1]? = some o' := by rw [List.getElem?_set_ne (by omega)]; exact ho'
      have hcat : (Value.long v).category = 2 := rfl
      simp only [lstoreSelf, lsetAt, hlt, if_true, hcat, q]
      cases o' with
      | unset => simp [hlt']
      | second => cases h1'
      | val w =>
        have : w.category = 1 := by simpa [one1] using h1'
        simp [this, hlt']
    unfold mst
    rw [ho]
    cases o with
    | unset => exact e
    | second => cases h1
    | val w =>
      have : w.category = 1 := by simpa [one1] using h1
      simp only [this]
      exact e
  · unfold mst
    rw [ho]
    have q : ((l.set (i + 1) Slot.unset).set i (.val (.long v)))[i + 1]? = some .unset := by
      rw [List.getElem?_set_ne (by omega), List.getElem?_set_self hlt']
    simp only [Value.category, if_true, lsetAt, hlt', lstoreSelf, List.length_set, hlt, q, set_set2]
theorem Ev.lstD {k : Nat} {v : Int64} {L' : List Slot} {o o' : Slot} {h : MHeap} (hd : decode (mB M) pc = .ok (.lstore k, 2)) (ho : L[k]? = some o) (ho' : L[k + 1]? = some o') (h2 : two2 o o') (hl : (L.set k (.val (.long v))).set (k + 1) .second = L') (hn : Ev G M (pc + 2) L' S h rr) : Ev G M pc L (.long v :: S) h rr :=
  Ev.lstore hd (by rw [mst_two ho ho' h2, hl]) hn
theorem Ev.lstDN {k : Fin 4} {v : Int64} {L' : List Slot} {o o' : Slot} {h : MHeap} (hd : decode (mB M) pc = .ok (.lstore_n k, 1)) (ho : L[k.val]? = some o) (ho' : L[k.val + 1]? = some o') (h2 : two2 o o') (hl : (L.set k.val (.val (.long v))).set (k.val + 1) .second = L') (hn : Ev G M (pc + 1) L' S h rr) : Ev G M pc L (.long v :: S) h rr :=
  Ev.lstoreN hd (by rw [mst_two ho ho' h2, hl]) hn
end ViewRules
/-! ## 5. One object among others -/
/-- al: the array fields in the order in which the constructor makes them, each with 'of booleans' -/
def rA (o : Nat) (al : List (Nat × Bool)) (j : Nat) : Nat := o + 1 + al.findIdx (fun q => q.1 == j)
def arr1 (Ln : Nat → Nat) (s : St) (q : Nat × Bool) : MCell := .inr (q.2, tab (Ln q.1) (s.2 q.1))
def KO (F : List Fd) (al : List (Nat × Bool)) (Ln : Nat → Nat) (o : Nat) (s : St) : MHeap := .inl (fvA (rA o al) s 0 F) :: al.map (arr1 Ln s)
def KH (F : List Fd) (al : List (Nat × Bool)) (Ln : Nat → Nat) (pre post : MHeap) (s : St) : MHeap := pre ++ (KO F al Ln pre.length s ++ post)
def alOk (F : List Fd) (al : List (Nat × Bool)) : Bool := (List.range F.length).all (fun j => match F[j]? with
  | some (_, _, .array t) => al[al.findIdx (fun q => q.1 == j)]? == some (j, isB t)
  | _ => true)
theorem KO_len {F : List Fd} {al : List (Nat × Bool)} {Ln : Nat → Nat} {o : Nat} {s : St} : (KO F al Ln o s).length = al.length + 1 := by simp [KO]
theorem app_get (pre post l : MHeap) (k : Nat) (h : k < l.length) : (pre ++ (l ++ post))[pre.length + k]? = l[k]? := by
  rw [List.getElem?_append_right (by omega), Nat.add_sub_cancel_left, List.getElem?_append_left h]
theorem app_set (pre post l : MHeap) (k : Nat) (c : MCell) (h : k < l.length) : (pre ++ (l ++ post)).set (pre.length + k) c = pre ++ (l.set k c ++ post) := by
  rw [List.set_append_right _ _ (by omega), Nat.add_sub_cancel_left, List.set_append_left _ _ h]
theorem view_of {G : Ctx} {al : List (Nat × Bool)} {Ln : Nat → Nat} {pre post : MHeap} (hk : k0 G ≤ pre.length) (h1 : alOk (gF G) al = true) (h2 : (al.map (·.1)).Nodup) :
    View G Ln (KH (gF G) al Ln pre post) pre.length (rA pre.length al) := by
  refine ⟨hk, fun s => ?_, fun s j f z hF ht => ?_, fun j n d t hF => ?_⟩
  · have := app_get pre post (KO (gF G) al Ln pre.length s) 0 (by rw [KO_len]; omega)
    exact this
  · have := app_set pre post (KO (gF G) al Ln pre.length s) 0 (.inl ((fvA (rA pre.length al) s 0 (gF G)).set j (.int z))) (by rw [KO_len]; omega)
    refine Eq.trans this ?_
    show pre ++ ((.inl _ :: al.map (arr1 Ln s)) ++ post) = pre ++ ((.inl _ :: al.map (arr1 Ln (setI s j z))) ++ post)
    rw [fvA_set hF ht]
    rfl
  · have hj : j < (gF G).length := (List.getElem?_eq_some_iff.mp hF).1
    have hq := List.all_eq_true.mp h1 j (List.mem_range.mpr hj)
    simp only [hF, beq_iff_eq] at hq
    have hlt := (List.getElem?_eq_some_iff.mp hq).1
    have hlen : ∀ s, al.findIdx (fun q => q.1 == j) + 1 < (KO (gF G) al Ln pre.length s).length := fun s => by rw [KO_len]; omega
    have hr : rA pre.length al j = pre.length + (al.findIdx (fun q => q.1 == j) + 1) := by unfold rA; omega
    refine ⟨by rw [hr]; omega, fun s => ?_, fun s i z hi => ?_⟩
    · rw [hr]
      refine (app_get pre post _ _ (hlen s)).trans ?_
      show (al.map (arr1 Ln s))[al.findIdx fun q => q.1 == j]? = _
      rw [List.getElem?_map, hq]
      rfl
    · rw [hr]
      refine (app_set pre post _ _ _ (hlen s)).trans ?_
      show pre ++ ((.inl (fvA (rA pre.length al) s 0 (gF G)) :: (al.map (arr1 Ln s)).set (al.findIdx fun q => q.1 == j) (.inr (isB t, (tab (Ln j) (s.2 j)).set i z))) ++ post) = pre ++ ((.inl (fvA (rA pre.length al) (setA s j i z) 0 (gF G)) :: al.map (arr1 Ln (setA s j i z))) ++ post)
      rw [fvA_same (s := s) (s' := setA s j i z) _ rfl]
      congr 3
      apply List.ext_getElem?
      intro k
      rw [List.getElem?_set, List.getElem?_map, List.getElem?_map, List.length_map]
      by_cases e : al.findIdx (fun q => q.1 == j) = k
      · subst e
        simp only [if_true, hlt, hq, Option.map_some, arr1, tab_set]
        congr 4
        funext x
        rw [setA_2]
        simp
      · simp only [e, if_false]
        cases hk2 : al[k]? with
        | none => rfl
        | some q =>
          simp only [Option.map_some, arr1]
          have ne : q.1 ≠ j := fun hqj => by
            have a1 : (al.map (·.1))[al.findIdx (fun q => q.1 == j)]? = some j := by rw [List.getElem?_map, hq]; rfl
            have a2 : (al.map (·.1))[k]? = some j := by rw [List.getElem?_map, hk2]; simp [hqj]
            have := (List.getElem?_inj (by rw [List.length_map]; exact hlt) h2).mp (a1.trans a2.symm)
            exact e this
          congr 4
          funext x
          rw [setA_2]
          simp [ne]
/-! ### while the constructor makes the arrays -/
def cons (pre : MHeap) (fs : List Value) (as : List (Bool × List Int32)) : MHeap := pre ++ (.inl fs :: as.map .inr)
section ConsRules
variable {G : Ctx} {M : Mi} {pc : Nat} {L : List Slot} {S : List Value} {rr : Option Value × MHeap} {pre : MHeap} {fs fs' : List Value} {as : List (Bool × List Int32)}
theorem cons_get : (cons pre fs as)[pre.length]? = some (.inl fs) := by unfold cons; rw [List.getElem?_append_right (Nat.le_refl _), Nat.sub_self]; rfl
theorem cons_set (c : List Value) : (cons pre fs as).set pre.length (.inl c) = cons pre c as := by unfold cons; rw [List.set_append_right _ _ (Nat.le_refl _), Nat.sub_self]; rfl
theorem cons_len : (cons pre fs as).length = pre.length + 1 + as.length := by simp [cons]; omega
theorem cons_push (b : Bool) (xs : List Int32) : cons pre fs as ++ [.inr (b, xs)] = cons pre fs (as ++ [(b, xs)]) := by simp [cons]
theorem Ev.cput {idx j : Nat} {n d : String} {ty : FieldType} {v v' : Value} (K : GOk G) (hk : k0 G ≤ pre.length) (w : (Jvm.Cond.fieldLink (mN M).cls idx (gC G) n d).before (gA G) (gZ G) = true)
    (wl : (Jvm.Cond.lays (gC G) (gC G) n d).before (gA G) (gZ G) = true ∨ ((Jvm.Cond.laysFinal (gC G) (gC G) n d).before (gA G) (gZ G) = true ∧ (mN M).cls = gC G ∧ (mN M).name = "<init>"))
    (hd : decode (mB M) pc = .ok (.putfield idx, 3)) (hF : (gF G)[j]? = some (n, d, ty)) (hp : mput ty v = some v') (hs : fs.set j v' = fs') (hn : Ev G M (pc + 3) L S (cons pre fs' as) rr) : Ev G M pc L (v :: .ref pre.length :: S) (cons pre fs as) rr := by
  subst hs
  refine Ev.putfield K w wl hd hF hk cons_get hp ?_
  rw [cons_set]; exact hn
theorem Ev.cget {idx j : Nat} {n d : String} {ty : FieldType} {v : Value} (w : (Jvm.Cond.fieldLink (mN M).cls idx (gC G) n d).before (gA G) (gZ G) = true) (hd : decode (mB M) pc = .ok (.getfield idx, 3)) (hF : (gF G)[j]? = some (n, d, ty)) (hv : fs[j]? = some v)
    (hn : Ev G M (pc + 3) L (v :: S) (cons pre fs as) rr) : Ev G M pc L (.ref pre.length :: S) (cons pre fs as) rr := Ev.getfield w hd hF cons_get hv hn
theorem Ev.cnew {aty : ArrayType} {b : Bool} {n : Int32} {k q : Nat} {as' : List (Bool × List Int32)} (w : (Jvm.Cond.arrayClass (newarray.typeOf aty)).before (gA G) (gZ G) = true) (hb' : newarray.typeOf aty = kd b) (hd : decode (mB M) pc = .ok (.newarray aty, 2)) (hn0 : ¬ n < 0) (hk : n.toNatClampNeg = k) (hcap : k ≤ 67108864)
    (hq : as.length = q) (has : as ++ [(b, tab k (fun _ => 0))] = as') (hn : Ev G M (pc + 2) L (.ref (pre.length + 1 + q) :: S) (cons pre fs as') rr) : Ev G M pc L (.int n :: S) (cons pre fs as) rr := by
  subst hq has
  refine Ev.newarray w hb' hd hn0 hk hcap ?_
  rw [cons_push, cons_len, ← tab_zero]; exact hn
end ConsRules
theorem forall_get {P : Nat → Fd → Prop} : ∀ (F : List Fd) (k : Nat), (∀ j f, F[j]? = some f → P (k + j) f) → True := fun _ _ _ => trivial
def AllF (P : Fd → Prop) : List Fd → Prop
  | [] => True
  | f :: fs => P f ∧ AllF P fs
theorem AllF.mem {P : Fd → Prop} : ∀ {F : List Fd}, AllF P F → ∀ f ∈ F, P f
  | _ :: _, ⟨h1, h2⟩, f, hf => (List.mem_cons.mp hf).elim (fun e => e ▸ h1) (AllF.mem h2 f)
theorem gok_of {G : Ctx} (h1 : AllF (fun f => Laid (gZ G) (gA G) (gC G) (gC G) f.1 f.2.1 ∧ parseFieldDescriptor f.2.1 = some f.2.2) (gF G)) (h2 : ((gF G).map (·.1)).Nodup)
    (h3 : (Jvm.Cond.instantiable (gC G) (gK G)).before (gA G) (gZ G) = true) (h4 : (Jvm.Cond.initialized (gC G)).before (gA G) (gZ G) = true) : GOk G := by
  refine ⟨fun j n d ty hF => h1.mem _ (List.mem_of_getElem? hF), fun j j' f f' hF hF' ne e => ne ?_, h3, h4⟩
  have a1 : ((gF G).map (·.1))[j]? = some f.1 := by rw [List.getElem?_map, hF]; rfl
  have a2 : ((gF G).map (·.1))[j']? = some f.1 := by rw [List.getElem?_map, hF', e]; rfl
  exact (List.getElem?_inj (by rw [List.length_map]; exact (List.getElem?_eq_some_iff.mp hF).1) h2).mp (a1.trans a2.symm)
end Jvm.Own
namespace Jvm.Own
open Sem ClassFile Op Lib Jvm.Stand Jvm.Free Jvm.LawKit Jvm.RoadKit
def grd {α : Type} (c : Prop) [Decidable c] (x : Option α) : Option α := if c then x else none
theorem grd_some {α : Type} {c : Prop} [Decidable c] {x : Option α} {w : α} (h : grd c x = some w) : c ∧ x = some w := by
  unfold grd at h; split at h
  · exact ⟨by assumption, h⟩
  · cases h
theorem grd_pos {α : Type} {c : Prop} [Decidable c] {x : Option α} (h : c) : grd c x = x := if_pos h
theorem KH_len (F : List Fd) (al : List (Nat × Bool)) (Ln : Nat → Nat) (pre post : MHeap) (s : St) : (KH F al Ln pre post s).length = pre.length + (al.length + 1 + post.length) := by simp [KH, KO]; omega
theorem hsl_app (k : Nat) (a b : MHeap) : hsl k (a ++ b) = hsl k a + hsl k b := by simp [hsl]
theorem hsl_arr (k : Nat) (Ln : Nat → Nat) (s : St) : ∀ al : List (Nat × Bool), hsl k (al.map (arr1 Ln s)) = (al.map fun q => Ln q.1).sum
  | [] => rfl
  | q :: al => by
    have := hsl_arr k Ln s al
    simp only [hsl, List.map_cons, List.sum_cons] at this ⊢
    rw [this]
    simp [arr1, csl, tab_len]
theorem hsl_KH (k : Nat) (F : List Fd) (al : List (Nat × Bool)) (Ln : Nat → Nat) (pre post : MHeap) (s : St) : hsl k (KH F al Ln pre post s) = hsl k pre + (k + (al.map fun q => Ln q.1).sum + hsl k post) := by
  unfold KH
  rw [hsl_app, hsl_app]
  have : hsl k (KO F al Ln pre.length s) = k + (al.map fun q => Ln q.1).sum := by
    have := hsl_arr k Ln s al
    simp only [KO, hsl, List.map_cons, List.sum_cons, csl] at this ⊢
    rw [this]
  rw [this]
theorem ne_lit {x z : Int32} {k : Int} (h : ¬ x = z) (e : z.toInt = k) : x.toInt ≠ k := fun q => h (Int32.toInt_inj.mp (q.trans e.symm))
section
variable {G : Ctx} {M : Mi} {pc : Nat} {L : List Slot} {S : List Value} {rr : Option Value × MHeap}
theorem Ev.astD {k v : Nat} {L' : List Slot} {o : Slot} {h : MHeap} (hd : decode (mB M) pc = .ok (.astore k, 2)) (ho : L[k]? = some o) (h1 : one1 o = true) (hl : L.set k (.val (.ref v)) = L') (hn : Ev G M (pc + 2) L' S h rr) : Ev G M pc L (.ref v :: S) h rr :=
  Ev.astore hd (by rw [mst_one ho h1 rfl, hl]) hn
theorem Ev.astDN {k : Fin 4} {v : Nat} {L' : List Slot} {o : Slot} {h : MHeap} (hd : decode (mB M) pc = .ok (.astore_n k, 1)) (ho : L[k.val]? = some o) (h1 : one1 o = true) (hl : L.set k.val (.val (.ref v)) = L') (hn : Ev G M (pc + 1) L' S h rr) : Ev G M pc L (.ref v :: S) h rr :=
  Ev.astoreN hd (by rw [mst_one ho h1 rfl, hl]) hn
end
end Jvm.Own
namespace Jvm.Own
open Sem ClassFile Op Lib Jvm.Stand Jvm.Free Jvm.LawKit Jvm.RoadKit
section
variable {G : Ctx} {M : Mi} {pc : Nat} {L : List Slot} {S : List Value} {rr : Option Value × MHeap}
theorem mst_T {l : List Slot} {i : Nat} {v : Value} {o o' : Slot} (ho : l[i]? = some o) (ho' : l[i + 1]? = some o') (h2 : two2 o o') (hv : v.category = 1) : ∃ b, one1 b = true ∧ mst l i v = some ((l.set i (.val v)).set (i + 1) b) := by
  have hlt := (List.getElem?_eq_some_iff.mp ho).1
  have hlt' := (List.getElem?_eq_some_iff.mp ho').1
  rcases h2 with ⟨h1, h1'⟩ | ⟨x, rfl, rfl⟩
  · refine ⟨o', h1', ?_⟩
    rw [mst_one ho h1 hv]
    congr 1
    apply List.ext_getElem?
    intro k
    by_cases e : i + 1 = k
    · subst e
      rw [List.getElem?_set_self (by simpa using hlt'), List.getElem?_set_ne (by omega), ho']
    · rw [List.getElem?_set_ne e]
  · refine ⟨.unset, rfl, ?_⟩
    unfold mst
    rw [ho]
    have c2 : (Value.long x).category = 2 := rfl
    simp only [c2, if_true, lsetAt, hlt', lstoreSelf, List.length_set, hlt, hv]
    rw [List.set_comm _ _ (by omega : i + 1 ≠ i)]
    simp
theorem Ev.istT {k : Nat} {v : Int32} {L' : Slot → List Slot} {o o' : Slot} {h : MHeap} (hd : decode (mB M) pc = .ok (.istore k, 2)) (ho : L[k]? = some o) (ho' : L[k + 1]? = some o') (h2 : two2 o o') (hl : ∀ b, (L.set k (.val (.int v))).set (k + 1) b = L' b) (hn : ∀ b, one1 b = true → Ev G M (pc + 2) (L' b) S h rr) : Ev G M pc L (.int v :: S) h rr := by
  obtain ⟨b, h1, e⟩ := mst_T (v := .int v) ho ho' h2 rfl
  exact Ev.istore hd e (by rw [hl]; exact hn b h1)
theorem Ev.istTN {k : Fin 4} {v : Int32} {L' : Slot → List Slot} {o o' : Slot} {h : MHeap} (hd : decode (mB M) pc = .ok (.istore_n k, 1)) (ho : L[k.val]? = some o) (ho' : L[k.val + 1]? = some o') (h2 : two2 o o') (hl : ∀ b, (L.set k.val (.val (.int v))).set (k.val + 1) b = L' b) (hn : ∀ b, one1 b = true → Ev G M (pc + 1) (L' b) S h rr) : Ev G M pc L (.int v :: S) h rr := by
  obtain ⟨b, h1, e⟩ := mst_T (v := .int v) ho ho' h2 rfl
  exact Ev.istoreN hd e (by rw [hl]; exact hn b h1)
end
section
variable {G : Ctx} {Ln : Nat → Nat} {K : St → MHeap} {o len : Nat} {r : Nat → Nat} {F : List Fd} {al : List (Nat × Bool)}
theorem View.le (V : View G Ln K o r) (s : St) : k0 G ≤ (K s).length := Nat.le_trans V.1 (Nat.le_of_lt (List.getElem?_eq_some_iff.mp (V.2.1 s)).1)
theorem View.app (V : View G Ln K o r) (X : MHeap) : View G Ln (fun s => K s ++ X) o r := by
  refine ⟨V.1, fun s => ?_, fun s j f z hF ht => ?_, fun j n d t hF => ?_⟩
  · show (K s ++ X)[o]? = _
    rw [List.getElem?_append_left (List.getElem?_eq_some_iff.mp (V.2.1 s)).1]; exact V.2.1 s
  · show (K s ++ X).set o _ = _
    rw [List.set_append_left _ _ (List.getElem?_eq_some_iff.mp (V.2.1 s)).1, V.2.2.1 s j f z hF ht]
  · obtain ⟨q1, q2, q3⟩ := V.2.2.2 j n d t hF
    refine ⟨q1, fun s => ?_, fun s i z hi => ?_⟩
    · show (K s ++ X)[r j]? = _
      rw [List.getElem?_append_left (List.getElem?_eq_some_iff.mp (q2 s)).1]; exact q2 s
    · show (K s ++ X).set (r j) _ = _
      rw [List.set_append_left _ _ (List.getElem?_eq_some_iff.mp (q2 s)).1, q3 s i z hi]
theorem View.app2 (V : View G Ln K o r) (hl : ∀ s, (K s).length = len) (t : St) : View G Ln (fun s => KH F al Ln (K s) [] t) o r := by
  have e : (fun s => KH F al Ln (K s) [] t) = fun s => K s ++ (KO F al Ln len t ++ []) := by
    funext s; unfold KH; rw [hl]
  rw [e]
  exact V.app _
theorem app2_get (V : View G Ln K o r) {s t : St} {c : MCell} (h : (K s)[0]? = some c) : (KH F al Ln (K s) [] t)[0]? = some c := by
  unfold KH
  rw [List.getElem?_append_left (List.getElem?_eq_some_iff.mp h).1]; exact h
end
end Jvm.Own
namespace Jvm.Own
open Sem ClassFile Op Lib Jvm.Stand Jvm.Free Jvm.LawKit Jvm.RoadKit
def toI : Value → Int32
  | .int z => z
  | _ => 0
theorem script_rel {s : State} {a : Nat} {cl : Cell} {args : Array Value} {l : Launch} {C : String} {F : List Fd} {k : Nat} (hf : Fit s) (A : Arr s s.heap a cl .int) :
    ∃ xs : List Int32, xs.length = cl.slots.size ∧ Rel (s, args, l, some a, s.heap.size, C, F, k) s.heap [.inr (false, tab xs.length (fun i => xs.getD i 0))] := by
  have hl : (cl.slots.toList.map toI).length = cl.slots.size := by simp
  refine ⟨cl.slots.toList.map toI, hl, rfl, Nat.le_refl _, fun a' q => by cases q; exact A.lt, fun i c q => ?_⟩
  match i, q with
  | 0, q =>
    cases q
    refine ⟨cl, A, ?_⟩
    rw [← tab_of]
    apply Array.ext'
    apply List.ext_getElem?
    intro j
    simp only [List.map_map, List.getElem?_map]
    cases hj : cl.slots.toList[j]? with
    | none => rfl
    | some v =>
      have hj' : cl.slots[j]? = some v := by simpa using hj
      obtain ⟨hlt, hv⟩ := Array.getElem?_eq_some_iff.mp hj'
      have q := hf A.1 hlt
      obtain ⟨hs, kk, hk, comp, hkind⟩ := A.2.1
      have e : s.slotType? cl.cls cl.vm j = some .int := by
        cases hq : cl.vm <;> first | exact absurd hq (hs _) | simp [State.slotType?, hk, hkind]
      have q2 : fits .int v = true := by rw [hv] at q; simpa [State.fitsSlot, e] using q
      obtain ⟨z, rfl⟩ := fit_I q2 (Or.inl rfl)
      rfl
theorem script_len {s : State} {args : Array Value} {t : Term} {a : Nat} {cl : Cell} (A : Arr s s.heap a cl .int) (ea : t.eval args s none [] s = some (.ref a)) (h1 : (Jvm.Cond.isInt (.length t)).value args s none s [] = some true) (h2 : (Jvm.Cond.le (.length t) (.int 260)).value args s none s [] = some true) : cl.slots.size ≤ 260 := by
  obtain ⟨z, ez⟩ := is_v h1
  have ha := A.fin (Vm.Alike.refl s.vm)
  have hlen : cl.slots.size < 2 ^ 31 := by
    rcases Nat.lt_or_ge cl.slots.size (2 ^ 31) with q | q
    · exact q
    · simp [Term.eval, ea, ha, Nat.not_lt.mpr q] at ez
  have e1 := len_f ea ha hlen
  have q : cl.slots.size.toInt32 ≤ 260 := by
    have := Cond.le_ints e1 (Term.int_eval (260 : Int32)) (args := args) (first := s) (o := none) (s := s) (idx := [])
    exact gotT this h2
  have q2 := Int32.le_iff_toInt_le.mp q
  rw [len_toInt hlen] at q2
  have : (260 : Int32).toInt = 260 := by decide
  omega
end Jvm.Own
namespace Jvm.Own
open Sem ClassFile Op Lib Jvm.Stand Jvm.Free Jvm.LawKit Jvm.RoadKit
def decs (b : ByteArray) : List (Nat × Instr × Nat) → Bool
  | [] => true
  | q :: t => decide (decode b q.1 = .ok (q.2.1, q.2.2)) && decs b t
theorem dget {b : ByteArray} : ∀ {l : List (Nat × Instr × Nat)}, decs b l = true → ∀ {k p : Nat} {i : Instr} {n : Nat}, l[k]? = some (p, i, n) → decode b p = .ok (i, n)
  | [], _, k, _, _, _, hk => by simp at hk
  | q :: t, h, 0, p, i, n, hk => by
    simp only [decs, Bool.and_eq_true, decide_eq_true_eq] at h
    simp only [List.getElem?_cons_zero, Option.some.injEq] at hk
    subst hk
    exact h.1
  | q :: t, h, k + 1, p, i, n, hk => by
    simp only [decs, Bool.and_eq_true] at h
    exact dget h.2 (by simpa using hk)
end Jvm.Own
namespace Jvm.Own
/-! ## 6. Ints of 32 bits and naturals -/
theorem N_toInt {i : Nat} (h : i < 2147483648) : (Int32.ofNat i).toInt = i := Int32.toInt_ofNat_of_lt h
theorem N_lt {i j : Nat} (hi : i < 2147483648) (hj : j < 2147483648) : Int32.ofNat i < Int32.ofNat j ↔ i < j := by
  rw [Int32.lt_iff_toInt_lt, N_toInt hi, N_toInt hj]; omega
theorem N_inj {i j : Nat} (hi : i < 2147483648) (hj : j < 2147483648) : Int32.ofNat i = Int32.ofNat j ↔ i = j := by
  rw [← Int32.toInt_inj, N_toInt hi, N_toInt hj]; omega
theorem N_succ (i : Nat) : Int32.ofNat i + 1 = Int32.ofNat (i + 1) := (Int32.ofNat_add i 1).symm
theorem N_add (i j : Nat) : Int32.ofNat i + Int32.ofNat j = Int32.ofNat (i + j) := (Int32.ofNat_add i j).symm
theorem N_mul (i j : Nat) : Int32.ofNat i * Int32.ofNat j = Int32.ofNat (i * j) := (Int32.ofNat_mul i j).symm
theorem N_neg {i : Nat} (h : i < 2147483648) : ¬ Int32.ofNat i < 0 := by
  rw [Int32.lt_iff_toInt_lt, N_toInt h]; simp
theorem ix_N {i : Nat} (h : i < 2147483648) : ix (Int32.ofNat i) = i := by
  unfold ix Int32.toNatClampNeg; rw [N_toInt h]; simp
theorem inb_N {i n : Nat} (h : i < 2147483648) : inb (Int32.ofNat i) n ↔ i < n := by
  unfold inb; rw [ix_N h]; exact ⟨fun q => q.2, fun q => ⟨N_neg h, q⟩⟩
theorem ix_toInt {x : Int32} (h : ¬ x < 0) : (ix x : Int) = x.toInt := by
  unfold ix Int32.toNatClampNeg
  rw [Int32.lt_iff_toInt_lt] at h
  have : (0 : Int32).toInt = 0 := rfl
  omega
theorem ix_lt (x : Int32) : ix x < 2147483648 := by
  unfold ix Int32.toNatClampNeg
  have := Int32.toInt_lt x
  omega
theorem N_ix {x : Int32} (h : ¬ x < 0) : Int32.ofNat (ix x) = x := by
  rw [← Int32.toInt_inj, N_toInt (ix_lt x), ix_toInt h]
theorem ix_eq {x y : Int32} (hx : ¬ x < 0) (hy : ¬ y < 0) : ix x = ix y ↔ x = y := by
  refine ⟨fun e => ?_, fun e => e ▸ rfl⟩
  rw [← N_ix hx, ← N_ix hy, e]
theorem rng (x : Int32) : -2147483648 ≤ x.toInt ∧ x.toInt < 2147483648 := ⟨Int32.le_toInt x, Int32.toInt_lt x⟩
theorem lt_I {x y : Int32} : x < y ↔ x.toInt < y.toInt := Int32.lt_iff_toInt_lt
theorem le_I {x y : Int32} : x ≤ y ↔ x.toInt ≤ y.toInt := Int32.le_iff_toInt_le
theorem eq_I {x y : Int32} : x = y ↔ x.toInt = y.toInt := Int32.toInt_inj.symm
theorem bmod_eq {x : Int} (h1 : -2147483648 ≤ x) (h2 : x < 2147483648) : x.bmod (2 ^ 32) = x := by
  apply Int.bmod_eq_of_le <;> omega
theorem add_I {x y : Int32} (h1 : -2147483648 ≤ x.toInt + y.toInt) (h2 : x.toInt + y.toInt < 2147483648) : (x + y).toInt = x.toInt + y.toInt := by
  rw [Int32.toInt_add]; exact bmod_eq h1 h2
theorem sub_I {x y : Int32} (h1 : -2147483648 ≤ x.toInt - y.toInt) (h2 : x.toInt - y.toInt < 2147483648) : (x - y).toInt = x.toInt - y.toInt := by
  rw [Int32.toInt_sub]; exact bmod_eq h1 h2
theorem mul_I {x y : Int32} (h1 : -2147483648 ≤ x.toInt * y.toInt) (h2 : x.toInt * y.toInt < 2147483648) : (x * y).toInt = x.toInt * y.toInt := by
  rw [Int32.toInt_mul]; exact bmod_eq h1 h2
theorem inb_I {x : Int32} {n : Nat} (h1 : 0 ≤ x.toInt) (h2 : x.toInt < n) : inb x n := by
  have h : ¬ x < 0 := by rw [lt_I]; have : (0 : Int32).toInt = 0 := rfl; omega
  refine ⟨h, ?_⟩
  have := ix_toInt h
  omega
/-- an int between 0 and n is one of them -/
theorem cases_N {x : Int32} {n : Nat} (hn : n < 2147483648) (h0 : ¬ x < 0) (h1 : x < Int32.ofNat n) : ∃ i, i < n ∧ x = Int32.ofNat i := by
  refine ⟨ix x, ?_, (N_ix h0).symm⟩
  have a := ix_toInt h0
  rw [lt_I, N_toInt hn] at h1
  omega
/-! ## 7. Loops that count from i to N -/
def itr {α : Type} (f : Nat → α → α) : Nat → Nat → α → α
  | _, 0, s => s
  | i, m + 1, s => itr f (i + 1) m (f i s)
theorem loopN {α β : Type} {F : Nat → Int32 → α → Option β} {N : Nat} {f : Nat → α → α} {fin : α → Option β}
    (hF : ∀ k i s, i < N → F (k + 1) (Int32.ofNat i) s = F k (Int32.ofNat i + 1) (f i s)) (hE : ∀ k s, F (k + 1) (Int32.ofNat N) s = fin s) :
    ∀ m i k s, i + m = N → m < k → F k (Int32.ofNat i) s = fin (itr f i m s) := by
  intro m
  induction m with
  | zero =>
    intro i k s hi hk
    obtain ⟨k, rfl⟩ : ∃ k', k = k' + 1 := ⟨k - 1, by omega⟩
    have : i = N := by omega
    subst this
    exact hE k s
  | succ m ih =>
    intro i k s hi hk
    obtain ⟨k, rfl⟩ : ∃ k', k = k' + 1 := ⟨k - 1, by omega⟩
    rw [hF k i s (by omega), N_succ]
    exact ih (i + 1) k _ (by omega) (by omega)
theorem itr_ind {α : Type} {f : Nat → α → α} {P : Nat → α → Prop} {N : Nat} (h : ∀ i s, i < N → P i s → P (i + 1) (f i s)) : ∀ m i s, i + m = N → P i s → P N (itr f i m s) := by
  intro m
  induction m with
  | zero => intro i s hi hp; have : i = N := by omega
            subst this; exact hp
  | succ m ih => intro i s hi hp; exact ih (i + 1) _ (by omega) (h i s (by omega) hp)
theorem itr_pt {f : Nat → St → St} {u : Nat → Int32 → Int32} (h1 : ∀ i s, (f i s).1 = s.1) (h2 : ∀ i s k x, (f i s).2 k x = if x = i then u k (s.2 k x) else s.2 k x) :
    ∀ m i s, itr f i m s = (s.1, fun k x => if i ≤ x ∧ x < i + m then u k (s.2 k x) else s.2 k x) := by
  intro m
  induction m with
  | zero =>
    intro i s
    refine Prod.ext rfl ?_
    funext k x
    have : ¬ (i ≤ x ∧ x < i + 0) := by omega
    simp only [this, if_false]
    rfl
  | succ m ih =>
    intro i s
    show itr f (i + 1) m (f i s) = _
    rw [ih]
    refine Prod.ext (h1 i s) ?_
    funext k x
    simp only [h2]
    by_cases e : x = i
    · subst e
      have a : ¬ (x + 1 ≤ x ∧ x < x + 1 + m) := by omega
      have b : x ≤ x ∧ x < x + (m + 1) := by omega
      simp only [a, b, if_false, if_true, and_self]
    · have : (i + 1 ≤ x ∧ x < i + 1 + m) ↔ (i ≤ x ∧ x < i + (m + 1)) := by omega
      simp only [this, e, if_false]
theorem itr_fill (K : Nat) (z : Int32) (m : Nat) (s : St) : itr (fun i s => setA s K i z) 0 m s = (s.1, fun k x => if k = K ∧ x < m then z else s.2 k x) := by
  rw [itr_pt (f := fun i s => setA s K i z) (u := fun k v => if k = K then z else v) (fun _ _ => rfl) (fun i s j x => by
    simp only [setA_2]
    by_cases e : x = i <;> by_cases e1 : j = K <;> simp [e, e1])]
  refine Prod.ext rfl ?_
  funext k x
  have : (0 ≤ x ∧ x < 0 + m) ↔ x < m := by omega
  simp only [this]
  by_cases e : x < m <;> by_cases e1 : k = K <;> simp [e, e1]
theorem and_rng (x : Int32) {m : Nat} (hm : m < 2147483648) : 0 ≤ (x &&& Int32.ofNat m).toInt ∧ (x &&& Int32.ofNat m).toInt ≤ m := by
  have h1 : (x &&& Int32.ofNat m).toBitVec.toNat ≤ m := by
    rw [Int32.toBitVec_and, BitVec.toNat_and]
    refine Nat.le_trans Nat.and_le_right ?_
    show (BitVec.ofNat 32 m).toNat ≤ m
    rw [BitVec.toNat_ofNat]
    exact Nat.mod_le _ _
  have h2 : (x &&& Int32.ofNat m).toInt = ((x &&& Int32.ofNat m).toBitVec.toNat : Int) := by
    show (x &&& Int32.ofNat m).toBitVec.toInt = _
    exact BitVec.toInt_eq_toNat_of_lt (by omega)
  omega
theorem idx8 {o p : Int32} (h0 : ¬ o < 0) (h3 : ¬ 3 < o) : inb (o * 8 + (p &&& 7)) 32 := by
  have a := and_rng p (m := 7) (by omega)
  rw [show Int32.ofNat 7 = (7 : Int32) from rfl] at a
  rw [lt_I] at h0 h3
  have e0 : (0 : Int32).toInt = 0 := rfl
  have e3 : (3 : Int32).toInt = 3 := rfl
  have e8 : (8 : Int32).toInt = 8 := rfl
  have em : (o * 8).toInt = o.toInt * 8 := by rw [mul_I] <;> rw [e8] <;> omega
  have ea : (o * 8 + (p &&& 7)).toInt = o.toInt * 8 + (p &&& 7).toInt := by rw [add_I] <;> rw [em] <;> omega
  exact inb_I (by omega) (by omega)
theorem idx8' {o p : Int32} (h0 : ¬ o < 0) (h3 : ¬ 3 < o) (g0 : ¬ p < 0) (g7 : ¬ 7 < p) : inb (o * 8 + p) 32 ∧ (o * 8 + p).toInt = o.toInt * 8 + p.toInt := by
  rw [lt_I] at h0 h3 g0 g7
  have e0 : (0 : Int32).toInt = 0 := rfl
  have e3 : (3 : Int32).toInt = 3 := rfl
  have e7 : (7 : Int32).toInt = 7 := rfl
  have e8 : (8 : Int32).toInt = 8 := rfl
  have em : (o * 8).toInt = o.toInt * 8 := by rw [mul_I] <;> rw [e8] <;> omega
  have ea : (o * 8 + p).toInt = o.toInt * 8 + p.toInt := by rw [add_I] <;> rw [em] <;> omega
  exact ⟨inb_I (by omega) (by omega), ea⟩
theorem inb_le {x : Int32} {m : Int32} {n : Nat} (h0 : ¬ x < 0) (h1 : ¬ m < x) (hm : m.toInt < n) : inb x n := by
  rw [lt_I] at h0 h1
  have e0 : (0 : Int32).toInt = 0 := rfl
  exact inb_I (by omega) (by omega)
theorem inb_lt {x : Int32} {m : Int32} {n : Nat} (h0 : ¬ x < 0) (h1 : x < m) (hm : m.toInt ≤ n) : inb x n := by
  rw [lt_I] at h0 h1
  have e0 : (0 : Int32).toInt = 0 := rfl
  exact inb_I (by omega) (by omega)
theorem rem_N {a N : Nat} (ha : a < 2147483648) (hN : N < 2147483648) (h0 : 0 < N) : Int32.ofNat a % Int32.ofNat N = Int32.ofNat (a % N) := by
  have h1 : a % N < N := Nat.mod_lt _ h0
  rw [← Int32.toInt_inj, Int32.toInt_mod, N_toInt ha, N_toInt hN, N_toInt (by omega)]
  rw [Int.tmod_eq_emod_of_nonneg (by omega)]
  rfl
/-- the rule of a loop that counts from i to N: P before each turn; Q of what it gives -/
theorem loopP {α β : Type} {F : Nat → Int32 → α → Option β} {N : Nat} {P : Nat → α → Prop} {Q : β → Prop}
    (hF : ∀ k i s, i < N → P i s → (∃ s', F (k + 1) (Int32.ofNat i) s = F k (Int32.ofNat i + 1) s' ∧ P (i + 1) s') ∨ ∃ r, F (k + 1) (Int32.ofNat i) s = some r ∧ Q r)
    (hE : ∀ k s, P N s → ∃ r, F (k + 1) (Int32.ofNat N) s = some r ∧ Q r) :
    ∀ m i k s, i + m = N → m < k → P i s → ∃ r, F k (Int32.ofNat i) s = some r ∧ Q r := by
  intro m
  induction m with
  | zero =>
    intro i k s hi hk hp
    obtain ⟨k, rfl⟩ : ∃ k', k = k' + 1 := ⟨k - 1, by omega⟩
    have : i = N := by omega
    subst this
    exact hE k s hp
  | succ m ih =>
    intro i k s hi hk hp
    obtain ⟨k, rfl⟩ : ∃ k', k = k' + 1 := ⟨k - 1, by omega⟩
    rcases hF k i s (by omega) hp with ⟨s', e, hp'⟩ | h
    · rw [e, N_succ]
      exact ih (i + 1) k s' (by omega) (by omega) hp'
    · exact h
theorem ltN {i j : Nat} (h : i < j) (hj : j < 2147483648) : Int32.ofNat i < Int32.ofNat j := (N_lt (by omega) hj).mpr h
theorem ltZ {i : Nat} {z : Int32} (N : Nat) (hz : Int32.ofNat N = z) (h : i < N) (hN : N < 2147483648) : Int32.ofNat i < z := hz ▸ ltN h hN
theorem nltN {i : Nat} (hi : i < 2147483648) : ¬ Int32.ofNat i < Int32.ofNat i := fun q => by rw [N_lt hi hi] at q; omega
theorem inbN {i n : Nat} (h : i < n) (hi : i < 2147483648) : inb (Int32.ofNat i) n := (inb_N hi).mpr h
def own_cl (a lo hi : Int32) : Int32 := if a < lo then lo else if hi < a then hi else a
theorem own_cl_rng {a lo hi : Int32} (h : ¬ hi < lo) : lo.toInt ≤ (own_cl a lo hi).toInt ∧ (own_cl a lo hi).toInt ≤ hi.toInt := by
  unfold own_cl
  rw [lt_I] at h
  split
  · omega
  · rename_i q; rw [lt_I] at q
    split
    · omega
    · rename_i q2; rw [lt_I] at q2; omega
theorem own_nat {x : Int32} {lo hi : Nat} (h1 : (lo : Int) ≤ x.toInt) (h2 : x.toInt ≤ hi) : ∃ N : Nat, x = Int32.ofNat N ∧ lo ≤ N ∧ N ≤ hi := by
  have := rng x
  refine ⟨x.toInt.toNat, ?_, by omega, by omega⟩
  rw [← Int32.toInt_inj, N_toInt (by omega)]; omega
theorem own_clN (a : Int32) {lo hi : Nat} (h : lo ≤ hi) (hi' : hi < 2147483648) : ∃ N : Nat, own_cl a (Int32.ofNat lo) (Int32.ofNat hi) = Int32.ofNat N ∧ lo ≤ N ∧ N ≤ hi := by
  have q := own_cl_rng (a := a) (lo := Int32.ofNat lo) (hi := Int32.ofNat hi) (fun q => by rw [N_lt (by omega) (by omega)] at q; omega)
  rw [N_toInt (by omega), N_toInt (by omega)] at q
  exact own_nat q.1 q.2
end Jvm.Own
namespace Jvm.Pilot.@@N@@
open Jvm Jvm.ClassFile Sem Op Lib Jvm.Free Jvm.Stand Jvm.LawKit Jvm.RoadKit Bundle Jvm.Pilot.@@N@@.Jvm.D Jvm.Own
/-! ### the class and its words (printed by a program of this repo) -/
abbrev GT := State × Array Value × Launch × Option Addr × Nat
def flds : List Fd := [("root", "[I", FieldType.array FieldType.int), ("pendCode", "[I", FieldType.array FieldType.int), ("choice", "[I", FieldType.array FieldType.int), ("fix", "[I", FieldType.array FieldType.int), ("digit", "[I", FieldType.array FieldType.int), ("lvl", "[I", FieldType.array FieldType.int), ("kid", "[I", FieldType.array FieldType.int), ("uniq", "[I", FieldType.array FieldType.int), ("mark", "[Z", FieldType.array FieldType.boolean), ("remap", "[I", FieldType.array FieldType.int), ("cnt", "[I", FieldType.array FieldType.int), ("buf", "[I", FieldType.array FieldType.int), ("allowT", "[Z", FieldType.array FieldType.boolean), ("memoA", "[I", FieldType.array FieldType.int), ("memoB", "[I", FieldType.array FieldType.int), ("memoR", "[I", FieldType.array FieldType.int), ("memoUsed", "[Z", FieldType.array FieldType.boolean), ("stU", "[I", FieldType.array FieldType.int), ("stV", "[I", FieldType.array FieldType.int), ("stPh", "[I", FieldType.array FieldType.int), ("n", "I", FieldType.int), ("d", "I", FieldType.int), ("top", "I", FieldType.int), ("depth", "I", FieldType.int), ("pending", "Z", FieldType.boolean), ("pendArity", "I", FieldType.int), ("pendA", "I", FieldType.int), ("pendB", "I", FieldType.int), ("pendC", "I", FieldType.int), ("pendCount", "I", FieldType.int), ("sp", "I", FieldType.int)]
def GG (g : GT) : Ctx := (g.1, g.2.1, g.2.2.1, g.2.2.2.1, g.2.2.2.2, "MddConfigurator", flds, 31)
def HW (g : GT) : Prop := ∀ d ∈ tables_1, d.before g.2.1 g.1 = true
def al : List (Nat × Bool) := [(0, false), (1, false), (2, false), (3, false), (4, false), (5, false), (6, false), (7, false), (8, true), (9, false), (10, false), (11, false), (12, true), (13, false), (14, false), (15, false), (16, true), (17, false), (18, false), (19, false)]
def Ln (j : Nat) : Nat := [9, 16, 5, 5, 5, 2048, 8192, 4096, 2048, 2048, 2048, 1024, 64, 1024, 1024, 1024, 1024, 64, 64, 64, 0, 0, 0, 0, 0, 0, 0, 0, 0, 0, 0].getD j 0
def dfl : List Value := [.null, .null, .null, .null, .null, .null, .null, .null, .null, .null, .null, .null, .null, .null, .null, .null, .null, .null, .null, .null, .int 0, .int 0, .int 0, .int 0, .int 0, .int 0, .int 0, .int 0, .int 0, .int 0, .int 0]
theorem ww {g : GT} (hw : HW g) (k : Nat) {d : Jvm.Cond} (h : tables_1[k]? = some d) : d.before (gA (GG g)) (gZ (GG g)) = true := hw _ (List.mem_of_getElem? h)
theorem fld_nd : (flds.map (·.1)).Nodup := by decide +kernel
theorem al_ok : alOk flds al = true := by decide +kernel
theorem al_nd : (al.map (·.1)).Nodup := by decide +kernel
theorem gok {g : GT} (hw : HW g) : GOk (GG g) := gok_of ⟨⟨Or.inl (ww hw 15 rfl), by decide⟩, ⟨Or.inl (ww hw 17 rfl), by decide⟩, ⟨Or.inl (ww hw 19 rfl), by decide⟩, ⟨Or.inl (ww hw 21 rfl), by decide⟩, ⟨Or.inl (ww hw 23 rfl), by decide⟩, ⟨Or.inl (ww hw 25 rfl), by decide⟩, ⟨Or.inl (ww hw 27 rfl), by decide⟩, ⟨Or.inl (ww hw 29 rfl), by decide⟩, ⟨Or.inl (ww hw 32 rfl), by decide⟩, ⟨Or.inl (ww hw 34 rfl), by decide⟩, ⟨Or.inl (ww hw 36 rfl), by decide⟩, ⟨Or.inl (ww hw 38 rfl), by decide⟩, ⟨Or.inl (ww hw 40 rfl), by decide⟩, ⟨Or.inl (ww hw 42 rfl), by decide⟩, ⟨Or.inl (ww hw 44 rfl), by decide⟩, ⟨Or.inl (ww hw 46 rfl), by decide⟩, ⟨Or.inl (ww hw 48 rfl), by decide⟩, ⟨Or.inl (ww hw 50 rfl), by decide⟩, ⟨Or.inl (ww hw 52 rfl), by decide⟩, ⟨Or.inl (ww hw 54 rfl), by decide⟩, ⟨Or.inl (ww hw 56 rfl), by decide⟩, ⟨Or.inl (ww hw 58 rfl), by decide⟩, ⟨Or.inl (ww hw 60 rfl), by decide⟩, ⟨Or.inl (ww hw 66 rfl), by decide⟩, ⟨Or.inl (ww hw 68 rfl), by decide⟩, ⟨Or.inl (ww hw 137 rfl), by decide⟩, ⟨Or.inl (ww hw 139 rfl), by decide⟩, ⟨Or.inl (ww hw 141 rfl), by decide⟩, ⟨Or.inl (ww hw 143 rfl), by decide⟩, ⟨Or.inl (ww hw 145 rfl), by decide⟩, ⟨Or.inl (ww hw 189 rfl), by decide⟩, trivial⟩ fld_nd (ww hw 1 rfl) (ww hw 2 rfl)
theorem pcls : plainName "MddConfigurator" = true := by first | (simp [plainName, overriddenIn]; done) | decide +kernel
theorem pclsL : plainName "MddConfiguratorOwnLaw" = true := by first | (simp [plainName, overriddenIn]; done) | decide +kernel
theorem nmh : "MddConfigurator" ≠ "java/lang/invoke/MethodHandle" ∧ "MddConfigurator" ≠ "java/lang/invoke/VarHandle" := by decide
theorem nmhL : "MddConfiguratorOwnLaw" ≠ "java/lang/invoke/MethodHandle" ∧ "MddConfiguratorOwnLaw" ≠ "java/lang/invoke/VarHandle" := by decide
def M_hcell : Mi := ((⟨"MddConfiguratorOwnLaw", "cell", "([II)I"⟩ : MethodName), method_2_code, 2, (some .int), 0, 0)
theorem pl_hcell : plainFor (mN M_hcell) = true := plainFor_of_name pclsL
theorem nm_hcell : notMH M_hcell := nmhL
theorem pd_hcell : parseMethodDescriptor (mN M_hcell).desc = some ⟨[.array .int, .int], some .int⟩ := by decide +kernel
def M_clearUnique : Mi := ((⟨"MddConfigurator", "clearUnique", "()V"⟩ : MethodName), prog_1_method_21_code, 2, none, 0, 0)
theorem pl_clearUnique : plainFor (mN M_clearUnique) = true := plainFor_of_name pcls
theorem nm_clearUnique : notMH M_clearUnique := nmh
theorem pd_clearUnique : parseMethodDescriptor (mN M_clearUnique).desc = some ⟨[], none⟩ := by decide +kernel
def M_ctor : Mi := ((⟨"MddConfigurator", "<init>", "(II)V"⟩ : MethodName), prog_1_method_1_code, 4, none, 1, 13)
theorem pl_ctor : plainFor (mN M_ctor) = true := plainFor_of_name pcls
theorem nm_ctor : notMH M_ctor := nmh
theorem pd_ctor : parseMethodDescriptor (mN M_ctor).desc = some ⟨[.int, .int], none⟩ := by decide +kernel
def M_numVars : Mi := ((⟨"MddConfigurator", "numVars", "()I"⟩ : MethodName), prog_1_method_2_code, 1, (some .int), 0, 0)
theorem pl_numVars : plainFor (mN M_numVars) = true := plainFor_of_name pcls
theorem nm_numVars : notMH M_numVars := nmh
theorem pd_numVars : parseMethodDescriptor (mN M_numVars).desc = some ⟨[], some .int⟩ := by decide +kernel
def M_domainSize : Mi := ((⟨"MddConfigurator", "domainSize", "()I"⟩ : MethodName), prog_1_method_3_code, 1, (some .int), 0, 0)
theorem pl_domainSize : plainFor (mN M_domainSize) = true := plainFor_of_name pcls
theorem nm_domainSize : notMH M_domainSize := nmh
theorem pd_domainSize : parseMethodDescriptor (mN M_domainSize).desc = some ⟨[], some .int⟩ := by decide +kernel
def M_loadChoices : Mi := ((⟨"MddConfigurator", "loadChoices", "()V"⟩ : MethodName), prog_1_method_46_code, 2, none, 0, 0)
theorem pl_loadChoices : plainFor (mN M_loadChoices) = true := plainFor_of_name pcls
theorem nm_loadChoices : notMH M_loadChoices := nmh
theorem pd_loadChoices : parseMethodDescriptor (mN M_loadChoices).desc = some ⟨[], none⟩ := by decide +kernel
def M_gap : Mi := ((⟨"MddConfigurator", "gap", "(II)I"⟩ : MethodName), prog_1_method_47_code, 5, (some .int), 0, 0)
theorem pl_gap : plainFor (mN M_gap) = true := plainFor_of_name pcls
theorem nm_gap : notMH M_gap := nmh
theorem pd_gap : parseMethodDescriptor (mN M_gap).desc = some ⟨[.int, .int], some .int⟩ := by decide +kernel
def M_nodeCount : Mi := ((⟨"MddConfigurator", "nodeCount", "(I)I"⟩ : MethodName), prog_1_method_49_code, 7, (some .int), 1, 16)
theorem pl_nodeCount : plainFor (mN M_nodeCount) = true := plainFor_of_name pcls
theorem nm_nodeCount : notMH M_nodeCount := nmh
theorem pd_nodeCount : parseMethodDescriptor (mN M_nodeCount).desc = some ⟨[.int], some .int⟩ := by decide +kernel
def M_countFixed : Mi := ((⟨"MddConfigurator", "countFixed", "()I"⟩ : MethodName), prog_1_method_48_code, 3, (some .int), 2, 36)
theorem pl_countFixed : plainFor (mN M_countFixed) = true := plainFor_of_name pcls
theorem nm_countFixed : notMH M_countFixed := nmh
theorem pd_countFixed : parseMethodDescriptor (mN M_countFixed).desc = some ⟨[], some .int⟩ := by decide +kernel
def M_count : Mi := ((⟨"MddConfigurator", "count", "()I"⟩ : MethodName), prog_1_method_14_code, 1, (some .int), 3, 50)
theorem pl_count : plainFor (mN M_count) = true := plainFor_of_name pcls
theorem nm_count : notMH M_count := nmh
theorem pd_count : parseMethodDescriptor (mN M_count).desc = some ⟨[], some .int⟩ := by decide +kernel
def M_validVar : Mi := ((⟨"MddConfigurator", "validVar", "(I)Z"⟩ : MethodName), prog_1_method_18_code, 2, (some .boolean), 0, 0)
theorem pl_validVar : plainFor (mN M_validVar) = true := plainFor_of_name pcls
theorem nm_validVar : notMH M_validVar := nmh
theorem pd_validVar : parseMethodDescriptor (mN M_validVar).desc = some ⟨[.int], some .boolean⟩ := by decide +kernel
def M_chosenValue : Mi := ((⟨"MddConfigurator", "chosenValue", "(I)I"⟩ : MethodName), prog_1_method_12_code, 2, (some .int), 1, 13)
theorem pl_chosenValue : plainFor (mN M_chosenValue) = true := plainFor_of_name pcls
theorem nm_chosenValue : notMH M_chosenValue := nmh
theorem pd_chosenValue : parseMethodDescriptor (mN M_chosenValue).desc = some ⟨[.int], some .int⟩ := by decide +kernel
def M_validValue : Mi := ((⟨"MddConfigurator", "validValue", "(I)Z"⟩ : MethodName), prog_1_method_19_code, 2, (some .boolean), 0, 0)
theorem pl_validValue : plainFor (mN M_validValue) = true := plainFor_of_name pcls
theorem nm_validValue : notMH M_validValue := nmh
theorem pd_validValue : parseMethodDescriptor (mN M_validValue).desc = some ⟨[.int], some .boolean⟩ := by decide +kernel
def M_countWith : Mi := ((⟨"MddConfigurator", "countWith", "(II)I"⟩ : MethodName), prog_1_method_15_code, 3, (some .int), 3, 50)
theorem pl_countWith : plainFor (mN M_countWith) = true := plainFor_of_name pcls
theorem nm_countWith : notMH M_countWith := nmh
theorem pd_countWith : parseMethodDescriptor (mN M_countWith).desc = some ⟨[.int, .int], some .int⟩ := by decide +kernel
def M_offeredMask : Mi := ((⟨"MddConfigurator", "offeredMask", "(I)I"⟩ : MethodName), prog_1_method_13_code, 4, (some .int), 4, 64)
theorem pl_offeredMask : plainFor (mN M_offeredMask) = true := plainFor_of_name pcls
theorem nm_offeredMask : notMH M_offeredMask := nmh
theorem pd_offeredMask : parseMethodDescriptor (mN M_offeredMask).desc = some ⟨[.int], some .int⟩ := by decide +kernel
def M_hcheck : Mi := ((⟨"MddConfiguratorOwnLaw", "check", "(LMddConfigurator;)Z"⟩ : MethodName), method_4_code, 12, (some .boolean), 5, 79)
theorem pl_hcheck : plainFor (mN M_hcheck) = true := plainFor_of_name pclsL
theorem nm_hcheck : notMH M_hcheck := nmhL
theorem pd_hcheck : parseMethodDescriptor (mN M_hcheck).desc = some ⟨[.object "MddConfigurator"], some .boolean⟩ := by decide +kernel
def M_hpick : Mi := ((⟨"MddConfiguratorOwnLaw", "pick", "(II)I"⟩ : MethodName), method_3_code, 2, (some .int), 0, 0)
theorem pl_hpick : plainFor (mN M_hpick) = true := plainFor_of_name pclsL
theorem nm_hpick : notMH M_hpick := nmhL
theorem pd_hpick : parseMethodDescriptor (mN M_hpick).desc = some ⟨[.int, .int], some .int⟩ := by decide +kernel
def M_beginTable : Mi := ((⟨"MddConfigurator", "beginTable", "(III)I"⟩ : MethodName), prog_1_method_4_code, 5, (some .int), 1, 13)
theorem pl_beginTable : plainFor (mN M_beginTable) = true := plainFor_of_name pcls
theorem nm_beginTable : notMH M_beginTable := nmh
theorem pd_beginTable : parseMethodDescriptor (mN M_beginTable).desc = some ⟨[.int, .int, .int], some .int⟩ := by decide +kernel
def M_addTuple : Mi := ((⟨"MddConfigurator", "addTuple", "(III)I"⟩ : MethodName), prog_1_method_5_code, 6, (some .int), 1, 13)
theorem pl_addTuple : plainFor (mN M_addTuple) = true := plainFor_of_name pcls
theorem nm_addTuple : notMH M_addTuple := nmh
theorem pd_addTuple : parseMethodDescriptor (mN M_addTuple).desc = some ⟨[.int, .int, .int], some .int⟩ := by decide +kernel
def M_ensureRoom : Mi := ((⟨"MddConfigurator", "ensureRoom", "()V"⟩ : MethodName), prog_1_method_26_code, 1, none, 0, 0)
theorem pl_ensureRoom : plainFor (mN M_ensureRoom) = true := plainFor_of_name pcls
theorem nm_ensureRoom : notMH M_ensureRoom := nmh
theorem pd_ensureRoom : parseMethodDescriptor (mN M_ensureRoom).desc = some ⟨[], none⟩ := by decide +kernel
def M_pow : Mi := ((⟨"MddConfigurator", "pow", "(I)I"⟩ : MethodName), prog_1_method_20_code, 4, (some .int), 0, 0)
theorem pl_pow : plainFor (mN M_pow) = true := plainFor_of_name pcls
theorem nm_pow : notMH M_pow := nmh
theorem pd_pow : parseMethodDescriptor (mN M_pow).desc = some ⟨[.int], some .int⟩ := by decide +kernel
def M_decode : Mi := ((⟨"MddConfigurator", "decode", "(I)V"⟩ : MethodName), prog_1_method_31_code, 4, none, 0, 0)
theorem pl_decode : plainFor (mN M_decode) = true := plainFor_of_name pcls
theorem nm_decode : notMH M_decode := nmh
theorem pd_decode : parseMethodDescriptor (mN M_decode).desc = some ⟨[.int], none⟩ := by decide +kernel
def M_scopeCode : Mi := ((⟨"MddConfigurator", "scopeCode", "()I"⟩ : MethodName), prog_1_method_32_code, 2, (some .int), 0, 0)
theorem pl_scopeCode : plainFor (mN M_scopeCode) = true := plainFor_of_name pcls
theorem nm_scopeCode : notMH M_scopeCode := nmh
theorem pd_scopeCode : parseMethodDescriptor (mN M_scopeCode).desc = some ⟨[], some .int⟩ := by decide +kernel
def M_hashOf : Mi := ((⟨"MddConfigurator", "hashOf", "(IIIII)I"⟩ : MethodName), prog_1_method_22_code, 7, (some .int), 0, 0)
theorem pl_hashOf : plainFor (mN M_hashOf) = true := plainFor_of_name pcls
theorem nm_hashOf : notMH M_hashOf := nmh
theorem pd_hashOf : parseMethodDescriptor (mN M_hashOf).desc = some ⟨[.int, .int, .int, .int, .int], some .int⟩ := by decide +kernel
def M_newNode : Mi := ((⟨"MddConfigurator", "newNode", "(IIIIII)I"⟩ : MethodName), prog_1_method_25_code, 9, (some .int), 0, 0)
theorem pl_newNode : plainFor (mN M_newNode) = true := plainFor_of_name pcls
theorem nm_newNode : notMH M_newNode := nmh
theorem pd_newNode : parseMethodDescriptor (mN M_newNode).desc = some ⟨[.int, .int, .int, .int, .int, .int], some .int⟩ := by decide +kernel
def M_sameNode : Mi := ((⟨"MddConfigurator", "sameNode", "(IIIIII)Z"⟩ : MethodName), prog_1_method_23_code, 8, (some .boolean), 0, 0)
theorem pl_sameNode : plainFor (mN M_sameNode) = true := plainFor_of_name pcls
theorem nm_sameNode : notMH M_sameNode := nmh
theorem pd_sameNode : parseMethodDescriptor (mN M_sameNode).desc = some ⟨[.int, .int, .int, .int, .int, .int], some .boolean⟩ := by decide +kernel
def M_mk : Mi := ((⟨"MddConfigurator", "mk", "(IIIII)I"⟩ : MethodName), prog_1_method_24_code, 10, (some .int), 1, 20)
theorem pl_mk : plainFor (mN M_mk) = true := plainFor_of_name pcls
theorem nm_mk : notMH M_mk := nmh
theorem pd_mk : parseMethodDescriptor (mN M_mk).desc = some ⟨[.int, .int, .int, .int, .int], some .int⟩ := by decide +kernel
def M_reduceBuffer : Mi := ((⟨"MddConfigurator", "reduceBuffer", "()I"⟩ : MethodName), prog_1_method_33_code, 9, (some .int), 2, 43)
theorem pl_reduceBuffer : plainFor (mN M_reduceBuffer) = true := plainFor_of_name pcls
theorem nm_reduceBuffer : notMH M_reduceBuffer := nmh
theorem pd_reduceBuffer : parseMethodDescriptor (mN M_reduceBuffer).desc = some ⟨[], some .int⟩ := by decide +kernel
def M_compileTable : Mi := ((⟨"MddConfigurator", "compileTable", "()I"⟩ : MethodName), prog_1_method_30_code, 3, (some .int), 3, 63)
theorem pl_compileTable : plainFor (mN M_compileTable) = true := plainFor_of_name pcls
theorem nm_compileTable : notMH M_compileTable := nmh
theorem pd_compileTable : parseMethodDescriptor (mN M_compileTable).desc = some ⟨[], some .int⟩ := by decide +kernel
def M_push : Mi := ((⟨"MddConfigurator", "push", "(II)V"⟩ : MethodName), prog_1_method_35_code, 3, none, 0, 0)
theorem pl_push : plainFor (mN M_push) = true := plainFor_of_name pcls
theorem nm_push : notMH M_push := nmh
theorem pd_push : parseMethodDescriptor (mN M_push).desc = some ⟨[.int, .int], none⟩ := by decide +kernel
def M_memoSlot : Mi := ((⟨"MddConfigurator", "memoSlot", "(II)I"⟩ : MethodName), prog_1_method_43_code, 4, (some .int), 0, 0)
theorem pl_memoSlot : plainFor (mN M_memoSlot) = true := plainFor_of_name pcls
theorem nm_memoSlot : notMH M_memoSlot := nmh
theorem pd_memoSlot : parseMethodDescriptor (mN M_memoSlot).desc = some ⟨[.int, .int], some .int⟩ := by decide +kernel
def M_memoFind : Mi := ((⟨"MddConfigurator", "memoFind", "(II)I"⟩ : MethodName), prog_1_method_44_code, 7, (some .int), 1, 15)
theorem pl_memoFind : plainFor (mN M_memoFind) = true := plainFor_of_name pcls
theorem nm_memoFind : notMH M_memoFind := nmh
theorem pd_memoFind : parseMethodDescriptor (mN M_memoFind).desc = some ⟨[.int, .int], some .int⟩ := by decide +kernel
def M_resolve : Mi := ((⟨"MddConfigurator", "resolve", "(II)I"⟩ : MethodName), prog_1_method_42_code, 3, (some .int), 2, 33)
theorem pl_resolve : plainFor (mN M_resolve) = true := plainFor_of_name pcls
theorem nm_resolve : notMH M_resolve := nmh
theorem pd_resolve : parseMethodDescriptor (mN M_resolve).desc = some ⟨[.int, .int], some .int⟩ := by decide +kernel
def M_topLevel : Mi := ((⟨"MddConfigurator", "topLevel", "(II)I"⟩ : MethodName), prog_1_method_37_code, 3, (some .int), 0, 0)
theorem pl_topLevel : plainFor (mN M_topLevel) = true := plainFor_of_name pcls
theorem nm_topLevel : notMH M_topLevel := nmh
theorem pd_topLevel : parseMethodDescriptor (mN M_topLevel).desc = some ⟨[.int, .int], some .int⟩ := by decide +kernel
def M_cofactor : Mi := ((⟨"MddConfigurator", "cofactor", "(III)I"⟩ : MethodName), prog_1_method_38_code, 4, (some .int), 0, 0)
theorem pl_cofactor : plainFor (mN M_cofactor) = true := plainFor_of_name pcls
theorem nm_cofactor : notMH M_cofactor := nmh
theorem pd_cofactor : parseMethodDescriptor (mN M_cofactor).desc = some ⟨[.int, .int, .int], some .int⟩ := by decide +kernel
def M_pushChildren : Mi := ((⟨"MddConfigurator", "pushChildren", "(II)V"⟩ : MethodName), prog_1_method_39_code, 7, none, 3, 47)
theorem pl_pushChildren : plainFor (mN M_pushChildren) = true := plainFor_of_name pcls
theorem nm_pushChildren : notMH M_pushChildren := nmh
theorem pd_pushChildren : parseMethodDescriptor (mN M_pushChildren).desc = some ⟨[.int, .int], none⟩ := by decide +kernel
def M_childResult : Mi := ((⟨"MddConfigurator", "childResult", "(IIII)I"⟩ : MethodName), prog_1_method_40_code, 8, (some .int), 3, 47)
theorem pl_childResult : plainFor (mN M_childResult) = true := plainFor_of_name pcls
theorem nm_childResult : notMH M_childResult := nmh
theorem pd_childResult : parseMethodDescriptor (mN M_childResult).desc = some ⟨[.int, .int, .int, .int], some .int⟩ := by decide +kernel
def M_memoStore : Mi := ((⟨"MddConfigurator", "memoStore", "(III)V"⟩ : MethodName), prog_1_method_45_code, 8, none, 1, 15)
theorem pl_memoStore : plainFor (mN M_memoStore) = true := plainFor_of_name pcls
theorem nm_memoStore : notMH M_memoStore := nmh
theorem pd_memoStore : parseMethodDescriptor (mN M_memoStore).desc = some ⟨[.int, .int, .int], none⟩ := by decide +kernel
def M_finishPair : Mi := ((⟨"MddConfigurator", "finishPair", "(II)V"⟩ : MethodName), prog_1_method_41_code, 9, none, 4, 66)
theorem pl_finishPair : plainFor (mN M_finishPair) = true := plainFor_of_name pcls
theorem nm_finishPair : notMH M_finishPair := nmh
theorem pd_finishPair : parseMethodDescriptor (mN M_finishPair).desc = some ⟨[.int, .int], none⟩ := by decide +kernel
def M_step : Mi := ((⟨"MddConfigurator", "step", "()V"⟩ : MethodName), prog_1_method_36_code, 4, none, 5, 86)
theorem pl_step : plainFor (mN M_step) = true := plainFor_of_name pcls
theorem nm_step : notMH M_step := nmh
theorem pd_step : parseMethodDescriptor (mN M_step).desc = some ⟨[], none⟩ := by decide +kernel
def M_conjoin : Mi := ((⟨"MddConfigurator", "conjoin", "(II)I"⟩ : MethodName), prog_1_method_34_code, 4, (some .int), 6, 101)
theorem pl_conjoin : plainFor (mN M_conjoin) = true := plainFor_of_name pcls
theorem nm_conjoin : notMH M_conjoin := nmh
theorem pd_conjoin : parseMethodDescriptor (mN M_conjoin).desc = some ⟨[.int, .int], some .int⟩ := by decide +kernel
def M_commitTable : Mi := ((⟨"MddConfigurator", "commitTable", "()I"⟩ : MethodName), prog_1_method_6_code, 3, (some .int), 7, 116)
theorem pl_commitTable : plainFor (mN M_commitTable) = true := plainFor_of_name pcls
theorem nm_commitTable : notMH M_commitTable := nmh
theorem pd_commitTable : parseMethodDescriptor (mN M_commitTable).desc = some ⟨[], some .int⟩ := by decide +kernel
def M_abortTable : Mi := ((⟨"MddConfigurator", "abortTable", "()I"⟩ : MethodName), prog_1_method_7_code, 1, (some .int), 0, 0)
theorem pl_abortTable : plainFor (mN M_abortTable) = true := plainFor_of_name pcls
theorem nm_abortTable : notMH M_abortTable := nmh
theorem pd_abortTable : parseMethodDescriptor (mN M_abortTable).desc = some ⟨[], some .int⟩ := by decide +kernel
def M_dropLastTable : Mi := ((⟨"MddConfigurator", "dropLastTable", "()I"⟩ : MethodName), prog_1_method_8_code, 1, (some .int), 0, 0)
theorem pl_dropLastTable : plainFor (mN M_dropLastTable) = true := plainFor_of_name pcls
theorem nm_dropLastTable : notMH M_dropLastTable := nmh
theorem pd_dropLastTable : parseMethodDescriptor (mN M_dropLastTable).desc = some ⟨[], some .int⟩ := by decide +kernel
def M_choose : Mi := ((⟨"MddConfigurator", "choose", "(II)I"⟩ : MethodName), prog_1_method_9_code, 3, (some .int), 4, 64)
theorem pl_choose : plainFor (mN M_choose) = true := plainFor_of_name pcls
theorem nm_choose : notMH M_choose := nmh
theorem pd_choose : parseMethodDescriptor (mN M_choose).desc = some ⟨[.int, .int], some .int⟩ := by decide +kernel
def M_retract : Mi := ((⟨"MddConfigurator", "retract", "(I)I"⟩ : MethodName), prog_1_method_10_code, 2, (some .int), 1, 13)
theorem pl_retract : plainFor (mN M_retract) = true := plainFor_of_name pcls
theorem nm_retract : notMH M_retract := nmh
theorem pd_retract : parseMethodDescriptor (mN M_retract).desc = some ⟨[.int], some .int⟩ := by decide +kernel
def M_clearChoices : Mi := ((⟨"MddConfigurator", "clearChoices", "()V"⟩ : MethodName), prog_1_method_11_code, 2, none, 0, 0)
theorem pl_clearChoices : plainFor (mN M_clearChoices) = true := plainFor_of_name pcls
theorem nm_clearChoices : notMH M_clearChoices := nmh
theorem pd_clearChoices : parseMethodDescriptor (mN M_clearChoices).desc = some ⟨[], none⟩ := by decide +kernel
def M_law : Mi := (x, code, maxLocals, ret, 8, 130)
theorem pl_law : plainFor (mN M_law) = true := plainFor_of_name (by first | (simp [plainName, overriddenIn, x]; done) | decide +kernel)
def c0 : List (Nat × Instr × Nat) := [(0, .iload_n 1, 1), (1, .aload_n 0, 1), (2, .arraylength, 1), (3, .if_icmp .ge 9, 3), (6, .aload_n 0, 1), (7, .iload_n 1, 1), (8, .iaload, 1), (9, .goto 4, 3), (12, .iconst 0, 1), (13, .ireturn, 1)]
theorem D0 : decs method_2_code c0 = true := by decide +kernel
theorem d0 (k : Nat) {p : Nat} {i : Instr} {n : Nat} (h : c0[k]? = some (p, i, n)) : decode method_2_code p = .ok (i, n) := dget D0 h
def c3 : List (Nat × Instr × Nat) := [(0, .iconst 0, 1), (1, .istore_n 1, 1), (2, .iload_n 1, 1), (3, .sipush 4096, 3), (6, .if_icmp .ge 16, 3), (9, .aload_n 0, 1), (10, .getfield 31, 3), (13, .iload_n 1, 1), (14, .iconst 0, 1), (15, .iastore, 1), (16, .iinc 1 1, 3), (19, .goto (-17), 3), (22, .return_, 1)]
theorem D3 : decs prog_1_method_21_code c3 = true := by decide +kernel
theorem d3 (k : Nat) {p : Nat} {i : Instr} {n : Nat} (h : c3[k]? = some (p, i, n)) : decode prog_1_method_21_code p = .ok (i, n) := dget D3 h
def c1 : List (Nat × Instr × Nat) := [(0, .aload_n 0, 1), (1, .invokespecial 1, 3), (4, .aload_n 0, 1), (5, .bipush 9, 2), (7, .newarray .int, 2), (9, .putfield 7, 3), (12, .aload_n 0, 1), (13, .bipush 16, 2), (15, .newarray .int, 2), (17, .putfield 13, 3), (20, .aload_n 0, 1), (21, .iconst 5, 1), (22, .newarray .int, 2), (24, .putfield 16, 3), (27, .aload_n 0, 1), (28, .iconst 5, 1), (29, .newarray .int, 2), (31, .putfield 19, 3), (34, .aload_n 0, 1), (35, .iconst 5, 1), (36, .newarray .int, 2), (38, .putfield 22, 3), (41, .aload_n 0, 1), (42, .sipush 2048, 3), (45, .newarray .int, 2), (47, .putfield 25, 3), (50, .aload_n 0, 1), (51, .sipush 8192, 3), (54, .newarray .int, 2), (56, .putfield 28, 3), (59, .aload_n 0, 1), (60, .sipush 4096, 3), (63, .newarray .int, 2), (65, .putfield 31, 3), (68, .aload_n 0, 1), (69, .sipush 2048, 3), (72, .newarray .boolean, 2), (74, .putfield 34, 3), (77, .aload_n 0, 1), (78, .sipush 2048, 3), (81, .newarray .int, 2), (83, .putfield 38, 3), (86, .aload_n 0, 1), (87, .sipush 2048, 3), (90, .newarray .int, 2), (92, .putfield 41, 3), (95, .aload_n 0, 1), (96, .sipush 1024, 3), (99, .newarray .int, 2), (101, .putfield 44, 3), (104, .aload_n 0, 1), (105, .bipush 64, 2), (107, .newarray .boolean, 2), (109, .putfield 47, 3), (112, .aload_n 0, 1), (113, .sipush 1024, 3), (116, .newarray .int, 2), (118, .putfield 50, 3), (121, .aload_n 0, 1), (122, .sipush 1024, 3), (125, .newarray .int, 2), (127, .putfield 53, 3), (130, .aload_n 0, 1), (131, .sipush 1024, 3), (134, .newarray .int, 2), (136, .putfield 56, 3), (139, .aload_n 0, 1), (140, .sipush 1024, 3), (143, .newarray .boolean, 2), (145, .putfield 59, 3), (148, .aload_n 0, 1), (149, .bipush 64, 2), (151, .newarray .int, 2), (153, .putfield 62, 3), (156, .aload_n 0, 1), (157, .bipush 64, 2), (159, .newarray .int, 2), (161, .putfield 65, 3), (164, .aload_n 0, 1), (165, .bipush 64, 2), (167, .newarray .int, 2), (169, .putfield 68, 3), (172, .aload_n 0, 1), (173, .iload_n 1, 1), (174, .iconst 1, 1), (175, .if_icmp .ge 7, 3), (178, .iconst 1, 1), (179, .goto 13, 3), (182, .iload_n 1, 1), (183, .iconst 5, 1), (184, .if_icmp .le 7, 3), (187, .iconst 5, 1), (188, .goto 4, 3), (191, .iload_n 1, 1), (192, .putfield 71, 3), (195, .aload_n 0, 1), (196, .iload_n 2, 1), (197, .iconst 2, 1), (198, .if_icmp .ge 7, 3), (201, .iconst 2, 1), (202, .goto 13, 3), (205, .iload_n 2, 1), (206, .iconst 4, 1), (207, .if_icmp .le 7, 3), (210, .iconst 4, 1), (211, .goto 4, 3), (214, .iload_n 2, 1), (215, .putfield 75, 3), (218, .aload_n 0, 1), (219, .getfield 25, 3), (222, .iconst 0, 1), (223, .aload_n 0, 1), (224, .getfield 71, 3), (227, .iastore, 1), (228, .aload_n 0, 1), (229, .getfield 25, 3), (232, .iconst 1, 1), (233, .aload_n 0, 1), (234, .getfield 71, 3), (237, .iastore, 1), (238, .aload_n 0, 1), (239, .iconst 2, 1), (240, .putfield 78, 3), (243, .aload_n 0, 1), (244, .invokevirtual 81, 3), (247, .aload_n 0, 1), (248, .iconst 0, 1), (249, .putfield 84, 3), (252, .aload_n 0, 1), (253, .getfield 7, 3), (256, .iconst 0, 1), (257, .iconst 1, 1), (258, .iastore, 1), (259, .aload_n 0, 1), (260, .iconst 0, 1), (261, .putfield 87, 3), (264, .iconst 0, 1), (265, .istore_n 3, 1), (266, .iload_n 3, 1), (267, .iconst 5, 1), (268, .if_icmp .ge 16, 3), (271, .aload_n 0, 1), (272, .getfield 16, 3), (275, .iload_n 3, 1), (276, .iconst (-1), 1), (277, .iastore, 1), (278, .iinc 3 1, 3), (281, .goto (-15), 3), (284, .return_, 1)]
theorem D1 : decs prog_1_method_1_code c1 = true := by decide +kernel
theorem d1 (k : Nat) {p : Nat} {i : Instr} {n : Nat} (h : c1[k]? = some (p, i, n)) : decode prog_1_method_1_code p = .ok (i, n) := dget D1 h
def c5 : List (Nat × Instr × Nat) := [(0, .aload_n 0, 1), (1, .getfield 71, 3), (4, .ireturn, 1)]
theorem D5 : decs prog_1_method_2_code c5 = true := by decide +kernel
theorem d5 (k : Nat) {p : Nat} {i : Instr} {n : Nat} (h : c5[k]? = some (p, i, n)) : decode prog_1_method_2_code p = .ok (i, n) := dget D5 h
def c6 : List (Nat × Instr × Nat) := [(0, .aload_n 0, 1), (1, .getfield 75, 3), (4, .ireturn, 1)]
theorem D6 : decs prog_1_method_3_code c6 = true := by decide +kernel
theorem d6 (k : Nat) {p : Nat} {i : Instr} {n : Nat} (h : c6[k]? = some (p, i, n)) : decode prog_1_method_3_code p = .ok (i, n) := dget D6 h
def c8 : List (Nat × Instr × Nat) := [(0, .iconst 0, 1), (1, .istore_n 1, 1), (2, .iload_n 1, 1), (3, .iconst 5, 1), (4, .if_icmp .ge 21, 3), (7, .aload_n 0, 1), (8, .getfield 19, 3), (11, .iload_n 1, 1), (12, .aload_n 0, 1), (13, .getfield 16, 3), (16, .iload_n 1, 1), (17, .iaload, 1), (18, .iastore, 1), (19, .iinc 1 1, 3), (22, .goto (-20), 3), (25, .return_, 1)]
theorem D8 : decs prog_1_method_46_code c8 = true := by decide +kernel
theorem d8 (k : Nat) {p : Nat} {i : Instr} {n : Nat} (h : c8[k]? = some (p, i, n)) : decode prog_1_method_46_code p = .ok (i, n) := dget D8 h
def c10 : List (Nat × Instr × Nat) := [(0, .iconst 1, 1), (1, .istore_n 3, 1), (2, .iload_n 1, 1), (3, .istore 4, 2), (5, .iload 4, 2), (7, .iload_n 2, 1), (8, .if_icmp .ge 32, 3), (11, .iload 4, 2), (13, .iconst 5, 1), (14, .if_icmp .ge 26, 3), (17, .aload_n 0, 1), (18, .getfield 19, 3), (21, .iload 4, 2), (23, .iaload, 1), (24, .ifCond .ge 10, 3), (27, .iload_n 3, 1), (28, .aload_n 0, 1), (29, .getfield 75, 3), (32, .imul, 1), (33, .istore_n 3, 1), (34, .iinc 4 1, 3), (37, .goto (-32), 3), (40, .iload_n 3, 1), (41, .ireturn, 1)]
theorem D10 : decs prog_1_method_47_code c10 = true := by decide +kernel
theorem d10 (k : Nat) {p : Nat} {i : Instr} {n : Nat} (h : c10[k]? = some (p, i, n)) : decode prog_1_method_47_code p = .ok (i, n) := dget D10 h
def c39 : List (Nat × Instr × Nat) := [(0, .aload_n 0, 1), (1, .getfield 25, 3), (4, .iload_n 1, 1), (5, .iaload, 1), (6, .istore_n 2, 1), (7, .iload_n 2, 1), (8, .ifCond .lt 8, 3), (11, .iload_n 2, 1), (12, .iconst 5, 1), (13, .if_icmp .lt 5, 3), (16, .iconst 0, 1), (17, .ireturn, 1), (18, .iconst 0, 1), (19, .istore_n 3, 1), (20, .iconst 0, 1), (21, .istore 4, 2), (23, .iload 4, 2), (25, .aload_n 0, 1), (26, .getfield 75, 3), (29, .if_icmp .ge 88, 3), (32, .aload_n 0, 1), (33, .getfield 19, 3), (36, .iload_n 2, 1), (37, .iaload, 1), (38, .ifCond .lt 17, 3), (41, .aload_n 0, 1), (42, .getfield 19, 3), (45, .iload_n 2, 1), (46, .iaload, 1), (47, .iload 4, 2), (49, .if_icmp .eq 6, 3), (52, .goto 59, 3), (55, .aload_n 0, 1), (56, .getfield 28, 3), (59, .iload_n 1, 1), (60, .iconst 4, 1), (61, .imul, 1), (62, .iload 4, 2), (64, .iadd, 1), (65, .iaload, 1), (66, .istore 5, 2), (68, .iload 5, 2), (70, .ifCond .lt 41, 3), (73, .iload 5, 2), (75, .iload_n 1, 1), (76, .if_icmp .lt 6, 3), (79, .goto 32, 3), (82, .aload_n 0, 1), (83, .iload_n 2, 1), (84, .iconst 1, 1), (85, .iadd, 1), (86, .aload_n 0, 1), (87, .getfield 25, 3), (90, .iload 5, 2), (92, .iaload, 1), (93, .invokevirtual 217, 3), (96, .istore 6, 2), (98, .iload_n 3, 1), (99, .aload_n 0, 1), (100, .getfield 41, 3), (103, .iload 5, 2), (105, .iaload, 1), (106, .iload 6, 2), (108, .imul, 1), (109, .iadd, 1), (110, .istore_n 3, 1), (111, .iinc 4 1, 3), (114, .goto (-91), 3), (117, .iload_n 3, 1), (118, .ireturn, 1)]
theorem D39 : decs prog_1_method_49_code c39 = true := by decide +kernel
theorem d39 (k : Nat) {p : Nat} {i : Instr} {n : Nat} (h : c39[k]? = some (p, i, n)) : decode prog_1_method_49_code p = .ok (i, n) := dget D39 h
def c9 : List (Nat × Instr × Nat) := [(0, .aload_n 0, 1), (1, .getfield 7, 3), (4, .aload_n 0, 1), (5, .getfield 84, 3), (8, .iaload, 1), (9, .istore_n 1, 1), (10, .aload_n 0, 1), (11, .getfield 41, 3), (14, .iconst 0, 1), (15, .iconst 0, 1), (16, .iastore, 1), (17, .aload_n 0, 1), (18, .getfield 41, 3), (21, .iconst 1, 1), (22, .iconst 1, 1), (23, .iastore, 1), (24, .iconst 2, 1), (25, .istore_n 2, 1), (26, .iload_n 2, 1), (27, .iload_n 1, 1), (28, .if_icmp .gt 27, 3), (31, .iload_n 2, 1), (32, .sipush 2048, 3), (35, .if_icmp .ge 20, 3), (38, .aload_n 0, 1), (39, .getfield 41, 3), (42, .iload_n 2, 1), (43, .aload_n 0, 1), (44, .iload_n 2, 1), (45, .invokevirtual 214, 3), (48, .iastore, 1), (49, .iinc 2 1, 3), (52, .goto (-26), 3), (55, .aload_n 0, 1), (56, .iconst 0, 1), (57, .aload_n 0, 1), (58, .getfield 25, 3), (61, .iload_n 1, 1), (62, .iaload, 1), (63, .invokevirtual 217, 3), (66, .istore_n 2, 1), (67, .aload_n 0, 1), (68, .getfield 41, 3), (71, .iload_n 1, 1), (72, .iaload, 1), (73, .iload_n 2, 1), (74, .imul, 1), (75, .ireturn, 1)]
theorem D9 : decs prog_1_method_48_code c9 = true := by decide +kernel
theorem d9 (k : Nat) {p : Nat} {i : Instr} {n : Nat} (h : c9[k]? = some (p, i, n)) : decode prog_1_method_48_code p = .ok (i, n) := dget D9 h
def c7 : List (Nat × Instr × Nat) := [(0, .aload_n 0, 1), (1, .invokevirtual 127, 3), (4, .aload_n 0, 1), (5, .invokevirtual 130, 3), (8, .ireturn, 1)]
theorem D7 : decs prog_1_method_14_code c7 = true := by decide +kernel
theorem d7 (k : Nat) {p : Nat} {i : Instr} {n : Nat} (h : c7[k]? = some (p, i, n)) : decode prog_1_method_14_code p = .ok (i, n) := dget D7 h
def c12 : List (Nat × Instr × Nat) := [(0, .iload_n 1, 1), (1, .ifCond .lt 15, 3), (4, .iload_n 1, 1), (5, .aload_n 0, 1), (6, .getfield 71, 3), (9, .if_icmp .ge 7, 3), (12, .iconst 1, 1), (13, .goto 4, 3), (16, .iconst 0, 1), (17, .ireturn, 1)]
theorem D12 : decs prog_1_method_18_code c12 = true := by decide +kernel
theorem d12 (k : Nat) {p : Nat} {i : Instr} {n : Nat} (h : c12[k]? = some (p, i, n)) : decode prog_1_method_18_code p = .ok (i, n) := dget D12 h
def c11 : List (Nat × Instr × Nat) := [(0, .aload_n 0, 1), (1, .iload_n 1, 1), (2, .invokevirtual 91, 3), (5, .ifCond .ne 5, 3), (8, .iconst (-1), 1), (9, .ireturn, 1), (10, .aload_n 0, 1), (11, .getfield 16, 3), (14, .iload_n 1, 1), (15, .iaload, 1), (16, .ireturn, 1)]
theorem D11 : decs prog_1_method_12_code c11 = true := by decide +kernel
theorem d11 (k : Nat) {p : Nat} {i : Instr} {n : Nat} (h : c11[k]? = some (p, i, n)) : decode prog_1_method_12_code p = .ok (i, n) := dget D11 h
def c15 : List (Nat × Instr × Nat) := [(0, .iload_n 1, 1), (1, .ifCond .lt 15, 3), (4, .iload_n 1, 1), (5, .aload_n 0, 1), (6, .getfield 75, 3), (9, .if_icmp .ge 7, 3), (12, .iconst 1, 1), (13, .goto 4, 3), (16, .iconst 0, 1), (17, .ireturn, 1)]
theorem D15 : decs prog_1_method_19_code c15 = true := by decide +kernel
theorem d15 (k : Nat) {p : Nat} {i : Instr} {n : Nat} (h : c15[k]? = some (p, i, n)) : decode prog_1_method_19_code p = .ok (i, n) := dget D15 h
def c14 : List (Nat × Instr × Nat) := [(0, .aload_n 0, 1), (1, .iload_n 1, 1), (2, .invokevirtual 91, 3), (5, .ifCond .ne 5, 3), (8, .iconst (-1), 1), (9, .ireturn, 1), (10, .aload_n 0, 1), (11, .iload_n 2, 1), (12, .invokevirtual 110, 3), (15, .ifCond .ne 6, 3), (18, .bipush (-2), 2), (20, .ireturn, 1), (21, .aload_n 0, 1), (22, .invokevirtual 127, 3), (25, .aload_n 0, 1), (26, .getfield 19, 3), (29, .iload_n 1, 1), (30, .iload_n 2, 1), (31, .iastore, 1), (32, .aload_n 0, 1), (33, .invokevirtual 130, 3), (36, .ireturn, 1)]
theorem D14 : decs prog_1_method_15_code c14 = true := by decide +kernel
theorem d14 (k : Nat) {p : Nat} {i : Instr} {n : Nat} (h : c14[k]? = some (p, i, n)) : decode prog_1_method_15_code p = .ok (i, n) := dget D14 h
def c13 : List (Nat × Instr × Nat) := [(0, .aload_n 0, 1), (1, .iload_n 1, 1), (2, .invokevirtual 91, 3), (5, .ifCond .ne 5, 3), (8, .iconst (-1), 1), (9, .ireturn, 1), (10, .iconst 0, 1), (11, .istore_n 2, 1), (12, .iconst 0, 1), (13, .istore_n 3, 1), (14, .iload_n 3, 1), (15, .aload_n 0, 1), (16, .getfield 75, 3), (19, .if_icmp .ge 24, 3), (22, .aload_n 0, 1), (23, .iload_n 1, 1), (24, .iload_n 3, 1), (25, .invokevirtual 124, 3), (28, .ifCond .le 9, 3), (31, .iload_n 2, 1), (32, .iconst 1, 1), (33, .iload_n 3, 1), (34, .ishl, 1), (35, .ior, 1), (36, .istore_n 2, 1), (37, .iinc 3 1, 3), (40, .goto (-26), 3), (43, .iload_n 2, 1), (44, .ireturn, 1)]
theorem D13 : decs prog_1_method_13_code c13 = true := by decide +kernel
theorem d13 (k : Nat) {p : Nat} {i : Instr} {n : Nat} (h : c13[k]? = some (p, i, n)) : decode prog_1_method_13_code p = .ok (i, n) := dget D13 h
def c4 : List (Nat × Instr × Nat) := [(0, .aload_n 0, 1), (1, .invokevirtual 7, 3), (4, .istore_n 1, 1), (5, .aload_n 0, 1), (6, .invokevirtual 13, 3), (9, .istore_n 2, 1), (10, .iconst 0, 1), (11, .istore_n 3, 1), (12, .iload_n 3, 1), (13, .iload_n 1, 1), (14, .if_icmp .ge 144, 3), (17, .aload_n 0, 1), (18, .invokevirtual 16, 3), (21, .istore 4, 2), (23, .aload_n 0, 1), (24, .iload_n 3, 1), (25, .invokevirtual 19, 3), (28, .istore 5, 2), (30, .aload_n 0, 1), (31, .iload_n 3, 1), (32, .invokevirtual 23, 3), (35, .istore 6, 2), (37, .lconst 0, 1), (38, .lstore 7, 2), (40, .iconst 0, 1), (41, .istore 9, 2), (43, .iload 9, 2), (45, .iload_n 2, 1), (46, .if_icmp .ge 61, 3), (49, .aload_n 0, 1), (50, .iload_n 3, 1), (51, .iload 9, 2), (53, .invokevirtual 26, 3), (56, .istore 10, 2), (58, .lload 7, 2), (60, .iload 10, 2), (62, .i2l, 1), (63, .ladd, 1), (64, .lstore 7, 2), (66, .iload 6, 2), (68, .iload 9, 2), (70, .iushr, 1), (71, .iconst 1, 1), (72, .iand, 1), (73, .iconst 1, 1), (74, .if_icmp .ne 7, 3), (77, .iconst 1, 1), (78, .goto 4, 3), (81, .iconst 0, 1), (82, .istore 11, 2), (84, .iload 11, 2), (86, .iload 10, 2), (88, .ifCond .le 7, 3), (91, .iconst 1, 1), (92, .goto 4, 3), (95, .iconst 0, 1), (96, .if_icmp .eq 5, 3), (99, .iconst 0, 1), (100, .ireturn, 1), (101, .iinc 9 1, 3), (104, .goto (-61), 3), (107, .iload 6, 2), (109, .iload_n 2, 1), (110, .iushr, 1), (111, .ifCond .eq 5, 3), (114, .iconst 0, 1), (115, .ireturn, 1), (116, .iload 5, 2), (118, .iconst (-1), 1), (119, .if_icmp .ne 14, 3), (122, .iload 4, 2), (124, .i2l, 1), (125, .lload 7, 2), (127, .lcmp, 1), (128, .ifCond .eq 24, 3), (131, .iconst 0, 1), (132, .ireturn, 1), (133, .iload 5, 2), (135, .ifCond .lt 17, 3), (138, .iload 4, 2), (140, .aload_n 0, 1), (141, .iload_n 3, 1), (142, .iload 5, 2), (144, .invokevirtual 26, 3), (147, .if_icmp .eq 5, 3), (150, .iconst 0, 1), (151, .ireturn, 1), (152, .iinc 3 1, 3), (155, .goto (-143), 3), (158, .iconst 1, 1), (159, .ireturn, 1)]
theorem D4 : decs method_4_code c4 = true := by decide +kernel
theorem d4 (k : Nat) {p : Nat} {i : Instr} {n : Nat} (h : c4[k]? = some (p, i, n)) : decode method_4_code p = .ok (i, n) := dget D4 h
def c16 : List (Nat × Instr × Nat) := [(0, .iload_n 0, 1), (1, .iconst 3, 1), (2, .iushr, 1), (3, .iconst 3, 1), (4, .iand, 1), (5, .ifCond .ne 10, 3), (8, .iload_n 0, 1), (9, .bipush 7, 2), (11, .iand, 1), (12, .iconst 1, 1), (13, .isub, 1), (14, .ireturn, 1), (15, .iload_n 0, 1), (16, .bipush 7, 2), (18, .iand, 1), (19, .iload_n 1, 1), (20, .irem, 1), (21, .ireturn, 1)]
theorem D16 : decs method_3_code c16 = true := by decide +kernel
theorem d16 (k : Nat) {p : Nat} {i : Instr} {n : Nat} (h : c16[k]? = some (p, i, n)) : decode method_3_code p = .ok (i, n) := dget D16 h
def c17 : List (Nat × Instr × Nat) := [(0, .aload_n 0, 1), (1, .getfield 87, 3), (4, .ifCond .eq 6, 3), (7, .bipush (-3), 2), (9, .ireturn, 1), (10, .aload_n 0, 1), (11, .getfield 84, 3), (14, .bipush 8, 2), (16, .if_icmp .lt 6, 3), (19, .bipush (-6), 2), (21, .ireturn, 1), (22, .iload_n 2, 1), (23, .iconst (-1), 1), (24, .if_icmp .ne 11, 3), (27, .iload_n 3, 1), (28, .iconst (-1), 1), (29, .if_icmp .eq 6, 3), (32, .bipush (-11), 2), (34, .ireturn, 1), (35, .iload_n 2, 1), (36, .iconst (-1), 1), (37, .if_icmp .ne 7, 3), (40, .iconst 1, 1), (41, .goto 13, 3), (44, .iload_n 3, 1), (45, .iconst (-1), 1), (46, .if_icmp .ne 7, 3), (49, .iconst 2, 1), (50, .goto 4, 3), (53, .iconst 3, 1), (54, .istore 4, 2), (56, .aload_n 0, 1), (57, .iload_n 1, 1), (58, .invokevirtual 91, 3), (61, .ifCond .ne 5, 3), (64, .iconst (-1), 1), (65, .ireturn, 1), (66, .iload 4, 2), (68, .iconst 2, 1), (69, .if_icmp .lt 13, 3), (72, .aload_n 0, 1), (73, .iload_n 2, 1), (74, .invokevirtual 91, 3), (77, .ifCond .ne 5, 3), (80, .iconst (-1), 1), (81, .ireturn, 1), (82, .iload 4, 2), (84, .iconst 3, 1), (85, .if_icmp .ne 13, 3), (88, .aload_n 0, 1), (89, .iload_n 3, 1), (90, .invokevirtual 91, 3), (93, .ifCond .ne 5, 3), (96, .iconst (-1), 1), (97, .ireturn, 1), (98, .iload 4, 2), (100, .iconst 2, 1), (101, .if_icmp .lt 11, 3), (104, .iload_n 1, 1), (105, .iload_n 2, 1), (106, .if_icmp .ne 6, 3), (109, .bipush (-11), 2), (111, .ireturn, 1), (112, .iload 4, 2), (114, .iconst 3, 1), (115, .if_icmp .ne 16, 3), (118, .iload_n 1, 1), (119, .iload_n 3, 1), (120, .if_icmp .eq 8, 3), (123, .iload_n 2, 1), (124, .iload_n 3, 1), (125, .if_icmp .ne 6, 3), (128, .bipush (-11), 2), (130, .ireturn, 1), (131, .aload_n 0, 1), (132, .iconst 1, 1), (133, .putfield 87, 3), (136, .aload_n 0, 1), (137, .iload 4, 2), (139, .putfield 95, 3), (142, .aload_n 0, 1), (143, .iload_n 1, 1), (144, .putfield 98, 3), (147, .aload_n 0, 1), (148, .iload_n 2, 1), (149, .putfield 101, 3), (152, .aload_n 0, 1), (153, .iload_n 3, 1), (154, .putfield 104, 3), (157, .aload_n 0, 1), (158, .iconst 0, 1), (159, .putfield 107, 3), (162, .iconst 0, 1), (163, .ireturn, 1)]
theorem D17 : decs prog_1_method_4_code c17 = true := by decide +kernel
theorem d17 (k : Nat) {p : Nat} {i : Instr} {n : Nat} (h : c17[k]? = some (p, i, n)) : decode prog_1_method_4_code p = .ok (i, n) := dget D17 h
def c18 : List (Nat × Instr × Nat) := [(0, .aload_n 0, 1), (1, .getfield 87, 3), (4, .ifCond .ne 6, 3), (7, .bipush (-4), 2), (9, .ireturn, 1), (10, .aload_n 0, 1), (11, .iload_n 1, 1), (12, .invokevirtual 110, 3), (15, .ifCond .ne 6, 3), (18, .bipush (-2), 2), (20, .ireturn, 1), (21, .aload_n 0, 1), (22, .getfield 95, 3), (25, .iconst 2, 1), (26, .if_icmp .lt 14, 3), (29, .aload_n 0, 1), (30, .iload_n 2, 1), (31, .invokevirtual 110, 3), (34, .ifCond .ne 6, 3), (37, .bipush (-2), 2), (39, .ireturn, 1), (40, .aload_n 0, 1), (41, .getfield 95, 3), (44, .iconst 3, 1), (45, .if_icmp .ne 14, 3), (48, .aload_n 0, 1), (49, .iload_n 3, 1), (50, .invokevirtual 110, 3), (53, .ifCond .ne 6, 3), (56, .bipush (-2), 2), (58, .ireturn, 1), (59, .iload_n 1, 1), (60, .bipush 16, 2), (62, .imul, 1), (63, .istore 4, 2), (65, .aload_n 0, 1), (66, .getfield 95, 3), (69, .iconst 2, 1), (70, .if_icmp .lt 11, 3), (73, .iload 4, 2), (75, .iload_n 2, 1), (76, .iconst 4, 1), (77, .imul, 1), (78, .iadd, 1), (79, .istore 4, 2), (81, .aload_n 0, 1), (82, .getfield 95, 3), (85, .iconst 3, 1), (86, .if_icmp .ne 9, 3), (89, .iload 4, 2), (91, .iload_n 3, 1), (92, .iadd, 1), (93, .istore 4, 2), (95, .iconst 0, 1), (96, .istore 5, 2), (98, .iload 5, 2), (100, .aload_n 0, 1), (101, .getfield 107, 3), (104, .if_icmp .ge 31, 3), (107, .iload 5, 2), (109, .bipush 16, 2), (111, .if_icmp .ge 24, 3), (114, .aload_n 0, 1), (115, .getfield 13, 3), (118, .iload 5, 2), (120, .iaload, 1), (121, .iload 4, 2), (123, .if_icmp .ne 6, 3), (126, .bipush (-5), 2), (128, .ireturn, 1), (129, .iinc 5 1, 3), (132, .goto (-34), 3), (135, .aload_n 0, 1), (136, .getfield 107, 3), (139, .bipush 16, 2), (141, .if_icmp .lt 6, 3), (144, .bipush (-6), 2), (146, .ireturn, 1), (147, .aload_n 0, 1), (148, .getfield 13, 3), (151, .aload_n 0, 1), (152, .getfield 107, 3), (155, .iload 4, 2), (157, .iastore, 1), (158, .aload_n 0, 1), (159, .dup, 1), (160, .getfield 107, 3), (163, .iconst 1, 1), (164, .iadd, 1), (165, .putfield 107, 3), (168, .iconst 0, 1), (169, .ireturn, 1)]
theorem D18 : decs prog_1_method_5_code c18 = true := by decide +kernel
theorem d18 (k : Nat) {p : Nat} {i : Instr} {n : Nat} (h : c18[k]? = some (p, i, n)) : decode prog_1_method_5_code p = .ok (i, n) := dget D18 h
def c21 : List (Nat × Instr × Nat) := [(0, .aload_n 0, 1), (1, .getfield 78, 3), (4, .sipush 512, 3), (7, .iadd, 1), (8, .sipush 2048, 3), (11, .if_icmp .gt 4, 3), (14, .return_, 1), (15, .aload_n 0, 1), (16, .invokevirtual 147, 3), (19, .aload_n 0, 1), (20, .invokevirtual 150, 3), (23, .aload_n 0, 1), (24, .invokevirtual 153, 3), (27, .return_, 1)]
theorem D21 : decs prog_1_method_26_code c21 = true := by decide +kernel
theorem d21 (k : Nat) {p : Nat} {i : Instr} {n : Nat} (h : c21[k]? = some (p, i, n)) : decode prog_1_method_26_code p = .ok (i, n) := dget D21 h
def c23 : List (Nat × Instr × Nat) := [(0, .iconst 1, 1), (1, .istore_n 2, 1), (2, .iconst 0, 1), (3, .istore_n 3, 1), (4, .iload_n 3, 1), (5, .iload_n 1, 1), (6, .if_icmp .ge 21, 3), (9, .iload_n 3, 1), (10, .iconst 5, 1), (11, .if_icmp .ge 16, 3), (14, .iload_n 2, 1), (15, .aload_n 0, 1), (16, .getfield 75, 3), (19, .imul, 1), (20, .istore_n 2, 1), (21, .iinc 3 1, 3), (24, .goto (-20), 3), (27, .iload_n 2, 1), (28, .ireturn, 1)]
theorem D23 : decs prog_1_method_20_code c23 = true := by decide +kernel
theorem d23 (k : Nat) {p : Nat} {i : Instr} {n : Nat} (h : c23[k]? = some (p, i, n)) : decode prog_1_method_20_code p = .ok (i, n) := dget D23 h
def c24 : List (Nat × Instr × Nat) := [(0, .iload_n 1, 1), (1, .istore_n 2, 1), (2, .aload_n 0, 1), (3, .getfield 71, 3), (6, .iconst 1, 1), (7, .isub, 1), (8, .istore_n 3, 1), (9, .iload_n 3, 1), (10, .ifCond .lt 28, 3), (13, .aload_n 0, 1), (14, .getfield 22, 3), (17, .iload_n 3, 1), (18, .iload_n 2, 1), (19, .aload_n 0, 1), (20, .getfield 75, 3), (23, .irem, 1), (24, .iastore, 1), (25, .iload_n 2, 1), (26, .aload_n 0, 1), (27, .getfield 75, 3), (30, .idiv, 1), (31, .istore_n 2, 1), (32, .iinc 3 (-1), 3), (35, .goto (-26), 3), (38, .return_, 1)]
theorem D24 : decs prog_1_method_31_code c24 = true := by decide +kernel
theorem d24 (k : Nat) {p : Nat} {i : Instr} {n : Nat} (h : c24[k]? = some (p, i, n)) : decode prog_1_method_31_code p = .ok (i, n) := dget D24 h
def c25 : List (Nat × Instr × Nat) := [(0, .aload_n 0, 1), (1, .getfield 22, 3), (4, .aload_n 0, 1), (5, .getfield 98, 3), (8, .iaload, 1), (9, .bipush 16, 2), (11, .imul, 1), (12, .istore_n 1, 1), (13, .aload_n 0, 1), (14, .getfield 95, 3), (17, .iconst 2, 1), (18, .if_icmp .lt 17, 3), (21, .iload_n 1, 1), (22, .aload_n 0, 1), (23, .getfield 22, 3), (26, .aload_n 0, 1), (27, .getfield 101, 3), (30, .iaload, 1), (31, .iconst 4, 1), (32, .imul, 1), (33, .iadd, 1), (34, .istore_n 1, 1), (35, .aload_n 0, 1), (36, .getfield 95, 3), (39, .iconst 3, 1), (40, .if_icmp .ne 15, 3), (43, .iload_n 1, 1), (44, .aload_n 0, 1), (45, .getfield 22, 3), (48, .aload_n 0, 1), (49, .getfield 104, 3), (52, .iaload, 1), (53, .iadd, 1), (54, .istore_n 1, 1), (55, .iload_n 1, 1), (56, .ireturn, 1)]
theorem D25 : decs prog_1_method_32_code c25 = true := by decide +kernel
theorem d25 (k : Nat) {p : Nat} {i : Instr} {n : Nat} (h : c25[k]? = some (p, i, n)) : decode prog_1_method_32_code p = .ok (i, n) := dget D25 h
def c36 : List (Nat × Instr × Nat) := [(0, .iload_n 1, 1), (1, .bipush 31, 2), (3, .imul, 1), (4, .iload_n 2, 1), (5, .iadd, 1), (6, .istore 6, 2), (8, .iload 6, 2), (10, .ldc 133, 2), (12, .imul, 1), (13, .iload_n 3, 1), (14, .iadd, 1), (15, .istore 6, 2), (17, .iload 6, 2), (19, .ldc 133, 2), (21, .imul, 1), (22, .iload 4, 2), (24, .iadd, 1), (25, .istore 6, 2), (27, .iload 6, 2), (29, .ldc 133, 2), (31, .imul, 1), (32, .iload 5, 2), (34, .iadd, 1), (35, .istore 6, 2), (37, .iload 6, 2), (39, .iload 6, 2), (41, .bipush 13, 2), (43, .iushr, 1), (44, .ixor, 1), (45, .istore 6, 2), (47, .iload 6, 2), (49, .ldc 134, 2), (51, .imul, 1), (52, .istore 6, 2), (54, .iload 6, 2), (56, .iload 6, 2), (58, .bipush 15, 2), (60, .iushr, 1), (61, .ixor, 1), (62, .istore 6, 2), (64, .iload 6, 2), (66, .sipush 4095, 3), (69, .iand, 1), (70, .ireturn, 1)]
theorem D36 : decs prog_1_method_22_code c36 = true := by decide +kernel
theorem d36 (k : Nat) {p : Nat} {i : Instr} {n : Nat} (h : c36[k]? = some (p, i, n)) : decode prog_1_method_22_code p = .ok (i, n) := dget D36 h
def c37 : List (Nat × Instr × Nat) := [(0, .aload_n 0, 1), (1, .getfield 78, 3), (4, .sipush 2048, 3), (7, .if_icmp .lt 5, 3), (10, .iconst 0, 1), (11, .ireturn, 1), (12, .aload_n 0, 1), (13, .getfield 78, 3), (16, .istore 7, 2), (18, .aload_n 0, 1), (19, .dup, 1), (20, .getfield 78, 3), (23, .iconst 1, 1), (24, .iadd, 1), (25, .putfield 78, 3), (28, .aload_n 0, 1), (29, .getfield 25, 3), (32, .iload 7, 2), (34, .iload_n 2, 1), (35, .iastore, 1), (36, .iload 7, 2), (38, .iconst 4, 1), (39, .imul, 1), (40, .istore 8, 2), (42, .aload_n 0, 1), (43, .getfield 28, 3), (46, .iload 8, 2), (48, .iload_n 3, 1), (49, .iastore, 1), (50, .aload_n 0, 1), (51, .getfield 28, 3), (54, .iload 8, 2), (56, .iconst 1, 1), (57, .iadd, 1), (58, .iload 4, 2), (60, .iastore, 1), (61, .aload_n 0, 1), (62, .getfield 28, 3), (65, .iload 8, 2), (67, .iconst 2, 1), (68, .iadd, 1), (69, .iload 5, 2), (71, .iastore, 1), (72, .aload_n 0, 1), (73, .getfield 28, 3), (76, .iload 8, 2), (78, .iconst 3, 1), (79, .iadd, 1), (80, .iload 6, 2), (82, .iastore, 1), (83, .aload_n 0, 1), (84, .getfield 31, 3), (87, .iload_n 1, 1), (88, .iload 7, 2), (90, .iastore, 1), (91, .iload 7, 2), (93, .ireturn, 1)]
theorem D37 : decs prog_1_method_25_code c37 = true := by decide +kernel
theorem d37 (k : Nat) {p : Nat} {i : Instr} {n : Nat} (h : c37[k]? = some (p, i, n)) : decode prog_1_method_25_code p = .ok (i, n) := dget D37 h
def c38 : List (Nat × Instr × Nat) := [(0, .iload_n 1, 1), (1, .iconst 4, 1), (2, .imul, 1), (3, .istore 7, 2), (5, .aload_n 0, 1), (6, .getfield 25, 3), (9, .iload_n 1, 1), (10, .iaload, 1), (11, .iload_n 2, 1), (12, .if_icmp .ne 60, 3), (15, .aload_n 0, 1), (16, .getfield 28, 3), (19, .iload 7, 2), (21, .iaload, 1), (22, .iload_n 3, 1), (23, .if_icmp .ne 49, 3), (26, .aload_n 0, 1), (27, .getfield 28, 3), (30, .iload 7, 2), (32, .iconst 1, 1), (33, .iadd, 1), (34, .iaload, 1), (35, .iload 4, 2), (37, .if_icmp .ne 35, 3), (40, .aload_n 0, 1), (41, .getfield 28, 3), (44, .iload 7, 2), (46, .iconst 2, 1), (47, .iadd, 1), (48, .iaload, 1), (49, .iload 5, 2), (51, .if_icmp .ne 21, 3), (54, .aload_n 0, 1), (55, .getfield 28, 3), (58, .iload 7, 2), (60, .iconst 3, 1), (61, .iadd, 1), (62, .iaload, 1), (63, .iload 6, 2), (65, .if_icmp .ne 7, 3), (68, .iconst 1, 1), (69, .goto 4, 3), (72, .iconst 0, 1), (73, .ireturn, 1)]
theorem D38 : decs prog_1_method_23_code c38 = true := by decide +kernel
theorem d38 (k : Nat) {p : Nat} {i : Instr} {n : Nat} (h : c38[k]? = some (p, i, n)) : decode prog_1_method_23_code p = .ok (i, n) := dget D38 h
def c27 : List (Nat × Instr × Nat) := [(0, .iload_n 3, 1), (1, .iload_n 2, 1), (2, .if_icmp .ne 35, 3), (5, .aload_n 0, 1), (6, .getfield 75, 3), (9, .iconst 3, 1), (10, .if_icmp .lt 9, 3), (13, .iload 4, 2), (15, .iload_n 2, 1), (16, .if_icmp .ne 21, 3), (19, .aload_n 0, 1), (20, .getfield 75, 3), (23, .iconst 4, 1), (24, .if_icmp .lt 9, 3), (27, .iload 5, 2), (29, .iload_n 2, 1), (30, .if_icmp .ne 7, 3), (33, .iconst 1, 1), (34, .goto 4, 3), (37, .iconst 0, 1), (38, .istore 6, 2), (40, .iload 6, 2), (42, .ifCond .eq 5, 3), (45, .iload_n 2, 1), (46, .ireturn, 1), (47, .aload_n 0, 1), (48, .iload_n 1, 1), (49, .iload_n 2, 1), (50, .iload_n 3, 1), (51, .iload 4, 2), (53, .iload 5, 2), (55, .invokevirtual 135, 3), (58, .istore 7, 2), (60, .iconst 0, 1), (61, .istore 8, 2), (63, .iload 8, 2), (65, .sipush 4096, 3), (68, .if_icmp .ge 66, 3), (71, .aload_n 0, 1), (72, .getfield 31, 3), (75, .iload 7, 2), (77, .iaload, 1), (78, .istore 9, 2), (80, .iload 9, 2), (82, .ifCond .ne 17, 3), (85, .aload_n 0, 1), (86, .iload 7, 2), (88, .iload_n 1, 1), (89, .iload_n 2, 1), (90, .iload_n 3, 1), (91, .iload 4, 2), (93, .iload 5, 2), (95, .invokevirtual 139, 3), (98, .ireturn, 1), (99, .aload_n 0, 1), (100, .iload 9, 2), (102, .iload_n 1, 1), (103, .iload_n 2, 1), (104, .iload_n 3, 1), (105, .iload 4, 2), (107, .iload 5, 2), (109, .invokevirtual 143, 3), (112, .ifCond .eq 6, 3), (115, .iload 9, 2), (117, .ireturn, 1), (118, .iload 7, 2), (120, .iconst 1, 1), (121, .iadd, 1), (122, .sipush 4095, 3), (125, .iand, 1), (126, .istore 7, 2), (128, .iinc 8 1, 3), (131, .goto (-68), 3), (134, .iconst 0, 1), (135, .ireturn, 1)]
theorem D27 : decs prog_1_method_24_code c27 = true := by decide +kernel
theorem d27 (k : Nat) {p : Nat} {i : Instr} {n : Nat} (h : c27[k]? = some (p, i, n)) : decode prog_1_method_24_code p = .ok (i, n) := dget D27 h
def c26 : List (Nat × Instr × Nat) := [(0, .aload_n 0, 1), (1, .aload_n 0, 1), (2, .getfield 71, 3), (5, .invokevirtual 156, 3), (8, .istore_n 1, 1), (9, .aload_n 0, 1), (10, .getfield 71, 3), (13, .iconst 1, 1), (14, .isub, 1), (15, .istore_n 2, 1), (16, .iload_n 2, 1), (17, .ifCond .lt 122, 3), (20, .iload_n 1, 1), (21, .aload_n 0, 1), (22, .getfield 75, 3), (25, .idiv, 1), (26, .istore_n 1, 1), (27, .iconst 0, 1), (28, .istore_n 3, 1), (29, .iload_n 3, 1), (30, .iload_n 1, 1), (31, .if_icmp .ge 102, 3), (34, .iload_n 3, 1), (35, .aload_n 0, 1), (36, .getfield 75, 3), (39, .imul, 1), (40, .istore 4, 2), (42, .aload_n 0, 1), (43, .getfield 44, 3), (46, .iload 4, 2), (48, .iaload, 1), (49, .istore 5, 2), (51, .aload_n 0, 1), (52, .getfield 44, 3), (55, .iload 4, 2), (57, .iconst 1, 1), (58, .iadd, 1), (59, .iaload, 1), (60, .istore 6, 2), (62, .aload_n 0, 1), (63, .getfield 75, 3), (66, .iconst 2, 1), (67, .if_icmp .le 15, 3), (70, .aload_n 0, 1), (71, .getfield 44, 3), (74, .iload 4, 2), (76, .iconst 2, 1), (77, .iadd, 1), (78, .iaload, 1), (79, .goto 4, 3), (82, .iconst 0, 1), (83, .istore 7, 2), (85, .aload_n 0, 1), (86, .getfield 75, 3), (89, .iconst 3, 1), (90, .if_icmp .le 15, 3), (93, .aload_n 0, 1), (94, .getfield 44, 3), (97, .iload 4, 2), (99, .iconst 3, 1), (100, .iadd, 1), (101, .iaload, 1), (102, .goto 4, 3), (105, .iconst 0, 1), (106, .istore 8, 2), (108, .aload_n 0, 1), (109, .getfield 44, 3), (112, .iload_n 3, 1), (113, .aload_n 0, 1), (114, .iload_n 2, 1), (115, .iload 5, 2), (117, .iload 6, 2), (119, .iload 7, 2), (121, .iload 8, 2), (123, .invokevirtual 170, 3), (126, .iastore, 1), (127, .iinc 3 1, 3), (130, .goto (-101), 3), (133, .iinc 2 (-1), 3), (136, .goto (-120), 3), (139, .aload_n 0, 1), (140, .getfield 44, 3), (143, .iconst 0, 1), (144, .iaload, 1), (145, .ireturn, 1)]
theorem D26 : decs prog_1_method_33_code c26 = true := by decide +kernel
theorem d26 (k : Nat) {p : Nat} {i : Instr} {n : Nat} (h : c26[k]? = some (p, i, n)) : decode prog_1_method_33_code p = .ok (i, n) := dget D26 h
def c22 : List (Nat × Instr × Nat) := [(0, .iconst 0, 1), (1, .istore_n 1, 1), (2, .iload_n 1, 1), (3, .bipush 64, 2), (5, .if_icmp .ge 16, 3), (8, .aload_n 0, 1), (9, .getfield 47, 3), (12, .iload_n 1, 1), (13, .iconst 0, 1), (14, .bastore, 1), (15, .iinc 1 1, 3), (18, .goto (-16), 3), (21, .iconst 0, 1), (22, .istore_n 1, 1), (23, .iload_n 1, 1), (24, .aload_n 0, 1), (25, .getfield 107, 3), (28, .if_icmp .ge 39, 3), (31, .iload_n 1, 1), (32, .bipush 16, 2), (34, .if_icmp .ge 33, 3), (37, .aload_n 0, 1), (38, .getfield 13, 3), (41, .iload_n 1, 1), (42, .iaload, 1), (43, .istore_n 2, 1), (44, .iload_n 2, 1), (45, .ifCond .lt 16, 3), (48, .iload_n 2, 1), (49, .bipush 64, 2), (51, .if_icmp .ge 10, 3), (54, .aload_n 0, 1), (55, .getfield 47, 3), (58, .iload_n 2, 1), (59, .iconst 1, 1), (60, .bastore, 1), (61, .iinc 1 1, 3), (64, .goto (-41), 3), (67, .aload_n 0, 1), (68, .aload_n 0, 1), (69, .getfield 71, 3), (72, .invokevirtual 156, 3), (75, .istore_n 1, 1), (76, .iconst 0, 1), (77, .istore_n 2, 1), (78, .iload_n 2, 1), (79, .iload_n 1, 1), (80, .if_icmp .ge 44, 3), (83, .iload_n 2, 1), (84, .sipush 1024, 3), (87, .if_icmp .ge 37, 3), (90, .aload_n 0, 1), (91, .iload_n 2, 1), (92, .invokevirtual 160, 3), (95, .aload_n 0, 1), (96, .getfield 44, 3), (99, .iload_n 2, 1), (100, .aload_n 0, 1), (101, .getfield 47, 3), (104, .aload_n 0, 1), (105, .invokevirtual 164, 3), (108, .baload, 1), (109, .ifCond .eq 7, 3), (112, .iconst 1, 1), (113, .goto 4, 3), (116, .iconst 0, 1), (117, .iastore, 1), (118, .iinc 2 1, 3), (121, .goto (-43), 3), (124, .aload_n 0, 1), (125, .invokevirtual 167, 3), (128, .ireturn, 1)]
theorem D22 : decs prog_1_method_30_code c22 = true := by decide +kernel
theorem d22 (k : Nat) {p : Nat} {i : Instr} {n : Nat} (h : c22[k]? = some (p, i, n)) : decode prog_1_method_30_code p = .ok (i, n) := dget D22 h
def c29 : List (Nat × Instr × Nat) := [(0, .aload_n 0, 1), (1, .getfield 173, 3), (4, .bipush 64, 2), (6, .if_icmp .lt 4, 3), (9, .return_, 1), (10, .aload_n 0, 1), (11, .getfield 62, 3), (14, .aload_n 0, 1), (15, .getfield 173, 3), (18, .iload_n 1, 1), (19, .iastore, 1), (20, .aload_n 0, 1), (21, .getfield 65, 3), (24, .aload_n 0, 1), (25, .getfield 173, 3), (28, .iload_n 2, 1), (29, .iastore, 1), (30, .aload_n 0, 1), (31, .getfield 68, 3), (34, .aload_n 0, 1), (35, .getfield 173, 3), (38, .iconst 0, 1), (39, .iastore, 1), (40, .aload_n 0, 1), (41, .dup, 1), (42, .getfield 173, 3), (45, .iconst 1, 1), (46, .iadd, 1), (47, .putfield 173, 3), (50, .return_, 1)]
theorem D29 : decs prog_1_method_35_code c29 = true := by decide +kernel
theorem d29 (k : Nat) {p : Nat} {i : Instr} {n : Nat} (h : c29[k]? = some (p, i, n)) : decode prog_1_method_35_code p = .ok (i, n) := dget D29 h
def c41 : List (Nat × Instr × Nat) := [(0, .iload_n 1, 1), (1, .sipush 7919, 3), (4, .imul, 1), (5, .iload_n 2, 1), (6, .bipush 31, 2), (8, .imul, 1), (9, .iadd, 1), (10, .istore_n 3, 1), (11, .iload_n 3, 1), (12, .iload_n 3, 1), (13, .bipush 11, 2), (15, .iushr, 1), (16, .ixor, 1), (17, .istore_n 3, 1), (18, .iload_n 3, 1), (19, .sipush 1023, 3), (22, .iand, 1), (23, .ireturn, 1)]
theorem D41 : decs prog_1_method_43_code c41 = true := by decide +kernel
theorem d41 (k : Nat) {p : Nat} {i : Instr} {n : Nat} (h : c41[k]? = some (p, i, n)) : decode prog_1_method_43_code p = .ok (i, n) := dget D41 h
def c40 : List (Nat × Instr × Nat) := [(0, .iload_n 1, 1), (1, .iload_n 2, 1), (2, .if_icmp .ge 7, 3), (5, .iload_n 1, 1), (6, .goto 4, 3), (9, .iload_n 2, 1), (10, .istore_n 3, 1), (11, .iload_n 1, 1), (12, .iload_n 2, 1), (13, .if_icmp .ge 7, 3), (16, .iload_n 2, 1), (17, .goto 4, 3), (20, .iload_n 1, 1), (21, .istore 4, 2), (23, .aload_n 0, 1), (24, .iload_n 3, 1), (25, .iload 4, 2), (27, .invokevirtual 211, 3), (30, .istore 5, 2), (32, .iconst 0, 1), (33, .istore 6, 2), (35, .iload 6, 2), (37, .sipush 1024, 3), (40, .if_icmp .ge 60, 3), (43, .aload_n 0, 1), (44, .getfield 59, 3), (47, .iload 5, 2), (49, .baload, 1), (50, .ifCond .eq 50, 3), (53, .aload_n 0, 1), (54, .getfield 50, 3), (57, .iload 5, 2), (59, .iaload, 1), (60, .iload_n 3, 1), (61, .if_icmp .ne 23, 3), (64, .aload_n 0, 1), (65, .getfield 53, 3), (68, .iload 5, 2), (70, .iaload, 1), (71, .iload 4, 2), (73, .if_icmp .ne 11, 3), (76, .aload_n 0, 1), (77, .getfield 56, 3), (80, .iload 5, 2), (82, .iaload, 1), (83, .ireturn, 1), (84, .iload 5, 2), (86, .iconst 1, 1), (87, .iadd, 1), (88, .sipush 1023, 3), (91, .iand, 1), (92, .istore 5, 2), (94, .iinc 6 1, 3), (97, .goto (-62), 3), (100, .iconst (-1), 1), (101, .ireturn, 1)]
theorem D40 : decs prog_1_method_44_code c40 = true := by decide +kernel
theorem d40 (k : Nat) {p : Nat} {i : Instr} {n : Nat} (h : c40[k]? = some (p, i, n)) : decode prog_1_method_44_code p = .ok (i, n) := dget D40 h
def c31 : List (Nat × Instr × Nat) := [(0, .iload_n 1, 1), (1, .ifCond .eq 7, 3), (4, .iload_n 2, 1), (5, .ifCond .ne 5, 3), (8, .iconst 0, 1), (9, .ireturn, 1), (10, .iload_n 1, 1), (11, .iconst 1, 1), (12, .if_icmp .ne 5, 3), (15, .iload_n 2, 1), (16, .ireturn, 1), (17, .iload_n 2, 1), (18, .iconst 1, 1), (19, .if_icmp .eq 8, 3), (22, .iload_n 1, 1), (23, .iload_n 2, 1), (24, .if_icmp .ne 5, 3), (27, .iload_n 1, 1), (28, .ireturn, 1), (29, .aload_n 0, 1), (30, .iload_n 1, 1), (31, .iload_n 2, 1), (32, .invokevirtual 208, 3), (35, .ireturn, 1)]
theorem D31 : decs prog_1_method_42_code c31 = true := by decide +kernel
theorem d31 (k : Nat) {p : Nat} {i : Instr} {n : Nat} (h : c31[k]? = some (p, i, n)) : decode prog_1_method_42_code p = .ok (i, n) := dget D31 h
def c43 : List (Nat × Instr × Nat) := [(0, .aload_n 0, 1), (1, .getfield 25, 3), (4, .iload_n 1, 1), (5, .iaload, 1), (6, .aload_n 0, 1), (7, .getfield 25, 3), (10, .iload_n 2, 1), (11, .iaload, 1), (12, .if_icmp .ge 12, 3), (15, .aload_n 0, 1), (16, .getfield 25, 3), (19, .iload_n 1, 1), (20, .iaload, 1), (21, .goto 9, 3), (24, .aload_n 0, 1), (25, .getfield 25, 3), (28, .iload_n 2, 1), (29, .iaload, 1), (30, .ireturn, 1)]
theorem D43 : decs prog_1_method_37_code c43 = true := by decide +kernel
theorem d43 (k : Nat) {p : Nat} {i : Instr} {n : Nat} (h : c43[k]? = some (p, i, n)) : decode prog_1_method_37_code p = .ok (i, n) := dget D43 h
def c44 : List (Nat × Instr × Nat) := [(0, .aload_n 0, 1), (1, .getfield 25, 3), (4, .iload_n 1, 1), (5, .iaload, 1), (6, .iload_n 2, 1), (7, .if_icmp .ne 16, 3), (10, .aload_n 0, 1), (11, .getfield 28, 3), (14, .iload_n 1, 1), (15, .iconst 4, 1), (16, .imul, 1), (17, .iload_n 3, 1), (18, .iadd, 1), (19, .iaload, 1), (20, .goto 4, 3), (23, .iload_n 1, 1), (24, .ireturn, 1)]
theorem D44 : decs prog_1_method_38_code c44 = true := by decide +kernel
theorem d44 (k : Nat) {p : Nat} {i : Instr} {n : Nat} (h : c44[k]? = some (p, i, n)) : decode prog_1_method_38_code p = .ok (i, n) := dget D44 h
def c42 : List (Nat × Instr × Nat) := [(0, .aload_n 0, 1), (1, .iload_n 1, 1), (2, .iload_n 2, 1), (3, .invokevirtual 193, 3), (6, .istore_n 3, 1), (7, .iconst 0, 1), (8, .istore 4, 2), (10, .iload 4, 2), (12, .aload_n 0, 1), (13, .getfield 75, 3), (16, .if_icmp .ge 48, 3), (19, .aload_n 0, 1), (20, .iload_n 1, 1), (21, .iload_n 3, 1), (22, .iload 4, 2), (24, .invokevirtual 196, 3), (27, .istore 5, 2), (29, .aload_n 0, 1), (30, .iload_n 2, 1), (31, .iload_n 3, 1), (32, .iload 4, 2), (34, .invokevirtual 196, 3), (37, .istore 6, 2), (39, .aload_n 0, 1), (40, .iload 5, 2), (42, .iload 6, 2), (44, .invokevirtual 184, 3), (47, .ifCond .ge 11, 3), (50, .aload_n 0, 1), (51, .iload 5, 2), (53, .iload 6, 2), (55, .invokevirtual 176, 3), (58, .iinc 4 1, 3), (61, .goto (-51), 3), (64, .return_, 1)]
theorem D42 : decs prog_1_method_39_code c42 = true := by decide +kernel
theorem d42 (k : Nat) {p : Nat} {i : Instr} {n : Nat} (h : c42[k]? = some (p, i, n)) : decode prog_1_method_39_code p = .ok (i, n) := dget D42 h
def c46 : List (Nat × Instr × Nat) := [(0, .iload 4, 2), (2, .aload_n 0, 1), (3, .getfield 75, 3), (6, .if_icmp .lt 5, 3), (9, .iconst 0, 1), (10, .ireturn, 1), (11, .aload_n 0, 1), (12, .iload_n 1, 1), (13, .iload_n 3, 1), (14, .iload 4, 2), (16, .invokevirtual 196, 3), (19, .istore 5, 2), (21, .aload_n 0, 1), (22, .iload_n 2, 1), (23, .iload_n 3, 1), (24, .iload 4, 2), (26, .invokevirtual 196, 3), (29, .istore 6, 2), (31, .aload_n 0, 1), (32, .iload 5, 2), (34, .iload 6, 2), (36, .invokevirtual 184, 3), (39, .istore 7, 2), (41, .iload 7, 2), (43, .ifCond .ge 7, 3), (46, .iconst 0, 1), (47, .goto 5, 3), (50, .iload 7, 2), (52, .ireturn, 1)]
theorem D46 : decs prog_1_method_40_code c46 = true := by decide +kernel
theorem d46 (k : Nat) {p : Nat} {i : Instr} {n : Nat} (h : c46[k]? = some (p, i, n)) : decode prog_1_method_40_code p = .ok (i, n) := dget D46 h
def c47 : List (Nat × Instr × Nat) := [(0, .iload_n 1, 1), (1, .iload_n 2, 1), (2, .if_icmp .ge 7, 3), (5, .iload_n 1, 1), (6, .goto 4, 3), (9, .iload_n 2, 1), (10, .istore 4, 2), (12, .iload_n 1, 1), (13, .iload_n 2, 1), (14, .if_icmp .ge 7, 3), (17, .iload_n 2, 1), (18, .goto 4, 3), (21, .iload_n 1, 1), (22, .istore 5, 2), (24, .aload_n 0, 1), (25, .iload 4, 2), (27, .iload 5, 2), (29, .invokevirtual 211, 3), (32, .istore 6, 2), (34, .iconst 0, 1), (35, .istore 7, 2), (37, .iload 7, 2), (39, .sipush 1024, 3), (42, .if_icmp .ge 64, 3), (45, .aload_n 0, 1), (46, .getfield 59, 3), (49, .iload 6, 2), (51, .baload, 1), (52, .ifCond .ne 38, 3), (55, .aload_n 0, 1), (56, .getfield 59, 3), (59, .iload 6, 2), (61, .iconst 1, 1), (62, .bastore, 1), (63, .aload_n 0, 1), (64, .getfield 50, 3), (67, .iload 6, 2), (69, .iload 4, 2), (71, .iastore, 1), (72, .aload_n 0, 1), (73, .getfield 53, 3), (76, .iload 6, 2), (78, .iload 5, 2), (80, .iastore, 1), (81, .aload_n 0, 1), (82, .getfield 56, 3), (85, .iload 6, 2), (87, .iload_n 3, 1), (88, .iastore, 1), (89, .return_, 1), (90, .iload 6, 2), (92, .iconst 1, 1), (93, .iadd, 1), (94, .sipush 1023, 3), (97, .iand, 1), (98, .istore 6, 2), (100, .iinc 7 1, 3), (103, .goto (-66), 3), (106, .return_, 1)]
theorem D47 : decs prog_1_method_45_code c47 = true := by decide +kernel
theorem d47 (k : Nat) {p : Nat} {i : Instr} {n : Nat} (h : c47[k]? = some (p, i, n)) : decode prog_1_method_45_code p = .ok (i, n) := dget D47 h
def c45 : List (Nat × Instr × Nat) := [(0, .aload_n 0, 1), (1, .iload_n 1, 1), (2, .iload_n 2, 1), (3, .invokevirtual 193, 3), (6, .istore_n 3, 1), (7, .aload_n 0, 1), (8, .iload_n 1, 1), (9, .iload_n 2, 1), (10, .iload_n 3, 1), (11, .iconst 0, 1), (12, .invokevirtual 200, 3), (15, .istore 4, 2), (17, .aload_n 0, 1), (18, .iload_n 1, 1), (19, .iload_n 2, 1), (20, .iload_n 3, 1), (21, .iconst 1, 1), (22, .invokevirtual 200, 3), (25, .istore 5, 2), (27, .aload_n 0, 1), (28, .iload_n 1, 1), (29, .iload_n 2, 1), (30, .iload_n 3, 1), (31, .iconst 2, 1), (32, .invokevirtual 200, 3), (35, .istore 6, 2), (37, .aload_n 0, 1), (38, .iload_n 1, 1), (39, .iload_n 2, 1), (40, .iload_n 3, 1), (41, .iconst 3, 1), (42, .invokevirtual 200, 3), (45, .istore 7, 2), (47, .aload_n 0, 1), (48, .iload_n 3, 1), (49, .iload 4, 2), (51, .iload 5, 2), (53, .iload 6, 2), (55, .iload 7, 2), (57, .invokevirtual 170, 3), (60, .istore 8, 2), (62, .aload_n 0, 1), (63, .iload_n 1, 1), (64, .iload_n 2, 1), (65, .iload 8, 2), (67, .invokevirtual 204, 3), (70, .return_, 1)]
theorem D45 : decs prog_1_method_41_code c45 = true := by decide +kernel
theorem d45 (k : Nat) {p : Nat} {i : Instr} {n : Nat} (h : c45[k]? = some (p, i, n)) : decode prog_1_method_41_code p = .ok (i, n) := dget D45 h
def c30 : List (Nat × Instr × Nat) := [(0, .aload_n 0, 1), (1, .getfield 173, 3), (4, .iconst 1, 1), (5, .isub, 1), (6, .istore_n 1, 1), (7, .aload_n 0, 1), (8, .getfield 62, 3), (11, .iload_n 1, 1), (12, .iaload, 1), (13, .istore_n 2, 1), (14, .aload_n 0, 1), (15, .getfield 65, 3), (18, .iload_n 1, 1), (19, .iaload, 1), (20, .istore_n 3, 1), (21, .aload_n 0, 1), (22, .getfield 68, 3), (25, .iload_n 1, 1), (26, .iaload, 1), (27, .ifCond .ne 39, 3), (30, .aload_n 0, 1), (31, .iload_n 2, 1), (32, .iload_n 3, 1), (33, .invokevirtual 184, 3), (36, .ifCond .lt 14, 3), (39, .aload_n 0, 1), (40, .dup, 1), (41, .getfield 173, 3), (44, .iconst 1, 1), (45, .isub, 1), (46, .putfield 173, 3), (49, .return_, 1), (50, .aload_n 0, 1), (51, .getfield 68, 3), (54, .iload_n 1, 1), (55, .iconst 1, 1), (56, .iastore, 1), (57, .aload_n 0, 1), (58, .iload_n 2, 1), (59, .iload_n 3, 1), (60, .invokevirtual 187, 3), (63, .goto 19, 3), (66, .aload_n 0, 1), (67, .dup, 1), (68, .getfield 173, 3), (71, .iconst 1, 1), (72, .isub, 1), (73, .putfield 173, 3), (76, .aload_n 0, 1), (77, .iload_n 2, 1), (78, .iload_n 3, 1), (79, .invokevirtual 190, 3), (82, .return_, 1)]
theorem D30 : decs prog_1_method_36_code c30 = true := by decide +kernel
theorem d30 (k : Nat) {p : Nat} {i : Instr} {n : Nat} (h : c30[k]? = some (p, i, n)) : decode prog_1_method_36_code p = .ok (i, n) := dget D30 h
def c28 : List (Nat × Instr × Nat) := [(0, .iconst 0, 1), (1, .istore_n 3, 1), (2, .iload_n 3, 1), (3, .sipush 1024, 3), (6, .if_icmp .ge 16, 3), (9, .aload_n 0, 1), (10, .getfield 59, 3), (13, .iload_n 3, 1), (14, .iconst 0, 1), (15, .bastore, 1), (16, .iinc 3 1, 3), (19, .goto (-17), 3), (22, .aload_n 0, 1), (23, .iconst 0, 1), (24, .putfield 173, 3), (27, .aload_n 0, 1), (28, .iload_n 1, 1), (29, .iload_n 2, 1), (30, .invokevirtual 176, 3), (33, .iconst 0, 1), (34, .istore_n 3, 1), (35, .iload_n 3, 1), (36, .ldc 180, 2), (38, .if_icmp .ge 20, 3), (41, .aload_n 0, 1), (42, .getfield 173, 3), (45, .ifCond .le 13, 3), (48, .aload_n 0, 1), (49, .invokevirtual 181, 3), (52, .iinc 3 1, 3), (55, .goto (-20), 3), (58, .aload_n 0, 1), (59, .iload_n 1, 1), (60, .iload_n 2, 1), (61, .invokevirtual 184, 3), (64, .istore_n 3, 1), (65, .iload_n 3, 1), (66, .ifCond .ge 7, 3), (69, .iconst 0, 1), (70, .goto 4, 3), (73, .iload_n 3, 1), (74, .ireturn, 1)]
theorem D28 : decs prog_1_method_34_code c28 = true := by decide +kernel
theorem d28 (k : Nat) {p : Nat} {i : Instr} {n : Nat} (h : c28[k]? = some (p, i, n)) : decode prog_1_method_34_code p = .ok (i, n) := dget D28 h
def c19 : List (Nat × Instr × Nat) := [(0, .aload_n 0, 1), (1, .getfield 87, 3), (4, .ifCond .ne 6, 3), (7, .bipush (-4), 2), (9, .ireturn, 1), (10, .aload_n 0, 1), (11, .getfield 84, 3), (14, .bipush 8, 2), (16, .if_icmp .ge 47, 3), (19, .aload_n 0, 1), (20, .invokevirtual 113, 3), (23, .aload_n 0, 1), (24, .invokevirtual 116, 3), (27, .istore_n 1, 1), (28, .aload_n 0, 1), (29, .aload_n 0, 1), (30, .getfield 7, 3), (33, .aload_n 0, 1), (34, .getfield 84, 3), (37, .iaload, 1), (38, .iload_n 1, 1), (39, .invokevirtual 120, 3), (42, .istore_n 2, 1), (43, .aload_n 0, 1), (44, .dup, 1), (45, .getfield 84, 3), (48, .iconst 1, 1), (49, .iadd, 1), (50, .putfield 84, 3), (53, .aload_n 0, 1), (54, .getfield 7, 3), (57, .aload_n 0, 1), (58, .getfield 84, 3), (61, .iload_n 2, 1), (62, .iastore, 1), (63, .aload_n 0, 1), (64, .iconst 0, 1), (65, .putfield 87, 3), (68, .aload_n 0, 1), (69, .iconst 0, 1), (70, .putfield 107, 3), (73, .iconst 0, 1), (74, .ireturn, 1)]
theorem D19 : decs prog_1_method_6_code c19 = true := by decide +kernel
theorem d19 (k : Nat) {p : Nat} {i : Instr} {n : Nat} (h : c19[k]? = some (p, i, n)) : decode prog_1_method_6_code p = .ok (i, n) := dget D19 h
def c33 : List (Nat × Instr × Nat) := [(0, .aload_n 0, 1), (1, .getfield 87, 3), (4, .ifCond .ne 6, 3), (7, .bipush (-4), 2), (9, .ireturn, 1), (10, .aload_n 0, 1), (11, .iconst 0, 1), (12, .putfield 87, 3), (15, .aload_n 0, 1), (16, .iconst 0, 1), (17, .putfield 107, 3), (20, .iconst 0, 1), (21, .ireturn, 1)]
theorem D33 : decs prog_1_method_7_code c33 = true := by decide +kernel
theorem d33 (k : Nat) {p : Nat} {i : Instr} {n : Nat} (h : c33[k]? = some (p, i, n)) : decode prog_1_method_7_code p = .ok (i, n) := dget D33 h
def c20 : List (Nat × Instr × Nat) := [(0, .aload_n 0, 1), (1, .getfield 84, 3), (4, .ifCond .gt 6, 3), (7, .bipush (-10), 2), (9, .ireturn, 1), (10, .aload_n 0, 1), (11, .dup, 1), (12, .getfield 84, 3), (15, .iconst 1, 1), (16, .isub, 1), (17, .putfield 84, 3), (20, .iconst 0, 1), (21, .ireturn, 1)]
theorem D20 : decs prog_1_method_8_code c20 = true := by decide +kernel
theorem d20 (k : Nat) {p : Nat} {i : Instr} {n : Nat} (h : c20[k]? = some (p, i, n)) : decode prog_1_method_8_code p = .ok (i, n) := dget D20 h
def c34 : List (Nat × Instr × Nat) := [(0, .aload_n 0, 1), (1, .iload_n 1, 1), (2, .invokevirtual 91, 3), (5, .ifCond .ne 5, 3), (8, .iconst (-1), 1), (9, .ireturn, 1), (10, .aload_n 0, 1), (11, .iload_n 2, 1), (12, .invokevirtual 110, 3), (15, .ifCond .ne 6, 3), (18, .bipush (-2), 2), (20, .ireturn, 1), (21, .aload_n 0, 1), (22, .getfield 16, 3), (25, .iload_n 1, 1), (26, .iaload, 1), (27, .ifCond .lt 6, 3), (30, .bipush (-8), 2), (32, .ireturn, 1), (33, .aload_n 0, 1), (34, .iload_n 1, 1), (35, .iload_n 2, 1), (36, .invokevirtual 124, 3), (39, .ifCond .ne 6, 3), (42, .bipush (-7), 2), (44, .ireturn, 1), (45, .aload_n 0, 1), (46, .getfield 16, 3), (49, .iload_n 1, 1), (50, .iload_n 2, 1), (51, .iastore, 1), (52, .iconst 0, 1), (53, .ireturn, 1)]
theorem D34 : decs prog_1_method_9_code c34 = true := by decide +kernel
theorem d34 (k : Nat) {p : Nat} {i : Instr} {n : Nat} (h : c34[k]? = some (p, i, n)) : decode prog_1_method_9_code p = .ok (i, n) := dget D34 h
def c32 : List (Nat × Instr × Nat) := [(0, .aload_n 0, 1), (1, .iload_n 1, 1), (2, .invokevirtual 91, 3), (5, .ifCond .ne 5, 3), (8, .iconst (-1), 1), (9, .ireturn, 1), (10, .aload_n 0, 1), (11, .getfield 16, 3), (14, .iload_n 1, 1), (15, .iaload, 1), (16, .ifCond .ge 6, 3), (19, .bipush (-9), 2), (21, .ireturn, 1), (22, .aload_n 0, 1), (23, .getfield 16, 3), (26, .iload_n 1, 1), (27, .iconst (-1), 1), (28, .iastore, 1), (29, .iconst 0, 1), (30, .ireturn, 1)]
theorem D32 : decs prog_1_method_10_code c32 = true := by decide +kernel
theorem d32 (k : Nat) {p : Nat} {i : Instr} {n : Nat} (h : c32[k]? = some (p, i, n)) : decode prog_1_method_10_code p = .ok (i, n) := dget D32 h
def c35 : List (Nat × Instr × Nat) := [(0, .iconst 0, 1), (1, .istore_n 1, 1), (2, .iload_n 1, 1), (3, .iconst 5, 1), (4, .if_icmp .ge 16, 3), (7, .aload_n 0, 1), (8, .getfield 16, 3), (11, .iload_n 1, 1), (12, .iconst (-1), 1), (13, .iastore, 1), (14, .iinc 1 1, 3), (17, .goto (-15), 3), (20, .return_, 1)]
theorem D35 : decs prog_1_method_11_code c35 = true := by decide +kernel
theorem d35 (k : Nat) {p : Nat} {i : Instr} {n : Nat} (h : c35[k]? = some (p, i, n)) : decode prog_1_method_11_code p = .ok (i, n) := dget D35 h
def H0 (sn : Nat) (sf : Nat → Int32) : MHeap := [.inr (false, tab sn sf)]
def KL (sn : Nat) (sf : Nat → Int32) (s : St) : MHeap := KH flds al Ln (H0 sn sf) [] s
def f_hcell (sn : Nat) (sf : Nat → Int32) (a1 : Int32) : Option (Int32) :=
  if a1 < sn.toInt32 then
    grd (inb a1 sn) <|
    some (sf (ix a1))
  else
    some (0 : Int32)
set_option maxRecDepth 100000 in
theorem e_hcell {g : GT} {sn : Nat} {sf : Nat → Int32} {a1 : Int32} {w : Int32} (hw : HW g) {h : MHeap} (hs : h[0]? = some (.inr (false, tab sn sf))) (hr : f_hcell sn sf a1 = some w) : EvC (GG g) M_hcell [.ref 0, .int a1] h ((some (.int w)), h) := by
  refine EvC.enter (L0 := [.val (.ref 0), .val (.int a1)]) pl_hcell (fun h => nomatch h) rfl rfl ?_
  unfold f_hcell at hr
  refine Ev.iloadN (d0 0 rfl) rfl ?_
  refine Ev.aloadN (d0 1 rfl) rfl ?_
  refine Ev.sln hs (d0 2 rfl) ?_
  refine Ev.icge (t := 12) (d0 3 rfl) rfl (fun c1 => ?_) (fun c1 => ?_)
  · replace hr := (if_pos c1).symm.trans hr
    refine Ev.aloadN (d0 4 rfl) rfl ?_
    refine Ev.iloadN (d0 5 rfl) rfl ?_
    obtain ⟨b2, hr⟩ := grd_some hr
    refine Ev.sal hs (d0 6 rfl) b2 ?_
    refine Ev.goto (t := 13) (d0 7 rfl) rfl ?_
    cases hr
    exact Ev.ireturn rfl (d0 9 rfl)
  · replace hr := (if_neg c1).symm.trans hr
    refine Ev.iconst (z := 0) (d0 8 rfl) rfl ?_
    cases hr
    exact Ev.ireturn rfl (d0 9 rfl)
def f_clearUnique_2 (n : Nat) : Nat → Int32 → St → Option (St)
  | 0 => fun _ _ => none
  | k + 1 => fun x1 s =>
    if x1 < (4096 : Int32) then
      grd (inb x1 4096) <|
      bnd (setA s 7 (ix x1) (0 : Int32)) fun s3 =>
      f_clearUnique_2 n k (x1 + (1 : Int32)) s3
    else
      some s
set_option maxRecDepth 100000 in
theorem e_clearUnique_2 {g : GT} {n : Nat} (hw : HW g) {K : St → MHeap} {o : Nat} {r : Nat → Nat} (V : View (GG g) Ln K o r) (k : Nat) : ∀ (x1 : Int32) (s : St) (w : St), f_clearUnique_2 n k x1 s = some w → Ev (GG g) M_clearUnique 2 [.val (.ref o), .val (.int x1)] [] (K s) (none, (K w)) := by
  induction k with
  | zero => intro x1 s w hr; rw [f_clearUnique_2] at hr; cases hr
  | succ k ih =>
    intro x1 s w hr
    rw [f_clearUnique_2] at hr
    refine Ev.iloadN (d3 2 rfl) rfl ?_
    refine Ev.sipush (z := 4096) (d3 3 rfl) rfl ?_
    refine Ev.icge (t := 22) (d3 4 rfl) rfl (fun c1 => ?_) (fun c1 => ?_)
    · replace hr := (if_pos c1).symm.trans hr
      refine Ev.aloadN (d3 5 rfl) rfl ?_
      refine Ev.gAr V (ww hw 28 rfl) (d3 6 rfl) (j := 7) rfl ?_
      refine Ev.iloadN (d3 7 rfl) rfl ?_
      refine Ev.iconst (z := 0) (d3 8 rfl) rfl ?_
      obtain ⟨b2, hr⟩ := grd_some hr
      refine Ev.ias V (j := 7) rfl rfl (d3 9 rfl) b2 ?_
      revert hr
      generalize setA s 7 (ix x1) (0 : Int32) = s3
      intro hr
      replace hr := (bnd_eq _ _).symm.trans hr
      refine Ev.iinc (z := 1) (L' := [.val (.ref o), .val (.int (x1 + (1 : Int32)))]) (d3 10 rfl) rfl rfl rfl ?_
      refine Ev.goto (t := 2) (d3 11 rfl) rfl ?_
      exact ih (x1 + (1 : Int32)) s3  _ hr
    · replace hr := (if_neg c1).symm.trans hr
      cases hr
      exact Ev.vreturn rfl (d3 12 rfl)
def f_clearUnique (n : Nat) (s : St) : Option (St) :=
  f_clearUnique_2 n n (0 : Int32) s
set_option maxRecDepth 100000 in
theorem e_clearUnique {g : GT} {n : Nat} {s : St} {w : St} (hw : HW g) {K : St → MHeap} {o : Nat} {r : Nat → Nat} (V : View (GG g) Ln K o r) (hr : f_clearUnique n s = some w) : EvC (GG g) M_clearUnique [.ref o] (K s) (none, (K w)) := by
  refine EvC.enter (L0 := [.val (.ref o), .unset]) pl_clearUnique (fun _ => rfl) rfl rfl ?_
  unfold f_clearUnique at hr
  refine Ev.iconst (z := 0) (d3 0 rfl) rfl ?_
  refine Ev.istDN (L' := [.val (.ref o), .val (.int (0 : Int32))]) (d3 1 rfl) rfl rfl rfl ?_
  exact e_clearUnique_2 hw V  n (0 : Int32) s  _ hr
def f_ctor_266 (n : Nat) : Nat → Int32 → St → Option (St)
  | 0 => fun _ _ => none
  | k + 1 => fun x3 s =>
    if x3 < (5 : Int32) then
      grd (inb x3 5) <|
      bnd (setA s 2 (ix x3) (-1 : Int32)) fun s3 =>
      f_ctor_266 n k (x3 + (1 : Int32)) s3
    else
      some s
set_option maxRecDepth 100000 in
theorem e_ctor_266 {g : GT} {n : Nat} (hw : HW g) {K : St → MHeap} {o : Nat} {r : Nat → Nat} (V : View (GG g) Ln K o r) (k : Nat) : ∀ (x3 : Int32) (s : St) (y1 : Slot) (hy1 : one1 y1 = true) (y2 : Slot) (hy2 : one1 y2 = true) (w : St), f_ctor_266 n k x3 s = some w → Ev (GG g) M_ctor 266 [.val (.ref o), y1, y2, .val (.int x3)] [] (K s) (none, (K w)) := by
  induction k with
  | zero => intro x3 s y1 hy1 y2 hy2 w hr; rw [f_ctor_266] at hr; cases hr
  | succ k ih =>
    intro x3 s y1 hy1 y2 hy2 w hr
    rw [f_ctor_266] at hr
    refine Ev.iloadN (d1 138 rfl) rfl ?_
    refine Ev.iconst (z := 5) (d1 139 rfl) rfl ?_
    refine Ev.icge (t := 284) (d1 140 rfl) rfl (fun c1 => ?_) (fun c1 => ?_)
    · replace hr := (if_pos c1).symm.trans hr
      refine Ev.aloadN (d1 141 rfl) rfl ?_
      refine Ev.gAr V (ww hw 18 rfl) (d1 142 rfl) (j := 2) rfl ?_
      refine Ev.iloadN (d1 143 rfl) rfl ?_
      refine Ev.iconst (z := -1) (d1 144 rfl) rfl ?_
      obtain ⟨b2, hr⟩ := grd_some hr
      refine Ev.ias V (j := 2) rfl rfl (d1 145 rfl) b2 ?_
      revert hr
      generalize setA s 2 (ix x3) (-1 : Int32) = s3
      intro hr
      replace hr := (bnd_eq _ _).symm.trans hr
      refine Ev.iinc (z := 1) (L' := [.val (.ref o), y1, y2, .val (.int (x3 + (1 : Int32)))]) (d1 146 rfl) rfl rfl rfl ?_
      refine Ev.goto (t := 266) (d1 147 rfl) rfl ?_
      exact ih (x3 + (1 : Int32)) s3 y1 hy1 y2 hy2 _ hr
    · replace hr := (if_neg c1).symm.trans hr
      cases hr
      exact Ev.vreturn rfl (d1 148 rfl)
def f_ctor_215 (n : Nat) (z0 : Int32) (s : St) : Option (St) :=
  bnd (setI s 21 z0) fun s1 =>
  bnd (setA s1 5 (ix (0 : Int32)) (s1.1 20)) fun s2 =>
  bnd (setA s2 5 (ix (1 : Int32)) (s2.1 20)) fun s3 =>
  bnd (setI s3 22 (2 : Int32)) fun s4 =>
  (f_clearUnique n s4).bind fun q5 =>
  bnd (setI q5 23 (0 : Int32)) fun s7 =>
  bnd (setA s7 0 (ix (0 : Int32)) (1 : Int32)) fun s8 =>
  bnd (setI s8 24 ((0 : Int32) &&& 1)) fun s9 =>
  f_ctor_266 n n (0 : Int32) s9
set_option maxRecDepth 100000 in
theorem e_ctor_215 {g : GT} {n : Nat} (hw : HW g) {K : St → MHeap} {o : Nat} {r : Nat → Nat} (V : View (GG g) Ln K o r) (z0 : Int32) (s : St) (y1 : Slot) (hy1 : one1 y1 = true) (y2 : Slot) (hy2 : one1 y2 = true) (y3 : Slot) (hy3 : one1 y3 = true) (w : St) (hr : f_ctor_215 n z0 s = some w) : Ev (GG g) M_ctor 215 [.val (.ref o), y1, y2, y3] [.int z0, .ref o] (K s) (none, (K w)) := by
  unfold f_ctor_215 at hr
  refine Ev.pI V (gok hw) (ww hw 57 rfl) (Or.inl (ww hw 58 rfl)) (d1 107 rfl) (j := 21) rfl ?_
  revert hr
  generalize setI s 21 z0 = s1
  intro hr
  replace hr := (bnd_eq _ _).symm.trans hr
  refine Ev.aloadN (d1 108 rfl) rfl ?_
  refine Ev.gAr V (ww hw 24 rfl) (d1 109 rfl) (j := 5) rfl ?_
  refine Ev.iconst (z := 0) (d1 110 rfl) rfl ?_
  refine Ev.aloadN (d1 111 rfl) rfl ?_
  refine Ev.gI V (ww hw 55 rfl) (d1 112 rfl) (j := 20) rfl rfl ?_
  refine Ev.ias V (j := 5) rfl rfl (d1 113 rfl) ⟨by decide, by decide⟩ ?_
  revert hr
  generalize setA s1 5 (ix (0 : Int32)) (s1.1 20) = s2
  intro hr
  replace hr := (bnd_eq _ _).symm.trans hr
  refine Ev.aloadN (d1 114 rfl) rfl ?_
  refine Ev.gAr V (ww hw 24 rfl) (d1 115 rfl) (j := 5) rfl ?_
  refine Ev.iconst (z := 1) (d1 116 rfl) rfl ?_
  refine Ev.aloadN (d1 117 rfl) rfl ?_
  refine Ev.gI V (ww hw 55 rfl) (d1 118 rfl) (j := 20) rfl rfl ?_
  refine Ev.ias V (j := 5) rfl rfl (d1 119 rfl) ⟨by decide, by decide⟩ ?_
  revert hr
  generalize setA s2 5 (ix (1 : Int32)) (s2.1 20) = s3
  intro hr
  replace hr := (bnd_eq _ _).symm.trans hr
  refine Ev.aloadN (d1 120 rfl) rfl ?_
  refine Ev.iconst (z := 2) (d1 121 rfl) rfl ?_
  refine Ev.pI V (gok hw) (ww hw 59 rfl) (Or.inl (ww hw 60 rfl)) (d1 122 rfl) (j := 22) rfl ?_
  revert hr
  generalize setI s3 22 (2 : Int32) = s4
  intro hr
  replace hr := (bnd_eq _ _).symm.trans hr
  refine Ev.aloadN (d1 123 rfl) rfl ?_
  obtain ⟨q5, hq6, hr⟩ := Option.bind_eq_some_iff.mp hr
  refine Ev.priv (y := M_clearUnique) (args := []) (rest := []) (gok hw) rfl nm_clearUnique (ww hw 61 rfl) (ww hw 62 rfl) (ww hw 63 rfl) (ww hw 64 rfl) (lenOf pd_clearUnique rfl) (d1 124 rfl) (V.2.1 s4) (e_clearUnique hw V hq6) (by decide) (Nat.le_of_ble_eq_true rfl) rfl ?_
  refine Ev.aloadN (d1 125 rfl) rfl ?_
  refine Ev.iconst (z := 0) (d1 126 rfl) rfl ?_
  refine Ev.pI V (gok hw) (ww hw 65 rfl) (Or.inl (ww hw 66 rfl)) (d1 127 rfl) (j := 23) rfl ?_
  revert hr
  generalize setI q5 23 (0 : Int32) = s7
  intro hr
  replace hr := (bnd_eq _ _).symm.trans hr
  refine Ev.aloadN (d1 128 rfl) rfl ?_
  refine Ev.gAr V (ww hw 14 rfl) (d1 129 rfl) (j := 0) rfl ?_
  refine Ev.iconst (z := 0) (d1 130 rfl) rfl ?_
  refine Ev.iconst (z := 1) (d1 131 rfl) rfl ?_
  refine Ev.ias V (j := 0) rfl rfl (d1 132 rfl) ⟨by decide, by decide⟩ ?_
  revert hr
  generalize setA s7 0 (ix (0 : Int32)) (1 : Int32) = s8
  intro hr
  replace hr := (bnd_eq _ _).symm.trans hr
  refine Ev.aloadN (d1 133 rfl) rfl ?_
  refine Ev.iconst (z := 0) (d1 134 rfl) rfl ?_
  refine Ev.pZ V (gok hw) (ww hw 67 rfl) (Or.inl (ww hw 68 rfl)) (d1 135 rfl) (j := 24) rfl ?_
  revert hr
  generalize setI s8 24 ((0 : Int32) &&& 1) = s9
  intro hr
  replace hr := (bnd_eq _ _).symm.trans hr
  refine Ev.iconst (z := 0) (d1 136 rfl) rfl ?_
  refine Ev.istDN (L' := [.val (.ref o), y1, y2, .val (.int (0 : Int32))]) (d1 137 rfl) rfl hy3 rfl ?_
  exact e_ctor_266 hw V  n (0 : Int32) s9 y1 hy1 y2 hy2 _ hr
def f_ctor_192 (n : Nat) (x2 : Int32) (z0 : Int32) (s : St) : Option (St) :=
  bnd (setI s 20 z0) fun s1 =>
  if x2 < (2 : Int32) then
    f_ctor_215 n (2 : Int32) s1
  else
    if (4 : Int32) < x2 then
      f_ctor_215 n (4 : Int32) s1
    else
      f_ctor_215 n x2 s1
set_option maxRecDepth 100000 in
theorem e_ctor_192 {g : GT} {n : Nat} (hw : HW g) {K : St → MHeap} {o : Nat} {r : Nat → Nat} (V : View (GG g) Ln K o r) (x2 : Int32) (z0 : Int32) (s : St) (y1 : Slot) (hy1 : one1 y1 = true) (y3 : Slot) (hy3 : one1 y3 = true) (w : St) (hr : f_ctor_192 n x2 z0 s = some w) : Ev (GG g) M_ctor 192 [.val (.ref o), y1, .val (.int x2), y3] [.int z0, .ref o] (K s) (none, (K w)) := by
  unfold f_ctor_192 at hr
  refine Ev.pI V (gok hw) (ww hw 55 rfl) (Or.inl (ww hw 56 rfl)) (d1 94 rfl) (j := 20) rfl ?_
  revert hr
  generalize setI s 20 z0 = s1
  intro hr
  replace hr := (bnd_eq _ _).symm.trans hr
  refine Ev.aloadN (d1 95 rfl) rfl ?_
  refine Ev.iloadN (d1 96 rfl) rfl ?_
  refine Ev.iconst (z := 2) (d1 97 rfl) rfl ?_
  refine Ev.icge (t := 205) (d1 98 rfl) rfl (fun c2 => ?_) (fun c2 => ?_)
  · replace hr := (if_pos c2).symm.trans hr
    refine Ev.iconst (z := 2) (d1 99 rfl) rfl ?_
    refine Ev.goto (t := 215) (d1 100 rfl) rfl ?_
    exact e_ctor_215 hw V  (2 : Int32) s1 y1 hy1 (.val (.int x2)) rfl y3 hy3 _ hr
  · replace hr := (if_neg c2).symm.trans hr
    refine Ev.iloadN (d1 101 rfl) rfl ?_
    refine Ev.iconst (z := 4) (d1 102 rfl) rfl ?_
    refine Ev.icle (t := 214) (d1 103 rfl) rfl (fun c3 => ?_) (fun c3 => ?_)
    · replace hr := (if_pos c3).symm.trans hr
      refine Ev.iconst (z := 4) (d1 104 rfl) rfl ?_
      refine Ev.goto (t := 215) (d1 105 rfl) rfl ?_
      exact e_ctor_215 hw V  (4 : Int32) s1 y1 hy1 (.val (.int x2)) rfl y3 hy3 _ hr
    · replace hr := (if_neg c3).symm.trans hr
      refine Ev.iloadN (d1 106 rfl) rfl ?_
      exact e_ctor_215 hw V  x2 s1 y1 hy1 (.val (.int x2)) rfl y3 hy3 _ hr
def f_ctor_172 (n : Nat) (x1 : Int32) (x2 : Int32) (s : St) : Option (St) :=
  if x1 < (1 : Int32) then
    f_ctor_192 n x2 (1 : Int32) s
  else
    if (5 : Int32) < x1 then
      f_ctor_192 n x2 (5 : Int32) s
    else
      f_ctor_192 n x2 x1 s
set_option maxRecDepth 100000 in
theorem e_ctor_172 {g : GT} {n : Nat} (hw : HW g) {K : St → MHeap} {o : Nat} {r : Nat → Nat} (V : View (GG g) Ln K o r) (x1 : Int32) (x2 : Int32) (s : St) (y3 : Slot) (hy3 : one1 y3 = true) (w : St) (hr : f_ctor_172 n x1 x2 s = some w) : Ev (GG g) M_ctor 172 [.val (.ref o), .val (.int x1), .val (.int x2), y3] [] (K s) (none, (K w)) := by
  unfold f_ctor_172 at hr
  refine Ev.aloadN (d1 82 rfl) rfl ?_
  refine Ev.iloadN (d1 83 rfl) rfl ?_
  refine Ev.iconst (z := 1) (d1 84 rfl) rfl ?_
  refine Ev.icge (t := 182) (d1 85 rfl) rfl (fun c1 => ?_) (fun c1 => ?_)
  · replace hr := (if_pos c1).symm.trans hr
    refine Ev.iconst (z := 1) (d1 86 rfl) rfl ?_
    refine Ev.goto (t := 192) (d1 87 rfl) rfl ?_
    exact e_ctor_192 hw V  x2 (1 : Int32) s (.val (.int x1)) rfl y3 hy3 _ hr
  · replace hr := (if_neg c1).symm.trans hr
    refine Ev.iloadN (d1 88 rfl) rfl ?_
    refine Ev.iconst (z := 5) (d1 89 rfl) rfl ?_
    refine Ev.icle (t := 191) (d1 90 rfl) rfl (fun c2 => ?_) (fun c2 => ?_)
    · replace hr := (if_pos c2).symm.trans hr
      refine Ev.iconst (z := 5) (d1 91 rfl) rfl ?_
      refine Ev.goto (t := 192) (d1 92 rfl) rfl ?_
      exact e_ctor_192 hw V  x2 (5 : Int32) s (.val (.int x1)) rfl y3 hy3 _ hr
    · replace hr := (if_neg c2).symm.trans hr
      refine Ev.iloadN (d1 93 rfl) rfl ?_
      exact e_ctor_192 hw V  x2 x1 s (.val (.int x1)) rfl y3 hy3 _ hr
def f_ctor (n : Nat) (a0 : Int32) (a1 : Int32) : Option (St) :=
  f_ctor_172 n a0 a1 zeroS
set_option maxRecDepth 100000 in
theorem e_ctor {g : GT} {n : Nat} {a0 : Int32} {a1 : Int32} {w : St} (hw : HW g) {pre : MHeap} (hk : k0 (GG g) ≤ pre.length) (hr : f_ctor n a0 a1 = some w) : EvC (GG g) M_ctor [.ref pre.length, .int a0, .int a1] (pre ++ [.inl dfl]) (none, KH flds al Ln pre [] w) := by
  refine EvC.enter (L0 := [.val (.ref pre.length), .val (.int a0), .val (.int a1), .unset]) pl_ctor (fun _ => rfl) rfl rfl ?_
  unfold f_ctor at hr
  refine Ev.aloadN (d1 0 rfl) rfl ?_
  refine Ev.initO (ww hw 10 rfl) (ww hw 11 rfl) (ww hw 12 rfl) (d1 1 rfl) (by decide) (Nat.le_of_ble_eq_true rfl) ?_
  show Ev (GG g) M_ctor 4 _ _ (cons pre dfl []) _
  refine Ev.aloadN (d1 2 rfl) rfl ?_
  refine Ev.bipush (z := 9) (d1 3 rfl) rfl ?_
  refine Ev.cnew (aty := .int) (b := false) (k := 9) (q := 0) (as' := [(false, tab 9 (fun _ => 0))]) (ww hw 13 rfl) rfl (d1 4 rfl) (by decide) rfl (by decide) rfl rfl ?_
  refine Ev.cput (v' := .ref (pre.length + 1 + 0)) (fs' := [.ref (pre.length + 1 + 0), .null, .null, .null, .null, .null, .null, .null, .null, .null, .null, .null, .null, .null, .null, .null, .null, .null, .null, .null, .int 0, .int 0, .int 0, .int 0, .int 0, .int 0, .int 0, .int 0, .int 0, .int 0, .int 0]) (gok hw) hk (ww hw 14 rfl) (Or.inl (ww hw 15 rfl)) (d1 5 rfl) (j := 0) rfl rfl rfl ?_
  refine Ev.aloadN (d1 6 rfl) rfl ?_
  refine Ev.bipush (z := 16) (d1 7 rfl) rfl ?_
  refine Ev.cnew (aty := .int) (b := false) (k := 16) (q := 1) (as' := [(false, tab 9 (fun _ => 0)), (false, tab 16 (fun _ => 0))]) (ww hw 13 rfl) rfl (d1 8 rfl) (by decide) rfl (by decide) rfl rfl ?_
  refine Ev.cput (v' := .ref (pre.length + 1 + 1)) (fs' := [.ref (pre.length + 1 + 0), .ref (pre.length + 1 + 1), .null, .null, .null, .null, .null, .null, .null, .null, .null, .null, .null, .null, .null, .null, .null, .null, .null, .null, .int 0, .int 0, .int 0, .int 0, .int 0, .int 0, .int 0, .int 0, .int 0, .int 0, .int 0]) (gok hw) hk (ww hw 16 rfl) (Or.inl (ww hw 17 rfl)) (d1 9 rfl) (j := 1) rfl rfl rfl ?_
  refine Ev.aloadN (d1 10 rfl) rfl ?_
  refine Ev.iconst (z := 5) (d1 11 rfl) rfl ?_
  refine Ev.cnew (aty := .int) (b := false) (k := 5) (q := 2) (as' := [(false, tab 9 (fun _ => 0)), (false, tab 16 (fun _ => 0)), (false, tab 5 (fun _ => 0))]) (ww hw 13 rfl) rfl (d1 12 rfl) (by decide) rfl (by decide) rfl rfl ?_
  refine Ev.cput (v' := .ref (pre.length + 1 + 2)) (fs' := [.ref (pre.length + 1 + 0), .ref (pre.length + 1 + 1), .ref (pre.length + 1 + 2), .null, .null, .null, .null, .null, .null, .null, .null, .null, .null, .null, .null, .null, .null, .null, .null, .null, .int 0, .int 0, .int 0, .int 0, .int 0, .int 0, .int 0, .int 0, .int 0, .int 0, .int 0]) (gok hw) hk (ww hw 18 rfl) (Or.inl (ww hw 19 rfl)) (d1 13 rfl) (j := 2) rfl rfl rfl ?_
  refine Ev.aloadN (d1 14 rfl) rfl ?_
  refine Ev.iconst (z := 5) (d1 15 rfl) rfl ?_
  refine Ev.cnew (aty := .int) (b := false) (k := 5) (q := 3) (as' := [(false, tab 9 (fun _ => 0)), (false, tab 16 (fun _ => 0)), (false, tab 5 (fun _ => 0)), (false, tab 5 (fun _ => 0))]) (ww hw 13 rfl) rfl (d1 16 rfl) (by decide) rfl (by decide) rfl rfl ?_
  refine Ev.cput (v' := .ref (pre.length + 1 + 3)) (fs' := [.ref (pre.length + 1 + 0), .ref (pre.length + 1 + 1), .ref (pre.length + 1 + 2), .ref (pre.length + 1 + 3), .null, .null, .null, .null, .null, .null, .null, .null, .null, .null, .null, .null, .null, .null, .null, .null, .int 0, .int 0, .int 0, .int 0, .int 0, .int 0, .int 0, .int 0, .int 0, .int 0, .int 0]) (gok hw) hk (ww hw 20 rfl) (Or.inl (ww hw 21 rfl)) (d1 17 rfl) (j := 3) rfl rfl rfl ?_
  refine Ev.aloadN (d1 18 rfl) rfl ?_
  refine Ev.iconst (z := 5) (d1 19 rfl) rfl ?_
  refine Ev.cnew (aty := .int) (b := false) (k := 5) (q := 4) (as' := [(false, tab 9 (fun _ => 0)), (false, tab 16 (fun _ => 0)), (false, tab 5 (fun _ => 0)), (false, tab 5 (fun _ => 0)), (false, tab 5 (fun _ => 0))]) (ww hw 13 rfl) rfl (d1 20 rfl) (by decide) rfl (by decide) rfl rfl ?_
  refine Ev.cput (v' := .ref (pre.length + 1 + 4)) (fs' := [.ref (pre.length + 1 + 0), .ref (pre.length + 1 + 1), .ref (pre.length + 1 + 2), .ref (pre.length + 1 + 3), .ref (pre.length + 1 + 4), .null, .null, .null, .null, .null, .null, .null, .null, .null, .null, .null, .null, .null, .null, .null, .int 0, .int 0, .int 0, .int 0, .int 0, .int 0, .int 0, .int 0, .int 0, .int 0, .int 0]) (gok hw) hk (ww hw 22 rfl) (Or.inl (ww hw 23 rfl)) (d1 21 rfl) (j := 4) rfl rfl rfl ?_
  refine Ev.aloadN (d1 22 rfl) rfl ?_
  refine Ev.sipush (z := 2048) (d1 23 rfl) rfl ?_
  refine Ev.cnew (aty := .int) (b := false) (k := 2048) (q := 5) (as' := [(false, tab 9 (fun _ => 0)), (false, tab 16 (fun _ => 0)), (false, tab 5 (fun _ => 0)), (false, tab 5 (fun _ => 0)), (false, tab 5 (fun _ => 0)), (false, tab 2048 (fun _ => 0))]) (ww hw 13 rfl) rfl (d1 24 rfl) (by decide) rfl (by decide) rfl rfl ?_
  refine Ev.cput (v' := .ref (pre.length + 1 + 5)) (fs' := [.ref (pre.length + 1 + 0), .ref (pre.length + 1 + 1), .ref (pre.length + 1 + 2), .ref (pre.length + 1 + 3), .ref (pre.length + 1 + 4), .ref (pre.length + 1 + 5), .null, .null, .null, .null, .null, .null, .null, .null, .null, .null, .null, .null, .null, .null, .int 0, .int 0, .int 0, .int 0, .int 0, .int 0, .int 0, .int 0, .int 0, .int 0, .int 0]) (gok hw) hk (ww hw 24 rfl) (Or.inl (ww hw 25 rfl)) (d1 25 rfl) (j := 5) rfl rfl rfl ?_
  refine Ev.aloadN (d1 26 rfl) rfl ?_
  refine Ev.sipush (z := 8192) (d1 27 rfl) rfl ?_
  refine Ev.cnew (aty := .int) (b := false) (k := 8192) (q := 6) (as' := [(false, tab 9 (fun _ => 0)), (false, tab 16 (fun _ => 0)), (false, tab 5 (fun _ => 0)), (false, tab 5 (fun _ => 0)), (false, tab 5 (fun _ => 0)), (false, tab 2048 (fun _ => 0)), (false, tab 8192 (fun _ => 0))]) (ww hw 13 rfl) rfl (d1 28 rfl) (by decide) rfl (by decide) rfl rfl ?_
  refine Ev.cput (v' := .ref (pre.length + 1 + 6)) (fs' := [.ref (pre.length + 1 + 0), .ref (pre.length + 1 + 1), .ref (pre.length + 1 + 2), .ref (pre.length + 1 + 3), .ref (pre.length + 1 + 4), .ref (pre.length + 1 + 5), .ref (pre.length + 1 + 6), .null, .null, .null, .null, .null, .null, .null, .null, .null, .null, .null, .null, .null, .int 0, .int 0, .int 0, .int 0, .int 0, .int 0, .int 0, .int 0, .int 0, .int 0, .int 0]) (gok hw) hk (ww hw 26 rfl) (Or.inl (ww hw 27 rfl)) (d1 29 rfl) (j := 6) rfl rfl rfl ?_
  refine Ev.aloadN (d1 30 rfl) rfl ?_
  refine Ev.sipush (z := 4096) (d1 31 rfl) rfl ?_
  refine Ev.cnew (aty := .int) (b := false) (k := 4096) (q := 7) (as' := [(false, tab 9 (fun _ => 0)), (false, tab 16 (fun _ => 0)), (false, tab 5 (fun _ => 0)), (false, tab 5 (fun _ => 0)), (false, tab 5 (fun _ => 0)), (false, tab 2048 (fun _ => 0)), (false, tab 8192 (fun _ => 0)), (false, tab 4096 (fun _ => 0))]) (ww hw 13 rfl) rfl (d1 32 rfl) (by decide) rfl (by decide) rfl rfl ?_
  refine Ev.cput (v' := .ref (pre.length + 1 + 7)) (fs' := [.ref (pre.length + 1 + 0), .ref (pre.length + 1 + 1), .ref (pre.length + 1 + 2), .ref (pre.length + 1 + 3), .ref (pre.length + 1 + 4), .ref (pre.length + 1 + 5), .ref (pre.length + 1 + 6), .ref (pre.length + 1 + 7), .null, .null, .null, .null, .null, .null, .null, .null, .null, .null, .null, .null, .int 0, .int 0, .int 0, .int 0, .int 0, .int 0, .int 0, .int 0, .int 0, .int 0, .int 0]) (gok hw) hk (ww hw 28 rfl) (Or.inl (ww hw 29 rfl)) (d1 33 rfl) (j := 7) rfl rfl rfl ?_
  refine Ev.aloadN (d1 34 rfl) rfl ?_
  refine Ev.sipush (z := 2048) (d1 35 rfl) rfl ?_
  refine Ev.cnew (aty := .boolean) (b := true) (k := 2048) (q := 8) (as' := [(false, tab 9 (fun _ => 0)), (false, tab 16 (fun _ => 0)), (false, tab 5 (fun _ => 0)), (false, tab 5 (fun _ => 0)), (false, tab 5 (fun _ => 0)), (false, tab 2048 (fun _ => 0)), (false, tab 8192 (fun _ => 0)), (false, tab 4096 (fun _ => 0)), (true, tab 2048 (fun _ => 0))]) (ww hw 30 rfl) rfl (d1 36 rfl) (by decide) rfl (by decide) rfl rfl ?_
  refine Ev.cput (v' := .ref (pre.length + 1 + 8)) (fs' := [.ref (pre.length + 1 + 0), .ref (pre.length + 1 + 1), .ref (pre.length + 1 + 2), .ref (pre.length + 1 + 3), .ref (pre.length + 1 + 4), .ref (pre.length + 1 + 5), .ref (pre.length + 1 + 6), .ref (pre.length + 1 + 7), .ref (pre.length + 1 + 8), .null, .null, .null, .null, .null, .null, .null, .null, .null, .null, .null, .int 0, .int 0, .int 0, .int 0, .int 0, .int 0, .int 0, .int 0, .int 0, .int 0, .int 0]) (gok hw) hk (ww hw 31 rfl) (Or.inl (ww hw 32 rfl)) (d1 37 rfl) (j := 8) rfl rfl rfl ?_
  refine Ev.aloadN (d1 38 rfl) rfl ?_
  refine Ev.sipush (z := 2048) (d1 39 rfl) rfl ?_
  refine Ev.cnew (aty := .int) (b := false) (k := 2048) (q := 9) (as' := [(false, tab 9 (fun _ => 0)), (false, tab 16 (fun _ => 0)), (false, tab 5 (fun _ => 0)), (false, tab 5 (fun _ => 0)), (false, tab 5 (fun _ => 0)), (false, tab 2048 (fun _ => 0)), (false, tab 8192 (fun _ => 0)), (false, tab 4096 (fun _ => 0)), (true, tab 2048 (fun _ => 0)), (false, tab 2048 (fun _ => 0))]) (ww hw 13 rfl) rfl (d1 40 rfl) (by decide) rfl (by decide) rfl rfl ?_
  refine Ev.cput (v' := .ref (pre.length + 1 + 9)) (fs' := [.ref (pre.length + 1 + 0), .ref (pre.length + 1 + 1), .ref (pre.length + 1 + 2), .ref (pre.length + 1 + 3), .ref (pre.length + 1 + 4), .ref (pre.length + 1 + 5), .ref (pre.length + 1 + 6), .ref (pre.length + 1 + 7), .ref (pre.length + 1 + 8), .ref (pre.length + 1 + 9), .null, .null, .null, .null, .null, .null, .null, .null, .null, .null, .int 0, .int 0, .int 0, .int 0, .int 0, .int 0, .int 0, .int 0, .int 0, .int 0, .int 0]) (gok hw) hk (ww hw 33 rfl) (Or.inl (ww hw 34 rfl)) (d1 41 rfl) (j := 9) rfl rfl rfl ?_
  refine Ev.aloadN (d1 42 rfl) rfl ?_
  refine Ev.sipush (z := 2048) (d1 43 rfl) rfl ?_
  refine Ev.cnew (aty := .int) (b := false) (k := 2048) (q := 10) (as' := [(false, tab 9 (fun _ => 0)), (false, tab 16 (fun _ => 0)), (false, tab 5 (fun _ => 0)), (false, tab 5 (fun _ => 0)), (false, tab 5 (fun _ => 0)), (false, tab 2048 (fun _ => 0)), (false, tab 8192 (fun _ => 0)), (false, tab 4096 (fun _ => 0)), (true, tab 2048 (fun _ => 0)), (false, tab 2048 (fun _ => 0)), (false, tab 2048 (fun _ => 0))]) (ww hw 13 rfl) rfl (d1 44 rfl) (by decide) rfl (by decide) rfl rfl ?_
  refine Ev.cput (v' := .ref (pre.length + 1 + 10)) (fs' := [.ref (pre.length + 1 + 0), .ref (pre.length + 1 + 1), .ref (pre.length + 1 + 2), .ref (pre.length + 1 + 3), .ref (pre.length + 1 + 4), .ref (pre.length + 1 + 5), .ref (pre.length + 1 + 6), .ref (pre.length + 1 + 7), .ref (pre.length + 1 + 8), .ref (pre.length + 1 + 9), .ref (pre.length + 1 + 10), .null, .null, .null, .null, .null, .null, .null, .null, .null, .int 0, .int 0, .int 0, .int 0, .int 0, .int 0, .int 0, .int 0, .int 0, .int 0, .int 0]) (gok hw) hk (ww hw 35 rfl) (Or.inl (ww hw 36 rfl)) (d1 45 rfl) (j := 10) rfl rfl rfl ?_
  refine Ev.aloadN (d1 46 rfl) rfl ?_
  refine Ev.sipush (z := 1024) (d1 47 rfl) rfl ?_
  refine Ev.cnew (aty := .int) (b := false) (k := 1024) (q := 11) (as' := [(false, tab 9 (fun _ => 0)), (false, tab 16 (fun _ => 0)), (false, tab 5 (fun _ => 0)), (false, tab 5 (fun _ => 0)), (false, tab 5 (fun _ => 0)), (false, tab 2048 (fun _ => 0)), (false, tab 8192 (fun _ => 0)), (false, tab 4096 (fun _ => 0)), (true, tab 2048 (fun _ => 0)), (false, tab 2048 (fun _ => 0)), (false, tab 2048 (fun _ => 0)), (false, tab 1024 (fun _ => 0))]) (ww hw 13 rfl) rfl (d1 48 rfl) (by decide) rfl (by decide) rfl rfl ?_
  refine Ev.cput (v' := .ref (pre.length + 1 + 11)) (fs' := [.ref (pre.length + 1 + 0), .ref (pre.length + 1 + 1), .ref (pre.length + 1 + 2), .ref (pre.length + 1 + 3), .ref (pre.length + 1 + 4), .ref (pre.length + 1 + 5), .ref (pre.length + 1 + 6), .ref (pre.length + 1 + 7), .ref (pre.length + 1 + 8), .ref (pre.length + 1 + 9), .ref (pre.length + 1 + 10), .ref (pre.length + 1 + 11), .null, .null, .null, .null, .null, .null, .null, .null, .int 0, .int 0, .int 0, .int 0, .int 0, .int 0, .int 0, .int 0, .int 0, .int 0, .int 0]) (gok hw) hk (ww hw 37 rfl) (Or.inl (ww hw 38 rfl)) (d1 49 rfl) (j := 11) rfl rfl rfl ?_
  refine Ev.aloadN (d1 50 rfl) rfl ?_
  refine Ev.bipush (z := 64) (d1 51 rfl) rfl ?_
  refine Ev.cnew (aty := .boolean) (b := true) (k := 64) (q := 12) (as' := [(false, tab 9 (fun _ => 0)), (false, tab 16 (fun _ => 0)), (false, tab 5 (fun _ => 0)), (false, tab 5 (fun _ => 0)), (false, tab 5 (fun _ => 0)), (false, tab 2048 (fun _ => 0)), (false, tab 8192 (fun _ => 0)), (false, tab 4096 (fun _ => 0)), (true, tab 2048 (fun _ => 0)), (false, tab 2048 (fun _ => 0)), (false, tab 2048 (fun _ => 0)), (false, tab 1024 (fun _ => 0)), (true, tab 64 (fun _ => 0))]) (ww hw 30 rfl) rfl (d1 52 rfl) (by decide) rfl (by decide) rfl rfl ?_
  refine Ev.cput (v' := .ref (pre.length + 1 + 12)) (fs' := [.ref (pre.length + 1 + 0), .ref (pre.length + 1 + 1), .ref (pre.length + 1 + 2), .ref (pre.length + 1 + 3), .ref (pre.length + 1 + 4), .ref (pre.length + 1 + 5), .ref (pre.length + 1 + 6), .ref (pre.length + 1 + 7), .ref (pre.length + 1 + 8), .ref (pre.length + 1 + 9), .ref (pre.length + 1 + 10), .ref (pre.length + 1 + 11), .ref (pre.length + 1 + 12), .null, .null, .null, .null, .null, .null, .null, .int 0, .int 0, .int 0, .int 0, .int 0, .int 0, .int 0, .int 0, .int 0, .int 0, .int 0]) (gok hw) hk (ww hw 39 rfl) (Or.inl (ww hw 40 rfl)) (d1 53 rfl) (j := 12) rfl rfl rfl ?_
  refine Ev.aloadN (d1 54 rfl) rfl ?_
  refine Ev.sipush (z := 1024) (d1 55 rfl) rfl ?_
  refine Ev.cnew (aty := .int) (b := false) (k := 1024) (q := 13) (as' := [(false, tab 9 (fun _ => 0)), (false, tab 16 (fun _ => 0)), (false, tab 5 (fun _ => 0)), (false, tab 5 (fun _ => 0)), (false, tab 5 (fun _ => 0)), (false, tab 2048 (fun _ => 0)), (false, tab 8192 (fun _ => 0)), (false, tab 4096 (fun _ => 0)), (true, tab 2048 (fun _ => 0)), (false, tab 2048 (fun _ => 0)), (false, tab 2048 (fun _ => 0)), (false, tab 1024 (fun _ => 0)), (true, tab 64 (fun _ => 0)), (false, tab 1024 (fun _ => 0))]) (ww hw 13 rfl) rfl (d1 56 rfl) (by decide) rfl (by decide) rfl rfl ?_
  refine Ev.cput (v' := .ref (pre.length + 1 + 13)) (fs' := [.ref (pre.length + 1 + 0), .ref (pre.length + 1 + 1), .ref (pre.length + 1 + 2), .ref (pre.length + 1 + 3), .ref (pre.length + 1 + 4), .ref (pre.length + 1 + 5), .ref (pre.length + 1 + 6), .ref (pre.length + 1 + 7), .ref (pre.length + 1 + 8), .ref (pre.length + 1 + 9), .ref (pre.length + 1 + 10), .ref (pre.length + 1 + 11), .ref (pre.length + 1 + 12), .ref (pre.length + 1 + 13), .null, .null, .null, .null, .null, .null, .int 0, .int 0, .int 0, .int 0, .int 0, .int 0, .int 0, .int 0, .int 0, .int 0, .int 0]) (gok hw) hk (ww hw 41 rfl) (Or.inl (ww hw 42 rfl)) (d1 57 rfl) (j := 13) rfl rfl rfl ?_
  refine Ev.aloadN (d1 58 rfl) rfl ?_
  refine Ev.sipush (z := 1024) (d1 59 rfl) rfl ?_
  refine Ev.cnew (aty := .int) (b := false) (k := 1024) (q := 14) (as' := [(false, tab 9 (fun _ => 0)), (false, tab 16 (fun _ => 0)), (false, tab 5 (fun _ => 0)), (false, tab 5 (fun _ => 0)), (false, tab 5 (fun _ => 0)), (false, tab 2048 (fun _ => 0)), (false, tab 8192 (fun _ => 0)), (false, tab 4096 (fun _ => 0)), (true, tab 2048 (fun _ => 0)), (false, tab 2048 (fun _ => 0)), (false, tab 2048 (fun _ => 0)), (false, tab 1024 (fun _ => 0)), (true, tab 64 (fun _ => 0)), (false, tab 1024 (fun _ => 0)), (false, tab 1024 (fun _ => 0))]) (ww hw 13 rfl) rfl (d1 60 rfl) (by decide) rfl (by decide) rfl rfl ?_
  refine Ev.cput (v' := .ref (pre.length + 1 + 14)) (fs' := [.ref (pre.length + 1 + 0), .ref (pre.length + 1 + 1), .ref (pre.length + 1 + 2), .ref (pre.length + 1 + 3), .ref (pre.length + 1 + 4), .ref (pre.length + 1 + 5), .ref (pre.length + 1 + 6), .ref (pre.length + 1 + 7), .ref (pre.length + 1 + 8), .ref (pre.length + 1 + 9), .ref (pre.length + 1 + 10), .ref (pre.length + 1 + 11), .ref (pre.length + 1 + 12), .ref (pre.length + 1 + 13), .ref (pre.length + 1 + 14), .null, .null, .null, .null, .null, .int 0, .int 0, .int 0, .int 0, .int 0, .int 0, .int 0, .int 0, .int 0, .int 0, .int 0]) (gok hw) hk (ww hw 43 rfl) (Or.inl (ww hw 44 rfl)) (d1 61 rfl) (j := 14) rfl rfl rfl ?_
  refine Ev.aloadN (d1 62 rfl) rfl ?_
  refine Ev.sipush (z := 1024) (d1 63 rfl) rfl ?_
  refine Ev.cnew (aty := .int) (b := false) (k := 1024) (q := 15) (as' := [(false, tab 9 (fun _ => 0)), (false, tab 16 (fun _ => 0)), (false, tab 5 (fun _ => 0)), (false, tab 5 (fun _ => 0)), (false, tab 5 (fun _ => 0)), (false, tab 2048 (fun _ => 0)), (false, tab 8192 (fun _ => 0)), (false, tab 4096 (fun _ => 0)), (true, tab 2048 (fun _ => 0)), (false, tab 2048 (fun _ => 0)), (false, tab 2048 (fun _ => 0)), (false, tab 1024 (fun _ => 0)), (true, tab 64 (fun _ => 0)), (false, tab 1024 (fun _ => 0)), (false, tab 1024 (fun _ => 0)), (false, tab 1024 (fun _ => 0))]) (ww hw 13 rfl) rfl (d1 64 rfl) (by decide) rfl (by decide) rfl rfl ?_
  refine Ev.cput (v' := .ref (pre.length + 1 + 15)) (fs' := [.ref (pre.length + 1 + 0), .ref (pre.length + 1 + 1), .ref (pre.length + 1 + 2), .ref (pre.length + 1 + 3), .ref (pre.length + 1 + 4), .ref (pre.length + 1 + 5), .ref (pre.length + 1 + 6), .ref (pre.length + 1 + 7), .ref (pre.length + 1 + 8), .ref (pre.length + 1 + 9), .ref (pre.length + 1 + 10), .ref (pre.length + 1 + 11), .ref (pre.length + 1 + 12), .ref (pre.length + 1 + 13), .ref (pre.length + 1 + 14), .ref (pre.length + 1 + 15), .null, .null, .null, .null, .int 0, .int 0, .int 0, .int 0, .int 0, .int 0, .int 0, .int 0, .int 0, .int 0, .int 0]) (gok hw) hk (ww hw 45 rfl) (Or.inl (ww hw 46 rfl)) (d1 65 rfl) (j := 15) rfl rfl rfl ?_
  refine Ev.aloadN (d1 66 rfl) rfl ?_
  refine Ev.sipush (z := 1024) (d1 67 rfl) rfl ?_
  refine Ev.cnew (aty := .boolean) (b := true) (k := 1024) (q := 16) (as' := [(false, tab 9 (fun _ => 0)), (false, tab 16 (fun _ => 0)), (false, tab 5 (fun _ => 0)), (false, tab 5 (fun _ => 0)), (false, tab 5 (fun _ => 0)), (false, tab 2048 (fun _ => 0)), (false, tab 8192 (fun _ => 0)), (false, tab 4096 (fun _ => 0)), (true, tab 2048 (fun _ => 0)), (false, tab 2048 (fun _ => 0)), (false, tab 2048 (fun _ => 0)), (false, tab 1024 (fun _ => 0)), (true, tab 64 (fun _ => 0)), (false, tab 1024 (fun _ => 0)), (false, tab 1024 (fun _ => 0)), (false, tab 1024 (fun _ => 0)), (true, tab 1024 (fun _ => 0))]) (ww hw 30 rfl) rfl (d1 68 rfl) (by decide) rfl (by decide) rfl rfl ?_
  refine Ev.cput (v' := .ref (pre.length + 1 + 16)) (fs' := [.ref (pre.length + 1 + 0), .ref (pre.length + 1 + 1), .ref (pre.length + 1 + 2), .ref (pre.length + 1 + 3), .ref (pre.length + 1 + 4), .ref (pre.length + 1 + 5), .ref (pre.length + 1 + 6), .ref (pre.length + 1 + 7), .ref (pre.length + 1 + 8), .ref (pre.length + 1 + 9), .ref (pre.length + 1 + 10), .ref (pre.length + 1 + 11), .ref (pre.length + 1 + 12), .ref (pre.length + 1 + 13), .ref (pre.length + 1 + 14), .ref (pre.length + 1 + 15), .ref (pre.length + 1 + 16), .null, .null, .null, .int 0, .int 0, .int 0, .int 0, .int 0, .int 0, .int 0, .int 0, .int 0, .int 0, .int 0]) (gok hw) hk (ww hw 47 rfl) (Or.inl (ww hw 48 rfl)) (d1 69 rfl) (j := 16) rfl rfl rfl ?_
  refine Ev.aloadN (d1 70 rfl) rfl ?_
  refine Ev.bipush (z := 64) (d1 71 rfl) rfl ?_
  refine Ev.cnew (aty := .int) (b := false) (k := 64) (q := 17) (as' := [(false, tab 9 (fun _ => 0)), (false, tab 16 (fun _ => 0)), (false, tab 5 (fun _ => 0)), (false, tab 5 (fun _ => 0)), (false, tab 5 (fun _ => 0)), (false, tab 2048 (fun _ => 0)), (false, tab 8192 (fun _ => 0)), (false, tab 4096 (fun _ => 0)), (true, tab 2048 (fun _ => 0)), (false, tab 2048 (fun _ => 0)), (false, tab 2048 (fun _ => 0)), (false, tab 1024 (fun _ => 0)), (true, tab 64 (fun _ => 0)), (false, tab 1024 (fun _ => 0)), (false, tab 1024 (fun _ => 0)), (false, tab 1024 (fun _ => 0)), (true, tab 1024 (fun _ => 0)), (false, tab 64 (fun _ => 0))]) (ww hw 13 rfl) rfl (d1 72 rfl) (by decide) rfl (by decide) rfl rfl ?_
  refine Ev.cput (v' := .ref (pre.length + 1 + 17)) (fs' := [.ref (pre.length + 1 + 0), .ref (pre.length + 1 + 1), .ref (pre.length + 1 + 2), .ref (pre.length + 1 + 3), .ref (pre.length + 1 + 4), .ref (pre.length + 1 + 5), .ref (pre.length + 1 + 6), .ref (pre.length + 1 + 7), .ref (pre.length + 1 + 8), .ref (pre.length + 1 + 9), .ref (pre.length + 1 + 10), .ref (pre.length + 1 + 11), .ref (pre.length + 1 + 12), .ref (pre.length + 1 + 13), .ref (pre.length + 1 + 14), .ref (pre.length + 1 + 15), .ref (pre.length + 1 + 16), .ref (pre.length + 1 + 17), .null, .null, .int 0, .int 0, .int 0, .int 0, .int 0, .int 0, .int 0, .int 0, .int 0, .int 0, .int 0]) (gok hw) hk (ww hw 49 rfl) (Or.inl (ww hw 50 rfl)) (d1 73 rfl) (j := 17) rfl rfl rfl ?_
  refine Ev.aloadN (d1 74 rfl) rfl ?_
  refine Ev.bipush (z := 64) (d1 75 rfl) rfl ?_
  refine Ev.cnew (aty := .int) (b := false) (k := 64) (q := 18) (as' := [(false, tab 9 (fun _ => 0)), (false, tab 16 (fun _ => 0)), (false, tab 5 (fun _ => 0)), (false, tab 5 (fun _ => 0)), (false, tab 5 (fun _ => 0)), (false, tab 2048 (fun _ => 0)), (false, tab 8192 (fun _ => 0)), (false, tab 4096 (fun _ => 0)), (true, tab 2048 (fun _ => 0)), (false, tab 2048 (fun _ => 0)), (false, tab 2048 (fun _ => 0)), (false, tab 1024 (fun _ => 0)), (true, tab 64 (fun _ => 0)), (false, tab 1024 (fun _ => 0)), (false, tab 1024 (fun _ => 0)), (false, tab 1024 (fun _ => 0)), (true, tab 1024 (fun _ => 0)), (false, tab 64 (fun _ => 0)), (false, tab 64 (fun _ => 0))]) (ww hw 13 rfl) rfl (d1 76 rfl) (by decide) rfl (by decide) rfl rfl ?_
  refine Ev.cput (v' := .ref (pre.length + 1 + 18)) (fs' := [.ref (pre.length + 1 + 0), .ref (pre.length + 1 + 1), .ref (pre.length + 1 + 2), .ref (pre.length + 1 + 3), .ref (pre.length + 1 + 4), .ref (pre.length + 1 + 5), .ref (pre.length + 1 + 6), .ref (pre.length + 1 + 7), .ref (pre.length + 1 + 8), .ref (pre.length + 1 + 9), .ref (pre.length + 1 + 10), .ref (pre.length + 1 + 11), .ref (pre.length + 1 + 12), .ref (pre.length + 1 + 13), .ref (pre.length + 1 + 14), .ref (pre.length + 1 + 15), .ref (pre.length + 1 + 16), .ref (pre.length + 1 + 17), .ref (pre.length + 1 + 18), .null, .int 0, .int 0, .int 0, .int 0, .int 0, .int 0, .int 0, .int 0, .int 0, .int 0, .int 0]) (gok hw) hk (ww hw 51 rfl) (Or.inl (ww hw 52 rfl)) (d1 77 rfl) (j := 18) rfl rfl rfl ?_
  refine Ev.aloadN (d1 78 rfl) rfl ?_
  refine Ev.bipush (z := 64) (d1 79 rfl) rfl ?_
  refine Ev.cnew (aty := .int) (b := false) (k := 64) (q := 19) (as' := [(false, tab 9 (fun _ => 0)), (false, tab 16 (fun _ => 0)), (false, tab 5 (fun _ => 0)), (false, tab 5 (fun _ => 0)), (false, tab 5 (fun _ => 0)), (false, tab 2048 (fun _ => 0)), (false, tab 8192 (fun _ => 0)), (false, tab 4096 (fun _ => 0)), (true, tab 2048 (fun _ => 0)), (false, tab 2048 (fun _ => 0)), (false, tab 2048 (fun _ => 0)), (false, tab 1024 (fun _ => 0)), (true, tab 64 (fun _ => 0)), (false, tab 1024 (fun _ => 0)), (false, tab 1024 (fun _ => 0)), (false, tab 1024 (fun _ => 0)), (true, tab 1024 (fun _ => 0)), (false, tab 64 (fun _ => 0)), (false, tab 64 (fun _ => 0)), (false, tab 64 (fun _ => 0))]) (ww hw 13 rfl) rfl (d1 80 rfl) (by decide) rfl (by decide) rfl rfl ?_
  refine Ev.cput (v' := .ref (pre.length + 1 + 19)) (fs' := [.ref (pre.length + 1 + 0), .ref (pre.length + 1 + 1), .ref (pre.length + 1 + 2), .ref (pre.length + 1 + 3), .ref (pre.length + 1 + 4), .ref (pre.length + 1 + 5), .ref (pre.length + 1 + 6), .ref (pre.length + 1 + 7), .ref (pre.length + 1 + 8), .ref (pre.length + 1 + 9), .ref (pre.length + 1 + 10), .ref (pre.length + 1 + 11), .ref (pre.length + 1 + 12), .ref (pre.length + 1 + 13), .ref (pre.length + 1 + 14), .ref (pre.length + 1 + 15), .ref (pre.length + 1 + 16), .ref (pre.length + 1 + 17), .ref (pre.length + 1 + 18), .ref (pre.length + 1 + 19), .int 0, .int 0, .int 0, .int 0, .int 0, .int 0, .int 0, .int 0, .int 0, .int 0, .int 0]) (gok hw) hk (ww hw 53 rfl) (Or.inl (ww hw 54 rfl)) (d1 81 rfl) (j := 19) rfl rfl rfl ?_
  show Ev (GG g) M_ctor 172 [.val (.ref pre.length), .val (.int a0), .val (.int a1), .unset] [] (KH flds al Ln pre [] zeroS) _
  exact e_ctor_172 hw (K := KH flds al Ln pre []) (o := pre.length) (r := rA pre.length al) (view_of hk al_ok al_nd) a0 a1 zeroS .unset rfl _ hr
def f_numVars (s : St) : Option (Int32) :=
  some (s.1 20)
set_option maxRecDepth 100000 in
theorem e_numVars {g : GT} {s : St} {w : Int32} (hw : HW g) {K : St → MHeap} {o : Nat} {r : Nat → Nat} (V : View (GG g) Ln K o r) (hr : f_numVars s = some w) : EvC (GG g) M_numVars [.ref o] (K s) ((some (.int w)), (K s)) := by
  refine EvC.enter (L0 := [.val (.ref o)]) pl_numVars (fun h => nomatch h) rfl rfl ?_
  unfold f_numVars at hr
  refine Ev.aloadN (d5 0 rfl) rfl ?_
  refine Ev.gI V (ww hw 55 rfl) (d5 1 rfl) (j := 20) rfl rfl ?_
  cases hr
  exact Ev.ireturn rfl (d5 2 rfl)
def f_domainSize (s : St) : Option (Int32) :=
  some (s.1 21)
set_option maxRecDepth 100000 in
theorem e_domainSize {g : GT} {s : St} {w : Int32} (hw : HW g) {K : St → MHeap} {o : Nat} {r : Nat → Nat} (V : View (GG g) Ln K o r) (hr : f_domainSize s = some w) : EvC (GG g) M_domainSize [.ref o] (K s) ((some (.int w)), (K s)) := by
  refine EvC.enter (L0 := [.val (.ref o)]) pl_domainSize (fun h => nomatch h) rfl rfl ?_
  unfold f_domainSize at hr
  refine Ev.aloadN (d6 0 rfl) rfl ?_
  refine Ev.gI V (ww hw 57 rfl) (d6 1 rfl) (j := 21) rfl rfl ?_
  cases hr
  exact Ev.ireturn rfl (d6 2 rfl)
def f_loadChoices_2 (n : Nat) : Nat → Int32 → St → Option (St)
  | 0 => fun _ _ => none
  | k + 1 => fun x1 s =>
    if x1 < (5 : Int32) then
      grd (inb x1 5) <|
      bnd (setA s 3 (ix x1) (s.2 2 (ix x1))) fun s3 =>
      f_loadChoices_2 n k (x1 + (1 : Int32)) s3
    else
      some s
set_option maxRecDepth 100000 in
theorem e_loadChoices_2 {g : GT} {n : Nat} (hw : HW g) {K : St → MHeap} {o : Nat} {r : Nat → Nat} (V : View (GG g) Ln K o r) (k : Nat) : ∀ (x1 : Int32) (s : St) (w : St), f_loadChoices_2 n k x1 s = some w → Ev (GG g) M_loadChoices 2 [.val (.ref o), .val (.int x1)] [] (K s) (none, (K w)) := by
  induction k with
  | zero => intro x1 s w hr; rw [f_loadChoices_2] at hr; cases hr
  | succ k ih =>
    intro x1 s w hr
    rw [f_loadChoices_2] at hr
    refine Ev.iloadN (d8 2 rfl) rfl ?_
    refine Ev.iconst (z := 5) (d8 3 rfl) rfl ?_
    refine Ev.icge (t := 25) (d8 4 rfl) rfl (fun c1 => ?_) (fun c1 => ?_)
    · replace hr := (if_pos c1).symm.trans hr
      refine Ev.aloadN (d8 5 rfl) rfl ?_
      refine Ev.gAr V (ww hw 20 rfl) (d8 6 rfl) (j := 3) rfl ?_
      refine Ev.iloadN (d8 7 rfl) rfl ?_
      refine Ev.aloadN (d8 8 rfl) rfl ?_
      refine Ev.gAr V (ww hw 18 rfl) (d8 9 rfl) (j := 2) rfl ?_
      refine Ev.iloadN (d8 10 rfl) rfl ?_
      obtain ⟨b2, hr⟩ := grd_some hr
      refine Ev.ial V (j := 2) rfl rfl (d8 11 rfl) b2 ?_
      refine Ev.ias V (j := 3) rfl rfl (d8 12 rfl) b2 ?_
      revert hr
      generalize setA s 3 (ix x1) (s.2 2 (ix x1)) = s3
      intro hr
      replace hr := (bnd_eq _ _).symm.trans hr
      refine Ev.iinc (z := 1) (L' := [.val (.ref o), .val (.int (x1 + (1 : Int32)))]) (d8 13 rfl) rfl rfl rfl ?_
      refine Ev.goto (t := 2) (d8 14 rfl) rfl ?_
      exact ih (x1 + (1 : Int32)) s3  _ hr
    · replace hr := (if_neg c1).symm.trans hr
      cases hr
      exact Ev.vreturn rfl (d8 15 rfl)
def f_loadChoices (n : Nat) (s : St) : Option (St) :=
  f_loadChoices_2 n n (0 : Int32) s
set_option maxRecDepth 100000 in
theorem e_loadChoices {g : GT} {n : Nat} {s : St} {w : St} (hw : HW g) {K : St → MHeap} {o : Nat} {r : Nat → Nat} (V : View (GG g) Ln K o r) (hr : f_loadChoices n s = some w) : EvC (GG g) M_loadChoices [.ref o] (K s) (none, (K w)) := by
  refine EvC.enter (L0 := [.val (.ref o), .unset]) pl_loadChoices (fun _ => rfl) rfl rfl ?_
  unfold f_loadChoices at hr
  refine Ev.iconst (z := 0) (d8 0 rfl) rfl ?_
  refine Ev.istDN (L' := [.val (.ref o), .val (.int (0 : Int32))]) (d8 1 rfl) rfl rfl rfl ?_
  exact e_loadChoices_2 hw V  n (0 : Int32) s  _ hr
def f_gap_5 (n : Nat) (s : St) : Nat → Int32 → Int32 → Int32 → Option (Int32)
  | 0 => fun _ _ _ => none
  | k + 1 => fun x2 x3 x4 =>
    if x4 < x2 then
      if x4 < (5 : Int32) then
        grd (inb x4 5) <|
        if (s.2 3 (ix x4)) < 0 then
          f_gap_5 n s k x2 (x3 * (s.1 21)) (x4 + (1 : Int32))
        else
          f_gap_5 n s k x2 x3 (x4 + (1 : Int32))
      else
        some x3
    else
      some x3
set_option maxRecDepth 100000 in
theorem e_gap_5 {g : GT} {n : Nat} {s : St} (hw : HW g) {K : St → MHeap} {o : Nat} {r : Nat → Nat} (V : View (GG g) Ln K o r) (k : Nat) : ∀ (x2 : Int32) (x3 : Int32) (x4 : Int32) (y1 : Slot) (hy1 : one1 y1 = true) (w : Int32), f_gap_5 n s k x2 x3 x4 = some w → Ev (GG g) M_gap 5 [.val (.ref o), y1, .val (.int x2), .val (.int x3), .val (.int x4)] [] (K s) ((some (.int w)), (K s)) := by
  induction k with
  | zero => intro x2 x3 x4 y1 hy1 w hr; rw [f_gap_5] at hr; cases hr
  | succ k ih =>
    intro x2 x3 x4 y1 hy1 w hr
    rw [f_gap_5] at hr
    refine Ev.iload (d10 4 rfl) rfl ?_
    refine Ev.iloadN (d10 5 rfl) rfl ?_
    refine Ev.icge (t := 40) (d10 6 rfl) rfl (fun c1 => ?_) (fun c1 => ?_)
    · replace hr := (if_pos c1).symm.trans hr
      refine Ev.iload (d10 7 rfl) rfl ?_
      refine Ev.iconst (z := 5) (d10 8 rfl) rfl ?_
      refine Ev.icge (t := 40) (d10 9 rfl) rfl (fun c2 => ?_) (fun c2 => ?_)
      · replace hr := (if_pos c2).symm.trans hr
        refine Ev.aloadN (d10 10 rfl) rfl ?_
        refine Ev.gAr V (ww hw 20 rfl) (d10 11 rfl) (j := 3) rfl ?_
        refine Ev.iload (d10 12 rfl) rfl ?_
        obtain ⟨b3, hr⟩ := grd_some hr
        refine Ev.ial V (j := 3) rfl rfl (d10 13 rfl) b3 ?_
        refine Ev.ifge (t := 34) (d10 14 rfl) rfl (fun c4 => ?_) (fun c4 => ?_)
        · replace hr := (if_pos c4).symm.trans hr
          refine Ev.iloadN (d10 15 rfl) rfl ?_
          refine Ev.aloadN (d10 16 rfl) rfl ?_
          refine Ev.gI V (ww hw 57 rfl) (d10 17 rfl) (j := 21) rfl rfl ?_
          refine Ev.imul (d10 18 rfl) ?_
          refine Ev.istDN (L' := [.val (.ref o), y1, .val (.int x2), .val (.int (x3 * (s.1 21))), .val (.int x4)]) (d10 19 rfl) rfl rfl rfl ?_
          refine Ev.iinc (z := 1) (L' := [.val (.ref o), y1, .val (.int x2), .val (.int (x3 * (s.1 21))), .val (.int (x4 + (1 : Int32)))]) (d10 20 rfl) rfl rfl rfl ?_
          refine Ev.goto (t := 5) (d10 21 rfl) rfl ?_
          exact ih x2 (x3 * (s.1 21)) (x4 + (1 : Int32)) y1 hy1 _ hr
        · replace hr := (if_neg c4).symm.trans hr
          refine Ev.iinc (z := 1) (L' := [.val (.ref o), y1, .val (.int x2), .val (.int x3), .val (.int (x4 + (1 : Int32)))]) (d10 20 rfl) rfl rfl rfl ?_
          refine Ev.goto (t := 5) (d10 21 rfl) rfl ?_
          exact ih x2 x3 (x4 + (1 : Int32)) y1 hy1 _ hr
      · replace hr := (if_neg c2).symm.trans hr
        refine Ev.iloadN (d10 22 rfl) rfl ?_
        cases hr
        exact Ev.ireturn rfl (d10 23 rfl)
    · replace hr := (if_neg c1).symm.trans hr
      refine Ev.iloadN (d10 22 rfl) rfl ?_
      cases hr
      exact Ev.ireturn rfl (d10 23 rfl)
def f_gap (n : Nat) (s : St) (a0 : Int32) (a1 : Int32) : Option (Int32) :=
  f_gap_5 n s n a1 (1 : Int32) a0
set_option maxRecDepth 100000 in
theorem e_gap {g : GT} {n : Nat} {s : St} {a0 : Int32} {a1 : Int32} {w : Int32} (hw : HW g) {K : St → MHeap} {o : Nat} {r : Nat → Nat} (V : View (GG g) Ln K o r) (hr : f_gap n s a0 a1 = some w) : EvC (GG g) M_gap [.ref o, .int a0, .int a1] (K s) ((some (.int w)), (K s)) := by
  refine EvC.enter (L0 := [.val (.ref o), .val (.int a0), .val (.int a1), .unset, .unset]) pl_gap (fun h => nomatch h) rfl rfl ?_
  unfold f_gap at hr
  refine Ev.iconst (z := 1) (d10 0 rfl) rfl ?_
  refine Ev.istDN (L' := [.val (.ref o), .val (.int a0), .val (.int a1), .val (.int (1 : Int32)), .unset]) (d10 1 rfl) rfl rfl rfl ?_
  refine Ev.iloadN (d10 2 rfl) rfl ?_
  refine Ev.istD (L' := [.val (.ref o), .val (.int a0), .val (.int a1), .val (.int (1 : Int32)), .val (.int a0)]) (d10 3 rfl) rfl rfl rfl ?_
  exact e_gap_5 hw V  n a1 (1 : Int32) a0 (.val (.int a0)) rfl _ hr
def f_nodeCount_55 (n : Nat) (s : St) (k23 : Int32 → Int32 → Int32 → Int32 → Option (Int32)) (x1 : Int32) (x2 : Int32) (x3 : Int32) (x4 : Int32) : Option (Int32) :=
  grd (inb ((x1 * (4 : Int32)) + x4) 8192) <|
  bnd (s.2 6 (ix ((x1 * (4 : Int32)) + x4))) fun v2 =>
  if v2 < 0 then
    k23 x1 x2 x3 (x4 + (1 : Int32))
  else
    if v2 < x1 then
      grd (inb v2 2048) <|
      (f_gap n s (x2 + (1 : Int32)) (s.2 5 (ix v2))).bind fun q6 =>
      bnd (x3 + ((s.2 10 (ix v2)) * q6)) fun v8 =>
      k23 x1 x2 v8 (x4 + (1 : Int32))
    else
      k23 x1 x2 x3 (x4 + (1 : Int32))
set_option maxRecDepth 100000 in
theorem e_nodeCount_55 {g : GT} {n : Nat} {s : St} (hw : HW g) {K : St → MHeap} {o : Nat} {r : Nat → Nat} (V : View (GG g) Ln K o r) {k23 : Int32 → Int32 → Int32 → Int32 → Option (Int32)} (hk23 : ∀ (x1 : Int32) (x2 : Int32) (x3 : Int32) (x4 : Int32) (y5 : Slot) (hy5 : one1 y5 = true) (y6 : Slot) (hy6 : one1 y6 = true) (w : Int32), k23 x1 x2 x3 x4 = some w → Ev (GG g) M_nodeCount 23 [.val (.ref o), .val (.int x1), .val (.int x2), .val (.int x3), .val (.int x4), y5, y6] [] (K s) ((some (.int w)), (K s))) (x1 : Int32) (x2 : Int32) (x3 : Int32) (x4 : Int32) (y5 : Slot) (hy5 : one1 y5 = true) (y6 : Slot) (hy6 : one1 y6 = true) (w : Int32) (hr : f_nodeCount_55 n s k23 x1 x2 x3 x4 = some w) : Ev (GG g) M_nodeCount 55 [.val (.ref o), .val (.int x1), .val (.int x2), .val (.int x3), .val (.int x4), y5, y6] [] (K s) ((some (.int w)), (K s)) := by
  unfold f_nodeCount_55 at hr
  refine Ev.aloadN (d39 32 rfl) rfl ?_
  refine Ev.gAr V (ww hw 26 rfl) (d39 33 rfl) (j := 6) rfl ?_
  refine Ev.iloadN (d39 34 rfl) rfl ?_
  refine Ev.iconst (z := 4) (d39 35 rfl) rfl ?_
  refine Ev.imul (d39 36 rfl) ?_
  refine Ev.iload (d39 37 rfl) rfl ?_
  refine Ev.iadd (d39 38 rfl) ?_
  obtain ⟨b1, hr⟩ := grd_some hr
  refine Ev.ial V (j := 6) rfl rfl (d39 39 rfl) b1 ?_
  revert hr
  generalize (s.2 6 (ix ((x1 * (4 : Int32)) + x4))) = v2
  intro hr
  replace hr := (bnd_eq _ _).symm.trans hr
  refine Ev.istD (L' := [.val (.ref o), .val (.int x1), .val (.int x2), .val (.int x3), .val (.int x4), .val (.int v2), y6]) (d39 40 rfl) rfl hy5 rfl ?_
  refine Ev.iload (d39 41 rfl) rfl ?_
  refine Ev.iflt (t := 111) (d39 42 rfl) rfl (fun c3 => ?_) (fun c3 => ?_)
  · replace hr := (if_pos c3).symm.trans hr
    refine Ev.iinc (z := 1) (L' := [.val (.ref o), .val (.int x1), .val (.int x2), .val (.int x3), .val (.int (x4 + (1 : Int32))), .val (.int v2), y6]) (d39 66 rfl) rfl rfl rfl ?_
    refine Ev.goto (t := 23) (d39 67 rfl) rfl ?_
    exact hk23 x1 x2 x3 (x4 + (1 : Int32)) (.val (.int v2)) rfl y6 hy6 _ hr
  · replace hr := (if_neg c3).symm.trans hr
    refine Ev.iload (d39 43 rfl) rfl ?_
    refine Ev.iloadN (d39 44 rfl) rfl ?_
    refine Ev.iclt (t := 82) (d39 45 rfl) rfl (fun c4 => ?_) (fun c4 => ?_)
    · replace hr := (if_pos c4).symm.trans hr
      refine Ev.aloadN (d39 47 rfl) rfl ?_
      refine Ev.iloadN (d39 48 rfl) rfl ?_
      refine Ev.iconst (z := 1) (d39 49 rfl) rfl ?_
      refine Ev.iadd (d39 50 rfl) ?_
      refine Ev.aloadN (d39 51 rfl) rfl ?_
      refine Ev.gAr V (ww hw 24 rfl) (d39 52 rfl) (j := 5) rfl ?_
      refine Ev.iload (d39 53 rfl) rfl ?_
      obtain ⟨b5, hr⟩ := grd_some hr
      refine Ev.ial V (j := 5) rfl rfl (d39 54 rfl) b5 ?_
      obtain ⟨q6, hq7, hr⟩ := Option.bind_eq_some_iff.mp hr
      refine Ev.priv (y := M_gap) (args := [.int (x2 + (1 : Int32)), .int (s.2 5 (ix v2))]) (rest := []) (gok hw) rfl nm_gap (ww hw 95 rfl) (ww hw 96 rfl) (ww hw 97 rfl) (ww hw 98 rfl) (lenOf pd_gap rfl) (d39 55 rfl) (V.2.1 s) (e_gap hw V hq7) (by decide) (Nat.le_of_ble_eq_true rfl) rfl ?_
      refine Ev.istD (L' := [.val (.ref o), .val (.int x1), .val (.int x2), .val (.int x3), .val (.int x4), .val (.int v2), .val (.int q6)]) (d39 56 rfl) rfl hy6 rfl ?_
      refine Ev.iloadN (d39 57 rfl) rfl ?_
      refine Ev.aloadN (d39 58 rfl) rfl ?_
      refine Ev.gAr V (ww hw 35 rfl) (d39 59 rfl) (j := 10) rfl ?_
      refine Ev.iload (d39 60 rfl) rfl ?_
      refine Ev.ial V (j := 10) rfl rfl (d39 61 rfl) b5 ?_
      refine Ev.iload (d39 62 rfl) rfl ?_
      refine Ev.imul (d39 63 rfl) ?_
      refine Ev.iadd (d39 64 rfl) ?_
      revert hr
      generalize (x3 + ((s.2 10 (ix v2)) * q6)) = v8
      intro hr
      replace hr := (bnd_eq _ _).symm.trans hr
      refine Ev.istDN (L' := [.val (.ref o), .val (.int x1), .val (.int x2), .val (.int v8), .val (.int x4), .val (.int v2), .val (.int q6)]) (d39 65 rfl) rfl rfl rfl ?_
      refine Ev.iinc (z := 1) (L' := [.val (.ref o), .val (.int x1), .val (.int x2), .val (.int v8), .val (.int (x4 + (1 : Int32))), .val (.int v2), .val (.int q6)]) (d39 66 rfl) rfl rfl rfl ?_
      refine Ev.goto (t := 23) (d39 67 rfl) rfl ?_
      exact hk23 x1 x2 v8 (x4 + (1 : Int32)) (.val (.int v2)) rfl (.val (.int q6)) rfl _ hr
    · replace hr := (if_neg c4).symm.trans hr
      refine Ev.goto (t := 111) (d39 46 rfl) rfl ?_
      refine Ev.iinc (z := 1) (L' := [.val (.ref o), .val (.int x1), .val (.int x2), .val (.int x3), .val (.int (x4 + (1 : Int32))), .val (.int v2), y6]) (d39 66 rfl) rfl rfl rfl ?_
      refine Ev.goto (t := 23) (d39 67 rfl) rfl ?_
      exact hk23 x1 x2 x3 (x4 + (1 : Int32)) (.val (.int v2)) rfl y6 hy6 _ hr
def f_nodeCount_23 (n : Nat) (s : St) : Nat → Int32 → Int32 → Int32 → Int32 → Option (Int32)
  | 0 => fun _ _ _ _ => none
  | k + 1 => fun x1 x2 x3 x4 =>
    if x4 < (s.1 21) then
      grd (inb x2 5) <|
      if (s.2 3 (ix x2)) < 0 then
        f_nodeCount_55 n s (f_nodeCount_23 n s k) x1 x2 x3 x4
      else
        if (s.2 3 (ix x2)) = x4 then
          f_nodeCount_55 n s (f_nodeCount_23 n s k) x1 x2 x3 x4
        else
          f_nodeCount_23 n s k x1 x2 x3 (x4 + (1 : Int32))
    else
      some x3
set_option maxRecDepth 100000 in
theorem e_nodeCount_23 {g : GT} {n : Nat} {s : St} (hw : HW g) {K : St → MHeap} {o : Nat} {r : Nat → Nat} (V : View (GG g) Ln K o r) (k : Nat) : ∀ (x1 : Int32) (x2 : Int32) (x3 : Int32) (x4 : Int32) (y5 : Slot) (hy5 : one1 y5 = true) (y6 : Slot) (hy6 : one1 y6 = true) (w : Int32), f_nodeCount_23 n s k x1 x2 x3 x4 = some w → Ev (GG g) M_nodeCount 23 [.val (.ref o), .val (.int x1), .val (.int x2), .val (.int x3), .val (.int x4), y5, y6] [] (K s) ((some (.int w)), (K s)) := by
  induction k with
  | zero => intro x1 x2 x3 x4 y5 hy5 y6 hy6 w hr; rw [f_nodeCount_23] at hr; cases hr
  | succ k ih =>
    intro x1 x2 x3 x4 y5 hy5 y6 hy6 w hr
    rw [f_nodeCount_23] at hr
    refine Ev.iload (d39 16 rfl) rfl ?_
    refine Ev.aloadN (d39 17 rfl) rfl ?_
    refine Ev.gI V (ww hw 57 rfl) (d39 18 rfl) (j := 21) rfl rfl ?_
    refine Ev.icge (t := 117) (d39 19 rfl) rfl (fun c1 => ?_) (fun c1 => ?_)
    · replace hr := (if_pos c1).symm.trans hr
      refine Ev.aloadN (d39 20 rfl) rfl ?_
      refine Ev.gAr V (ww hw 20 rfl) (d39 21 rfl) (j := 3) rfl ?_
      refine Ev.iloadN (d39 22 rfl) rfl ?_
      obtain ⟨b2, hr⟩ := grd_some hr
      refine Ev.ial V (j := 3) rfl rfl (d39 23 rfl) b2 ?_
      refine Ev.iflt (t := 55) (d39 24 rfl) rfl (fun c3 => ?_) (fun c3 => ?_)
      · replace hr := (if_pos c3).symm.trans hr
        exact e_nodeCount_55 hw V ih x1 x2 x3 x4 y5 hy5 y6 hy6 _ hr
      · replace hr := (if_neg c3).symm.trans hr
        refine Ev.aloadN (d39 25 rfl) rfl ?_
        refine Ev.gAr V (ww hw 20 rfl) (d39 26 rfl) (j := 3) rfl ?_
        refine Ev.iloadN (d39 27 rfl) rfl ?_
        refine Ev.ial V (j := 3) rfl rfl (d39 28 rfl) b2 ?_
        refine Ev.iload (d39 29 rfl) rfl ?_
        refine Ev.iceq (t := 55) (d39 30 rfl) rfl (fun c4 => ?_) (fun c4 => ?_)
        · replace hr := (if_pos c4).symm.trans hr
          exact e_nodeCount_55 hw V ih x1 x2 x3 x4 y5 hy5 y6 hy6 _ hr
        · replace hr := (if_neg c4).symm.trans hr
          refine Ev.goto (t := 111) (d39 31 rfl) rfl ?_
          refine Ev.iinc (z := 1) (L' := [.val (.ref o), .val (.int x1), .val (.int x2), .val (.int x3), .val (.int (x4 + (1 : Int32))), y5, y6]) (d39 66 rfl) rfl rfl rfl ?_
          refine Ev.goto (t := 23) (d39 67 rfl) rfl ?_
          exact ih x1 x2 x3 (x4 + (1 : Int32)) y5 hy5 y6 hy6 _ hr
    · replace hr := (if_neg c1).symm.trans hr
      refine Ev.iloadN (d39 68 rfl) rfl ?_
      cases hr
      exact Ev.ireturn rfl (d39 69 rfl)
def f_nodeCount (n : Nat) (s : St) (a0 : Int32) : Option (Int32) :=
  grd (inb a0 2048) <|
  if (s.2 5 (ix a0)) < 0 then
    some (0 : Int32)
  else
    if (s.2 5 (ix a0)) < (5 : Int32) then
      f_nodeCount_23 n s n a0 (s.2 5 (ix a0)) (0 : Int32) (0 : Int32)
    else
      some (0 : Int32)
set_option maxRecDepth 100000 in
theorem e_nodeCount {g : GT} {n : Nat} {s : St} {a0 : Int32} {w : Int32} (hw : HW g) {K : St → MHeap} {o : Nat} {r : Nat → Nat} (V : View (GG g) Ln K o r) (hr : f_nodeCount n s a0 = some w) : EvC (GG g) M_nodeCount [.ref o, .int a0] (K s) ((some (.int w)), (K s)) := by
  refine EvC.enter (L0 := [.val (.ref o), .val (.int a0), .unset, .unset, .unset, .unset, .unset]) pl_nodeCount (fun h => nomatch h) rfl rfl ?_
  unfold f_nodeCount at hr
  refine Ev.aloadN (d39 0 rfl) rfl ?_
  refine Ev.gAr V (ww hw 24 rfl) (d39 1 rfl) (j := 5) rfl ?_
  refine Ev.iloadN (d39 2 rfl) rfl ?_
  obtain ⟨b1, hr⟩ := grd_some hr
  refine Ev.ial V (j := 5) rfl rfl (d39 3 rfl) b1 ?_
  refine Ev.istDN (L' := [.val (.ref o), .val (.int a0), .val (.int (s.2 5 (ix a0))), .unset, .unset, .unset, .unset]) (d39 4 rfl) rfl rfl rfl ?_
  refine Ev.iloadN (d39 5 rfl) rfl ?_
  refine Ev.iflt (t := 16) (d39 6 rfl) rfl (fun c2 => ?_) (fun c2 => ?_)
  · replace hr := (if_pos c2).symm.trans hr
    refine Ev.iconst (z := 0) (d39 10 rfl) rfl ?_
    cases hr
    exact Ev.ireturn rfl (d39 11 rfl)
  · replace hr := (if_neg c2).symm.trans hr
    refine Ev.iloadN (d39 7 rfl) rfl ?_
    refine Ev.iconst (z := 5) (d39 8 rfl) rfl ?_
    refine Ev.iclt (t := 18) (d39 9 rfl) rfl (fun c3 => ?_) (fun c3 => ?_)
    · replace hr := (if_pos c3).symm.trans hr
      refine Ev.iconst (z := 0) (d39 12 rfl) rfl ?_
      refine Ev.istDN (L' := [.val (.ref o), .val (.int a0), .val (.int (s.2 5 (ix a0))), .val (.int (0 : Int32)), .unset, .unset, .unset]) (d39 13 rfl) rfl rfl rfl ?_
      refine Ev.iconst (z := 0) (d39 14 rfl) rfl ?_
      refine Ev.istD (L' := [.val (.ref o), .val (.int a0), .val (.int (s.2 5 (ix a0))), .val (.int (0 : Int32)), .val (.int (0 : Int32)), .unset, .unset]) (d39 15 rfl) rfl rfl rfl ?_
      exact e_nodeCount_23 hw V  n a0 (s.2 5 (ix a0)) (0 : Int32) (0 : Int32) .unset rfl .unset rfl _ hr
    · replace hr := (if_neg c3).symm.trans hr
      refine Ev.iconst (z := 0) (d39 10 rfl) rfl ?_
      cases hr
      exact Ev.ireturn rfl (d39 11 rfl)
def f_countFixed_55 (n : Nat) (x1 : Int32) (s : St) : Option (Int32 × St) :=
  grd (inb x1 2048) <|
  (f_gap n s (0 : Int32) (s.2 5 (ix x1))).bind fun q2 =>
  some (((s.2 10 (ix x1)) * q2), s)
set_option maxRecDepth 100000 in
theorem e_countFixed_55 {g : GT} {n : Nat} (hw : HW g) {K : St → MHeap} {o : Nat} {r : Nat → Nat} (V : View (GG g) Ln K o r) (x1 : Int32) (s : St) (y2 : Slot) (hy2 : one1 y2 = true) (w : Int32 × St) (hr : f_countFixed_55 n x1 s = some w) : Ev (GG g) M_countFixed 55 [.val (.ref o), .val (.int x1), y2] [] (K s) ((some (.int w.1)), (K w.2)) := by
  unfold f_countFixed_55 at hr
  refine Ev.aloadN (d9 33 rfl) rfl ?_
  refine Ev.iconst (z := 0) (d9 34 rfl) rfl ?_
  refine Ev.aloadN (d9 35 rfl) rfl ?_
  refine Ev.gAr V (ww hw 24 rfl) (d9 36 rfl) (j := 5) rfl ?_
  refine Ev.iloadN (d9 37 rfl) rfl ?_
  obtain ⟨b1, hr⟩ := grd_some hr
  refine Ev.ial V (j := 5) rfl rfl (d9 38 rfl) b1 ?_
  obtain ⟨q2, hq3, hr⟩ := Option.bind_eq_some_iff.mp hr
  refine Ev.priv (y := M_gap) (args := [.int (0 : Int32), .int (s.2 5 (ix x1))]) (rest := []) (gok hw) rfl nm_gap (ww hw 95 rfl) (ww hw 96 rfl) (ww hw 97 rfl) (ww hw 98 rfl) (lenOf pd_gap rfl) (d9 39 rfl) (V.2.1 s) (e_gap hw V hq3) (by decide) (Nat.le_of_ble_eq_true rfl) rfl ?_
  refine Ev.istDN (L' := [.val (.ref o), .val (.int x1), .val (.int q2)]) (d9 40 rfl) rfl hy2 rfl ?_
  refine Ev.aloadN (d9 41 rfl) rfl ?_
  refine Ev.gAr V (ww hw 35 rfl) (d9 42 rfl) (j := 10) rfl ?_
  refine Ev.iloadN (d9 43 rfl) rfl ?_
  refine Ev.ial V (j := 10) rfl rfl (d9 44 rfl) b1 ?_
  refine Ev.iloadN (d9 45 rfl) rfl ?_
  refine Ev.imul (d9 46 rfl) ?_
  cases hr
  exact Ev.ireturn rfl (d9 47 rfl)
def f_countFixed_26 (n : Nat) : Nat → Int32 → Int32 → St → Option (Int32 × St)
  | 0 => fun _ _ _ => none
  | k + 1 => fun x1 x2 s =>
    if x1 < x2 then
      f_countFixed_55 n x1 s
    else
      if x2 < (2048 : Int32) then
        (f_nodeCount n s x2).bind fun q3 =>
        grd (inb x2 2048) <|
        bnd (setA s 10 (ix x2) q3) fun s6 =>
        f_countFixed_26 n k x1 (x2 + (1 : Int32)) s6
      else
        f_countFixed_55 n x1 s
set_option maxRecDepth 100000 in
theorem e_countFixed_26 {g : GT} {n : Nat} (hw : HW g) {K : St → MHeap} {o : Nat} {r : Nat → Nat} (V : View (GG g) Ln K o r) (k : Nat) : ∀ (x1 : Int32) (x2 : Int32) (s : St) (w : Int32 × St), f_countFixed_26 n k x1 x2 s = some w → Ev (GG g) M_countFixed 26 [.val (.ref o), .val (.int x1), .val (.int x2)] [] (K s) ((some (.int w.1)), (K w.2)) := by
  induction k with
  | zero => intro x1 x2 s w hr; rw [f_countFixed_26] at hr; cases hr
  | succ k ih =>
    intro x1 x2 s w hr
    rw [f_countFixed_26] at hr
    refine Ev.iloadN (d9 18 rfl) rfl ?_
    refine Ev.iloadN (d9 19 rfl) rfl ?_
    refine Ev.icgt (t := 55) (d9 20 rfl) rfl (fun c1 => ?_) (fun c1 => ?_)
    · replace hr := (if_pos c1).symm.trans hr
      exact e_countFixed_55 hw V  x1 s (.val (.int x2)) rfl _ hr
    · replace hr := (if_neg c1).symm.trans hr
      refine Ev.iloadN (d9 21 rfl) rfl ?_
      refine Ev.sipush (z := 2048) (d9 22 rfl) rfl ?_
      refine Ev.icge (t := 55) (d9 23 rfl) rfl (fun c2 => ?_) (fun c2 => ?_)
      · replace hr := (if_pos c2).symm.trans hr
        refine Ev.aloadN (d9 24 rfl) rfl ?_
        refine Ev.gAr V (ww hw 35 rfl) (d9 25 rfl) (j := 10) rfl ?_
        refine Ev.iloadN (d9 26 rfl) rfl ?_
        refine Ev.aloadN (d9 27 rfl) rfl ?_
        refine Ev.iloadN (d9 28 rfl) rfl ?_
        obtain ⟨q3, hq4, hr⟩ := Option.bind_eq_some_iff.mp hr
        refine Ev.priv (y := M_nodeCount) (args := [.int x2]) (rest := [.int x2, .ref (r 10)]) (gok hw) rfl nm_nodeCount (ww hw 237 rfl) (ww hw 238 rfl) (ww hw 239 rfl) (ww hw 240 rfl) (lenOf pd_nodeCount rfl) (d9 29 rfl) (V.2.1 s) (e_nodeCount hw V hq4) (by decide) (Nat.le_of_ble_eq_true rfl) rfl ?_
        obtain ⟨b5, hr⟩ := grd_some hr
        refine Ev.ias V (j := 10) rfl rfl (d9 30 rfl) b5 ?_
        revert hr
        generalize setA s 10 (ix x2) q3 = s6
        intro hr
        replace hr := (bnd_eq _ _).symm.trans hr
        refine Ev.iinc (z := 1) (L' := [.val (.ref o), .val (.int x1), .val (.int (x2 + (1 : Int32)))]) (d9 31 rfl) rfl rfl rfl ?_
        refine Ev.goto (t := 26) (d9 32 rfl) rfl ?_
        exact ih x1 (x2 + (1 : Int32)) s6  _ hr
      · replace hr := (if_neg c2).symm.trans hr
        exact e_countFixed_55 hw V  x1 s (.val (.int x2)) rfl _ hr
def f_countFixed (n : Nat) (s : St) : Option (Int32 × St) :=
  grd (inb (s.1 23) 9) <|
  bnd (setA s 10 (ix (0 : Int32)) (0 : Int32)) fun s2 =>
  bnd (setA s2 10 (ix (1 : Int32)) (1 : Int32)) fun s3 =>
  f_countFixed_26 n n (s.2 0 (ix (s.1 23))) (2 : Int32) s3
set_option maxRecDepth 100000 in
theorem e_countFixed {g : GT} {n : Nat} {s : St} {w : Int32 × St} (hw : HW g) {K : St → MHeap} {o : Nat} {r : Nat → Nat} (V : View (GG g) Ln K o r) (hr : f_countFixed n s = some w) : EvC (GG g) M_countFixed [.ref o] (K s) ((some (.int w.1)), (K w.2)) := by
  refine EvC.enter (L0 := [.val (.ref o), .unset, .unset]) pl_countFixed (fun h => nomatch h) rfl rfl ?_
  unfold f_countFixed at hr
  refine Ev.aloadN (d9 0 rfl) rfl ?_
  refine Ev.gAr V (ww hw 14 rfl) (d9 1 rfl) (j := 0) rfl ?_
  refine Ev.aloadN (d9 2 rfl) rfl ?_
  refine Ev.gI V (ww hw 65 rfl) (d9 3 rfl) (j := 23) rfl rfl ?_
  obtain ⟨b1, hr⟩ := grd_some hr
  refine Ev.ial V (j := 0) rfl rfl (d9 4 rfl) b1 ?_
  refine Ev.istDN (L' := [.val (.ref o), .val (.int (s.2 0 (ix (s.1 23)))), .unset]) (d9 5 rfl) rfl rfl rfl ?_
  refine Ev.aloadN (d9 6 rfl) rfl ?_
  refine Ev.gAr V (ww hw 35 rfl) (d9 7 rfl) (j := 10) rfl ?_
  refine Ev.iconst (z := 0) (d9 8 rfl) rfl ?_
  refine Ev.iconst (z := 0) (d9 9 rfl) rfl ?_
  refine Ev.ias V (j := 10) rfl rfl (d9 10 rfl) ⟨by decide, by decide⟩ ?_
  revert hr
  generalize setA s 10 (ix (0 : Int32)) (0 : Int32) = s2
  intro hr
  replace hr := (bnd_eq _ _).symm.trans hr
  refine Ev.aloadN (d9 11 rfl) rfl ?_
  refine Ev.gAr V (ww hw 35 rfl) (d9 12 rfl) (j := 10) rfl ?_
  refine Ev.iconst (z := 1) (d9 13 rfl) rfl ?_
  refine Ev.iconst (z := 1) (d9 14 rfl) rfl ?_
  refine Ev.ias V (j := 10) rfl rfl (d9 15 rfl) ⟨by decide, by decide⟩ ?_
  revert hr
  generalize setA s2 10 (ix (1 : Int32)) (1 : Int32) = s3
  intro hr
  replace hr := (bnd_eq _ _).symm.trans hr
  refine Ev.iconst (z := 2) (d9 16 rfl) rfl ?_
  refine Ev.istDN (L' := [.val (.ref o), .val (.int (s.2 0 (ix (s.1 23)))), .val (.int (2 : Int32))]) (d9 17 rfl) rfl rfl rfl ?_
  exact e_countFixed_26 hw V  n (s.2 0 (ix (s.1 23))) (2 : Int32) s3  _ hr
def f_count (n : Nat) (s : St) : Option (Int32 × St) :=
  (f_loadChoices n s).bind fun q1 =>
  (f_countFixed n q1).bind fun q3 =>
  some (q3.1, q3.2)
set_option maxRecDepth 100000 in
theorem e_count {g : GT} {n : Nat} {s : St} {w : Int32 × St} (hw : HW g) {K : St → MHeap} {o : Nat} {r : Nat → Nat} (V : View (GG g) Ln K o r) (hr : f_count n s = some w) : EvC (GG g) M_count [.ref o] (K s) ((some (.int w.1)), (K w.2)) := by
  refine EvC.enter (L0 := [.val (.ref o)]) pl_count (fun h => nomatch h) rfl rfl ?_
  unfold f_count at hr
  refine Ev.aloadN (d7 0 rfl) rfl ?_
  obtain ⟨q1, hq2, hr⟩ := Option.bind_eq_some_iff.mp hr
  refine Ev.priv (y := M_loadChoices) (args := []) (rest := []) (gok hw) rfl nm_loadChoices (ww hw 87 rfl) (ww hw 88 rfl) (ww hw 89 rfl) (ww hw 90 rfl) (lenOf pd_loadChoices rfl) (d7 1 rfl) (V.2.1 s) (e_loadChoices hw V hq2) (by decide) (Nat.le_of_ble_eq_true rfl) rfl ?_
  refine Ev.aloadN (d7 2 rfl) rfl ?_
  obtain ⟨q3, hq4, hr⟩ := Option.bind_eq_some_iff.mp hr
  refine Ev.priv (y := M_countFixed) (args := []) (rest := []) (gok hw) rfl nm_countFixed (ww hw 91 rfl) (ww hw 92 rfl) (ww hw 93 rfl) (ww hw 94 rfl) (lenOf pd_countFixed rfl) (d7 3 rfl) (V.2.1 q1) (e_countFixed hw V hq4) (by decide) (Nat.le_of_ble_eq_true rfl) rfl ?_
  cases hr
  exact Ev.ireturn rfl (d7 4 rfl)
def f_validVar (s : St) (a0 : Int32) : Option (Int32) :=
  if a0 < 0 then
    some (0 : Int32)
  else
    if a0 < (s.1 20) then
      some (1 : Int32)
    else
      some (0 : Int32)
set_option maxRecDepth 100000 in
theorem e_validVar {g : GT} {s : St} {a0 : Int32} {w : Int32} (hw : HW g) {K : St → MHeap} {o : Nat} {r : Nat → Nat} (V : View (GG g) Ln K o r) (hr : f_validVar s a0 = some w) : EvC (GG g) M_validVar [.ref o, .int a0] (K s) ((some (.int w)), (K s)) := by
  refine EvC.enter (L0 := [.val (.ref o), .val (.int a0)]) pl_validVar (fun h => nomatch h) rfl rfl ?_
  unfold f_validVar at hr
  refine Ev.iloadN (d12 0 rfl) rfl ?_
  refine Ev.iflt (t := 16) (d12 1 rfl) rfl (fun c1 => ?_) (fun c1 => ?_)
  · replace hr := (if_pos c1).symm.trans hr
    refine Ev.iconst (z := 0) (d12 8 rfl) rfl ?_
    cases hr
    exact Ev.zret0 rfl (d12 9 rfl)
  · replace hr := (if_neg c1).symm.trans hr
    refine Ev.iloadN (d12 2 rfl) rfl ?_
    refine Ev.aloadN (d12 3 rfl) rfl ?_
    refine Ev.gI V (ww hw 55 rfl) (d12 4 rfl) (j := 20) rfl rfl ?_
    refine Ev.icge (t := 16) (d12 5 rfl) rfl (fun c2 => ?_) (fun c2 => ?_)
    · replace hr := (if_pos c2).symm.trans hr
      refine Ev.iconst (z := 1) (d12 6 rfl) rfl ?_
      refine Ev.goto (t := 17) (d12 7 rfl) rfl ?_
      cases hr
      exact Ev.zret1 rfl (d12 9 rfl)
    · replace hr := (if_neg c2).symm.trans hr
      refine Ev.iconst (z := 0) (d12 8 rfl) rfl ?_
      cases hr
      exact Ev.zret0 rfl (d12 9 rfl)
def f_chosenValue (s : St) (a0 : Int32) : Option (Int32) :=
  (f_validVar s a0).bind fun q1 =>
  if q1 = 0 then
    some (-1 : Int32)
  else
    grd (inb a0 5) <|
    some (s.2 2 (ix a0))
set_option maxRecDepth 100000 in
theorem e_chosenValue {g : GT} {s : St} {a0 : Int32} {w : Int32} (hw : HW g) {K : St → MHeap} {o : Nat} {r : Nat → Nat} (V : View (GG g) Ln K o r) (hr : f_chosenValue s a0 = some w) : EvC (GG g) M_chosenValue [.ref o, .int a0] (K s) ((some (.int w)), (K s)) := by
  refine EvC.enter (L0 := [.val (.ref o), .val (.int a0)]) pl_chosenValue (fun h => nomatch h) rfl rfl ?_
  unfold f_chosenValue at hr
  refine Ev.aloadN (d11 0 rfl) rfl ?_
  refine Ev.iloadN (d11 1 rfl) rfl ?_
  obtain ⟨q1, hq2, hr⟩ := Option.bind_eq_some_iff.mp hr
  refine Ev.priv (y := M_validVar) (args := [.int a0]) (rest := []) (gok hw) rfl nm_validVar (ww hw 104 rfl) (ww hw 105 rfl) (ww hw 106 rfl) (ww hw 107 rfl) (lenOf pd_validVar rfl) (d11 2 rfl) (V.2.1 s) (e_validVar hw V hq2) (by decide) (Nat.le_of_ble_eq_true rfl) rfl ?_
  refine Ev.ifne (t := 10) (d11 3 rfl) rfl (fun c3 => ?_) (fun c3 => ?_)
  · replace hr := (if_pos c3).symm.trans hr
    refine Ev.iconst (z := -1) (d11 4 rfl) rfl ?_
    cases hr
    exact Ev.ireturn rfl (d11 5 rfl)
  · replace hr := (if_neg c3).symm.trans hr
    refine Ev.aloadN (d11 6 rfl) rfl ?_
    refine Ev.gAr V (ww hw 18 rfl) (d11 7 rfl) (j := 2) rfl ?_
    refine Ev.iloadN (d11 8 rfl) rfl ?_
    obtain ⟨b4, hr⟩ := grd_some hr
    refine Ev.ial V (j := 2) rfl rfl (d11 9 rfl) b4 ?_
    cases hr
    exact Ev.ireturn rfl (d11 10 rfl)
def f_validValue (s : St) (a0 : Int32) : Option (Int32) :=
  if a0 < 0 then
    some (0 : Int32)
  else
    if a0 < (s.1 21) then
      some (1 : Int32)
    else
      some (0 : Int32)
set_option maxRecDepth 100000 in
theorem e_validValue {g : GT} {s : St} {a0 : Int32} {w : Int32} (hw : HW g) {K : St → MHeap} {o : Nat} {r : Nat → Nat} (V : View (GG g) Ln K o r) (hr : f_validValue s a0 = some w) : EvC (GG g) M_validValue [.ref o, .int a0] (K s) ((some (.int w)), (K s)) := by
  refine EvC.enter (L0 := [.val (.ref o), .val (.int a0)]) pl_validValue (fun h => nomatch h) rfl rfl ?_
  unfold f_validValue at hr
  refine Ev.iloadN (d15 0 rfl) rfl ?_
  refine Ev.iflt (t := 16) (d15 1 rfl) rfl (fun c1 => ?_) (fun c1 => ?_)
  · replace hr := (if_pos c1).symm.trans hr
    refine Ev.iconst (z := 0) (d15 8 rfl) rfl ?_
    cases hr
    exact Ev.zret0 rfl (d15 9 rfl)
  · replace hr := (if_neg c1).symm.trans hr
    refine Ev.iloadN (d15 2 rfl) rfl ?_
    refine Ev.aloadN (d15 3 rfl) rfl ?_
    refine Ev.gI V (ww hw 57 rfl) (d15 4 rfl) (j := 21) rfl rfl ?_
    refine Ev.icge (t := 16) (d15 5 rfl) rfl (fun c2 => ?_) (fun c2 => ?_)
    · replace hr := (if_pos c2).symm.trans hr
      refine Ev.iconst (z := 1) (d15 6 rfl) rfl ?_
      refine Ev.goto (t := 17) (d15 7 rfl) rfl ?_
      cases hr
      exact Ev.zret1 rfl (d15 9 rfl)
    · replace hr := (if_neg c2).symm.trans hr
      refine Ev.iconst (z := 0) (d15 8 rfl) rfl ?_
      cases hr
      exact Ev.zret0 rfl (d15 9 rfl)
def f_countWith (n : Nat) (a0 : Int32) (a1 : Int32) (s : St) : Option (Int32 × St) :=
  (f_validVar s a0).bind fun q1 =>
  if q1 = 0 then
    some ((-1 : Int32), s)
  else
    (f_validValue s a1).bind fun q4 =>
    if q4 = 0 then
      some ((-2 : Int32), s)
    else
      (f_loadChoices n s).bind fun q7 =>
      grd (inb a0 5) <|
      bnd (setA q7 3 (ix a0) a1) fun s10 =>
      (f_countFixed n s10).bind fun q11 =>
      some (q11.1, q11.2)
set_option maxRecDepth 100000 in
theorem e_countWith {g : GT} {n : Nat} {a0 : Int32} {a1 : Int32} {s : St} {w : Int32 × St} (hw : HW g) {K : St → MHeap} {o : Nat} {r : Nat → Nat} (V : View (GG g) Ln K o r) (hr : f_countWith n a0 a1 s = some w) : EvC (GG g) M_countWith [.ref o, .int a0, .int a1] (K s) ((some (.int w.1)), (K w.2)) := by
  refine EvC.enter (L0 := [.val (.ref o), .val (.int a0), .val (.int a1)]) pl_countWith (fun h => nomatch h) rfl rfl ?_
  unfold f_countWith at hr
  refine Ev.aloadN (d14 0 rfl) rfl ?_
  refine Ev.iloadN (d14 1 rfl) rfl ?_
  obtain ⟨q1, hq2, hr⟩ := Option.bind_eq_some_iff.mp hr
  refine Ev.priv (y := M_validVar) (args := [.int a0]) (rest := []) (gok hw) rfl nm_validVar (ww hw 104 rfl) (ww hw 105 rfl) (ww hw 106 rfl) (ww hw 107 rfl) (lenOf pd_validVar rfl) (d14 2 rfl) (V.2.1 s) (e_validVar hw V hq2) (by decide) (Nat.le_of_ble_eq_true rfl) rfl ?_
  refine Ev.ifne (t := 10) (d14 3 rfl) rfl (fun c3 => ?_) (fun c3 => ?_)
  · replace hr := (if_pos c3).symm.trans hr
    refine Ev.iconst (z := -1) (d14 4 rfl) rfl ?_
    cases hr
    exact Ev.ireturn rfl (d14 5 rfl)
  · replace hr := (if_neg c3).symm.trans hr
    refine Ev.aloadN (d14 6 rfl) rfl ?_
    refine Ev.iloadN (d14 7 rfl) rfl ?_
    obtain ⟨q4, hq5, hr⟩ := Option.bind_eq_some_iff.mp hr
    refine Ev.priv (y := M_validValue) (args := [.int a1]) (rest := []) (gok hw) rfl nm_validValue (ww hw 118 rfl) (ww hw 119 rfl) (ww hw 120 rfl) (ww hw 121 rfl) (lenOf pd_validValue rfl) (d14 8 rfl) (V.2.1 s) (e_validValue hw V hq5) (by decide) (Nat.le_of_ble_eq_true rfl) rfl ?_
    refine Ev.ifne (t := 21) (d14 9 rfl) rfl (fun c6 => ?_) (fun c6 => ?_)
    · replace hr := (if_pos c6).symm.trans hr
      refine Ev.bipush (z := -2) (d14 10 rfl) rfl ?_
      cases hr
      exact Ev.ireturn rfl (d14 11 rfl)
    · replace hr := (if_neg c6).symm.trans hr
      refine Ev.aloadN (d14 12 rfl) rfl ?_
      obtain ⟨q7, hq8, hr⟩ := Option.bind_eq_some_iff.mp hr
      refine Ev.priv (y := M_loadChoices) (args := []) (rest := []) (gok hw) rfl nm_loadChoices (ww hw 87 rfl) (ww hw 88 rfl) (ww hw 89 rfl) (ww hw 90 rfl) (lenOf pd_loadChoices rfl) (d14 13 rfl) (V.2.1 s) (e_loadChoices hw V hq8) (by decide) (Nat.le_of_ble_eq_true rfl) rfl ?_
      refine Ev.aloadN (d14 14 rfl) rfl ?_
      refine Ev.gAr V (ww hw 20 rfl) (d14 15 rfl) (j := 3) rfl ?_
      refine Ev.iloadN (d14 16 rfl) rfl ?_
      refine Ev.iloadN (d14 17 rfl) rfl ?_
      obtain ⟨b9, hr⟩ := grd_some hr
      refine Ev.ias V (j := 3) rfl rfl (d14 18 rfl) b9 ?_
      revert hr
      generalize setA q7 3 (ix a0) a1 = s10
      intro hr
      replace hr := (bnd_eq _ _).symm.trans hr
      refine Ev.aloadN (d14 19 rfl) rfl ?_
      obtain ⟨q11, hq12, hr⟩ := Option.bind_eq_some_iff.mp hr
      refine Ev.priv (y := M_countFixed) (args := []) (rest := []) (gok hw) rfl nm_countFixed (ww hw 91 rfl) (ww hw 92 rfl) (ww hw 93 rfl) (ww hw 94 rfl) (lenOf pd_countFixed rfl) (d14 20 rfl) (V.2.1 s10) (e_countFixed hw V hq12) (by decide) (Nat.le_of_ble_eq_true rfl) rfl ?_
      cases hr
      exact Ev.ireturn rfl (d14 21 rfl)
def f_offeredMask_14 (n : Nat) : Nat → Int32 → Int32 → Int32 → St → Option (Int32 × St)
  | 0 => fun _ _ _ _ => none
  | k + 1 => fun x1 x2 x3 s =>
    if x3 < (s.1 21) then
      (f_countWith n x1 x3 s).bind fun q2 =>
      if 0 < q2.1 then
        f_offeredMask_14 n k x1 (x2 ||| ((1 : Int32) <<< (x3 &&& 31))) (x3 + (1 : Int32)) q2.2
      else
        f_offeredMask_14 n k x1 x2 (x3 + (1 : Int32)) q2.2
    else
      some (x2, s)
set_option maxRecDepth 100000 in
theorem e_offeredMask_14 {g : GT} {n : Nat} (hw : HW g) {K : St → MHeap} {o : Nat} {r : Nat → Nat} (V : View (GG g) Ln K o r) (k : Nat) : ∀ (x1 : Int32) (x2 : Int32) (x3 : Int32) (s : St) (w : Int32 × St), f_offeredMask_14 n k x1 x2 x3 s = some w → Ev (GG g) M_offeredMask 14 [.val (.ref o), .val (.int x1), .val (.int x2), .val (.int x3)] [] (K s) ((some (.int w.1)), (K w.2)) := by
  induction k with
  | zero => intro x1 x2 x3 s w hr; rw [f_offeredMask_14] at hr; cases hr
  | succ k ih =>
    intro x1 x2 x3 s w hr
    rw [f_offeredMask_14] at hr
    refine Ev.iloadN (d13 10 rfl) rfl ?_
    refine Ev.aloadN (d13 11 rfl) rfl ?_
    refine Ev.gI V (ww hw 57 rfl) (d13 12 rfl) (j := 21) rfl rfl ?_
    refine Ev.icge (t := 43) (d13 13 rfl) rfl (fun c1 => ?_) (fun c1 => ?_)
    · replace hr := (if_pos c1).symm.trans hr
      refine Ev.aloadN (d13 14 rfl) rfl ?_
      refine Ev.iloadN (d13 15 rfl) rfl ?_
      refine Ev.iloadN (d13 16 rfl) rfl ?_
      obtain ⟨q2, hq3, hr⟩ := Option.bind_eq_some_iff.mp hr
      refine Ev.virt (y := M_countWith) (args := [.int x1, .int x3]) (rest := []) (gok hw) rfl nm_countWith (ww hw 113 rfl) (ww hw 114 rfl) (ww hw 115 rfl) (ww hw 116 rfl) (ww hw 117 rfl) (lenOf pd_countWith rfl) (d13 17 rfl) (V.2.1 s) (e_countWith hw V hq3) (by decide) (Nat.le_of_ble_eq_true rfl) rfl ?_
      refine Ev.ifle (t := 37) (d13 18 rfl) rfl (fun c4 => ?_) (fun c4 => ?_)
      · replace hr := (if_pos c4).symm.trans hr
        refine Ev.iloadN (d13 19 rfl) rfl ?_
        refine Ev.iconst (z := 1) (d13 20 rfl) rfl ?_
        refine Ev.iloadN (d13 21 rfl) rfl ?_
        refine Ev.ishl (d13 22 rfl) ?_
        refine Ev.ior (d13 23 rfl) ?_
        refine Ev.istDN (L' := [.val (.ref o), .val (.int x1), .val (.int (x2 ||| ((1 : Int32) <<< (x3 &&& 31)))), .val (.int x3)]) (d13 24 rfl) rfl rfl rfl ?_
        refine Ev.iinc (z := 1) (L' := [.val (.ref o), .val (.int x1), .val (.int (x2 ||| ((1 : Int32) <<< (x3 &&& 31)))), .val (.int (x3 + (1 : Int32)))]) (d13 25 rfl) rfl rfl rfl ?_
        refine Ev.goto (t := 14) (d13 26 rfl) rfl ?_
        exact ih x1 (x2 ||| ((1 : Int32) <<< (x3 &&& 31))) (x3 + (1 : Int32)) q2.2  _ hr
      · replace hr := (if_neg c4).symm.trans hr
        refine Ev.iinc (z := 1) (L' := [.val (.ref o), .val (.int x1), .val (.int x2), .val (.int (x3 + (1 : Int32)))]) (d13 25 rfl) rfl rfl rfl ?_
        refine Ev.goto (t := 14) (d13 26 rfl) rfl ?_
        exact ih x1 x2 (x3 + (1 : Int32)) q2.2  _ hr
    · replace hr := (if_neg c1).symm.trans hr
      refine Ev.iloadN (d13 27 rfl) rfl ?_
      cases hr
      exact Ev.ireturn rfl (d13 28 rfl)
def f_offeredMask (n : Nat) (a0 : Int32) (s : St) : Option (Int32 × St) :=
  (f_validVar s a0).bind fun q1 =>
  if q1 = 0 then
    some ((-1 : Int32), s)
  else
    f_offeredMask_14 n n a0 (0 : Int32) (0 : Int32) s
set_option maxRecDepth 100000 in
theorem e_offeredMask {g : GT} {n : Nat} {a0 : Int32} {s : St} {w : Int32 × St} (hw : HW g) {K : St → MHeap} {o : Nat} {r : Nat → Nat} (V : View (GG g) Ln K o r) (hr : f_offeredMask n a0 s = some w) : EvC (GG g) M_offeredMask [.ref o, .int a0] (K s) ((some (.int w.1)), (K w.2)) := by
  refine EvC.enter (L0 := [.val (.ref o), .val (.int a0), .unset, .unset]) pl_offeredMask (fun h => nomatch h) rfl rfl ?_
  unfold f_offeredMask at hr
  refine Ev.aloadN (d13 0 rfl) rfl ?_
  refine Ev.iloadN (d13 1 rfl) rfl ?_
  obtain ⟨q1, hq2, hr⟩ := Option.bind_eq_some_iff.mp hr
  refine Ev.priv (y := M_validVar) (args := [.int a0]) (rest := []) (gok hw) rfl nm_validVar (ww hw 104 rfl) (ww hw 105 rfl) (ww hw 106 rfl) (ww hw 107 rfl) (lenOf pd_validVar rfl) (d13 2 rfl) (V.2.1 s) (e_validVar hw V hq2) (by decide) (Nat.le_of_ble_eq_true rfl) rfl ?_
  refine Ev.ifne (t := 10) (d13 3 rfl) rfl (fun c3 => ?_) (fun c3 => ?_)
  · replace hr := (if_pos c3).symm.trans hr
    refine Ev.iconst (z := -1) (d13 4 rfl) rfl ?_
    cases hr
    exact Ev.ireturn rfl (d13 5 rfl)
  · replace hr := (if_neg c3).symm.trans hr
    refine Ev.iconst (z := 0) (d13 6 rfl) rfl ?_
    refine Ev.istDN (L' := [.val (.ref o), .val (.int a0), .val (.int (0 : Int32)), .unset]) (d13 7 rfl) rfl rfl rfl ?_
    refine Ev.iconst (z := 0) (d13 8 rfl) rfl ?_
    refine Ev.istDN (L' := [.val (.ref o), .val (.int a0), .val (.int (0 : Int32)), .val (.int (0 : Int32))]) (d13 9 rfl) rfl rfl rfl ?_
    exact e_offeredMask_14 hw V  n a0 (0 : Int32) (0 : Int32) s  _ hr
def f_hcheck_96 (n : Nat) (k12 : Int32 → Int32 → Int32 → St → Option (Int32 × St)) (k43 : Int32 → Int32 → Int32 → Int32 → Int32 → Int32 → Int64 → Int32 → St → Option (Int32 × St)) (x1 : Int32) (x2 : Int32) (x3 : Int32) (x4 : Int32) (x5 : Int32) (x6 : Int32) (x7 : Int64) (x9 : Int32) (z0 : Int32) (z1 : Int32) (s : St) : Option (Int32 × St) :=
  if z1 = z0 then
    k43 x1 x2 x3 x4 x5 x6 x7 (x9 + (1 : Int32)) s
  else
    some ((0 : Int32), s)
set_option maxRecDepth 100000 in
theorem e_hcheck_96 {g : GT} {n : Nat} (hw : HW g) {K : St → MHeap} {o : Nat} {r : Nat → Nat} (V : View (GG g) Ln K o r) {k12 : Int32 → Int32 → Int32 → St → Option (Int32 × St)} (hk12 : ∀ (x1 : Int32) (x2 : Int32) (x3 : Int32) (s : St) (y4 : Slot) (hy4 : one1 y4 = true) (y5 : Slot) (hy5 : one1 y5 = true) (y6 : Slot) (hy6 : one1 y6 = true) (y7 y8 : Slot) (hy7 : two2 y7 y8) (y9 : Slot) (hy9 : one1 y9 = true) (y10 : Slot) (hy10 : one1 y10 = true) (y11 : Slot) (hy11 : one1 y11 = true) (w : Int32 × St), k12 x1 x2 x3 s = some w → Ev (GG g) M_hcheck 12 [.val (.ref o), .val (.int x1), .val (.int x2), .val (.int x3), y4, y5, y6, y7, y8, y9, y10, y11] [] (K s) ((some (.int w.1)), (K w.2))) {k43 : Int32 → Int32 → Int32 → Int32 → Int32 → Int32 → Int64 → Int32 → St → Option (Int32 × St)} (hk43 : ∀ (x1 : Int32) (x2 : Int32) (x3 : Int32) (x4 : Int32) (x5 : Int32) (x6 : Int32) (x7 : Int64) (x9 : Int32) (s : St) (y10 : Slot) (hy10 : one1 y10 = true) (y11 : Slot) (hy11 : one1 y11 = true) (w : Int32 × St), k43 x1 x2 x3 x4 x5 x6 x7 x9 s = some w → Ev (GG g) M_hcheck 43 [.val (.ref o), .val (.int x1), .val (.int x2), .val (.int x3), .val (.int x4), .val (.int x5), .val (.int x6), .val (.long x7), .second, .val (.int x9), y10, y11] [] (K s) ((some (.int w.1)), (K w.2))) (x1 : Int32) (x2 : Int32) (x3 : Int32) (x4 : Int32) (x5 : Int32) (x6 : Int32) (x7 : Int64) (x9 : Int32) (z0 : Int32) (z1 : Int32) (s : St) (y10 : Slot) (hy10 : one1 y10 = true) (y11 : Slot) (hy11 : one1 y11 = true) (w : Int32 × St) (hr : f_hcheck_96 n k12 k43 x1 x2 x3 x4 x5 x6 x7 x9 z0 z1 s = some w) : Ev (GG g) M_hcheck 96 [.val (.ref o), .val (.int x1), .val (.int x2), .val (.int x3), .val (.int x4), .val (.int x5), .val (.int x6), .val (.long x7), .second, .val (.int x9), y10, y11] [.int z0, .int z1] (K s) ((some (.int w.1)), (K w.2)) := by
  unfold f_hcheck_96 at hr
  refine Ev.iceq (t := 101) (d4 56 rfl) rfl (fun c1 => ?_) (fun c1 => ?_)
  · replace hr := (if_pos c1).symm.trans hr
    refine Ev.iinc (z := 1) (L' := [.val (.ref o), .val (.int x1), .val (.int x2), .val (.int x3), .val (.int x4), .val (.int x5), .val (.int x6), .val (.long x7), .second, .val (.int (x9 + (1 : Int32))), y10, y11]) (d4 59 rfl) rfl rfl rfl ?_
    refine Ev.goto (t := 43) (d4 60 rfl) rfl ?_
    exact hk43 x1 x2 x3 x4 x5 x6 x7 (x9 + (1 : Int32)) s y10 hy10 y11 hy11 _ hr
  · replace hr := (if_neg c1).symm.trans hr
    refine Ev.iconst (z := 0) (d4 57 rfl) rfl ?_
    cases hr
    exact Ev.zret0 rfl (d4 58 rfl)
def f_hcheck_82 (n : Nat) (k12 : Int32 → Int32 → Int32 → St → Option (Int32 × St)) (k43 : Int32 → Int32 → Int32 → Int32 → Int32 → Int32 → Int64 → Int32 → St → Option (Int32 × St)) (x1 : Int32) (x2 : Int32) (x3 : Int32) (x4 : Int32) (x5 : Int32) (x6 : Int32) (x7 : Int64) (x9 : Int32) (x10 : Int32) (z0 : Int32) (s : St) : Option (Int32 × St) :=
  if 0 < x10 then
    f_hcheck_96 n k12 k43 x1 x2 x3 x4 x5 x6 x7 x9 (1 : Int32) z0 s
  else
    f_hcheck_96 n k12 k43 x1 x2 x3 x4 x5 x6 x7 x9 (0 : Int32) z0 s
set_option maxRecDepth 100000 in
theorem e_hcheck_82 {g : GT} {n : Nat} (hw : HW g) {K : St → MHeap} {o : Nat} {r : Nat → Nat} (V : View (GG g) Ln K o r) {k12 : Int32 → Int32 → Int32 → St → Option (Int32 × St)} (hk12 : ∀ (x1 : Int32) (x2 : Int32) (x3 : Int32) (s : St) (y4 : Slot) (hy4 : one1 y4 = true) (y5 : Slot) (hy5 : one1 y5 = true) (y6 : Slot) (hy6 : one1 y6 = true) (y7 y8 : Slot) (hy7 : two2 y7 y8) (y9 : Slot) (hy9 : one1 y9 = true) (y10 : Slot) (hy10 : one1 y10 = true) (y11 : Slot) (hy11 : one1 y11 = true) (w : Int32 × St), k12 x1 x2 x3 s = some w → Ev (GG g) M_hcheck 12 [.val (.ref o), .val (.int x1), .val (.int x2), .val (.int x3), y4, y5, y6, y7, y8, y9, y10, y11] [] (K s) ((some (.int w.1)), (K w.2))) {k43 : Int32 → Int32 → Int32 → Int32 → Int32 → Int32 → Int64 → Int32 → St → Option (Int32 × St)} (hk43 : ∀ (x1 : Int32) (x2 : Int32) (x3 : Int32) (x4 : Int32) (x5 : Int32) (x6 : Int32) (x7 : Int64) (x9 : Int32) (s : St) (y10 : Slot) (hy10 : one1 y10 = true) (y11 : Slot) (hy11 : one1 y11 = true) (w : Int32 × St), k43 x1 x2 x3 x4 x5 x6 x7 x9 s = some w → Ev (GG g) M_hcheck 43 [.val (.ref o), .val (.int x1), .val (.int x2), .val (.int x3), .val (.int x4), .val (.int x5), .val (.int x6), .val (.long x7), .second, .val (.int x9), y10, y11] [] (K s) ((some (.int w.1)), (K w.2))) (x1 : Int32) (x2 : Int32) (x3 : Int32) (x4 : Int32) (x5 : Int32) (x6 : Int32) (x7 : Int64) (x9 : Int32) (x10 : Int32) (z0 : Int32) (s : St) (y11 : Slot) (hy11 : one1 y11 = true) (w : Int32 × St) (hr : f_hcheck_82 n k12 k43 x1 x2 x3 x4 x5 x6 x7 x9 x10 z0 s = some w) : Ev (GG g) M_hcheck 82 [.val (.ref o), .val (.int x1), .val (.int x2), .val (.int x3), .val (.int x4), .val (.int x5), .val (.int x6), .val (.long x7), .second, .val (.int x9), .val (.int x10), y11] [.int z0] (K s) ((some (.int w.1)), (K w.2)) := by
  unfold f_hcheck_82 at hr
  refine Ev.istD (L' := [.val (.ref o), .val (.int x1), .val (.int x2), .val (.int x3), .val (.int x4), .val (.int x5), .val (.int x6), .val (.long x7), .second, .val (.int x9), .val (.int x10), .val (.int z0)]) (d4 49 rfl) rfl hy11 rfl ?_
  refine Ev.iload (d4 50 rfl) rfl ?_
  refine Ev.iload (d4 51 rfl) rfl ?_
  refine Ev.ifle (t := 95) (d4 52 rfl) rfl (fun c1 => ?_) (fun c1 => ?_)
  · replace hr := (if_pos c1).symm.trans hr
    refine Ev.iconst (z := 1) (d4 53 rfl) rfl ?_
    refine Ev.goto (t := 96) (d4 54 rfl) rfl ?_
    exact e_hcheck_96 hw V hk12 hk43 x1 x2 x3 x4 x5 x6 x7 x9 (1 : Int32) z0 s (.val (.int x10)) rfl (.val (.int z0)) rfl _ hr
  · replace hr := (if_neg c1).symm.trans hr
    refine Ev.iconst (z := 0) (d4 55 rfl) rfl ?_
    exact e_hcheck_96 hw V hk12 hk43 x1 x2 x3 x4 x5 x6 x7 x9 (0 : Int32) z0 s (.val (.int x10)) rfl (.val (.int z0)) rfl _ hr
def f_hcheck_43 (n : Nat) (k12 : Int32 → Int32 → Int32 → St → Option (Int32 × St)) : Nat → Int32 → Int32 → Int32 → Int32 → Int32 → Int32 → Int64 → Int32 → St → Option (Int32 × St)
  | 0 => fun _ _ _ _ _ _ _ _ _ => none
  | k + 1 => fun x1 x2 x3 x4 x5 x6 x7 x9 s =>
    if x9 < x2 then
      (f_countWith n x3 x9 s).bind fun q2 =>
      if ((XT.ushr x6 x9) &&& (1 : Int32)) = (1 : Int32) then
        f_hcheck_82 n k12 (f_hcheck_43 n k12 k) x1 x2 x3 x4 x5 x6 (x7 + (q2.1).toInt64) x9 q2.1 (1 : Int32) q2.2
      else
        f_hcheck_82 n k12 (f_hcheck_43 n k12 k) x1 x2 x3 x4 x5 x6 (x7 + (q2.1).toInt64) x9 q2.1 (0 : Int32) q2.2
    else
      if (XT.ushr x6 x2) = 0 then
        if x5 = (-1 : Int32) then
          if (XT.cmpL (x4).toInt64 x7) = 0 then
            k12 x1 x2 (x3 + (1 : Int32)) s
          else
            some ((0 : Int32), s)
        else
          if x5 < 0 then
            k12 x1 x2 (x3 + (1 : Int32)) s
          else
            (f_countWith n x3 x5 s).bind fun q9 =>
            if x4 = q9.1 then
              k12 x1 x2 (x3 + (1 : Int32)) q9.2
            else
              some ((0 : Int32), q9.2)
      else
        some ((0 : Int32), s)
set_option maxRecDepth 100000 in
theorem e_hcheck_43 {g : GT} {n : Nat} (hw : HW g) {K : St → MHeap} {o : Nat} {r : Nat → Nat} (V : View (GG g) Ln K o r) {k12 : Int32 → Int32 → Int32 → St → Option (Int32 × St)} (hk12 : ∀ (x1 : Int32) (x2 : Int32) (x3 : Int32) (s : St) (y4 : Slot) (hy4 : one1 y4 = true) (y5 : Slot) (hy5 : one1 y5 = true) (y6 : Slot) (hy6 : one1 y6 = true) (y7 y8 : Slot) (hy7 : two2 y7 y8) (y9 : Slot) (hy9 : one1 y9 = true) (y10 : Slot) (hy10 : one1 y10 = true) (y11 : Slot) (hy11 : one1 y11 = true) (w : Int32 × St), k12 x1 x2 x3 s = some w → Ev (GG g) M_hcheck 12 [.val (.ref o), .val (.int x1), .val (.int x2), .val (.int x3), y4, y5, y6, y7, y8, y9, y10, y11] [] (K s) ((some (.int w.1)), (K w.2))) (k : Nat) : ∀ (x1 : Int32) (x2 : Int32) (x3 : Int32) (x4 : Int32) (x5 : Int32) (x6 : Int32) (x7 : Int64) (x9 : Int32) (s : St) (y10 : Slot) (hy10 : one1 y10 = true) (y11 : Slot) (hy11 : one1 y11 = true) (w : Int32 × St), f_hcheck_43 n k12 k x1 x2 x3 x4 x5 x6 x7 x9 s = some w → Ev (GG g) M_hcheck 43 [.val (.ref o), .val (.int x1), .val (.int x2), .val (.int x3), .val (.int x4), .val (.int x5), .val (.int x6), .val (.long x7), .second, .val (.int x9), y10, y11] [] (K s) ((some (.int w.1)), (K w.2)) := by
  induction k with
  | zero => intro x1 x2 x3 x4 x5 x6 x7 x9 s y10 hy10 y11 hy11 w hr; rw [f_hcheck_43] at hr; cases hr
  | succ k ih =>
    intro x1 x2 x3 x4 x5 x6 x7 x9 s y10 hy10 y11 hy11 w hr
    rw [f_hcheck_43] at hr
    refine Ev.iload (d4 26 rfl) rfl ?_
    refine Ev.iloadN (d4 27 rfl) rfl ?_
    refine Ev.icge (t := 107) (d4 28 rfl) rfl (fun c1 => ?_) (fun c1 => ?_)
    · replace hr := (if_pos c1).symm.trans hr
      refine Ev.aloadN (d4 29 rfl) rfl ?_
      refine Ev.iloadN (d4 30 rfl) rfl ?_
      refine Ev.iload (d4 31 rfl) rfl ?_
      obtain ⟨q2, hq3, hr⟩ := Option.bind_eq_some_iff.mp hr
      refine Ev.virt (y := M_countWith) (args := [.int x3, .int x9]) (rest := []) (gok hw) rfl nm_countWith (ww hw 122 rfl) (ww hw 114 rfl) (ww hw 115 rfl) (ww hw 116 rfl) (ww hw 117 rfl) (lenOf pd_countWith rfl) (d4 32 rfl) (V.2.1 s) (e_countWith hw V hq3) (by decide) (Nat.le_of_ble_eq_true rfl) rfl ?_
      refine Ev.istD (L' := [.val (.ref o), .val (.int x1), .val (.int x2), .val (.int x3), .val (.int x4), .val (.int x5), .val (.int x6), .val (.long x7), .second, .val (.int x9), .val (.int q2.1), y11]) (d4 33 rfl) rfl hy10 rfl ?_
      refine Ev.lload (d4 34 rfl) rfl ?_
      refine Ev.iload (d4 35 rfl) rfl ?_
      refine Ev.i2l (d4 36 rfl) ?_
      refine Ev.ladd (d4 37 rfl) ?_
      refine Ev.lstD (L' := [.val (.ref o), .val (.int x1), .val (.int x2), .val (.int x3), .val (.int x4), .val (.int x5), .val (.int x6), .val (.long (x7 + (q2.1).toInt64)), .second, .val (.int x9), .val (.int q2.1), y11]) (d4 38 rfl) rfl rfl (Or.inr ⟨_, rfl, rfl⟩) rfl ?_
      refine Ev.iload (d4 39 rfl) rfl ?_
      refine Ev.iload (d4 40 rfl) rfl ?_
      refine Ev.iushr (d4 41 rfl) ?_
      refine Ev.iconst (z := 1) (d4 42 rfl) rfl ?_
      refine Ev.iand (d4 43 rfl) ?_
      refine Ev.iconst (z := 1) (d4 44 rfl) rfl ?_
      refine Ev.icne (t := 81) (d4 45 rfl) rfl (fun c4 => ?_) (fun c4 => ?_)
      · replace hr := (if_pos c4).symm.trans hr
        refine Ev.iconst (z := 1) (d4 46 rfl) rfl ?_
        refine Ev.goto (t := 82) (d4 47 rfl) rfl ?_
        exact e_hcheck_82 hw V hk12 ih x1 x2 x3 x4 x5 x6 (x7 + (q2.1).toInt64) x9 q2.1 (1 : Int32) q2.2 y11 hy11 _ hr
      · replace hr := (if_neg c4).symm.trans hr
        refine Ev.iconst (z := 0) (d4 48 rfl) rfl ?_
        exact e_hcheck_82 hw V hk12 ih x1 x2 x3 x4 x5 x6 (x7 + (q2.1).toInt64) x9 q2.1 (0 : Int32) q2.2 y11 hy11 _ hr
    · replace hr := (if_neg c1).symm.trans hr
      refine Ev.iload (d4 61 rfl) rfl ?_
      refine Ev.iloadN (d4 62 rfl) rfl ?_
      refine Ev.iushr (d4 63 rfl) ?_
      refine Ev.ifeq (t := 116) (d4 64 rfl) rfl (fun c5 => ?_) (fun c5 => ?_)
      · replace hr := (if_pos c5).symm.trans hr
        refine Ev.iload (d4 67 rfl) rfl ?_
        refine Ev.iconst (z := -1) (d4 68 rfl) rfl ?_
        refine Ev.icne (t := 133) (d4 69 rfl) rfl (fun c6 => ?_) (fun c6 => ?_)
        · replace hr := (if_pos c6).symm.trans hr
          refine Ev.iload (d4 70 rfl) rfl ?_
          refine Ev.i2l (d4 71 rfl) ?_
          refine Ev.lload (d4 72 rfl) rfl ?_
          refine Ev.lcmp (d4 73 rfl) ?_
          refine Ev.ifeq (t := 152) (d4 74 rfl) rfl (fun c7 => ?_) (fun c7 => ?_)
          · replace hr := (if_pos c7).symm.trans hr
            refine Ev.iinc (z := 1) (L' := [.val (.ref o), .val (.int x1), .val (.int x2), .val (.int (x3 + (1 : Int32))), .val (.int x4), .val (.int x5), .val (.int x6), .val (.long x7), .second, .val (.int x9), y10, y11]) (d4 87 rfl) rfl rfl rfl ?_
            refine Ev.goto (t := 12) (d4 88 rfl) rfl ?_
            exact hk12 x1 x2 (x3 + (1 : Int32)) s (.val (.int x4)) rfl (.val (.int x5)) rfl (.val (.int x6)) rfl (.val (.long x7)) .second (Or.inr ⟨_, rfl, rfl⟩) (.val (.int x9)) rfl y10 hy10 y11 hy11 _ hr
          · replace hr := (if_neg c7).symm.trans hr
            refine Ev.iconst (z := 0) (d4 75 rfl) rfl ?_
            cases hr
            exact Ev.zret0 rfl (d4 76 rfl)
        · replace hr := (if_neg c6).symm.trans hr
          refine Ev.iload (d4 77 rfl) rfl ?_
          refine Ev.iflt (t := 152) (d4 78 rfl) rfl (fun c8 => ?_) (fun c8 => ?_)
          · replace hr := (if_pos c8).symm.trans hr
            refine Ev.iinc (z := 1) (L' := [.val (.ref o), .val (.int x1), .val (.int x2), .val (.int (x3 + (1 : Int32))), .val (.int x4), .val (.int x5), .val (.int x6), .val (.long x7), .second, .val (.int x9), y10, y11]) (d4 87 rfl) rfl rfl rfl ?_
            refine Ev.goto (t := 12) (d4 88 rfl) rfl ?_
            exact hk12 x1 x2 (x3 + (1 : Int32)) s (.val (.int x4)) rfl (.val (.int x5)) rfl (.val (.int x6)) rfl (.val (.long x7)) .second (Or.inr ⟨_, rfl, rfl⟩) (.val (.int x9)) rfl y10 hy10 y11 hy11 _ hr
          · replace hr := (if_neg c8).symm.trans hr
            refine Ev.iload (d4 79 rfl) rfl ?_
            refine Ev.aloadN (d4 80 rfl) rfl ?_
            refine Ev.iloadN (d4 81 rfl) rfl ?_
            refine Ev.iload (d4 82 rfl) rfl ?_
            obtain ⟨q9, hq10, hr⟩ := Option.bind_eq_some_iff.mp hr
            refine Ev.virt (y := M_countWith) (args := [.int x3, .int x5]) (rest := [.int x4]) (gok hw) rfl nm_countWith (ww hw 122 rfl) (ww hw 114 rfl) (ww hw 115 rfl) (ww hw 116 rfl) (ww hw 117 rfl) (lenOf pd_countWith rfl) (d4 83 rfl) (V.2.1 s) (e_countWith hw V hq10) (by decide) (Nat.le_of_ble_eq_true rfl) rfl ?_
            refine Ev.iceq (t := 152) (d4 84 rfl) rfl (fun c11 => ?_) (fun c11 => ?_)
            · replace hr := (if_pos c11).symm.trans hr
              refine Ev.iinc (z := 1) (L' := [.val (.ref o), .val (.int x1), .val (.int x2), .val (.int (x3 + (1 : Int32))), .val (.int x4), .val (.int x5), .val (.int x6), .val (.long x7), .second, .val (.int x9), y10, y11]) (d4 87 rfl) rfl rfl rfl ?_
              refine Ev.goto (t := 12) (d4 88 rfl) rfl ?_
              exact hk12 x1 x2 (x3 + (1 : Int32)) q9.2 (.val (.int x4)) rfl (.val (.int x5)) rfl (.val (.int x6)) rfl (.val (.long x7)) .second (Or.inr ⟨_, rfl, rfl⟩) (.val (.int x9)) rfl y10 hy10 y11 hy11 _ hr
            · replace hr := (if_neg c11).symm.trans hr
              refine Ev.iconst (z := 0) (d4 85 rfl) rfl ?_
              cases hr
              exact Ev.zret0 rfl (d4 86 rfl)
      · replace hr := (if_neg c5).symm.trans hr
        refine Ev.iconst (z := 0) (d4 65 rfl) rfl ?_
        cases hr
        exact Ev.zret0 rfl (d4 66 rfl)
def f_hcheck_12 (n : Nat) : Nat → Int32 → Int32 → Int32 → St → Option (Int32 × St)
  | 0 => fun _ _ _ _ => none
  | k + 1 => fun x1 x2 x3 s =>
    if x3 < x1 then
      (f_count n s).bind fun q2 =>
      (f_chosenValue q2.2 x3).bind fun q4 =>
      (f_offeredMask n x3 q2.2).bind fun q6 =>
      f_hcheck_43 n (f_hcheck_12 n k) n x1 x2 x3 q2.1 q4 q6.1 (0 : Int64) (0 : Int32) q6.2
    else
      some ((1 : Int32), s)
set_option maxRecDepth 100000 in
theorem e_hcheck_12 {g : GT} {n : Nat} (hw : HW g) {K : St → MHeap} {o : Nat} {r : Nat → Nat} (V : View (GG g) Ln K o r) (k : Nat) : ∀ (x1 : Int32) (x2 : Int32) (x3 : Int32) (s : St) (y4 : Slot) (hy4 : one1 y4 = true) (y5 : Slot) (hy5 : one1 y5 = true) (y6 : Slot) (hy6 : one1 y6 = true) (y7 y8 : Slot) (hy7 : two2 y7 y8) (y9 : Slot) (hy9 : one1 y9 = true) (y10 : Slot) (hy10 : one1 y10 = true) (y11 : Slot) (hy11 : one1 y11 = true) (w : Int32 × St), f_hcheck_12 n k x1 x2 x3 s = some w → Ev (GG g) M_hcheck 12 [.val (.ref o), .val (.int x1), .val (.int x2), .val (.int x3), y4, y5, y6, y7, y8, y9, y10, y11] [] (K s) ((some (.int w.1)), (K w.2)) := by
  induction k with
  | zero => intro x1 x2 x3 s y4 hy4 y5 hy5 y6 hy6 y7 y8 hy7 y9 hy9 y10 hy10 y11 hy11 w hr; rw [f_hcheck_12] at hr; cases hr
  | succ k ih =>
    intro x1 x2 x3 s y4 hy4 y5 hy5 y6 hy6 y7 y8 hy7 y9 hy9 y10 hy10 y11 hy11 w hr
    rw [f_hcheck_12] at hr
    refine Ev.iloadN (d4 8 rfl) rfl ?_
    refine Ev.iloadN (d4 9 rfl) rfl ?_
    refine Ev.icge (t := 158) (d4 10 rfl) rfl (fun c1 => ?_) (fun c1 => ?_)
    · replace hr := (if_pos c1).symm.trans hr
      refine Ev.aloadN (d4 11 rfl) rfl ?_
      obtain ⟨q2, hq3, hr⟩ := Option.bind_eq_some_iff.mp hr
      refine Ev.virt (y := M_count) (args := []) (rest := []) (gok hw) rfl nm_count (ww hw 82 rfl) (ww hw 83 rfl) (ww hw 84 rfl) (ww hw 85 rfl) (ww hw 86 rfl) (lenOf pd_count rfl) (d4 12 rfl) (V.2.1 s) (e_count hw V hq3) (by decide) (Nat.le_of_ble_eq_true rfl) rfl ?_
      refine Ev.istD (L' := [.val (.ref o), .val (.int x1), .val (.int x2), .val (.int x3), .val (.int q2.1), y5, y6, y7, y8, y9, y10, y11]) (d4 13 rfl) rfl hy4 rfl ?_
      refine Ev.aloadN (d4 14 rfl) rfl ?_
      refine Ev.iloadN (d4 15 rfl) rfl ?_
      obtain ⟨q4, hq5, hr⟩ := Option.bind_eq_some_iff.mp hr
      refine Ev.virt (y := M_chosenValue) (args := [.int x3]) (rest := []) (gok hw) rfl nm_chosenValue (ww hw 99 rfl) (ww hw 100 rfl) (ww hw 101 rfl) (ww hw 102 rfl) (ww hw 103 rfl) (lenOf pd_chosenValue rfl) (d4 16 rfl) (V.2.1 q2.2) (e_chosenValue hw V hq5) (by decide) (Nat.le_of_ble_eq_true rfl) rfl ?_
      refine Ev.istD (L' := [.val (.ref o), .val (.int x1), .val (.int x2), .val (.int x3), .val (.int q2.1), .val (.int q4), y6, y7, y8, y9, y10, y11]) (d4 17 rfl) rfl hy5 rfl ?_
      refine Ev.aloadN (d4 18 rfl) rfl ?_
      refine Ev.iloadN (d4 19 rfl) rfl ?_
      obtain ⟨q6, hq7, hr⟩ := Option.bind_eq_some_iff.mp hr
      refine Ev.virt (y := M_offeredMask) (args := [.int x3]) (rest := []) (gok hw) rfl nm_offeredMask (ww hw 108 rfl) (ww hw 109 rfl) (ww hw 110 rfl) (ww hw 111 rfl) (ww hw 112 rfl) (lenOf pd_offeredMask rfl) (d4 20 rfl) (V.2.1 q2.2) (e_offeredMask hw V hq7) (by decide) (Nat.le_of_ble_eq_true rfl) rfl ?_
      refine Ev.istD (L' := [.val (.ref o), .val (.int x1), .val (.int x2), .val (.int x3), .val (.int q2.1), .val (.int q4), .val (.int q6.1), y7, y8, y9, y10, y11]) (d4 21 rfl) rfl hy6 rfl ?_
      refine Ev.lconst (z := 0) (d4 22 rfl) rfl ?_
      refine Ev.lstD (L' := [.val (.ref o), .val (.int x1), .val (.int x2), .val (.int x3), .val (.int q2.1), .val (.int q4), .val (.int q6.1), .val (.long (0 : Int64)), .second, y9, y10, y11]) (d4 23 rfl) rfl rfl hy7 rfl ?_
      refine Ev.iconst (z := 0) (d4 24 rfl) rfl ?_
      refine Ev.istD (L' := [.val (.ref o), .val (.int x1), .val (.int x2), .val (.int x3), .val (.int q2.1), .val (.int q4), .val (.int q6.1), .val (.long (0 : Int64)), .second, .val (.int (0 : Int32)), y10, y11]) (d4 25 rfl) rfl hy9 rfl ?_
      exact e_hcheck_43 hw V ih n x1 x2 x3 q2.1 q4 q6.1 (0 : Int64) (0 : Int32) q6.2 y10 hy10 y11 hy11 _ hr
    · replace hr := (if_neg c1).symm.trans hr
      refine Ev.iconst (z := 1) (d4 89 rfl) rfl ?_
      cases hr
      exact Ev.zret1 rfl (d4 90 rfl)
def f_hcheck (n : Nat) (s : St) : Option (Int32 × St) :=
  (f_numVars s).bind fun q1 =>
  (f_domainSize s).bind fun q3 =>
  f_hcheck_12 n n q1 q3 (0 : Int32) s
set_option maxRecDepth 100000 in
theorem e_hcheck {g : GT} {n : Nat} {s : St} {w : Int32 × St} (hw : HW g) {K : St → MHeap} {o : Nat} {r : Nat → Nat} (V : View (GG g) Ln K o r) (hr : f_hcheck n s = some w) : EvC (GG g) M_hcheck [.ref o] (K s) ((some (.int w.1)), (K w.2)) := by
  refine EvC.enter (L0 := [.val (.ref o), .unset, .unset, .unset, .unset, .unset, .unset, .unset, .unset, .unset, .unset, .unset]) pl_hcheck (fun h => nomatch h) rfl rfl ?_
  unfold f_hcheck at hr
  refine Ev.aloadN (d4 0 rfl) rfl ?_
  obtain ⟨q1, hq2, hr⟩ := Option.bind_eq_some_iff.mp hr
  refine Ev.virt (y := M_numVars) (args := []) (rest := []) (gok hw) rfl nm_numVars (ww hw 72 rfl) (ww hw 73 rfl) (ww hw 74 rfl) (ww hw 75 rfl) (ww hw 76 rfl) (lenOf pd_numVars rfl) (d4 1 rfl) (V.2.1 s) (e_numVars hw V hq2) (by decide) (Nat.le_of_ble_eq_true rfl) rfl ?_
  refine Ev.istDN (L' := [.val (.ref o), .val (.int q1), .unset, .unset, .unset, .unset, .unset, .unset, .unset, .unset, .unset, .unset]) (d4 2 rfl) rfl rfl rfl ?_
  refine Ev.aloadN (d4 3 rfl) rfl ?_
  obtain ⟨q3, hq4, hr⟩ := Option.bind_eq_some_iff.mp hr
  refine Ev.virt (y := M_domainSize) (args := []) (rest := []) (gok hw) rfl nm_domainSize (ww hw 77 rfl) (ww hw 78 rfl) (ww hw 79 rfl) (ww hw 80 rfl) (ww hw 81 rfl) (lenOf pd_domainSize rfl) (d4 4 rfl) (V.2.1 s) (e_domainSize hw V hq4) (by decide) (Nat.le_of_ble_eq_true rfl) rfl ?_
  refine Ev.istDN (L' := [.val (.ref o), .val (.int q1), .val (.int q3), .unset, .unset, .unset, .unset, .unset, .unset, .unset, .unset, .unset]) (d4 5 rfl) rfl rfl rfl ?_
  refine Ev.iconst (z := 0) (d4 6 rfl) rfl ?_
  refine Ev.istDN (L' := [.val (.ref o), .val (.int q1), .val (.int q3), .val (.int (0 : Int32)), .unset, .unset, .unset, .unset, .unset, .unset, .unset, .unset]) (d4 7 rfl) rfl rfl rfl ?_
  exact e_hcheck_12 hw V  n q1 q3 (0 : Int32) s .unset rfl .unset rfl .unset rfl .unset .unset (Or.inl ⟨rfl, rfl⟩) .unset rfl .unset rfl .unset rfl _ hr
def f_hpick (a0 : Int32) (a1 : Int32) : Option (Int32) :=
  if ((XT.ushr a0 (3 : Int32)) &&& (3 : Int32)) = 0 then
    some ((a0 &&& (7 : Int32)) - (1 : Int32))
  else
    grd (a1 ≠ 0) <|
    some ((a0 &&& (7 : Int32)) % a1)
set_option maxRecDepth 100000 in
theorem e_hpick {g : GT} {a0 : Int32} {a1 : Int32} {w : Int32} (hw : HW g) {h : MHeap} (hr : f_hpick a0 a1 = some w) : EvC (GG g) M_hpick [.int a0, .int a1] h ((some (.int w)), h) := by
  refine EvC.enter (L0 := [.val (.int a0), .val (.int a1)]) pl_hpick (fun h => nomatch h) rfl rfl ?_
  unfold f_hpick at hr
  refine Ev.iloadN (d16 0 rfl) rfl ?_
  refine Ev.iconst (z := 3) (d16 1 rfl) rfl ?_
  refine Ev.iushr (d16 2 rfl) ?_
  refine Ev.iconst (z := 3) (d16 3 rfl) rfl ?_
  refine Ev.iand (d16 4 rfl) ?_
  refine Ev.ifne (t := 15) (d16 5 rfl) rfl (fun c1 => ?_) (fun c1 => ?_)
  · replace hr := (if_pos c1).symm.trans hr
    refine Ev.iloadN (d16 6 rfl) rfl ?_
    refine Ev.bipush (z := 7) (d16 7 rfl) rfl ?_
    refine Ev.iand (d16 8 rfl) ?_
    refine Ev.iconst (z := 1) (d16 9 rfl) rfl ?_
    refine Ev.isub (d16 10 rfl) ?_
    cases hr
    exact Ev.ireturn rfl (d16 11 rfl)
  · replace hr := (if_neg c1).symm.trans hr
    refine Ev.iloadN (d16 12 rfl) rfl ?_
    refine Ev.bipush (z := 7) (d16 13 rfl) rfl ?_
    refine Ev.iand (d16 14 rfl) ?_
    refine Ev.iloadN (d16 15 rfl) rfl ?_
    obtain ⟨c2, hr⟩ := grd_some hr
    refine Ev.irem (d16 16 rfl) c2 ?_
    cases hr
    exact Ev.ireturn rfl (d16 17 rfl)
def f_beginTable_131 (x1 : Int32) (x2 : Int32) (x3 : Int32) (x4 : Int32) (s : St) : Option (Int32 × St) :=
  bnd (setI s 24 ((1 : Int32) &&& 1)) fun s1 =>
  bnd (setI s1 25 x4) fun s2 =>
  bnd (setI s2 26 x1) fun s3 =>
  bnd (setI s3 27 x2) fun s4 =>
  bnd (setI s4 28 x3) fun s5 =>
  bnd (setI s5 29 (0 : Int32)) fun s6 =>
  some ((0 : Int32), s6)
set_option maxRecDepth 100000 in
theorem e_beginTable_131 {g : GT} (hw : HW g) {K : St → MHeap} {o : Nat} {r : Nat → Nat} (V : View (GG g) Ln K o r) (x1 : Int32) (x2 : Int32) (x3 : Int32) (x4 : Int32) (s : St) (w : Int32 × St) (hr : f_beginTable_131 x1 x2 x3 x4 s = some w) : Ev (GG g) M_beginTable 131 [.val (.ref o), .val (.int x1), .val (.int x2), .val (.int x3), .val (.int x4)] [] (K s) ((some (.int w.1)), (K w.2)) := by
  unfold f_beginTable_131 at hr
  refine Ev.aloadN (d17 74 rfl) rfl ?_
  refine Ev.iconst (z := 1) (d17 75 rfl) rfl ?_
  refine Ev.pZ V (gok hw) (ww hw 67 rfl) (Or.inl (ww hw 68 rfl)) (d17 76 rfl) (j := 24) rfl ?_
  revert hr
  generalize setI s 24 ((1 : Int32) &&& 1) = s1
  intro hr
  replace hr := (bnd_eq _ _).symm.trans hr
  refine Ev.aloadN (d17 77 rfl) rfl ?_
  refine Ev.iload (d17 78 rfl) rfl ?_
  refine Ev.pI V (gok hw) (ww hw 136 rfl) (Or.inl (ww hw 137 rfl)) (d17 79 rfl) (j := 25) rfl ?_
  revert hr
  generalize setI s1 25 x4 = s2
  intro hr
  replace hr := (bnd_eq _ _).symm.trans hr
  refine Ev.aloadN (d17 80 rfl) rfl ?_
  refine Ev.iloadN (d17 81 rfl) rfl ?_
  refine Ev.pI V (gok hw) (ww hw 138 rfl) (Or.inl (ww hw 139 rfl)) (d17 82 rfl) (j := 26) rfl ?_
  revert hr
  generalize setI s2 26 x1 = s3
  intro hr
  replace hr := (bnd_eq _ _).symm.trans hr
  refine Ev.aloadN (d17 83 rfl) rfl ?_
  refine Ev.iloadN (d17 84 rfl) rfl ?_
  refine Ev.pI V (gok hw) (ww hw 140 rfl) (Or.inl (ww hw 141 rfl)) (d17 85 rfl) (j := 27) rfl ?_
  revert hr
  generalize setI s3 27 x2 = s4
  intro hr
  replace hr := (bnd_eq _ _).symm.trans hr
  refine Ev.aloadN (d17 86 rfl) rfl ?_
  refine Ev.iloadN (d17 87 rfl) rfl ?_
  refine Ev.pI V (gok hw) (ww hw 142 rfl) (Or.inl (ww hw 143 rfl)) (d17 88 rfl) (j := 28) rfl ?_
  revert hr
  generalize setI s4 28 x3 = s5
  intro hr
  replace hr := (bnd_eq _ _).symm.trans hr
  refine Ev.aloadN (d17 89 rfl) rfl ?_
  refine Ev.iconst (z := 0) (d17 90 rfl) rfl ?_
  refine Ev.pI V (gok hw) (ww hw 144 rfl) (Or.inl (ww hw 145 rfl)) (d17 91 rfl) (j := 29) rfl ?_
  revert hr
  generalize setI s5 29 (0 : Int32) = s6
  intro hr
  replace hr := (bnd_eq _ _).symm.trans hr
  refine Ev.iconst (z := 0) (d17 92 rfl) rfl ?_
  cases hr
  exact Ev.ireturn rfl (d17 93 rfl)
def f_beginTable_112 (x1 : Int32) (x2 : Int32) (x3 : Int32) (x4 : Int32) (s : St) : Option (Int32 × St) :=
  if x4 = (3 : Int32) then
    if x1 = x3 then
      some ((-11 : Int32), s)
    else
      if x2 = x3 then
        some ((-11 : Int32), s)
      else
        f_beginTable_131 x1 x2 x3 x4 s
  else
    f_beginTable_131 x1 x2 x3 x4 s
set_option maxRecDepth 100000 in
theorem e_beginTable_112 {g : GT} (hw : HW g) {K : St → MHeap} {o : Nat} {r : Nat → Nat} (V : View (GG g) Ln K o r) (x1 : Int32) (x2 : Int32) (x3 : Int32) (x4 : Int32) (s : St) (w : Int32 × St) (hr : f_beginTable_112 x1 x2 x3 x4 s = some w) : Ev (GG g) M_beginTable 112 [.val (.ref o), .val (.int x1), .val (.int x2), .val (.int x3), .val (.int x4)] [] (K s) ((some (.int w.1)), (K w.2)) := by
  unfold f_beginTable_112 at hr
  refine Ev.iload (d17 63 rfl) rfl ?_
  refine Ev.iconst (z := 3) (d17 64 rfl) rfl ?_
  refine Ev.icne (t := 131) (d17 65 rfl) rfl (fun c1 => ?_) (fun c1 => ?_)
  · replace hr := (if_pos c1).symm.trans hr
    refine Ev.iloadN (d17 66 rfl) rfl ?_
    refine Ev.iloadN (d17 67 rfl) rfl ?_
    refine Ev.iceq (t := 128) (d17 68 rfl) rfl (fun c2 => ?_) (fun c2 => ?_)
    · replace hr := (if_pos c2).symm.trans hr
      refine Ev.bipush (z := -11) (d17 72 rfl) rfl ?_
      cases hr
      exact Ev.ireturn rfl (d17 73 rfl)
    · replace hr := (if_neg c2).symm.trans hr
      refine Ev.iloadN (d17 69 rfl) rfl ?_
      refine Ev.iloadN (d17 70 rfl) rfl ?_
      refine Ev.icne (t := 131) (d17 71 rfl) rfl (fun c3 => ?_) (fun c3 => ?_)
      · replace hr := (if_pos c3).symm.trans hr
        refine Ev.bipush (z := -11) (d17 72 rfl) rfl ?_
        cases hr
        exact Ev.ireturn rfl (d17 73 rfl)
      · replace hr := (if_neg c3).symm.trans hr
        exact e_beginTable_131 hw V  x1 x2 x3 x4 s  _ hr
  · replace hr := (if_neg c1).symm.trans hr
    exact e_beginTable_131 hw V  x1 x2 x3 x4 s  _ hr
def f_beginTable_98 (x1 : Int32) (x2 : Int32) (x3 : Int32) (x4 : Int32) (s : St) : Option (Int32 × St) :=
  if x4 < (2 : Int32) then
    f_beginTable_112 x1 x2 x3 x4 s
  else
    if x1 = x2 then
      some ((-11 : Int32), s)
    else
      f_beginTable_112 x1 x2 x3 x4 s
set_option maxRecDepth 100000 in
theorem e_beginTable_98 {g : GT} (hw : HW g) {K : St → MHeap} {o : Nat} {r : Nat → Nat} (V : View (GG g) Ln K o r) (x1 : Int32) (x2 : Int32) (x3 : Int32) (x4 : Int32) (s : St) (w : Int32 × St) (hr : f_beginTable_98 x1 x2 x3 x4 s = some w) : Ev (GG g) M_beginTable 98 [.val (.ref o), .val (.int x1), .val (.int x2), .val (.int x3), .val (.int x4)] [] (K s) ((some (.int w.1)), (K w.2)) := by
  unfold f_beginTable_98 at hr
  refine Ev.iload (d17 55 rfl) rfl ?_
  refine Ev.iconst (z := 2) (d17 56 rfl) rfl ?_
  refine Ev.iclt (t := 112) (d17 57 rfl) rfl (fun c1 => ?_) (fun c1 => ?_)
  · replace hr := (if_pos c1).symm.trans hr
    exact e_beginTable_112 hw V  x1 x2 x3 x4 s  _ hr
  · replace hr := (if_neg c1).symm.trans hr
    refine Ev.iloadN (d17 58 rfl) rfl ?_
    refine Ev.iloadN (d17 59 rfl) rfl ?_
    refine Ev.icne (t := 112) (d17 60 rfl) rfl (fun c2 => ?_) (fun c2 => ?_)
    · replace hr := (if_pos c2).symm.trans hr
      refine Ev.bipush (z := -11) (d17 61 rfl) rfl ?_
      cases hr
      exact Ev.ireturn rfl (d17 62 rfl)
    · replace hr := (if_neg c2).symm.trans hr
      exact e_beginTable_112 hw V  x1 x2 x3 x4 s  _ hr
def f_beginTable_82 (x1 : Int32) (x2 : Int32) (x3 : Int32) (x4 : Int32) (s : St) : Option (Int32 × St) :=
  if x4 = (3 : Int32) then
    (f_validVar s x3).bind fun q2 =>
    if q2 = 0 then
      some ((-1 : Int32), s)
    else
      f_beginTable_98 x1 x2 x3 x4 s
  else
    f_beginTable_98 x1 x2 x3 x4 s
set_option maxRecDepth 100000 in
theorem e_beginTable_82 {g : GT} (hw : HW g) {K : St → MHeap} {o : Nat} {r : Nat → Nat} (V : View (GG g) Ln K o r) (x1 : Int32) (x2 : Int32) (x3 : Int32) (x4 : Int32) (s : St) (w : Int32 × St) (hr : f_beginTable_82 x1 x2 x3 x4 s = some w) : Ev (GG g) M_beginTable 82 [.val (.ref o), .val (.int x1), .val (.int x2), .val (.int x3), .val (.int x4)] [] (K s) ((some (.int w.1)), (K w.2)) := by
  unfold f_beginTable_82 at hr
  refine Ev.iload (d17 46 rfl) rfl ?_
  refine Ev.iconst (z := 3) (d17 47 rfl) rfl ?_
  refine Ev.icne (t := 98) (d17 48 rfl) rfl (fun c1 => ?_) (fun c1 => ?_)
  · replace hr := (if_pos c1).symm.trans hr
    refine Ev.aloadN (d17 49 rfl) rfl ?_
    refine Ev.iloadN (d17 50 rfl) rfl ?_
    obtain ⟨q2, hq3, hr⟩ := Option.bind_eq_some_iff.mp hr
    refine Ev.priv (y := M_validVar) (args := [.int x3]) (rest := []) (gok hw) rfl nm_validVar (ww hw 104 rfl) (ww hw 105 rfl) (ww hw 106 rfl) (ww hw 107 rfl) (lenOf pd_validVar rfl) (d17 51 rfl) (V.2.1 s) (e_validVar hw V hq3) (by decide) (Nat.le_of_ble_eq_true rfl) rfl ?_
    refine Ev.ifne (t := 98) (d17 52 rfl) rfl (fun c4 => ?_) (fun c4 => ?_)
    · replace hr := (if_pos c4).symm.trans hr
      refine Ev.iconst (z := -1) (d17 53 rfl) rfl ?_
      cases hr
      exact Ev.ireturn rfl (d17 54 rfl)
    · replace hr := (if_neg c4).symm.trans hr
      exact e_beginTable_98 hw V  x1 x2 x3 x4 s  _ hr
  · replace hr := (if_neg c1).symm.trans hr
    exact e_beginTable_98 hw V  x1 x2 x3 x4 s  _ hr
def f_beginTable_54 (x1 : Int32) (x2 : Int32) (x3 : Int32) (z0 : Int32) (s : St) : Option (Int32 × St) :=
  (f_validVar s x1).bind fun q1 =>
  if q1 = 0 then
    some ((-1 : Int32), s)
  else
    if z0 < (2 : Int32) then
      f_beginTable_82 x1 x2 x3 z0 s
    else
      (f_validVar s x2).bind fun q5 =>
      if q5 = 0 then
        some ((-1 : Int32), s)
      else
        f_beginTable_82 x1 x2 x3 z0 s
set_option maxRecDepth 100000 in
theorem e_beginTable_54 {g : GT} (hw : HW g) {K : St → MHeap} {o : Nat} {r : Nat → Nat} (V : View (GG g) Ln K o r) (x1 : Int32) (x2 : Int32) (x3 : Int32) (z0 : Int32) (s : St) (y4 : Slot) (hy4 : one1 y4 = true) (w : Int32 × St) (hr : f_beginTable_54 x1 x2 x3 z0 s = some w) : Ev (GG g) M_beginTable 54 [.val (.ref o), .val (.int x1), .val (.int x2), .val (.int x3), y4] [.int z0] (K s) ((some (.int w.1)), (K w.2)) := by
  unfold f_beginTable_54 at hr
  refine Ev.istD (L' := [.val (.ref o), .val (.int x1), .val (.int x2), .val (.int x3), .val (.int z0)]) (d17 30 rfl) rfl hy4 rfl ?_
  refine Ev.aloadN (d17 31 rfl) rfl ?_
  refine Ev.iloadN (d17 32 rfl) rfl ?_
  obtain ⟨q1, hq2, hr⟩ := Option.bind_eq_some_iff.mp hr
  refine Ev.priv (y := M_validVar) (args := [.int x1]) (rest := []) (gok hw) rfl nm_validVar (ww hw 104 rfl) (ww hw 105 rfl) (ww hw 106 rfl) (ww hw 107 rfl) (lenOf pd_validVar rfl) (d17 33 rfl) (V.2.1 s) (e_validVar hw V hq2) (by decide) (Nat.le_of_ble_eq_true rfl) rfl ?_
  refine Ev.ifne (t := 66) (d17 34 rfl) rfl (fun c3 => ?_) (fun c3 => ?_)
  · replace hr := (if_pos c3).symm.trans hr
    refine Ev.iconst (z := -1) (d17 35 rfl) rfl ?_
    cases hr
    exact Ev.ireturn rfl (d17 36 rfl)
  · replace hr := (if_neg c3).symm.trans hr
    refine Ev.iload (d17 37 rfl) rfl ?_
    refine Ev.iconst (z := 2) (d17 38 rfl) rfl ?_
    refine Ev.iclt (t := 82) (d17 39 rfl) rfl (fun c4 => ?_) (fun c4 => ?_)
    · replace hr := (if_pos c4).symm.trans hr
      exact e_beginTable_82 hw V  x1 x2 x3 z0 s  _ hr
    · replace hr := (if_neg c4).symm.trans hr
      refine Ev.aloadN (d17 40 rfl) rfl ?_
      refine Ev.iloadN (d17 41 rfl) rfl ?_
      obtain ⟨q5, hq6, hr⟩ := Option.bind_eq_some_iff.mp hr
      refine Ev.priv (y := M_validVar) (args := [.int x2]) (rest := []) (gok hw) rfl nm_validVar (ww hw 104 rfl) (ww hw 105 rfl) (ww hw 106 rfl) (ww hw 107 rfl) (lenOf pd_validVar rfl) (d17 42 rfl) (V.2.1 s) (e_validVar hw V hq6) (by decide) (Nat.le_of_ble_eq_true rfl) rfl ?_
      refine Ev.ifne (t := 82) (d17 43 rfl) rfl (fun c7 => ?_) (fun c7 => ?_)
      · replace hr := (if_pos c7).symm.trans hr
        refine Ev.iconst (z := -1) (d17 44 rfl) rfl ?_
        cases hr
        exact Ev.ireturn rfl (d17 45 rfl)
      · replace hr := (if_neg c7).symm.trans hr
        exact e_beginTable_82 hw V  x1 x2 x3 z0 s  _ hr
def f_beginTable_35 (x1 : Int32) (x2 : Int32) (x3 : Int32) (s : St) : Option (Int32 × St) :=
  if x2 = (-1 : Int32) then
    f_beginTable_54 x1 x2 x3 (1 : Int32) s
  else
    if x3 = (-1 : Int32) then
      f_beginTable_54 x1 x2 x3 (2 : Int32) s
    else
      f_beginTable_54 x1 x2 x3 (3 : Int32) s
set_option maxRecDepth 100000 in
theorem e_beginTable_35 {g : GT} (hw : HW g) {K : St → MHeap} {o : Nat} {r : Nat → Nat} (V : View (GG g) Ln K o r) (x1 : Int32) (x2 : Int32) (x3 : Int32) (s : St) (y4 : Slot) (hy4 : one1 y4 = true) (w : Int32 × St) (hr : f_beginTable_35 x1 x2 x3 s = some w) : Ev (GG g) M_beginTable 35 [.val (.ref o), .val (.int x1), .val (.int x2), .val (.int x3), y4] [] (K s) ((some (.int w.1)), (K w.2)) := by
  unfold f_beginTable_35 at hr
  refine Ev.iloadN (d17 19 rfl) rfl ?_
  refine Ev.iconst (z := -1) (d17 20 rfl) rfl ?_
  refine Ev.icne (t := 44) (d17 21 rfl) rfl (fun c1 => ?_) (fun c1 => ?_)
  · replace hr := (if_pos c1).symm.trans hr
    refine Ev.iconst (z := 1) (d17 22 rfl) rfl ?_
    refine Ev.goto (t := 54) (d17 23 rfl) rfl ?_
    exact e_beginTable_54 hw V  x1 x2 x3 (1 : Int32) s y4 hy4 _ hr
  · replace hr := (if_neg c1).symm.trans hr
    refine Ev.iloadN (d17 24 rfl) rfl ?_
    refine Ev.iconst (z := -1) (d17 25 rfl) rfl ?_
    refine Ev.icne (t := 53) (d17 26 rfl) rfl (fun c2 => ?_) (fun c2 => ?_)
    · replace hr := (if_pos c2).symm.trans hr
      refine Ev.iconst (z := 2) (d17 27 rfl) rfl ?_
      refine Ev.goto (t := 54) (d17 28 rfl) rfl ?_
      exact e_beginTable_54 hw V  x1 x2 x3 (2 : Int32) s y4 hy4 _ hr
    · replace hr := (if_neg c2).symm.trans hr
      refine Ev.iconst (z := 3) (d17 29 rfl) rfl ?_
      exact e_beginTable_54 hw V  x1 x2 x3 (3 : Int32) s y4 hy4 _ hr
def f_beginTable (a0 : Int32) (a1 : Int32) (a2 : Int32) (s : St) : Option (Int32 × St) :=
  if (s.1 24) = 0 then
    if (s.1 23) < (8 : Int32) then
      if a1 = (-1 : Int32) then
        if a2 = (-1 : Int32) then
          f_beginTable_35 a0 a1 a2 s
        else
          some ((-11 : Int32), s)
      else
        f_beginTable_35 a0 a1 a2 s
    else
      some ((-6 : Int32), s)
  else
    some ((-3 : Int32), s)
set_option maxRecDepth 100000 in
theorem e_beginTable {g : GT} {a0 : Int32} {a1 : Int32} {a2 : Int32} {s : St} {w : Int32 × St} (hw : HW g) {K : St → MHeap} {o : Nat} {r : Nat → Nat} (V : View (GG g) Ln K o r) (hr : f_beginTable a0 a1 a2 s = some w) : EvC (GG g) M_beginTable [.ref o, .int a0, .int a1, .int a2] (K s) ((some (.int w.1)), (K w.2)) := by
  refine EvC.enter (L0 := [.val (.ref o), .val (.int a0), .val (.int a1), .val (.int a2), .unset]) pl_beginTable (fun h => nomatch h) rfl rfl ?_
  unfold f_beginTable at hr
  refine Ev.aloadN (d17 0 rfl) rfl ?_
  refine Ev.gI V (ww hw 67 rfl) (d17 1 rfl) (j := 24) rfl rfl ?_
  refine Ev.ifeq (t := 10) (d17 2 rfl) rfl (fun c1 => ?_) (fun c1 => ?_)
  · replace hr := (if_pos c1).symm.trans hr
    refine Ev.aloadN (d17 5 rfl) rfl ?_
    refine Ev.gI V (ww hw 65 rfl) (d17 6 rfl) (j := 23) rfl rfl ?_
    refine Ev.bipush (z := 8) (d17 7 rfl) rfl ?_
    refine Ev.iclt (t := 22) (d17 8 rfl) rfl (fun c2 => ?_) (fun c2 => ?_)
    · replace hr := (if_pos c2).symm.trans hr
      refine Ev.iloadN (d17 11 rfl) rfl ?_
      refine Ev.iconst (z := -1) (d17 12 rfl) rfl ?_
      refine Ev.icne (t := 35) (d17 13 rfl) rfl (fun c3 => ?_) (fun c3 => ?_)
      · replace hr := (if_pos c3).symm.trans hr
        refine Ev.iloadN (d17 14 rfl) rfl ?_
        refine Ev.iconst (z := -1) (d17 15 rfl) rfl ?_
        refine Ev.iceq (t := 35) (d17 16 rfl) rfl (fun c4 => ?_) (fun c4 => ?_)
        · replace hr := (if_pos c4).symm.trans hr
          exact e_beginTable_35 hw V  a0 a1 a2 s .unset rfl _ hr
        · replace hr := (if_neg c4).symm.trans hr
          refine Ev.bipush (z := -11) (d17 17 rfl) rfl ?_
          cases hr
          exact Ev.ireturn rfl (d17 18 rfl)
      · replace hr := (if_neg c3).symm.trans hr
        exact e_beginTable_35 hw V  a0 a1 a2 s .unset rfl _ hr
    · replace hr := (if_neg c2).symm.trans hr
      refine Ev.bipush (z := -6) (d17 9 rfl) rfl ?_
      cases hr
      exact Ev.ireturn rfl (d17 10 rfl)
  · replace hr := (if_neg c1).symm.trans hr
    refine Ev.bipush (z := -3) (d17 3 rfl) rfl ?_
    cases hr
    exact Ev.ireturn rfl (d17 4 rfl)
def f_addTuple_135 (n : Nat) (x4 : Int32) (s : St) : Option (Int32 × St) :=
  if (s.1 29) < (16 : Int32) then
    grd (inb (s.1 29) 16) <|
    bnd (setA s 1 (ix (s.1 29)) x4) fun s3 =>
    bnd (setI s3 29 ((s3.1 29) + (1 : Int32))) fun s4 =>
    some ((0 : Int32), s4)
  else
    some ((-6 : Int32), s)
set_option maxRecDepth 100000 in
theorem e_addTuple_135 {g : GT} {n : Nat} (hw : HW g) {K : St → MHeap} {o : Nat} {r : Nat → Nat} (V : View (GG g) Ln K o r) (x4 : Int32) (s : St) (y1 : Slot) (hy1 : one1 y1 = true) (y2 : Slot) (hy2 : one1 y2 = true) (y3 : Slot) (hy3 : one1 y3 = true) (y5 : Slot) (hy5 : one1 y5 = true) (w : Int32 × St) (hr : f_addTuple_135 n x4 s = some w) : Ev (GG g) M_addTuple 135 [.val (.ref o), y1, y2, y3, .val (.int x4), y5] [] (K s) ((some (.int w.1)), (K w.2)) := by
  unfold f_addTuple_135 at hr
  refine Ev.aloadN (d18 72 rfl) rfl ?_
  refine Ev.gI V (ww hw 144 rfl) (d18 73 rfl) (j := 29) rfl rfl ?_
  refine Ev.bipush (z := 16) (d18 74 rfl) rfl ?_
  refine Ev.iclt (t := 147) (d18 75 rfl) rfl (fun c1 => ?_) (fun c1 => ?_)
  · replace hr := (if_pos c1).symm.trans hr
    refine Ev.aloadN (d18 78 rfl) rfl ?_
    refine Ev.gAr V (ww hw 16 rfl) (d18 79 rfl) (j := 1) rfl ?_
    refine Ev.aloadN (d18 80 rfl) rfl ?_
    refine Ev.gI V (ww hw 144 rfl) (d18 81 rfl) (j := 29) rfl rfl ?_
    refine Ev.iload (d18 82 rfl) rfl ?_
    obtain ⟨b2, hr⟩ := grd_some hr
    refine Ev.ias V (j := 1) rfl rfl (d18 83 rfl) b2 ?_
    revert hr
    generalize setA s 1 (ix (s.1 29)) x4 = s3
    intro hr
    replace hr := (bnd_eq _ _).symm.trans hr
    refine Ev.aloadN (d18 84 rfl) rfl ?_
    refine Ev.dup (d18 85 rfl) rfl ?_
    refine Ev.gI V (ww hw 144 rfl) (d18 86 rfl) (j := 29) rfl rfl ?_
    refine Ev.iconst (z := 1) (d18 87 rfl) rfl ?_
    refine Ev.iadd (d18 88 rfl) ?_
    refine Ev.pI V (gok hw) (ww hw 144 rfl) (Or.inl (ww hw 145 rfl)) (d18 89 rfl) (j := 29) rfl ?_
    revert hr
    generalize setI s3 29 ((s3.1 29) + (1 : Int32)) = s4
    intro hr
    replace hr := (bnd_eq _ _).symm.trans hr
    refine Ev.iconst (z := 0) (d18 90 rfl) rfl ?_
    cases hr
    exact Ev.ireturn rfl (d18 91 rfl)
  · replace hr := (if_neg c1).symm.trans hr
    refine Ev.bipush (z := -6) (d18 76 rfl) rfl ?_
    cases hr
    exact Ev.ireturn rfl (d18 77 rfl)
def f_addTuple_98 (n : Nat) : Nat → Int32 → Int32 → St → Option (Int32 × St)
  | 0 => fun _ _ _ => none
  | k + 1 => fun x4 x5 s =>
    if x5 < (s.1 29) then
      if x5 < (16 : Int32) then
        grd (inb x5 16) <|
        if (s.2 1 (ix x5)) = x4 then
          some ((-5 : Int32), s)
        else
          f_addTuple_98 n k x4 (x5 + (1 : Int32)) s
      else
        f_addTuple_135 n x4 s
    else
      f_addTuple_135 n x4 s
set_option maxRecDepth 100000 in
theorem e_addTuple_98 {g : GT} {n : Nat} (hw : HW g) {K : St → MHeap} {o : Nat} {r : Nat → Nat} (V : View (GG g) Ln K o r) (k : Nat) : ∀ (x4 : Int32) (x5 : Int32) (s : St) (y1 : Slot) (hy1 : one1 y1 = true) (y2 : Slot) (hy2 : one1 y2 = true) (y3 : Slot) (hy3 : one1 y3 = true) (w : Int32 × St), f_addTuple_98 n k x4 x5 s = some w → Ev (GG g) M_addTuple 98 [.val (.ref o), y1, y2, y3, .val (.int x4), .val (.int x5)] [] (K s) ((some (.int w.1)), (K w.2)) := by
  induction k with
  | zero => intro x4 x5 s y1 hy1 y2 hy2 y3 hy3 w hr; rw [f_addTuple_98] at hr; cases hr
  | succ k ih =>
    intro x4 x5 s y1 hy1 y2 hy2 y3 hy3 w hr
    rw [f_addTuple_98] at hr
    refine Ev.iload (d18 55 rfl) rfl ?_
    refine Ev.aloadN (d18 56 rfl) rfl ?_
    refine Ev.gI V (ww hw 144 rfl) (d18 57 rfl) (j := 29) rfl rfl ?_
    refine Ev.icge (t := 135) (d18 58 rfl) rfl (fun c1 => ?_) (fun c1 => ?_)
    · replace hr := (if_pos c1).symm.trans hr
      refine Ev.iload (d18 59 rfl) rfl ?_
      refine Ev.bipush (z := 16) (d18 60 rfl) rfl ?_
      refine Ev.icge (t := 135) (d18 61 rfl) rfl (fun c2 => ?_) (fun c2 => ?_)
      · replace hr := (if_pos c2).symm.trans hr
        refine Ev.aloadN (d18 62 rfl) rfl ?_
        refine Ev.gAr V (ww hw 16 rfl) (d18 63 rfl) (j := 1) rfl ?_
        refine Ev.iload (d18 64 rfl) rfl ?_
        obtain ⟨b3, hr⟩ := grd_some hr
        refine Ev.ial V (j := 1) rfl rfl (d18 65 rfl) b3 ?_
        refine Ev.iload (d18 66 rfl) rfl ?_
        refine Ev.icne (t := 129) (d18 67 rfl) rfl (fun c4 => ?_) (fun c4 => ?_)
        · replace hr := (if_pos c4).symm.trans hr
          refine Ev.bipush (z := -5) (d18 68 rfl) rfl ?_
          cases hr
          exact Ev.ireturn rfl (d18 69 rfl)
        · replace hr := (if_neg c4).symm.trans hr
          refine Ev.iinc (z := 1) (L' := [.val (.ref o), y1, y2, y3, .val (.int x4), .val (.int (x5 + (1 : Int32)))]) (d18 70 rfl) rfl rfl rfl ?_
          refine Ev.goto (t := 98) (d18 71 rfl) rfl ?_
          exact ih x4 (x5 + (1 : Int32)) s y1 hy1 y2 hy2 y3 hy3 _ hr
      · replace hr := (if_neg c2).symm.trans hr
        exact e_addTuple_135 hw V  x4 s y1 hy1 y2 hy2 y3 hy3 (.val (.int x5)) rfl _ hr
    · replace hr := (if_neg c1).symm.trans hr
      exact e_addTuple_135 hw V  x4 s y1 hy1 y2 hy2 y3 hy3 (.val (.int x5)) rfl _ hr
def f_addTuple_95 (n : Nat) (x4 : Int32) (s : St) : Option (Int32 × St) :=
  f_addTuple_98 n n x4 (0 : Int32) s
set_option maxRecDepth 100000 in
theorem e_addTuple_95 {g : GT} {n : Nat} (hw : HW g) {K : St → MHeap} {o : Nat} {r : Nat → Nat} (V : View (GG g) Ln K o r) (x4 : Int32) (s : St) (y1 : Slot) (hy1 : one1 y1 = true) (y2 : Slot) (hy2 : one1 y2 = true) (y3 : Slot) (hy3 : one1 y3 = true) (y5 : Slot) (hy5 : one1 y5 = true) (w : Int32 × St) (hr : f_addTuple_95 n x4 s = some w) : Ev (GG g) M_addTuple 95 [.val (.ref o), y1, y2, y3, .val (.int x4), y5] [] (K s) ((some (.int w.1)), (K w.2)) := by
  unfold f_addTuple_95 at hr
  refine Ev.iconst (z := 0) (d18 53 rfl) rfl ?_
  refine Ev.istD (L' := [.val (.ref o), y1, y2, y3, .val (.int x4), .val (.int (0 : Int32))]) (d18 54 rfl) rfl hy5 rfl ?_
  exact e_addTuple_98 hw V  n x4 (0 : Int32) s y1 hy1 y2 hy2 y3 hy3 _ hr
def f_addTuple_81 (n : Nat) (x3 : Int32) (x4 : Int32) (s : St) : Option (Int32 × St) :=
  if (s.1 25) = (3 : Int32) then
    f_addTuple_95 n (x4 + x3) s
  else
    f_addTuple_95 n x4 s
set_option maxRecDepth 100000 in
theorem e_addTuple_81 {g : GT} {n : Nat} (hw : HW g) {K : St → MHeap} {o : Nat} {r : Nat → Nat} (V : View (GG g) Ln K o r) (x3 : Int32) (x4 : Int32) (s : St) (y1 : Slot) (hy1 : one1 y1 = true) (y2 : Slot) (hy2 : one1 y2 = true) (y5 : Slot) (hy5 : one1 y5 = true) (w : Int32 × St) (hr : f_addTuple_81 n x3 x4 s = some w) : Ev (GG g) M_addTuple 81 [.val (.ref o), y1, y2, .val (.int x3), .val (.int x4), y5] [] (K s) ((some (.int w.1)), (K w.2)) := by
  unfold f_addTuple_81 at hr
  refine Ev.aloadN (d18 45 rfl) rfl ?_
  refine Ev.gI V (ww hw 136 rfl) (d18 46 rfl) (j := 25) rfl rfl ?_
  refine Ev.iconst (z := 3) (d18 47 rfl) rfl ?_
  refine Ev.icne (t := 95) (d18 48 rfl) rfl (fun c1 => ?_) (fun c1 => ?_)
  · replace hr := (if_pos c1).symm.trans hr
    refine Ev.iload (d18 49 rfl) rfl ?_
    refine Ev.iloadN (d18 50 rfl) rfl ?_
    refine Ev.iadd (d18 51 rfl) ?_
    refine Ev.istD (L' := [.val (.ref o), y1, y2, .val (.int x3), .val (.int (x4 + x3)), y5]) (d18 52 rfl) rfl rfl rfl ?_
    exact e_addTuple_95 hw V  (x4 + x3) s y1 hy1 y2 hy2 (.val (.int x3)) rfl y5 hy5 _ hr
  · replace hr := (if_neg c1).symm.trans hr
    exact e_addTuple_95 hw V  x4 s y1 hy1 y2 hy2 (.val (.int x3)) rfl y5 hy5 _ hr
def f_addTuple_59 (n : Nat) (x1 : Int32) (x2 : Int32) (x3 : Int32) (s : St) : Option (Int32 × St) :=
  if (s.1 25) < (2 : Int32) then
    f_addTuple_81 n x3 (x1 * (16 : Int32)) s
  else
    bnd ((x1 * (16 : Int32)) + (x2 * (4 : Int32))) fun v2 =>
    f_addTuple_81 n x3 v2 s
set_option maxRecDepth 100000 in
theorem e_addTuple_59 {g : GT} {n : Nat} (hw : HW g) {K : St → MHeap} {o : Nat} {r : Nat → Nat} (V : View (GG g) Ln K o r) (x1 : Int32) (x2 : Int32) (x3 : Int32) (s : St) (y4 : Slot) (hy4 : one1 y4 = true) (y5 : Slot) (hy5 : one1 y5 = true) (w : Int32 × St) (hr : f_addTuple_59 n x1 x2 x3 s = some w) : Ev (GG g) M_addTuple 59 [.val (.ref o), .val (.int x1), .val (.int x2), .val (.int x3), y4, y5] [] (K s) ((some (.int w.1)), (K w.2)) := by
  unfold f_addTuple_59 at hr
  refine Ev.iloadN (d18 31 rfl) rfl ?_
  refine Ev.bipush (z := 16) (d18 32 rfl) rfl ?_
  refine Ev.imul (d18 33 rfl) ?_
  refine Ev.istD (L' := [.val (.ref o), .val (.int x1), .val (.int x2), .val (.int x3), .val (.int (x1 * (16 : Int32))), y5]) (d18 34 rfl) rfl hy4 rfl ?_
  refine Ev.aloadN (d18 35 rfl) rfl ?_
  refine Ev.gI V (ww hw 136 rfl) (d18 36 rfl) (j := 25) rfl rfl ?_
  refine Ev.iconst (z := 2) (d18 37 rfl) rfl ?_
  refine Ev.iclt (t := 81) (d18 38 rfl) rfl (fun c1 => ?_) (fun c1 => ?_)
  · replace hr := (if_pos c1).symm.trans hr
    exact e_addTuple_81 hw V  x3 (x1 * (16 : Int32)) s (.val (.int x1)) rfl (.val (.int x2)) rfl y5 hy5 _ hr
  · replace hr := (if_neg c1).symm.trans hr
    refine Ev.iload (d18 39 rfl) rfl ?_
    refine Ev.iloadN (d18 40 rfl) rfl ?_
    refine Ev.iconst (z := 4) (d18 41 rfl) rfl ?_
    refine Ev.imul (d18 42 rfl) ?_
    refine Ev.iadd (d18 43 rfl) ?_
    revert hr
    generalize ((x1 * (16 : Int32)) + (x2 * (4 : Int32))) = v2
    intro hr
    replace hr := (bnd_eq _ _).symm.trans hr
    refine Ev.istD (L' := [.val (.ref o), .val (.int x1), .val (.int x2), .val (.int x3), .val (.int v2), y5]) (d18 44 rfl) rfl rfl rfl ?_
    exact e_addTuple_81 hw V  x3 v2 s (.val (.int x1)) rfl (.val (.int x2)) rfl y5 hy5 _ hr
def f_addTuple_40 (n : Nat) (x1 : Int32) (x2 : Int32) (x3 : Int32) (s : St) : Option (Int32 × St) :=
  if (s.1 25) = (3 : Int32) then
    (f_validValue s x3).bind fun q2 =>
    if q2 = 0 then
      some ((-2 : Int32), s)
    else
      f_addTuple_59 n x1 x2 x3 s
  else
    f_addTuple_59 n x1 x2 x3 s
set_option maxRecDepth 100000 in
theorem e_addTuple_40 {g : GT} {n : Nat} (hw : HW g) {K : St → MHeap} {o : Nat} {r : Nat → Nat} (V : View (GG g) Ln K o r) (x1 : Int32) (x2 : Int32) (x3 : Int32) (s : St) (y4 : Slot) (hy4 : one1 y4 = true) (y5 : Slot) (hy5 : one1 y5 = true) (w : Int32 × St) (hr : f_addTuple_40 n x1 x2 x3 s = some w) : Ev (GG g) M_addTuple 40 [.val (.ref o), .val (.int x1), .val (.int x2), .val (.int x3), y4, y5] [] (K s) ((some (.int w.1)), (K w.2)) := by
  unfold f_addTuple_40 at hr
  refine Ev.aloadN (d18 21 rfl) rfl ?_
  refine Ev.gI V (ww hw 136 rfl) (d18 22 rfl) (j := 25) rfl rfl ?_
  refine Ev.iconst (z := 3) (d18 23 rfl) rfl ?_
  refine Ev.icne (t := 59) (d18 24 rfl) rfl (fun c1 => ?_) (fun c1 => ?_)
  · replace hr := (if_pos c1).symm.trans hr
    refine Ev.aloadN (d18 25 rfl) rfl ?_
    refine Ev.iloadN (d18 26 rfl) rfl ?_
    obtain ⟨q2, hq3, hr⟩ := Option.bind_eq_some_iff.mp hr
    refine Ev.priv (y := M_validValue) (args := [.int x3]) (rest := []) (gok hw) rfl nm_validValue (ww hw 118 rfl) (ww hw 119 rfl) (ww hw 120 rfl) (ww hw 121 rfl) (lenOf pd_validValue rfl) (d18 27 rfl) (V.2.1 s) (e_validValue hw V hq3) (by decide) (Nat.le_of_ble_eq_true rfl) rfl ?_
    refine Ev.ifne (t := 59) (d18 28 rfl) rfl (fun c4 => ?_) (fun c4 => ?_)
    · replace hr := (if_pos c4).symm.trans hr
      refine Ev.bipush (z := -2) (d18 29 rfl) rfl ?_
      cases hr
      exact Ev.ireturn rfl (d18 30 rfl)
    · replace hr := (if_neg c4).symm.trans hr
      exact e_addTuple_59 hw V  x1 x2 x3 s y4 hy4 y5 hy5 _ hr
  · replace hr := (if_neg c1).symm.trans hr
    exact e_addTuple_59 hw V  x1 x2 x3 s y4 hy4 y5 hy5 _ hr
def f_addTuple (n : Nat) (a0 : Int32) (a1 : Int32) (a2 : Int32) (s : St) : Option (Int32 × St) :=
  if (s.1 24) = 0 then
    some ((-4 : Int32), s)
  else
    (f_validValue s a0).bind fun q2 =>
    if q2 = 0 then
      some ((-2 : Int32), s)
    else
      if (s.1 25) < (2 : Int32) then
        f_addTuple_40 n a0 a1 a2 s
      else
        (f_validValue s a1).bind fun q6 =>
        if q6 = 0 then
          some ((-2 : Int32), s)
        else
          f_addTuple_40 n a0 a1 a2 s
set_option maxRecDepth 100000 in
theorem e_addTuple {g : GT} {n : Nat} {a0 : Int32} {a1 : Int32} {a2 : Int32} {s : St} {w : Int32 × St} (hw : HW g) {K : St → MHeap} {o : Nat} {r : Nat → Nat} (V : View (GG g) Ln K o r) (hr : f_addTuple n a0 a1 a2 s = some w) : EvC (GG g) M_addTuple [.ref o, .int a0, .int a1, .int a2] (K s) ((some (.int w.1)), (K w.2)) := by
  refine EvC.enter (L0 := [.val (.ref o), .val (.int a0), .val (.int a1), .val (.int a2), .unset, .unset]) pl_addTuple (fun h => nomatch h) rfl rfl ?_
  unfold f_addTuple at hr
  refine Ev.aloadN (d18 0 rfl) rfl ?_
  refine Ev.gI V (ww hw 67 rfl) (d18 1 rfl) (j := 24) rfl rfl ?_
  refine Ev.ifne (t := 10) (d18 2 rfl) rfl (fun c1 => ?_) (fun c1 => ?_)
  · replace hr := (if_pos c1).symm.trans hr
    refine Ev.bipush (z := -4) (d18 3 rfl) rfl ?_
    cases hr
    exact Ev.ireturn rfl (d18 4 rfl)
  · replace hr := (if_neg c1).symm.trans hr
    refine Ev.aloadN (d18 5 rfl) rfl ?_
    refine Ev.iloadN (d18 6 rfl) rfl ?_
    obtain ⟨q2, hq3, hr⟩ := Option.bind_eq_some_iff.mp hr
    refine Ev.priv (y := M_validValue) (args := [.int a0]) (rest := []) (gok hw) rfl nm_validValue (ww hw 118 rfl) (ww hw 119 rfl) (ww hw 120 rfl) (ww hw 121 rfl) (lenOf pd_validValue rfl) (d18 7 rfl) (V.2.1 s) (e_validValue hw V hq3) (by decide) (Nat.le_of_ble_eq_true rfl) rfl ?_
    refine Ev.ifne (t := 21) (d18 8 rfl) rfl (fun c4 => ?_) (fun c4 => ?_)
    · replace hr := (if_pos c4).symm.trans hr
      refine Ev.bipush (z := -2) (d18 9 rfl) rfl ?_
      cases hr
      exact Ev.ireturn rfl (d18 10 rfl)
    · replace hr := (if_neg c4).symm.trans hr
      refine Ev.aloadN (d18 11 rfl) rfl ?_
      refine Ev.gI V (ww hw 136 rfl) (d18 12 rfl) (j := 25) rfl rfl ?_
      refine Ev.iconst (z := 2) (d18 13 rfl) rfl ?_
      refine Ev.iclt (t := 40) (d18 14 rfl) rfl (fun c5 => ?_) (fun c5 => ?_)
      · replace hr := (if_pos c5).symm.trans hr
        exact e_addTuple_40 hw V  a0 a1 a2 s .unset rfl .unset rfl _ hr
      · replace hr := (if_neg c5).symm.trans hr
        refine Ev.aloadN (d18 15 rfl) rfl ?_
        refine Ev.iloadN (d18 16 rfl) rfl ?_
        obtain ⟨q6, hq7, hr⟩ := Option.bind_eq_some_iff.mp hr
        refine Ev.priv (y := M_validValue) (args := [.int a1]) (rest := []) (gok hw) rfl nm_validValue (ww hw 118 rfl) (ww hw 119 rfl) (ww hw 120 rfl) (ww hw 121 rfl) (lenOf pd_validValue rfl) (d18 17 rfl) (V.2.1 s) (e_validValue hw V hq7) (by decide) (Nat.le_of_ble_eq_true rfl) rfl ?_
        refine Ev.ifne (t := 40) (d18 18 rfl) rfl (fun c8 => ?_) (fun c8 => ?_)
        · replace hr := (if_pos c8).symm.trans hr
          refine Ev.bipush (z := -2) (d18 19 rfl) rfl ?_
          cases hr
          exact Ev.ireturn rfl (d18 20 rfl)
        · replace hr := (if_neg c8).symm.trans hr
          exact e_addTuple_40 hw V  a0 a1 a2 s .unset rfl .unset rfl _ hr
def f_ensureRoom (s : St) : Option (Unit) :=
  if (2048 : Int32) < ((s.1 22) + (512 : Int32)) then
    none
  else
    some ()
set_option maxRecDepth 100000 in
theorem e_ensureRoom {g : GT} {s : St} {w : Unit} (hw : HW g) {K : St → MHeap} {o : Nat} {r : Nat → Nat} (V : View (GG g) Ln K o r) (hr : f_ensureRoom s = some w) : EvC (GG g) M_ensureRoom [.ref o] (K s) (none, (K s)) := by
  refine EvC.enter (L0 := [.val (.ref o)]) pl_ensureRoom (fun _ => rfl) rfl rfl ?_
  unfold f_ensureRoom at hr
  refine Ev.aloadN (d21 0 rfl) rfl ?_
  refine Ev.gI V (ww hw 59 rfl) (d21 1 rfl) (j := 22) rfl rfl ?_
  refine Ev.sipush (z := 512) (d21 2 rfl) rfl ?_
  refine Ev.iadd (d21 3 rfl) ?_
  refine Ev.sipush (z := 2048) (d21 4 rfl) rfl ?_
  refine Ev.icgt (t := 15) (d21 5 rfl) rfl (fun c1 => ?_) (fun c1 => ?_)
  · replace hr := (if_pos c1).symm.trans hr
    refine Ev.aloadN (d21 7 rfl) rfl ?_
    cases hr
  · replace hr := (if_neg c1).symm.trans hr
    cases hr
    exact Ev.vreturn rfl (d21 6 rfl)
def f_pow_4 (n : Nat) (s : St) : Nat → Int32 → Int32 → Int32 → Option (Int32)
  | 0 => fun _ _ _ => none
  | k + 1 => fun x1 x2 x3 =>
    if x3 < x1 then
      if x3 < (5 : Int32) then
        f_pow_4 n s k x1 (x2 * (s.1 21)) (x3 + (1 : Int32))
      else
        some x2
    else
      some x2
set_option maxRecDepth 100000 in
theorem e_pow_4 {g : GT} {n : Nat} {s : St} (hw : HW g) {K : St → MHeap} {o : Nat} {r : Nat → Nat} (V : View (GG g) Ln K o r) (k : Nat) : ∀ (x1 : Int32) (x2 : Int32) (x3 : Int32) (w : Int32), f_pow_4 n s k x1 x2 x3 = some w → Ev (GG g) M_pow 4 [.val (.ref o), .val (.int x1), .val (.int x2), .val (.int x3)] [] (K s) ((some (.int w)), (K s)) := by
  induction k with
  | zero => intro x1 x2 x3 w hr; rw [f_pow_4] at hr; cases hr
  | succ k ih =>
    intro x1 x2 x3 w hr
    rw [f_pow_4] at hr
    refine Ev.iloadN (d23 4 rfl) rfl ?_
    refine Ev.iloadN (d23 5 rfl) rfl ?_
    refine Ev.icge (t := 27) (d23 6 rfl) rfl (fun c1 => ?_) (fun c1 => ?_)
    · replace hr := (if_pos c1).symm.trans hr
      refine Ev.iloadN (d23 7 rfl) rfl ?_
      refine Ev.iconst (z := 5) (d23 8 rfl) rfl ?_
      refine Ev.icge (t := 27) (d23 9 rfl) rfl (fun c2 => ?_) (fun c2 => ?_)
      · replace hr := (if_pos c2).symm.trans hr
        refine Ev.iloadN (d23 10 rfl) rfl ?_
        refine Ev.aloadN (d23 11 rfl) rfl ?_
        refine Ev.gI V (ww hw 57 rfl) (d23 12 rfl) (j := 21) rfl rfl ?_
        refine Ev.imul (d23 13 rfl) ?_
        refine Ev.istDN (L' := [.val (.ref o), .val (.int x1), .val (.int (x2 * (s.1 21))), .val (.int x3)]) (d23 14 rfl) rfl rfl rfl ?_
        refine Ev.iinc (z := 1) (L' := [.val (.ref o), .val (.int x1), .val (.int (x2 * (s.1 21))), .val (.int (x3 + (1 : Int32)))]) (d23 15 rfl) rfl rfl rfl ?_
        refine Ev.goto (t := 4) (d23 16 rfl) rfl ?_
        exact ih x1 (x2 * (s.1 21)) (x3 + (1 : Int32))  _ hr
      · replace hr := (if_neg c2).symm.trans hr
        refine Ev.iloadN (d23 17 rfl) rfl ?_
        cases hr
        exact Ev.ireturn rfl (d23 18 rfl)
    · replace hr := (if_neg c1).symm.trans hr
      refine Ev.iloadN (d23 17 rfl) rfl ?_
      cases hr
      exact Ev.ireturn rfl (d23 18 rfl)
def f_pow (n : Nat) (s : St) (a0 : Int32) : Option (Int32) :=
  f_pow_4 n s n a0 (1 : Int32) (0 : Int32)
set_option maxRecDepth 100000 in
theorem e_pow {g : GT} {n : Nat} {s : St} {a0 : Int32} {w : Int32} (hw : HW g) {K : St → MHeap} {o : Nat} {r : Nat → Nat} (V : View (GG g) Ln K o r) (hr : f_pow n s a0 = some w) : EvC (GG g) M_pow [.ref o, .int a0] (K s) ((some (.int w)), (K s)) := by
  refine EvC.enter (L0 := [.val (.ref o), .val (.int a0), .unset, .unset]) pl_pow (fun h => nomatch h) rfl rfl ?_
  unfold f_pow at hr
  refine Ev.iconst (z := 1) (d23 0 rfl) rfl ?_
  refine Ev.istDN (L' := [.val (.ref o), .val (.int a0), .val (.int (1 : Int32)), .unset]) (d23 1 rfl) rfl rfl rfl ?_
  refine Ev.iconst (z := 0) (d23 2 rfl) rfl ?_
  refine Ev.istDN (L' := [.val (.ref o), .val (.int a0), .val (.int (1 : Int32)), .val (.int (0 : Int32))]) (d23 3 rfl) rfl rfl rfl ?_
  exact e_pow_4 hw V  n a0 (1 : Int32) (0 : Int32)  _ hr
def f_decode_9 (n : Nat) : Nat → Int32 → Int32 → St → Option (St)
  | 0 => fun _ _ _ => none
  | k + 1 => fun x2 x3 s =>
    if x3 < 0 then
      some s
    else
      grd ((s.1 21) ≠ 0) <|
      grd (inb x3 5) <|
      bnd (setA s 4 (ix x3) (x2 % (s.1 21))) fun s4 =>
      grd ((s4.1 21) ≠ 0) <|
      f_decode_9 n k (x2 / (s4.1 21)) (x3 + (-1 : Int32)) s4
set_option maxRecDepth 100000 in
theorem e_decode_9 {g : GT} {n : Nat} (hw : HW g) {K : St → MHeap} {o : Nat} {r : Nat → Nat} (V : View (GG g) Ln K o r) (k : Nat) : ∀ (x2 : Int32) (x3 : Int32) (s : St) (y1 : Slot) (hy1 : one1 y1 = true) (w : St), f_decode_9 n k x2 x3 s = some w → Ev (GG g) M_decode 9 [.val (.ref o), y1, .val (.int x2), .val (.int x3)] [] (K s) (none, (K w)) := by
  induction k with
  | zero => intro x2 x3 s y1 hy1 w hr; rw [f_decode_9] at hr; cases hr
  | succ k ih =>
    intro x2 x3 s y1 hy1 w hr
    rw [f_decode_9] at hr
    refine Ev.iloadN (d24 7 rfl) rfl ?_
    refine Ev.iflt (t := 38) (d24 8 rfl) rfl (fun c1 => ?_) (fun c1 => ?_)
    · replace hr := (if_pos c1).symm.trans hr
      cases hr
      exact Ev.vreturn rfl (d24 24 rfl)
    · replace hr := (if_neg c1).symm.trans hr
      refine Ev.aloadN (d24 9 rfl) rfl ?_
      refine Ev.gAr V (ww hw 22 rfl) (d24 10 rfl) (j := 4) rfl ?_
      refine Ev.iloadN (d24 11 rfl) rfl ?_
      refine Ev.iloadN (d24 12 rfl) rfl ?_
      refine Ev.aloadN (d24 13 rfl) rfl ?_
      refine Ev.gI V (ww hw 57 rfl) (d24 14 rfl) (j := 21) rfl rfl ?_
      obtain ⟨c2, hr⟩ := grd_some hr
      refine Ev.irem (d24 15 rfl) c2 ?_
      obtain ⟨b3, hr⟩ := grd_some hr
      refine Ev.ias V (j := 4) rfl rfl (d24 16 rfl) b3 ?_
      revert hr
      generalize setA s 4 (ix x3) (x2 % (s.1 21)) = s4
      intro hr
      replace hr := (bnd_eq _ _).symm.trans hr
      refine Ev.iloadN (d24 17 rfl) rfl ?_
      refine Ev.aloadN (d24 18 rfl) rfl ?_
      refine Ev.gI V (ww hw 57 rfl) (d24 19 rfl) (j := 21) rfl rfl ?_
      obtain ⟨c5, hr⟩ := grd_some hr
      refine Ev.idiv (d24 20 rfl) c5 ?_
      refine Ev.istDN (L' := [.val (.ref o), y1, .val (.int (x2 / (s4.1 21))), .val (.int x3)]) (d24 21 rfl) rfl rfl rfl ?_
      refine Ev.iinc (z := -1) (L' := [.val (.ref o), y1, .val (.int (x2 / (s4.1 21))), .val (.int (x3 + (-1 : Int32)))]) (d24 22 rfl) rfl rfl rfl ?_
      refine Ev.goto (t := 9) (d24 23 rfl) rfl ?_
      exact ih (x2 / (s4.1 21)) (x3 + (-1 : Int32)) s4 y1 hy1 _ hr
def f_decode (n : Nat) (a0 : Int32) (s : St) : Option (St) :=
  f_decode_9 n n a0 ((s.1 20) - (1 : Int32)) s
set_option maxRecDepth 100000 in
theorem e_decode {g : GT} {n : Nat} {a0 : Int32} {s : St} {w : St} (hw : HW g) {K : St → MHeap} {o : Nat} {r : Nat → Nat} (V : View (GG g) Ln K o r) (hr : f_decode n a0 s = some w) : EvC (GG g) M_decode [.ref o, .int a0] (K s) (none, (K w)) := by
  refine EvC.enter (L0 := [.val (.ref o), .val (.int a0), .unset, .unset]) pl_decode (fun _ => rfl) rfl rfl ?_
  unfold f_decode at hr
  refine Ev.iloadN (d24 0 rfl) rfl ?_
  refine Ev.istDN (L' := [.val (.ref o), .val (.int a0), .val (.int a0), .unset]) (d24 1 rfl) rfl rfl rfl ?_
  refine Ev.aloadN (d24 2 rfl) rfl ?_
  refine Ev.gI V (ww hw 55 rfl) (d24 3 rfl) (j := 20) rfl rfl ?_
  refine Ev.iconst (z := 1) (d24 4 rfl) rfl ?_
  refine Ev.isub (d24 5 rfl) ?_
  refine Ev.istDN (L' := [.val (.ref o), .val (.int a0), .val (.int a0), .val (.int ((s.1 20) - (1 : Int32)))]) (d24 6 rfl) rfl rfl rfl ?_
  exact e_decode_9 hw V  n a0 ((s.1 20) - (1 : Int32)) s (.val (.int a0)) rfl _ hr
def f_scopeCode_35 (s : St) (x1 : Int32) : Option (Int32) :=
  if (s.1 25) = (3 : Int32) then
    grd (inb (s.1 28) 5) <|
    some (x1 + (s.2 4 (ix (s.1 28))))
  else
    some x1
set_option maxRecDepth 100000 in
theorem e_scopeCode_35 {g : GT} {s : St} (hw : HW g) {K : St → MHeap} {o : Nat} {r : Nat → Nat} (V : View (GG g) Ln K o r) (x1 : Int32) (w : Int32) (hr : f_scopeCode_35 s x1 = some w) : Ev (GG g) M_scopeCode 35 [.val (.ref o), .val (.int x1)] [] (K s) ((some (.int w)), (K s)) := by
  unfold f_scopeCode_35 at hr
  refine Ev.aloadN (d25 22 rfl) rfl ?_
  refine Ev.gI V (ww hw 136 rfl) (d25 23 rfl) (j := 25) rfl rfl ?_
  refine Ev.iconst (z := 3) (d25 24 rfl) rfl ?_
  refine Ev.icne (t := 55) (d25 25 rfl) rfl (fun c1 => ?_) (fun c1 => ?_)
  · replace hr := (if_pos c1).symm.trans hr
    refine Ev.iloadN (d25 26 rfl) rfl ?_
    refine Ev.aloadN (d25 27 rfl) rfl ?_
    refine Ev.gAr V (ww hw 22 rfl) (d25 28 rfl) (j := 4) rfl ?_
    refine Ev.aloadN (d25 29 rfl) rfl ?_
    refine Ev.gI V (ww hw 142 rfl) (d25 30 rfl) (j := 28) rfl rfl ?_
    obtain ⟨b2, hr⟩ := grd_some hr
    refine Ev.ial V (j := 4) rfl rfl (d25 31 rfl) b2 ?_
    refine Ev.iadd (d25 32 rfl) ?_
    refine Ev.istDN (L' := [.val (.ref o), .val (.int (x1 + (s.2 4 (ix (s.1 28)))))]) (d25 33 rfl) rfl rfl rfl ?_
    refine Ev.iloadN (d25 34 rfl) rfl ?_
    cases hr
    exact Ev.ireturn rfl (d25 35 rfl)
  · replace hr := (if_neg c1).symm.trans hr
    refine Ev.iloadN (d25 34 rfl) rfl ?_
    cases hr
    exact Ev.ireturn rfl (d25 35 rfl)
def f_scopeCode (s : St) : Option (Int32) :=
  grd (inb (s.1 26) 5) <|
  if (s.1 25) < (2 : Int32) then
    f_scopeCode_35 s ((s.2 4 (ix (s.1 26))) * (16 : Int32))
  else
    grd (inb (s.1 27) 5) <|
    bnd (((s.2 4 (ix (s.1 26))) * (16 : Int32)) + ((s.2 4 (ix (s.1 27))) * (4 : Int32))) fun v4 =>
    f_scopeCode_35 s v4
set_option maxRecDepth 100000 in
theorem e_scopeCode {g : GT} {s : St} {w : Int32} (hw : HW g) {K : St → MHeap} {o : Nat} {r : Nat → Nat} (V : View (GG g) Ln K o r) (hr : f_scopeCode s = some w) : EvC (GG g) M_scopeCode [.ref o] (K s) ((some (.int w)), (K s)) := by
  refine EvC.enter (L0 := [.val (.ref o), .unset]) pl_scopeCode (fun h => nomatch h) rfl rfl ?_
  unfold f_scopeCode at hr
  refine Ev.aloadN (d25 0 rfl) rfl ?_
  refine Ev.gAr V (ww hw 22 rfl) (d25 1 rfl) (j := 4) rfl ?_
  refine Ev.aloadN (d25 2 rfl) rfl ?_
  refine Ev.gI V (ww hw 138 rfl) (d25 3 rfl) (j := 26) rfl rfl ?_
  obtain ⟨b1, hr⟩ := grd_some hr
  refine Ev.ial V (j := 4) rfl rfl (d25 4 rfl) b1 ?_
  refine Ev.bipush (z := 16) (d25 5 rfl) rfl ?_
  refine Ev.imul (d25 6 rfl) ?_
  refine Ev.istDN (L' := [.val (.ref o), .val (.int ((s.2 4 (ix (s.1 26))) * (16 : Int32)))]) (d25 7 rfl) rfl rfl rfl ?_
  refine Ev.aloadN (d25 8 rfl) rfl ?_
  refine Ev.gI V (ww hw 136 rfl) (d25 9 rfl) (j := 25) rfl rfl ?_
  refine Ev.iconst (z := 2) (d25 10 rfl) rfl ?_
  refine Ev.iclt (t := 35) (d25 11 rfl) rfl (fun c2 => ?_) (fun c2 => ?_)
  · replace hr := (if_pos c2).symm.trans hr
    exact e_scopeCode_35 hw V  ((s.2 4 (ix (s.1 26))) * (16 : Int32))  _ hr
  · replace hr := (if_neg c2).symm.trans hr
    refine Ev.iloadN (d25 12 rfl) rfl ?_
    refine Ev.aloadN (d25 13 rfl) rfl ?_
    refine Ev.gAr V (ww hw 22 rfl) (d25 14 rfl) (j := 4) rfl ?_
    refine Ev.aloadN (d25 15 rfl) rfl ?_
    refine Ev.gI V (ww hw 140 rfl) (d25 16 rfl) (j := 27) rfl rfl ?_
    obtain ⟨b3, hr⟩ := grd_some hr
    refine Ev.ial V (j := 4) rfl rfl (d25 17 rfl) b3 ?_
    refine Ev.iconst (z := 4) (d25 18 rfl) rfl ?_
    refine Ev.imul (d25 19 rfl) ?_
    refine Ev.iadd (d25 20 rfl) ?_
    revert hr
    generalize (((s.2 4 (ix (s.1 26))) * (16 : Int32)) + ((s.2 4 (ix (s.1 27))) * (4 : Int32))) = v4
    intro hr
    replace hr := (bnd_eq _ _).symm.trans hr
    refine Ev.istDN (L' := [.val (.ref o), .val (.int v4)]) (d25 21 rfl) rfl rfl rfl ?_
    exact e_scopeCode_35 hw V  v4  _ hr
def f_hashOf (s : St) (a0 : Int32) (a1 : Int32) (a2 : Int32) (a3 : Int32) (a4 : Int32) : Option (Int32) :=
  bnd ((((a0 * (31 : Int32)) + a1) * (1000003 : Int32)) + a2) fun v1 =>
  bnd ((((v1 * (1000003 : Int32)) + a3) * (1000003 : Int32)) + a4) fun v2 =>
  bnd ((v2 ^^^ (XT.ushr v2 (13 : Int32))) * (668265261 : Int32)) fun v3 =>
  some ((v3 ^^^ (XT.ushr v3 (15 : Int32))) &&& (4095 : Int32))
set_option maxRecDepth 100000 in
theorem e_hashOf {g : GT} {s : St} {a0 : Int32} {a1 : Int32} {a2 : Int32} {a3 : Int32} {a4 : Int32} {w : Int32} (hw : HW g) {K : St → MHeap} {o : Nat} {r : Nat → Nat} (V : View (GG g) Ln K o r) (hr : f_hashOf s a0 a1 a2 a3 a4 = some w) : EvC (GG g) M_hashOf [.ref o, .int a0, .int a1, .int a2, .int a3, .int a4] (K s) ((some (.int w)), (K s)) := by
  refine EvC.enter (L0 := [.val (.ref o), .val (.int a0), .val (.int a1), .val (.int a2), .val (.int a3), .val (.int a4), .unset]) pl_hashOf (fun h => nomatch h) rfl rfl ?_
  unfold f_hashOf at hr
  refine Ev.iloadN (d36 0 rfl) rfl ?_
  refine Ev.bipush (z := 31) (d36 1 rfl) rfl ?_
  refine Ev.imul (d36 2 rfl) ?_
  refine Ev.iloadN (d36 3 rfl) rfl ?_
  refine Ev.iadd (d36 4 rfl) ?_
  refine Ev.istD (L' := [.val (.ref o), .val (.int a0), .val (.int a1), .val (.int a2), .val (.int a3), .val (.int a4), .val (.int ((a0 * (31 : Int32)) + a1))]) (d36 5 rfl) rfl rfl rfl ?_
  refine Ev.iload (d36 6 rfl) rfl ?_
  refine Ev.ldc (ww hw 227 rfl) (d36 7 rfl) ?_
  refine Ev.imul (d36 8 rfl) ?_
  refine Ev.iloadN (d36 9 rfl) rfl ?_
  refine Ev.iadd (d36 10 rfl) ?_
  revert hr
  generalize ((((a0 * (31 : Int32)) + a1) * (1000003 : Int32)) + a2) = v1
  intro hr
  replace hr := (bnd_eq _ _).symm.trans hr
  refine Ev.istD (L' := [.val (.ref o), .val (.int a0), .val (.int a1), .val (.int a2), .val (.int a3), .val (.int a4), .val (.int v1)]) (d36 11 rfl) rfl rfl rfl ?_
  refine Ev.iload (d36 12 rfl) rfl ?_
  refine Ev.ldc (ww hw 227 rfl) (d36 13 rfl) ?_
  refine Ev.imul (d36 14 rfl) ?_
  refine Ev.iload (d36 15 rfl) rfl ?_
  refine Ev.iadd (d36 16 rfl) ?_
  refine Ev.istD (L' := [.val (.ref o), .val (.int a0), .val (.int a1), .val (.int a2), .val (.int a3), .val (.int a4), .val (.int ((v1 * (1000003 : Int32)) + a3))]) (d36 17 rfl) rfl rfl rfl ?_
  refine Ev.iload (d36 18 rfl) rfl ?_
  refine Ev.ldc (ww hw 227 rfl) (d36 19 rfl) ?_
  refine Ev.imul (d36 20 rfl) ?_
  refine Ev.iload (d36 21 rfl) rfl ?_
  refine Ev.iadd (d36 22 rfl) ?_
  revert hr
  generalize ((((v1 * (1000003 : Int32)) + a3) * (1000003 : Int32)) + a4) = v2
  intro hr
  replace hr := (bnd_eq _ _).symm.trans hr
  refine Ev.istD (L' := [.val (.ref o), .val (.int a0), .val (.int a1), .val (.int a2), .val (.int a3), .val (.int a4), .val (.int v2)]) (d36 23 rfl) rfl rfl rfl ?_
  refine Ev.iload (d36 24 rfl) rfl ?_
  refine Ev.iload (d36 25 rfl) rfl ?_
  refine Ev.bipush (z := 13) (d36 26 rfl) rfl ?_
  refine Ev.iushr (d36 27 rfl) ?_
  refine Ev.ixor (d36 28 rfl) ?_
  refine Ev.istD (L' := [.val (.ref o), .val (.int a0), .val (.int a1), .val (.int a2), .val (.int a3), .val (.int a4), .val (.int (v2 ^^^ (XT.ushr v2 (13 : Int32))))]) (d36 29 rfl) rfl rfl rfl ?_
  refine Ev.iload (d36 30 rfl) rfl ?_
  refine Ev.ldc (ww hw 228 rfl) (d36 31 rfl) ?_
  refine Ev.imul (d36 32 rfl) ?_
  revert hr
  generalize ((v2 ^^^ (XT.ushr v2 (13 : Int32))) * (668265261 : Int32)) = v3
  intro hr
  replace hr := (bnd_eq _ _).symm.trans hr
  refine Ev.istD (L' := [.val (.ref o), .val (.int a0), .val (.int a1), .val (.int a2), .val (.int a3), .val (.int a4), .val (.int v3)]) (d36 33 rfl) rfl rfl rfl ?_
  refine Ev.iload (d36 34 rfl) rfl ?_
  refine Ev.iload (d36 35 rfl) rfl ?_
  refine Ev.bipush (z := 15) (d36 36 rfl) rfl ?_
  refine Ev.iushr (d36 37 rfl) ?_
  refine Ev.ixor (d36 38 rfl) ?_
  refine Ev.istD (L' := [.val (.ref o), .val (.int a0), .val (.int a1), .val (.int a2), .val (.int a3), .val (.int a4), .val (.int (v3 ^^^ (XT.ushr v3 (15 : Int32))))]) (d36 39 rfl) rfl rfl rfl ?_
  refine Ev.iload (d36 40 rfl) rfl ?_
  refine Ev.sipush (z := 4095) (d36 41 rfl) rfl ?_
  refine Ev.iand (d36 42 rfl) ?_
  cases hr
  exact Ev.ireturn rfl (d36 43 rfl)
def f_newNode (a0 : Int32) (a1 : Int32) (a2 : Int32) (a3 : Int32) (a4 : Int32) (a5 : Int32) (s : St) : Option (Int32 × St) :=
  if (s.1 22) < (2048 : Int32) then
    bnd (setI s 22 ((s.1 22) + (1 : Int32))) fun s2 =>
    grd (inb (s.1 22) 2048) <|
    bnd (setA s2 5 (ix (s.1 22)) a1) fun s4 =>
    grd (inb ((s.1 22) * (4 : Int32)) 8192) <|
    bnd (setA s4 6 (ix ((s.1 22) * (4 : Int32))) a2) fun s6 =>
    grd (inb (((s.1 22) * (4 : Int32)) + (1 : Int32)) 8192) <|
    bnd (setA s6 6 (ix (((s.1 22) * (4 : Int32)) + (1 : Int32))) a3) fun s8 =>
    grd (inb (((s.1 22) * (4 : Int32)) + (2 : Int32)) 8192) <|
    bnd (setA s8 6 (ix (((s.1 22) * (4 : Int32)) + (2 : Int32))) a4) fun s10 =>
    grd (inb (((s.1 22) * (4 : Int32)) + (3 : Int32)) 8192) <|
    bnd (setA s10 6 (ix (((s.1 22) * (4 : Int32)) + (3 : Int32))) a5) fun s12 =>
    grd (inb a0 4096) <|
    bnd (setA s12 7 (ix a0) (s.1 22)) fun s14 =>
    some ((s.1 22), s14)
  else
    some ((0 : Int32), s)
set_option maxRecDepth 100000 in
theorem e_newNode {g : GT} {a0 : Int32} {a1 : Int32} {a2 : Int32} {a3 : Int32} {a4 : Int32} {a5 : Int32} {s : St} {w : Int32 × St} (hw : HW g) {K : St → MHeap} {o : Nat} {r : Nat → Nat} (V : View (GG g) Ln K o r) (hr : f_newNode a0 a1 a2 a3 a4 a5 s = some w) : EvC (GG g) M_newNode [.ref o, .int a0, .int a1, .int a2, .int a3, .int a4, .int a5] (K s) ((some (.int w.1)), (K w.2)) := by
  refine EvC.enter (L0 := [.val (.ref o), .val (.int a0), .val (.int a1), .val (.int a2), .val (.int a3), .val (.int a4), .val (.int a5), .unset, .unset]) pl_newNode (fun h => nomatch h) rfl rfl ?_
  unfold f_newNode at hr
  refine Ev.aloadN (d37 0 rfl) rfl ?_
  refine Ev.gI V (ww hw 59 rfl) (d37 1 rfl) (j := 22) rfl rfl ?_
  refine Ev.sipush (z := 2048) (d37 2 rfl) rfl ?_
  refine Ev.iclt (t := 12) (d37 3 rfl) rfl (fun c1 => ?_) (fun c1 => ?_)
  · replace hr := (if_pos c1).symm.trans hr
    refine Ev.aloadN (d37 6 rfl) rfl ?_
    refine Ev.gI V (ww hw 59 rfl) (d37 7 rfl) (j := 22) rfl rfl ?_
    refine Ev.istD (L' := [.val (.ref o), .val (.int a0), .val (.int a1), .val (.int a2), .val (.int a3), .val (.int a4), .val (.int a5), .val (.int (s.1 22)), .unset]) (d37 8 rfl) rfl rfl rfl ?_
    refine Ev.aloadN (d37 9 rfl) rfl ?_
    refine Ev.dup (d37 10 rfl) rfl ?_
    refine Ev.gI V (ww hw 59 rfl) (d37 11 rfl) (j := 22) rfl rfl ?_
    refine Ev.iconst (z := 1) (d37 12 rfl) rfl ?_
    refine Ev.iadd (d37 13 rfl) ?_
    refine Ev.pI V (gok hw) (ww hw 59 rfl) (Or.inl (ww hw 60 rfl)) (d37 14 rfl) (j := 22) rfl ?_
    revert hr
    generalize setI s 22 ((s.1 22) + (1 : Int32)) = s2
    intro hr
    replace hr := (bnd_eq _ _).symm.trans hr
    refine Ev.aloadN (d37 15 rfl) rfl ?_
    refine Ev.gAr V (ww hw 24 rfl) (d37 16 rfl) (j := 5) rfl ?_
    refine Ev.iload (d37 17 rfl) rfl ?_
    refine Ev.iloadN (d37 18 rfl) rfl ?_
    obtain ⟨b3, hr⟩ := grd_some hr
    refine Ev.ias V (j := 5) rfl rfl (d37 19 rfl) b3 ?_
    revert hr
    generalize setA s2 5 (ix (s.1 22)) a1 = s4
    intro hr
    replace hr := (bnd_eq _ _).symm.trans hr
    refine Ev.iload (d37 20 rfl) rfl ?_
    refine Ev.iconst (z := 4) (d37 21 rfl) rfl ?_
    refine Ev.imul (d37 22 rfl) ?_
    refine Ev.istD (L' := [.val (.ref o), .val (.int a0), .val (.int a1), .val (.int a2), .val (.int a3), .val (.int a4), .val (.int a5), .val (.int (s.1 22)), .val (.int ((s.1 22) * (4 : Int32)))]) (d37 23 rfl) rfl rfl rfl ?_
    refine Ev.aloadN (d37 24 rfl) rfl ?_
    refine Ev.gAr V (ww hw 26 rfl) (d37 25 rfl) (j := 6) rfl ?_
    refine Ev.iload (d37 26 rfl) rfl ?_
    refine Ev.iloadN (d37 27 rfl) rfl ?_
    obtain ⟨b5, hr⟩ := grd_some hr
    refine Ev.ias V (j := 6) rfl rfl (d37 28 rfl) b5 ?_
    revert hr
    generalize setA s4 6 (ix ((s.1 22) * (4 : Int32))) a2 = s6
    intro hr
    replace hr := (bnd_eq _ _).symm.trans hr
    refine Ev.aloadN (d37 29 rfl) rfl ?_
    refine Ev.gAr V (ww hw 26 rfl) (d37 30 rfl) (j := 6) rfl ?_
    refine Ev.iload (d37 31 rfl) rfl ?_
    refine Ev.iconst (z := 1) (d37 32 rfl) rfl ?_
    refine Ev.iadd (d37 33 rfl) ?_
    refine Ev.iload (d37 34 rfl) rfl ?_
    obtain ⟨b7, hr⟩ := grd_some hr
    refine Ev.ias V (j := 6) rfl rfl (d37 35 rfl) b7 ?_
    revert hr
    generalize setA s6 6 (ix (((s.1 22) * (4 : Int32)) + (1 : Int32))) a3 = s8
    intro hr
    replace hr := (bnd_eq _ _).symm.trans hr
    refine Ev.aloadN (d37 36 rfl) rfl ?_
    refine Ev.gAr V (ww hw 26 rfl) (d37 37 rfl) (j := 6) rfl ?_
    refine Ev.iload (d37 38 rfl) rfl ?_
    refine Ev.iconst (z := 2) (d37 39 rfl) rfl ?_
    refine Ev.iadd (d37 40 rfl) ?_
    refine Ev.iload (d37 41 rfl) rfl ?_
    obtain ⟨b9, hr⟩ := grd_some hr
    refine Ev.ias V (j := 6) rfl rfl (d37 42 rfl) b9 ?_
    revert hr
    generalize setA s8 6 (ix (((s.1 22) * (4 : Int32)) + (2 : Int32))) a4 = s10
    intro hr
    replace hr := (bnd_eq _ _).symm.trans hr
    refine Ev.aloadN (d37 43 rfl) rfl ?_
    refine Ev.gAr V (ww hw 26 rfl) (d37 44 rfl) (j := 6) rfl ?_
    refine Ev.iload (d37 45 rfl) rfl ?_
    refine Ev.iconst (z := 3) (d37 46 rfl) rfl ?_
    refine Ev.iadd (d37 47 rfl) ?_
    refine Ev.iload (d37 48 rfl) rfl ?_
    obtain ⟨b11, hr⟩ := grd_some hr
    refine Ev.ias V (j := 6) rfl rfl (d37 49 rfl) b11 ?_
    revert hr
    generalize setA s10 6 (ix (((s.1 22) * (4 : Int32)) + (3 : Int32))) a5 = s12
    intro hr
    replace hr := (bnd_eq _ _).symm.trans hr
    refine Ev.aloadN (d37 50 rfl) rfl ?_
    refine Ev.gAr V (ww hw 28 rfl) (d37 51 rfl) (j := 7) rfl ?_
    refine Ev.iloadN (d37 52 rfl) rfl ?_
    refine Ev.iload (d37 53 rfl) rfl ?_
    obtain ⟨b13, hr⟩ := grd_some hr
    refine Ev.ias V (j := 7) rfl rfl (d37 54 rfl) b13 ?_
    revert hr
    generalize setA s12 7 (ix a0) (s.1 22) = s14
    intro hr
    replace hr := (bnd_eq _ _).symm.trans hr
    refine Ev.iload (d37 55 rfl) rfl ?_
    cases hr
    exact Ev.ireturn rfl (d37 56 rfl)
  · replace hr := (if_neg c1).symm.trans hr
    refine Ev.iconst (z := 0) (d37 4 rfl) rfl ?_
    cases hr
    exact Ev.ireturn rfl (d37 5 rfl)
def f_sameNode (s : St) (a0 : Int32) (a1 : Int32) (a2 : Int32) (a3 : Int32) (a4 : Int32) (a5 : Int32) : Option (Int32) :=
  grd (inb a0 2048) <|
  if (s.2 5 (ix a0)) = a1 then
    grd (inb (a0 * (4 : Int32)) 8192) <|
    if (s.2 6 (ix (a0 * (4 : Int32)))) = a2 then
      grd (inb ((a0 * (4 : Int32)) + (1 : Int32)) 8192) <|
      if (s.2 6 (ix ((a0 * (4 : Int32)) + (1 : Int32)))) = a3 then
        grd (inb ((a0 * (4 : Int32)) + (2 : Int32)) 8192) <|
        if (s.2 6 (ix ((a0 * (4 : Int32)) + (2 : Int32)))) = a4 then
          grd (inb ((a0 * (4 : Int32)) + (3 : Int32)) 8192) <|
          if (s.2 6 (ix ((a0 * (4 : Int32)) + (3 : Int32)))) = a5 then
            some (1 : Int32)
          else
            some (0 : Int32)
        else
          some (0 : Int32)
      else
        some (0 : Int32)
    else
      some (0 : Int32)
  else
    some (0 : Int32)
set_option maxRecDepth 100000 in
theorem e_sameNode {g : GT} {s : St} {a0 : Int32} {a1 : Int32} {a2 : Int32} {a3 : Int32} {a4 : Int32} {a5 : Int32} {w : Int32} (hw : HW g) {K : St → MHeap} {o : Nat} {r : Nat → Nat} (V : View (GG g) Ln K o r) (hr : f_sameNode s a0 a1 a2 a3 a4 a5 = some w) : EvC (GG g) M_sameNode [.ref o, .int a0, .int a1, .int a2, .int a3, .int a4, .int a5] (K s) ((some (.int w)), (K s)) := by
  refine EvC.enter (L0 := [.val (.ref o), .val (.int a0), .val (.int a1), .val (.int a2), .val (.int a3), .val (.int a4), .val (.int a5), .unset]) pl_sameNode (fun h => nomatch h) rfl rfl ?_
  unfold f_sameNode at hr
  refine Ev.iloadN (d38 0 rfl) rfl ?_
  refine Ev.iconst (z := 4) (d38 1 rfl) rfl ?_
  refine Ev.imul (d38 2 rfl) ?_
  refine Ev.istD (L' := [.val (.ref o), .val (.int a0), .val (.int a1), .val (.int a2), .val (.int a3), .val (.int a4), .val (.int a5), .val (.int (a0 * (4 : Int32)))]) (d38 3 rfl) rfl rfl rfl ?_
  refine Ev.aloadN (d38 4 rfl) rfl ?_
  refine Ev.gAr V (ww hw 24 rfl) (d38 5 rfl) (j := 5) rfl ?_
  refine Ev.iloadN (d38 6 rfl) rfl ?_
  obtain ⟨b1, hr⟩ := grd_some hr
  refine Ev.ial V (j := 5) rfl rfl (d38 7 rfl) b1 ?_
  refine Ev.iloadN (d38 8 rfl) rfl ?_
  refine Ev.icne (t := 72) (d38 9 rfl) rfl (fun c2 => ?_) (fun c2 => ?_)
  · replace hr := (if_pos c2).symm.trans hr
    refine Ev.aloadN (d38 10 rfl) rfl ?_
    refine Ev.gAr V (ww hw 26 rfl) (d38 11 rfl) (j := 6) rfl ?_
    refine Ev.iload (d38 12 rfl) rfl ?_
    obtain ⟨b3, hr⟩ := grd_some hr
    refine Ev.ial V (j := 6) rfl rfl (d38 13 rfl) b3 ?_
    refine Ev.iloadN (d38 14 rfl) rfl ?_
    refine Ev.icne (t := 72) (d38 15 rfl) rfl (fun c4 => ?_) (fun c4 => ?_)
    · replace hr := (if_pos c4).symm.trans hr
      refine Ev.aloadN (d38 16 rfl) rfl ?_
      refine Ev.gAr V (ww hw 26 rfl) (d38 17 rfl) (j := 6) rfl ?_
      refine Ev.iload (d38 18 rfl) rfl ?_
      refine Ev.iconst (z := 1) (d38 19 rfl) rfl ?_
      refine Ev.iadd (d38 20 rfl) ?_
      obtain ⟨b5, hr⟩ := grd_some hr
      refine Ev.ial V (j := 6) rfl rfl (d38 21 rfl) b5 ?_
      refine Ev.iload (d38 22 rfl) rfl ?_
      refine Ev.icne (t := 72) (d38 23 rfl) rfl (fun c6 => ?_) (fun c6 => ?_)
      · replace hr := (if_pos c6).symm.trans hr
        refine Ev.aloadN (d38 24 rfl) rfl ?_
        refine Ev.gAr V (ww hw 26 rfl) (d38 25 rfl) (j := 6) rfl ?_
        refine Ev.iload (d38 26 rfl) rfl ?_
        refine Ev.iconst (z := 2) (d38 27 rfl) rfl ?_
        refine Ev.iadd (d38 28 rfl) ?_
        obtain ⟨b7, hr⟩ := grd_some hr
        refine Ev.ial V (j := 6) rfl rfl (d38 29 rfl) b7 ?_
        refine Ev.iload (d38 30 rfl) rfl ?_
        refine Ev.icne (t := 72) (d38 31 rfl) rfl (fun c8 => ?_) (fun c8 => ?_)
        · replace hr := (if_pos c8).symm.trans hr
          refine Ev.aloadN (d38 32 rfl) rfl ?_
          refine Ev.gAr V (ww hw 26 rfl) (d38 33 rfl) (j := 6) rfl ?_
          refine Ev.iload (d38 34 rfl) rfl ?_
          refine Ev.iconst (z := 3) (d38 35 rfl) rfl ?_
          refine Ev.iadd (d38 36 rfl) ?_
          obtain ⟨b9, hr⟩ := grd_some hr
          refine Ev.ial V (j := 6) rfl rfl (d38 37 rfl) b9 ?_
          refine Ev.iload (d38 38 rfl) rfl ?_
          refine Ev.icne (t := 72) (d38 39 rfl) rfl (fun c10 => ?_) (fun c10 => ?_)
          · replace hr := (if_pos c10).symm.trans hr
            refine Ev.iconst (z := 1) (d38 40 rfl) rfl ?_
            refine Ev.goto (t := 73) (d38 41 rfl) rfl ?_
            cases hr
            exact Ev.zret1 rfl (d38 43 rfl)
          · replace hr := (if_neg c10).symm.trans hr
            refine Ev.iconst (z := 0) (d38 42 rfl) rfl ?_
            cases hr
            exact Ev.zret0 rfl (d38 43 rfl)
        · replace hr := (if_neg c8).symm.trans hr
          refine Ev.iconst (z := 0) (d38 42 rfl) rfl ?_
          cases hr
          exact Ev.zret0 rfl (d38 43 rfl)
      · replace hr := (if_neg c6).symm.trans hr
        refine Ev.iconst (z := 0) (d38 42 rfl) rfl ?_
        cases hr
        exact Ev.zret0 rfl (d38 43 rfl)
    · replace hr := (if_neg c4).symm.trans hr
      refine Ev.iconst (z := 0) (d38 42 rfl) rfl ?_
      cases hr
      exact Ev.zret0 rfl (d38 43 rfl)
  · replace hr := (if_neg c2).symm.trans hr
    refine Ev.iconst (z := 0) (d38 42 rfl) rfl ?_
    cases hr
    exact Ev.zret0 rfl (d38 43 rfl)
def f_mk_63 (n : Nat) : Nat → Int32 → Int32 → Int32 → Int32 → Int32 → Int32 → Int32 → St → Option (Int32 × St)
  | 0 => fun _ _ _ _ _ _ _ _ => none
  | k + 1 => fun x1 x2 x3 x4 x5 x7 x8 s =>
    if x8 < (4096 : Int32) then
      grd (inb x7 4096) <|
      if (s.2 7 (ix x7)) = 0 then
        (f_newNode x7 x1 x2 x3 x4 x5 s).bind fun q4 =>
        some (q4.1, q4.2)
      else
        (f_sameNode s (s.2 7 (ix x7)) x1 x2 x3 x4 x5).bind fun q6 =>
        if q6 = 0 then
          f_mk_63 n k x1 x2 x3 x4 x5 ((x7 + (1 : Int32)) &&& (4095 : Int32)) (x8 + (1 : Int32)) s
        else
          some ((s.2 7 (ix x7)), s)
    else
      some ((0 : Int32), s)
set_option maxRecDepth 100000 in
theorem e_mk_63 {g : GT} {n : Nat} (hw : HW g) {K : St → MHeap} {o : Nat} {r : Nat → Nat} (V : View (GG g) Ln K o r) (k : Nat) : ∀ (x1 : Int32) (x2 : Int32) (x3 : Int32) (x4 : Int32) (x5 : Int32) (x7 : Int32) (x8 : Int32) (s : St) (y6 : Slot) (hy6 : one1 y6 = true) (y9 : Slot) (hy9 : one1 y9 = true) (w : Int32 × St), f_mk_63 n k x1 x2 x3 x4 x5 x7 x8 s = some w → Ev (GG g) M_mk 63 [.val (.ref o), .val (.int x1), .val (.int x2), .val (.int x3), .val (.int x4), .val (.int x5), y6, .val (.int x7), .val (.int x8), y9] [] (K s) ((some (.int w.1)), (K w.2)) := by
  induction k with
  | zero => intro x1 x2 x3 x4 x5 x7 x8 s y6 hy6 y9 hy9 w hr; rw [f_mk_63] at hr; cases hr
  | succ k ih =>
    intro x1 x2 x3 x4 x5 x7 x8 s y6 hy6 y9 hy9 w hr
    rw [f_mk_63] at hr
    refine Ev.iload (d27 35 rfl) rfl ?_
    refine Ev.sipush (z := 4096) (d27 36 rfl) rfl ?_
    refine Ev.icge (t := 134) (d27 37 rfl) rfl (fun c1 => ?_) (fun c1 => ?_)
    · replace hr := (if_pos c1).symm.trans hr
      refine Ev.aloadN (d27 38 rfl) rfl ?_
      refine Ev.gAr V (ww hw 28 rfl) (d27 39 rfl) (j := 7) rfl ?_
      refine Ev.iload (d27 40 rfl) rfl ?_
      obtain ⟨b2, hr⟩ := grd_some hr
      refine Ev.ial V (j := 7) rfl rfl (d27 41 rfl) b2 ?_
      refine Ev.istD (L' := [.val (.ref o), .val (.int x1), .val (.int x2), .val (.int x3), .val (.int x4), .val (.int x5), y6, .val (.int x7), .val (.int x8), .val (.int (s.2 7 (ix x7)))]) (d27 42 rfl) rfl hy9 rfl ?_
      refine Ev.iload (d27 43 rfl) rfl ?_
      refine Ev.ifne (t := 99) (d27 44 rfl) rfl (fun c3 => ?_) (fun c3 => ?_)
      · replace hr := (if_pos c3).symm.trans hr
        refine Ev.aloadN (d27 45 rfl) rfl ?_
        refine Ev.iload (d27 46 rfl) rfl ?_
        refine Ev.iloadN (d27 47 rfl) rfl ?_
        refine Ev.iloadN (d27 48 rfl) rfl ?_
        refine Ev.iloadN (d27 49 rfl) rfl ?_
        refine Ev.iload (d27 50 rfl) rfl ?_
        refine Ev.iload (d27 51 rfl) rfl ?_
        obtain ⟨q4, hq5, hr⟩ := Option.bind_eq_some_iff.mp hr
        refine Ev.priv (y := M_newNode) (args := [.int x7, .int x1, .int x2, .int x3, .int x4, .int x5]) (rest := []) (gok hw) rfl nm_newNode (ww hw 229 rfl) (ww hw 230 rfl) (ww hw 231 rfl) (ww hw 232 rfl) (lenOf pd_newNode rfl) (d27 52 rfl) (V.2.1 s) (e_newNode hw V hq5) (by decide) (Nat.le_of_ble_eq_true rfl) rfl ?_
        cases hr
        exact Ev.ireturn rfl (d27 53 rfl)
      · replace hr := (if_neg c3).symm.trans hr
        refine Ev.aloadN (d27 54 rfl) rfl ?_
        refine Ev.iload (d27 55 rfl) rfl ?_
        refine Ev.iloadN (d27 56 rfl) rfl ?_
        refine Ev.iloadN (d27 57 rfl) rfl ?_
        refine Ev.iloadN (d27 58 rfl) rfl ?_
        refine Ev.iload (d27 59 rfl) rfl ?_
        refine Ev.iload (d27 60 rfl) rfl ?_
        obtain ⟨q6, hq7, hr⟩ := Option.bind_eq_some_iff.mp hr
        refine Ev.priv (y := M_sameNode) (args := [.int (s.2 7 (ix x7)), .int x1, .int x2, .int x3, .int x4, .int x5]) (rest := []) (gok hw) rfl nm_sameNode (ww hw 233 rfl) (ww hw 234 rfl) (ww hw 235 rfl) (ww hw 236 rfl) (lenOf pd_sameNode rfl) (d27 61 rfl) (V.2.1 s) (e_sameNode hw V hq7) (by decide) (Nat.le_of_ble_eq_true rfl) rfl ?_
        refine Ev.ifeq (t := 118) (d27 62 rfl) rfl (fun c8 => ?_) (fun c8 => ?_)
        · replace hr := (if_pos c8).symm.trans hr
          refine Ev.iload (d27 65 rfl) rfl ?_
          refine Ev.iconst (z := 1) (d27 66 rfl) rfl ?_
          refine Ev.iadd (d27 67 rfl) ?_
          refine Ev.sipush (z := 4095) (d27 68 rfl) rfl ?_
          refine Ev.iand (d27 69 rfl) ?_
          refine Ev.istD (L' := [.val (.ref o), .val (.int x1), .val (.int x2), .val (.int x3), .val (.int x4), .val (.int x5), y6, .val (.int ((x7 + (1 : Int32)) &&& (4095 : Int32))), .val (.int x8), .val (.int (s.2 7 (ix x7)))]) (d27 70 rfl) rfl rfl rfl ?_
          refine Ev.iinc (z := 1) (L' := [.val (.ref o), .val (.int x1), .val (.int x2), .val (.int x3), .val (.int x4), .val (.int x5), y6, .val (.int ((x7 + (1 : Int32)) &&& (4095 : Int32))), .val (.int (x8 + (1 : Int32))), .val (.int (s.2 7 (ix x7)))]) (d27 71 rfl) rfl rfl rfl ?_
          refine Ev.goto (t := 63) (d27 72 rfl) rfl ?_
          exact ih x1 x2 x3 x4 x5 ((x7 + (1 : Int32)) &&& (4095 : Int32)) (x8 + (1 : Int32)) s y6 hy6 (.val (.int (s.2 7 (ix x7)))) rfl _ hr
        · replace hr := (if_neg c8).symm.trans hr
          refine Ev.iload (d27 63 rfl) rfl ?_
          cases hr
          exact Ev.ireturn rfl (d27 64 rfl)
    · replace hr := (if_neg c1).symm.trans hr
      refine Ev.iconst (z := 0) (d27 73 rfl) rfl ?_
      cases hr
      exact Ev.ireturn rfl (d27 74 rfl)
def f_mk_38 (n : Nat) (x1 : Int32) (x2 : Int32) (x3 : Int32) (x4 : Int32) (x5 : Int32) (z0 : Int32) (s : St) : Option (Int32 × St) :=
  if z0 = 0 then
    (f_hashOf s x1 x2 x3 x4 x5).bind fun q2 =>
    f_mk_63 n n x1 x2 x3 x4 x5 q2 (0 : Int32) s
  else
    some (x2, s)
set_option maxRecDepth 100000 in
theorem e_mk_38 {g : GT} {n : Nat} (hw : HW g) {K : St → MHeap} {o : Nat} {r : Nat → Nat} (V : View (GG g) Ln K o r) (x1 : Int32) (x2 : Int32) (x3 : Int32) (x4 : Int32) (x5 : Int32) (z0 : Int32) (s : St) (y6 : Slot) (hy6 : one1 y6 = true) (y7 : Slot) (hy7 : one1 y7 = true) (y8 : Slot) (hy8 : one1 y8 = true) (y9 : Slot) (hy9 : one1 y9 = true) (w : Int32 × St) (hr : f_mk_38 n x1 x2 x3 x4 x5 z0 s = some w) : Ev (GG g) M_mk 38 [.val (.ref o), .val (.int x1), .val (.int x2), .val (.int x3), .val (.int x4), .val (.int x5), y6, y7, y8, y9] [.int z0] (K s) ((some (.int w.1)), (K w.2)) := by
  unfold f_mk_38 at hr
  refine Ev.istD (L' := [.val (.ref o), .val (.int x1), .val (.int x2), .val (.int x3), .val (.int x4), .val (.int x5), .val (.int z0), y7, y8, y9]) (d27 20 rfl) rfl hy6 rfl ?_
  refine Ev.iload (d27 21 rfl) rfl ?_
  refine Ev.ifeq (t := 47) (d27 22 rfl) rfl (fun c1 => ?_) (fun c1 => ?_)
  · replace hr := (if_pos c1).symm.trans hr
    refine Ev.aloadN (d27 25 rfl) rfl ?_
    refine Ev.iloadN (d27 26 rfl) rfl ?_
    refine Ev.iloadN (d27 27 rfl) rfl ?_
    refine Ev.iloadN (d27 28 rfl) rfl ?_
    refine Ev.iload (d27 29 rfl) rfl ?_
    refine Ev.iload (d27 30 rfl) rfl ?_
    obtain ⟨q2, hq3, hr⟩ := Option.bind_eq_some_iff.mp hr
    refine Ev.priv (y := M_hashOf) (args := [.int x1, .int x2, .int x3, .int x4, .int x5]) (rest := []) (gok hw) rfl nm_hashOf (ww hw 223 rfl) (ww hw 224 rfl) (ww hw 225 rfl) (ww hw 226 rfl) (lenOf pd_hashOf rfl) (d27 31 rfl) (V.2.1 s) (e_hashOf hw V hq3) (by decide) (Nat.le_of_ble_eq_true rfl) rfl ?_
    refine Ev.istD (L' := [.val (.ref o), .val (.int x1), .val (.int x2), .val (.int x3), .val (.int x4), .val (.int x5), .val (.int z0), .val (.int q2), y8, y9]) (d27 32 rfl) rfl hy7 rfl ?_
    refine Ev.iconst (z := 0) (d27 33 rfl) rfl ?_
    refine Ev.istD (L' := [.val (.ref o), .val (.int x1), .val (.int x2), .val (.int x3), .val (.int x4), .val (.int x5), .val (.int z0), .val (.int q2), .val (.int (0 : Int32)), y9]) (d27 34 rfl) rfl hy8 rfl ?_
    exact e_mk_63 hw V  n x1 x2 x3 x4 x5 q2 (0 : Int32) s (.val (.int z0)) rfl y9 hy9 _ hr
  · replace hr := (if_neg c1).symm.trans hr
    refine Ev.iloadN (d27 23 rfl) rfl ?_
    cases hr
    exact Ev.ireturn rfl (d27 24 rfl)
def f_mk_19 (n : Nat) (x1 : Int32) (x2 : Int32) (x3 : Int32) (x4 : Int32) (x5 : Int32) (s : St) : Option (Int32 × St) :=
  if (s.1 21) < (4 : Int32) then
    f_mk_38 n x1 x2 x3 x4 x5 (1 : Int32) s
  else
    if x5 = x2 then
      f_mk_38 n x1 x2 x3 x4 x5 (1 : Int32) s
    else
      f_mk_38 n x1 x2 x3 x4 x5 (0 : Int32) s
set_option maxRecDepth 100000 in
theorem e_mk_19 {g : GT} {n : Nat} (hw : HW g) {K : St → MHeap} {o : Nat} {r : Nat → Nat} (V : View (GG g) Ln K o r) (x1 : Int32) (x2 : Int32) (x3 : Int32) (x4 : Int32) (x5 : Int32) (s : St) (y6 : Slot) (hy6 : one1 y6 = true) (y7 : Slot) (hy7 : one1 y7 = true) (y8 : Slot) (hy8 : one1 y8 = true) (y9 : Slot) (hy9 : one1 y9 = true) (w : Int32 × St) (hr : f_mk_19 n x1 x2 x3 x4 x5 s = some w) : Ev (GG g) M_mk 19 [.val (.ref o), .val (.int x1), .val (.int x2), .val (.int x3), .val (.int x4), .val (.int x5), y6, y7, y8, y9] [] (K s) ((some (.int w.1)), (K w.2)) := by
  unfold f_mk_19 at hr
  refine Ev.aloadN (d27 10 rfl) rfl ?_
  refine Ev.gI V (ww hw 57 rfl) (d27 11 rfl) (j := 21) rfl rfl ?_
  refine Ev.iconst (z := 4) (d27 12 rfl) rfl ?_
  refine Ev.iclt (t := 33) (d27 13 rfl) rfl (fun c1 => ?_) (fun c1 => ?_)
  · replace hr := (if_pos c1).symm.trans hr
    refine Ev.iconst (z := 1) (d27 17 rfl) rfl ?_
    refine Ev.goto (t := 38) (d27 18 rfl) rfl ?_
    exact e_mk_38 hw V  x1 x2 x3 x4 x5 (1 : Int32) s y6 hy6 y7 hy7 y8 hy8 y9 hy9 _ hr
  · replace hr := (if_neg c1).symm.trans hr
    refine Ev.iload (d27 14 rfl) rfl ?_
    refine Ev.iloadN (d27 15 rfl) rfl ?_
    refine Ev.icne (t := 37) (d27 16 rfl) rfl (fun c2 => ?_) (fun c2 => ?_)
    · replace hr := (if_pos c2).symm.trans hr
      refine Ev.iconst (z := 1) (d27 17 rfl) rfl ?_
      refine Ev.goto (t := 38) (d27 18 rfl) rfl ?_
      exact e_mk_38 hw V  x1 x2 x3 x4 x5 (1 : Int32) s y6 hy6 y7 hy7 y8 hy8 y9 hy9 _ hr
    · replace hr := (if_neg c2).symm.trans hr
      refine Ev.iconst (z := 0) (d27 19 rfl) rfl ?_
      exact e_mk_38 hw V  x1 x2 x3 x4 x5 (0 : Int32) s y6 hy6 y7 hy7 y8 hy8 y9 hy9 _ hr
def f_mk (n : Nat) (a0 : Int32) (a1 : Int32) (a2 : Int32) (a3 : Int32) (a4 : Int32) (s : St) : Option (Int32 × St) :=
  if a2 = a1 then
    if (s.1 21) < (3 : Int32) then
      f_mk_19 n a0 a1 a2 a3 a4 s
    else
      if a3 = a1 then
        f_mk_19 n a0 a1 a2 a3 a4 s
      else
        f_mk_38 n a0 a1 a2 a3 a4 (0 : Int32) s
  else
    f_mk_38 n a0 a1 a2 a3 a4 (0 : Int32) s
set_option maxRecDepth 100000 in
theorem e_mk {g : GT} {n : Nat} {a0 : Int32} {a1 : Int32} {a2 : Int32} {a3 : Int32} {a4 : Int32} {s : St} {w : Int32 × St} (hw : HW g) {K : St → MHeap} {o : Nat} {r : Nat → Nat} (V : View (GG g) Ln K o r) (hr : f_mk n a0 a1 a2 a3 a4 s = some w) : EvC (GG g) M_mk [.ref o, .int a0, .int a1, .int a2, .int a3, .int a4] (K s) ((some (.int w.1)), (K w.2)) := by
  refine EvC.enter (L0 := [.val (.ref o), .val (.int a0), .val (.int a1), .val (.int a2), .val (.int a3), .val (.int a4), .unset, .unset, .unset, .unset]) pl_mk (fun h => nomatch h) rfl rfl ?_
  unfold f_mk at hr
  refine Ev.iloadN (d27 0 rfl) rfl ?_
  refine Ev.iloadN (d27 1 rfl) rfl ?_
  refine Ev.icne (t := 37) (d27 2 rfl) rfl (fun c1 => ?_) (fun c1 => ?_)
  · replace hr := (if_pos c1).symm.trans hr
    refine Ev.aloadN (d27 3 rfl) rfl ?_
    refine Ev.gI V (ww hw 57 rfl) (d27 4 rfl) (j := 21) rfl rfl ?_
    refine Ev.iconst (z := 3) (d27 5 rfl) rfl ?_
    refine Ev.iclt (t := 19) (d27 6 rfl) rfl (fun c2 => ?_) (fun c2 => ?_)
    · replace hr := (if_pos c2).symm.trans hr
      exact e_mk_19 hw V  a0 a1 a2 a3 a4 s .unset rfl .unset rfl .unset rfl .unset rfl _ hr
    · replace hr := (if_neg c2).symm.trans hr
      refine Ev.iload (d27 7 rfl) rfl ?_
      refine Ev.iloadN (d27 8 rfl) rfl ?_
      refine Ev.icne (t := 37) (d27 9 rfl) rfl (fun c3 => ?_) (fun c3 => ?_)
      · replace hr := (if_pos c3).symm.trans hr
        exact e_mk_19 hw V  a0 a1 a2 a3 a4 s .unset rfl .unset rfl .unset rfl .unset rfl _ hr
      · replace hr := (if_neg c3).symm.trans hr
        refine Ev.iconst (z := 0) (d27 19 rfl) rfl ?_
        exact e_mk_38 hw V  a0 a1 a2 a3 a4 (0 : Int32) s .unset rfl .unset rfl .unset rfl .unset rfl _ hr
  · replace hr := (if_neg c1).symm.trans hr
    refine Ev.iconst (z := 0) (d27 19 rfl) rfl ?_
    exact e_mk_38 hw V  a0 a1 a2 a3 a4 (0 : Int32) s .unset rfl .unset rfl .unset rfl .unset rfl _ hr
def f_reduceBuffer_106 (n : Nat) (k16 : Int32 → Int32 → St → Option (Int32 × St)) (k29 : Int32 → Int32 → Int32 → St → Option (Int32 × St)) (x1 : Int32) (x2 : Int32) (x3 : Int32) (x5 : Int32) (x6 : Int32) (x7 : Int32) (z0 : Int32) (s : St) : Option (Int32 × St) :=
  (f_mk n x2 x5 x6 x7 z0 s).bind fun q1 =>
  grd (inb x3 1024) <|
  bnd (setA q1.2 11 (ix x3) q1.1) fun s4 =>
  k29 x1 x2 (x3 + (1 : Int32)) s4
set_option maxRecDepth 100000 in
theorem e_reduceBuffer_106 {g : GT} {n : Nat} (hw : HW g) {K : St → MHeap} {o : Nat} {r : Nat → Nat} (V : View (GG g) Ln K o r) {k16 : Int32 → Int32 → St → Option (Int32 × St)} (hk16 : ∀ (x1 : Int32) (x2 : Int32) (s : St) (y3 : Slot) (hy3 : one1 y3 = true) (y4 : Slot) (hy4 : one1 y4 = true) (y5 : Slot) (hy5 : one1 y5 = true) (y6 : Slot) (hy6 : one1 y6 = true) (y7 : Slot) (hy7 : one1 y7 = true) (y8 : Slot) (hy8 : one1 y8 = true) (w : Int32 × St), k16 x1 x2 s = some w → Ev (GG g) M_reduceBuffer 16 [.val (.ref o), .val (.int x1), .val (.int x2), y3, y4, y5, y6, y7, y8] [] (K s) ((some (.int w.1)), (K w.2))) {k29 : Int32 → Int32 → Int32 → St → Option (Int32 × St)} (hk29 : ∀ (x1 : Int32) (x2 : Int32) (x3 : Int32) (s : St) (y4 : Slot) (hy4 : one1 y4 = true) (y5 : Slot) (hy5 : one1 y5 = true) (y6 : Slot) (hy6 : one1 y6 = true) (y7 : Slot) (hy7 : one1 y7 = true) (y8 : Slot) (hy8 : one1 y8 = true) (w : Int32 × St), k29 x1 x2 x3 s = some w → Ev (GG g) M_reduceBuffer 29 [.val (.ref o), .val (.int x1), .val (.int x2), .val (.int x3), y4, y5, y6, y7, y8] [] (K s) ((some (.int w.1)), (K w.2))) (x1 : Int32) (x2 : Int32) (x3 : Int32) (x5 : Int32) (x6 : Int32) (x7 : Int32) (z0 : Int32) (s : St) (y4 : Slot) (hy4 : one1 y4 = true) (y8 : Slot) (hy8 : one1 y8 = true) (w : Int32 × St) (hr : f_reduceBuffer_106 n k16 k29 x1 x2 x3 x5 x6 x7 z0 s = some w) : Ev (GG g) M_reduceBuffer 106 [.val (.ref o), .val (.int x1), .val (.int x2), .val (.int x3), y4, .val (.int x5), .val (.int x6), .val (.int x7), y8] [.int z0] (K s) ((some (.int w.1)), (K w.2)) := by
  unfold f_reduceBuffer_106 at hr
  refine Ev.istD (L' := [.val (.ref o), .val (.int x1), .val (.int x2), .val (.int x3), y4, .val (.int x5), .val (.int x6), .val (.int x7), .val (.int z0)]) (d26 64 rfl) rfl hy8 rfl ?_
  refine Ev.aloadN (d26 65 rfl) rfl ?_
  refine Ev.gAr V (ww hw 37 rfl) (d26 66 rfl) (j := 11) rfl ?_
  refine Ev.iloadN (d26 67 rfl) rfl ?_
  refine Ev.aloadN (d26 68 rfl) rfl ?_
  refine Ev.iloadN (d26 69 rfl) rfl ?_
  refine Ev.iload (d26 70 rfl) rfl ?_
  refine Ev.iload (d26 71 rfl) rfl ?_
  refine Ev.iload (d26 72 rfl) rfl ?_
  refine Ev.iload (d26 73 rfl) rfl ?_
  obtain ⟨q1, hq2, hr⟩ := Option.bind_eq_some_iff.mp hr
  refine Ev.priv (y := M_mk) (args := [.int x2, .int x5, .int x6, .int x7, .int z0]) (rest := [.int x3, .ref (r 11)]) (gok hw) rfl nm_mk (ww hw 180 rfl) (ww hw 181 rfl) (ww hw 182 rfl) (ww hw 183 rfl) (lenOf pd_mk rfl) (d26 74 rfl) (V.2.1 s) (e_mk hw V hq2) (by decide) (Nat.le_of_ble_eq_true rfl) rfl ?_
  obtain ⟨b3, hr⟩ := grd_some hr
  refine Ev.ias V (j := 11) rfl rfl (d26 75 rfl) b3 ?_
  revert hr
  generalize setA q1.2 11 (ix x3) q1.1 = s4
  intro hr
  replace hr := (bnd_eq _ _).symm.trans hr
  refine Ev.iinc (z := 1) (L' := [.val (.ref o), .val (.int x1), .val (.int x2), .val (.int (x3 + (1 : Int32))), y4, .val (.int x5), .val (.int x6), .val (.int x7), .val (.int z0)]) (d26 76 rfl) rfl rfl rfl ?_
  refine Ev.goto (t := 29) (d26 77 rfl) rfl ?_
  exact hk29 x1 x2 (x3 + (1 : Int32)) s4 y4 hy4 (.val (.int x5)) rfl (.val (.int x6)) rfl (.val (.int x7)) rfl (.val (.int z0)) rfl _ hr
def f_reduceBuffer_83 (n : Nat) (k16 : Int32 → Int32 → St → Option (Int32 × St)) (k29 : Int32 → Int32 → Int32 → St → Option (Int32 × St)) (x1 : Int32) (x2 : Int32) (x3 : Int32) (x4 : Int32) (x5 : Int32) (x6 : Int32) (z0 : Int32) (s : St) : Option (Int32 × St) :=
  if (3 : Int32) < (s.1 21) then
    grd (inb (x4 + (3 : Int32)) 1024) <|
    f_reduceBuffer_106 n k16 k29 x1 x2 x3 x5 x6 z0 (s.2 11 (ix (x4 + (3 : Int32)))) s
  else
    f_reduceBuffer_106 n k16 k29 x1 x2 x3 x5 x6 z0 (0 : Int32) s
set_option maxRecDepth 100000 in
theorem e_reduceBuffer_83 {g : GT} {n : Nat} (hw : HW g) {K : St → MHeap} {o : Nat} {r : Nat → Nat} (V : View (GG g) Ln K o r) {k16 : Int32 → Int32 → St → Option (Int32 × St)} (hk16 : ∀ (x1 : Int32) (x2 : Int32) (s : St) (y3 : Slot) (hy3 : one1 y3 = true) (y4 : Slot) (hy4 : one1 y4 = true) (y5 : Slot) (hy5 : one1 y5 = true) (y6 : Slot) (hy6 : one1 y6 = true) (y7 : Slot) (hy7 : one1 y7 = true) (y8 : Slot) (hy8 : one1 y8 = true) (w : Int32 × St), k16 x1 x2 s = some w → Ev (GG g) M_reduceBuffer 16 [.val (.ref o), .val (.int x1), .val (.int x2), y3, y4, y5, y6, y7, y8] [] (K s) ((some (.int w.1)), (K w.2))) {k29 : Int32 → Int32 → Int32 → St → Option (Int32 × St)} (hk29 : ∀ (x1 : Int32) (x2 : Int32) (x3 : Int32) (s : St) (y4 : Slot) (hy4 : one1 y4 = true) (y5 : Slot) (hy5 : one1 y5 = true) (y6 : Slot) (hy6 : one1 y6 = true) (y7 : Slot) (hy7 : one1 y7 = true) (y8 : Slot) (hy8 : one1 y8 = true) (w : Int32 × St), k29 x1 x2 x3 s = some w → Ev (GG g) M_reduceBuffer 29 [.val (.ref o), .val (.int x1), .val (.int x2), .val (.int x3), y4, y5, y6, y7, y8] [] (K s) ((some (.int w.1)), (K w.2))) (x1 : Int32) (x2 : Int32) (x3 : Int32) (x4 : Int32) (x5 : Int32) (x6 : Int32) (z0 : Int32) (s : St) (y7 : Slot) (hy7 : one1 y7 = true) (y8 : Slot) (hy8 : one1 y8 = true) (w : Int32 × St) (hr : f_reduceBuffer_83 n k16 k29 x1 x2 x3 x4 x5 x6 z0 s = some w) : Ev (GG g) M_reduceBuffer 83 [.val (.ref o), .val (.int x1), .val (.int x2), .val (.int x3), .val (.int x4), .val (.int x5), .val (.int x6), y7, y8] [.int z0] (K s) ((some (.int w.1)), (K w.2)) := by
  unfold f_reduceBuffer_83 at hr
  refine Ev.istD (L' := [.val (.ref o), .val (.int x1), .val (.int x2), .val (.int x3), .val (.int x4), .val (.int x5), .val (.int x6), .val (.int z0), y8]) (d26 51 rfl) rfl hy7 rfl ?_
  refine Ev.aloadN (d26 52 rfl) rfl ?_
  refine Ev.gI V (ww hw 57 rfl) (d26 53 rfl) (j := 21) rfl rfl ?_
  refine Ev.iconst (z := 3) (d26 54 rfl) rfl ?_
  refine Ev.icle (t := 105) (d26 55 rfl) rfl (fun c1 => ?_) (fun c1 => ?_)
  · replace hr := (if_pos c1).symm.trans hr
    refine Ev.aloadN (d26 56 rfl) rfl ?_
    refine Ev.gAr V (ww hw 37 rfl) (d26 57 rfl) (j := 11) rfl ?_
    refine Ev.iload (d26 58 rfl) rfl ?_
    refine Ev.iconst (z := 3) (d26 59 rfl) rfl ?_
    refine Ev.iadd (d26 60 rfl) ?_
    obtain ⟨b2, hr⟩ := grd_some hr
    refine Ev.ial V (j := 11) rfl rfl (d26 61 rfl) b2 ?_
    refine Ev.goto (t := 106) (d26 62 rfl) rfl ?_
    exact e_reduceBuffer_106 hw V hk16 hk29 x1 x2 x3 x5 x6 z0 (s.2 11 (ix (x4 + (3 : Int32)))) s (.val (.int x4)) rfl y8 hy8 _ hr
  · replace hr := (if_neg c1).symm.trans hr
    refine Ev.iconst (z := 0) (d26 63 rfl) rfl ?_
    exact e_reduceBuffer_106 hw V hk16 hk29 x1 x2 x3 x5 x6 z0 (0 : Int32) s (.val (.int x4)) rfl y8 hy8 _ hr
def f_reduceBuffer_29 (n : Nat) (k16 : Int32 → Int32 → St → Option (Int32 × St)) : Nat → Int32 → Int32 → Int32 → St → Option (Int32 × St)
  | 0 => fun _ _ _ _ => none
  | k + 1 => fun x1 x2 x3 s =>
    if x3 < x1 then
      grd (inb (x3 * (s.1 21)) 1024) <|
      grd (inb ((x3 * (s.1 21)) + (1 : Int32)) 1024) <|
      bnd (s.2 11 (ix ((x3 * (s.1 21)) + (1 : Int32)))) fun v4 =>
      if (2 : Int32) < (s.1 21) then
        grd (inb ((x3 * (s.1 21)) + (2 : Int32)) 1024) <|
        f_reduceBuffer_83 n k16 (f_reduceBuffer_29 n k16 k) x1 x2 x3 (x3 * (s.1 21)) (s.2 11 (ix (x3 * (s.1 21)))) v4 (s.2 11 (ix ((x3 * (s.1 21)) + (2 : Int32)))) s
      else
        f_reduceBuffer_83 n k16 (f_reduceBuffer_29 n k16 k) x1 x2 x3 (x3 * (s.1 21)) (s.2 11 (ix (x3 * (s.1 21)))) v4 (0 : Int32) s
    else
      k16 x1 (x2 + (-1 : Int32)) s
set_option maxRecDepth 100000 in
theorem e_reduceBuffer_29 {g : GT} {n : Nat} (hw : HW g) {K : St → MHeap} {o : Nat} {r : Nat → Nat} (V : View (GG g) Ln K o r) {k16 : Int32 → Int32 → St → Option (Int32 × St)} (hk16 : ∀ (x1 : Int32) (x2 : Int32) (s : St) (y3 : Slot) (hy3 : one1 y3 = true) (y4 : Slot) (hy4 : one1 y4 = true) (y5 : Slot) (hy5 : one1 y5 = true) (y6 : Slot) (hy6 : one1 y6 = true) (y7 : Slot) (hy7 : one1 y7 = true) (y8 : Slot) (hy8 : one1 y8 = true) (w : Int32 × St), k16 x1 x2 s = some w → Ev (GG g) M_reduceBuffer 16 [.val (.ref o), .val (.int x1), .val (.int x2), y3, y4, y5, y6, y7, y8] [] (K s) ((some (.int w.1)), (K w.2))) (k : Nat) : ∀ (x1 : Int32) (x2 : Int32) (x3 : Int32) (s : St) (y4 : Slot) (hy4 : one1 y4 = true) (y5 : Slot) (hy5 : one1 y5 = true) (y6 : Slot) (hy6 : one1 y6 = true) (y7 : Slot) (hy7 : one1 y7 = true) (y8 : Slot) (hy8 : one1 y8 = true) (w : Int32 × St), f_reduceBuffer_29 n k16 k x1 x2 x3 s = some w → Ev (GG g) M_reduceBuffer 29 [.val (.ref o), .val (.int x1), .val (.int x2), .val (.int x3), y4, y5, y6, y7, y8] [] (K s) ((some (.int w.1)), (K w.2)) := by
  induction k with
  | zero => intro x1 x2 x3 s y4 hy4 y5 hy5 y6 hy6 y7 hy7 y8 hy8 w hr; rw [f_reduceBuffer_29] at hr; cases hr
  | succ k ih =>
    intro x1 x2 x3 s y4 hy4 y5 hy5 y6 hy6 y7 hy7 y8 hy8 w hr
    rw [f_reduceBuffer_29] at hr
    refine Ev.iloadN (d26 19 rfl) rfl ?_
    refine Ev.iloadN (d26 20 rfl) rfl ?_
    refine Ev.icge (t := 133) (d26 21 rfl) rfl (fun c1 => ?_) (fun c1 => ?_)
    · replace hr := (if_pos c1).symm.trans hr
      refine Ev.iloadN (d26 22 rfl) rfl ?_
      refine Ev.aloadN (d26 23 rfl) rfl ?_
      refine Ev.gI V (ww hw 57 rfl) (d26 24 rfl) (j := 21) rfl rfl ?_
      refine Ev.imul (d26 25 rfl) ?_
      refine Ev.istD (L' := [.val (.ref o), .val (.int x1), .val (.int x2), .val (.int x3), .val (.int (x3 * (s.1 21))), y5, y6, y7, y8]) (d26 26 rfl) rfl hy4 rfl ?_
      refine Ev.aloadN (d26 27 rfl) rfl ?_
      refine Ev.gAr V (ww hw 37 rfl) (d26 28 rfl) (j := 11) rfl ?_
      refine Ev.iload (d26 29 rfl) rfl ?_
      obtain ⟨b2, hr⟩ := grd_some hr
      refine Ev.ial V (j := 11) rfl rfl (d26 30 rfl) b2 ?_
      refine Ev.istD (L' := [.val (.ref o), .val (.int x1), .val (.int x2), .val (.int x3), .val (.int (x3 * (s.1 21))), .val (.int (s.2 11 (ix (x3 * (s.1 21))))), y6, y7, y8]) (d26 31 rfl) rfl hy5 rfl ?_
      refine Ev.aloadN (d26 32 rfl) rfl ?_
      refine Ev.gAr V (ww hw 37 rfl) (d26 33 rfl) (j := 11) rfl ?_
      refine Ev.iload (d26 34 rfl) rfl ?_
      refine Ev.iconst (z := 1) (d26 35 rfl) rfl ?_
      refine Ev.iadd (d26 36 rfl) ?_
      obtain ⟨b3, hr⟩ := grd_some hr
      refine Ev.ial V (j := 11) rfl rfl (d26 37 rfl) b3 ?_
      revert hr
      generalize (s.2 11 (ix ((x3 * (s.1 21)) + (1 : Int32)))) = v4
      intro hr
      replace hr := (bnd_eq _ _).symm.trans hr
      refine Ev.istD (L' := [.val (.ref o), .val (.int x1), .val (.int x2), .val (.int x3), .val (.int (x3 * (s.1 21))), .val (.int (s.2 11 (ix (x3 * (s.1 21))))), .val (.int v4), y7, y8]) (d26 38 rfl) rfl hy6 rfl ?_
      refine Ev.aloadN (d26 39 rfl) rfl ?_
      refine Ev.gI V (ww hw 57 rfl) (d26 40 rfl) (j := 21) rfl rfl ?_
      refine Ev.iconst (z := 2) (d26 41 rfl) rfl ?_
      refine Ev.icle (t := 82) (d26 42 rfl) rfl (fun c5 => ?_) (fun c5 => ?_)
      · replace hr := (if_pos c5).symm.trans hr
        refine Ev.aloadN (d26 43 rfl) rfl ?_
        refine Ev.gAr V (ww hw 37 rfl) (d26 44 rfl) (j := 11) rfl ?_
        refine Ev.iload (d26 45 rfl) rfl ?_
        refine Ev.iconst (z := 2) (d26 46 rfl) rfl ?_
        refine Ev.iadd (d26 47 rfl) ?_
        obtain ⟨b6, hr⟩ := grd_some hr
        refine Ev.ial V (j := 11) rfl rfl (d26 48 rfl) b6 ?_
        refine Ev.goto (t := 83) (d26 49 rfl) rfl ?_
        exact e_reduceBuffer_83 hw V hk16 ih x1 x2 x3 (x3 * (s.1 21)) (s.2 11 (ix (x3 * (s.1 21)))) v4 (s.2 11 (ix ((x3 * (s.1 21)) + (2 : Int32)))) s y7 hy7 y8 hy8 _ hr
      · replace hr := (if_neg c5).symm.trans hr
        refine Ev.iconst (z := 0) (d26 50 rfl) rfl ?_
        exact e_reduceBuffer_83 hw V hk16 ih x1 x2 x3 (x3 * (s.1 21)) (s.2 11 (ix (x3 * (s.1 21)))) v4 (0 : Int32) s y7 hy7 y8 hy8 _ hr
    · replace hr := (if_neg c1).symm.trans hr
      refine Ev.iinc (z := -1) (L' := [.val (.ref o), .val (.int x1), .val (.int (x2 + (-1 : Int32))), .val (.int x3), y4, y5, y6, y7, y8]) (d26 78 rfl) rfl rfl rfl ?_
      refine Ev.goto (t := 16) (d26 79 rfl) rfl ?_
      exact hk16 x1 (x2 + (-1 : Int32)) s (.val (.int x3)) rfl y4 hy4 y5 hy5 y6 hy6 y7 hy7 y8 hy8 _ hr
def f_reduceBuffer_16 (n : Nat) : Nat → Int32 → Int32 → St → Option (Int32 × St)
  | 0 => fun _ _ _ => none
  | k + 1 => fun x1 x2 s =>
    if x2 < 0 then
      some ((s.2 11 (ix (0 : Int32))), s)
    else
      grd ((s.1 21) ≠ 0) <|
      f_reduceBuffer_29 n (f_reduceBuffer_16 n k) n (x1 / (s.1 21)) x2 (0 : Int32) s
set_option maxRecDepth 100000 in
theorem e_reduceBuffer_16 {g : GT} {n : Nat} (hw : HW g) {K : St → MHeap} {o : Nat} {r : Nat → Nat} (V : View (GG g) Ln K o r) (k : Nat) : ∀ (x1 : Int32) (x2 : Int32) (s : St) (y3 : Slot) (hy3 : one1 y3 = true) (y4 : Slot) (hy4 : one1 y4 = true) (y5 : Slot) (hy5 : one1 y5 = true) (y6 : Slot) (hy6 : one1 y6 = true) (y7 : Slot) (hy7 : one1 y7 = true) (y8 : Slot) (hy8 : one1 y8 = true) (w : Int32 × St), f_reduceBuffer_16 n k x1 x2 s = some w → Ev (GG g) M_reduceBuffer 16 [.val (.ref o), .val (.int x1), .val (.int x2), y3, y4, y5, y6, y7, y8] [] (K s) ((some (.int w.1)), (K w.2)) := by
  induction k with
  | zero => intro x1 x2 s y3 hy3 y4 hy4 y5 hy5 y6 hy6 y7 hy7 y8 hy8 w hr; rw [f_reduceBuffer_16] at hr; cases hr
  | succ k ih =>
    intro x1 x2 s y3 hy3 y4 hy4 y5 hy5 y6 hy6 y7 hy7 y8 hy8 w hr
    rw [f_reduceBuffer_16] at hr
    refine Ev.iloadN (d26 10 rfl) rfl ?_
    refine Ev.iflt (t := 139) (d26 11 rfl) rfl (fun c1 => ?_) (fun c1 => ?_)
    · replace hr := (if_pos c1).symm.trans hr
      refine Ev.aloadN (d26 80 rfl) rfl ?_
      refine Ev.gAr V (ww hw 37 rfl) (d26 81 rfl) (j := 11) rfl ?_
      refine Ev.iconst (z := 0) (d26 82 rfl) rfl ?_
      refine Ev.ial V (j := 11) rfl rfl (d26 83 rfl) ⟨by decide, by decide⟩ ?_
      cases hr
      exact Ev.ireturn rfl (d26 84 rfl)
    · replace hr := (if_neg c1).symm.trans hr
      refine Ev.iloadN (d26 12 rfl) rfl ?_
      refine Ev.aloadN (d26 13 rfl) rfl ?_
      refine Ev.gI V (ww hw 57 rfl) (d26 14 rfl) (j := 21) rfl rfl ?_
      obtain ⟨c2, hr⟩ := grd_some hr
      refine Ev.idiv (d26 15 rfl) c2 ?_
      refine Ev.istDN (L' := [.val (.ref o), .val (.int (x1 / (s.1 21))), .val (.int x2), y3, y4, y5, y6, y7, y8]) (d26 16 rfl) rfl rfl rfl ?_
      refine Ev.iconst (z := 0) (d26 17 rfl) rfl ?_
      refine Ev.istDN (L' := [.val (.ref o), .val (.int (x1 / (s.1 21))), .val (.int x2), .val (.int (0 : Int32)), y4, y5, y6, y7, y8]) (d26 18 rfl) rfl hy3 rfl ?_
      exact e_reduceBuffer_29 hw V ih n (x1 / (s.1 21)) x2 (0 : Int32) s y4 hy4 y5 hy5 y6 hy6 y7 hy7 y8 hy8 _ hr
def f_reduceBuffer (n : Nat) (s : St) : Option (Int32 × St) :=
  (f_pow n s (s.1 20)).bind fun q1 =>
  f_reduceBuffer_16 n n q1 ((s.1 20) - (1 : Int32)) s
set_option maxRecDepth 100000 in
theorem e_reduceBuffer {g : GT} {n : Nat} {s : St} {w : Int32 × St} (hw : HW g) {K : St → MHeap} {o : Nat} {r : Nat → Nat} (V : View (GG g) Ln K o r) (hr : f_reduceBuffer n s = some w) : EvC (GG g) M_reduceBuffer [.ref o] (K s) ((some (.int w.1)), (K w.2)) := by
  refine EvC.enter (L0 := [.val (.ref o), .unset, .unset, .unset, .unset, .unset, .unset, .unset, .unset]) pl_reduceBuffer (fun h => nomatch h) rfl rfl ?_
  unfold f_reduceBuffer at hr
  refine Ev.aloadN (d26 0 rfl) rfl ?_
  refine Ev.aloadN (d26 1 rfl) rfl ?_
  refine Ev.gI V (ww hw 55 rfl) (d26 2 rfl) (j := 20) rfl rfl ?_
  obtain ⟨q1, hq2, hr⟩ := Option.bind_eq_some_iff.mp hr
  refine Ev.priv (y := M_pow) (args := [.int (s.1 20)]) (rest := []) (gok hw) rfl nm_pow (ww hw 164 rfl) (ww hw 165 rfl) (ww hw 166 rfl) (ww hw 167 rfl) (lenOf pd_pow rfl) (d26 3 rfl) (V.2.1 s) (e_pow hw V hq2) (by decide) (Nat.le_of_ble_eq_true rfl) rfl ?_
  refine Ev.istDN (L' := [.val (.ref o), .val (.int q1), .unset, .unset, .unset, .unset, .unset, .unset, .unset]) (d26 4 rfl) rfl rfl rfl ?_
  refine Ev.aloadN (d26 5 rfl) rfl ?_
  refine Ev.gI V (ww hw 55 rfl) (d26 6 rfl) (j := 20) rfl rfl ?_
  refine Ev.iconst (z := 1) (d26 7 rfl) rfl ?_
  refine Ev.isub (d26 8 rfl) ?_
  refine Ev.istDN (L' := [.val (.ref o), .val (.int q1), .val (.int ((s.1 20) - (1 : Int32))), .unset, .unset, .unset, .unset, .unset, .unset]) (d26 9 rfl) rfl rfl rfl ?_
  exact e_reduceBuffer_16 hw V  n q1 ((s.1 20) - (1 : Int32)) s .unset rfl .unset rfl .unset rfl .unset rfl .unset rfl .unset rfl _ hr
def f_compileTable_117 (n : Nat) (k78 : Int32 → Int32 → St → Option (Int32 × St)) (x1 : Int32) (x2 : Int32) (z0 : Int32) (z1 : Int32) (s : St) : Option (Int32 × St) :=
  grd (inb z1 1024) <|
  bnd (setA s 11 (ix z1) z0) fun s2 =>
  k78 x1 (x2 + (1 : Int32)) s2
set_option maxRecDepth 100000 in
theorem e_compileTable_117 {g : GT} {n : Nat} (hw : HW g) {K : St → MHeap} {o : Nat} {r : Nat → Nat} (V : View (GG g) Ln K o r) {k78 : Int32 → Int32 → St → Option (Int32 × St)} (hk78 : ∀ (x1 : Int32) (x2 : Int32) (s : St) (w : Int32 × St), k78 x1 x2 s = some w → Ev (GG g) M_compileTable 78 [.val (.ref o), .val (.int x1), .val (.int x2)] [] (K s) ((some (.int w.1)), (K w.2))) (x1 : Int32) (x2 : Int32) (z0 : Int32) (z1 : Int32) (s : St) (w : Int32 × St) (hr : f_compileTable_117 n k78 x1 x2 z0 z1 s = some w) : Ev (GG g) M_compileTable 117 [.val (.ref o), .val (.int x1), .val (.int x2)] [.int z0, .int z1, .ref (r 11)] (K s) ((some (.int w.1)), (K w.2)) := by
  unfold f_compileTable_117 at hr
  obtain ⟨b1, hr⟩ := grd_some hr
  refine Ev.ias V (j := 11) rfl rfl (d22 66 rfl) b1 ?_
  revert hr
  generalize setA s 11 (ix z1) z0 = s2
  intro hr
  replace hr := (bnd_eq _ _).symm.trans hr
  refine Ev.iinc (z := 1) (L' := [.val (.ref o), .val (.int x1), .val (.int (x2 + (1 : Int32)))]) (d22 67 rfl) rfl rfl rfl ?_
  refine Ev.goto (t := 78) (d22 68 rfl) rfl ?_
  exact hk78 x1 (x2 + (1 : Int32)) s2  _ hr
def f_compileTable_124 (n : Nat) (s : St) : Option (Int32 × St) :=
  (f_reduceBuffer n s).bind fun q1 =>
  some (q1.1, q1.2)
set_option maxRecDepth 100000 in
theorem e_compileTable_124 {g : GT} {n : Nat} (hw : HW g) {K : St → MHeap} {o : Nat} {r : Nat → Nat} (V : View (GG g) Ln K o r) (s : St) (y1 : Slot) (hy1 : one1 y1 = true) (y2 : Slot) (hy2 : one1 y2 = true) (w : Int32 × St) (hr : f_compileTable_124 n s = some w) : Ev (GG g) M_compileTable 124 [.val (.ref o), y1, y2] [] (K s) ((some (.int w.1)), (K w.2)) := by
  unfold f_compileTable_124 at hr
  refine Ev.aloadN (d22 69 rfl) rfl ?_
  obtain ⟨q1, hq2, hr⟩ := Option.bind_eq_some_iff.mp hr
  refine Ev.priv (y := M_reduceBuffer) (args := []) (rest := []) (gok hw) rfl nm_reduceBuffer (ww hw 176 rfl) (ww hw 177 rfl) (ww hw 178 rfl) (ww hw 179 rfl) (lenOf pd_reduceBuffer rfl) (d22 70 rfl) (V.2.1 s) (e_reduceBuffer hw V hq2) (by decide) (Nat.le_of_ble_eq_true rfl) rfl ?_
  cases hr
  exact Ev.ireturn rfl (d22 71 rfl)
def f_compileTable_78 (n : Nat) : Nat → Int32 → Int32 → St → Option (Int32 × St)
  | 0 => fun _ _ _ => none
  | k + 1 => fun x1 x2 s =>
    if x2 < x1 then
      if x2 < (1024 : Int32) then
        (f_decode n x2 s).bind fun q3 =>
        (f_scopeCode q3).bind fun q5 =>
        grd (inb q5 64) <|
        if (q3.2 12 (ix q5)) = 0 then
          f_compileTable_117 n (f_compileTable_78 n k) x1 x2 (0 : Int32) x2 q3
        else
          f_compileTable_117 n (f_compileTable_78 n k) x1 x2 (1 : Int32) x2 q3
      else
        f_compileTable_124 n s
    else
      f_compileTable_124 n s
set_option maxRecDepth 100000 in
theorem e_compileTable_78 {g : GT} {n : Nat} (hw : HW g) {K : St → MHeap} {o : Nat} {r : Nat → Nat} (V : View (GG g) Ln K o r) (k : Nat) : ∀ (x1 : Int32) (x2 : Int32) (s : St) (w : Int32 × St), f_compileTable_78 n k x1 x2 s = some w → Ev (GG g) M_compileTable 78 [.val (.ref o), .val (.int x1), .val (.int x2)] [] (K s) ((some (.int w.1)), (K w.2)) := by
  induction k with
  | zero => intro x1 x2 s w hr; rw [f_compileTable_78] at hr; cases hr
  | succ k ih =>
    intro x1 x2 s w hr
    rw [f_compileTable_78] at hr
    refine Ev.iloadN (d22 45 rfl) rfl ?_
    refine Ev.iloadN (d22 46 rfl) rfl ?_
    refine Ev.icge (t := 124) (d22 47 rfl) rfl (fun c1 => ?_) (fun c1 => ?_)
    · replace hr := (if_pos c1).symm.trans hr
      refine Ev.iloadN (d22 48 rfl) rfl ?_
      refine Ev.sipush (z := 1024) (d22 49 rfl) rfl ?_
      refine Ev.icge (t := 124) (d22 50 rfl) rfl (fun c2 => ?_) (fun c2 => ?_)
      · replace hr := (if_pos c2).symm.trans hr
        refine Ev.aloadN (d22 51 rfl) rfl ?_
        refine Ev.iloadN (d22 52 rfl) rfl ?_
        obtain ⟨q3, hq4, hr⟩ := Option.bind_eq_some_iff.mp hr
        refine Ev.priv (y := M_decode) (args := [.int x2]) (rest := []) (gok hw) rfl nm_decode (ww hw 168 rfl) (ww hw 169 rfl) (ww hw 170 rfl) (ww hw 171 rfl) (lenOf pd_decode rfl) (d22 53 rfl) (V.2.1 s) (e_decode hw V hq4) (by decide) (Nat.le_of_ble_eq_true rfl) rfl ?_
        refine Ev.aloadN (d22 54 rfl) rfl ?_
        refine Ev.gAr V (ww hw 37 rfl) (d22 55 rfl) (j := 11) rfl ?_
        refine Ev.iloadN (d22 56 rfl) rfl ?_
        refine Ev.aloadN (d22 57 rfl) rfl ?_
        refine Ev.gAr V (ww hw 39 rfl) (d22 58 rfl) (j := 12) rfl ?_
        refine Ev.aloadN (d22 59 rfl) rfl ?_
        obtain ⟨q5, hq6, hr⟩ := Option.bind_eq_some_iff.mp hr
        refine Ev.priv (y := M_scopeCode) (args := []) (rest := [.ref (r 12), .int x2, .ref (r 11)]) (gok hw) rfl nm_scopeCode (ww hw 172 rfl) (ww hw 173 rfl) (ww hw 174 rfl) (ww hw 175 rfl) (lenOf pd_scopeCode rfl) (d22 60 rfl) (V.2.1 q3) (e_scopeCode hw V hq6) (by decide) (Nat.le_of_ble_eq_true rfl) rfl ?_
        obtain ⟨b7, hr⟩ := grd_some hr
        refine Ev.bal V (j := 12) rfl rfl (d22 61 rfl) b7 ?_
        refine Ev.ifeq (t := 116) (d22 62 rfl) rfl (fun c8 => ?_) (fun c8 => ?_)
        · replace hr := (if_pos c8).symm.trans hr
          refine Ev.iconst (z := 0) (d22 65 rfl) rfl ?_
          exact e_compileTable_117 hw V ih x1 x2 (0 : Int32) x2 q3  _ hr
        · replace hr := (if_neg c8).symm.trans hr
          refine Ev.iconst (z := 1) (d22 63 rfl) rfl ?_
          refine Ev.goto (t := 117) (d22 64 rfl) rfl ?_
          exact e_compileTable_117 hw V ih x1 x2 (1 : Int32) x2 q3  _ hr
      · replace hr := (if_neg c2).symm.trans hr
        exact e_compileTable_124 hw V  s (.val (.int x1)) rfl (.val (.int x2)) rfl _ hr
    · replace hr := (if_neg c1).symm.trans hr
      exact e_compileTable_124 hw V  s (.val (.int x1)) rfl (.val (.int x2)) rfl _ hr
def f_compileTable_67 (n : Nat) (s : St) : Option (Int32 × St) :=
  (f_pow n s (s.1 20)).bind fun q1 =>
  f_compileTable_78 n n q1 (0 : Int32) s
set_option maxRecDepth 100000 in
theorem e_compileTable_67 {g : GT} {n : Nat} (hw : HW g) {K : St → MHeap} {o : Nat} {r : Nat → Nat} (V : View (GG g) Ln K o r) (s : St) (y1 : Slot) (hy1 : one1 y1 = true) (y2 : Slot) (hy2 : one1 y2 = true) (w : Int32 × St) (hr : f_compileTable_67 n s = some w) : Ev (GG g) M_compileTable 67 [.val (.ref o), y1, y2] [] (K s) ((some (.int w.1)), (K w.2)) := by
  unfold f_compileTable_67 at hr
  refine Ev.aloadN (d22 38 rfl) rfl ?_
  refine Ev.aloadN (d22 39 rfl) rfl ?_
  refine Ev.gI V (ww hw 55 rfl) (d22 40 rfl) (j := 20) rfl rfl ?_
  obtain ⟨q1, hq2, hr⟩ := Option.bind_eq_some_iff.mp hr
  refine Ev.priv (y := M_pow) (args := [.int (s.1 20)]) (rest := []) (gok hw) rfl nm_pow (ww hw 164 rfl) (ww hw 165 rfl) (ww hw 166 rfl) (ww hw 167 rfl) (lenOf pd_pow rfl) (d22 41 rfl) (V.2.1 s) (e_pow hw V hq2) (by decide) (Nat.le_of_ble_eq_true rfl) rfl ?_
  refine Ev.istDN (L' := [.val (.ref o), .val (.int q1), y2]) (d22 42 rfl) rfl hy1 rfl ?_
  refine Ev.iconst (z := 0) (d22 43 rfl) rfl ?_
  refine Ev.istDN (L' := [.val (.ref o), .val (.int q1), .val (.int (0 : Int32))]) (d22 44 rfl) rfl hy2 rfl ?_
  exact e_compileTable_78 hw V  n q1 (0 : Int32) s  _ hr
def f_compileTable_23 (n : Nat) : Nat → Int32 → St → Option (Int32 × St)
  | 0 => fun _ _ => none
  | k + 1 => fun x1 s =>
    if x1 < (s.1 29) then
      if x1 < (16 : Int32) then
        grd (inb x1 16) <|
        if (s.2 1 (ix x1)) < 0 then
          f_compileTable_23 n k (x1 + (1 : Int32)) s
        else
          if (s.2 1 (ix x1)) < (64 : Int32) then
            grd (inb (s.2 1 (ix x1)) 64) <|
            bnd (setA s 12 (ix (s.2 1 (ix x1))) ((1 : Int32) &&& 1)) fun s7 =>
            f_compileTable_23 n k (x1 + (1 : Int32)) s7
          else
            f_compileTable_23 n k (x1 + (1 : Int32)) s
      else
        f_compileTable_67 n s
    else
      f_compileTable_67 n s
set_option maxRecDepth 100000 in
theorem e_compileTable_23 {g : GT} {n : Nat} (hw : HW g) {K : St → MHeap} {o : Nat} {r : Nat → Nat} (V : View (GG g) Ln K o r) (k : Nat) : ∀ (x1 : Int32) (s : St) (y2 : Slot) (hy2 : one1 y2 = true) (w : Int32 × St), f_compileTable_23 n k x1 s = some w → Ev (GG g) M_compileTable 23 [.val (.ref o), .val (.int x1), y2] [] (K s) ((some (.int w.1)), (K w.2)) := by
  induction k with
  | zero => intro x1 s y2 hy2 w hr; rw [f_compileTable_23] at hr; cases hr
  | succ k ih =>
    intro x1 s y2 hy2 w hr
    rw [f_compileTable_23] at hr
    refine Ev.iloadN (d22 14 rfl) rfl ?_
    refine Ev.aloadN (d22 15 rfl) rfl ?_
    refine Ev.gI V (ww hw 144 rfl) (d22 16 rfl) (j := 29) rfl rfl ?_
    refine Ev.icge (t := 67) (d22 17 rfl) rfl (fun c1 => ?_) (fun c1 => ?_)
    · replace hr := (if_pos c1).symm.trans hr
      refine Ev.iloadN (d22 18 rfl) rfl ?_
      refine Ev.bipush (z := 16) (d22 19 rfl) rfl ?_
      refine Ev.icge (t := 67) (d22 20 rfl) rfl (fun c2 => ?_) (fun c2 => ?_)
      · replace hr := (if_pos c2).symm.trans hr
        refine Ev.aloadN (d22 21 rfl) rfl ?_
        refine Ev.gAr V (ww hw 16 rfl) (d22 22 rfl) (j := 1) rfl ?_
        refine Ev.iloadN (d22 23 rfl) rfl ?_
        obtain ⟨b3, hr⟩ := grd_some hr
        refine Ev.ial V (j := 1) rfl rfl (d22 24 rfl) b3 ?_
        refine Ev.istDN (L' := [.val (.ref o), .val (.int x1), .val (.int (s.2 1 (ix x1)))]) (d22 25 rfl) rfl hy2 rfl ?_
        refine Ev.iloadN (d22 26 rfl) rfl ?_
        refine Ev.iflt (t := 61) (d22 27 rfl) rfl (fun c4 => ?_) (fun c4 => ?_)
        · replace hr := (if_pos c4).symm.trans hr
          refine Ev.iinc (z := 1) (L' := [.val (.ref o), .val (.int (x1 + (1 : Int32))), .val (.int (s.2 1 (ix x1)))]) (d22 36 rfl) rfl rfl rfl ?_
          refine Ev.goto (t := 23) (d22 37 rfl) rfl ?_
          exact ih (x1 + (1 : Int32)) s (.val (.int (s.2 1 (ix x1)))) rfl _ hr
        · replace hr := (if_neg c4).symm.trans hr
          refine Ev.iloadN (d22 28 rfl) rfl ?_
          refine Ev.bipush (z := 64) (d22 29 rfl) rfl ?_
          refine Ev.icge (t := 61) (d22 30 rfl) rfl (fun c5 => ?_) (fun c5 => ?_)
          · replace hr := (if_pos c5).symm.trans hr
            refine Ev.aloadN (d22 31 rfl) rfl ?_
            refine Ev.gAr V (ww hw 39 rfl) (d22 32 rfl) (j := 12) rfl ?_
            refine Ev.iloadN (d22 33 rfl) rfl ?_
            refine Ev.iconst (z := 1) (d22 34 rfl) rfl ?_
            obtain ⟨b6, hr⟩ := grd_some hr
            refine Ev.bas V (j := 12) rfl rfl (d22 35 rfl) b6 ?_
            revert hr
            generalize setA s 12 (ix (s.2 1 (ix x1))) ((1 : Int32) &&& 1) = s7
            intro hr
            replace hr := (bnd_eq _ _).symm.trans hr
            refine Ev.iinc (z := 1) (L' := [.val (.ref o), .val (.int (x1 + (1 : Int32))), .val (.int (s.2 1 (ix x1)))]) (d22 36 rfl) rfl rfl rfl ?_
            refine Ev.goto (t := 23) (d22 37 rfl) rfl ?_
            exact ih (x1 + (1 : Int32)) s7 (.val (.int (s.2 1 (ix x1)))) rfl _ hr
          · replace hr := (if_neg c5).symm.trans hr
            refine Ev.iinc (z := 1) (L' := [.val (.ref o), .val (.int (x1 + (1 : Int32))), .val (.int (s.2 1 (ix x1)))]) (d22 36 rfl) rfl rfl rfl ?_
            refine Ev.goto (t := 23) (d22 37 rfl) rfl ?_
            exact ih (x1 + (1 : Int32)) s (.val (.int (s.2 1 (ix x1)))) rfl _ hr
      · replace hr := (if_neg c2).symm.trans hr
        exact e_compileTable_67 hw V  s (.val (.int x1)) rfl y2 hy2 _ hr
    · replace hr := (if_neg c1).symm.trans hr
      exact e_compileTable_67 hw V  s (.val (.int x1)) rfl y2 hy2 _ hr
def f_compileTable_2 (n : Nat) : Nat → Int32 → St → Option (Int32 × St)
  | 0 => fun _ _ => none
  | k + 1 => fun x1 s =>
    if x1 < (64 : Int32) then
      grd (inb x1 64) <|
      bnd (setA s 12 (ix x1) ((0 : Int32) &&& 1)) fun s3 =>
      f_compileTable_2 n k (x1 + (1 : Int32)) s3
    else
      f_compileTable_23 n n (0 : Int32) s
set_option maxRecDepth 100000 in
theorem e_compileTable_2 {g : GT} {n : Nat} (hw : HW g) {K : St → MHeap} {o : Nat} {r : Nat → Nat} (V : View (GG g) Ln K o r) (k : Nat) : ∀ (x1 : Int32) (s : St) (y2 : Slot) (hy2 : one1 y2 = true) (w : Int32 × St), f_compileTable_2 n k x1 s = some w → Ev (GG g) M_compileTable 2 [.val (.ref o), .val (.int x1), y2] [] (K s) ((some (.int w.1)), (K w.2)) := by
  induction k with
  | zero => intro x1 s y2 hy2 w hr; rw [f_compileTable_2] at hr; cases hr
  | succ k ih =>
    intro x1 s y2 hy2 w hr
    rw [f_compileTable_2] at hr
    refine Ev.iloadN (d22 2 rfl) rfl ?_
    refine Ev.bipush (z := 64) (d22 3 rfl) rfl ?_
    refine Ev.icge (t := 21) (d22 4 rfl) rfl (fun c1 => ?_) (fun c1 => ?_)
    · replace hr := (if_pos c1).symm.trans hr
      refine Ev.aloadN (d22 5 rfl) rfl ?_
      refine Ev.gAr V (ww hw 39 rfl) (d22 6 rfl) (j := 12) rfl ?_
      refine Ev.iloadN (d22 7 rfl) rfl ?_
      refine Ev.iconst (z := 0) (d22 8 rfl) rfl ?_
      obtain ⟨b2, hr⟩ := grd_some hr
      refine Ev.bas V (j := 12) rfl rfl (d22 9 rfl) b2 ?_
      revert hr
      generalize setA s 12 (ix x1) ((0 : Int32) &&& 1) = s3
      intro hr
      replace hr := (bnd_eq _ _).symm.trans hr
      refine Ev.iinc (z := 1) (L' := [.val (.ref o), .val (.int (x1 + (1 : Int32))), y2]) (d22 10 rfl) rfl rfl rfl ?_
      refine Ev.goto (t := 2) (d22 11 rfl) rfl ?_
      exact ih (x1 + (1 : Int32)) s3 y2 hy2 _ hr
    · replace hr := (if_neg c1).symm.trans hr
      refine Ev.iconst (z := 0) (d22 12 rfl) rfl ?_
      refine Ev.istDN (L' := [.val (.ref o), .val (.int (0 : Int32)), y2]) (d22 13 rfl) rfl rfl rfl ?_
      exact e_compileTable_23 hw V  n (0 : Int32) s y2 hy2 _ hr
def f_compileTable (n : Nat) (s : St) : Option (Int32 × St) :=
  f_compileTable_2 n n (0 : Int32) s
set_option maxRecDepth 100000 in
theorem e_compileTable {g : GT} {n : Nat} {s : St} {w : Int32 × St} (hw : HW g) {K : St → MHeap} {o : Nat} {r : Nat → Nat} (V : View (GG g) Ln K o r) (hr : f_compileTable n s = some w) : EvC (GG g) M_compileTable [.ref o] (K s) ((some (.int w.1)), (K w.2)) := by
  refine EvC.enter (L0 := [.val (.ref o), .unset, .unset]) pl_compileTable (fun h => nomatch h) rfl rfl ?_
  unfold f_compileTable at hr
  refine Ev.iconst (z := 0) (d22 0 rfl) rfl ?_
  refine Ev.istDN (L' := [.val (.ref o), .val (.int (0 : Int32)), .unset]) (d22 1 rfl) rfl rfl rfl ?_
  exact e_compileTable_2 hw V  n (0 : Int32) s .unset rfl _ hr
def f_push (a0 : Int32) (a1 : Int32) (s : St) : Option (St) :=
  if (s.1 30) < (64 : Int32) then
    grd (inb (s.1 30) 64) <|
    bnd (setA s 17 (ix (s.1 30)) a0) fun s3 =>
    grd (inb (s3.1 30) 64) <|
    bnd (setA s3 18 (ix (s3.1 30)) a1) fun s5 =>
    grd (inb (s5.1 30) 64) <|
    bnd (setA s5 19 (ix (s5.1 30)) (0 : Int32)) fun s7 =>
    bnd (setI s7 30 ((s7.1 30) + (1 : Int32))) fun s8 =>
    some s8
  else
    some s
set_option maxRecDepth 100000 in
theorem e_push {g : GT} {a0 : Int32} {a1 : Int32} {s : St} {w : St} (hw : HW g) {K : St → MHeap} {o : Nat} {r : Nat → Nat} (V : View (GG g) Ln K o r) (hr : f_push a0 a1 s = some w) : EvC (GG g) M_push [.ref o, .int a0, .int a1] (K s) (none, (K w)) := by
  refine EvC.enter (L0 := [.val (.ref o), .val (.int a0), .val (.int a1)]) pl_push (fun _ => rfl) rfl rfl ?_
  unfold f_push at hr
  refine Ev.aloadN (d29 0 rfl) rfl ?_
  refine Ev.gI V (ww hw 188 rfl) (d29 1 rfl) (j := 30) rfl rfl ?_
  refine Ev.bipush (z := 64) (d29 2 rfl) rfl ?_
  refine Ev.iclt (t := 10) (d29 3 rfl) rfl (fun c1 => ?_) (fun c1 => ?_)
  · replace hr := (if_pos c1).symm.trans hr
    refine Ev.aloadN (d29 5 rfl) rfl ?_
    refine Ev.gAr V (ww hw 49 rfl) (d29 6 rfl) (j := 17) rfl ?_
    refine Ev.aloadN (d29 7 rfl) rfl ?_
    refine Ev.gI V (ww hw 188 rfl) (d29 8 rfl) (j := 30) rfl rfl ?_
    refine Ev.iloadN (d29 9 rfl) rfl ?_
    obtain ⟨b2, hr⟩ := grd_some hr
    refine Ev.ias V (j := 17) rfl rfl (d29 10 rfl) b2 ?_
    revert hr
    generalize setA s 17 (ix (s.1 30)) a0 = s3
    intro hr
    replace hr := (bnd_eq _ _).symm.trans hr
    refine Ev.aloadN (d29 11 rfl) rfl ?_
    refine Ev.gAr V (ww hw 51 rfl) (d29 12 rfl) (j := 18) rfl ?_
    refine Ev.aloadN (d29 13 rfl) rfl ?_
    refine Ev.gI V (ww hw 188 rfl) (d29 14 rfl) (j := 30) rfl rfl ?_
    refine Ev.iloadN (d29 15 rfl) rfl ?_
    obtain ⟨b4, hr⟩ := grd_some hr
    refine Ev.ias V (j := 18) rfl rfl (d29 16 rfl) b4 ?_
    revert hr
    generalize setA s3 18 (ix (s3.1 30)) a1 = s5
    intro hr
    replace hr := (bnd_eq _ _).symm.trans hr
    refine Ev.aloadN (d29 17 rfl) rfl ?_
    refine Ev.gAr V (ww hw 53 rfl) (d29 18 rfl) (j := 19) rfl ?_
    refine Ev.aloadN (d29 19 rfl) rfl ?_
    refine Ev.gI V (ww hw 188 rfl) (d29 20 rfl) (j := 30) rfl rfl ?_
    refine Ev.iconst (z := 0) (d29 21 rfl) rfl ?_
    obtain ⟨b6, hr⟩ := grd_some hr
    refine Ev.ias V (j := 19) rfl rfl (d29 22 rfl) b6 ?_
    revert hr
    generalize setA s5 19 (ix (s5.1 30)) (0 : Int32) = s7
    intro hr
    replace hr := (bnd_eq _ _).symm.trans hr
    refine Ev.aloadN (d29 23 rfl) rfl ?_
    refine Ev.dup (d29 24 rfl) rfl ?_
    refine Ev.gI V (ww hw 188 rfl) (d29 25 rfl) (j := 30) rfl rfl ?_
    refine Ev.iconst (z := 1) (d29 26 rfl) rfl ?_
    refine Ev.iadd (d29 27 rfl) ?_
    refine Ev.pI V (gok hw) (ww hw 188 rfl) (Or.inl (ww hw 189 rfl)) (d29 28 rfl) (j := 30) rfl ?_
    revert hr
    generalize setI s7 30 ((s7.1 30) + (1 : Int32)) = s8
    intro hr
    replace hr := (bnd_eq _ _).symm.trans hr
    cases hr
    exact Ev.vreturn rfl (d29 29 rfl)
  · replace hr := (if_neg c1).symm.trans hr
    cases hr
    exact Ev.vreturn rfl (d29 4 rfl)
def f_memoSlot (s : St) (a0 : Int32) (a1 : Int32) : Option (Int32) :=
  bnd ((a0 * (7919 : Int32)) + (a1 * (31 : Int32))) fun v1 =>
  some ((v1 ^^^ (XT.ushr v1 (11 : Int32))) &&& (1023 : Int32))
set_option maxRecDepth 100000 in
theorem e_memoSlot {g : GT} {s : St} {a0 : Int32} {a1 : Int32} {w : Int32} (hw : HW g) {K : St → MHeap} {o : Nat} {r : Nat → Nat} (V : View (GG g) Ln K o r) (hr : f_memoSlot s a0 a1 = some w) : EvC (GG g) M_memoSlot [.ref o, .int a0, .int a1] (K s) ((some (.int w)), (K s)) := by
  refine EvC.enter (L0 := [.val (.ref o), .val (.int a0), .val (.int a1), .unset]) pl_memoSlot (fun h => nomatch h) rfl rfl ?_
  unfold f_memoSlot at hr
  refine Ev.iloadN (d41 0 rfl) rfl ?_
  refine Ev.sipush (z := 7919) (d41 1 rfl) rfl ?_
  refine Ev.imul (d41 2 rfl) ?_
  refine Ev.iloadN (d41 3 rfl) rfl ?_
  refine Ev.bipush (z := 31) (d41 4 rfl) rfl ?_
  refine Ev.imul (d41 5 rfl) ?_
  refine Ev.iadd (d41 6 rfl) ?_
  revert hr
  generalize ((a0 * (7919 : Int32)) + (a1 * (31 : Int32))) = v1
  intro hr
  replace hr := (bnd_eq _ _).symm.trans hr
  refine Ev.istDN (L' := [.val (.ref o), .val (.int a0), .val (.int a1), .val (.int v1)]) (d41 7 rfl) rfl rfl rfl ?_
  refine Ev.iloadN (d41 8 rfl) rfl ?_
  refine Ev.iloadN (d41 9 rfl) rfl ?_
  refine Ev.bipush (z := 11) (d41 10 rfl) rfl ?_
  refine Ev.iushr (d41 11 rfl) ?_
  refine Ev.ixor (d41 12 rfl) ?_
  refine Ev.istDN (L' := [.val (.ref o), .val (.int a0), .val (.int a1), .val (.int (v1 ^^^ (XT.ushr v1 (11 : Int32))))]) (d41 13 rfl) rfl rfl rfl ?_
  refine Ev.iloadN (d41 14 rfl) rfl ?_
  refine Ev.sipush (z := 1023) (d41 15 rfl) rfl ?_
  refine Ev.iand (d41 16 rfl) ?_
  cases hr
  exact Ev.ireturn rfl (d41 17 rfl)
def f_memoFind_84 (n : Nat) (s : St) (k35 : Int32 → Int32 → Int32 → Int32 → Option (Int32)) (x3 : Int32) (x4 : Int32) (x5 : Int32) (x6 : Int32) : Option (Int32) :=
  k35 x3 x4 ((x5 + (1 : Int32)) &&& (1023 : Int32)) (x6 + (1 : Int32))
set_option maxRecDepth 100000 in
theorem e_memoFind_84 {g : GT} {n : Nat} {s : St} (hw : HW g) {K : St → MHeap} {o : Nat} {r : Nat → Nat} (V : View (GG g) Ln K o r) {k35 : Int32 → Int32 → Int32 → Int32 → Option (Int32)} (hk35 : ∀ (x3 : Int32) (x4 : Int32) (x5 : Int32) (x6 : Int32) (y1 : Slot) (hy1 : one1 y1 = true) (y2 : Slot) (hy2 : one1 y2 = true) (w : Int32), k35 x3 x4 x5 x6 = some w → Ev (GG g) M_memoFind 35 [.val (.ref o), y1, y2, .val (.int x3), .val (.int x4), .val (.int x5), .val (.int x6)] [] (K s) ((some (.int w)), (K s))) (x3 : Int32) (x4 : Int32) (x5 : Int32) (x6 : Int32) (y1 : Slot) (hy1 : one1 y1 = true) (y2 : Slot) (hy2 : one1 y2 = true) (w : Int32) (hr : f_memoFind_84 n s k35 x3 x4 x5 x6 = some w) : Ev (GG g) M_memoFind 84 [.val (.ref o), y1, y2, .val (.int x3), .val (.int x4), .val (.int x5), .val (.int x6)] [] (K s) ((some (.int w)), (K s)) := by
  unfold f_memoFind_84 at hr
  refine Ev.iload (d40 46 rfl) rfl ?_
  refine Ev.iconst (z := 1) (d40 47 rfl) rfl ?_
  refine Ev.iadd (d40 48 rfl) ?_
  refine Ev.sipush (z := 1023) (d40 49 rfl) rfl ?_
  refine Ev.iand (d40 50 rfl) ?_
  refine Ev.istD (L' := [.val (.ref o), y1, y2, .val (.int x3), .val (.int x4), .val (.int ((x5 + (1 : Int32)) &&& (1023 : Int32))), .val (.int x6)]) (d40 51 rfl) rfl rfl rfl ?_
  refine Ev.iinc (z := 1) (L' := [.val (.ref o), y1, y2, .val (.int x3), .val (.int x4), .val (.int ((x5 + (1 : Int32)) &&& (1023 : Int32))), .val (.int (x6 + (1 : Int32)))]) (d40 52 rfl) rfl rfl rfl ?_
  refine Ev.goto (t := 35) (d40 53 rfl) rfl ?_
  exact hk35 x3 x4 ((x5 + (1 : Int32)) &&& (1023 : Int32)) (x6 + (1 : Int32)) y1 hy1 y2 hy2 _ hr
def f_memoFind_35 (n : Nat) (s : St) : Nat → Int32 → Int32 → Int32 → Int32 → Option (Int32)
  | 0 => fun _ _ _ _ => none
  | k + 1 => fun x3 x4 x5 x6 =>
    if x6 < (1024 : Int32) then
      grd (inb x5 1024) <|
      if (s.2 16 (ix x5)) = 0 then
        some (-1 : Int32)
      else
        if (s.2 13 (ix x5)) = x3 then
          if (s.2 14 (ix x5)) = x4 then
            some (s.2 15 (ix x5))
          else
            f_memoFind_84 n s (f_memoFind_35 n s k) x3 x4 x5 x6
        else
          f_memoFind_84 n s (f_memoFind_35 n s k) x3 x4 x5 x6
    else
      some (-1 : Int32)
set_option maxRecDepth 100000 in
theorem e_memoFind_35 {g : GT} {n : Nat} {s : St} (hw : HW g) {K : St → MHeap} {o : Nat} {r : Nat → Nat} (V : View (GG g) Ln K o r) (k : Nat) : ∀ (x3 : Int32) (x4 : Int32) (x5 : Int32) (x6 : Int32) (y1 : Slot) (hy1 : one1 y1 = true) (y2 : Slot) (hy2 : one1 y2 = true) (w : Int32), f_memoFind_35 n s k x3 x4 x5 x6 = some w → Ev (GG g) M_memoFind 35 [.val (.ref o), y1, y2, .val (.int x3), .val (.int x4), .val (.int x5), .val (.int x6)] [] (K s) ((some (.int w)), (K s)) := by
  induction k with
  | zero => intro x3 x4 x5 x6 y1 hy1 y2 hy2 w hr; rw [f_memoFind_35] at hr; cases hr
  | succ k ih =>
    intro x3 x4 x5 x6 y1 hy1 y2 hy2 w hr
    rw [f_memoFind_35] at hr
    refine Ev.iload (d40 21 rfl) rfl ?_
    refine Ev.sipush (z := 1024) (d40 22 rfl) rfl ?_
    refine Ev.icge (t := 100) (d40 23 rfl) rfl (fun c1 => ?_) (fun c1 => ?_)
    · replace hr := (if_pos c1).symm.trans hr
      refine Ev.aloadN (d40 24 rfl) rfl ?_
      refine Ev.gAr V (ww hw 47 rfl) (d40 25 rfl) (j := 16) rfl ?_
      refine Ev.iload (d40 26 rfl) rfl ?_
      obtain ⟨b2, hr⟩ := grd_some hr
      refine Ev.bal V (j := 16) rfl rfl (d40 27 rfl) b2 ?_
      refine Ev.ifeq (t := 100) (d40 28 rfl) rfl (fun c3 => ?_) (fun c3 => ?_)
      · replace hr := (if_pos c3).symm.trans hr
        refine Ev.iconst (z := -1) (d40 54 rfl) rfl ?_
        cases hr
        exact Ev.ireturn rfl (d40 55 rfl)
      · replace hr := (if_neg c3).symm.trans hr
        refine Ev.aloadN (d40 29 rfl) rfl ?_
        refine Ev.gAr V (ww hw 41 rfl) (d40 30 rfl) (j := 13) rfl ?_
        refine Ev.iload (d40 31 rfl) rfl ?_
        refine Ev.ial V (j := 13) rfl rfl (d40 32 rfl) b2 ?_
        refine Ev.iloadN (d40 33 rfl) rfl ?_
        refine Ev.icne (t := 84) (d40 34 rfl) rfl (fun c4 => ?_) (fun c4 => ?_)
        · replace hr := (if_pos c4).symm.trans hr
          refine Ev.aloadN (d40 35 rfl) rfl ?_
          refine Ev.gAr V (ww hw 43 rfl) (d40 36 rfl) (j := 14) rfl ?_
          refine Ev.iload (d40 37 rfl) rfl ?_
          refine Ev.ial V (j := 14) rfl rfl (d40 38 rfl) b2 ?_
          refine Ev.iload (d40 39 rfl) rfl ?_
          refine Ev.icne (t := 84) (d40 40 rfl) rfl (fun c5 => ?_) (fun c5 => ?_)
          · replace hr := (if_pos c5).symm.trans hr
            refine Ev.aloadN (d40 41 rfl) rfl ?_
            refine Ev.gAr V (ww hw 45 rfl) (d40 42 rfl) (j := 15) rfl ?_
            refine Ev.iload (d40 43 rfl) rfl ?_
            refine Ev.ial V (j := 15) rfl rfl (d40 44 rfl) b2 ?_
            cases hr
            exact Ev.ireturn rfl (d40 45 rfl)
          · replace hr := (if_neg c5).symm.trans hr
            exact e_memoFind_84 hw V ih x3 x4 x5 x6 y1 hy1 y2 hy2 _ hr
        · replace hr := (if_neg c4).symm.trans hr
          exact e_memoFind_84 hw V ih x3 x4 x5 x6 y1 hy1 y2 hy2 _ hr
    · replace hr := (if_neg c1).symm.trans hr
      refine Ev.iconst (z := -1) (d40 54 rfl) rfl ?_
      cases hr
      exact Ev.ireturn rfl (d40 55 rfl)
def f_memoFind_21 (n : Nat) (s : St) (x3 : Int32) (z0 : Int32) : Option (Int32) :=
  (f_memoSlot s x3 z0).bind fun q1 =>
  f_memoFind_35 n s n x3 z0 q1 (0 : Int32)
set_option maxRecDepth 100000 in
theorem e_memoFind_21 {g : GT} {n : Nat} {s : St} (hw : HW g) {K : St → MHeap} {o : Nat} {r : Nat → Nat} (V : View (GG g) Ln K o r) (x3 : Int32) (z0 : Int32) (y1 : Slot) (hy1 : one1 y1 = true) (y2 : Slot) (hy2 : one1 y2 = true) (y4 : Slot) (hy4 : one1 y4 = true) (y5 : Slot) (hy5 : one1 y5 = true) (y6 : Slot) (hy6 : one1 y6 = true) (w : Int32) (hr : f_memoFind_21 n s x3 z0 = some w) : Ev (GG g) M_memoFind 21 [.val (.ref o), y1, y2, .val (.int x3), y4, y5, y6] [.int z0] (K s) ((some (.int w)), (K s)) := by
  unfold f_memoFind_21 at hr
  refine Ev.istD (L' := [.val (.ref o), y1, y2, .val (.int x3), .val (.int z0), y5, y6]) (d40 13 rfl) rfl hy4 rfl ?_
  refine Ev.aloadN (d40 14 rfl) rfl ?_
  refine Ev.iloadN (d40 15 rfl) rfl ?_
  refine Ev.iload (d40 16 rfl) rfl ?_
  obtain ⟨q1, hq2, hr⟩ := Option.bind_eq_some_iff.mp hr
  refine Ev.priv (y := M_memoSlot) (args := [.int x3, .int z0]) (rest := []) (gok hw) rfl nm_memoSlot (ww hw 245 rfl) (ww hw 246 rfl) (ww hw 247 rfl) (ww hw 248 rfl) (lenOf pd_memoSlot rfl) (d40 17 rfl) (V.2.1 s) (e_memoSlot hw V hq2) (by decide) (Nat.le_of_ble_eq_true rfl) rfl ?_
  refine Ev.istD (L' := [.val (.ref o), y1, y2, .val (.int x3), .val (.int z0), .val (.int q1), y6]) (d40 18 rfl) rfl hy5 rfl ?_
  refine Ev.iconst (z := 0) (d40 19 rfl) rfl ?_
  refine Ev.istD (L' := [.val (.ref o), y1, y2, .val (.int x3), .val (.int z0), .val (.int q1), .val (.int (0 : Int32))]) (d40 20 rfl) rfl hy6 rfl ?_
  exact e_memoFind_35 hw V  n x3 z0 q1 (0 : Int32) y1 hy1 y2 hy2 _ hr
def f_memoFind_10 (n : Nat) (s : St) (x1 : Int32) (x2 : Int32) (z0 : Int32) : Option (Int32) :=
  if x1 < x2 then
    f_memoFind_21 n s z0 x2
  else
    f_memoFind_21 n s z0 x1
set_option maxRecDepth 100000 in
theorem e_memoFind_10 {g : GT} {n : Nat} {s : St} (hw : HW g) {K : St → MHeap} {o : Nat} {r : Nat → Nat} (V : View (GG g) Ln K o r) (x1 : Int32) (x2 : Int32) (z0 : Int32) (y3 : Slot) (hy3 : one1 y3 = true) (y4 : Slot) (hy4 : one1 y4 = true) (y5 : Slot) (hy5 : one1 y5 = true) (y6 : Slot) (hy6 : one1 y6 = true) (w : Int32) (hr : f_memoFind_10 n s x1 x2 z0 = some w) : Ev (GG g) M_memoFind 10 [.val (.ref o), .val (.int x1), .val (.int x2), y3, y4, y5, y6] [.int z0] (K s) ((some (.int w)), (K s)) := by
  unfold f_memoFind_10 at hr
  refine Ev.istDN (L' := [.val (.ref o), .val (.int x1), .val (.int x2), .val (.int z0), y4, y5, y6]) (d40 6 rfl) rfl hy3 rfl ?_
  refine Ev.iloadN (d40 7 rfl) rfl ?_
  refine Ev.iloadN (d40 8 rfl) rfl ?_
  refine Ev.icge (t := 20) (d40 9 rfl) rfl (fun c1 => ?_) (fun c1 => ?_)
  · replace hr := (if_pos c1).symm.trans hr
    refine Ev.iloadN (d40 10 rfl) rfl ?_
    refine Ev.goto (t := 21) (d40 11 rfl) rfl ?_
    exact e_memoFind_21 hw V  z0 x2 (.val (.int x1)) rfl (.val (.int x2)) rfl y4 hy4 y5 hy5 y6 hy6 _ hr
  · replace hr := (if_neg c1).symm.trans hr
    refine Ev.iloadN (d40 12 rfl) rfl ?_
    exact e_memoFind_21 hw V  z0 x1 (.val (.int x1)) rfl (.val (.int x2)) rfl y4 hy4 y5 hy5 y6 hy6 _ hr
def f_memoFind (n : Nat) (s : St) (a0 : Int32) (a1 : Int32) : Option (Int32) :=
  if a0 < a1 then
    f_memoFind_10 n s a0 a1 a0
  else
    f_memoFind_10 n s a0 a1 a1
set_option maxRecDepth 100000 in
theorem e_memoFind {g : GT} {n : Nat} {s : St} {a0 : Int32} {a1 : Int32} {w : Int32} (hw : HW g) {K : St → MHeap} {o : Nat} {r : Nat → Nat} (V : View (GG g) Ln K o r) (hr : f_memoFind n s a0 a1 = some w) : EvC (GG g) M_memoFind [.ref o, .int a0, .int a1] (K s) ((some (.int w)), (K s)) := by
  refine EvC.enter (L0 := [.val (.ref o), .val (.int a0), .val (.int a1), .unset, .unset, .unset, .unset]) pl_memoFind (fun h => nomatch h) rfl rfl ?_
  unfold f_memoFind at hr
  refine Ev.iloadN (d40 0 rfl) rfl ?_
  refine Ev.iloadN (d40 1 rfl) rfl ?_
  refine Ev.icge (t := 9) (d40 2 rfl) rfl (fun c1 => ?_) (fun c1 => ?_)
  · replace hr := (if_pos c1).symm.trans hr
    refine Ev.iloadN (d40 3 rfl) rfl ?_
    refine Ev.goto (t := 10) (d40 4 rfl) rfl ?_
    exact e_memoFind_10 hw V  a0 a1 a0 .unset rfl .unset rfl .unset rfl .unset rfl _ hr
  · replace hr := (if_neg c1).symm.trans hr
    refine Ev.iloadN (d40 5 rfl) rfl ?_
    exact e_memoFind_10 hw V  a0 a1 a1 .unset rfl .unset rfl .unset rfl .unset rfl _ hr
def f_resolve (n : Nat) (s : St) (a0 : Int32) (a1 : Int32) : Option (Int32) :=
  if a0 = 0 then
    some (0 : Int32)
  else
    if a1 = 0 then
      some (0 : Int32)
    else
      if a0 = (1 : Int32) then
        some a1
      else
        if a1 = (1 : Int32) then
          some a0
        else
          if a0 = a1 then
            some a0
          else
            (f_memoFind n s a0 a1).bind fun q6 =>
            some q6
set_option maxRecDepth 100000 in
theorem e_resolve {g : GT} {n : Nat} {s : St} {a0 : Int32} {a1 : Int32} {w : Int32} (hw : HW g) {K : St → MHeap} {o : Nat} {r : Nat → Nat} (V : View (GG g) Ln K o r) (hr : f_resolve n s a0 a1 = some w) : EvC (GG g) M_resolve [.ref o, .int a0, .int a1] (K s) ((some (.int w)), (K s)) := by
  refine EvC.enter (L0 := [.val (.ref o), .val (.int a0), .val (.int a1)]) pl_resolve (fun h => nomatch h) rfl rfl ?_
  unfold f_resolve at hr
  refine Ev.iloadN (d31 0 rfl) rfl ?_
  refine Ev.ifeq (t := 8) (d31 1 rfl) rfl (fun c1 => ?_) (fun c1 => ?_)
  · replace hr := (if_pos c1).symm.trans hr
    refine Ev.iconst (z := 0) (d31 4 rfl) rfl ?_
    cases hr
    exact Ev.ireturn rfl (d31 5 rfl)
  · replace hr := (if_neg c1).symm.trans hr
    refine Ev.iloadN (d31 2 rfl) rfl ?_
    refine Ev.ifne (t := 10) (d31 3 rfl) rfl (fun c2 => ?_) (fun c2 => ?_)
    · replace hr := (if_pos c2).symm.trans hr
      refine Ev.iconst (z := 0) (d31 4 rfl) rfl ?_
      cases hr
      exact Ev.ireturn rfl (d31 5 rfl)
    · replace hr := (if_neg c2).symm.trans hr
      refine Ev.iloadN (d31 6 rfl) rfl ?_
      refine Ev.iconst (z := 1) (d31 7 rfl) rfl ?_
      refine Ev.icne (t := 17) (d31 8 rfl) rfl (fun c3 => ?_) (fun c3 => ?_)
      · replace hr := (if_pos c3).symm.trans hr
        refine Ev.iloadN (d31 9 rfl) rfl ?_
        cases hr
        exact Ev.ireturn rfl (d31 10 rfl)
      · replace hr := (if_neg c3).symm.trans hr
        refine Ev.iloadN (d31 11 rfl) rfl ?_
        refine Ev.iconst (z := 1) (d31 12 rfl) rfl ?_
        refine Ev.iceq (t := 27) (d31 13 rfl) rfl (fun c4 => ?_) (fun c4 => ?_)
        · replace hr := (if_pos c4).symm.trans hr
          refine Ev.iloadN (d31 17 rfl) rfl ?_
          cases hr
          exact Ev.ireturn rfl (d31 18 rfl)
        · replace hr := (if_neg c4).symm.trans hr
          refine Ev.iloadN (d31 14 rfl) rfl ?_
          refine Ev.iloadN (d31 15 rfl) rfl ?_
          refine Ev.icne (t := 29) (d31 16 rfl) rfl (fun c5 => ?_) (fun c5 => ?_)
          · replace hr := (if_pos c5).symm.trans hr
            refine Ev.iloadN (d31 17 rfl) rfl ?_
            cases hr
            exact Ev.ireturn rfl (d31 18 rfl)
          · replace hr := (if_neg c5).symm.trans hr
            refine Ev.aloadN (d31 19 rfl) rfl ?_
            refine Ev.iloadN (d31 20 rfl) rfl ?_
            refine Ev.iloadN (d31 21 rfl) rfl ?_
            obtain ⟨q6, hq7, hr⟩ := Option.bind_eq_some_iff.mp hr
            refine Ev.priv (y := M_memoFind) (args := [.int a0, .int a1]) (rest := []) (gok hw) rfl nm_memoFind (ww hw 241 rfl) (ww hw 242 rfl) (ww hw 243 rfl) (ww hw 244 rfl) (lenOf pd_memoFind rfl) (d31 22 rfl) (V.2.1 s) (e_memoFind hw V hq7) (by decide) (Nat.le_of_ble_eq_true rfl) rfl ?_
            cases hr
            exact Ev.ireturn rfl (d31 23 rfl)
def f_topLevel (s : St) (a0 : Int32) (a1 : Int32) : Option (Int32) :=
  grd (inb a0 2048) <|
  grd (inb a1 2048) <|
  if (s.2 5 (ix a0)) < (s.2 5 (ix a1)) then
    some (s.2 5 (ix a0))
  else
    some (s.2 5 (ix a1))
set_option maxRecDepth 100000 in
theorem e_topLevel {g : GT} {s : St} {a0 : Int32} {a1 : Int32} {w : Int32} (hw : HW g) {K : St → MHeap} {o : Nat} {r : Nat → Nat} (V : View (GG g) Ln K o r) (hr : f_topLevel s a0 a1 = some w) : EvC (GG g) M_topLevel [.ref o, .int a0, .int a1] (K s) ((some (.int w)), (K s)) := by
  refine EvC.enter (L0 := [.val (.ref o), .val (.int a0), .val (.int a1)]) pl_topLevel (fun h => nomatch h) rfl rfl ?_
  unfold f_topLevel at hr
  refine Ev.aloadN (d43 0 rfl) rfl ?_
  refine Ev.gAr V (ww hw 24 rfl) (d43 1 rfl) (j := 5) rfl ?_
  refine Ev.iloadN (d43 2 rfl) rfl ?_
  obtain ⟨b1, hr⟩ := grd_some hr
  refine Ev.ial V (j := 5) rfl rfl (d43 3 rfl) b1 ?_
  refine Ev.aloadN (d43 4 rfl) rfl ?_
  refine Ev.gAr V (ww hw 24 rfl) (d43 5 rfl) (j := 5) rfl ?_
  refine Ev.iloadN (d43 6 rfl) rfl ?_
  obtain ⟨b2, hr⟩ := grd_some hr
  refine Ev.ial V (j := 5) rfl rfl (d43 7 rfl) b2 ?_
  refine Ev.icge (t := 24) (d43 8 rfl) rfl (fun c3 => ?_) (fun c3 => ?_)
  · replace hr := (if_pos c3).symm.trans hr
    refine Ev.aloadN (d43 9 rfl) rfl ?_
    refine Ev.gAr V (ww hw 24 rfl) (d43 10 rfl) (j := 5) rfl ?_
    refine Ev.iloadN (d43 11 rfl) rfl ?_
    refine Ev.ial V (j := 5) rfl rfl (d43 12 rfl) b1 ?_
    refine Ev.goto (t := 30) (d43 13 rfl) rfl ?_
    cases hr
    exact Ev.ireturn rfl (d43 18 rfl)
  · replace hr := (if_neg c3).symm.trans hr
    refine Ev.aloadN (d43 14 rfl) rfl ?_
    refine Ev.gAr V (ww hw 24 rfl) (d43 15 rfl) (j := 5) rfl ?_
    refine Ev.iloadN (d43 16 rfl) rfl ?_
    refine Ev.ial V (j := 5) rfl rfl (d43 17 rfl) b2 ?_
    cases hr
    exact Ev.ireturn rfl (d43 18 rfl)
def f_cofactor (s : St) (a0 : Int32) (a1 : Int32) (a2 : Int32) : Option (Int32) :=
  grd (inb a0 2048) <|
  if (s.2 5 (ix a0)) = a1 then
    grd (inb ((a0 * (4 : Int32)) + a2) 8192) <|
    some (s.2 6 (ix ((a0 * (4 : Int32)) + a2)))
  else
    some a0
set_option maxRecDepth 100000 in
theorem e_cofactor {g : GT} {s : St} {a0 : Int32} {a1 : Int32} {a2 : Int32} {w : Int32} (hw : HW g) {K : St → MHeap} {o : Nat} {r : Nat → Nat} (V : View (GG g) Ln K o r) (hr : f_cofactor s a0 a1 a2 = some w) : EvC (GG g) M_cofactor [.ref o, .int a0, .int a1, .int a2] (K s) ((some (.int w)), (K s)) := by
  refine EvC.enter (L0 := [.val (.ref o), .val (.int a0), .val (.int a1), .val (.int a2)]) pl_cofactor (fun h => nomatch h) rfl rfl ?_
  unfold f_cofactor at hr
  refine Ev.aloadN (d44 0 rfl) rfl ?_
  refine Ev.gAr V (ww hw 24 rfl) (d44 1 rfl) (j := 5) rfl ?_
  refine Ev.iloadN (d44 2 rfl) rfl ?_
  obtain ⟨b1, hr⟩ := grd_some hr
  refine Ev.ial V (j := 5) rfl rfl (d44 3 rfl) b1 ?_
  refine Ev.iloadN (d44 4 rfl) rfl ?_
  refine Ev.icne (t := 23) (d44 5 rfl) rfl (fun c2 => ?_) (fun c2 => ?_)
  · replace hr := (if_pos c2).symm.trans hr
    refine Ev.aloadN (d44 6 rfl) rfl ?_
    refine Ev.gAr V (ww hw 26 rfl) (d44 7 rfl) (j := 6) rfl ?_
    refine Ev.iloadN (d44 8 rfl) rfl ?_
    refine Ev.iconst (z := 4) (d44 9 rfl) rfl ?_
    refine Ev.imul (d44 10 rfl) ?_
    refine Ev.iloadN (d44 11 rfl) rfl ?_
    refine Ev.iadd (d44 12 rfl) ?_
    obtain ⟨b3, hr⟩ := grd_some hr
    refine Ev.ial V (j := 6) rfl rfl (d44 13 rfl) b3 ?_
    refine Ev.goto (t := 24) (d44 14 rfl) rfl ?_
    cases hr
    exact Ev.ireturn rfl (d44 16 rfl)
  · replace hr := (if_neg c2).symm.trans hr
    refine Ev.iloadN (d44 15 rfl) rfl ?_
    cases hr
    exact Ev.ireturn rfl (d44 16 rfl)
def f_pushChildren_10 (n : Nat) : Nat → Int32 → Int32 → Int32 → Int32 → St → Option (St)
  | 0 => fun _ _ _ _ _ => none
  | k + 1 => fun x1 x2 x3 x4 s =>
    if x4 < (s.1 21) then
      (f_cofactor s x1 x3 x4).bind fun q2 =>
      (f_cofactor s x2 x3 x4).bind fun q4 =>
      (f_resolve n s q2 q4).bind fun q6 =>
      if q6 < 0 then
        (f_push q2 q4 s).bind fun q9 =>
        f_pushChildren_10 n k x1 x2 x3 (x4 + (1 : Int32)) q9
      else
        f_pushChildren_10 n k x1 x2 x3 (x4 + (1 : Int32)) s
    else
      some s
set_option maxRecDepth 100000 in
theorem e_pushChildren_10 {g : GT} {n : Nat} (hw : HW g) {K : St → MHeap} {o : Nat} {r : Nat → Nat} (V : View (GG g) Ln K o r) (k : Nat) : ∀ (x1 : Int32) (x2 : Int32) (x3 : Int32) (x4 : Int32) (s : St) (y5 : Slot) (hy5 : one1 y5 = true) (y6 : Slot) (hy6 : one1 y6 = true) (w : St), f_pushChildren_10 n k x1 x2 x3 x4 s = some w → Ev (GG g) M_pushChildren 10 [.val (.ref o), .val (.int x1), .val (.int x2), .val (.int x3), .val (.int x4), y5, y6] [] (K s) (none, (K w)) := by
  induction k with
  | zero => intro x1 x2 x3 x4 s y5 hy5 y6 hy6 w hr; rw [f_pushChildren_10] at hr; cases hr
  | succ k ih =>
    intro x1 x2 x3 x4 s y5 hy5 y6 hy6 w hr
    rw [f_pushChildren_10] at hr
    refine Ev.iload (d42 7 rfl) rfl ?_
    refine Ev.aloadN (d42 8 rfl) rfl ?_
    refine Ev.gI V (ww hw 57 rfl) (d42 9 rfl) (j := 21) rfl rfl ?_
    refine Ev.icge (t := 64) (d42 10 rfl) rfl (fun c1 => ?_) (fun c1 => ?_)
    · replace hr := (if_pos c1).symm.trans hr
      refine Ev.aloadN (d42 11 rfl) rfl ?_
      refine Ev.iloadN (d42 12 rfl) rfl ?_
      refine Ev.iloadN (d42 13 rfl) rfl ?_
      refine Ev.iload (d42 14 rfl) rfl ?_
      obtain ⟨q2, hq3, hr⟩ := Option.bind_eq_some_iff.mp hr
      refine Ev.priv (y := M_cofactor) (args := [.int x1, .int x3, .int x4]) (rest := []) (gok hw) rfl nm_cofactor (ww hw 257 rfl) (ww hw 258 rfl) (ww hw 259 rfl) (ww hw 260 rfl) (lenOf pd_cofactor rfl) (d42 15 rfl) (V.2.1 s) (e_cofactor hw V hq3) (by decide) (Nat.le_of_ble_eq_true rfl) rfl ?_
      refine Ev.istD (L' := [.val (.ref o), .val (.int x1), .val (.int x2), .val (.int x3), .val (.int x4), .val (.int q2), y6]) (d42 16 rfl) rfl hy5 rfl ?_
      refine Ev.aloadN (d42 17 rfl) rfl ?_
      refine Ev.iloadN (d42 18 rfl) rfl ?_
      refine Ev.iloadN (d42 19 rfl) rfl ?_
      refine Ev.iload (d42 20 rfl) rfl ?_
      obtain ⟨q4, hq5, hr⟩ := Option.bind_eq_some_iff.mp hr
      refine Ev.priv (y := M_cofactor) (args := [.int x2, .int x3, .int x4]) (rest := []) (gok hw) rfl nm_cofactor (ww hw 257 rfl) (ww hw 258 rfl) (ww hw 259 rfl) (ww hw 260 rfl) (lenOf pd_cofactor rfl) (d42 21 rfl) (V.2.1 s) (e_cofactor hw V hq5) (by decide) (Nat.le_of_ble_eq_true rfl) rfl ?_
      refine Ev.istD (L' := [.val (.ref o), .val (.int x1), .val (.int x2), .val (.int x3), .val (.int x4), .val (.int q2), .val (.int q4)]) (d42 22 rfl) rfl hy6 rfl ?_
      refine Ev.aloadN (d42 23 rfl) rfl ?_
      refine Ev.iload (d42 24 rfl) rfl ?_
      refine Ev.iload (d42 25 rfl) rfl ?_
      obtain ⟨q6, hq7, hr⟩ := Option.bind_eq_some_iff.mp hr
      refine Ev.priv (y := M_resolve) (args := [.int q2, .int q4]) (rest := []) (gok hw) rfl nm_resolve (ww hw 199 rfl) (ww hw 200 rfl) (ww hw 201 rfl) (ww hw 202 rfl) (lenOf pd_resolve rfl) (d42 26 rfl) (V.2.1 s) (e_resolve hw V hq7) (by decide) (Nat.le_of_ble_eq_true rfl) rfl ?_
      refine Ev.ifge (t := 58) (d42 27 rfl) rfl (fun c8 => ?_) (fun c8 => ?_)
      · replace hr := (if_pos c8).symm.trans hr
        refine Ev.aloadN (d42 28 rfl) rfl ?_
        refine Ev.iload (d42 29 rfl) rfl ?_
        refine Ev.iload (d42 30 rfl) rfl ?_
        obtain ⟨q9, hq10, hr⟩ := Option.bind_eq_some_iff.mp hr
        refine Ev.priv (y := M_push) (args := [.int q2, .int q4]) (rest := []) (gok hw) rfl nm_push (ww hw 190 rfl) (ww hw 191 rfl) (ww hw 192 rfl) (ww hw 193 rfl) (lenOf pd_push rfl) (d42 31 rfl) (V.2.1 s) (e_push hw V hq10) (by decide) (Nat.le_of_ble_eq_true rfl) rfl ?_
        refine Ev.iinc (z := 1) (L' := [.val (.ref o), .val (.int x1), .val (.int x2), .val (.int x3), .val (.int (x4 + (1 : Int32))), .val (.int q2), .val (.int q4)]) (d42 32 rfl) rfl rfl rfl ?_
        refine Ev.goto (t := 10) (d42 33 rfl) rfl ?_
        exact ih x1 x2 x3 (x4 + (1 : Int32)) q9 (.val (.int q2)) rfl (.val (.int q4)) rfl _ hr
      · replace hr := (if_neg c8).symm.trans hr
        refine Ev.iinc (z := 1) (L' := [.val (.ref o), .val (.int x1), .val (.int x2), .val (.int x3), .val (.int (x4 + (1 : Int32))), .val (.int q2), .val (.int q4)]) (d42 32 rfl) rfl rfl rfl ?_
        refine Ev.goto (t := 10) (d42 33 rfl) rfl ?_
        exact ih x1 x2 x3 (x4 + (1 : Int32)) s (.val (.int q2)) rfl (.val (.int q4)) rfl _ hr
    · replace hr := (if_neg c1).symm.trans hr
      cases hr
      exact Ev.vreturn rfl (d42 34 rfl)
def f_pushChildren (n : Nat) (a0 : Int32) (a1 : Int32) (s : St) : Option (St) :=
  (f_topLevel s a0 a1).bind fun q1 =>
  f_pushChildren_10 n n a0 a1 q1 (0 : Int32) s
set_option maxRecDepth 100000 in
theorem e_pushChildren {g : GT} {n : Nat} {a0 : Int32} {a1 : Int32} {s : St} {w : St} (hw : HW g) {K : St → MHeap} {o : Nat} {r : Nat → Nat} (V : View (GG g) Ln K o r) (hr : f_pushChildren n a0 a1 s = some w) : EvC (GG g) M_pushChildren [.ref o, .int a0, .int a1] (K s) (none, (K w)) := by
  refine EvC.enter (L0 := [.val (.ref o), .val (.int a0), .val (.int a1), .unset, .unset, .unset, .unset]) pl_pushChildren (fun _ => rfl) rfl rfl ?_
  unfold f_pushChildren at hr
  refine Ev.aloadN (d42 0 rfl) rfl ?_
  refine Ev.iloadN (d42 1 rfl) rfl ?_
  refine Ev.iloadN (d42 2 rfl) rfl ?_
  obtain ⟨q1, hq2, hr⟩ := Option.bind_eq_some_iff.mp hr
  refine Ev.priv (y := M_topLevel) (args := [.int a0, .int a1]) (rest := []) (gok hw) rfl nm_topLevel (ww hw 253 rfl) (ww hw 254 rfl) (ww hw 255 rfl) (ww hw 256 rfl) (lenOf pd_topLevel rfl) (d42 3 rfl) (V.2.1 s) (e_topLevel hw V hq2) (by decide) (Nat.le_of_ble_eq_true rfl) rfl ?_
  refine Ev.istDN (L' := [.val (.ref o), .val (.int a0), .val (.int a1), .val (.int q1), .unset, .unset, .unset]) (d42 4 rfl) rfl rfl rfl ?_
  refine Ev.iconst (z := 0) (d42 5 rfl) rfl ?_
  refine Ev.istD (L' := [.val (.ref o), .val (.int a0), .val (.int a1), .val (.int q1), .val (.int (0 : Int32)), .unset, .unset]) (d42 6 rfl) rfl rfl rfl ?_
  exact e_pushChildren_10 hw V  n a0 a1 q1 (0 : Int32) s .unset rfl .unset rfl _ hr
def f_childResult (n : Nat) (s : St) (a0 : Int32) (a1 : Int32) (a2 : Int32) (a3 : Int32) : Option (Int32) :=
  if a3 < (s.1 21) then
    (f_cofactor s a0 a2 a3).bind fun q2 =>
    (f_cofactor s a1 a2 a3).bind fun q4 =>
    (f_resolve n s q2 q4).bind fun q6 =>
    if q6 < 0 then
      some (0 : Int32)
    else
      some q6
  else
    some (0 : Int32)
set_option maxRecDepth 100000 in
theorem e_childResult {g : GT} {n : Nat} {s : St} {a0 : Int32} {a1 : Int32} {a2 : Int32} {a3 : Int32} {w : Int32} (hw : HW g) {K : St → MHeap} {o : Nat} {r : Nat → Nat} (V : View (GG g) Ln K o r) (hr : f_childResult n s a0 a1 a2 a3 = some w) : EvC (GG g) M_childResult [.ref o, .int a0, .int a1, .int a2, .int a3] (K s) ((some (.int w)), (K s)) := by
  refine EvC.enter (L0 := [.val (.ref o), .val (.int a0), .val (.int a1), .val (.int a2), .val (.int a3), .unset, .unset, .unset]) pl_childResult (fun h => nomatch h) rfl rfl ?_
  unfold f_childResult at hr
  refine Ev.iload (d46 0 rfl) rfl ?_
  refine Ev.aloadN (d46 1 rfl) rfl ?_
  refine Ev.gI V (ww hw 57 rfl) (d46 2 rfl) (j := 21) rfl rfl ?_
  refine Ev.iclt (t := 11) (d46 3 rfl) rfl (fun c1 => ?_) (fun c1 => ?_)
  · replace hr := (if_pos c1).symm.trans hr
    refine Ev.aloadN (d46 6 rfl) rfl ?_
    refine Ev.iloadN (d46 7 rfl) rfl ?_
    refine Ev.iloadN (d46 8 rfl) rfl ?_
    refine Ev.iload (d46 9 rfl) rfl ?_
    obtain ⟨q2, hq3, hr⟩ := Option.bind_eq_some_iff.mp hr
    refine Ev.priv (y := M_cofactor) (args := [.int a0, .int a2, .int a3]) (rest := []) (gok hw) rfl nm_cofactor (ww hw 257 rfl) (ww hw 258 rfl) (ww hw 259 rfl) (ww hw 260 rfl) (lenOf pd_cofactor rfl) (d46 10 rfl) (V.2.1 s) (e_cofactor hw V hq3) (by decide) (Nat.le_of_ble_eq_true rfl) rfl ?_
    refine Ev.istD (L' := [.val (.ref o), .val (.int a0), .val (.int a1), .val (.int a2), .val (.int a3), .val (.int q2), .unset, .unset]) (d46 11 rfl) rfl rfl rfl ?_
    refine Ev.aloadN (d46 12 rfl) rfl ?_
    refine Ev.iloadN (d46 13 rfl) rfl ?_
    refine Ev.iloadN (d46 14 rfl) rfl ?_
    refine Ev.iload (d46 15 rfl) rfl ?_
    obtain ⟨q4, hq5, hr⟩ := Option.bind_eq_some_iff.mp hr
    refine Ev.priv (y := M_cofactor) (args := [.int a1, .int a2, .int a3]) (rest := []) (gok hw) rfl nm_cofactor (ww hw 257 rfl) (ww hw 258 rfl) (ww hw 259 rfl) (ww hw 260 rfl) (lenOf pd_cofactor rfl) (d46 16 rfl) (V.2.1 s) (e_cofactor hw V hq5) (by decide) (Nat.le_of_ble_eq_true rfl) rfl ?_
    refine Ev.istD (L' := [.val (.ref o), .val (.int a0), .val (.int a1), .val (.int a2), .val (.int a3), .val (.int q2), .val (.int q4), .unset]) (d46 17 rfl) rfl rfl rfl ?_
    refine Ev.aloadN (d46 18 rfl) rfl ?_
    refine Ev.iload (d46 19 rfl) rfl ?_
    refine Ev.iload (d46 20 rfl) rfl ?_
    obtain ⟨q6, hq7, hr⟩ := Option.bind_eq_some_iff.mp hr
    refine Ev.priv (y := M_resolve) (args := [.int q2, .int q4]) (rest := []) (gok hw) rfl nm_resolve (ww hw 199 rfl) (ww hw 200 rfl) (ww hw 201 rfl) (ww hw 202 rfl) (lenOf pd_resolve rfl) (d46 21 rfl) (V.2.1 s) (e_resolve hw V hq7) (by decide) (Nat.le_of_ble_eq_true rfl) rfl ?_
    refine Ev.istD (L' := [.val (.ref o), .val (.int a0), .val (.int a1), .val (.int a2), .val (.int a3), .val (.int q2), .val (.int q4), .val (.int q6)]) (d46 22 rfl) rfl rfl rfl ?_
    refine Ev.iload (d46 23 rfl) rfl ?_
    refine Ev.ifge (t := 50) (d46 24 rfl) rfl (fun c8 => ?_) (fun c8 => ?_)
    · replace hr := (if_pos c8).symm.trans hr
      refine Ev.iconst (z := 0) (d46 25 rfl) rfl ?_
      refine Ev.goto (t := 52) (d46 26 rfl) rfl ?_
      cases hr
      exact Ev.ireturn rfl (d46 28 rfl)
    · replace hr := (if_neg c8).symm.trans hr
      refine Ev.iload (d46 27 rfl) rfl ?_
      cases hr
      exact Ev.ireturn rfl (d46 28 rfl)
  · replace hr := (if_neg c1).symm.trans hr
    refine Ev.iconst (z := 0) (d46 4 rfl) rfl ?_
    cases hr
    exact Ev.ireturn rfl (d46 5 rfl)
def f_memoStore_37 (n : Nat) : Nat → Int32 → Int32 → Int32 → Int32 → Int32 → St → Option (St)
  | 0 => fun _ _ _ _ _ _ => none
  | k + 1 => fun x3 x4 x5 x6 x7 s =>
    if x7 < (1024 : Int32) then
      grd (inb x6 1024) <|
      if (s.2 16 (ix x6)) = 0 then
        bnd (setA s 16 (ix x6) ((1 : Int32) &&& 1)) fun s4 =>
        bnd (setA s4 13 (ix x6) x4) fun s5 =>
        bnd (setA s5 14 (ix x6) x5) fun s6 =>
        bnd (setA s6 15 (ix x6) x3) fun s7 =>
        some s7
      else
        f_memoStore_37 n k x3 x4 x5 ((x6 + (1 : Int32)) &&& (1023 : Int32)) (x7 + (1 : Int32)) s
    else
      some s
set_option maxRecDepth 100000 in
theorem e_memoStore_37 {g : GT} {n : Nat} (hw : HW g) {K : St → MHeap} {o : Nat} {r : Nat → Nat} (V : View (GG g) Ln K o r) (k : Nat) : ∀ (x3 : Int32) (x4 : Int32) (x5 : Int32) (x6 : Int32) (x7 : Int32) (s : St) (y1 : Slot) (hy1 : one1 y1 = true) (y2 : Slot) (hy2 : one1 y2 = true) (w : St), f_memoStore_37 n k x3 x4 x5 x6 x7 s = some w → Ev (GG g) M_memoStore 37 [.val (.ref o), y1, y2, .val (.int x3), .val (.int x4), .val (.int x5), .val (.int x6), .val (.int x7)] [] (K s) (none, (K w)) := by
  induction k with
  | zero => intro x3 x4 x5 x6 x7 s y1 hy1 y2 hy2 w hr; rw [f_memoStore_37] at hr; cases hr
  | succ k ih =>
    intro x3 x4 x5 x6 x7 s y1 hy1 y2 hy2 w hr
    rw [f_memoStore_37] at hr
    refine Ev.iload (d47 21 rfl) rfl ?_
    refine Ev.sipush (z := 1024) (d47 22 rfl) rfl ?_
    refine Ev.icge (t := 106) (d47 23 rfl) rfl (fun c1 => ?_) (fun c1 => ?_)
    · replace hr := (if_pos c1).symm.trans hr
      refine Ev.aloadN (d47 24 rfl) rfl ?_
      refine Ev.gAr V (ww hw 47 rfl) (d47 25 rfl) (j := 16) rfl ?_
      refine Ev.iload (d47 26 rfl) rfl ?_
      obtain ⟨b2, hr⟩ := grd_some hr
      refine Ev.bal V (j := 16) rfl rfl (d47 27 rfl) b2 ?_
      refine Ev.ifne (t := 90) (d47 28 rfl) rfl (fun c3 => ?_) (fun c3 => ?_)
      · replace hr := (if_pos c3).symm.trans hr
        refine Ev.aloadN (d47 29 rfl) rfl ?_
        refine Ev.gAr V (ww hw 47 rfl) (d47 30 rfl) (j := 16) rfl ?_
        refine Ev.iload (d47 31 rfl) rfl ?_
        refine Ev.iconst (z := 1) (d47 32 rfl) rfl ?_
        refine Ev.bas V (j := 16) rfl rfl (d47 33 rfl) b2 ?_
        revert hr
        generalize setA s 16 (ix x6) ((1 : Int32) &&& 1) = s4
        intro hr
        replace hr := (bnd_eq _ _).symm.trans hr
        refine Ev.aloadN (d47 34 rfl) rfl ?_
        refine Ev.gAr V (ww hw 41 rfl) (d47 35 rfl) (j := 13) rfl ?_
        refine Ev.iload (d47 36 rfl) rfl ?_
        refine Ev.iload (d47 37 rfl) rfl ?_
        refine Ev.ias V (j := 13) rfl rfl (d47 38 rfl) b2 ?_
        revert hr
        generalize setA s4 13 (ix x6) x4 = s5
        intro hr
        replace hr := (bnd_eq _ _).symm.trans hr
        refine Ev.aloadN (d47 39 rfl) rfl ?_
        refine Ev.gAr V (ww hw 43 rfl) (d47 40 rfl) (j := 14) rfl ?_
        refine Ev.iload (d47 41 rfl) rfl ?_
        refine Ev.iload (d47 42 rfl) rfl ?_
        refine Ev.ias V (j := 14) rfl rfl (d47 43 rfl) b2 ?_
        revert hr
        generalize setA s5 14 (ix x6) x5 = s6
        intro hr
        replace hr := (bnd_eq _ _).symm.trans hr
        refine Ev.aloadN (d47 44 rfl) rfl ?_
        refine Ev.gAr V (ww hw 45 rfl) (d47 45 rfl) (j := 15) rfl ?_
        refine Ev.iload (d47 46 rfl) rfl ?_
        refine Ev.iloadN (d47 47 rfl) rfl ?_
        refine Ev.ias V (j := 15) rfl rfl (d47 48 rfl) b2 ?_
        revert hr
        generalize setA s6 15 (ix x6) x3 = s7
        intro hr
        replace hr := (bnd_eq _ _).symm.trans hr
        cases hr
        exact Ev.vreturn rfl (d47 49 rfl)
      · replace hr := (if_neg c3).symm.trans hr
        refine Ev.iload (d47 50 rfl) rfl ?_
        refine Ev.iconst (z := 1) (d47 51 rfl) rfl ?_
        refine Ev.iadd (d47 52 rfl) ?_
        refine Ev.sipush (z := 1023) (d47 53 rfl) rfl ?_
        refine Ev.iand (d47 54 rfl) ?_
        refine Ev.istD (L' := [.val (.ref o), y1, y2, .val (.int x3), .val (.int x4), .val (.int x5), .val (.int ((x6 + (1 : Int32)) &&& (1023 : Int32))), .val (.int x7)]) (d47 55 rfl) rfl rfl rfl ?_
        refine Ev.iinc (z := 1) (L' := [.val (.ref o), y1, y2, .val (.int x3), .val (.int x4), .val (.int x5), .val (.int ((x6 + (1 : Int32)) &&& (1023 : Int32))), .val (.int (x7 + (1 : Int32)))]) (d47 56 rfl) rfl rfl rfl ?_
        refine Ev.goto (t := 37) (d47 57 rfl) rfl ?_
        exact ih x3 x4 x5 ((x6 + (1 : Int32)) &&& (1023 : Int32)) (x7 + (1 : Int32)) s y1 hy1 y2 hy2 _ hr
    · replace hr := (if_neg c1).symm.trans hr
      cases hr
      exact Ev.vreturn rfl (d47 58 rfl)
def f_memoStore_22 (n : Nat) (x3 : Int32) (x4 : Int32) (z0 : Int32) (s : St) : Option (St) :=
  (f_memoSlot s x4 z0).bind fun q1 =>
  f_memoStore_37 n n x3 x4 z0 q1 (0 : Int32) s
set_option maxRecDepth 100000 in
theorem e_memoStore_22 {g : GT} {n : Nat} (hw : HW g) {K : St → MHeap} {o : Nat} {r : Nat → Nat} (V : View (GG g) Ln K o r) (x3 : Int32) (x4 : Int32) (z0 : Int32) (s : St) (y1 : Slot) (hy1 : one1 y1 = true) (y2 : Slot) (hy2 : one1 y2 = true) (y5 : Slot) (hy5 : one1 y5 = true) (y6 : Slot) (hy6 : one1 y6 = true) (y7 : Slot) (hy7 : one1 y7 = true) (w : St) (hr : f_memoStore_22 n x3 x4 z0 s = some w) : Ev (GG g) M_memoStore 22 [.val (.ref o), y1, y2, .val (.int x3), .val (.int x4), y5, y6, y7] [.int z0] (K s) (none, (K w)) := by
  unfold f_memoStore_22 at hr
  refine Ev.istD (L' := [.val (.ref o), y1, y2, .val (.int x3), .val (.int x4), .val (.int z0), y6, y7]) (d47 13 rfl) rfl hy5 rfl ?_
  refine Ev.aloadN (d47 14 rfl) rfl ?_
  refine Ev.iload (d47 15 rfl) rfl ?_
  refine Ev.iload (d47 16 rfl) rfl ?_
  obtain ⟨q1, hq2, hr⟩ := Option.bind_eq_some_iff.mp hr
  refine Ev.priv (y := M_memoSlot) (args := [.int x4, .int z0]) (rest := []) (gok hw) rfl nm_memoSlot (ww hw 245 rfl) (ww hw 246 rfl) (ww hw 247 rfl) (ww hw 248 rfl) (lenOf pd_memoSlot rfl) (d47 17 rfl) (V.2.1 s) (e_memoSlot hw V hq2) (by decide) (Nat.le_of_ble_eq_true rfl) rfl ?_
  refine Ev.istD (L' := [.val (.ref o), y1, y2, .val (.int x3), .val (.int x4), .val (.int z0), .val (.int q1), y7]) (d47 18 rfl) rfl hy6 rfl ?_
  refine Ev.iconst (z := 0) (d47 19 rfl) rfl ?_
  refine Ev.istD (L' := [.val (.ref o), y1, y2, .val (.int x3), .val (.int x4), .val (.int z0), .val (.int q1), .val (.int (0 : Int32))]) (d47 20 rfl) rfl hy7 rfl ?_
  exact e_memoStore_37 hw V  n x3 x4 z0 q1 (0 : Int32) s y1 hy1 y2 hy2 _ hr
def f_memoStore_10 (n : Nat) (x1 : Int32) (x2 : Int32) (x3 : Int32) (z0 : Int32) (s : St) : Option (St) :=
  if x1 < x2 then
    f_memoStore_22 n x3 z0 x2 s
  else
    f_memoStore_22 n x3 z0 x1 s
set_option maxRecDepth 100000 in
theorem e_memoStore_10 {g : GT} {n : Nat} (hw : HW g) {K : St → MHeap} {o : Nat} {r : Nat → Nat} (V : View (GG g) Ln K o r) (x1 : Int32) (x2 : Int32) (x3 : Int32) (z0 : Int32) (s : St) (y4 : Slot) (hy4 : one1 y4 = true) (y5 : Slot) (hy5 : one1 y5 = true) (y6 : Slot) (hy6 : one1 y6 = true) (y7 : Slot) (hy7 : one1 y7 = true) (w : St) (hr : f_memoStore_10 n x1 x2 x3 z0 s = some w) : Ev (GG g) M_memoStore 10 [.val (.ref o), .val (.int x1), .val (.int x2), .val (.int x3), y4, y5, y6, y7] [.int z0] (K s) (none, (K w)) := by
  unfold f_memoStore_10 at hr
  refine Ev.istD (L' := [.val (.ref o), .val (.int x1), .val (.int x2), .val (.int x3), .val (.int z0), y5, y6, y7]) (d47 6 rfl) rfl hy4 rfl ?_
  refine Ev.iloadN (d47 7 rfl) rfl ?_
  refine Ev.iloadN (d47 8 rfl) rfl ?_
  refine Ev.icge (t := 21) (d47 9 rfl) rfl (fun c1 => ?_) (fun c1 => ?_)
  · replace hr := (if_pos c1).symm.trans hr
    refine Ev.iloadN (d47 10 rfl) rfl ?_
    refine Ev.goto (t := 22) (d47 11 rfl) rfl ?_
    exact e_memoStore_22 hw V  x3 z0 x2 s (.val (.int x1)) rfl (.val (.int x2)) rfl y5 hy5 y6 hy6 y7 hy7 _ hr
  · replace hr := (if_neg c1).symm.trans hr
    refine Ev.iloadN (d47 12 rfl) rfl ?_
    exact e_memoStore_22 hw V  x3 z0 x1 s (.val (.int x1)) rfl (.val (.int x2)) rfl y5 hy5 y6 hy6 y7 hy7 _ hr
def f_memoStore (n : Nat) (a0 : Int32) (a1 : Int32) (a2 : Int32) (s : St) : Option (St) :=
  if a0 < a1 then
    f_memoStore_10 n a0 a1 a2 a0 s
  else
    f_memoStore_10 n a0 a1 a2 a1 s
set_option maxRecDepth 100000 in
theorem e_memoStore {g : GT} {n : Nat} {a0 : Int32} {a1 : Int32} {a2 : Int32} {s : St} {w : St} (hw : HW g) {K : St → MHeap} {o : Nat} {r : Nat → Nat} (V : View (GG g) Ln K o r) (hr : f_memoStore n a0 a1 a2 s = some w) : EvC (GG g) M_memoStore [.ref o, .int a0, .int a1, .int a2] (K s) (none, (K w)) := by
  refine EvC.enter (L0 := [.val (.ref o), .val (.int a0), .val (.int a1), .val (.int a2), .unset, .unset, .unset, .unset]) pl_memoStore (fun _ => rfl) rfl rfl ?_
  unfold f_memoStore at hr
  refine Ev.iloadN (d47 0 rfl) rfl ?_
  refine Ev.iloadN (d47 1 rfl) rfl ?_
  refine Ev.icge (t := 9) (d47 2 rfl) rfl (fun c1 => ?_) (fun c1 => ?_)
  · replace hr := (if_pos c1).symm.trans hr
    refine Ev.iloadN (d47 3 rfl) rfl ?_
    refine Ev.goto (t := 10) (d47 4 rfl) rfl ?_
    exact e_memoStore_10 hw V  a0 a1 a2 a0 s .unset rfl .unset rfl .unset rfl .unset rfl _ hr
  · replace hr := (if_neg c1).symm.trans hr
    refine Ev.iloadN (d47 5 rfl) rfl ?_
    exact e_memoStore_10 hw V  a0 a1 a2 a1 s .unset rfl .unset rfl .unset rfl .unset rfl _ hr
def f_finishPair (n : Nat) (a0 : Int32) (a1 : Int32) (s : St) : Option (St) :=
  (f_topLevel s a0 a1).bind fun q1 =>
  (f_childResult n s a0 a1 q1 (0 : Int32)).bind fun q3 =>
  (f_childResult n s a0 a1 q1 (1 : Int32)).bind fun q5 =>
  (f_childResult n s a0 a1 q1 (2 : Int32)).bind fun q7 =>
  (f_childResult n s a0 a1 q1 (3 : Int32)).bind fun q9 =>
  (f_mk n q1 q3 q5 q7 q9 s).bind fun q11 =>
  (f_memoStore n a0 a1 q11.1 q11.2).bind fun q13 =>
  some q13
set_option maxRecDepth 100000 in
theorem e_finishPair {g : GT} {n : Nat} {a0 : Int32} {a1 : Int32} {s : St} {w : St} (hw : HW g) {K : St → MHeap} {o : Nat} {r : Nat → Nat} (V : View (GG g) Ln K o r) (hr : f_finishPair n a0 a1 s = some w) : EvC (GG g) M_finishPair [.ref o, .int a0, .int a1] (K s) (none, (K w)) := by
  refine EvC.enter (L0 := [.val (.ref o), .val (.int a0), .val (.int a1), .unset, .unset, .unset, .unset, .unset, .unset]) pl_finishPair (fun _ => rfl) rfl rfl ?_
  unfold f_finishPair at hr
  refine Ev.aloadN (d45 0 rfl) rfl ?_
  refine Ev.iloadN (d45 1 rfl) rfl ?_
  refine Ev.iloadN (d45 2 rfl) rfl ?_
  obtain ⟨q1, hq2, hr⟩ := Option.bind_eq_some_iff.mp hr
  refine Ev.priv (y := M_topLevel) (args := [.int a0, .int a1]) (rest := []) (gok hw) rfl nm_topLevel (ww hw 253 rfl) (ww hw 254 rfl) (ww hw 255 rfl) (ww hw 256 rfl) (lenOf pd_topLevel rfl) (d45 3 rfl) (V.2.1 s) (e_topLevel hw V hq2) (by decide) (Nat.le_of_ble_eq_true rfl) rfl ?_
  refine Ev.istDN (L' := [.val (.ref o), .val (.int a0), .val (.int a1), .val (.int q1), .unset, .unset, .unset, .unset, .unset]) (d45 4 rfl) rfl rfl rfl ?_
  refine Ev.aloadN (d45 5 rfl) rfl ?_
  refine Ev.iloadN (d45 6 rfl) rfl ?_
  refine Ev.iloadN (d45 7 rfl) rfl ?_
  refine Ev.iloadN (d45 8 rfl) rfl ?_
  refine Ev.iconst (z := 0) (d45 9 rfl) rfl ?_
  obtain ⟨q3, hq4, hr⟩ := Option.bind_eq_some_iff.mp hr
  refine Ev.priv (y := M_childResult) (args := [.int a0, .int a1, .int q1, .int (0 : Int32)]) (rest := []) (gok hw) rfl nm_childResult (ww hw 265 rfl) (ww hw 266 rfl) (ww hw 267 rfl) (ww hw 268 rfl) (lenOf pd_childResult rfl) (d45 10 rfl) (V.2.1 s) (e_childResult hw V hq4) (by decide) (Nat.le_of_ble_eq_true rfl) rfl ?_
  refine Ev.istD (L' := [.val (.ref o), .val (.int a0), .val (.int a1), .val (.int q1), .val (.int q3), .unset, .unset, .unset, .unset]) (d45 11 rfl) rfl rfl rfl ?_
  refine Ev.aloadN (d45 12 rfl) rfl ?_
  refine Ev.iloadN (d45 13 rfl) rfl ?_
  refine Ev.iloadN (d45 14 rfl) rfl ?_
  refine Ev.iloadN (d45 15 rfl) rfl ?_
  refine Ev.iconst (z := 1) (d45 16 rfl) rfl ?_
  obtain ⟨q5, hq6, hr⟩ := Option.bind_eq_some_iff.mp hr
  refine Ev.priv (y := M_childResult) (args := [.int a0, .int a1, .int q1, .int (1 : Int32)]) (rest := []) (gok hw) rfl nm_childResult (ww hw 265 rfl) (ww hw 266 rfl) (ww hw 267 rfl) (ww hw 268 rfl) (lenOf pd_childResult rfl) (d45 17 rfl) (V.2.1 s) (e_childResult hw V hq6) (by decide) (Nat.le_of_ble_eq_true rfl) rfl ?_
  refine Ev.istD (L' := [.val (.ref o), .val (.int a0), .val (.int a1), .val (.int q1), .val (.int q3), .val (.int q5), .unset, .unset, .unset]) (d45 18 rfl) rfl rfl rfl ?_
  refine Ev.aloadN (d45 19 rfl) rfl ?_
  refine Ev.iloadN (d45 20 rfl) rfl ?_
  refine Ev.iloadN (d45 21 rfl) rfl ?_
  refine Ev.iloadN (d45 22 rfl) rfl ?_
  refine Ev.iconst (z := 2) (d45 23 rfl) rfl ?_
  obtain ⟨q7, hq8, hr⟩ := Option.bind_eq_some_iff.mp hr
  refine Ev.priv (y := M_childResult) (args := [.int a0, .int a1, .int q1, .int (2 : Int32)]) (rest := []) (gok hw) rfl nm_childResult (ww hw 265 rfl) (ww hw 266 rfl) (ww hw 267 rfl) (ww hw 268 rfl) (lenOf pd_childResult rfl) (d45 24 rfl) (V.2.1 s) (e_childResult hw V hq8) (by decide) (Nat.le_of_ble_eq_true rfl) rfl ?_
  refine Ev.istD (L' := [.val (.ref o), .val (.int a0), .val (.int a1), .val (.int q1), .val (.int q3), .val (.int q5), .val (.int q7), .unset, .unset]) (d45 25 rfl) rfl rfl rfl ?_
  refine Ev.aloadN (d45 26 rfl) rfl ?_
  refine Ev.iloadN (d45 27 rfl) rfl ?_
  refine Ev.iloadN (d45 28 rfl) rfl ?_
  refine Ev.iloadN (d45 29 rfl) rfl ?_
  refine Ev.iconst (z := 3) (d45 30 rfl) rfl ?_
  obtain ⟨q9, hq10, hr⟩ := Option.bind_eq_some_iff.mp hr
  refine Ev.priv (y := M_childResult) (args := [.int a0, .int a1, .int q1, .int (3 : Int32)]) (rest := []) (gok hw) rfl nm_childResult (ww hw 265 rfl) (ww hw 266 rfl) (ww hw 267 rfl) (ww hw 268 rfl) (lenOf pd_childResult rfl) (d45 31 rfl) (V.2.1 s) (e_childResult hw V hq10) (by decide) (Nat.le_of_ble_eq_true rfl) rfl ?_
  refine Ev.istD (L' := [.val (.ref o), .val (.int a0), .val (.int a1), .val (.int q1), .val (.int q3), .val (.int q5), .val (.int q7), .val (.int q9), .unset]) (d45 32 rfl) rfl rfl rfl ?_
  refine Ev.aloadN (d45 33 rfl) rfl ?_
  refine Ev.iloadN (d45 34 rfl) rfl ?_
  refine Ev.iload (d45 35 rfl) rfl ?_
  refine Ev.iload (d45 36 rfl) rfl ?_
  refine Ev.iload (d45 37 rfl) rfl ?_
  refine Ev.iload (d45 38 rfl) rfl ?_
  obtain ⟨q11, hq12, hr⟩ := Option.bind_eq_some_iff.mp hr
  refine Ev.priv (y := M_mk) (args := [.int q1, .int q3, .int q5, .int q7, .int q9]) (rest := []) (gok hw) rfl nm_mk (ww hw 180 rfl) (ww hw 181 rfl) (ww hw 182 rfl) (ww hw 183 rfl) (lenOf pd_mk rfl) (d45 39 rfl) (V.2.1 s) (e_mk hw V hq12) (by decide) (Nat.le_of_ble_eq_true rfl) rfl ?_
  refine Ev.istD (L' := [.val (.ref o), .val (.int a0), .val (.int a1), .val (.int q1), .val (.int q3), .val (.int q5), .val (.int q7), .val (.int q9), .val (.int q11.1)]) (d45 40 rfl) rfl rfl rfl ?_
  refine Ev.aloadN (d45 41 rfl) rfl ?_
  refine Ev.iloadN (d45 42 rfl) rfl ?_
  refine Ev.iloadN (d45 43 rfl) rfl ?_
  refine Ev.iload (d45 44 rfl) rfl ?_
  obtain ⟨q13, hq14, hr⟩ := Option.bind_eq_some_iff.mp hr
  refine Ev.priv (y := M_memoStore) (args := [.int a0, .int a1, .int q11.1]) (rest := []) (gok hw) rfl nm_memoStore (ww hw 269 rfl) (ww hw 270 rfl) (ww hw 271 rfl) (ww hw 272 rfl) (lenOf pd_memoStore rfl) (d45 45 rfl) (V.2.1 q11.2) (e_memoStore hw V hq14) (by decide) (Nat.le_of_ble_eq_true rfl) rfl ?_
  cases hr
  exact Ev.vreturn rfl (d45 46 rfl)
def f_step (n : Nat) (s : St) : Option (St) :=
  grd (inb ((s.1 30) - (1 : Int32)) 64) <|
  if (s.2 19 (ix ((s.1 30) - (1 : Int32)))) = 0 then
    (f_resolve n s (s.2 17 (ix ((s.1 30) - (1 : Int32)))) (s.2 18 (ix ((s.1 30) - (1 : Int32))))).bind fun q3 =>
    if q3 < 0 then
      bnd (setA s 19 (ix ((s.1 30) - (1 : Int32))) (1 : Int32)) fun s6 =>
      (f_pushChildren n (s.2 17 (ix ((s.1 30) - (1 : Int32)))) (s.2 18 (ix ((s.1 30) - (1 : Int32)))) s6).bind fun q7 =>
      some q7
    else
      bnd (setI s 30 ((s.1 30) - (1 : Int32))) fun s9 =>
      some s9
  else
    bnd (setI s 30 ((s.1 30) - (1 : Int32))) fun s10 =>
    (f_finishPair n (s.2 17 (ix ((s.1 30) - (1 : Int32)))) (s.2 18 (ix ((s.1 30) - (1 : Int32)))) s10).bind fun q11 =>
    some q11
set_option maxRecDepth 100000 in
theorem e_step {g : GT} {n : Nat} {s : St} {w : St} (hw : HW g) {K : St → MHeap} {o : Nat} {r : Nat → Nat} (V : View (GG g) Ln K o r) (hr : f_step n s = some w) : EvC (GG g) M_step [.ref o] (K s) (none, (K w)) := by
  refine EvC.enter (L0 := [.val (.ref o), .unset, .unset, .unset]) pl_step (fun _ => rfl) rfl rfl ?_
  unfold f_step at hr
  refine Ev.aloadN (d30 0 rfl) rfl ?_
  refine Ev.gI V (ww hw 188 rfl) (d30 1 rfl) (j := 30) rfl rfl ?_
  refine Ev.iconst (z := 1) (d30 2 rfl) rfl ?_
  refine Ev.isub (d30 3 rfl) ?_
  refine Ev.istDN (L' := [.val (.ref o), .val (.int ((s.1 30) - (1 : Int32))), .unset, .unset]) (d30 4 rfl) rfl rfl rfl ?_
  refine Ev.aloadN (d30 5 rfl) rfl ?_
  refine Ev.gAr V (ww hw 49 rfl) (d30 6 rfl) (j := 17) rfl ?_
  refine Ev.iloadN (d30 7 rfl) rfl ?_
  obtain ⟨b1, hr⟩ := grd_some hr
  refine Ev.ial V (j := 17) rfl rfl (d30 8 rfl) b1 ?_
  refine Ev.istDN (L' := [.val (.ref o), .val (.int ((s.1 30) - (1 : Int32))), .val (.int (s.2 17 (ix ((s.1 30) - (1 : Int32))))), .unset]) (d30 9 rfl) rfl rfl rfl ?_
  refine Ev.aloadN (d30 10 rfl) rfl ?_
  refine Ev.gAr V (ww hw 51 rfl) (d30 11 rfl) (j := 18) rfl ?_
  refine Ev.iloadN (d30 12 rfl) rfl ?_
  refine Ev.ial V (j := 18) rfl rfl (d30 13 rfl) b1 ?_
  refine Ev.istDN (L' := [.val (.ref o), .val (.int ((s.1 30) - (1 : Int32))), .val (.int (s.2 17 (ix ((s.1 30) - (1 : Int32))))), .val (.int (s.2 18 (ix ((s.1 30) - (1 : Int32)))))]) (d30 14 rfl) rfl rfl rfl ?_
  refine Ev.aloadN (d30 15 rfl) rfl ?_
  refine Ev.gAr V (ww hw 53 rfl) (d30 16 rfl) (j := 19) rfl ?_
  refine Ev.iloadN (d30 17 rfl) rfl ?_
  refine Ev.ial V (j := 19) rfl rfl (d30 18 rfl) b1 ?_
  refine Ev.ifne (t := 66) (d30 19 rfl) rfl (fun c2 => ?_) (fun c2 => ?_)
  · replace hr := (if_pos c2).symm.trans hr
    refine Ev.aloadN (d30 20 rfl) rfl ?_
    refine Ev.iloadN (d30 21 rfl) rfl ?_
    refine Ev.iloadN (d30 22 rfl) rfl ?_
    obtain ⟨q3, hq4, hr⟩ := Option.bind_eq_some_iff.mp hr
    refine Ev.priv (y := M_resolve) (args := [.int (s.2 17 (ix ((s.1 30) - (1 : Int32)))), .int (s.2 18 (ix ((s.1 30) - (1 : Int32))))]) (rest := []) (gok hw) rfl nm_resolve (ww hw 199 rfl) (ww hw 200 rfl) (ww hw 201 rfl) (ww hw 202 rfl) (lenOf pd_resolve rfl) (d30 23 rfl) (V.2.1 s) (e_resolve hw V hq4) (by decide) (Nat.le_of_ble_eq_true rfl) rfl ?_
    refine Ev.iflt (t := 50) (d30 24 rfl) rfl (fun c5 => ?_) (fun c5 => ?_)
    · replace hr := (if_pos c5).symm.trans hr
      refine Ev.aloadN (d30 32 rfl) rfl ?_
      refine Ev.gAr V (ww hw 53 rfl) (d30 33 rfl) (j := 19) rfl ?_
      refine Ev.iloadN (d30 34 rfl) rfl ?_
      refine Ev.iconst (z := 1) (d30 35 rfl) rfl ?_
      refine Ev.ias V (j := 19) rfl rfl (d30 36 rfl) b1 ?_
      revert hr
      generalize setA s 19 (ix ((s.1 30) - (1 : Int32))) (1 : Int32) = s6
      intro hr
      replace hr := (bnd_eq _ _).symm.trans hr
      refine Ev.aloadN (d30 37 rfl) rfl ?_
      refine Ev.iloadN (d30 38 rfl) rfl ?_
      refine Ev.iloadN (d30 39 rfl) rfl ?_
      obtain ⟨q7, hq8, hr⟩ := Option.bind_eq_some_iff.mp hr
      refine Ev.priv (y := M_pushChildren) (args := [.int (s.2 17 (ix ((s.1 30) - (1 : Int32)))), .int (s.2 18 (ix ((s.1 30) - (1 : Int32))))]) (rest := []) (gok hw) rfl nm_pushChildren (ww hw 249 rfl) (ww hw 250 rfl) (ww hw 251 rfl) (ww hw 252 rfl) (lenOf pd_pushChildren rfl) (d30 40 rfl) (V.2.1 s6) (e_pushChildren hw V hq8) (by decide) (Nat.le_of_ble_eq_true rfl) rfl ?_
      refine Ev.goto (t := 82) (d30 41 rfl) rfl ?_
      cases hr
      exact Ev.vreturn rfl (d30 52 rfl)
    · replace hr := (if_neg c5).symm.trans hr
      refine Ev.aloadN (d30 25 rfl) rfl ?_
      refine Ev.dup (d30 26 rfl) rfl ?_
      refine Ev.gI V (ww hw 188 rfl) (d30 27 rfl) (j := 30) rfl rfl ?_
      refine Ev.iconst (z := 1) (d30 28 rfl) rfl ?_
      refine Ev.isub (d30 29 rfl) ?_
      refine Ev.pI V (gok hw) (ww hw 188 rfl) (Or.inl (ww hw 189 rfl)) (d30 30 rfl) (j := 30) rfl ?_
      revert hr
      generalize setI s 30 ((s.1 30) - (1 : Int32)) = s9
      intro hr
      replace hr := (bnd_eq _ _).symm.trans hr
      cases hr
      exact Ev.vreturn rfl (d30 31 rfl)
  · replace hr := (if_neg c2).symm.trans hr
    refine Ev.aloadN (d30 42 rfl) rfl ?_
    refine Ev.dup (d30 43 rfl) rfl ?_
    refine Ev.gI V (ww hw 188 rfl) (d30 44 rfl) (j := 30) rfl rfl ?_
    refine Ev.iconst (z := 1) (d30 45 rfl) rfl ?_
    refine Ev.isub (d30 46 rfl) ?_
    refine Ev.pI V (gok hw) (ww hw 188 rfl) (Or.inl (ww hw 189 rfl)) (d30 47 rfl) (j := 30) rfl ?_
    revert hr
    generalize setI s 30 ((s.1 30) - (1 : Int32)) = s10
    intro hr
    replace hr := (bnd_eq _ _).symm.trans hr
    refine Ev.aloadN (d30 48 rfl) rfl ?_
    refine Ev.iloadN (d30 49 rfl) rfl ?_
    refine Ev.iloadN (d30 50 rfl) rfl ?_
    obtain ⟨q11, hq12, hr⟩ := Option.bind_eq_some_iff.mp hr
    refine Ev.priv (y := M_finishPair) (args := [.int (s.2 17 (ix ((s.1 30) - (1 : Int32)))), .int (s.2 18 (ix ((s.1 30) - (1 : Int32))))]) (rest := []) (gok hw) rfl nm_finishPair (ww hw 261 rfl) (ww hw 262 rfl) (ww hw 263 rfl) (ww hw 264 rfl) (lenOf pd_finishPair rfl) (d30 51 rfl) (V.2.1 s10) (e_finishPair hw V hq12) (by decide) (Nat.le_of_ble_eq_true rfl) rfl ?_
    cases hr
    exact Ev.vreturn rfl (d30 52 rfl)
def f_conjoin_58 (n : Nat) (x1 : Int32) (x2 : Int32) (s : St) : Option (Int32 × St) :=
  (f_resolve n s x1 x2).bind fun q1 =>
  if q1 < 0 then
    some ((0 : Int32), s)
  else
    some (q1, s)
set_option maxRecDepth 100000 in
theorem e_conjoin_58 {g : GT} {n : Nat} (hw : HW g) {K : St → MHeap} {o : Nat} {r : Nat → Nat} (V : View (GG g) Ln K o r) (x1 : Int32) (x2 : Int32) (s : St) (y3 : Slot) (hy3 : one1 y3 = true) (w : Int32 × St) (hr : f_conjoin_58 n x1 x2 s = some w) : Ev (GG g) M_conjoin 58 [.val (.ref o), .val (.int x1), .val (.int x2), y3] [] (K s) ((some (.int w.1)), (K w.2)) := by
  unfold f_conjoin_58 at hr
  refine Ev.aloadN (d28 31 rfl) rfl ?_
  refine Ev.iloadN (d28 32 rfl) rfl ?_
  refine Ev.iloadN (d28 33 rfl) rfl ?_
  obtain ⟨q1, hq2, hr⟩ := Option.bind_eq_some_iff.mp hr
  refine Ev.priv (y := M_resolve) (args := [.int x1, .int x2]) (rest := []) (gok hw) rfl nm_resolve (ww hw 199 rfl) (ww hw 200 rfl) (ww hw 201 rfl) (ww hw 202 rfl) (lenOf pd_resolve rfl) (d28 34 rfl) (V.2.1 s) (e_resolve hw V hq2) (by decide) (Nat.le_of_ble_eq_true rfl) rfl ?_
  refine Ev.istDN (L' := [.val (.ref o), .val (.int x1), .val (.int x2), .val (.int q1)]) (d28 35 rfl) rfl hy3 rfl ?_
  refine Ev.iloadN (d28 36 rfl) rfl ?_
  refine Ev.ifge (t := 73) (d28 37 rfl) rfl (fun c3 => ?_) (fun c3 => ?_)
  · replace hr := (if_pos c3).symm.trans hr
    refine Ev.iconst (z := 0) (d28 38 rfl) rfl ?_
    refine Ev.goto (t := 74) (d28 39 rfl) rfl ?_
    cases hr
    exact Ev.ireturn rfl (d28 41 rfl)
  · replace hr := (if_neg c3).symm.trans hr
    refine Ev.iloadN (d28 40 rfl) rfl ?_
    cases hr
    exact Ev.ireturn rfl (d28 41 rfl)
def f_conjoin_35 (n : Nat) : Nat → Int32 → Int32 → Int32 → St → Option (Int32 × St)
  | 0 => fun _ _ _ _ => none
  | k + 1 => fun x1 x2 x3 s =>
    if x3 < (200000 : Int32) then
      if 0 < (s.1 30) then
        (f_step n s).bind fun q3 =>
        f_conjoin_35 n k x1 x2 (x3 + (1 : Int32)) q3
      else
        f_conjoin_58 n x1 x2 s
    else
      f_conjoin_58 n x1 x2 s
set_option maxRecDepth 100000 in
theorem e_conjoin_35 {g : GT} {n : Nat} (hw : HW g) {K : St → MHeap} {o : Nat} {r : Nat → Nat} (V : View (GG g) Ln K o r) (k : Nat) : ∀ (x1 : Int32) (x2 : Int32) (x3 : Int32) (s : St) (w : Int32 × St), f_conjoin_35 n k x1 x2 x3 s = some w → Ev (GG g) M_conjoin 35 [.val (.ref o), .val (.int x1), .val (.int x2), .val (.int x3)] [] (K s) ((some (.int w.1)), (K w.2)) := by
  induction k with
  | zero => intro x1 x2 x3 s w hr; rw [f_conjoin_35] at hr; cases hr
  | succ k ih =>
    intro x1 x2 x3 s w hr
    rw [f_conjoin_35] at hr
    refine Ev.iloadN (d28 21 rfl) rfl ?_
    refine Ev.ldc (ww hw 194 rfl) (d28 22 rfl) ?_
    refine Ev.icge (t := 58) (d28 23 rfl) rfl (fun c1 => ?_) (fun c1 => ?_)
    · replace hr := (if_pos c1).symm.trans hr
      refine Ev.aloadN (d28 24 rfl) rfl ?_
      refine Ev.gI V (ww hw 188 rfl) (d28 25 rfl) (j := 30) rfl rfl ?_
      refine Ev.ifle (t := 58) (d28 26 rfl) rfl (fun c2 => ?_) (fun c2 => ?_)
      · replace hr := (if_pos c2).symm.trans hr
        refine Ev.aloadN (d28 27 rfl) rfl ?_
        obtain ⟨q3, hq4, hr⟩ := Option.bind_eq_some_iff.mp hr
        refine Ev.priv (y := M_step) (args := []) (rest := []) (gok hw) rfl nm_step (ww hw 195 rfl) (ww hw 196 rfl) (ww hw 197 rfl) (ww hw 198 rfl) (lenOf pd_step rfl) (d28 28 rfl) (V.2.1 s) (e_step hw V hq4) (by decide) (Nat.le_of_ble_eq_true rfl) rfl ?_
        refine Ev.iinc (z := 1) (L' := [.val (.ref o), .val (.int x1), .val (.int x2), .val (.int (x3 + (1 : Int32)))]) (d28 29 rfl) rfl rfl rfl ?_
        refine Ev.goto (t := 35) (d28 30 rfl) rfl ?_
        exact ih x1 x2 (x3 + (1 : Int32)) q3  _ hr
      · replace hr := (if_neg c2).symm.trans hr
        exact e_conjoin_58 hw V  x1 x2 s (.val (.int x3)) rfl _ hr
    · replace hr := (if_neg c1).symm.trans hr
      exact e_conjoin_58 hw V  x1 x2 s (.val (.int x3)) rfl _ hr
def f_conjoin_2 (n : Nat) : Nat → Int32 → Int32 → Int32 → St → Option (Int32 × St)
  | 0 => fun _ _ _ _ => none
  | k + 1 => fun x1 x2 x3 s =>
    if x3 < (1024 : Int32) then
      grd (inb x3 1024) <|
      bnd (setA s 16 (ix x3) ((0 : Int32) &&& 1)) fun s3 =>
      f_conjoin_2 n k x1 x2 (x3 + (1 : Int32)) s3
    else
      bnd (setI s 30 (0 : Int32)) fun s4 =>
      (f_push x1 x2 s4).bind fun q5 =>
      f_conjoin_35 n n x1 x2 (0 : Int32) q5
set_option maxRecDepth 100000 in
theorem e_conjoin_2 {g : GT} {n : Nat} (hw : HW g) {K : St → MHeap} {o : Nat} {r : Nat → Nat} (V : View (GG g) Ln K o r) (k : Nat) : ∀ (x1 : Int32) (x2 : Int32) (x3 : Int32) (s : St) (w : Int32 × St), f_conjoin_2 n k x1 x2 x3 s = some w → Ev (GG g) M_conjoin 2 [.val (.ref o), .val (.int x1), .val (.int x2), .val (.int x3)] [] (K s) ((some (.int w.1)), (K w.2)) := by
  induction k with
  | zero => intro x1 x2 x3 s w hr; rw [f_conjoin_2] at hr; cases hr
  | succ k ih =>
    intro x1 x2 x3 s w hr
    rw [f_conjoin_2] at hr
    refine Ev.iloadN (d28 2 rfl) rfl ?_
    refine Ev.sipush (z := 1024) (d28 3 rfl) rfl ?_
    refine Ev.icge (t := 22) (d28 4 rfl) rfl (fun c1 => ?_) (fun c1 => ?_)
    · replace hr := (if_pos c1).symm.trans hr
      refine Ev.aloadN (d28 5 rfl) rfl ?_
      refine Ev.gAr V (ww hw 47 rfl) (d28 6 rfl) (j := 16) rfl ?_
      refine Ev.iloadN (d28 7 rfl) rfl ?_
      refine Ev.iconst (z := 0) (d28 8 rfl) rfl ?_
      obtain ⟨b2, hr⟩ := grd_some hr
      refine Ev.bas V (j := 16) rfl rfl (d28 9 rfl) b2 ?_
      revert hr
      generalize setA s 16 (ix x3) ((0 : Int32) &&& 1) = s3
      intro hr
      replace hr := (bnd_eq _ _).symm.trans hr
      refine Ev.iinc (z := 1) (L' := [.val (.ref o), .val (.int x1), .val (.int x2), .val (.int (x3 + (1 : Int32)))]) (d28 10 rfl) rfl rfl rfl ?_
      refine Ev.goto (t := 2) (d28 11 rfl) rfl ?_
      exact ih x1 x2 (x3 + (1 : Int32)) s3  _ hr
    · replace hr := (if_neg c1).symm.trans hr
      refine Ev.aloadN (d28 12 rfl) rfl ?_
      refine Ev.iconst (z := 0) (d28 13 rfl) rfl ?_
      refine Ev.pI V (gok hw) (ww hw 188 rfl) (Or.inl (ww hw 189 rfl)) (d28 14 rfl) (j := 30) rfl ?_
      revert hr
      generalize setI s 30 (0 : Int32) = s4
      intro hr
      replace hr := (bnd_eq _ _).symm.trans hr
      refine Ev.aloadN (d28 15 rfl) rfl ?_
      refine Ev.iloadN (d28 16 rfl) rfl ?_
      refine Ev.iloadN (d28 17 rfl) rfl ?_
      obtain ⟨q5, hq6, hr⟩ := Option.bind_eq_some_iff.mp hr
      refine Ev.priv (y := M_push) (args := [.int x1, .int x2]) (rest := []) (gok hw) rfl nm_push (ww hw 190 rfl) (ww hw 191 rfl) (ww hw 192 rfl) (ww hw 193 rfl) (lenOf pd_push rfl) (d28 18 rfl) (V.2.1 s4) (e_push hw V hq6) (by decide) (Nat.le_of_ble_eq_true rfl) rfl ?_
      refine Ev.iconst (z := 0) (d28 19 rfl) rfl ?_
      refine Ev.istDN (L' := [.val (.ref o), .val (.int x1), .val (.int x2), .val (.int (0 : Int32))]) (d28 20 rfl) rfl rfl rfl ?_
      exact e_conjoin_35 hw V  n x1 x2 (0 : Int32) q5  _ hr
def f_conjoin (n : Nat) (a0 : Int32) (a1 : Int32) (s : St) : Option (Int32 × St) :=
  f_conjoin_2 n n a0 a1 (0 : Int32) s
set_option maxRecDepth 100000 in
theorem e_conjoin {g : GT} {n : Nat} {a0 : Int32} {a1 : Int32} {s : St} {w : Int32 × St} (hw : HW g) {K : St → MHeap} {o : Nat} {r : Nat → Nat} (V : View (GG g) Ln K o r) (hr : f_conjoin n a0 a1 s = some w) : EvC (GG g) M_conjoin [.ref o, .int a0, .int a1] (K s) ((some (.int w.1)), (K w.2)) := by
  refine EvC.enter (L0 := [.val (.ref o), .val (.int a0), .val (.int a1), .unset]) pl_conjoin (fun h => nomatch h) rfl rfl ?_
  unfold f_conjoin at hr
  refine Ev.iconst (z := 0) (d28 0 rfl) rfl ?_
  refine Ev.istDN (L' := [.val (.ref o), .val (.int a0), .val (.int a1), .val (.int (0 : Int32))]) (d28 1 rfl) rfl rfl rfl ?_
  exact e_conjoin_2 hw V  n a0 a1 (0 : Int32) s  _ hr
def f_commitTable_63 (n : Nat) (s : St) : Option (Int32 × St) :=
  bnd (setI s 24 ((0 : Int32) &&& 1)) fun s1 =>
  bnd (setI s1 29 (0 : Int32)) fun s2 =>
  some ((0 : Int32), s2)
set_option maxRecDepth 100000 in
theorem e_commitTable_63 {g : GT} {n : Nat} (hw : HW g) {K : St → MHeap} {o : Nat} {r : Nat → Nat} (V : View (GG g) Ln K o r) (s : St) (y1 : Slot) (hy1 : one1 y1 = true) (y2 : Slot) (hy2 : one1 y2 = true) (w : Int32 × St) (hr : f_commitTable_63 n s = some w) : Ev (GG g) M_commitTable 63 [.val (.ref o), y1, y2] [] (K s) ((some (.int w.1)), (K w.2)) := by
  unfold f_commitTable_63 at hr
  refine Ev.aloadN (d19 35 rfl) rfl ?_
  refine Ev.iconst (z := 0) (d19 36 rfl) rfl ?_
  refine Ev.pZ V (gok hw) (ww hw 67 rfl) (Or.inl (ww hw 68 rfl)) (d19 37 rfl) (j := 24) rfl ?_
  revert hr
  generalize setI s 24 ((0 : Int32) &&& 1) = s1
  intro hr
  replace hr := (bnd_eq _ _).symm.trans hr
  refine Ev.aloadN (d19 38 rfl) rfl ?_
  refine Ev.iconst (z := 0) (d19 39 rfl) rfl ?_
  refine Ev.pI V (gok hw) (ww hw 144 rfl) (Or.inl (ww hw 145 rfl)) (d19 40 rfl) (j := 29) rfl ?_
  revert hr
  generalize setI s1 29 (0 : Int32) = s2
  intro hr
  replace hr := (bnd_eq _ _).symm.trans hr
  refine Ev.iconst (z := 0) (d19 41 rfl) rfl ?_
  cases hr
  exact Ev.ireturn rfl (d19 42 rfl)
def f_commitTable (n : Nat) (s : St) : Option (Int32 × St) :=
  if (s.1 24) = 0 then
    some ((-4 : Int32), s)
  else
    if (s.1 23) < (8 : Int32) then
      (f_ensureRoom s).bind fun q3 =>
      (f_compileTable n s).bind fun q5 =>
      grd (inb (q5.2.1 23) 9) <|
      (f_conjoin n (q5.2.2 0 (ix (q5.2.1 23))) q5.1 q5.2).bind fun q8 =>
      bnd (setI q8.2 23 ((q8.2.1 23) + (1 : Int32))) fun s10 =>
      grd (inb (s10.1 23) 9) <|
      bnd (setA s10 0 (ix (s10.1 23)) q8.1) fun s12 =>
      f_commitTable_63 n s12
    else
      f_commitTable_63 n s
set_option maxRecDepth 100000 in
theorem e_commitTable {g : GT} {n : Nat} {s : St} {w : Int32 × St} (hw : HW g) {K : St → MHeap} {o : Nat} {r : Nat → Nat} (V : View (GG g) Ln K o r) (hr : f_commitTable n s = some w) : EvC (GG g) M_commitTable [.ref o] (K s) ((some (.int w.1)), (K w.2)) := by
  refine EvC.enter (L0 := [.val (.ref o), .unset, .unset]) pl_commitTable (fun h => nomatch h) rfl rfl ?_
  unfold f_commitTable at hr
  refine Ev.aloadN (d19 0 rfl) rfl ?_
  refine Ev.gI V (ww hw 67 rfl) (d19 1 rfl) (j := 24) rfl rfl ?_
  refine Ev.ifne (t := 10) (d19 2 rfl) rfl (fun c1 => ?_) (fun c1 => ?_)
  · replace hr := (if_pos c1).symm.trans hr
    refine Ev.bipush (z := -4) (d19 3 rfl) rfl ?_
    cases hr
    exact Ev.ireturn rfl (d19 4 rfl)
  · replace hr := (if_neg c1).symm.trans hr
    refine Ev.aloadN (d19 5 rfl) rfl ?_
    refine Ev.gI V (ww hw 65 rfl) (d19 6 rfl) (j := 23) rfl rfl ?_
    refine Ev.bipush (z := 8) (d19 7 rfl) rfl ?_
    refine Ev.icge (t := 63) (d19 8 rfl) rfl (fun c2 => ?_) (fun c2 => ?_)
    · replace hr := (if_pos c2).symm.trans hr
      refine Ev.aloadN (d19 9 rfl) rfl ?_
      obtain ⟨q3, hq4, hr⟩ := Option.bind_eq_some_iff.mp hr
      refine Ev.priv (y := M_ensureRoom) (args := []) (rest := []) (gok hw) rfl nm_ensureRoom (ww hw 156 rfl) (ww hw 157 rfl) (ww hw 158 rfl) (ww hw 159 rfl) (lenOf pd_ensureRoom rfl) (d19 10 rfl) (V.2.1 s) (e_ensureRoom hw V hq4) (by decide) (Nat.le_of_ble_eq_true rfl) rfl ?_
      refine Ev.aloadN (d19 11 rfl) rfl ?_
      obtain ⟨q5, hq6, hr⟩ := Option.bind_eq_some_iff.mp hr
      refine Ev.priv (y := M_compileTable) (args := []) (rest := []) (gok hw) rfl nm_compileTable (ww hw 160 rfl) (ww hw 161 rfl) (ww hw 162 rfl) (ww hw 163 rfl) (lenOf pd_compileTable rfl) (d19 12 rfl) (V.2.1 s) (e_compileTable hw V hq6) (by decide) (Nat.le_of_ble_eq_true rfl) rfl ?_
      refine Ev.istDN (L' := [.val (.ref o), .val (.int q5.1), .unset]) (d19 13 rfl) rfl rfl rfl ?_
      refine Ev.aloadN (d19 14 rfl) rfl ?_
      refine Ev.aloadN (d19 15 rfl) rfl ?_
      refine Ev.gAr V (ww hw 14 rfl) (d19 16 rfl) (j := 0) rfl ?_
      refine Ev.aloadN (d19 17 rfl) rfl ?_
      refine Ev.gI V (ww hw 65 rfl) (d19 18 rfl) (j := 23) rfl rfl ?_
      obtain ⟨b7, hr⟩ := grd_some hr
      refine Ev.ial V (j := 0) rfl rfl (d19 19 rfl) b7 ?_
      refine Ev.iloadN (d19 20 rfl) rfl ?_
      obtain ⟨q8, hq9, hr⟩ := Option.bind_eq_some_iff.mp hr
      refine Ev.priv (y := M_conjoin) (args := [.int (q5.2.2 0 (ix (q5.2.1 23))), .int q5.1]) (rest := []) (gok hw) rfl nm_conjoin (ww hw 184 rfl) (ww hw 185 rfl) (ww hw 186 rfl) (ww hw 187 rfl) (lenOf pd_conjoin rfl) (d19 21 rfl) (V.2.1 q5.2) (e_conjoin hw V hq9) (by decide) (Nat.le_of_ble_eq_true rfl) rfl ?_
      refine Ev.istDN (L' := [.val (.ref o), .val (.int q5.1), .val (.int q8.1)]) (d19 22 rfl) rfl rfl rfl ?_
      refine Ev.aloadN (d19 23 rfl) rfl ?_
      refine Ev.dup (d19 24 rfl) rfl ?_
      refine Ev.gI V (ww hw 65 rfl) (d19 25 rfl) (j := 23) rfl rfl ?_
      refine Ev.iconst (z := 1) (d19 26 rfl) rfl ?_
      refine Ev.iadd (d19 27 rfl) ?_
      refine Ev.pI V (gok hw) (ww hw 65 rfl) (Or.inl (ww hw 66 rfl)) (d19 28 rfl) (j := 23) rfl ?_
      revert hr
      generalize setI q8.2 23 ((q8.2.1 23) + (1 : Int32)) = s10
      intro hr
      replace hr := (bnd_eq _ _).symm.trans hr
      refine Ev.aloadN (d19 29 rfl) rfl ?_
      refine Ev.gAr V (ww hw 14 rfl) (d19 30 rfl) (j := 0) rfl ?_
      refine Ev.aloadN (d19 31 rfl) rfl ?_
      refine Ev.gI V (ww hw 65 rfl) (d19 32 rfl) (j := 23) rfl rfl ?_
      refine Ev.iloadN (d19 33 rfl) rfl ?_
      obtain ⟨b11, hr⟩ := grd_some hr
      refine Ev.ias V (j := 0) rfl rfl (d19 34 rfl) b11 ?_
      revert hr
      generalize setA s10 0 (ix (s10.1 23)) q8.1 = s12
      intro hr
      replace hr := (bnd_eq _ _).symm.trans hr
      exact e_commitTable_63 hw V  s12 (.val (.int q5.1)) rfl (.val (.int q8.1)) rfl _ hr
    · replace hr := (if_neg c2).symm.trans hr
      exact e_commitTable_63 hw V  s .unset rfl .unset rfl _ hr
def f_abortTable (s : St) : Option (Int32 × St) :=
  if (s.1 24) = 0 then
    some ((-4 : Int32), s)
  else
    bnd (setI s 24 ((0 : Int32) &&& 1)) fun s2 =>
    bnd (setI s2 29 (0 : Int32)) fun s3 =>
    some ((0 : Int32), s3)
set_option maxRecDepth 100000 in
theorem e_abortTable {g : GT} {s : St} {w : Int32 × St} (hw : HW g) {K : St → MHeap} {o : Nat} {r : Nat → Nat} (V : View (GG g) Ln K o r) (hr : f_abortTable s = some w) : EvC (GG g) M_abortTable [.ref o] (K s) ((some (.int w.1)), (K w.2)) := by
  refine EvC.enter (L0 := [.val (.ref o)]) pl_abortTable (fun h => nomatch h) rfl rfl ?_
  unfold f_abortTable at hr
  refine Ev.aloadN (d33 0 rfl) rfl ?_
  refine Ev.gI V (ww hw 67 rfl) (d33 1 rfl) (j := 24) rfl rfl ?_
  refine Ev.ifne (t := 10) (d33 2 rfl) rfl (fun c1 => ?_) (fun c1 => ?_)
  · replace hr := (if_pos c1).symm.trans hr
    refine Ev.bipush (z := -4) (d33 3 rfl) rfl ?_
    cases hr
    exact Ev.ireturn rfl (d33 4 rfl)
  · replace hr := (if_neg c1).symm.trans hr
    refine Ev.aloadN (d33 5 rfl) rfl ?_
    refine Ev.iconst (z := 0) (d33 6 rfl) rfl ?_
    refine Ev.pZ V (gok hw) (ww hw 67 rfl) (Or.inl (ww hw 68 rfl)) (d33 7 rfl) (j := 24) rfl ?_
    revert hr
    generalize setI s 24 ((0 : Int32) &&& 1) = s2
    intro hr
    replace hr := (bnd_eq _ _).symm.trans hr
    refine Ev.aloadN (d33 8 rfl) rfl ?_
    refine Ev.iconst (z := 0) (d33 9 rfl) rfl ?_
    refine Ev.pI V (gok hw) (ww hw 144 rfl) (Or.inl (ww hw 145 rfl)) (d33 10 rfl) (j := 29) rfl ?_
    revert hr
    generalize setI s2 29 (0 : Int32) = s3
    intro hr
    replace hr := (bnd_eq _ _).symm.trans hr
    refine Ev.iconst (z := 0) (d33 11 rfl) rfl ?_
    cases hr
    exact Ev.ireturn rfl (d33 12 rfl)
def f_dropLastTable (s : St) : Option (Int32 × St) :=
  if 0 < (s.1 23) then
    bnd (setI s 23 ((s.1 23) - (1 : Int32))) fun s2 =>
    some ((0 : Int32), s2)
  else
    some ((-10 : Int32), s)
set_option maxRecDepth 100000 in
theorem e_dropLastTable {g : GT} {s : St} {w : Int32 × St} (hw : HW g) {K : St → MHeap} {o : Nat} {r : Nat → Nat} (V : View (GG g) Ln K o r) (hr : f_dropLastTable s = some w) : EvC (GG g) M_dropLastTable [.ref o] (K s) ((some (.int w.1)), (K w.2)) := by
  refine EvC.enter (L0 := [.val (.ref o)]) pl_dropLastTable (fun h => nomatch h) rfl rfl ?_
  unfold f_dropLastTable at hr
  refine Ev.aloadN (d20 0 rfl) rfl ?_
  refine Ev.gI V (ww hw 65 rfl) (d20 1 rfl) (j := 23) rfl rfl ?_
  refine Ev.ifgt (t := 10) (d20 2 rfl) rfl (fun c1 => ?_) (fun c1 => ?_)
  · replace hr := (if_pos c1).symm.trans hr
    refine Ev.aloadN (d20 5 rfl) rfl ?_
    refine Ev.dup (d20 6 rfl) rfl ?_
    refine Ev.gI V (ww hw 65 rfl) (d20 7 rfl) (j := 23) rfl rfl ?_
    refine Ev.iconst (z := 1) (d20 8 rfl) rfl ?_
    refine Ev.isub (d20 9 rfl) ?_
    refine Ev.pI V (gok hw) (ww hw 65 rfl) (Or.inl (ww hw 66 rfl)) (d20 10 rfl) (j := 23) rfl ?_
    revert hr
    generalize setI s 23 ((s.1 23) - (1 : Int32)) = s2
    intro hr
    replace hr := (bnd_eq _ _).symm.trans hr
    refine Ev.iconst (z := 0) (d20 11 rfl) rfl ?_
    cases hr
    exact Ev.ireturn rfl (d20 12 rfl)
  · replace hr := (if_neg c1).symm.trans hr
    refine Ev.bipush (z := -10) (d20 3 rfl) rfl ?_
    cases hr
    exact Ev.ireturn rfl (d20 4 rfl)
def f_choose (n : Nat) (a0 : Int32) (a1 : Int32) (s : St) : Option (Int32 × St) :=
  (f_validVar s a0).bind fun q1 =>
  if q1 = 0 then
    some ((-1 : Int32), s)
  else
    (f_validValue s a1).bind fun q4 =>
    if q4 = 0 then
      some ((-2 : Int32), s)
    else
      grd (inb a0 5) <|
      if (s.2 2 (ix a0)) < 0 then
        (f_countWith n a0 a1 s).bind fun q9 =>
        if q9.1 = 0 then
          some ((-7 : Int32), q9.2)
        else
          bnd (setA q9.2 2 (ix a0) a1) fun s12 =>
          some ((0 : Int32), s12)
      else
        some ((-8 : Int32), s)
set_option maxRecDepth 100000 in
theorem e_choose {g : GT} {n : Nat} {a0 : Int32} {a1 : Int32} {s : St} {w : Int32 × St} (hw : HW g) {K : St → MHeap} {o : Nat} {r : Nat → Nat} (V : View (GG g) Ln K o r) (hr : f_choose n a0 a1 s = some w) : EvC (GG g) M_choose [.ref o, .int a0, .int a1] (K s) ((some (.int w.1)), (K w.2)) := by
  refine EvC.enter (L0 := [.val (.ref o), .val (.int a0), .val (.int a1)]) pl_choose (fun h => nomatch h) rfl rfl ?_
  unfold f_choose at hr
  refine Ev.aloadN (d34 0 rfl) rfl ?_
  refine Ev.iloadN (d34 1 rfl) rfl ?_
  obtain ⟨q1, hq2, hr⟩ := Option.bind_eq_some_iff.mp hr
  refine Ev.priv (y := M_validVar) (args := [.int a0]) (rest := []) (gok hw) rfl nm_validVar (ww hw 104 rfl) (ww hw 105 rfl) (ww hw 106 rfl) (ww hw 107 rfl) (lenOf pd_validVar rfl) (d34 2 rfl) (V.2.1 s) (e_validVar hw V hq2) (by decide) (Nat.le_of_ble_eq_true rfl) rfl ?_
  refine Ev.ifne (t := 10) (d34 3 rfl) rfl (fun c3 => ?_) (fun c3 => ?_)
  · replace hr := (if_pos c3).symm.trans hr
    refine Ev.iconst (z := -1) (d34 4 rfl) rfl ?_
    cases hr
    exact Ev.ireturn rfl (d34 5 rfl)
  · replace hr := (if_neg c3).symm.trans hr
    refine Ev.aloadN (d34 6 rfl) rfl ?_
    refine Ev.iloadN (d34 7 rfl) rfl ?_
    obtain ⟨q4, hq5, hr⟩ := Option.bind_eq_some_iff.mp hr
    refine Ev.priv (y := M_validValue) (args := [.int a1]) (rest := []) (gok hw) rfl nm_validValue (ww hw 118 rfl) (ww hw 119 rfl) (ww hw 120 rfl) (ww hw 121 rfl) (lenOf pd_validValue rfl) (d34 8 rfl) (V.2.1 s) (e_validValue hw V hq5) (by decide) (Nat.le_of_ble_eq_true rfl) rfl ?_
    refine Ev.ifne (t := 21) (d34 9 rfl) rfl (fun c6 => ?_) (fun c6 => ?_)
    · replace hr := (if_pos c6).symm.trans hr
      refine Ev.bipush (z := -2) (d34 10 rfl) rfl ?_
      cases hr
      exact Ev.ireturn rfl (d34 11 rfl)
    · replace hr := (if_neg c6).symm.trans hr
      refine Ev.aloadN (d34 12 rfl) rfl ?_
      refine Ev.gAr V (ww hw 18 rfl) (d34 13 rfl) (j := 2) rfl ?_
      refine Ev.iloadN (d34 14 rfl) rfl ?_
      obtain ⟨b7, hr⟩ := grd_some hr
      refine Ev.ial V (j := 2) rfl rfl (d34 15 rfl) b7 ?_
      refine Ev.iflt (t := 33) (d34 16 rfl) rfl (fun c8 => ?_) (fun c8 => ?_)
      · replace hr := (if_pos c8).symm.trans hr
        refine Ev.aloadN (d34 19 rfl) rfl ?_
        refine Ev.iloadN (d34 20 rfl) rfl ?_
        refine Ev.iloadN (d34 21 rfl) rfl ?_
        obtain ⟨q9, hq10, hr⟩ := Option.bind_eq_some_iff.mp hr
        refine Ev.virt (y := M_countWith) (args := [.int a0, .int a1]) (rest := []) (gok hw) rfl nm_countWith (ww hw 113 rfl) (ww hw 114 rfl) (ww hw 115 rfl) (ww hw 116 rfl) (ww hw 117 rfl) (lenOf pd_countWith rfl) (d34 22 rfl) (V.2.1 s) (e_countWith hw V hq10) (by decide) (Nat.le_of_ble_eq_true rfl) rfl ?_
        refine Ev.ifne (t := 45) (d34 23 rfl) rfl (fun c11 => ?_) (fun c11 => ?_)
        · replace hr := (if_pos c11).symm.trans hr
          refine Ev.bipush (z := -7) (d34 24 rfl) rfl ?_
          cases hr
          exact Ev.ireturn rfl (d34 25 rfl)
        · replace hr := (if_neg c11).symm.trans hr
          refine Ev.aloadN (d34 26 rfl) rfl ?_
          refine Ev.gAr V (ww hw 18 rfl) (d34 27 rfl) (j := 2) rfl ?_
          refine Ev.iloadN (d34 28 rfl) rfl ?_
          refine Ev.iloadN (d34 29 rfl) rfl ?_
          refine Ev.ias V (j := 2) rfl rfl (d34 30 rfl) b7 ?_
          revert hr
          generalize setA q9.2 2 (ix a0) a1 = s12
          intro hr
          replace hr := (bnd_eq _ _).symm.trans hr
          refine Ev.iconst (z := 0) (d34 31 rfl) rfl ?_
          cases hr
          exact Ev.ireturn rfl (d34 32 rfl)
      · replace hr := (if_neg c8).symm.trans hr
        refine Ev.bipush (z := -8) (d34 17 rfl) rfl ?_
        cases hr
        exact Ev.ireturn rfl (d34 18 rfl)
def f_retract (a0 : Int32) (s : St) : Option (Int32 × St) :=
  (f_validVar s a0).bind fun q1 =>
  if q1 = 0 then
    some ((-1 : Int32), s)
  else
    grd (inb a0 5) <|
    if (s.2 2 (ix a0)) < 0 then
      some ((-9 : Int32), s)
    else
      bnd (setA s 2 (ix a0) (-1 : Int32)) fun s6 =>
      some ((0 : Int32), s6)
set_option maxRecDepth 100000 in
theorem e_retract {g : GT} {a0 : Int32} {s : St} {w : Int32 × St} (hw : HW g) {K : St → MHeap} {o : Nat} {r : Nat → Nat} (V : View (GG g) Ln K o r) (hr : f_retract a0 s = some w) : EvC (GG g) M_retract [.ref o, .int a0] (K s) ((some (.int w.1)), (K w.2)) := by
  refine EvC.enter (L0 := [.val (.ref o), .val (.int a0)]) pl_retract (fun h => nomatch h) rfl rfl ?_
  unfold f_retract at hr
  refine Ev.aloadN (d32 0 rfl) rfl ?_
  refine Ev.iloadN (d32 1 rfl) rfl ?_
  obtain ⟨q1, hq2, hr⟩ := Option.bind_eq_some_iff.mp hr
  refine Ev.priv (y := M_validVar) (args := [.int a0]) (rest := []) (gok hw) rfl nm_validVar (ww hw 104 rfl) (ww hw 105 rfl) (ww hw 106 rfl) (ww hw 107 rfl) (lenOf pd_validVar rfl) (d32 2 rfl) (V.2.1 s) (e_validVar hw V hq2) (by decide) (Nat.le_of_ble_eq_true rfl) rfl ?_
  refine Ev.ifne (t := 10) (d32 3 rfl) rfl (fun c3 => ?_) (fun c3 => ?_)
  · replace hr := (if_pos c3).symm.trans hr
    refine Ev.iconst (z := -1) (d32 4 rfl) rfl ?_
    cases hr
    exact Ev.ireturn rfl (d32 5 rfl)
  · replace hr := (if_neg c3).symm.trans hr
    refine Ev.aloadN (d32 6 rfl) rfl ?_
    refine Ev.gAr V (ww hw 18 rfl) (d32 7 rfl) (j := 2) rfl ?_
    refine Ev.iloadN (d32 8 rfl) rfl ?_
    obtain ⟨b4, hr⟩ := grd_some hr
    refine Ev.ial V (j := 2) rfl rfl (d32 9 rfl) b4 ?_
    refine Ev.ifge (t := 22) (d32 10 rfl) rfl (fun c5 => ?_) (fun c5 => ?_)
    · replace hr := (if_pos c5).symm.trans hr
      refine Ev.bipush (z := -9) (d32 11 rfl) rfl ?_
      cases hr
      exact Ev.ireturn rfl (d32 12 rfl)
    · replace hr := (if_neg c5).symm.trans hr
      refine Ev.aloadN (d32 13 rfl) rfl ?_
      refine Ev.gAr V (ww hw 18 rfl) (d32 14 rfl) (j := 2) rfl ?_
      refine Ev.iloadN (d32 15 rfl) rfl ?_
      refine Ev.iconst (z := -1) (d32 16 rfl) rfl ?_
      refine Ev.ias V (j := 2) rfl rfl (d32 17 rfl) b4 ?_
      revert hr
      generalize setA s 2 (ix a0) (-1 : Int32) = s6
      intro hr
      replace hr := (bnd_eq _ _).symm.trans hr
      refine Ev.iconst (z := 0) (d32 18 rfl) rfl ?_
      cases hr
      exact Ev.ireturn rfl (d32 19 rfl)
def f_clearChoices_2 (n : Nat) : Nat → Int32 → St → Option (St)
  | 0 => fun _ _ => none
  | k + 1 => fun x1 s =>
    if x1 < (5 : Int32) then
      grd (inb x1 5) <|
      bnd (setA s 2 (ix x1) (-1 : Int32)) fun s3 =>
      f_clearChoices_2 n k (x1 + (1 : Int32)) s3
    else
      some s
set_option maxRecDepth 100000 in
theorem e_clearChoices_2 {g : GT} {n : Nat} (hw : HW g) {K : St → MHeap} {o : Nat} {r : Nat → Nat} (V : View (GG g) Ln K o r) (k : Nat) : ∀ (x1 : Int32) (s : St) (w : St), f_clearChoices_2 n k x1 s = some w → Ev (GG g) M_clearChoices 2 [.val (.ref o), .val (.int x1)] [] (K s) (none, (K w)) := by
  induction k with
  | zero => intro x1 s w hr; rw [f_clearChoices_2] at hr; cases hr
  | succ k ih =>
    intro x1 s w hr
    rw [f_clearChoices_2] at hr
    refine Ev.iloadN (d35 2 rfl) rfl ?_
    refine Ev.iconst (z := 5) (d35 3 rfl) rfl ?_
    refine Ev.icge (t := 20) (d35 4 rfl) rfl (fun c1 => ?_) (fun c1 => ?_)
    · replace hr := (if_pos c1).symm.trans hr
      refine Ev.aloadN (d35 5 rfl) rfl ?_
      refine Ev.gAr V (ww hw 18 rfl) (d35 6 rfl) (j := 2) rfl ?_
      refine Ev.iloadN (d35 7 rfl) rfl ?_
      refine Ev.iconst (z := -1) (d35 8 rfl) rfl ?_
      obtain ⟨b2, hr⟩ := grd_some hr
      refine Ev.ias V (j := 2) rfl rfl (d35 9 rfl) b2 ?_
      revert hr
      generalize setA s 2 (ix x1) (-1 : Int32) = s3
      intro hr
      replace hr := (bnd_eq _ _).symm.trans hr
      refine Ev.iinc (z := 1) (L' := [.val (.ref o), .val (.int (x1 + (1 : Int32)))]) (d35 10 rfl) rfl rfl rfl ?_
      refine Ev.goto (t := 2) (d35 11 rfl) rfl ?_
      exact ih (x1 + (1 : Int32)) s3  _ hr
    · replace hr := (if_neg c1).symm.trans hr
      cases hr
      exact Ev.vreturn rfl (d35 12 rfl)
def f_clearChoices (n : Nat) (s : St) : Option (St) :=
  f_clearChoices_2 n n (0 : Int32) s
set_option maxRecDepth 100000 in
theorem e_clearChoices {g : GT} {n : Nat} {s : St} {w : St} (hw : HW g) {K : St → MHeap} {o : Nat} {r : Nat → Nat} (V : View (GG g) Ln K o r) (hr : f_clearChoices n s = some w) : EvC (GG g) M_clearChoices [.ref o] (K s) (none, (K w)) := by
  refine EvC.enter (L0 := [.val (.ref o), .unset]) pl_clearChoices (fun _ => rfl) rfl rfl ?_
  unfold f_clearChoices at hr
  refine Ev.iconst (z := 0) (d35 0 rfl) rfl ?_
  refine Ev.istDN (L' := [.val (.ref o), .val (.int (0 : Int32))]) (d35 1 rfl) rfl rfl rfl ?_
  exact e_clearChoices_2 hw V  n (0 : Int32) s  _ hr
def f_law_433 (n : Nat) (sn : Nat) (sf : Nat → Int32) (k35 : Int32 → St → Option (Int32 × St)) (x2 : Int32) (s : St) : Option (Int32 × St) :=
  (f_hcheck n s).bind fun q1 =>
  if q1.1 = 0 then
    some ((0 : Int32), q1.2)
  else
    k35 (x2 + (4 : Int32)) q1.2
set_option maxRecDepth 100000 in
theorem e_law_433 {g : GT} {n : Nat} {sn : Nat} {sf : Nat → Int32} (hw : HW g) {K : St → MHeap} {o : Nat} {r : Nat → Nat} (hs : ∀ s, (K s)[0]? = some (.inr (false, tab sn sf))) (V : View (GG g) Ln K o r) {k35 : Int32 → St → Option (Int32 × St)} (hk35 : ∀ (x2 : Int32) (s : St) (y3 : Slot) (hy3 : one1 y3 = true) (y4 : Slot) (hy4 : one1 y4 = true) (y5 : Slot) (hy5 : one1 y5 = true) (y6 : Slot) (hy6 : one1 y6 = true) (y7 : Slot) (hy7 : one1 y7 = true) (y8 : Slot) (hy8 : one1 y8 = true) (y9 : Slot) (hy9 : one1 y9 = true) (y10 : Slot) (hy10 : one1 y10 = true) (y11 : Slot) (hy11 : one1 y11 = true) (y12 : Slot) (hy12 : one1 y12 = true) (y13 : Slot) (hy13 : one1 y13 = true) (y14 : Slot) (hy14 : one1 y14 = true) (y15 : Slot) (hy15 : one1 y15 = true) (w : Int32 × St), k35 x2 s = some w → Ev (GG g) M_law 35 [.val (.ref 0), .val (.ref o), .val (.int x2), y3, y4, y5, y6, y7, y8, y9, y10, y11, y12, y13, y14, y15] [] (K s) ((some (.int w.1)), (K w.2))) (x2 : Int32) (s : St) (y3 : Slot) (hy3 : one1 y3 = true) (y4 : Slot) (hy4 : one1 y4 = true) (y5 : Slot) (hy5 : one1 y5 = true) (y6 : Slot) (hy6 : one1 y6 = true) (y7 : Slot) (hy7 : one1 y7 = true) (y8 : Slot) (hy8 : one1 y8 = true) (y9 : Slot) (hy9 : one1 y9 = true) (y10 : Slot) (hy10 : one1 y10 = true) (y11 : Slot) (hy11 : one1 y11 = true) (y12 : Slot) (hy12 : one1 y12 = true) (y13 : Slot) (hy13 : one1 y13 = true) (y14 : Slot) (hy14 : one1 y14 = true) (y15 : Slot) (hy15 : one1 y15 = true) (w : Int32 × St) (hr : f_law_433 n sn sf k35 x2 s = some w) : Ev (GG g) M_law 433 [.val (.ref 0), .val (.ref o), .val (.int x2), y3, y4, y5, y6, y7, y8, y9, y10, y11, y12, y13, y14, y15] [] (K s) ((some (.int w.1)), (K w.2)) := by
  unfold f_law_433 at hr
  refine Ev.aloadN at_433 rfl ?_
  obtain ⟨q1, hq2, hr⟩ := Option.bind_eq_some_iff.mp hr
  refine Ev.stat (y := M_hcheck) (args := [.ref o]) (rest := []) nm_hcheck (ww hw 69 rfl) (ww hw 70 rfl) (ww hw 5 rfl) (ww hw 71 rfl) (lenOf pd_hcheck rfl) at_434 (e_hcheck hw V hq2) (by decide) (Nat.le_of_ble_eq_true rfl) rfl ?_
  refine Ev.ifne (t := 442) at_437 rfl (fun c3 => ?_) (fun c3 => ?_)
  · replace hr := (if_pos c3).symm.trans hr
    refine Ev.iconst (z := 0) at_440 rfl ?_
    cases hr
    exact Ev.zret0 rfl at_441
  · replace hr := (if_neg c3).symm.trans hr
    refine Ev.iinc (z := 4) (L' := [.val (.ref 0), .val (.ref o), .val (.int (x2 + (4 : Int32))), y3, y4, y5, y6, y7, y8, y9, y10, y11, y12, y13, y14, y15]) at_442 rfl rfl rfl ?_
    refine Ev.goto (t := 35) at_445 rfl ?_
    exact hk35 (x2 + (4 : Int32)) q1.2 y3 hy3 y4 hy4 y5 hy5 y6 hy6 y7 hy7 y8 hy8 y9 hy9 y10 hy10 y11 hy11 y12 hy12 y13 hy13 y14 hy14 y15 hy15 _ hr
def f_law_145 (n : Nat) (sn : Nat) (sf : Nat → Int32) (k35 : Int32 → St → Option (Int32 × St)) (x2 : Int32) (x9 : Int32) (x10 : Int32) (z0 : Int32) (s : St) : Option (Int32 × St) :=
  (f_beginTable x9 x10 z0 s).bind fun q1 =>
  f_law_433 n sn sf k35 x2 q1.2
set_option maxRecDepth 100000 in
theorem e_law_145 {g : GT} {n : Nat} {sn : Nat} {sf : Nat → Int32} (hw : HW g) {K : St → MHeap} {o : Nat} {r : Nat → Nat} (hs : ∀ s, (K s)[0]? = some (.inr (false, tab sn sf))) (V : View (GG g) Ln K o r) {k35 : Int32 → St → Option (Int32 × St)} (hk35 : ∀ (x2 : Int32) (s : St) (y3 : Slot) (hy3 : one1 y3 = true) (y4 : Slot) (hy4 : one1 y4 = true) (y5 : Slot) (hy5 : one1 y5 = true) (y6 : Slot) (hy6 : one1 y6 = true) (y7 : Slot) (hy7 : one1 y7 = true) (y8 : Slot) (hy8 : one1 y8 = true) (y9 : Slot) (hy9 : one1 y9 = true) (y10 : Slot) (hy10 : one1 y10 = true) (y11 : Slot) (hy11 : one1 y11 = true) (y12 : Slot) (hy12 : one1 y12 = true) (y13 : Slot) (hy13 : one1 y13 = true) (y14 : Slot) (hy14 : one1 y14 = true) (y15 : Slot) (hy15 : one1 y15 = true) (w : Int32 × St), k35 x2 s = some w → Ev (GG g) M_law 35 [.val (.ref 0), .val (.ref o), .val (.int x2), y3, y4, y5, y6, y7, y8, y9, y10, y11, y12, y13, y14, y15] [] (K s) ((some (.int w.1)), (K w.2))) (x2 : Int32) (x9 : Int32) (x10 : Int32) (z0 : Int32) (s : St) (y3 : Slot) (hy3 : one1 y3 = true) (y4 : Slot) (hy4 : one1 y4 = true) (y5 : Slot) (hy5 : one1 y5 = true) (y6 : Slot) (hy6 : one1 y6 = true) (y7 : Slot) (hy7 : one1 y7 = true) (y8 : Slot) (hy8 : one1 y8 = true) (y11 : Slot) (hy11 : one1 y11 = true) (y12 : Slot) (hy12 : one1 y12 = true) (y13 : Slot) (hy13 : one1 y13 = true) (y14 : Slot) (hy14 : one1 y14 = true) (y15 : Slot) (hy15 : one1 y15 = true) (w : Int32 × St) (hr : f_law_145 n sn sf k35 x2 x9 x10 z0 s = some w) : Ev (GG g) M_law 145 [.val (.ref 0), .val (.ref o), .val (.int x2), y3, y4, y5, y6, y7, y8, .val (.int x9), .val (.int x10), y11, y12, y13, y14, y15] [.int z0] (K s) ((some (.int w.1)), (K w.2)) := by
  unfold f_law_145 at hr
  refine Ev.istD (L' := [.val (.ref 0), .val (.ref o), .val (.int x2), y3, y4, y5, y6, y7, y8, .val (.int x9), .val (.int x10), .val (.int z0), y12, y13, y14, y15]) at_145 rfl hy11 rfl ?_
  refine Ev.aloadN at_147 rfl ?_
  refine Ev.iload at_148 rfl ?_
  refine Ev.iload at_150 rfl ?_
  refine Ev.iload at_152 rfl ?_
  obtain ⟨q1, hq2, hr⟩ := Option.bind_eq_some_iff.mp hr
  refine Ev.virt (y := M_beginTable) (args := [.int x9, .int x10, .int z0]) (rest := []) (gok hw) rfl nm_beginTable (ww hw 126 rfl) (ww hw 127 rfl) (ww hw 128 rfl) (ww hw 129 rfl) (ww hw 130 rfl) (lenOf pd_beginTable rfl) at_154 (V.2.1 s) (e_beginTable hw V hq2) (by decide) (Nat.le_of_ble_eq_true rfl) rfl ?_
  refine Ev.pop at_157 rfl ?_
  refine Ev.goto (t := 433) at_158 rfl ?_
  exact e_law_433 hw hs V hk35 x2 q1.2 y3 hy3 y4 hy4 y5 hy5 y6 hy6 y7 hy7 y8 hy8 (.val (.int x9)) rfl (.val (.int x10)) rfl (.val (.int z0)) rfl y12 hy12 y13 hy13 y14 hy14 y15 hy15 _ hr
def f_law_123 (n : Nat) (sn : Nat) (sf : Nat → Int32) (k35 : Int32 → St → Option (Int32 × St)) (x2 : Int32) (x6 : Int32) (x7 : Int32) (x9 : Int32) (z0 : Int32) (s : St) : Option (Int32 × St) :=
  if ((XT.ushr x6 (5 : Int32)) &&& (1 : Int32)) = 0 then
    f_law_145 n sn sf k35 x2 x9 z0 (-1 : Int32) s
  else
    (f_hpick x6 x7).bind fun q2 =>
    f_law_145 n sn sf k35 x2 x9 z0 q2 s
set_option maxRecDepth 100000 in
theorem e_law_123 {g : GT} {n : Nat} {sn : Nat} {sf : Nat → Int32} (hw : HW g) {K : St → MHeap} {o : Nat} {r : Nat → Nat} (hs : ∀ s, (K s)[0]? = some (.inr (false, tab sn sf))) (V : View (GG g) Ln K o r) {k35 : Int32 → St → Option (Int32 × St)} (hk35 : ∀ (x2 : Int32) (s : St) (y3 : Slot) (hy3 : one1 y3 = true) (y4 : Slot) (hy4 : one1 y4 = true) (y5 : Slot) (hy5 : one1 y5 = true) (y6 : Slot) (hy6 : one1 y6 = true) (y7 : Slot) (hy7 : one1 y7 = true) (y8 : Slot) (hy8 : one1 y8 = true) (y9 : Slot) (hy9 : one1 y9 = true) (y10 : Slot) (hy10 : one1 y10 = true) (y11 : Slot) (hy11 : one1 y11 = true) (y12 : Slot) (hy12 : one1 y12 = true) (y13 : Slot) (hy13 : one1 y13 = true) (y14 : Slot) (hy14 : one1 y14 = true) (y15 : Slot) (hy15 : one1 y15 = true) (w : Int32 × St), k35 x2 s = some w → Ev (GG g) M_law 35 [.val (.ref 0), .val (.ref o), .val (.int x2), y3, y4, y5, y6, y7, y8, y9, y10, y11, y12, y13, y14, y15] [] (K s) ((some (.int w.1)), (K w.2))) (x2 : Int32) (x6 : Int32) (x7 : Int32) (x9 : Int32) (z0 : Int32) (s : St) (y3 : Slot) (hy3 : one1 y3 = true) (y4 : Slot) (hy4 : one1 y4 = true) (y5 : Slot) (hy5 : one1 y5 = true) (y8 : Slot) (hy8 : one1 y8 = true) (y10 : Slot) (hy10 : one1 y10 = true) (y11 : Slot) (hy11 : one1 y11 = true) (y12 : Slot) (hy12 : one1 y12 = true) (y13 : Slot) (hy13 : one1 y13 = true) (y14 : Slot) (hy14 : one1 y14 = true) (y15 : Slot) (hy15 : one1 y15 = true) (w : Int32 × St) (hr : f_law_123 n sn sf k35 x2 x6 x7 x9 z0 s = some w) : Ev (GG g) M_law 123 [.val (.ref 0), .val (.ref o), .val (.int x2), y3, y4, y5, .val (.int x6), .val (.int x7), y8, .val (.int x9), y10, y11, y12, y13, y14, y15] [.int z0] (K s) ((some (.int w.1)), (K w.2)) := by
  unfold f_law_123 at hr
  refine Ev.istD (L' := [.val (.ref 0), .val (.ref o), .val (.int x2), y3, y4, y5, .val (.int x6), .val (.int x7), y8, .val (.int x9), .val (.int z0), y11, y12, y13, y14, y15]) at_123 rfl hy10 rfl ?_
  refine Ev.iload at_125 rfl ?_
  refine Ev.iconst (z := 5) at_127 rfl ?_
  refine Ev.iushr at_128 ?_
  refine Ev.iconst (z := 1) at_129 rfl ?_
  refine Ev.iand at_130 ?_
  refine Ev.ifne (t := 138) at_131 rfl (fun c1 => ?_) (fun c1 => ?_)
  · replace hr := (if_pos c1).symm.trans hr
    refine Ev.iconst (z := -1) at_134 rfl ?_
    refine Ev.goto (t := 145) at_135 rfl ?_
    exact e_law_145 hw hs V hk35 x2 x9 z0 (-1 : Int32) s y3 hy3 y4 hy4 y5 hy5 (.val (.int x6)) rfl (.val (.int x7)) rfl y8 hy8 y11 hy11 y12 hy12 y13 hy13 y14 hy14 y15 hy15 _ hr
  · replace hr := (if_neg c1).symm.trans hr
    refine Ev.iload at_138 rfl ?_
    refine Ev.iload at_140 rfl ?_
    obtain ⟨q2, hq3, hr⟩ := Option.bind_eq_some_iff.mp hr
    refine Ev.stat (y := M_hpick) (args := [.int x6, .int x7]) (rest := []) nm_hpick (ww hw 123 rfl) (ww hw 124 rfl) (ww hw 5 rfl) (ww hw 125 rfl) (lenOf pd_hpick rfl) at_142 (e_hpick hw hq3) (by decide) (Nat.le_of_ble_eq_true rfl) rfl ?_
    exact e_law_145 hw hs V hk35 x2 x9 z0 q2 s y3 hy3 y4 hy4 y5 hy5 (.val (.int x6)) rfl (.val (.int x7)) rfl y8 hy8 y11 hy11 y12 hy12 y13 hy13 y14 hy14 y15 hy15 _ hr
def f_law_375 (n : Nat) (sn : Nat) (sf : Nat → Int32) (k35 : Int32 → St → Option (Int32 × St)) (x2 : Int32) (x13 : Int32) (x14 : Int32) (x15 : Int32) (z0 : Int32) (s : St) : Option (Int32 × St) :=
  if z0 = x14 then
    if x15 = 0 then
      if 0 < x13 then
        (f_count n s).bind fun q4 =>
        if q4.1 = x13 then
          f_law_433 n sn sf k35 x2 q4.2
        else
          some ((0 : Int32), q4.2)
      else
        some ((0 : Int32), s)
    else
      f_law_433 n sn sf k35 x2 s
  else
    some ((0 : Int32), s)
set_option maxRecDepth 100000 in
theorem e_law_375 {g : GT} {n : Nat} {sn : Nat} {sf : Nat → Int32} (hw : HW g) {K : St → MHeap} {o : Nat} {r : Nat → Nat} (hs : ∀ s, (K s)[0]? = some (.inr (false, tab sn sf))) (V : View (GG g) Ln K o r) {k35 : Int32 → St → Option (Int32 × St)} (hk35 : ∀ (x2 : Int32) (s : St) (y3 : Slot) (hy3 : one1 y3 = true) (y4 : Slot) (hy4 : one1 y4 = true) (y5 : Slot) (hy5 : one1 y5 = true) (y6 : Slot) (hy6 : one1 y6 = true) (y7 : Slot) (hy7 : one1 y7 = true) (y8 : Slot) (hy8 : one1 y8 = true) (y9 : Slot) (hy9 : one1 y9 = true) (y10 : Slot) (hy10 : one1 y10 = true) (y11 : Slot) (hy11 : one1 y11 = true) (y12 : Slot) (hy12 : one1 y12 = true) (y13 : Slot) (hy13 : one1 y13 = true) (y14 : Slot) (hy14 : one1 y14 = true) (y15 : Slot) (hy15 : one1 y15 = true) (w : Int32 × St), k35 x2 s = some w → Ev (GG g) M_law 35 [.val (.ref 0), .val (.ref o), .val (.int x2), y3, y4, y5, y6, y7, y8, y9, y10, y11, y12, y13, y14, y15] [] (K s) ((some (.int w.1)), (K w.2))) (x2 : Int32) (x13 : Int32) (x14 : Int32) (x15 : Int32) (z0 : Int32) (s : St) (y3 : Slot) (hy3 : one1 y3 = true) (y4 : Slot) (hy4 : one1 y4 = true) (y5 : Slot) (hy5 : one1 y5 = true) (y6 : Slot) (hy6 : one1 y6 = true) (y7 : Slot) (hy7 : one1 y7 = true) (y8 : Slot) (hy8 : one1 y8 = true) (y9 : Slot) (hy9 : one1 y9 = true) (y10 : Slot) (hy10 : one1 y10 = true) (y11 : Slot) (hy11 : one1 y11 = true) (y12 : Slot) (hy12 : one1 y12 = true) (w : Int32 × St) (hr : f_law_375 n sn sf k35 x2 x13 x14 x15 z0 s = some w) : Ev (GG g) M_law 375 [.val (.ref 0), .val (.ref o), .val (.int x2), y3, y4, y5, y6, y7, y8, y9, y10, y11, y12, .val (.int x13), .val (.int x14), .val (.int x15)] [.int z0] (K s) ((some (.int w.1)), (K w.2)) := by
  unfold f_law_375 at hr
  refine Ev.iload at_375 rfl ?_
  refine Ev.iceq (t := 382) at_377 rfl (fun c1 => ?_) (fun c1 => ?_)
  · replace hr := (if_pos c1).symm.trans hr
    refine Ev.iload at_382 rfl ?_
    refine Ev.ifne (t := 405) at_384 rfl (fun c2 => ?_) (fun c2 => ?_)
    · replace hr := (if_pos c2).symm.trans hr
      refine Ev.iload at_387 rfl ?_
      refine Ev.ifgt (t := 394) at_389 rfl (fun c3 => ?_) (fun c3 => ?_)
      · replace hr := (if_pos c3).symm.trans hr
        refine Ev.aloadN at_394 rfl ?_
        obtain ⟨q4, hq5, hr⟩ := Option.bind_eq_some_iff.mp hr
        refine Ev.virt (y := M_count) (args := []) (rest := []) (gok hw) rfl nm_count (ww hw 82 rfl) (ww hw 83 rfl) (ww hw 84 rfl) (ww hw 85 rfl) (ww hw 86 rfl) (lenOf pd_count rfl) at_395 (V.2.1 s) (e_count hw V hq5) (by decide) (Nat.le_of_ble_eq_true rfl) rfl ?_
        refine Ev.iload at_398 rfl ?_
        refine Ev.iceq (t := 405) at_400 rfl (fun c6 => ?_) (fun c6 => ?_)
        · replace hr := (if_pos c6).symm.trans hr
          refine Ev.goto (t := 433) at_405 rfl ?_
          exact e_law_433 hw hs V hk35 x2 q4.2 y3 hy3 y4 hy4 y5 hy5 y6 hy6 y7 hy7 y8 hy8 y9 hy9 y10 hy10 y11 hy11 y12 hy12 (.val (.int x13)) rfl (.val (.int x14)) rfl (.val (.int x15)) rfl _ hr
        · replace hr := (if_neg c6).symm.trans hr
          refine Ev.iconst (z := 0) at_403 rfl ?_
          cases hr
          exact Ev.zret0 rfl at_404
      · replace hr := (if_neg c3).symm.trans hr
        refine Ev.iconst (z := 0) at_392 rfl ?_
        cases hr
        exact Ev.zret0 rfl at_393
    · replace hr := (if_neg c2).symm.trans hr
      refine Ev.goto (t := 433) at_405 rfl ?_
      exact e_law_433 hw hs V hk35 x2 s y3 hy3 y4 hy4 y5 hy5 y6 hy6 y7 hy7 y8 hy8 y9 hy9 y10 hy10 y11 hy11 y12 hy12 (.val (.int x13)) rfl (.val (.int x14)) rfl (.val (.int x15)) rfl _ hr
  · replace hr := (if_neg c1).symm.trans hr
    refine Ev.iconst (z := 0) at_380 rfl ?_
    cases hr
    exact Ev.zret0 rfl at_381
def f_law_353 (n : Nat) (sn : Nat) (sf : Nat → Int32) (k35 : Int32 → St → Option (Int32 × St)) (x2 : Int32) (x9 : Int32) (x10 : Int32) (x13 : Int32) (z0 : Int32) (s : St) : Option (Int32 × St) :=
  (f_choose n x9 x10 s).bind fun q1 =>
  if q1.1 = 0 then
    f_law_375 n sn sf k35 x2 x13 z0 q1.1 (1 : Int32) q1.2
  else
    f_law_375 n sn sf k35 x2 x13 z0 q1.1 (0 : Int32) q1.2
set_option maxRecDepth 100000 in
theorem e_law_353 {g : GT} {n : Nat} {sn : Nat} {sf : Nat → Int32} (hw : HW g) {K : St → MHeap} {o : Nat} {r : Nat → Nat} (hs : ∀ s, (K s)[0]? = some (.inr (false, tab sn sf))) (V : View (GG g) Ln K o r) {k35 : Int32 → St → Option (Int32 × St)} (hk35 : ∀ (x2 : Int32) (s : St) (y3 : Slot) (hy3 : one1 y3 = true) (y4 : Slot) (hy4 : one1 y4 = true) (y5 : Slot) (hy5 : one1 y5 = true) (y6 : Slot) (hy6 : one1 y6 = true) (y7 : Slot) (hy7 : one1 y7 = true) (y8 : Slot) (hy8 : one1 y8 = true) (y9 : Slot) (hy9 : one1 y9 = true) (y10 : Slot) (hy10 : one1 y10 = true) (y11 : Slot) (hy11 : one1 y11 = true) (y12 : Slot) (hy12 : one1 y12 = true) (y13 : Slot) (hy13 : one1 y13 = true) (y14 : Slot) (hy14 : one1 y14 = true) (y15 : Slot) (hy15 : one1 y15 = true) (w : Int32 × St), k35 x2 s = some w → Ev (GG g) M_law 35 [.val (.ref 0), .val (.ref o), .val (.int x2), y3, y4, y5, y6, y7, y8, y9, y10, y11, y12, y13, y14, y15] [] (K s) ((some (.int w.1)), (K w.2))) (x2 : Int32) (x9 : Int32) (x10 : Int32) (x13 : Int32) (z0 : Int32) (s : St) (y3 : Slot) (hy3 : one1 y3 = true) (y4 : Slot) (hy4 : one1 y4 = true) (y5 : Slot) (hy5 : one1 y5 = true) (y6 : Slot) (hy6 : one1 y6 = true) (y7 : Slot) (hy7 : one1 y7 = true) (y8 : Slot) (hy8 : one1 y8 = true) (y11 : Slot) (hy11 : one1 y11 = true) (y12 : Slot) (hy12 : one1 y12 = true) (y14 : Slot) (hy14 : one1 y14 = true) (y15 : Slot) (hy15 : one1 y15 = true) (w : Int32 × St) (hr : f_law_353 n sn sf k35 x2 x9 x10 x13 z0 s = some w) : Ev (GG g) M_law 353 [.val (.ref 0), .val (.ref o), .val (.int x2), y3, y4, y5, y6, y7, y8, .val (.int x9), .val (.int x10), y11, y12, .val (.int x13), y14, y15] [.int z0] (K s) ((some (.int w.1)), (K w.2)) := by
  unfold f_law_353 at hr
  refine Ev.istD (L' := [.val (.ref 0), .val (.ref o), .val (.int x2), y3, y4, y5, y6, y7, y8, .val (.int x9), .val (.int x10), y11, y12, .val (.int x13), .val (.int z0), y15]) at_353 rfl hy14 rfl ?_
  refine Ev.aloadN at_355 rfl ?_
  refine Ev.iload at_356 rfl ?_
  refine Ev.iload at_358 rfl ?_
  obtain ⟨q1, hq2, hr⟩ := Option.bind_eq_some_iff.mp hr
  refine Ev.virt (y := M_choose) (args := [.int x9, .int x10]) (rest := []) (gok hw) rfl nm_choose (ww hw 213 rfl) (ww hw 214 rfl) (ww hw 215 rfl) (ww hw 216 rfl) (ww hw 217 rfl) (lenOf pd_choose rfl) at_360 (V.2.1 s) (e_choose hw V hq2) (by decide) (Nat.le_of_ble_eq_true rfl) rfl ?_
  refine Ev.istD (L' := [.val (.ref 0), .val (.ref o), .val (.int x2), y3, y4, y5, y6, y7, y8, .val (.int x9), .val (.int x10), y11, y12, .val (.int x13), .val (.int z0), .val (.int q1.1)]) at_363 rfl hy15 rfl ?_
  refine Ev.iload at_365 rfl ?_
  refine Ev.ifne (t := 374) at_367 rfl (fun c3 => ?_) (fun c3 => ?_)
  · replace hr := (if_pos c3).symm.trans hr
    refine Ev.iconst (z := 1) at_370 rfl ?_
    refine Ev.goto (t := 375) at_371 rfl ?_
    exact e_law_375 hw hs V hk35 x2 x13 z0 q1.1 (1 : Int32) q1.2 y3 hy3 y4 hy4 y5 hy5 y6 hy6 y7 hy7 y8 hy8 (.val (.int x9)) rfl (.val (.int x10)) rfl y11 hy11 y12 hy12 _ hr
  · replace hr := (if_neg c3).symm.trans hr
    refine Ev.iconst (z := 0) at_374 rfl ?_
    exact e_law_375 hw hs V hk35 x2 x13 z0 q1.1 (0 : Int32) q1.2 y3 hy3 y4 hy4 y5 hy5 y6 hy6 y7 hy7 y8 hy8 (.val (.int x9)) rfl (.val (.int x10)) rfl y11 hy11 y12 hy12 _ hr
def f_law_331 (n : Nat) (sn : Nat) (sf : Nat → Int32) (k35 : Int32 → St → Option (Int32 × St)) (x2 : Int32) (x9 : Int32) (x10 : Int32) (x11 : Int32) (x12 : Int32) (z0 : Int32) (s : St) : Option (Int32 × St) :=
  if x11 = 0 then
    f_law_353 n sn sf k35 x2 x9 x10 z0 (0 : Int32) s
  else
    if x12 = 0 then
      f_law_353 n sn sf k35 x2 x9 x10 z0 (0 : Int32) s
    else
      if 0 < z0 then
        f_law_353 n sn sf k35 x2 x9 x10 z0 (1 : Int32) s
      else
        f_law_353 n sn sf k35 x2 x9 x10 z0 (0 : Int32) s
set_option maxRecDepth 100000 in
theorem e_law_331 {g : GT} {n : Nat} {sn : Nat} {sf : Nat → Int32} (hw : HW g) {K : St → MHeap} {o : Nat} {r : Nat → Nat} (hs : ∀ s, (K s)[0]? = some (.inr (false, tab sn sf))) (V : View (GG g) Ln K o r) {k35 : Int32 → St → Option (Int32 × St)} (hk35 : ∀ (x2 : Int32) (s : St) (y3 : Slot) (hy3 : one1 y3 = true) (y4 : Slot) (hy4 : one1 y4 = true) (y5 : Slot) (hy5 : one1 y5 = true) (y6 : Slot) (hy6 : one1 y6 = true) (y7 : Slot) (hy7 : one1 y7 = true) (y8 : Slot) (hy8 : one1 y8 = true) (y9 : Slot) (hy9 : one1 y9 = true) (y10 : Slot) (hy10 : one1 y10 = true) (y11 : Slot) (hy11 : one1 y11 = true) (y12 : Slot) (hy12 : one1 y12 = true) (y13 : Slot) (hy13 : one1 y13 = true) (y14 : Slot) (hy14 : one1 y14 = true) (y15 : Slot) (hy15 : one1 y15 = true) (w : Int32 × St), k35 x2 s = some w → Ev (GG g) M_law 35 [.val (.ref 0), .val (.ref o), .val (.int x2), y3, y4, y5, y6, y7, y8, y9, y10, y11, y12, y13, y14, y15] [] (K s) ((some (.int w.1)), (K w.2))) (x2 : Int32) (x9 : Int32) (x10 : Int32) (x11 : Int32) (x12 : Int32) (z0 : Int32) (s : St) (y3 : Slot) (hy3 : one1 y3 = true) (y4 : Slot) (hy4 : one1 y4 = true) (y5 : Slot) (hy5 : one1 y5 = true) (y6 : Slot) (hy6 : one1 y6 = true) (y7 : Slot) (hy7 : one1 y7 = true) (y8 : Slot) (hy8 : one1 y8 = true) (y13 : Slot) (hy13 : one1 y13 = true) (y14 : Slot) (hy14 : one1 y14 = true) (y15 : Slot) (hy15 : one1 y15 = true) (w : Int32 × St) (hr : f_law_331 n sn sf k35 x2 x9 x10 x11 x12 z0 s = some w) : Ev (GG g) M_law 331 [.val (.ref 0), .val (.ref o), .val (.int x2), y3, y4, y5, y6, y7, y8, .val (.int x9), .val (.int x10), .val (.int x11), .val (.int x12), y13, y14, y15] [.int z0] (K s) ((some (.int w.1)), (K w.2)) := by
  unfold f_law_331 at hr
  refine Ev.istD (L' := [.val (.ref 0), .val (.ref o), .val (.int x2), y3, y4, y5, y6, y7, y8, .val (.int x9), .val (.int x10), .val (.int x11), .val (.int x12), .val (.int z0), y14, y15]) at_331 rfl hy13 rfl ?_
  refine Ev.iload at_333 rfl ?_
  refine Ev.ifeq (t := 352) at_335 rfl (fun c1 => ?_) (fun c1 => ?_)
  · replace hr := (if_pos c1).symm.trans hr
    refine Ev.iconst (z := 0) at_352 rfl ?_
    exact e_law_353 hw hs V hk35 x2 x9 x10 z0 (0 : Int32) s y3 hy3 y4 hy4 y5 hy5 y6 hy6 y7 hy7 y8 hy8 (.val (.int x11)) rfl (.val (.int x12)) rfl y14 hy14 y15 hy15 _ hr
  · replace hr := (if_neg c1).symm.trans hr
    refine Ev.iload at_338 rfl ?_
    refine Ev.ifeq (t := 352) at_340 rfl (fun c2 => ?_) (fun c2 => ?_)
    · replace hr := (if_pos c2).symm.trans hr
      refine Ev.iconst (z := 0) at_352 rfl ?_
      exact e_law_353 hw hs V hk35 x2 x9 x10 z0 (0 : Int32) s y3 hy3 y4 hy4 y5 hy5 y6 hy6 y7 hy7 y8 hy8 (.val (.int x11)) rfl (.val (.int x12)) rfl y14 hy14 y15 hy15 _ hr
    · replace hr := (if_neg c2).symm.trans hr
      refine Ev.iload at_343 rfl ?_
      refine Ev.ifle (t := 352) at_345 rfl (fun c3 => ?_) (fun c3 => ?_)
      · replace hr := (if_pos c3).symm.trans hr
        refine Ev.iconst (z := 1) at_348 rfl ?_
        refine Ev.goto (t := 353) at_349 rfl ?_
        exact e_law_353 hw hs V hk35 x2 x9 x10 z0 (1 : Int32) s y3 hy3 y4 hy4 y5 hy5 y6 hy6 y7 hy7 y8 hy8 (.val (.int x11)) rfl (.val (.int x12)) rfl y14 hy14 y15 hy15 _ hr
      · replace hr := (if_neg c3).symm.trans hr
        refine Ev.iconst (z := 0) at_352 rfl ?_
        exact e_law_353 hw hs V hk35 x2 x9 x10 z0 (0 : Int32) s y3 hy3 y4 hy4 y5 hy5 y6 hy6 y7 hy7 y8 hy8 (.val (.int x11)) rfl (.val (.int x12)) rfl y14 hy14 y15 hy15 _ hr
def f_law_312 (n : Nat) (sn : Nat) (sf : Nat → Int32) (k35 : Int32 → St → Option (Int32 × St)) (x2 : Int32) (x9 : Int32) (x10 : Int32) (x11 : Int32) (z0 : Int32) (s : St) : Option (Int32 × St) :=
  if x11 = 0 then
    f_law_331 n sn sf k35 x2 x9 x10 x11 z0 (0 : Int32) s
  else
    (f_countWith n x9 x10 s).bind fun q2 =>
    f_law_331 n sn sf k35 x2 x9 x10 x11 z0 q2.1 q2.2
set_option maxRecDepth 100000 in
theorem e_law_312 {g : GT} {n : Nat} {sn : Nat} {sf : Nat → Int32} (hw : HW g) {K : St → MHeap} {o : Nat} {r : Nat → Nat} (hs : ∀ s, (K s)[0]? = some (.inr (false, tab sn sf))) (V : View (GG g) Ln K o r) {k35 : Int32 → St → Option (Int32 × St)} (hk35 : ∀ (x2 : Int32) (s : St) (y3 : Slot) (hy3 : one1 y3 = true) (y4 : Slot) (hy4 : one1 y4 = true) (y5 : Slot) (hy5 : one1 y5 = true) (y6 : Slot) (hy6 : one1 y6 = true) (y7 : Slot) (hy7 : one1 y7 = true) (y8 : Slot) (hy8 : one1 y8 = true) (y9 : Slot) (hy9 : one1 y9 = true) (y10 : Slot) (hy10 : one1 y10 = true) (y11 : Slot) (hy11 : one1 y11 = true) (y12 : Slot) (hy12 : one1 y12 = true) (y13 : Slot) (hy13 : one1 y13 = true) (y14 : Slot) (hy14 : one1 y14 = true) (y15 : Slot) (hy15 : one1 y15 = true) (w : Int32 × St), k35 x2 s = some w → Ev (GG g) M_law 35 [.val (.ref 0), .val (.ref o), .val (.int x2), y3, y4, y5, y6, y7, y8, y9, y10, y11, y12, y13, y14, y15] [] (K s) ((some (.int w.1)), (K w.2))) (x2 : Int32) (x9 : Int32) (x10 : Int32) (x11 : Int32) (z0 : Int32) (s : St) (y3 : Slot) (hy3 : one1 y3 = true) (y4 : Slot) (hy4 : one1 y4 = true) (y5 : Slot) (hy5 : one1 y5 = true) (y6 : Slot) (hy6 : one1 y6 = true) (y7 : Slot) (hy7 : one1 y7 = true) (y8 : Slot) (hy8 : one1 y8 = true) (y12 : Slot) (hy12 : one1 y12 = true) (y13 : Slot) (hy13 : one1 y13 = true) (y14 : Slot) (hy14 : one1 y14 = true) (y15 : Slot) (hy15 : one1 y15 = true) (w : Int32 × St) (hr : f_law_312 n sn sf k35 x2 x9 x10 x11 z0 s = some w) : Ev (GG g) M_law 312 [.val (.ref 0), .val (.ref o), .val (.int x2), y3, y4, y5, y6, y7, y8, .val (.int x9), .val (.int x10), .val (.int x11), y12, y13, y14, y15] [.int z0] (K s) ((some (.int w.1)), (K w.2)) := by
  unfold f_law_312 at hr
  refine Ev.istD (L' := [.val (.ref 0), .val (.ref o), .val (.int x2), y3, y4, y5, y6, y7, y8, .val (.int x9), .val (.int x10), .val (.int x11), .val (.int z0), y13, y14, y15]) at_312 rfl hy12 rfl ?_
  refine Ev.iload at_314 rfl ?_
  refine Ev.ifeq (t := 330) at_316 rfl (fun c1 => ?_) (fun c1 => ?_)
  · replace hr := (if_pos c1).symm.trans hr
    refine Ev.iconst (z := 0) at_330 rfl ?_
    exact e_law_331 hw hs V hk35 x2 x9 x10 x11 z0 (0 : Int32) s y3 hy3 y4 hy4 y5 hy5 y6 hy6 y7 hy7 y8 hy8 y13 hy13 y14 hy14 y15 hy15 _ hr
  · replace hr := (if_neg c1).symm.trans hr
    refine Ev.aloadN at_319 rfl ?_
    refine Ev.iload at_320 rfl ?_
    refine Ev.iload at_322 rfl ?_
    obtain ⟨q2, hq3, hr⟩ := Option.bind_eq_some_iff.mp hr
    refine Ev.virt (y := M_countWith) (args := [.int x9, .int x10]) (rest := []) (gok hw) rfl nm_countWith (ww hw 122 rfl) (ww hw 114 rfl) (ww hw 115 rfl) (ww hw 116 rfl) (ww hw 117 rfl) (lenOf pd_countWith rfl) at_324 (V.2.1 s) (e_countWith hw V hq3) (by decide) (Nat.le_of_ble_eq_true rfl) rfl ?_
    refine Ev.goto (t := 331) at_327 rfl ?_
    exact e_law_331 hw hs V hk35 x2 x9 x10 x11 z0 q2.1 q2.2 y3 hy3 y4 hy4 y5 hy5 y6 hy6 y7 hy7 y8 hy8 y13 hy13 y14 hy14 y15 hy15 _ hr
def f_law_290 (n : Nat) (sn : Nat) (sf : Nat → Int32) (k35 : Int32 → St → Option (Int32 × St)) (x2 : Int32) (x9 : Int32) (x10 : Int32) (z0 : Int32) (s : St) : Option (Int32 × St) :=
  if z0 = 0 then
    f_law_312 n sn sf k35 x2 x9 x10 z0 (0 : Int32) s
  else
    (f_chosenValue s x9).bind fun q2 =>
    if q2 = (-1 : Int32) then
      f_law_312 n sn sf k35 x2 x9 x10 z0 (1 : Int32) s
    else
      f_law_312 n sn sf k35 x2 x9 x10 z0 (0 : Int32) s
set_option maxRecDepth 100000 in
theorem e_law_290 {g : GT} {n : Nat} {sn : Nat} {sf : Nat → Int32} (hw : HW g) {K : St → MHeap} {o : Nat} {r : Nat → Nat} (hs : ∀ s, (K s)[0]? = some (.inr (false, tab sn sf))) (V : View (GG g) Ln K o r) {k35 : Int32 → St → Option (Int32 × St)} (hk35 : ∀ (x2 : Int32) (s : St) (y3 : Slot) (hy3 : one1 y3 = true) (y4 : Slot) (hy4 : one1 y4 = true) (y5 : Slot) (hy5 : one1 y5 = true) (y6 : Slot) (hy6 : one1 y6 = true) (y7 : Slot) (hy7 : one1 y7 = true) (y8 : Slot) (hy8 : one1 y8 = true) (y9 : Slot) (hy9 : one1 y9 = true) (y10 : Slot) (hy10 : one1 y10 = true) (y11 : Slot) (hy11 : one1 y11 = true) (y12 : Slot) (hy12 : one1 y12 = true) (y13 : Slot) (hy13 : one1 y13 = true) (y14 : Slot) (hy14 : one1 y14 = true) (y15 : Slot) (hy15 : one1 y15 = true) (w : Int32 × St), k35 x2 s = some w → Ev (GG g) M_law 35 [.val (.ref 0), .val (.ref o), .val (.int x2), y3, y4, y5, y6, y7, y8, y9, y10, y11, y12, y13, y14, y15] [] (K s) ((some (.int w.1)), (K w.2))) (x2 : Int32) (x9 : Int32) (x10 : Int32) (z0 : Int32) (s : St) (y3 : Slot) (hy3 : one1 y3 = true) (y4 : Slot) (hy4 : one1 y4 = true) (y5 : Slot) (hy5 : one1 y5 = true) (y6 : Slot) (hy6 : one1 y6 = true) (y7 : Slot) (hy7 : one1 y7 = true) (y8 : Slot) (hy8 : one1 y8 = true) (y11 : Slot) (hy11 : one1 y11 = true) (y12 : Slot) (hy12 : one1 y12 = true) (y13 : Slot) (hy13 : one1 y13 = true) (y14 : Slot) (hy14 : one1 y14 = true) (y15 : Slot) (hy15 : one1 y15 = true) (w : Int32 × St) (hr : f_law_290 n sn sf k35 x2 x9 x10 z0 s = some w) : Ev (GG g) M_law 290 [.val (.ref 0), .val (.ref o), .val (.int x2), y3, y4, y5, y6, y7, y8, .val (.int x9), .val (.int x10), y11, y12, y13, y14, y15] [.int z0] (K s) ((some (.int w.1)), (K w.2)) := by
  unfold f_law_290 at hr
  refine Ev.istD (L' := [.val (.ref 0), .val (.ref o), .val (.int x2), y3, y4, y5, y6, y7, y8, .val (.int x9), .val (.int x10), .val (.int z0), y12, y13, y14, y15]) at_290 rfl hy11 rfl ?_
  refine Ev.iload at_292 rfl ?_
  refine Ev.ifeq (t := 311) at_294 rfl (fun c1 => ?_) (fun c1 => ?_)
  · replace hr := (if_pos c1).symm.trans hr
    refine Ev.iconst (z := 0) at_311 rfl ?_
    exact e_law_312 hw hs V hk35 x2 x9 x10 z0 (0 : Int32) s y3 hy3 y4 hy4 y5 hy5 y6 hy6 y7 hy7 y8 hy8 y12 hy12 y13 hy13 y14 hy14 y15 hy15 _ hr
  · replace hr := (if_neg c1).symm.trans hr
    refine Ev.aloadN at_297 rfl ?_
    refine Ev.iload at_298 rfl ?_
    obtain ⟨q2, hq3, hr⟩ := Option.bind_eq_some_iff.mp hr
    refine Ev.virt (y := M_chosenValue) (args := [.int x9]) (rest := []) (gok hw) rfl nm_chosenValue (ww hw 99 rfl) (ww hw 100 rfl) (ww hw 101 rfl) (ww hw 102 rfl) (ww hw 103 rfl) (lenOf pd_chosenValue rfl) at_300 (V.2.1 s) (e_chosenValue hw V hq3) (by decide) (Nat.le_of_ble_eq_true rfl) rfl ?_
    refine Ev.iconst (z := -1) at_303 rfl ?_
    refine Ev.icne (t := 311) at_304 rfl (fun c4 => ?_) (fun c4 => ?_)
    · replace hr := (if_pos c4).symm.trans hr
      refine Ev.iconst (z := 1) at_307 rfl ?_
      refine Ev.goto (t := 312) at_308 rfl ?_
      exact e_law_312 hw hs V hk35 x2 x9 x10 z0 (1 : Int32) s y3 hy3 y4 hy4 y5 hy5 y6 hy6 y7 hy7 y8 hy8 y12 hy12 y13 hy13 y14 hy14 y15 hy15 _ hr
    · replace hr := (if_neg c4).symm.trans hr
      refine Ev.iconst (z := 0) at_311 rfl ?_
      exact e_law_312 hw hs V hk35 x2 x9 x10 z0 (0 : Int32) s y3 hy3 y4 hy4 y5 hy5 y6 hy6 y7 hy7 y8 hy8 y12 hy12 y13 hy13 y14 hy14 y15 hy15 _ hr
def f_law_35 (n : Nat) (sn : Nat) (sf : Nat → Int32) : Nat → Int32 → St → Option (Int32 × St)
  | 0 => fun _ _ => none
  | k + 1 => fun x2 s =>
    if x2 < sn.toInt32 then
      (f_hcell sn sf x2).bind fun q2 =>
      (f_hcell sn sf (x2 + (1 : Int32))).bind fun q4 =>
      (f_hcell sn sf (x2 + (2 : Int32))).bind fun q6 =>
      (f_hcell sn sf (x2 + (3 : Int32))).bind fun q8 =>
      (f_numVars s).bind fun q10 =>
      (f_domainSize s).bind fun q12 =>
      if (1 : Int32) < (q2 &&& (15 : Int32)) then
        if (5 : Int32) < (q2 &&& (15 : Int32)) then
          if (7 : Int32) < (q2 &&& (15 : Int32)) then
            if (q2 &&& (15 : Int32)) = (8 : Int32) then
              (f_abortTable s).bind fun q18 =>
              f_law_433 n sn sf (f_law_35 n sn sf k) x2 q18.2
            else
              if (q2 &&& (15 : Int32)) = (9 : Int32) then
                (f_dropLastTable s).bind fun q21 =>
                f_law_433 n sn sf (f_law_35 n sn sf k) x2 q21.2
              else
                if (12 : Int32) < (q2 &&& (15 : Int32)) then
                  if (14 : Int32) < (q2 &&& (15 : Int32)) then
                    (f_clearChoices n s).bind fun q25 =>
                    f_law_433 n sn sf (f_law_35 n sn sf k) x2 q25
                  else
                    (f_hpick q4 q10).bind fun q27 =>
                    (f_retract q27 s).bind fun q29 =>
                    f_law_433 n sn sf (f_law_35 n sn sf k) x2 q29.2
                else
                  (f_hpick q4 q10).bind fun q31 =>
                  (f_hpick q6 q12).bind fun q33 =>
                  if q31 < 0 then
                    f_law_290 n sn sf (f_law_35 n sn sf k) x2 q31 q33 (0 : Int32) s
                  else
                    if q31 < q10 then
                      if q33 < 0 then
                        f_law_290 n sn sf (f_law_35 n sn sf k) x2 q31 q33 (0 : Int32) s
                      else
                        if q33 < q12 then
                          f_law_290 n sn sf (f_law_35 n sn sf k) x2 q31 q33 (1 : Int32) s
                        else
                          f_law_290 n sn sf (f_law_35 n sn sf k) x2 q31 q33 (0 : Int32) s
                    else
                      f_law_290 n sn sf (f_law_35 n sn sf k) x2 q31 q33 (0 : Int32) s
          else
            (f_commitTable n s).bind fun q39 =>
            f_law_433 n sn sf (f_law_35 n sn sf k) x2 q39.2
        else
          (f_hpick q4 q12).bind fun q41 =>
          (f_hpick q6 q12).bind fun q43 =>
          (f_hpick q8 q12).bind fun q45 =>
          (f_addTuple n q41 q43 q45 s).bind fun q47 =>
          f_law_433 n sn sf (f_law_35 n sn sf k) x2 q47.2
      else
        (f_hpick q4 q10).bind fun q49 =>
        if ((XT.ushr q6 (5 : Int32)) &&& (1 : Int32)) = 0 then
          f_law_123 n sn sf (f_law_35 n sn sf k) x2 q8 q10 q49 (-1 : Int32) s
        else
          (f_hpick q6 q10).bind fun q52 =>
          f_law_123 n sn sf (f_law_35 n sn sf k) x2 q8 q10 q49 q52 s
    else
      some ((1 : Int32), s)
set_option maxRecDepth 100000 in
theorem e_law_35 {g : GT} {n : Nat} {sn : Nat} {sf : Nat → Int32} (hw : HW g) {K : St → MHeap} {o : Nat} {r : Nat → Nat} (hs : ∀ s, (K s)[0]? = some (.inr (false, tab sn sf))) (V : View (GG g) Ln K o r) (k : Nat) : ∀ (x2 : Int32) (s : St) (y3 : Slot) (hy3 : one1 y3 = true) (y4 : Slot) (hy4 : one1 y4 = true) (y5 : Slot) (hy5 : one1 y5 = true) (y6 : Slot) (hy6 : one1 y6 = true) (y7 : Slot) (hy7 : one1 y7 = true) (y8 : Slot) (hy8 : one1 y8 = true) (y9 : Slot) (hy9 : one1 y9 = true) (y10 : Slot) (hy10 : one1 y10 = true) (y11 : Slot) (hy11 : one1 y11 = true) (y12 : Slot) (hy12 : one1 y12 = true) (y13 : Slot) (hy13 : one1 y13 = true) (y14 : Slot) (hy14 : one1 y14 = true) (y15 : Slot) (hy15 : one1 y15 = true) (w : Int32 × St), f_law_35 n sn sf k x2 s = some w → Ev (GG g) M_law 35 [.val (.ref 0), .val (.ref o), .val (.int x2), y3, y4, y5, y6, y7, y8, y9, y10, y11, y12, y13, y14, y15] [] (K s) ((some (.int w.1)), (K w.2)) := by
  induction k with
  | zero => intro x2 s y3 hy3 y4 hy4 y5 hy5 y6 hy6 y7 hy7 y8 hy8 y9 hy9 y10 hy10 y11 hy11 y12 hy12 y13 hy13 y14 hy14 y15 hy15 w hr; rw [f_law_35] at hr; cases hr
  | succ k ih =>
    intro x2 s y3 hy3 y4 hy4 y5 hy5 y6 hy6 y7 hy7 y8 hy8 y9 hy9 y10 hy10 y11 hy11 y12 hy12 y13 hy13 y14 hy14 y15 hy15 w hr
    rw [f_law_35] at hr
    refine Ev.iloadN at_35 rfl ?_
    refine Ev.aloadN at_36 rfl ?_
    refine Ev.sln (hs s) at_37 ?_
    refine Ev.icge (t := 448) at_38 rfl (fun c1 => ?_) (fun c1 => ?_)
    · replace hr := (if_pos c1).symm.trans hr
      refine Ev.aloadN at_41 rfl ?_
      refine Ev.iloadN at_42 rfl ?_
      obtain ⟨q2, hq3, hr⟩ := Option.bind_eq_some_iff.mp hr
      refine Ev.stat (y := M_hcell) (args := [.ref 0, .int x2]) (rest := []) nm_hcell (ww hw 3 rfl) (ww hw 4 rfl) (ww hw 5 rfl) (ww hw 6 rfl) (lenOf pd_hcell rfl) at_43 (e_hcell hw (hs s) hq3) (by decide) (Nat.le_of_ble_eq_true rfl) rfl ?_
      refine Ev.bipush (z := 15) at_46 rfl ?_
      refine Ev.iand at_48 ?_
      refine Ev.istDN (L' := [.val (.ref 0), .val (.ref o), .val (.int x2), .val (.int (q2 &&& (15 : Int32))), y4, y5, y6, y7, y8, y9, y10, y11, y12, y13, y14, y15]) at_49 rfl hy3 rfl ?_
      refine Ev.aloadN at_50 rfl ?_
      refine Ev.iloadN at_51 rfl ?_
      refine Ev.iconst (z := 1) at_52 rfl ?_
      refine Ev.iadd at_53 ?_
      obtain ⟨q4, hq5, hr⟩ := Option.bind_eq_some_iff.mp hr
      refine Ev.stat (y := M_hcell) (args := [.ref 0, .int (x2 + (1 : Int32))]) (rest := []) nm_hcell (ww hw 3 rfl) (ww hw 4 rfl) (ww hw 5 rfl) (ww hw 6 rfl) (lenOf pd_hcell rfl) at_54 (e_hcell hw (hs s) hq5) (by decide) (Nat.le_of_ble_eq_true rfl) rfl ?_
      refine Ev.istD (L' := [.val (.ref 0), .val (.ref o), .val (.int x2), .val (.int (q2 &&& (15 : Int32))), .val (.int q4), y5, y6, y7, y8, y9, y10, y11, y12, y13, y14, y15]) at_57 rfl hy4 rfl ?_
      refine Ev.aloadN at_59 rfl ?_
      refine Ev.iloadN at_60 rfl ?_
      refine Ev.iconst (z := 2) at_61 rfl ?_
      refine Ev.iadd at_62 ?_
      obtain ⟨q6, hq7, hr⟩ := Option.bind_eq_some_iff.mp hr
      refine Ev.stat (y := M_hcell) (args := [.ref 0, .int (x2 + (2 : Int32))]) (rest := []) nm_hcell (ww hw 3 rfl) (ww hw 4 rfl) (ww hw 5 rfl) (ww hw 6 rfl) (lenOf pd_hcell rfl) at_63 (e_hcell hw (hs s) hq7) (by decide) (Nat.le_of_ble_eq_true rfl) rfl ?_
      refine Ev.istD (L' := [.val (.ref 0), .val (.ref o), .val (.int x2), .val (.int (q2 &&& (15 : Int32))), .val (.int q4), .val (.int q6), y6, y7, y8, y9, y10, y11, y12, y13, y14, y15]) at_66 rfl hy5 rfl ?_
      refine Ev.aloadN at_68 rfl ?_
      refine Ev.iloadN at_69 rfl ?_
      refine Ev.iconst (z := 3) at_70 rfl ?_
      refine Ev.iadd at_71 ?_
      obtain ⟨q8, hq9, hr⟩ := Option.bind_eq_some_iff.mp hr
      refine Ev.stat (y := M_hcell) (args := [.ref 0, .int (x2 + (3 : Int32))]) (rest := []) nm_hcell (ww hw 3 rfl) (ww hw 4 rfl) (ww hw 5 rfl) (ww hw 6 rfl) (lenOf pd_hcell rfl) at_72 (e_hcell hw (hs s) hq9) (by decide) (Nat.le_of_ble_eq_true rfl) rfl ?_
      refine Ev.istD (L' := [.val (.ref 0), .val (.ref o), .val (.int x2), .val (.int (q2 &&& (15 : Int32))), .val (.int q4), .val (.int q6), .val (.int q8), y7, y8, y9, y10, y11, y12, y13, y14, y15]) at_75 rfl hy6 rfl ?_
      refine Ev.aloadN at_77 rfl ?_
      obtain ⟨q10, hq11, hr⟩ := Option.bind_eq_some_iff.mp hr
      refine Ev.virt (y := M_numVars) (args := []) (rest := []) (gok hw) rfl nm_numVars (ww hw 72 rfl) (ww hw 73 rfl) (ww hw 74 rfl) (ww hw 75 rfl) (ww hw 76 rfl) (lenOf pd_numVars rfl) at_78 (V.2.1 s) (e_numVars hw V hq11) (by decide) (Nat.le_of_ble_eq_true rfl) rfl ?_
      refine Ev.istD (L' := [.val (.ref 0), .val (.ref o), .val (.int x2), .val (.int (q2 &&& (15 : Int32))), .val (.int q4), .val (.int q6), .val (.int q8), .val (.int q10), y8, y9, y10, y11, y12, y13, y14, y15]) at_81 rfl hy7 rfl ?_
      refine Ev.aloadN at_83 rfl ?_
      obtain ⟨q12, hq13, hr⟩ := Option.bind_eq_some_iff.mp hr
      refine Ev.virt (y := M_domainSize) (args := []) (rest := []) (gok hw) rfl nm_domainSize (ww hw 77 rfl) (ww hw 78 rfl) (ww hw 79 rfl) (ww hw 80 rfl) (ww hw 81 rfl) (lenOf pd_domainSize rfl) at_84 (V.2.1 s) (e_domainSize hw V hq13) (by decide) (Nat.le_of_ble_eq_true rfl) rfl ?_
      refine Ev.istD (L' := [.val (.ref 0), .val (.ref o), .val (.int x2), .val (.int (q2 &&& (15 : Int32))), .val (.int q4), .val (.int q6), .val (.int q8), .val (.int q10), .val (.int q12), y9, y10, y11, y12, y13, y14, y15]) at_87 rfl hy8 rfl ?_
      refine Ev.iloadN at_89 rfl ?_
      refine Ev.iconst (z := 1) at_90 rfl ?_
      refine Ev.icgt (t := 161) at_91 rfl (fun c14 => ?_) (fun c14 => ?_)
      · replace hr := (if_pos c14).symm.trans hr
        refine Ev.iloadN at_161 rfl ?_
        refine Ev.iconst (z := 5) at_162 rfl ?_
        refine Ev.icgt (t := 195) at_163 rfl (fun c15 => ?_) (fun c15 => ?_)
        · replace hr := (if_pos c15).symm.trans hr
          refine Ev.iloadN at_195 rfl ?_
          refine Ev.bipush (z := 7) at_196 rfl ?_
          refine Ev.icgt (t := 209) at_198 rfl (fun c16 => ?_) (fun c16 => ?_)
          · replace hr := (if_pos c16).symm.trans hr
            refine Ev.iloadN at_209 rfl ?_
            refine Ev.bipush (z := 8) at_210 rfl ?_
            refine Ev.icne (t := 223) at_212 rfl (fun c17 => ?_) (fun c17 => ?_)
            · replace hr := (if_pos c17).symm.trans hr
              refine Ev.aloadN at_215 rfl ?_
              obtain ⟨q18, hq19, hr⟩ := Option.bind_eq_some_iff.mp hr
              refine Ev.virt (y := M_abortTable) (args := []) (rest := []) (gok hw) rfl nm_abortTable (ww hw 208 rfl) (ww hw 209 rfl) (ww hw 210 rfl) (ww hw 211 rfl) (ww hw 212 rfl) (lenOf pd_abortTable rfl) at_216 (V.2.1 s) (e_abortTable hw V hq19) (by decide) (Nat.le_of_ble_eq_true rfl) rfl ?_
              refine Ev.pop at_219 rfl ?_
              refine Ev.goto (t := 433) at_220 rfl ?_
              exact e_law_433 hw hs V ih x2 q18.2 (.val (.int (q2 &&& (15 : Int32)))) rfl (.val (.int q4)) rfl (.val (.int q6)) rfl (.val (.int q8)) rfl (.val (.int q10)) rfl (.val (.int q12)) rfl y9 hy9 y10 hy10 y11 hy11 y12 hy12 y13 hy13 y14 hy14 y15 hy15 _ hr
            · replace hr := (if_neg c17).symm.trans hr
              refine Ev.iloadN at_223 rfl ?_
              refine Ev.bipush (z := 9) at_224 rfl ?_
              refine Ev.icne (t := 237) at_226 rfl (fun c20 => ?_) (fun c20 => ?_)
              · replace hr := (if_pos c20).symm.trans hr
                refine Ev.aloadN at_229 rfl ?_
                obtain ⟨q21, hq22, hr⟩ := Option.bind_eq_some_iff.mp hr
                refine Ev.virt (y := M_dropLastTable) (args := []) (rest := []) (gok hw) rfl nm_dropLastTable (ww hw 151 rfl) (ww hw 152 rfl) (ww hw 153 rfl) (ww hw 154 rfl) (ww hw 155 rfl) (lenOf pd_dropLastTable rfl) at_230 (V.2.1 s) (e_dropLastTable hw V hq22) (by decide) (Nat.le_of_ble_eq_true rfl) rfl ?_
                refine Ev.pop at_233 rfl ?_
                refine Ev.goto (t := 433) at_234 rfl ?_
                exact e_law_433 hw hs V ih x2 q21.2 (.val (.int (q2 &&& (15 : Int32)))) rfl (.val (.int q4)) rfl (.val (.int q6)) rfl (.val (.int q8)) rfl (.val (.int q10)) rfl (.val (.int q12)) rfl y9 hy9 y10 hy10 y11 hy11 y12 hy12 y13 hy13 y14 hy14 y15 hy15 _ hr
              · replace hr := (if_neg c20).symm.trans hr
                refine Ev.iloadN at_237 rfl ?_
                refine Ev.bipush (z := 12) at_238 rfl ?_
                refine Ev.icgt (t := 408) at_240 rfl (fun c23 => ?_) (fun c23 => ?_)
                · replace hr := (if_pos c23).symm.trans hr
                  refine Ev.iloadN at_408 rfl ?_
                  refine Ev.bipush (z := 14) at_409 rfl ?_
                  refine Ev.icgt (t := 429) at_411 rfl (fun c24 => ?_) (fun c24 => ?_)
                  · replace hr := (if_pos c24).symm.trans hr
                    refine Ev.aloadN at_429 rfl ?_
                    obtain ⟨q25, hq26, hr⟩ := Option.bind_eq_some_iff.mp hr
                    refine Ev.virt (y := M_clearChoices) (args := []) (rest := []) (gok hw) rfl nm_clearChoices (ww hw 218 rfl) (ww hw 219 rfl) (ww hw 220 rfl) (ww hw 221 rfl) (ww hw 222 rfl) (lenOf pd_clearChoices rfl) at_430 (V.2.1 s) (e_clearChoices hw V hq26) (by decide) (Nat.le_of_ble_eq_true rfl) rfl ?_
                    exact e_law_433 hw hs V ih x2 q25 (.val (.int (q2 &&& (15 : Int32)))) rfl (.val (.int q4)) rfl (.val (.int q6)) rfl (.val (.int q8)) rfl (.val (.int q10)) rfl (.val (.int q12)) rfl y9 hy9 y10 hy10 y11 hy11 y12 hy12 y13 hy13 y14 hy14 y15 hy15 _ hr
                  · replace hr := (if_neg c24).symm.trans hr
                    refine Ev.aloadN at_414 rfl ?_
                    refine Ev.iload at_415 rfl ?_
                    refine Ev.iload at_417 rfl ?_
                    obtain ⟨q27, hq28, hr⟩ := Option.bind_eq_some_iff.mp hr
                    refine Ev.stat (y := M_hpick) (args := [.int q4, .int q10]) (rest := [.ref o]) nm_hpick (ww hw 123 rfl) (ww hw 124 rfl) (ww hw 5 rfl) (ww hw 125 rfl) (lenOf pd_hpick rfl) at_419 (e_hpick hw hq28) (by decide) (Nat.le_of_ble_eq_true rfl) rfl ?_
                    obtain ⟨q29, hq30, hr⟩ := Option.bind_eq_some_iff.mp hr
                    refine Ev.virt (y := M_retract) (args := [.int q27]) (rest := []) (gok hw) rfl nm_retract (ww hw 203 rfl) (ww hw 204 rfl) (ww hw 205 rfl) (ww hw 206 rfl) (ww hw 207 rfl) (lenOf pd_retract rfl) at_422 (V.2.1 s) (e_retract hw V hq30) (by decide) (Nat.le_of_ble_eq_true rfl) rfl ?_
                    refine Ev.pop at_425 rfl ?_
                    refine Ev.goto (t := 433) at_426 rfl ?_
                    exact e_law_433 hw hs V ih x2 q29.2 (.val (.int (q2 &&& (15 : Int32)))) rfl (.val (.int q4)) rfl (.val (.int q6)) rfl (.val (.int q8)) rfl (.val (.int q10)) rfl (.val (.int q12)) rfl y9 hy9 y10 hy10 y11 hy11 y12 hy12 y13 hy13 y14 hy14 y15 hy15 _ hr
                · replace hr := (if_neg c23).symm.trans hr
                  refine Ev.iload at_243 rfl ?_
                  refine Ev.iload at_245 rfl ?_
                  obtain ⟨q31, hq32, hr⟩ := Option.bind_eq_some_iff.mp hr
                  refine Ev.stat (y := M_hpick) (args := [.int q4, .int q10]) (rest := []) nm_hpick (ww hw 123 rfl) (ww hw 124 rfl) (ww hw 5 rfl) (ww hw 125 rfl) (lenOf pd_hpick rfl) at_247 (e_hpick hw hq32) (by decide) (Nat.le_of_ble_eq_true rfl) rfl ?_
                  refine Ev.istD (L' := [.val (.ref 0), .val (.ref o), .val (.int x2), .val (.int (q2 &&& (15 : Int32))), .val (.int q4), .val (.int q6), .val (.int q8), .val (.int q10), .val (.int q12), .val (.int q31), y10, y11, y12, y13, y14, y15]) at_250 rfl hy9 rfl ?_
                  refine Ev.iload at_252 rfl ?_
                  refine Ev.iload at_254 rfl ?_
                  obtain ⟨q33, hq34, hr⟩ := Option.bind_eq_some_iff.mp hr
                  refine Ev.stat (y := M_hpick) (args := [.int q6, .int q12]) (rest := []) nm_hpick (ww hw 123 rfl) (ww hw 124 rfl) (ww hw 5 rfl) (ww hw 125 rfl) (lenOf pd_hpick rfl) at_256 (e_hpick hw hq34) (by decide) (Nat.le_of_ble_eq_true rfl) rfl ?_
                  refine Ev.istD (L' := [.val (.ref 0), .val (.ref o), .val (.int x2), .val (.int (q2 &&& (15 : Int32))), .val (.int q4), .val (.int q6), .val (.int q8), .val (.int q10), .val (.int q12), .val (.int q31), .val (.int q33), y11, y12, y13, y14, y15]) at_259 rfl hy10 rfl ?_
                  refine Ev.iload at_261 rfl ?_
                  refine Ev.iflt (t := 289) at_263 rfl (fun c35 => ?_) (fun c35 => ?_)
                  · replace hr := (if_pos c35).symm.trans hr
                    refine Ev.iconst (z := 0) at_289 rfl ?_
                    exact e_law_290 hw hs V ih x2 q31 q33 (0 : Int32) s (.val (.int (q2 &&& (15 : Int32)))) rfl (.val (.int q4)) rfl (.val (.int q6)) rfl (.val (.int q8)) rfl (.val (.int q10)) rfl (.val (.int q12)) rfl y11 hy11 y12 hy12 y13 hy13 y14 hy14 y15 hy15 _ hr
                  · replace hr := (if_neg c35).symm.trans hr
                    refine Ev.iload at_266 rfl ?_
                    refine Ev.iload at_268 rfl ?_
                    refine Ev.icge (t := 289) at_270 rfl (fun c36 => ?_) (fun c36 => ?_)
                    · replace hr := (if_pos c36).symm.trans hr
                      refine Ev.iload at_273 rfl ?_
                      refine Ev.iflt (t := 289) at_275 rfl (fun c37 => ?_) (fun c37 => ?_)
                      · replace hr := (if_pos c37).symm.trans hr
                        refine Ev.iconst (z := 0) at_289 rfl ?_
                        exact e_law_290 hw hs V ih x2 q31 q33 (0 : Int32) s (.val (.int (q2 &&& (15 : Int32)))) rfl (.val (.int q4)) rfl (.val (.int q6)) rfl (.val (.int q8)) rfl (.val (.int q10)) rfl (.val (.int q12)) rfl y11 hy11 y12 hy12 y13 hy13 y14 hy14 y15 hy15 _ hr
                      · replace hr := (if_neg c37).symm.trans hr
                        refine Ev.iload at_278 rfl ?_
                        refine Ev.iload at_280 rfl ?_
                        refine Ev.icge (t := 289) at_282 rfl (fun c38 => ?_) (fun c38 => ?_)
                        · replace hr := (if_pos c38).symm.trans hr
                          refine Ev.iconst (z := 1) at_285 rfl ?_
                          refine Ev.goto (t := 290) at_286 rfl ?_
                          exact e_law_290 hw hs V ih x2 q31 q33 (1 : Int32) s (.val (.int (q2 &&& (15 : Int32)))) rfl (.val (.int q4)) rfl (.val (.int q6)) rfl (.val (.int q8)) rfl (.val (.int q10)) rfl (.val (.int q12)) rfl y11 hy11 y12 hy12 y13 hy13 y14 hy14 y15 hy15 _ hr
                        · replace hr := (if_neg c38).symm.trans hr
                          refine Ev.iconst (z := 0) at_289 rfl ?_
                          exact e_law_290 hw hs V ih x2 q31 q33 (0 : Int32) s (.val (.int (q2 &&& (15 : Int32)))) rfl (.val (.int q4)) rfl (.val (.int q6)) rfl (.val (.int q8)) rfl (.val (.int q10)) rfl (.val (.int q12)) rfl y11 hy11 y12 hy12 y13 hy13 y14 hy14 y15 hy15 _ hr
                    · replace hr := (if_neg c36).symm.trans hr
                      refine Ev.iconst (z := 0) at_289 rfl ?_
                      exact e_law_290 hw hs V ih x2 q31 q33 (0 : Int32) s (.val (.int (q2 &&& (15 : Int32)))) rfl (.val (.int q4)) rfl (.val (.int q6)) rfl (.val (.int q8)) rfl (.val (.int q10)) rfl (.val (.int q12)) rfl y11 hy11 y12 hy12 y13 hy13 y14 hy14 y15 hy15 _ hr
          · replace hr := (if_neg c16).symm.trans hr
            refine Ev.aloadN at_201 rfl ?_
            obtain ⟨q39, hq40, hr⟩ := Option.bind_eq_some_iff.mp hr
            refine Ev.virt (y := M_commitTable) (args := []) (rest := []) (gok hw) rfl nm_commitTable (ww hw 146 rfl) (ww hw 147 rfl) (ww hw 148 rfl) (ww hw 149 rfl) (ww hw 150 rfl) (lenOf pd_commitTable rfl) at_202 (V.2.1 s) (e_commitTable hw V hq40) (by decide) (Nat.le_of_ble_eq_true rfl) rfl ?_
            refine Ev.pop at_205 rfl ?_
            refine Ev.goto (t := 433) at_206 rfl ?_
            exact e_law_433 hw hs V ih x2 q39.2 (.val (.int (q2 &&& (15 : Int32)))) rfl (.val (.int q4)) rfl (.val (.int q6)) rfl (.val (.int q8)) rfl (.val (.int q10)) rfl (.val (.int q12)) rfl y9 hy9 y10 hy10 y11 hy11 y12 hy12 y13 hy13 y14 hy14 y15 hy15 _ hr
        · replace hr := (if_neg c15).symm.trans hr
          refine Ev.aloadN at_166 rfl ?_
          refine Ev.iload at_167 rfl ?_
          refine Ev.iload at_169 rfl ?_
          obtain ⟨q41, hq42, hr⟩ := Option.bind_eq_some_iff.mp hr
          refine Ev.stat (y := M_hpick) (args := [.int q4, .int q12]) (rest := [.ref o]) nm_hpick (ww hw 123 rfl) (ww hw 124 rfl) (ww hw 5 rfl) (ww hw 125 rfl) (lenOf pd_hpick rfl) at_171 (e_hpick hw hq42) (by decide) (Nat.le_of_ble_eq_true rfl) rfl ?_
          refine Ev.iload at_174 rfl ?_
          refine Ev.iload at_176 rfl ?_
          obtain ⟨q43, hq44, hr⟩ := Option.bind_eq_some_iff.mp hr
          refine Ev.stat (y := M_hpick) (args := [.int q6, .int q12]) (rest := [.int q41, .ref o]) nm_hpick (ww hw 123 rfl) (ww hw 124 rfl) (ww hw 5 rfl) (ww hw 125 rfl) (lenOf pd_hpick rfl) at_178 (e_hpick hw hq44) (by decide) (Nat.le_of_ble_eq_true rfl) rfl ?_
          refine Ev.iload at_181 rfl ?_
          refine Ev.iload at_183 rfl ?_
          obtain ⟨q45, hq46, hr⟩ := Option.bind_eq_some_iff.mp hr
          refine Ev.stat (y := M_hpick) (args := [.int q8, .int q12]) (rest := [.int q43, .int q41, .ref o]) nm_hpick (ww hw 123 rfl) (ww hw 124 rfl) (ww hw 5 rfl) (ww hw 125 rfl) (lenOf pd_hpick rfl) at_185 (e_hpick hw hq46) (by decide) (Nat.le_of_ble_eq_true rfl) rfl ?_
          obtain ⟨q47, hq48, hr⟩ := Option.bind_eq_some_iff.mp hr
          refine Ev.virt (y := M_addTuple) (args := [.int q41, .int q43, .int q45]) (rest := []) (gok hw) rfl nm_addTuple (ww hw 131 rfl) (ww hw 132 rfl) (ww hw 133 rfl) (ww hw 134 rfl) (ww hw 135 rfl) (lenOf pd_addTuple rfl) at_188 (V.2.1 s) (e_addTuple hw V hq48) (by decide) (Nat.le_of_ble_eq_true rfl) rfl ?_
          refine Ev.pop at_191 rfl ?_
          refine Ev.goto (t := 433) at_192 rfl ?_
          exact e_law_433 hw hs V ih x2 q47.2 (.val (.int (q2 &&& (15 : Int32)))) rfl (.val (.int q4)) rfl (.val (.int q6)) rfl (.val (.int q8)) rfl (.val (.int q10)) rfl (.val (.int q12)) rfl y9 hy9 y10 hy10 y11 hy11 y12 hy12 y13 hy13 y14 hy14 y15 hy15 _ hr
      · replace hr := (if_neg c14).symm.trans hr
        refine Ev.iload at_94 rfl ?_
        refine Ev.iload at_96 rfl ?_
        obtain ⟨q49, hq50, hr⟩ := Option.bind_eq_some_iff.mp hr
        refine Ev.stat (y := M_hpick) (args := [.int q4, .int q10]) (rest := []) nm_hpick (ww hw 123 rfl) (ww hw 124 rfl) (ww hw 5 rfl) (ww hw 125 rfl) (lenOf pd_hpick rfl) at_98 (e_hpick hw hq50) (by decide) (Nat.le_of_ble_eq_true rfl) rfl ?_
        refine Ev.istD (L' := [.val (.ref 0), .val (.ref o), .val (.int x2), .val (.int (q2 &&& (15 : Int32))), .val (.int q4), .val (.int q6), .val (.int q8), .val (.int q10), .val (.int q12), .val (.int q49), y10, y11, y12, y13, y14, y15]) at_101 rfl hy9 rfl ?_
        refine Ev.iload at_103 rfl ?_
        refine Ev.iconst (z := 5) at_105 rfl ?_
        refine Ev.iushr at_106 ?_
        refine Ev.iconst (z := 1) at_107 rfl ?_
        refine Ev.iand at_108 ?_
        refine Ev.ifne (t := 116) at_109 rfl (fun c51 => ?_) (fun c51 => ?_)
        · replace hr := (if_pos c51).symm.trans hr
          refine Ev.iconst (z := -1) at_112 rfl ?_
          refine Ev.goto (t := 123) at_113 rfl ?_
          exact e_law_123 hw hs V ih x2 q8 q10 q49 (-1 : Int32) s (.val (.int (q2 &&& (15 : Int32)))) rfl (.val (.int q4)) rfl (.val (.int q6)) rfl (.val (.int q12)) rfl y10 hy10 y11 hy11 y12 hy12 y13 hy13 y14 hy14 y15 hy15 _ hr
        · replace hr := (if_neg c51).symm.trans hr
          refine Ev.iload at_116 rfl ?_
          refine Ev.iload at_118 rfl ?_
          obtain ⟨q52, hq53, hr⟩ := Option.bind_eq_some_iff.mp hr
          refine Ev.stat (y := M_hpick) (args := [.int q6, .int q10]) (rest := []) nm_hpick (ww hw 123 rfl) (ww hw 124 rfl) (ww hw 5 rfl) (ww hw 125 rfl) (lenOf pd_hpick rfl) at_120 (e_hpick hw hq53) (by decide) (Nat.le_of_ble_eq_true rfl) rfl ?_
          exact e_law_123 hw hs V ih x2 q8 q10 q49 q52 s (.val (.int (q2 &&& (15 : Int32)))) rfl (.val (.int q4)) rfl (.val (.int q6)) rfl (.val (.int q12)) rfl y10 hy10 y11 hy11 y12 hy12 y13 hy13 y14 hy14 y15 hy15 _ hr
    · replace hr := (if_neg c1).symm.trans hr
      refine Ev.iconst (z := 1) at_448 rfl ?_
      cases hr
      exact Ev.zret1 rfl at_449
def f_law_23 (n : Nat) (sn : Nat) (sf : Nat → Int32) (s : St) : Option (Int32 × St) :=
  (f_hcheck n s).bind fun q1 =>
  if q1.1 = 0 then
    some ((0 : Int32), q1.2)
  else
    f_law_35 n sn sf n (2 : Int32) q1.2
set_option maxRecDepth 100000 in
theorem e_law_23 {g : GT} {n : Nat} {sn : Nat} {sf : Nat → Int32} (hw : HW g) {K : St → MHeap} {o : Nat} {r : Nat → Nat} (hs : ∀ s, (K s)[0]? = some (.inr (false, tab sn sf))) (V : View (GG g) Ln K o r) (s : St) (y1 : Slot) (hy1 : one1 y1 = true) (y2 : Slot) (hy2 : one1 y2 = true) (y3 : Slot) (hy3 : one1 y3 = true) (y4 : Slot) (hy4 : one1 y4 = true) (y5 : Slot) (hy5 : one1 y5 = true) (y6 : Slot) (hy6 : one1 y6 = true) (y7 : Slot) (hy7 : one1 y7 = true) (y8 : Slot) (hy8 : one1 y8 = true) (y9 : Slot) (hy9 : one1 y9 = true) (y10 : Slot) (hy10 : one1 y10 = true) (y11 : Slot) (hy11 : one1 y11 = true) (y12 : Slot) (hy12 : one1 y12 = true) (y13 : Slot) (hy13 : one1 y13 = true) (y14 : Slot) (hy14 : one1 y14 = true) (y15 : Slot) (hy15 : one1 y15 = true) (w : Int32 × St) (hr : f_law_23 n sn sf s = some w) : Ev (GG g) M_law 23 [.val (.ref 0), y1, y2, y3, y4, y5, y6, y7, y8, y9, y10, y11, y12, y13, y14, y15] [.ref o] (K s) ((some (.int w.1)), (K w.2)) := by
  unfold f_law_23 at hr
  refine Ev.astDN (L' := [.val (.ref 0), .val (.ref o), y2, y3, y4, y5, y6, y7, y8, y9, y10, y11, y12, y13, y14, y15]) at_23 rfl hy1 rfl ?_
  refine Ev.aloadN at_24 rfl ?_
  obtain ⟨q1, hq2, hr⟩ := Option.bind_eq_some_iff.mp hr
  refine Ev.stat (y := M_hcheck) (args := [.ref o]) (rest := []) nm_hcheck (ww hw 69 rfl) (ww hw 70 rfl) (ww hw 5 rfl) (ww hw 71 rfl) (lenOf pd_hcheck rfl) at_25 (e_hcheck hw V hq2) (by decide) (Nat.le_of_ble_eq_true rfl) rfl ?_
  refine Ev.ifne (t := 33) at_28 rfl (fun c3 => ?_) (fun c3 => ?_)
  · replace hr := (if_pos c3).symm.trans hr
    refine Ev.iconst (z := 0) at_31 rfl ?_
    cases hr
    exact Ev.zret0 rfl at_32
  · replace hr := (if_neg c3).symm.trans hr
    refine Ev.iconst (z := 2) at_33 rfl ?_
    refine Ev.istDN (L' := [.val (.ref 0), .val (.ref o), .val (.int (2 : Int32)), y3, y4, y5, y6, y7, y8, y9, y10, y11, y12, y13, y14, y15]) at_34 rfl hy2 rfl ?_
    exact e_law_35 hw hs V  n (2 : Int32) q1.2 y3 hy3 y4 hy4 y5 hy5 y6 hy6 y7 hy7 y8 hy8 y9 hy9 y10 hy10 y11 hy11 y12 hy12 y13 hy13 y14 hy14 y15 hy15 _ hr
def f_law (n : Nat) (sn : Nat) (sf : Nat → Int32) : Option (Int32 × St) :=
  (f_hcell sn sf (0 : Int32)).bind fun q1 =>
  (f_hcell sn sf (1 : Int32)).bind fun q3 =>
  (f_ctor n (q1 &&& (7 : Int32)) (q3 &&& (7 : Int32))).bind fun q5 =>
  f_law_23 n sn sf q5
set_option maxRecDepth 100000 in
theorem e_law {g : GT} {n : Nat} {sn : Nat} {sf : Nat → Int32} {w : Int32 × St} (hw : HW g) (hk : k0 (GG g) ≤ (H0 sn sf).length) (hr : f_law n sn sf = some w) : EvC (GG g) M_law [.ref 0] (H0 sn sf) ((some (.int w.1)), (KL sn sf w.2)) := by
  refine EvC.enter (L0 := [.val (.ref 0), .unset, .unset, .unset, .unset, .unset, .unset, .unset, .unset, .unset, .unset, .unset, .unset, .unset, .unset, .unset]) pl_law (fun h => nomatch h) rfl rfl ?_
  unfold f_law at hr
  refine Ev.new (gok hw) (ww hw 0 rfl) at_0 (fs := dfl) rfl ?_
  refine Ev.dup at_3 rfl ?_
  refine Ev.aloadN at_4 rfl ?_
  refine Ev.iconst (z := 0) at_5 rfl ?_
  obtain ⟨q1, hq2, hr⟩ := Option.bind_eq_some_iff.mp hr
  refine Ev.stat (y := M_hcell) (args := [.ref 0, .int (0 : Int32)]) (rest := [.ref (H0 sn sf).length, .ref (H0 sn sf).length]) nm_hcell (ww hw 3 rfl) (ww hw 4 rfl) (ww hw 5 rfl) (ww hw 6 rfl) (lenOf pd_hcell rfl) at_6 (e_hcell hw rfl hq2) (by decide) (Nat.le_of_ble_eq_true rfl) rfl ?_
  refine Ev.bipush (z := 7) at_9 rfl ?_
  refine Ev.iand at_11 ?_
  refine Ev.aloadN at_12 rfl ?_
  refine Ev.iconst (z := 1) at_13 rfl ?_
  obtain ⟨q3, hq4, hr⟩ := Option.bind_eq_some_iff.mp hr
  refine Ev.stat (y := M_hcell) (args := [.ref 0, .int (1 : Int32)]) (rest := [.int (q1 &&& (7 : Int32)), .ref (H0 sn sf).length, .ref (H0 sn sf).length]) nm_hcell (ww hw 3 rfl) (ww hw 4 rfl) (ww hw 5 rfl) (ww hw 6 rfl) (lenOf pd_hcell rfl) at_14 (e_hcell hw rfl hq4) (by decide) (Nat.le_of_ble_eq_true rfl) rfl ?_
  refine Ev.bipush (z := 7) at_17 rfl ?_
  refine Ev.iand at_19 ?_
  obtain ⟨q5, hq6, hr⟩ := Option.bind_eq_some_iff.mp hr
  refine Ev.ctor (y := M_ctor) (args := [.int (q1 &&& (7 : Int32)), .int (q3 &&& (7 : Int32))]) (rest := [.ref (H0 sn sf).length]) rfl rfl nm_ctor (ww hw 7 rfl) (ww hw 8 rfl) (ww hw 9 rfl) (ww hw 2 rfl) (lenOf pd_ctor rfl) at_20 (e_ctor hw hk hq6) (by decide) (Nat.le_of_ble_eq_true rfl) rfl ?_
  exact e_law_23 hw (K := KL sn sf) (o := (H0 sn sf).length) (r := rA (H0 sn sf).length al) (fun _ => rfl) (view_of hk al_ok al_nd)  q5 .unset rfl .unset rfl .unset rfl .unset rfl .unset rfl .unset rfl .unset rfl .unset rfl .unset rfl .unset rfl .unset rfl .unset rfl .unset rfl .unset rfl .unset rfl _ hr
theorem fin_len (sn : Nat) (sf : Nat → Int32) (w : St) : (KL sn sf w).length - (H0 sn sf).length ≤ 56 := by
  have q : al.length = 20 := rfl
  unfold KL; rw [KH_len]; simp only [List.length_nil]; omega
theorem fin_hsl (sn : Nat) (sf : Nat → Int32) (w : St) : hsl 31 (KL sn sf w) - hsl 31 (H0 sn sf) ≤ 51968 := by
  have q : (al.map fun q => Ln q.1).sum = 25896 := by decide +kernel
  have z : hsl 31 [] = 0 := rfl
  unfold KL; rw [hsl_KH, q, z]; omega
set_option maxRecDepth 100000 in
theorem comes_1 (plain : ∀ (sn : Nat) (sf : Nat → Int32), sn ≤ 260 → ∃ n w, f_law n sn sf = some (1, w)) {Post : Tables → Env → Array Value → State → Outcome → State → Prop} (hpost : ∀ tb e args s v u, (limb_1_1.after args s (.returned v) u = true ∧ limb_1_2.after args s (.returned v) u = true ∧ True) → FrameEnd s (.returned v) u (Jvm.fieldLocs frame_1_writes args s ++ Jvm.arrayLocs frame_1_arrays args s ++ Jvm.staticLocs frame_1_statics s) 56 51968 → Post tb e args s (.returned v) u) :
    ArmFor flags0 classFile x code maxLocals ret World_1 tables_1 room_1 Calls_1 rest_1 Pre_1 Post := by
  intro l hfl _ _ p e ha hc hk s m args below hf hA hF happ hP
  obtain ⟨hcalls, hrest, hpre⟩ := hP
  obtain ⟨-, -, -, hnamed, -, -, -, hat⟩ := (Spec.applies_iff hf).mp happ
  obtain ⟨hg, hn⟩ := and_e (Cond.before_iff.mp (show (Jvm.Cond.and given_1 narrow_1).before args s = true from hpre))
  obtain ⟨g0, hg⟩ := and_e hg
  obtain ⟨w0, rfl⟩ : ∃ w0 : Value, args = #[w0] := by
    have hs : args.size = 1 := by simpa [Cond.value, given_1] using g0
    obtain ⟨L⟩ := args
    match L, hs with
    | [w0], _ => exact ⟨w0, rfl⟩
  have hw := fun d (hd : d ∈ tables_1) => atoms_spec (ws := Jvm.Cond.code x code maxLocals ret :: tables_1) hat d (List.mem_cons_of_mem _ hd)
  have hfit : Fit s := fun {y c} hc i hi => by
    obtain ⟨ha, rfl⟩ := Array.getElem?_eq_some_iff.mp hc
    have q := List.all_eq_true.mp ((Array.all_eq_true_iff_forall_mem.mp hF) _ (Array.getElem_mem ha)) i (List.mem_range.mpr hi)
    simpa [Array.getElem?_eq_getElem hi] using q
  obtain ⟨n0, n1⟩ := and_e hn
  obtain ⟨a, ea⟩ := arr_v n0
  obtain rfl : w0 = .ref a := Option.some.inj ea
  obtain ⟨cl, A⟩ := Arr.start ea n0
  obtain ⟨r0, -⟩ := and_e (Cond.before_iff.mp (show rest_1_c.before _ s = true from hrest))
  have hle := script_len A ea r0 n1
  obtain ⟨xs, hxl, hrel⟩ := script_rel (l := l) (args := #[.ref a]) (C := "MddConfigurator") (F := flds) (k := 31) hfit A
  obtain ⟨n, w, hr⟩ := plain xs.length (fun i => xs.getD i 0) (by rw [hxl]; exact hle)
  have hE := e_law (g := (s, #[.ref a], l, some a, s.heap.size)) hw (Nat.le_refl _) hr
  obtain ⟨n, o, h1, h2, h3, _, L, rfl, ⟨rfl, N, -⟩, hq⟩ := hE.2 tables_1 room_1 s.heap (by decide) (by decide) (fin_len _ _ w) (fin_hsl _ _ w) hrel p e ha hc hk s m _ below hf ((Spec.applies_iff_loose hf).mp happ).1 ⟨rfl, State.Warmed39.refl s, rfl⟩ trivial
  exact ⟨n, _, h1, h2, h3, hpost _ _ _ _ _ _ ⟨Cond.after_iff.mpr rfl, Cond.after_iff.mpr (eq_i res_at (Term.int_eval (1)) rfl), trivial⟩ ⟨hq.1, hq.2.1, (hq.2.2.sift fun y hy => Or.inr (N y hy)).mono (fin_len _ _ w) (fin_hsl _ _ w)⟩⟩
theorem u_mk_63 (n : Nat) (k : Nat) (x1 : Int32) (x2 : Int32) (x3 : Int32) (x4 : Int32) (x5 : Int32) (x7 : Int32) (x8 : Int32) (s : St) : f_mk_63 n (k + 1) x1 x2 x3 x4 x5 x7 x8 s =
    (if x8 < (4096 : Int32) then
      grd (inb x7 4096) <|
      if (s.2 7 (ix x7)) = 0 then
        (f_newNode x7 x1 x2 x3 x4 x5 s).bind fun q4 =>
        some (q4.1, q4.2)
      else
        (f_sameNode s (s.2 7 (ix x7)) x1 x2 x3 x4 x5).bind fun q6 =>
        if q6 = 0 then
          f_mk_63 n k x1 x2 x3 x4 x5 ((x7 + (1 : Int32)) &&& (4095 : Int32)) (x8 + (1 : Int32)) s
        else
          some ((s.2 7 (ix x7)), s)
    else
      some ((0 : Int32), s)) := rfl
theorem u_reduceBuffer_29 (n : Nat) (k16 : Int32 → Int32 → St → Option (Int32 × St)) (k : Nat) (x1 : Int32) (x2 : Int32) (x3 : Int32) (s : St) : f_reduceBuffer_29 n k16 (k + 1) x1 x2 x3 s =
    (if x3 < x1 then
      grd (inb (x3 * (s.1 21)) 1024) <|
      grd (inb ((x3 * (s.1 21)) + (1 : Int32)) 1024) <|
      bnd (s.2 11 (ix ((x3 * (s.1 21)) + (1 : Int32)))) fun v4 =>
      if (2 : Int32) < (s.1 21) then
        grd (inb ((x3 * (s.1 21)) + (2 : Int32)) 1024) <|
        f_reduceBuffer_83 n k16 (f_reduceBuffer_29 n k16 k) x1 x2 x3 (x3 * (s.1 21)) (s.2 11 (ix (x3 * (s.1 21)))) v4 (s.2 11 (ix ((x3 * (s.1 21)) + (2 : Int32)))) s
      else
        f_reduceBuffer_83 n k16 (f_reduceBuffer_29 n k16 k) x1 x2 x3 (x3 * (s.1 21)) (s.2 11 (ix (x3 * (s.1 21)))) v4 (0 : Int32) s
    else
      k16 x1 (x2 + (-1 : Int32)) s) := rfl
theorem u_reduceBuffer_16 (n : Nat) (k : Nat) (x1 : Int32) (x2 : Int32) (s : St) : f_reduceBuffer_16 n (k + 1) x1 x2 s =
    (if x2 < 0 then
      some ((s.2 11 (ix (0 : Int32))), s)
    else
      grd ((s.1 21) ≠ 0) <|
      f_reduceBuffer_29 n (f_reduceBuffer_16 n k) n (x1 / (s.1 21)) x2 (0 : Int32) s) := rfl
theorem u_pow_4 (n : Nat) (s : St) (k : Nat) (x1 : Int32) (x2 : Int32) (x3 : Int32) : f_pow_4 n s (k + 1) x1 x2 x3 =
    (if x3 < x1 then
      if x3 < (5 : Int32) then
        f_pow_4 n s k x1 (x2 * (s.1 21)) (x3 + (1 : Int32))
      else
        some x2
    else
      some x2) := rfl
theorem u_decode_9 (n : Nat) (k : Nat) (x2 : Int32) (x3 : Int32) (s : St) : f_decode_9 n (k + 1) x2 x3 s =
    (if x3 < 0 then
      some s
    else
      grd ((s.1 21) ≠ 0) <|
      grd (inb x3 5) <|
      bnd (setA s 4 (ix x3) (x2 % (s.1 21))) fun s4 =>
      grd ((s4.1 21) ≠ 0) <|
      f_decode_9 n k (x2 / (s4.1 21)) (x3 + (-1 : Int32)) s4) := rfl
theorem u_compileTable_78 (n : Nat) (k : Nat) (x1 : Int32) (x2 : Int32) (s : St) : f_compileTable_78 n (k + 1) x1 x2 s =
    (if x2 < x1 then
      if x2 < (1024 : Int32) then
        (f_decode n x2 s).bind fun q3 =>
        (f_scopeCode q3).bind fun q5 =>
        grd (inb q5 64) <|
        if (q3.2 12 (ix q5)) = 0 then
          f_compileTable_117 n (f_compileTable_78 n k) x1 x2 (0 : Int32) x2 q3
        else
          f_compileTable_117 n (f_compileTable_78 n k) x1 x2 (1 : Int32) x2 q3
      else
        f_compileTable_124 n s
    else
      f_compileTable_124 n s) := rfl
theorem u_compileTable_23 (n : Nat) (k : Nat) (x1 : Int32) (s : St) : f_compileTable_23 n (k + 1) x1 s =
    (if x1 < (s.1 29) then
      if x1 < (16 : Int32) then
        grd (inb x1 16) <|
        if (s.2 1 (ix x1)) < 0 then
          f_compileTable_23 n k (x1 + (1 : Int32)) s
        else
          if (s.2 1 (ix x1)) < (64 : Int32) then
            grd (inb (s.2 1 (ix x1)) 64) <|
            bnd (setA s 12 (ix (s.2 1 (ix x1))) ((1 : Int32) &&& 1)) fun s7 =>
            f_compileTable_23 n k (x1 + (1 : Int32)) s7
          else
            f_compileTable_23 n k (x1 + (1 : Int32)) s
      else
        f_compileTable_67 n s
    else
      f_compileTable_67 n s) := rfl
theorem u_compileTable_2 (n : Nat) (k : Nat) (x1 : Int32) (s : St) : f_compileTable_2 n (k + 1) x1 s =
    (if x1 < (64 : Int32) then
      grd (inb x1 64) <|
      bnd (setA s 12 (ix x1) ((0 : Int32) &&& 1)) fun s3 =>
      f_compileTable_2 n k (x1 + (1 : Int32)) s3
    else
      f_compileTable_23 n n (0 : Int32) s) := rfl
theorem u_memoFind_35 (n : Nat) (s : St) (k : Nat) (x3 : Int32) (x4 : Int32) (x5 : Int32) (x6 : Int32) : f_memoFind_35 n s (k + 1) x3 x4 x5 x6 =
    (if x6 < (1024 : Int32) then
      grd (inb x5 1024) <|
      if (s.2 16 (ix x5)) = 0 then
        some (-1 : Int32)
      else
        if (s.2 13 (ix x5)) = x3 then
          if (s.2 14 (ix x5)) = x4 then
            some (s.2 15 (ix x5))
          else
            f_memoFind_84 n s (f_memoFind_35 n s k) x3 x4 x5 x6
        else
          f_memoFind_84 n s (f_memoFind_35 n s k) x3 x4 x5 x6
    else
      some (-1 : Int32)) := rfl
theorem u_memoStore_37 (n : Nat) (k : Nat) (x3 : Int32) (x4 : Int32) (x5 : Int32) (x6 : Int32) (x7 : Int32) (s : St) : f_memoStore_37 n (k + 1) x3 x4 x5 x6 x7 s =
    (if x7 < (1024 : Int32) then
      grd (inb x6 1024) <|
      if (s.2 16 (ix x6)) = 0 then
        bnd (setA s 16 (ix x6) ((1 : Int32) &&& 1)) fun s4 =>
        bnd (setA s4 13 (ix x6) x4) fun s5 =>
        bnd (setA s5 14 (ix x6) x5) fun s6 =>
        bnd (setA s6 15 (ix x6) x3) fun s7 =>
        some s7
      else
        f_memoStore_37 n k x3 x4 x5 ((x6 + (1 : Int32)) &&& (1023 : Int32)) (x7 + (1 : Int32)) s
    else
      some s) := rfl
theorem u_pushChildren_10 (n : Nat) (k : Nat) (x1 : Int32) (x2 : Int32) (x3 : Int32) (x4 : Int32) (s : St) : f_pushChildren_10 n (k + 1) x1 x2 x3 x4 s =
    (if x4 < (s.1 21) then
      (f_cofactor s x1 x3 x4).bind fun q2 =>
      (f_cofactor s x2 x3 x4).bind fun q4 =>
      (f_resolve n s q2 q4).bind fun q6 =>
      if q6 < 0 then
        (f_push q2 q4 s).bind fun q9 =>
        f_pushChildren_10 n k x1 x2 x3 (x4 + (1 : Int32)) q9
      else
        f_pushChildren_10 n k x1 x2 x3 (x4 + (1 : Int32)) s
    else
      some s) := rfl
theorem u_conjoin_35 (n : Nat) (k : Nat) (x1 : Int32) (x2 : Int32) (x3 : Int32) (s : St) : f_conjoin_35 n (k + 1) x1 x2 x3 s =
    (if x3 < (200000 : Int32) then
      if 0 < (s.1 30) then
        (f_step n s).bind fun q3 =>
        f_conjoin_35 n k x1 x2 (x3 + (1 : Int32)) q3
      else
        f_conjoin_58 n x1 x2 s
    else
      f_conjoin_58 n x1 x2 s) := rfl
theorem u_conjoin_2 (n : Nat) (k : Nat) (x1 : Int32) (x2 : Int32) (x3 : Int32) (s : St) : f_conjoin_2 n (k + 1) x1 x2 x3 s =
    (if x3 < (1024 : Int32) then
      grd (inb x3 1024) <|
      bnd (setA s 16 (ix x3) ((0 : Int32) &&& 1)) fun s3 =>
      f_conjoin_2 n k x1 x2 (x3 + (1 : Int32)) s3
    else
      bnd (setI s 30 (0 : Int32)) fun s4 =>
      (f_push x1 x2 s4).bind fun q5 =>
      f_conjoin_35 n n x1 x2 (0 : Int32) q5) := rfl
theorem u_gap_5 (n : Nat) (s : St) (k : Nat) (x2 : Int32) (x3 : Int32) (x4 : Int32) : f_gap_5 n s (k + 1) x2 x3 x4 =
    (if x4 < x2 then
      if x4 < (5 : Int32) then
        grd (inb x4 5) <|
        if (s.2 3 (ix x4)) < 0 then
          f_gap_5 n s k x2 (x3 * (s.1 21)) (x4 + (1 : Int32))
        else
          f_gap_5 n s k x2 x3 (x4 + (1 : Int32))
      else
        some x3
    else
      some x3) := rfl
theorem u_nodeCount_23 (n : Nat) (s : St) (k : Nat) (x1 : Int32) (x2 : Int32) (x3 : Int32) (x4 : Int32) : f_nodeCount_23 n s (k + 1) x1 x2 x3 x4 =
    (if x4 < (s.1 21) then
      grd (inb x2 5) <|
      if (s.2 3 (ix x2)) < 0 then
        f_nodeCount_55 n s (f_nodeCount_23 n s k) x1 x2 x3 x4
      else
        if (s.2 3 (ix x2)) = x4 then
          f_nodeCount_55 n s (f_nodeCount_23 n s k) x1 x2 x3 x4
        else
          f_nodeCount_23 n s k x1 x2 x3 (x4 + (1 : Int32))
    else
      some x3) := rfl
theorem u_countFixed_26 (n : Nat) (k : Nat) (x1 : Int32) (x2 : Int32) (s : St) : f_countFixed_26 n (k + 1) x1 x2 s =
    (if x1 < x2 then
      f_countFixed_55 n x1 s
    else
      if x2 < (2048 : Int32) then
        (f_nodeCount n s x2).bind fun q3 =>
        grd (inb x2 2048) <|
        bnd (setA s 10 (ix x2) q3) fun s6 =>
        f_countFixed_26 n k x1 (x2 + (1 : Int32)) s6
      else
        f_countFixed_55 n x1 s) := rfl
theorem u_loadChoices_2 (n : Nat) (k : Nat) (x1 : Int32) (s : St) : f_loadChoices_2 n (k + 1) x1 s =
    (if x1 < (5 : Int32) then
      grd (inb x1 5) <|
      bnd (setA s 3 (ix x1) (s.2 2 (ix x1))) fun s3 =>
      f_loadChoices_2 n k (x1 + (1 : Int32)) s3
    else
      some s) := rfl
theorem u_offeredMask_14 (n : Nat) (k : Nat) (x1 : Int32) (x2 : Int32) (x3 : Int32) (s : St) : f_offeredMask_14 n (k + 1) x1 x2 x3 s =
    (if x3 < (s.1 21) then
      (f_countWith n x1 x3 s).bind fun q2 =>
      if 0 < q2.1 then
        f_offeredMask_14 n k x1 (x2 ||| ((1 : Int32) <<< (x3 &&& 31))) (x3 + (1 : Int32)) q2.2
      else
        f_offeredMask_14 n k x1 x2 (x3 + (1 : Int32)) q2.2
    else
      some (x2, s)) := rfl
theorem u_hcheck_43 (n : Nat) (k12 : Int32 → Int32 → Int32 → St → Option (Int32 × St)) (k : Nat) (x1 : Int32) (x2 : Int32) (x3 : Int32) (x4 : Int32) (x5 : Int32) (x6 : Int32) (x7 : Int64) (x9 : Int32) (s : St) : f_hcheck_43 n k12 (k + 1) x1 x2 x3 x4 x5 x6 x7 x9 s =
    (if x9 < x2 then
      (f_countWith n x3 x9 s).bind fun q2 =>
      if ((XT.ushr x6 x9) &&& (1 : Int32)) = (1 : Int32) then
        f_hcheck_82 n k12 (f_hcheck_43 n k12 k) x1 x2 x3 x4 x5 x6 (x7 + (q2.1).toInt64) x9 q2.1 (1 : Int32) q2.2
      else
        f_hcheck_82 n k12 (f_hcheck_43 n k12 k) x1 x2 x3 x4 x5 x6 (x7 + (q2.1).toInt64) x9 q2.1 (0 : Int32) q2.2
    else
      if (XT.ushr x6 x2) = 0 then
        if x5 = (-1 : Int32) then
          if (XT.cmpL (x4).toInt64 x7) = 0 then
            k12 x1 x2 (x3 + (1 : Int32)) s
          else
            some ((0 : Int32), s)
        else
          if x5 < 0 then
            k12 x1 x2 (x3 + (1 : Int32)) s
          else
            (f_countWith n x3 x5 s).bind fun q9 =>
            if x4 = q9.1 then
              k12 x1 x2 (x3 + (1 : Int32)) q9.2
            else
              some ((0 : Int32), q9.2)
      else
        some ((0 : Int32), s)) := rfl
theorem u_hcheck_12 (n : Nat) (k : Nat) (x1 : Int32) (x2 : Int32) (x3 : Int32) (s : St) : f_hcheck_12 n (k + 1) x1 x2 x3 s =
    (if x3 < x1 then
      (f_count n s).bind fun q2 =>
      (f_chosenValue q2.2 x3).bind fun q4 =>
      (f_offeredMask n x3 q2.2).bind fun q6 =>
      f_hcheck_43 n (f_hcheck_12 n k) n x1 x2 x3 q2.1 q4 q6.1 (0 : Int64) (0 : Int32) q6.2
    else
      some ((1 : Int32), s)) := rfl
theorem u_addTuple_98 (n : Nat) (k : Nat) (x4 : Int32) (x5 : Int32) (s : St) : f_addTuple_98 n (k + 1) x4 x5 s =
    (if x5 < (s.1 29) then
      if x5 < (16 : Int32) then
        grd (inb x5 16) <|
        if (s.2 1 (ix x5)) = x4 then
          some ((-5 : Int32), s)
        else
          f_addTuple_98 n k x4 (x5 + (1 : Int32)) s
      else
        f_addTuple_135 n x4 s
    else
      f_addTuple_135 n x4 s) := rfl
theorem u_clearChoices_2 (n : Nat) (k : Nat) (x1 : Int32) (s : St) : f_clearChoices_2 n (k + 1) x1 s =
    (if x1 < (5 : Int32) then
      grd (inb x1 5) <|
      bnd (setA s 2 (ix x1) (-1 : Int32)) fun s3 =>
      f_clearChoices_2 n k (x1 + (1 : Int32)) s3
    else
      some s) := rfl
theorem u_law_35 (n : Nat) (sn : Nat) (sf : Nat → Int32) (k : Nat) (x2 : Int32) (s : St) : f_law_35 n sn sf (k + 1) x2 s =
    (if x2 < sn.toInt32 then
      (f_hcell sn sf x2).bind fun q2 =>
      (f_hcell sn sf (x2 + (1 : Int32))).bind fun q4 =>
      (f_hcell sn sf (x2 + (2 : Int32))).bind fun q6 =>
      (f_hcell sn sf (x2 + (3 : Int32))).bind fun q8 =>
      (f_numVars s).bind fun q10 =>
      (f_domainSize s).bind fun q12 =>
      if (1 : Int32) < (q2 &&& (15 : Int32)) then
        if (5 : Int32) < (q2 &&& (15 : Int32)) then
          if (7 : Int32) < (q2 &&& (15 : Int32)) then
            if (q2 &&& (15 : Int32)) = (8 : Int32) then
              (f_abortTable s).bind fun q18 =>
              f_law_433 n sn sf (f_law_35 n sn sf k) x2 q18.2
            else
              if (q2 &&& (15 : Int32)) = (9 : Int32) then
                (f_dropLastTable s).bind fun q21 =>
                f_law_433 n sn sf (f_law_35 n sn sf k) x2 q21.2
              else
                if (12 : Int32) < (q2 &&& (15 : Int32)) then
                  if (14 : Int32) < (q2 &&& (15 : Int32)) then
                    (f_clearChoices n s).bind fun q25 =>
                    f_law_433 n sn sf (f_law_35 n sn sf k) x2 q25
                  else
                    (f_hpick q4 q10).bind fun q27 =>
                    (f_retract q27 s).bind fun q29 =>
                    f_law_433 n sn sf (f_law_35 n sn sf k) x2 q29.2
                else
                  (f_hpick q4 q10).bind fun q31 =>
                  (f_hpick q6 q12).bind fun q33 =>
                  if q31 < 0 then
                    f_law_290 n sn sf (f_law_35 n sn sf k) x2 q31 q33 (0 : Int32) s
                  else
                    if q31 < q10 then
                      if q33 < 0 then
                        f_law_290 n sn sf (f_law_35 n sn sf k) x2 q31 q33 (0 : Int32) s
                      else
                        if q33 < q12 then
                          f_law_290 n sn sf (f_law_35 n sn sf k) x2 q31 q33 (1 : Int32) s
                        else
                          f_law_290 n sn sf (f_law_35 n sn sf k) x2 q31 q33 (0 : Int32) s
                    else
                      f_law_290 n sn sf (f_law_35 n sn sf k) x2 q31 q33 (0 : Int32) s
          else
            (f_commitTable n s).bind fun q39 =>
            f_law_433 n sn sf (f_law_35 n sn sf k) x2 q39.2
        else
          (f_hpick q4 q12).bind fun q41 =>
          (f_hpick q6 q12).bind fun q43 =>
          (f_hpick q8 q12).bind fun q45 =>
          (f_addTuple n q41 q43 q45 s).bind fun q47 =>
          f_law_433 n sn sf (f_law_35 n sn sf k) x2 q47.2
      else
        (f_hpick q4 q10).bind fun q49 =>
        if ((XT.ushr q6 (5 : Int32)) &&& (1 : Int32)) = 0 then
          f_law_123 n sn sf (f_law_35 n sn sf k) x2 q8 q10 q49 (-1 : Int32) s
        else
          (f_hpick q6 q10).bind fun q52 =>
          f_law_123 n sn sf (f_law_35 n sn sf k) x2 q8 q10 q49 q52 s
    else
      some ((1 : Int32), s)) := rfl
theorem u_clearUnique_2 (n : Nat) (k : Nat) (x1 : Int32) (s : St) : f_clearUnique_2 n (k + 1) x1 s =
    (if x1 < (4096 : Int32) then
      grd (inb x1 4096) <|
      bnd (setA s 7 (ix x1) (0 : Int32)) fun s3 =>
      f_clearUnique_2 n k (x1 + (1 : Int32)) s3
    else
      some s) := rfl
theorem u_ctor_266 (n : Nat) (k : Nat) (x3 : Int32) (s : St) : f_ctor_266 n (k + 1) x3 s =
    (if x3 < (5 : Int32) then
      grd (inb x3 5) <|
      bnd (setA s 2 (ix x3) (-1 : Int32)) fun s3 =>
      f_ctor_266 n k (x3 + (1 : Int32)) s3
    else
      some s) := rfl
/-! ### the plain law -/
/-! ### diagrams: N nodes, levels L, children c -/
theorem own_pg0 : ∀ (S T : List Nat), T.Nodup → S.length < T.length → ∃ x, x ∈ T ∧ x ∉ S := by
  intro S
  induction S with
  | nil =>
    intro T _ h
    cases T with
    | nil => simp at h
    | cons x T => exact ⟨x, by simp, by simp⟩
  | cons a S ih =>
    intro T hT h
    have h1 : S.length < (T.erase a).length := by
      have := List.length_erase (a := a) (l := T)
      simp only [List.length_cons] at h
      split at this <;> omega
    obtain ⟨x, hx, hs⟩ := ih (T.erase a) (hT.erase a) h1
    rw [hT.mem_erase_iff] at hx
    exact ⟨x, hx.2, by simp only [List.mem_cons, not_or]; exact ⟨hx.1, hs⟩⟩
theorem own_pgl {T : List Nat} {K : Nat} (hT : T.Nodup) (h : ∀ y, y ∈ T → y < K) : T.length ≤ K := by
  by_cases q : T.length ≤ K
  · exact q
  · obtain ⟨x, x1, x2⟩ := own_pg0 (List.range K) T hT (by rw [List.length_range]; omega)
    exact absurd (List.mem_range.mpr (h x x1)) x2
theorem own_pg (W : Nat) (S : List Nat) (h : Nat) (hS : S.length < W) : ∃ e, e ≤ S.length ∧ (h + e) % W ∉ S := by
  have nd : ((List.range (S.length + 1)).map fun e => (h + e) % W).Nodup := by
    rw [List.nodup_iff_pairwise_ne, List.pairwise_map]
    refine List.Pairwise.imp_of_mem ?_ List.pairwise_lt_range
    intro a b ha hb hab
    rw [List.mem_range] at ha hb
    intro e
    have h1 := Nat.div_add_mod (h + a) W
    have h2 := Nat.div_add_mod (h + b) W
    have h3 : W * ((h + b) / W) - W * ((h + a) / W) = b - a := by omega
    rw [← Nat.mul_sub] at h3
    by_cases q : (h + b) / W - (h + a) / W = 0
    · rw [q] at h3; omega
    · have := Nat.le_mul_of_pos_right W (Nat.pos_of_ne_zero q)
      omega
  obtain ⟨x, hx, hs⟩ := own_pg0 S _ nd (by simp)
  rw [List.mem_map] at hx
  obtain ⟨e, he, rfl⟩ := hx
  rw [List.mem_range] at he
  exact ⟨e, by omega, hs⟩
theorem own_and2 {m k : Nat} (hk : k ≤ 30) (h : m < 2147483648) : Int32.ofNat m &&& Int32.ofNat (2 ^ k - 1) = Int32.ofNat (m % 2 ^ k) := by
  have hp : 2 ^ k ≤ 2 ^ 30 := Nat.pow_le_pow_right (by omega) hk
  apply Int32.toBitVec_inj.mp
  apply BitVec.eq_of_toNat_eq
  rw [Int32.toBitVec_and, BitVec.toNat_and]
  show (BitVec.ofNat 32 m).toNat &&& (BitVec.ofNat 32 (2 ^ k - 1)).toNat = (BitVec.ofNat 32 (m % 2 ^ k)).toNat
  have : m % 2 ^ k < 2 ^ k := Nat.mod_lt _ (Nat.pow_pos (by omega))
  rw [BitVec.toNat_ofNat, BitVec.toNat_ofNat, BitVec.toNat_ofNat, Nat.mod_eq_of_lt (by omega : m < 2 ^ 32), Nat.mod_eq_of_lt (by omega : 2 ^ k - 1 < 2 ^ 32), Nat.mod_eq_of_lt (by omega : m % 2 ^ k < 2 ^ 32)]
  exact Nat.and_two_pow_sub_one_eq_mod m k
theorem own_and (x : Int32) {M : Nat} (hM : M < 2147483648) : ∃ m, m ≤ M ∧ x &&& Int32.ofNat M = Int32.ofNat m := by
  have r := and_rng x hM
  have nn : ¬ (x &&& Int32.ofNat M) < 0 := by rw [lt_I]; show ¬ (x &&& Int32.ofNat M).toInt < 0; omega
  have := ix_toInt nn
  exact ⟨ix (x &&& Int32.ofNat M), by omega, (N_ix nn).symm⟩
theorem own_nlt {i j : Nat} (h : j ≤ i) (hi : i < 2147483648) : ¬ Int32.ofNat i < Int32.ofNat j := fun w => by have := (N_lt hi (by omega)).mp w; omega
theorem own_ne {i j : Nat} (h : i ≠ j) (hi : i < 2147483648) (hj : j < 2147483648) : ¬ Int32.ofNat i = Int32.ofNat j := fun w => h ((N_inj hi hj).mp w)
/-- the place where a node's search begins -/
def own_hh (l : Nat) (a : Nat → Nat) : Nat := ix ((f_hashOf zeroS (Int32.ofNat l) (Int32.ofNat (a 0)) (Int32.ofNat (a 1)) (Int32.ofNat (a 2)) (Int32.ofNat (a 3))).getD 0)
theorem own_hhE (s : St) (l : Nat) (a : Nat → Nat) : f_hashOf s (Int32.ofNat l) (Int32.ofNat (a 0)) (Int32.ofNat (a 1)) (Int32.ofNat (a 2)) (Int32.ofNat (a 3)) = some (Int32.ofNat (own_hh l a)) ∧ own_hh l a < 4096 := by
  obtain ⟨v, hv⟩ : ∃ v : Int32, f_hashOf zeroS (Int32.ofNat l) (Int32.ofNat (a 0)) (Int32.ofNat (a 1)) (Int32.ofNat (a 2)) (Int32.ofNat (a 3)) = some (v &&& Int32.ofNat 4095) := ⟨_, rfl⟩
  have e : f_hashOf s (Int32.ofNat l) (Int32.ofNat (a 0)) (Int32.ofNat (a 1)) (Int32.ofNat (a 2)) (Int32.ofNat (a 3)) = some (v &&& Int32.ofNat 4095) := hv
  obtain ⟨m, m1, m2⟩ := own_and v (M := 4095) (by omega)
  unfold own_hh
  rw [e, hv, Option.getD_some, m2, ix_N (by omega)]
  exact ⟨rfl, by omega⟩
def own_at7 (s : St) (h e : Nat) : Int32 := s.2 7 ((h + e) % 4096)
def own_in (s : St) (h i : Nat) : Prop := ∃ E, E < 4096 ∧ own_at7 s h E = Int32.ofNat i ∧ ∀ e, e < E → own_at7 s h e ≠ 0
def own_y (a : Nat → Nat) : Nat := a 0 + 2 * a 1 + 4 * a 2 + 8 * a 3
def own_N (V d N U : Nat) (lo : List Nat) (L : Nat → Nat) (c : Nat → Nat → Nat) (s : St) : Prop :=
  (s.1 20 = Int32.ofNat V ∧ s.1 21 = Int32.ofNat d ∧ s.1 22 = Int32.ofNat N ∧ 2 ≤ N ∧ N ≤ 2048 ∧ 1 ≤ V ∧ V ≤ 5 ∧ 2 ≤ d ∧ d ≤ 4) ∧
  (∀ i, i < N → s.2 5 i = Int32.ofNat (L i) ∧ L i ≤ V) ∧ (L 0 = V ∧ L 1 = V) ∧
  (∀ i, 2 ≤ i → i < N → L i < V ∧ ∀ v, v < 4 → s.2 6 (4 * i + v) = Int32.ofNat (c i v) ∧ c i v < i ∧ L i < L (c i v)) ∧
  (∃ T : List Nat, T.length ≤ N ∧ ∀ h, h < 4096 → h ∉ T → s.2 7 h = 0) ∧
  (∀ h, h < 4096 → s.2 7 h = 0 ∨ ∃ i, 2 ≤ i ∧ i < N ∧ s.2 7 h = Int32.ofNat i) ∧
  (∀ i, 2 ≤ i → i < N → own_in s (own_hh (L i) (c i)) i) ∧
  (∀ i j, 2 ≤ i → i < N → 2 ≤ j → j < N → L i = L j → (∀ v, v < 4 → c i v = c j v) → i = j) ∧
  (N = 2 + U + lo.length ∧ lo.Nodup ∧ ∀ y, y ∈ lo → y < 16 ∧ ∃ i, 2 ≤ i ∧ i < N ∧ L i + 1 = V ∧ own_y (c i) = y)
theorem own_NF {V d N U : Nat} {lo : List Nat} {L : Nat → Nat} {c : Nat → Nat → Nat} {s t : St} (h1 : t.1 20 = s.1 20) (h2 : t.1 21 = s.1 21) (h3 : t.1 22 = s.1 22) (h5 : t.2 5 = s.2 5) (h6 : t.2 6 = s.2 6) (h7 : t.2 7 = s.2 7) (I : own_N V d N U lo L c s) : own_N V d N U lo L c t := by
  unfold own_N own_in own_at7
  rw [h1, h2, h3, h5, h6, h7]; exact I
theorem own_lo16 {V d N U : Nat} {lo : List Nat} {L : Nat → Nat} {c : Nat → Nat → Nat} {s : St} (I : own_N V d N U lo L c s) : lo.length ≤ 16 :=
  own_pgl I.2.2.2.2.2.2.2.2.2.1 (fun y hy => (I.2.2.2.2.2.2.2.2.2.2 y hy).1)
def own_X (N : Nat) (L : Nat → Nat) (c : Nat → Nat → Nat) (N' : Nat) (L' : Nat → Nat) (c' : Nat → Nat → Nat) : Prop := N ≤ N' ∧ ∀ i, i < N → L' i = L i ∧ c' i = c i
def own_fr (s t : St) : Prop := (∀ j, j ≠ 22 → t.1 j = s.1 j) ∧ (∀ j, j ≠ 5 → j ≠ 6 → j ≠ 7 → t.2 j = s.2 j)
theorem own_Xr (N : Nat) (L : Nat → Nat) (c : Nat → Nat → Nat) : own_X N L c N L c := ⟨Nat.le_refl _, fun i _ => ⟨rfl, rfl⟩⟩
theorem own_Xt {N N' N'' : Nat} {L L' L'' : Nat → Nat} {c c' c'' : Nat → Nat → Nat} (h : own_X N L c N' L' c') (g : own_X N' L' c' N'' L'' c'') : own_X N L c N'' L'' c'' :=
  ⟨Nat.le_trans h.1 g.1, fun i hi => ⟨(g.2 i (Nat.lt_of_lt_of_le hi h.1)).1.trans (h.2 i hi).1, (g.2 i (Nat.lt_of_lt_of_le hi h.1)).2.trans (h.2 i hi).2⟩⟩
theorem own_frr (s : St) : own_fr s s := ⟨fun _ _ => rfl, fun _ _ _ _ => rfl⟩
/-- the first d children are one node -/
def own_eq (d : Nat) (a : Nat → Nat) : Prop := a 1 = a 0 ∧ (2 < d → a 2 = a 0) ∧ (3 < d → a 3 = a 0)
/-- r is what mk answers for these children -/
def own_Is (d : Nat) (L : Nat → Nat) (c : Nat → Nat → Nat) (l : Nat) (a : Nat → Nat) (r : Nat) : Prop := (own_eq d a ∧ r = a 0) ∨ (¬ own_eq d a ∧ 2 ≤ r ∧ L r = l ∧ ∀ v, v < 4 → c r v = a v)
theorem own_IsX {d N N' l r : Nat} {L L' : Nat → Nat} {c c' : Nat → Nat → Nat} {a : Nat → Nat} (X : own_X N L c N' L' c') (hr : r < N) (h : own_Is d L c l a r) : own_Is d L' c' l a r := by
  rcases h with h | ⟨h1, h2, h3, h4⟩
  · exact Or.inl h
  · exact Or.inr ⟨h1, h2, by rw [(X.2 r hr).1]; exact h3, by rw [(X.2 r hr).2]; exact h4⟩
section
variable {V d N U n l : Nat} {lo : List Nat} {L : Nat → Nat} {c : Nat → Nat → Nat} {a : Nat → Nat} {s : St}
theorem own_Isu {r r' : Nat} (I : own_N V d N U lo L c s) (h : own_Is d L c l a r) (h' : own_Is d L c l a r') (hr : r < N) (hr' : r' < N) : r = r' := by
  rcases h with ⟨h1, h2⟩ | ⟨h1, h2, h3, h4⟩
  · rcases h' with ⟨g1, g2⟩ | ⟨g1, -⟩
    · rw [h2, g2]
    · exact absurd h1 g1
  · rcases h' with ⟨g1, -⟩ | ⟨g1, g2, g3, g4⟩
    · exact absurd g1 h1
    · exact I.2.2.2.2.2.2.2.1 r r' h2 hr g2 hr' (by rw [h3, g3]) (fun v hv => by rw [h4 v hv, g4 v hv])
/-- what mk leaves -/
def own_mkR (V d N U : Nat) (L : Nat → Nat) (c : Nat → Nat → Nat) (l : Nat) (a : Nat → Nat) (s : St) (o : Option (Int32 × St)) : Prop :=
  ∃ r N' U' lo' L' c' s', o = some (Int32.ofNat r, s') ∧ own_N V d N' U' lo' L' c' s' ∧ own_X N L c N' L' c' ∧ r < N' ∧ l ≤ L' r ∧ own_Is d L' c' l a r ∧ own_fr s s' ∧ U' ≤ U + (if l + 1 < V then 1 else 0) ∧ (U' ≤ U ∨ ¬ ∃ r, r < N ∧ own_Is d L c l a r)
theorem own_same (I : own_N V d N U lo L c s) (hl : l < V) (ha : ∀ v, v < 4 → a v < N ∧ l < L (a v)) {i : Nat} (h2 : 2 ≤ i) (hi : i < N) :
    ∃ q, f_sameNode s (Int32.ofNat i) (Int32.ofNat l) (Int32.ofNat (a 0)) (Int32.ofNat (a 1)) (Int32.ofNat (a 2)) (Int32.ofNat (a 3)) = some q ∧ (¬ q = 0 ↔ (L i = l ∧ ∀ v, v < 4 → c i v = a v)) := by
  have hN : N ≤ 2048 := I.1.2.2.2.2.1
  have hV := I.1.2.2.2.2.2.2.1
  obtain ⟨k1, k2⟩ := I.2.2.2.1 i h2 hi
  have lv := (I.2.1 i hi).2
  have cv : ∀ v, v < 4 → (s.2 6 (4 * i + v) = Int32.ofNat (a v) ↔ c i v = a v) := fun v hv => by
    rw [(k2 v hv).1]; exact N_inj (by have := (k2 v hv).2.1; omega) (by have := (ha v hv).1; omega)
  have lvE : s.2 5 i = Int32.ofNat l ↔ L i = l := by rw [(I.2.1 i hi).1]; exact N_inj (by omega) (by omega)
  unfold f_sameNode
  rw [show (4 : Int32) = Int32.ofNat 4 from rfl, show (1 : Int32) = Int32.ofNat 1 from rfl, show (2 : Int32) = Int32.ofNat 2 from rfl, show (3 : Int32) = Int32.ofNat 3 from rfl, N_mul, N_add, N_add, N_add, grd_pos (inbN (by omega) (by omega)), grd_pos (inbN (by omega) (by omega)), grd_pos (inbN (by omega) (by omega)), grd_pos (inbN (by omega) (by omega)), grd_pos (inbN (by omega) (by omega)), ix_N (by omega), ix_N (by omega), ix_N (by omega), ix_N (by omega), ix_N (by omega)]
  rw [show i * 4 = 4 * i + 0 by omega, show 4 * i + 0 + 1 = 4 * i + 1 by omega, show 4 * i + 0 + 2 = 4 * i + 2 by omega, show 4 * i + 0 + 3 = 4 * i + 3 by omega]
  by_cases q1 : L i = l
  · rw [if_pos (lvE.mpr q1)]
    by_cases q2 : c i 0 = a 0
    · rw [if_pos ((cv 0 (by omega)).mpr q2)]
      by_cases q3 : c i 1 = a 1
      · rw [if_pos ((cv 1 (by omega)).mpr q3)]
        by_cases q4 : c i 2 = a 2
        · rw [if_pos ((cv 2 (by omega)).mpr q4)]
          by_cases q5 : c i 3 = a 3
          · rw [if_pos ((cv 3 (by omega)).mpr q5)]
            refine ⟨_, rfl, fun _ => ⟨q1, fun v hv => ?_⟩, fun _ => by decide⟩
            match v, hv with
            | 0, _ => exact q2
            | 1, _ => exact q3
            | 2, _ => exact q4
            | 3, _ => exact q5
          · rw [if_neg (fun w => q5 ((cv 3 (by omega)).mp w))]; exact ⟨_, rfl, fun w => absurd rfl w, fun w => absurd (w.2 3 (by omega)) q5⟩
        · rw [if_neg (fun w => q4 ((cv 2 (by omega)).mp w))]; exact ⟨_, rfl, fun w => absurd rfl w, fun w => absurd (w.2 2 (by omega)) q4⟩
      · rw [if_neg (fun w => q3 ((cv 1 (by omega)).mp w))]; exact ⟨_, rfl, fun w => absurd rfl w, fun w => absurd (w.2 1 (by omega)) q3⟩
    · rw [if_neg (fun w => q2 ((cv 0 (by omega)).mp w))]; exact ⟨_, rfl, fun w => absurd rfl w, fun w => absurd (w.2 0 (by omega)) q2⟩
  · rw [if_neg (fun w => q1 (lvE.mp w))]; exact ⟨_, rfl, fun w => absurd rfl w, fun w => absurd w.1 q1⟩
theorem own_new (I : own_N V d N U lo L c s) (hN : N < 2048) (hl : l < V) (ha : ∀ v, v < 4 → a v < N ∧ l < L (a v)) (ne : ¬ own_eq d a) (nx : ∀ i, 2 ≤ i → i < N → ¬ (L i = l ∧ ∀ v, v < 4 → c i v = a v)) {E : Nat} (hE : E < 4096) (h0 : own_at7 s (own_hh l a) E = 0) (he : ∀ e, e < E → own_at7 s (own_hh l a) e ≠ 0) {h : Nat} (eh : h = (own_hh l a + E) % 4096) :
    own_mkR V d N U L c l a s (f_newNode (Int32.ofNat h) (Int32.ofNat l) (Int32.ofNat (a 0)) (Int32.ofNat (a 1)) (Int32.ofNat (a 2)) (Int32.ofNat (a 3)) s) := by
  obtain ⟨⟨i1, i2, i3, i4, i5, i6, i7, i8, i9⟩, j1, j2, j3, ⟨T, u1, u2⟩, j5, j6, j7, ⟨j8, j9, j10⟩⟩ := I
  have hh : h < 4096 := by rw [eh]; exact Nat.mod_lt _ (by omega)
  unfold f_newNode
  simp only [bnd_eq]
  rw [i3, if_pos (ltZ (z := 2048) 2048 rfl (by omega) (by omega)), show (4 : Int32) = Int32.ofNat 4 from rfl, show (1 : Int32) = Int32.ofNat 1 from rfl, show (2 : Int32) = Int32.ofNat 2 from rfl, show (3 : Int32) = Int32.ofNat 3 from rfl, N_mul, N_add, N_add, N_add, N_add, grd_pos (inbN (by omega) (by omega)), grd_pos (inbN (by omega) (by omega)), grd_pos (inbN (by omega) (by omega)), grd_pos (inbN (by omega) (by omega)), grd_pos (inbN (by omega) (by omega)), grd_pos (inbN (by omega) (by omega)), ix_N (by omega), ix_N (by omega), ix_N (by omega), ix_N (by omega), ix_N (by omega), ix_N (by omega)]
  obtain ⟨s', es⟩ : ∃ s', s' = setA (setA (setA (setA (setA (setA (setI s 22 (Int32.ofNat (N + 1))) 5 N (Int32.ofNat l)) 6 (N * 4) (Int32.ofNat (a 0))) 6 (N * 4 + 1) (Int32.ofNat (a 1))) 6 (N * 4 + 2) (Int32.ofNat (a 2))) 6 (N * 4 + 3) (Int32.ofNat (a 3))) 7 h (Int32.ofNat N) := ⟨_, rfl⟩
  rw [← es]
  have e1 : ∀ j, s'.1 j = if j = 22 then Int32.ofNat (N + 1) else s.1 j := fun j => by rw [es]; rfl
  have e5 : ∀ x, s'.2 5 x = if x = N then Int32.ofNat l else s.2 5 x := fun x => by
    rw [es]; simp [setA_2, setI_2]
  have e6 : ∀ i v, v < 4 → s'.2 6 (4 * i + v) = if i = N then Int32.ofNat (a v) else s.2 6 (4 * i + v) := fun i v hv => by
    rw [es]
    simp only [setA_2, setI_2]
    rw [if_neg (fun z => by omega)]
    by_cases q : i = N
    · subst q
      rw [if_pos rfl]
      match v, hv with
      | 0, _ => rw [if_neg (fun z => by omega), if_neg (fun z => by omega), if_neg (fun z => by omega), if_pos ⟨by trivial, by omega⟩]
      | 1, _ => rw [if_neg (fun z => by omega), if_neg (fun z => by omega), if_pos ⟨by trivial, by omega⟩]
      | 2, _ => rw [if_neg (fun z => by omega), if_pos ⟨by trivial, by omega⟩]
      | 3, _ => rw [if_pos ⟨by trivial, by omega⟩]
    · rw [if_neg (fun z => by omega), if_neg (fun z => by omega), if_neg (fun z => by omega), if_neg (fun z => by omega), if_neg (fun z => by omega), if_neg q]
  have e7 : ∀ x, s'.2 7 x = if x = h then Int32.ofNat N else s.2 7 x := fun x => by
    rw [es]; simp [setA_2, setI_2]
  have eo : ∀ j, j ≠ 5 → j ≠ 6 → j ≠ 7 → s'.2 j = s.2 j := fun j h5 h6 h7 => by
    funext x
    rw [es]; simp [setA_2, setI_2, h5, h6, h7]
  clear es
  obtain ⟨L', hL⟩ : ∃ L' : Nat → Nat, ∀ i, L' i = if i = N then l else L i := ⟨_, fun _ => rfl⟩
  obtain ⟨c', hc⟩ : ∃ c' : Nat → Nat → Nat, ∀ i, c' i = if i = N then a else c i := ⟨_, fun _ => rfl⟩
  have LN : L' N = l := by rw [hL, if_pos rfl]
  have cN : c' N = a := by rw [hc, if_pos rfl]
  have Lo : ∀ i, i ≠ N → L' i = L i := fun i q => by rw [hL, if_neg q]
  have co : ∀ i, i ≠ N → c' i = c i := fun i q => by rw [hc, if_neg q]
  clear hL hc
  have hz : s.2 7 h = 0 := by rw [eh]; exact h0
  have nz : ∀ i, 2 ≤ i → i < 2049 → Int32.ofNat i ≠ 0 := fun i h1 h2 => own_ne (j := 0) (by omega) (by omega) (by omega)
  have a7 : ∀ p e, own_at7 s p e ≠ 0 → own_at7 s' p e = own_at7 s p e := fun p e w => by
    unfold own_at7 at *
    rw [e7, if_neg (fun z => w (by rw [z]; exact hz))]
  -- the bit word of a node of the last level
  have bit : ∀ v, v < 4 → l + 1 = V → a v < 2 := fun v hv hlV => by
    obtain ⟨g1, g2⟩ := ha v hv
    by_cases q : a v < 2
    · exact q
    · have := (j3 (a v) (by omega) g1).1; omega
  have fin : ∃ (U' : Nat) (lo' : List Nat), U' ≤ U + (if l + 1 < V then 1 else 0) ∧ N + 1 = 2 + U' + lo'.length ∧ lo'.Nodup ∧ ∀ y, y ∈ lo' → y < 16 ∧ ∃ i, 2 ≤ i ∧ i < N + 1 ∧ L' i + 1 = V ∧ own_y (c' i) = y := by
    have old : ∀ y, y ∈ lo → y < 16 ∧ ∃ i, 2 ≤ i ∧ i < N + 1 ∧ L' i + 1 = V ∧ own_y (c' i) = y := fun y hy => by
      obtain ⟨y1, i, y2, y3, y4, y5⟩ := j10 y hy
      exact ⟨y1, i, y2, by omega, by rw [Lo i (by omega)]; exact y4, by rw [co i (by omega)]; exact y5⟩
    by_cases q : l + 1 < V
    · rw [if_pos q]
      exact ⟨U + 1, lo, Nat.le_refl _, by omega, j9, old⟩
    · have hlV : l + 1 = V := by omega
      have b0 := bit 0 (by omega) hlV
      have b1 := bit 1 (by omega) hlV
      have b2 := bit 2 (by omega) hlV
      have b3 := bit 3 (by omega) hlV
      refine ⟨U, own_y a :: lo, by omega, by simp only [List.length_cons]; omega, List.nodup_cons.mpr ⟨fun hm => ?_, j9⟩, fun y hy => ?_⟩
      · obtain ⟨-, i, y2, y3, y4, y5⟩ := j10 _ hm
        refine nx i y2 y3 ⟨by omega, ?_⟩
        have cb : ∀ v, v < 4 → c i v < 2 := fun v hv => by
          obtain ⟨k1, k2⟩ := j3 i y2 y3
          obtain ⟨-, k4, k5⟩ := k2 v hv
          by_cases q : c i v < 2
          · exact q
          · have := (j3 (c i v) (by omega) (by omega)).1; omega
        have d0 := cb 0 (by omega)
        have d1 := cb 1 (by omega)
        have d2 := cb 2 (by omega)
        have d3 := cb 3 (by omega)
        unfold own_y at y5
        intro v hv
        match v, hv with
        | 0, _ => omega
        | 1, _ => omega
        | 2, _ => omega
        | 3, _ => omega
      · rcases List.mem_cons.mp hy with rfl | hy
        · refine ⟨by unfold own_y; omega, N, by omega, by omega, by rw [LN]; exact hlV, by rw [cN]⟩
        · exact old y hy
  obtain ⟨U', lo', f1, f2, f3, f4⟩ := fin
  refine ⟨N, N + 1, U', lo', L', c', s', rfl, ?_, ⟨by omega, fun i hi => ⟨Lo i (by omega), co i (by omega)⟩⟩, by omega, by rw [LN]; omega, Or.inr ⟨ne, i4, LN, fun v _ => by rw [cN]⟩, ⟨fun j hj => by rw [e1, if_neg hj], eo⟩, f1, Or.inr (fun ⟨r, r1, r2⟩ => ?_)⟩
  · refine ⟨⟨by rw [e1, if_neg (by decide)]; exact i1, by rw [e1, if_neg (by decide)]; exact i2, by rw [e1, if_pos rfl], by omega, by omega, i6, i7, i8, i9⟩, fun i hi => ?_, ?_, fun i h2 hi => ?_, ⟨h :: T, by simp only [List.length_cons]; omega, fun x hx hn => ?_⟩, fun x hx => ?_, fun i h2 hi => ?_, fun i j h2 hi h2' hj el ec => ?_, f2, f3, f4⟩
    · rw [e5]
      by_cases q : i = N
      · rw [if_pos q, q, LN]; exact ⟨rfl, by omega⟩
      · rw [if_neg q, Lo i q]; exact j1 i (by omega)
    · rw [Lo 0 (by omega), Lo 1 (by omega)]; exact j2
    · by_cases q : i = N
      · subst q
        rw [LN, cN]
        refine ⟨hl, fun v hv => ?_⟩
        obtain ⟨g1, g2⟩ := ha v hv
        rw [e6 i v hv, if_pos rfl, Lo (a v) (by omega)]
        exact ⟨rfl, g1, g2⟩
      · rw [Lo i q, co i q]
        obtain ⟨k1, k2⟩ := j3 i h2 (by omega)
        refine ⟨k1, fun v hv => ?_⟩
        obtain ⟨c1, c2, c3⟩ := k2 v hv
        rw [e6 i v hv, if_neg q, Lo (c i v) (by omega)]
        exact ⟨c1, c2, c3⟩
    · simp only [List.mem_cons, not_or] at hn
      rw [e7, if_neg hn.1]; exact u2 x hx hn.2
    · rw [e7]
      by_cases q : x = h
      · rw [if_pos q]; exact Or.inr ⟨N, by omega, by omega, rfl⟩
      · rw [if_neg q]
        rcases j5 x hx with z | ⟨i, z1, z2, z3⟩
        · exact Or.inl z
        · exact Or.inr ⟨i, z1, by omega, z3⟩
    · by_cases q : i = N
      · subst q
        rw [LN, cN]
        refine ⟨E, hE, ?_, fun e hee => ?_⟩
        · show s'.2 7 ((own_hh l a + E) % 4096) = _
          rw [← eh, e7, if_pos rfl]
        · rw [a7 _ _ (he e hee)]; exact he e hee
      · rw [Lo i q, co i q]
        obtain ⟨F, F1, F2, F3⟩ := j6 i h2 (by omega)
        refine ⟨F, F1, ?_, fun e hee => ?_⟩
        · rw [a7 _ _ (by rw [F2]; exact nz i h2 (by omega))]; exact F2
        · rw [a7 _ _ (F3 e hee)]; exact F3 e hee
    · by_cases q : i = N
      · by_cases q' : j = N
        · rw [q, q']
        · rw [q, LN, Lo j q'] at el
          exact absurd ⟨el.symm, fun v hv => by have := ec v hv; rw [q, cN, co j q'] at this; exact this.symm⟩ (nx j h2' (by omega))
      · by_cases q' : j = N
        · rw [q', LN, Lo i q] at el
          exact absurd ⟨el, fun v hv => by have := ec v hv; rw [q', cN, co i q] at this; exact this⟩ (nx i h2 (by omega))
        · rw [Lo i q, Lo j q'] at el
          exact j7 i j h2 (by omega) h2' (by omega) el (fun v hv => by have := ec v hv; rw [co i q, co j q'] at this; exact this)
  · rcases r2 with ⟨g, -⟩ | ⟨-, g2, g3⟩
    · exact ne g
    · exact nx r g2 r1 g3
theorem own_mk63 (I : own_N V d N U lo L c s) (hN : N < 2048) (hl : l < V) (ha : ∀ v, v < 4 → a v < N ∧ l < L (a v)) (ne : ¬ own_eq d a) {E : Nat} (hE : E < 4096) (fE : own_at7 s (own_hh l a) E = 0) :
    ∀ m e k, e + m = E → m < k → (∀ e', e' < e → own_at7 s (own_hh l a) e' ≠ 0 ∧ ∀ i, 2 ≤ i → i < N → own_at7 s (own_hh l a) e' = Int32.ofNat i → ¬ (L i = l ∧ ∀ v, v < 4 → c i v = a v)) → own_mkR V d N U L c l a s (f_mk_63 n k (Int32.ofNat l) (Int32.ofNat (a 0)) (Int32.ofNat (a 1)) (Int32.ofNat (a 2)) (Int32.ofNat (a 3)) (Int32.ofNat ((own_hh l a + e) % 4096)) (Int32.ofNat e) s) := by
  have nw : ∀ e, e < 4096 → own_at7 s (own_hh l a) e = 0 → (∀ e', e' < e → own_at7 s (own_hh l a) e' ≠ 0 ∧ ∀ i, 2 ≤ i → i < N → own_at7 s (own_hh l a) e' = Int32.ofNat i → ¬ (L i = l ∧ ∀ v, v < 4 → c i v = a v)) →
      own_mkR V d N U L c l a s ((f_newNode (Int32.ofNat ((own_hh l a + e) % 4096)) (Int32.ofNat l) (Int32.ofNat (a 0)) (Int32.ofNat (a 1)) (Int32.ofNat (a 2)) (Int32.ofNat (a 3)) s).bind fun q4 => some (q4.1, q4.2)) := fun e he h0 hp => by
    obtain ⟨r, N', U', lo', L', c', s', e1, rest⟩ := own_new I hN hl ha ne (fun i h2 hi w => by
      obtain ⟨F, F1, F2, F3⟩ := I.2.2.2.2.2.2.1 i h2 hi
      have hc : own_hh (L i) (c i) = own_hh l a := by
        unfold own_hh
        rw [w.1, w.2 0 (by omega), w.2 1 (by omega), w.2 2 (by omega), w.2 3 (by omega)]
      rw [hc] at F2 F3
      have i5 := I.1.2.2.2.2.1
      by_cases q : F < e
      · exact (hp F q).2 i h2 hi F2 w
      · by_cases q2 : F = e
        · rw [q2, h0] at F2
          exact own_ne (i := i) (j := 0) (by omega) (by omega) (by omega) F2.symm
        · exact F3 e (by omega) h0) he h0 (fun e' he' => (hp e' he').1) rfl
    exact ⟨r, N', U', lo', L', c', s', by rw [e1, Option.bind_some], rest⟩
  intro m
  induction m with
  | zero =>
    intro e k he hk hp
    obtain ⟨k, rfl⟩ : ∃ k', k = k' + 1 := ⟨k - 1, by omega⟩
    have hb' : (own_hh l a + e) % 4096 < 4096 := Nat.mod_lt _ (by omega)
    have z0 : own_at7 s (own_hh l a) e = 0 := by rw [show e = E by omega]; exact fE
    rw [u_mk_63, if_pos (ltZ (z := 4096) 4096 rfl (by omega) (by omega)), grd_pos (inbN hb' (by omega)), ix_N (by omega), if_pos (show s.2 7 ((own_hh l a + e) % 4096) = 0 from z0)]
    exact nw e (by omega) z0 hp
  | succ m ih =>
    intro e k he hk hp
    obtain ⟨k, rfl⟩ : ∃ k', k = k' + 1 := ⟨k - 1, by omega⟩
    have hb' : (own_hh l a + e) % 4096 < 4096 := Nat.mod_lt _ (by omega)
    rw [u_mk_63, if_pos (ltZ (z := 4096) 4096 rfl (by omega) (by omega)), grd_pos (inbN hb' (by omega)), ix_N (by omega)]
    by_cases q : s.2 7 ((own_hh l a + e) % 4096) = 0
    · rw [if_pos q]; exact nw e (by omega) q hp
    · rw [if_neg q]
      rcases I.2.2.2.2.2.1 _ hb' with z | ⟨i, i2, iN, ei⟩
      · exact absurd z q
      · rw [ei]
        have i5 := I.1.2.2.2.2.1
        obtain ⟨w, e1, e2⟩ := own_same I hl ha i2 iN
        rw [e1, Option.bind_some]
        by_cases z : w = 0
        · rw [if_pos z, N_succ, show (4095 : Int32) = Int32.ofNat (2 ^ 12 - 1) from rfl, own_and2 (by omega) (by omega), N_succ]
          have := ih (e + 1) k (by omega) (by omega) (fun e' he' => by
            by_cases g : e' = e
            · rw [g]
              refine ⟨q, fun j j2 jN ej w' => ?_⟩
              have : i = j := by
                unfold own_at7 at ej
                rw [ei] at ej
                exact (N_inj (by omega) (by omega)).mp ej
              rw [← this] at w'
              exact e2.mpr w' z
            · exact hp e' (by omega))
          rw [show ((own_hh l a + e) % 4096 + 1) % 2 ^ 12 = (own_hh l a + (e + 1)) % 4096 by omega]
          exact this
        · rw [if_neg z]
          obtain ⟨g1, g2⟩ := e2.mp z
          exact ⟨i, N, U, lo, L, c, s, rfl, I, own_Xr N L c, iN, by omega, Or.inr ⟨ne, i2, g1, g2⟩, own_frr s, by omega, Or.inl (Nat.le_refl _)⟩
theorem own_mk (hn : 5000 ≤ n) (I : own_N V d N U lo L c s) (hN : N < 2048) (hl : l < V) (ha : ∀ v, v < 4 → a v < N ∧ l < L (a v)) :
    own_mkR V d N U L c l a s (f_mk n (Int32.ofNat l) (Int32.ofNat (a 0)) (Int32.ofNat (a 1)) (Int32.ofNat (a 2)) (Int32.ofNat (a 3)) s) := by
  have hd : 2 ≤ d ∧ d ≤ 4 := ⟨I.1.2.2.2.2.2.2.2.1, I.1.2.2.2.2.2.2.2.2⟩
  have av : ∀ v, v < 4 → a v < 2147483648 := fun v hv => by have := (ha v hv).1; omega
  have E2 : ∀ v, v < 4 → (Int32.ofNat (a v) = Int32.ofNat (a 0) ↔ a v = a 0) := fun v hv => N_inj (av v hv) (av 0 (by omega))
  have go : ¬ own_eq d a → own_mkR V d N U L c l a s (f_mk_38 n (Int32.ofNat l) (Int32.ofNat (a 0)) (Int32.ofNat (a 1)) (Int32.ofNat (a 2)) (Int32.ofNat (a 3)) 0 s) := fun ne => by
    unfold f_mk_38
    rw [if_pos rfl]
    obtain ⟨h2, h1⟩ := own_hhE s l a
    rw [h2, Option.bind_some]
    obtain ⟨T, u1, u2⟩ := I.2.2.2.2.1
    obtain ⟨E, e1, e2⟩ := own_pg 4096 T (own_hh l a) (by omega)
    have := own_mk63 (n := n) I hN hl ha ne (E := E) (by omega) (u2 _ (Nat.mod_lt _ (by omega)) e2) E 0 n (by omega) (by omega) (fun e' he' => by omega)
    rw [Nat.add_zero, Nat.mod_eq_of_lt h1] at this
    exact this
  have st : own_eq d a → own_mkR V d N U L c l a s (f_mk_38 n (Int32.ofNat l) (Int32.ofNat (a 0)) (Int32.ofNat (a 1)) (Int32.ofNat (a 2)) (Int32.ofNat (a 3)) 1 s) := fun eq => by
    unfold f_mk_38
    rw [if_neg (by decide)]
    obtain ⟨g1, g2⟩ := ha 0 (by omega)
    exact ⟨a 0, N, U, lo, L, c, s, rfl, I, own_Xr N L c, g1, by omega, Or.inl ⟨eq, rfl⟩, own_frr s, by omega, Or.inl (Nat.le_refl _)⟩
  have lt4 : Int32.ofNat d < 4 ↔ d < 4 := N_lt (j := 4) (by omega) (by omega)
  have lt3 : Int32.ofNat d < 3 ↔ d < 3 := N_lt (j := 3) (by omega) (by omega)
  have g19 : a 1 = a 0 → (2 < d → a 2 = a 0) → own_mkR V d N U L c l a s (f_mk_19 n (Int32.ofNat l) (Int32.ofNat (a 0)) (Int32.ofNat (a 1)) (Int32.ofNat (a 2)) (Int32.ofNat (a 3)) s) := fun q1 q2 => by
    unfold f_mk_19
    rw [I.1.2.1]
    by_cases d4 : d < 4
    · rw [if_pos (lt4.mpr d4)]
      exact st ⟨q1, q2, fun w => by omega⟩
    · rw [if_neg (fun w => d4 (lt4.mp w))]
      by_cases q3 : a 3 = a 0
      · rw [if_pos ((E2 3 (by omega)).mpr q3)]; exact st ⟨q1, q2, fun _ => q3⟩
      · rw [if_neg (fun w => q3 ((E2 3 (by omega)).mp w))]; exact go (fun w => q3 (w.2.2 (by omega)))
  unfold f_mk
  by_cases q1 : a 1 = a 0
  · rw [if_pos ((E2 1 (by omega)).mpr q1), I.1.2.1]
    by_cases d3 : d < 3
    · rw [if_pos (lt3.mpr d3)]
      exact g19 q1 (fun w => by omega)
    · rw [if_neg (fun w => d3 (lt3.mp w))]
      by_cases q2 : a 2 = a 0
      · rw [if_pos ((E2 2 (by omega)).mpr q2)]
        exact g19 q1 (fun _ => q2)
      · rw [if_neg (fun w => q2 ((E2 2 (by omega)).mp w))]; exact go (fun w => q2 (w.2.1 (by omega)))
  · rw [if_neg (fun w => q1 ((E2 1 (by omega)).mp w))]; exact go (fun w => q1 w.1)
end

/-! ### reduceBuffer: how many nodes a table makes -/
def own_dg (d : Nat) : Nat → Nat → Nat → Nat
  | 0, _, _ => 0
  | m + 1, y, p => if p = m then y % d else own_dg d m (y / d) p
theorem own_dgS {d l j v p : Nat} (hv : v < d) : own_dg d (l + 1) (j * d + v) p = if p = l then v else own_dg d l j p := by
  show (if p = l then (j * d + v) % d else own_dg d l ((j * d + v) / d) p) = _
  rw [Nat.mul_comm, Nat.mul_add_mod, Nat.mod_eq_of_lt hv, Nat.mul_add_div (by omega), Nat.div_eq_of_lt hv, Nat.add_zero]
theorem own_dglt {d : Nat} (hd : 0 < d) : ∀ m y p, own_dg d m y p < d
  | 0, _, _ => hd
  | m + 1, y, p => by
    show (if p = m then y % d else own_dg d m (y / d) p) < d
    split
    · exact Nat.mod_lt _ hd
    · exact own_dglt hd m _ p
/-- y and y' agree on the scope's places below m -/
def own_G (d : Nat) (S : Nat → Bool) (m y y' : Nat) : Prop := ∀ p, S p = true → p < m → own_dg d m y p = own_dg d m y' p
/-- tuple i agrees with y on the scope's places below m -/
def own_ag (V d : Nat) (S : Nat → Bool) (code mt : Nat → Nat) (i m y : Nat) : Prop := ∃ y', code y' = mt i ∧ ∀ p, S p = true → p < m → own_dg d V y' p = own_dg d m y p
def own_g (S : Nat → Bool) : Nat → Nat
  | 0 => 0
  | m + 1 => own_g S m + (if S m = true then 1 else 0)
def own_ch (d : Nat) (b : Nat → Nat) (j v : Nat) : Nat := if v < d then b (j * d + v) else 0
section
variable {V d n t : Nat} {S : Nat → Bool} {code mt : Nat → Nat}
theorem own_GS {l j j' v : Nat} (hv : v < d) (h : own_G d S l j j') : own_G d S (l + 1) (j * d + v) (j' * d + v) := fun p hp hl => by
  rw [own_dgS hv, own_dgS hv]
  by_cases e : p = l
  · rw [if_pos e, if_pos e]
  · rw [if_neg e, if_neg e]; exact h p hp (by omega)
theorem own_Gn {l j v v' : Nat} (hv : v < d) (hv' : v' < d) (h : ¬ S l = true) : own_G d S (l + 1) (j * d + v) (j * d + v') := fun p hp hl => by
  have e : p ≠ l := fun e => h (by rw [← e]; exact hp)
  rw [own_dgS hv, own_dgS hv', if_neg e, if_neg e]
theorem own_agS {i l j v : Nat} (hv : v < d) (h : own_ag V d S code mt i (l + 1) (j * d + v)) : own_ag V d S code mt i l j := by
  obtain ⟨y', h1, h2⟩ := h
  refine ⟨y', h1, fun p hp hl => ?_⟩
  have := h2 p hp (by omega)
  rw [own_dgS hv, if_neg (by omega)] at this
  exact this
theorem own_agG (inj : ∀ y y', code y = code y' → ∀ p, S p = true → own_dg d V y p = own_dg d V y' p) {i l j j' : Nat} (h : own_ag V d S code mt i l j) (h' : own_ag V d S code mt i l j') : own_G d S l j j' := fun p hp hl => by
  obtain ⟨y, h1, h2⟩ := h
  obtain ⟨y', g1, g2⟩ := h'
  rw [← h2 p hp hl, ← g2 p hp hl]
  exact inj y y' (by rw [h1, g1]) p hp
/-- the buffer's cells from off on are the nodes b -/
def own_Bf (off K m : Nat) (b : Nat → Nat) (N : Nat) (L : Nat → Nat) (s : St) : Prop := ∀ y, off ≤ y → y < K → s.2 11 y = Int32.ofNat (b y) ∧ b y < N ∧ m ≤ L (b y)
/-- what a buffer at depth m is made of -/
def own_AB (V d : Nat) (S : Nat → Bool) (code mt : Nat → Nat) (t m K : Nat) (b : Nat → Nat) : Prop := (∀ y, y < K → b y ≠ 0 → ∃ i, i < t ∧ own_ag V d S code mt i m y) ∧ (∀ y y', y < K → y' < K → own_G d S m y y' → b y = b y')
def own_fb (s t : St) : Prop := (∀ j, j ≠ 22 → t.1 j = s.1 j) ∧ (∀ j, j ≠ 5 → j ≠ 6 → j ≠ 7 → j ≠ 11 → t.2 j = s.2 j)
theorem own_fbr (s : St) : own_fb s s := ⟨fun _ _ => rfl, fun _ _ _ _ _ => rfl⟩
theorem own_fbt {s t u : St} (h : own_fb s t) (g : own_fb t u) : own_fb s u := ⟨fun j hj => (g.1 j hj).trans (h.1 j hj), fun j a b c d => (g.2 j a b c d).trans (h.2 j a b c d)⟩
theorem own_nz4 {a : Nat → Nat} (h : ¬ own_eq d a) : ∃ v, v < d ∧ v < 4 ∧ a v ≠ 0 ∨ d < 2 := by
  by_cases d2 : d < 2
  · exact ⟨0, Or.inr d2⟩
  · by_cases q0 : a 0 = 0
    · by_cases q1 : a 1 = 0
      · by_cases q2 : 2 < d ∧ a 2 ≠ 0
        · exact ⟨2, Or.inl ⟨q2.1, by omega, q2.2⟩⟩
        · by_cases q3 : 3 < d ∧ a 3 ≠ 0
          · exact ⟨3, Or.inl ⟨q3.1, by omega, q3.2⟩⟩
          · refine absurd ⟨by omega, fun w => ?_, fun w => ?_⟩ h
            · by_cases z : a 2 = 0
              · omega
              · exact absurd ⟨w, z⟩ q2
            · by_cases z : a 3 = 0
              · omega
              · exact absurd ⟨w, z⟩ q3
      · exact ⟨1, Or.inl ⟨by omega, by omega, q1⟩⟩
    · exact ⟨0, Or.inl ⟨by omega, by omega, q0⟩⟩
theorem own_ch1 {b : Nat → Nat} {j v : Nat} (hv : v < d) : own_ch d b j v = b (j * d + v) := if_pos hv
theorem own_ch0 {b : Nat → Nat} {j v : Nat} (hv : ¬ v < d) : own_ch d b j v = 0 := if_neg hv
theorem own_rl (hn : 5000 ≤ n) (inj : ∀ y y', code y = code y' → ∀ p, S p = true → own_dg d V y p = own_dg d V y' p) {l K : Nat} (hl : l < V) (hK : K * d ≤ 1024) {b : Nat → Nat} (AB : own_AB V d S code mt t (l + 1) (K * d) b) {k16 : Int32 → Int32 → St → Option (Int32 × St)} {U0 : Nat} (hU0 : U0 + (if S l = true then t else 0) ≤ 1900) :
    ∀ (m j k N U : Nat) (lo : List Nat) (L : Nat → Nat) (c : Nat → Nat → Nat) (b' : Nat → Nat) (s : St), j + m = K → m < k → own_N V d N U lo L c s → own_Bf (j * d) (K * d) (l + 1) b N L s → own_Bf 0 j l b' N L s → (∀ y, y < j → own_Is d L c l (own_ch d b y) (b' y)) →
      (∃ Q : List Nat, Q.Nodup ∧ (∀ i, i ∈ Q → i < t ∧ S l = true ∧ ∃ y, y < j ∧ own_ag V d S code mt i l y) ∧ U ≤ U0 + Q.length) →
      ∃ N' U' lo' L' c' b'' u, f_reduceBuffer_29 n k16 k (Int32.ofNat K) (Int32.ofNat l) (Int32.ofNat j) s = k16 (Int32.ofNat K) (Int32.ofNat l + (-1)) u ∧ own_N V d N' U' lo' L' c' u ∧ own_X N L c N' L' c' ∧ own_Bf 0 K l b'' N' L' u ∧ (∀ y, y < K → own_Is d L' c' l (own_ch d b y) (b'' y)) ∧ U' ≤ U0 + (if S l = true then t else 0) ∧ own_fb s u := by
  have Qb : ∀ Q : List Nat, ∀ j : Nat, Q.Nodup → (∀ i, i ∈ Q → i < t ∧ S l = true ∧ ∃ y, y < j ∧ own_ag V d S code mt i l y) → Q.length ≤ (if S l = true then t else 0) := fun Q j h1 h2 => by
    by_cases q : S l = true
    · rw [if_pos q]; exact own_pgl h1 (fun y hy => (h2 y hy).1)
    · rw [if_neg q]
      cases Q with
      | nil => simp
      | cons i Q => exact absurd (h2 i (by simp)).2.1 q
  intro m
  induction m with
  | zero =>
    intro j k N U lo L c b' s hj hk I hB hC hI hQ
    obtain ⟨k, rfl⟩ : ∃ k', k = k' + 1 := ⟨k - 1, by omega⟩
    have : j = K := by omega
    subst this
    obtain ⟨Q, Q1, Q2, Q3⟩ := hQ
    have := Qb Q j Q1 Q2
    have jd : j ≤ j * d := Nat.le_mul_of_pos_right j (by have := I.1.2.2.2.2.2.2.2.1; omega)
    rw [u_reduceBuffer_29, if_neg (nltN (by omega))]
    exact ⟨N, U, lo, L, c, b', s, rfl, I, own_Xr N L c, hC, hI, by omega, own_fbr s⟩
  | succ m ih =>
    intro j k N U lo L c b' s hj hk I hB hC hI hQ
    obtain ⟨k, rfl⟩ : ∃ k', k = k' + 1 := ⟨k - 1, by omega⟩
    obtain ⟨Q, Q1, Q2, Q3⟩ := hQ
    have Q4 := Qb Q j Q1 Q2
    have l16 := own_lo16 I
    have Ne := I.2.2.2.2.2.2.2.2.1
    obtain ⟨-, i21, -, n2, -, -, v5, d2, d4⟩ := I.1
    have hjd : j * d + d ≤ K * d := by rw [← Nat.succ_mul]; exact Nat.mul_le_mul_right d (by omega)
    have jd : j ≤ j * d := Nat.le_mul_of_pos_right j (by omega)
    have KD : K ≤ K * d := Nat.le_mul_of_pos_right K (by omega)
    have cell : ∀ v, v < d → s.2 11 (j * d + v) = Int32.ofNat (own_ch d b j v) ∧ own_ch d b j v < N ∧ l + 1 ≤ L (own_ch d b j v) := fun v hv => by
      rw [own_ch1 hv]; exact hB (j * d + v) (by omega) (by omega)
    have ha : ∀ v, v < 4 → own_ch d b j v < N ∧ l < L (own_ch d b j v) := fun v _ => by
      by_cases q : v < d
      · have := cell v q; exact ⟨this.2.1, by omega⟩
      · rw [own_ch0 q]; exact ⟨by omega, by rw [I.2.2.1.1]; exact hl⟩
    have lt2 : (2 : Int32) < Int32.ofNat d ↔ 2 < d := N_lt (i := 2) (by omega) (by omega)
    have lt3 : (3 : Int32) < Int32.ofNat d ↔ 3 < d := N_lt (i := 3) (by omega) (by omega)
    -- the four children
    have fold : f_reduceBuffer_29 n k16 (k + 1) (Int32.ofNat K) (Int32.ofNat l) (Int32.ofNat j) s = f_reduceBuffer_106 n k16 (f_reduceBuffer_29 n k16 k) (Int32.ofNat K) (Int32.ofNat l) (Int32.ofNat j) (Int32.ofNat (own_ch d b j 0)) (Int32.ofNat (own_ch d b j 1)) (Int32.ofNat (own_ch d b j 2)) (Int32.ofNat (own_ch d b j 3)) s := by
      have c0 := (cell 0 (by omega)).1
      have c1 := (cell 1 (by omega)).1
      rw [Nat.add_zero] at c0
      rw [u_reduceBuffer_29, if_pos (ltN (by omega) (by omega)), i21, bnd_eq, N_mul, N_succ, grd_pos (inbN (by omega) (by omega)), grd_pos (inbN (by omega) (by omega)), ix_N (by omega), ix_N (by omega), c0, c1]
      unfold f_reduceBuffer_83
      rw [i21]
      by_cases q2 : 2 < d
      · rw [if_pos (lt2.mpr q2), show Int32.ofNat (j * d) + 2 = Int32.ofNat (j * d + 2) from N_add _ 2, grd_pos (inbN (by omega) (by omega)), ix_N (by omega), (cell 2 q2).1]
        by_cases q3 : 3 < d
        · rw [if_pos (lt3.mpr q3), show Int32.ofNat (j * d) + 3 = Int32.ofNat (j * d + 3) from N_add _ 3, grd_pos (inbN (by omega) (by omega)), ix_N (by omega), (cell 3 q3).1]
        · rw [if_neg (fun w => q3 (lt3.mp w)), own_ch0 q3 (v := 3)]; rfl
      · rw [if_neg (fun w => q2 (lt2.mp w)), if_neg (fun w => q2 (by have := lt3.mp w; omega)), own_ch0 (b := b) (j := j) (v := 2) (by omega), own_ch0 (b := b) (j := j) (v := 3) (by omega)]; rfl
    rw [fold]
    unfold f_reduceBuffer_106
    obtain ⟨r, N1, U1, lo1, L1, c1, s1, r1, r2, r3, r4, r5, r6, r7, r8, r9⟩ := own_mk (n := n) (a := own_ch d b j) hn I (by omega) hl ha
    rw [r1, Option.bind_some, grd_pos (inbN (by omega) (by omega)), bnd_eq, ix_N (by omega), N_succ]
    have I2 : own_N V d N1 U1 lo1 L1 c1 (setA s1 11 j (Int32.ofNat r)) := own_NF rfl rfl rfl (by funext x; simp [setA_2]) (by funext x; simp [setA_2]) (by funext x; simp [setA_2]) r2
    have e11 : ∀ y, (setA s1 11 j (Int32.ofNat r)).2 11 y = if y = j then Int32.ofNat r else s.2 11 y := fun y => by
      rw [setA_2, r7.2 11 (by decide) (by decide) (by decide)]; simp
    obtain ⟨bn, hbn⟩ : ∃ bn : Nat → Nat, ∀ y, bn y = if y = j then r else b' y := ⟨_, fun _ => rfl⟩
    obtain ⟨N', U', lo', L', c', b'', u, t1, t2, t3, t4, t5, t6, t7⟩ := ih (j + 1) k N1 U1 lo1 L1 c1 bn _ (by omega) (by omega) I2
      (fun y h1 h2 => by
        rw [Nat.succ_mul] at h1
        obtain ⟨g1, g2, g3⟩ := hB y (by omega) h2
        have := r3.1
        exact ⟨by rw [e11, if_neg (by omega)]; exact g1, by omega, by rw [(r3.2 _ g2).1]; exact g3⟩)
      (fun y h1 h2 => by
        rw [e11, hbn]
        by_cases q : y = j
        · rw [if_pos q, if_pos q]; exact ⟨rfl, r4, r5⟩
        · rw [if_neg q, if_neg q]
          obtain ⟨g1, g2, g3⟩ := hC y h1 (by omega)
          have := r3.1
          exact ⟨g1, by omega, by rw [(r3.2 _ g2).1]; exact g3⟩)
      (fun y hy => by
        rw [hbn]
        by_cases q : y = j
        · rw [if_pos q, q]; exact r6
        · rw [if_neg q]; exact own_IsX r3 (hC y (Nat.zero_le _) (by omega)).2.1 (hI y (by omega)))
      (by
        rcases r9 with g | g
        · exact ⟨Q, Q1, fun i hi => by obtain ⟨w1, w2, y, w3, w4⟩ := Q2 i hi; exact ⟨w1, w2, y, by omega, w4⟩, by omega⟩
        · have ne : ¬ own_eq d (own_ch d b j) := fun w => g ⟨_, (ha 0 (by omega)).1, Or.inl ⟨w, rfl⟩⟩
          obtain ⟨v, ⟨v1, v4, v2⟩ | v2⟩ := own_nz4 ne
          · rw [own_ch1 v1] at v2
            obtain ⟨i, i1, i2⟩ := AB.1 (j * d + v) (by omega) v2
            have i3 := own_agS v1 i2
            have sl : S l = true := by
              by_cases q : S l = true
              · exact q
              · have same : ∀ v, v < d → own_ch d b j v = own_ch d b j 0 := fun v hv => by
                  rw [own_ch1 hv, own_ch1 (by omega)]
                  exact AB.2 _ _ (by omega) (by omega) (own_Gn hv (by omega) q)
                exact absurd ⟨same 1 (by omega), fun w => same 2 w, fun w => same 3 w⟩ ne
            have nq : i ∉ Q := fun hi => by
              obtain ⟨-, -, y, w3, w4⟩ := Q2 i hi
              have hyd : y * d + d ≤ K * d := by rw [← Nat.succ_mul]; exact Nat.mul_le_mul_right d (by omega)
              have ec : own_ch d b y = own_ch d b j := by
                funext v
                by_cases q : v < d
                · rw [own_ch1 q, own_ch1 q]
                  exact AB.2 _ _ (by omega) (by omega) (own_GS q (own_agG inj w4 i3))
                · rw [own_ch0 q, own_ch0 q]
              have := hI y w3
              rw [ec] at this
              exact g ⟨b' y, (hC y (Nat.zero_le _) w3).2.1, this⟩
            have : (if l + 1 < V then 1 else 0) ≤ 1 := by split <;> omega
            refine ⟨i :: Q, List.nodup_cons.mpr ⟨nq, Q1⟩, fun i' hi' => ?_, by simp only [List.length_cons]; omega⟩
            rcases List.mem_cons.mp hi' with rfl | hi'
            · exact ⟨i1, sl, j, by omega, i3⟩
            · obtain ⟨w1, w2, y, w3, w4⟩ := Q2 i' hi'
              exact ⟨w1, w2, y, by omega, w4⟩
          · omega)
    refine ⟨N', U', lo', L', c', b'', u, t1, t2, own_Xt r3 t3, t4, t5, t6, fun x hx => ?_, fun x h5 h6 h7 h11 => ?_⟩
    · rw [t7.1 x hx, setA_1, r7.1 x hx]
    · rw [t7.2 x h5 h6 h7 h11]
      funext y
      rw [setA_2, if_neg (fun z => h11 z.1), r7.2 x h5 h6 h7]
theorem own_divN {a b : Nat} (ha : a < 2147483648) (hb : b < 2147483648) : Int32.ofNat a / Int32.ofNat b = Int32.ofNat (a / b) := by
  apply eq_I.mpr
  have := Nat.div_le_self a b
  rw [Int32.toInt_div, N_toInt ha, N_toInt hb, N_toInt (by omega)]
  rw [show ((a : Int).tdiv (b : Nat)) = ((a / b : Nat) : Int) from (Int.ofNat_tdiv a b).symm]
  generalize a / b = q at this ⊢
  exact bmod_eq (by omega) (by omega)
theorem own_pw {d m : Nat} (hd : d ≤ 4) (hm : m ≤ 5) : d ^ m ≤ 1024 := Nat.le_trans (Nat.pow_le_pow_left hd m) (Nat.pow_le_pow_right (n := 4) (by omega) hm)
theorem own_pred (m : Nat) : Int32.ofNat (m + 1) - 1 = Int32.ofNat m := by rw [← N_succ, Int32.add_sub_cancel]
theorem own_red16 (hn : 5000 ≤ n) (inj : ∀ y y', code y = code y' → ∀ p, S p = true → own_dg d V y p = own_dg d V y' p) : ∀ (m k N U : Nat) (lo : List Nat) (L : Nat → Nat) (c : Nat → Nat → Nat) (b : Nat → Nat) (s : St), m ≤ V → m < k → own_N V d N U lo L c s → own_Bf 0 (d ^ m) m b N L s → own_AB V d S code mt t m (d ^ m) b → U + t * own_g S m ≤ 1900 →
    ∃ r N' U' lo' L' c' u, f_reduceBuffer_16 n k (Int32.ofNat (d ^ m)) (Int32.ofNat m - 1) s = some (Int32.ofNat r, u) ∧ own_N V d N' U' lo' L' c' u ∧ own_X N L c N' L' c' ∧ r < N' ∧ U' ≤ U + t * own_g S m ∧ (t = 0 → r = 0) ∧ own_fb s u := by
  intro m
  induction m with
  | zero =>
    intro k N U lo L c b s hm hk I hB AB hU
    obtain ⟨k, rfl⟩ : ∃ k', k = k' + 1 := ⟨k - 1, by omega⟩
    rw [u_reduceBuffer_16, if_pos (by decide), show ix (0 : Int32) = 0 from rfl]
    obtain ⟨g1, g2, g3⟩ := hB 0 (by omega) (by rw [Nat.pow_zero]; omega)
    rw [g1]
    refine ⟨b 0, N, U, lo, L, c, s, rfl, I, own_Xr N L c, g2, by omega, fun t0 => ?_, own_fbr s⟩
    by_cases q : b 0 = 0
    · exact q
    · obtain ⟨i, i1, -⟩ := AB.1 0 (by rw [Nat.pow_zero]; omega) q
      omega
  | succ l ih =>
    intro k N U lo L c b s hm hk I hB AB hU
    obtain ⟨k, rfl⟩ : ∃ k', k = k' + 1 := ⟨k - 1, by omega⟩
    obtain ⟨-, i21, -, n2, -, -, v5, d2, d4⟩ := I.1
    have p1 := own_pw (m := l + 1) d4 (by omega)
    have p0 := own_pw (m := l) d4 (by omega)
    have ps : d ^ (l + 1) = d ^ l * d := Nat.pow_succ _ _
    have dv : d ^ (l + 1) / d = d ^ l := by rw [ps]; exact Nat.mul_div_cancel _ (by omega)
    have gs : own_g S (l + 1) = own_g S l + (if S l = true then 1 else 0) := rfl
    have gt : t * own_g S (l + 1) = t * own_g S l + (if S l = true then t else 0) := by
      rw [gs, Nat.mul_add]
      by_cases q : S l = true
      · rw [if_pos q, if_pos q, Nat.mul_one]
      · rw [if_neg q, if_neg q, Nat.mul_zero]
    rw [own_pred, u_reduceBuffer_16, if_neg (N_neg (by omega)), i21, grd_pos (show Int32.ofNat d ≠ 0 from own_ne (j := 0) (by omega) (by omega) (by omega)), own_divN (by omega) (by omega), dv]
    rw [ps] at hB AB
    obtain ⟨N1, U1, lo1, L1, c1, b1, s1, e1, e2, e3, e4, e5, e6, e7⟩ := own_rl (n := n) (k16 := f_reduceBuffer_16 n k) (l := l) (K := d ^ l) (U0 := U) hn inj (by omega) (by omega) AB (by omega) (d ^ l) 0 n N U lo L c b s (by omega) (by omega) I (by rw [Nat.zero_mul]; exact hB) (fun y _ h => by omega) (fun y h => by omega) ⟨[], by simp, fun i hi => by simp at hi, by simp⟩
    have em : Int32.ofNat l + -1 = Int32.ofNat l - 1 := by rw [Int32.sub_eq_add_neg]
    rw [show (0 : Int32) = Int32.ofNat 0 from rfl, e1, em]
    have hyd : ∀ y, y < d ^ l → y * d + d ≤ d ^ l * d := fun y hy => by rw [← Nat.succ_mul]; exact Nat.mul_le_mul_right d (by omega)
    have AB1 : own_AB V d S code mt t l (d ^ l) b1 := by
      refine ⟨fun y hy hne => ?_, fun y y' hy hy' hG => ?_⟩
      · have hy1 := hyd y hy
        rcases e5 y hy with ⟨g1, g2⟩ | ⟨g1, -⟩
        · rw [g2, own_ch1 (by omega)] at hne
          obtain ⟨i, i1, i2⟩ := AB.1 (y * d + 0) (by omega) hne
          exact ⟨i, i1, own_agS (by omega) i2⟩
        · obtain ⟨v, ⟨v1, v4, v2⟩ | v2⟩ := own_nz4 g1
          · rw [own_ch1 v1] at v2
            obtain ⟨i, i1, i2⟩ := AB.1 (y * d + v) (by omega) v2
            exact ⟨i, i1, own_agS v1 i2⟩
          · omega
      · have hy1 := hyd y hy
        have hy2 := hyd y' hy'
        have ec : own_ch d b y = own_ch d b y' := by
          funext v
          by_cases q : v < d
          · rw [own_ch1 q, own_ch1 q]
            exact AB.2 _ _ (by omega) (by omega) (own_GS q hG)
          · rw [own_ch0 q, own_ch0 q]
        have h1 := e5 y hy
        rw [ec] at h1
        exact own_Isu e2 h1 (e5 y' hy') (e4 y (Nat.zero_le _) hy).2.1 (e4 y' (Nat.zero_le _) hy').2.1
    obtain ⟨r, N2, U2, lo2, L2, c2, u, f1, f2, f3, f4, f5, f6, f7⟩ := ih k N1 U1 lo1 L1 c1 b1 s1 (by omega) (by omega) e2 e4 AB1 (by omega)
    exact ⟨r, N2, U2, lo2, L2, c2, u, f1, f2, own_Xt e3 f3, f4, by omega, f6, own_fbt e7 f7⟩
end

/-! ### compileTable -/
def own_sc (ar u w x p : Nat) : Bool := decide (p = u) || (decide (2 ≤ ar) && decide (p = w)) || (decide (ar = 3) && decide (p = x))
def own_cd (d V ar u w x y : Nat) : Nat := 16 * own_dg d V y u + (if ar < 2 then 0 else 4 * own_dg d V y w) + (if ar = 3 then own_dg d V y x else 0)
theorem own_scE {ar u w x p : Nat} : own_sc ar u w x p = true ↔ p = u ∨ (2 ≤ ar ∧ p = w) ∨ (ar = 3 ∧ p = x) := by
  unfold own_sc
  simp only [Bool.or_eq_true, Bool.and_eq_true, decide_eq_true_eq, or_assoc]
theorem own_cdi {d V ar u w x : Nat} (hd : 0 < d) (hd4 : d ≤ 4) (y y' : Nat) (h : own_cd d V ar u w x y = own_cd d V ar u w x y') (p : Nat) (hp : own_sc ar u w x p = true) : own_dg d V y p = own_dg d V y' p := by
  have b : ∀ y p, own_dg d V y p < 4 := fun y p => by have := own_dglt hd V y p; omega
  have b1 := b y u
  have b2 := b y w
  have b3 := b y x
  have b4 := b y' u
  have b5 := b y' w
  have b6 := b y' x
  unfold own_cd at h
  rw [own_scE] at hp
  by_cases a2 : ar < 2
  · rw [if_pos a2, if_pos a2, if_neg (by omega), if_neg (by omega)] at h
    rcases hp with rfl | hp | hp
    · omega
    · omega
    · omega
  · rw [if_neg a2, if_neg a2] at h
    by_cases a3 : ar = 3
    · rw [if_pos a3, if_pos a3] at h
      rcases hp with rfl | ⟨-, rfl⟩ | ⟨-, rfl⟩
      · omega
      · omega
      · omega
    · rw [if_neg a3, if_neg a3] at h
      rcases hp with rfl | ⟨-, rfl⟩ | ⟨h3, -⟩
      · omega
      · omega
      · exact absurd h3 a3
theorem own_cd64 {d V ar u w x : Nat} (hd : 0 < d) (hd4 : d ≤ 4) (y : Nat) : own_cd d V ar u w x y < 64 := by
  have b : ∀ p, own_dg d V y p < 4 := fun p => by have := own_dglt hd V y p; omega
  have b1 := b u
  have b2 := b w
  have b3 := b x
  unfold own_cd
  split <;> split <;> omega
theorem own_g3 {ar u w x : Nat} : ∀ m, own_g (own_sc ar u w x) m ≤ (if u < m then 1 else 0) + (if w < m then 1 else 0) + (if x < m then 1 else 0)
  | 0 => Nat.zero_le _
  | m + 1 => by
    have ih := own_g3 (ar := ar) (u := u) (w := w) (x := x) m
    show own_g (own_sc ar u w x) m + (if own_sc ar u w x m = true then 1 else 0) ≤ _
    have mono : ∀ z, (if z < m then 1 else 0) ≤ (if z < m + 1 then 1 else 0) := fun z => by split <;> split <;> omega
    have up : ∀ z, m = z → (if z < m then 1 else 0) + 1 ≤ (if z < m + 1 then 1 else 0) := fun z e => by rw [if_neg (by omega), if_pos (by omega)]; exact Nat.le_refl _
    have m1 := mono u
    have m2 := mono w
    have m3 := mono x
    by_cases q : own_sc ar u w x m = true
    · rw [if_pos q]
      rcases own_scE.mp q with e | ⟨-, e⟩ | ⟨-, e⟩
      · have := up u e; omega
      · have := up w e; omega
      · have := up x e; omega
    · rw [if_neg q]; omega
/-- the table that is being made -/
def own_Tb (V ar u w x t : Nat) (mt : Nat → Nat) (s : St) : Prop := (s.1 25 = Int32.ofNat ar ∧ 1 ≤ ar ∧ ar ≤ 3) ∧ (s.1 26 = Int32.ofNat u ∧ u < V) ∧ (2 ≤ ar → s.1 27 = Int32.ofNat w ∧ w < V) ∧ (ar = 3 → s.1 28 = Int32.ofNat x ∧ x < V) ∧ (s.1 29 = Int32.ofNat t ∧ t ≤ 16) ∧ ∀ i, i < t → s.2 1 i = Int32.ofNat (mt i) ∧ mt i < 64
theorem own_TbF {V ar u w x t : Nat} {mt : Nat → Nat} {s s' : St} (h1 : ∀ j, 25 ≤ j → j ≤ 29 → s'.1 j = s.1 j) (h2 : s'.2 1 = s.2 1) (T : own_Tb V ar u w x t mt s) : own_Tb V ar u w x t mt s' := by
  unfold own_Tb
  rw [h1 25 (by omega) (by omega), h1 26 (by omega) (by omega), h1 27 (by omega) (by omega), h1 28 (by omega) (by omega), h1 29 (by omega) (by omega), h2]; exact T
section
variable {V d n t ar u w x : Nat} {mt : Nat → Nat}
theorem own_pow {s : St} (hn : 10 ≤ n) (hV : V ≤ 5) (h : s.1 21 = Int32.ofNat d) : f_pow n s (Int32.ofNat V) = some (Int32.ofNat (d ^ V)) := by
  have lp : ∀ m i k, i + m = V → m < k → f_pow_4 n s k (Int32.ofNat V) (Int32.ofNat (d ^ i)) (Int32.ofNat i) = some (Int32.ofNat (d ^ V)) := by
    intro m
    induction m with
    | zero =>
      intro i k hi hk
      obtain ⟨k, rfl⟩ : ∃ k', k = k' + 1 := ⟨k - 1, by omega⟩
      rw [u_pow_4, if_neg (own_nlt (by omega) (by omega)), show i = V by omega]
    | succ m ih =>
      intro i k hi hk
      obtain ⟨k, rfl⟩ : ∃ k', k = k' + 1 := ⟨k - 1, by omega⟩
      rw [u_pow_4, if_pos (ltN (by omega) (by omega)), if_pos (ltZ (z := 5) 5 rfl (by omega) (by omega)), h, N_mul, N_succ, ← Nat.pow_succ]
      exact ih (i + 1) k (by omega) (by omega)
  exact lp V 0 n (by omega) (by omega)
theorem own_dec {n : Nat} (hd2 : 2 ≤ d) (hd4 : d ≤ 4) : ∀ (m k y : Nat) (s : St), m ≤ 5 → m < k → y < 2147483648 → s.1 21 = Int32.ofNat d → ∃ t, f_decode_9 n k (Int32.ofNat y) (Int32.ofNat m - 1) s = some t ∧ t.1 = s.1 ∧ (∀ j, j ≠ 4 → t.2 j = s.2 j) ∧ ∀ p, t.2 4 p = if p < m then Int32.ofNat (own_dg d m y p) else s.2 4 p := by
  intro m
  induction m with
  | zero =>
    intro k y s hm hk hy h
    obtain ⟨k, rfl⟩ : ∃ k', k = k' + 1 := ⟨k - 1, by omega⟩
    rw [u_decode_9, if_pos (by decide)]
    exact ⟨s, rfl, rfl, fun _ _ => rfl, fun p => by rw [if_neg (by omega)]⟩
  | succ m ih =>
    intro k y s hm hk hy h
    obtain ⟨k, rfl⟩ : ∃ k', k = k' + 1 := ⟨k - 1, by omega⟩
    have dz : Int32.ofNat d ≠ 0 := own_ne (j := 0) (by omega) (by omega) (by omega)
    have em : Int32.ofNat m + -1 = Int32.ofNat m - 1 := by rw [Int32.sub_eq_add_neg]
    have lq := Nat.div_le_self y d
    rw [own_pred, u_decode_9, if_neg (N_neg (by omega)), h, grd_pos dz, grd_pos (inbN (by omega) (by omega)), bnd_eq, ix_N (by omega), show (setA s 4 m (Int32.ofNat y % Int32.ofNat d)).1 21 = Int32.ofNat d from h, grd_pos dz, own_divN hy (by omega), rem_N hy (by omega) (by omega), em]
    obtain ⟨t, t1, t2, t3, t4⟩ := ih k (y / d) (setA s 4 m (Int32.ofNat (y % d))) (by omega) (by omega) (by omega) h
    refine ⟨t, t1, t2, fun j hj => ?_, fun p => ?_⟩
    · rw [t3 j hj]; funext z; rw [setA_2, if_neg (fun w => hj w.1)]
    · rw [t4]
      show _ = if p < m + 1 then Int32.ofNat (if p = m then y % d else own_dg d m (y / d) p) else s.2 4 p
      by_cases q : p < m
      · rw [if_pos q, if_pos (by omega), if_neg (by omega)]
      · rw [if_neg q, setA_2]
        by_cases q2 : p = m
        · rw [if_pos ⟨by trivial, q2⟩, if_pos (by omega), if_pos q2]
        · rw [if_neg (fun w => q2 w.2), if_neg (by omega)]
theorem own_sco {y : Nat} {s : St} (hd2 : 2 ≤ d) (hd4 : d ≤ 4) (hV : V ≤ 5) (T : own_Tb V ar u w x t mt s) (h4 : ∀ p, p < V → s.2 4 p = Int32.ofNat (own_dg d V y p)) : f_scopeCode s = some (Int32.ofNat (own_cd d V ar u w x y)) := by
  obtain ⟨⟨a1, a2, a3⟩, ⟨b1, b2⟩, T3, T4, -, -⟩ := T
  have l2 : Int32.ofNat ar < 2 ↔ ar < 2 := N_lt (j := 2) (by omega) (by omega)
  have l3 : Int32.ofNat ar = 3 ↔ ar = 3 := N_inj (j := 3) (by omega) (by omega)
  unfold f_scopeCode f_scopeCode_35 own_cd
  rw [b1, a1, grd_pos (inbN (by omega) (by omega)), ix_N (by omega), h4 u b2, show (16 : Int32) = Int32.ofNat 16 from rfl, N_mul, Nat.mul_comm]
  by_cases q : ar < 2
  · rw [if_pos (l2.mpr q), if_neg (fun w => by have := l3.mp w; omega), if_pos q, if_neg (by omega)]; rfl
  · obtain ⟨c1, c2⟩ := T3 (by omega)
    rw [if_neg (fun w => q (l2.mp w)), if_neg q, c1, grd_pos (inbN (by omega) (by omega)), bnd_eq, ix_N (by omega), h4 w c2, show (4 : Int32) = Int32.ofNat 4 from rfl, N_mul, N_add, Nat.mul_comm (own_dg d V y w)]
    by_cases q3 : ar = 3
    · obtain ⟨e1, e2⟩ := T4 q3
      rw [if_pos (l3.mpr q3), if_pos q3, e1, grd_pos (inbN (by omega) (by omega)), ix_N (by omega), h4 x e2, N_add]
    · rw [if_neg (fun w => q3 (l3.mp w)), if_neg q3]; rfl
theorem own_c78 (hn : 10 ≤ n) (hd2 : 2 ≤ d) (hd4 : d ≤ 4) (hV : V ≤ 5) {mem : Nat → Bool} : ∀ (m y k : Nat) (s : St), y + m = d ^ V → m < k → s.1 20 = Int32.ofNat V → s.1 21 = Int32.ofNat d → own_Tb V ar u w x t mt s → (∀ h, h < 64 → s.2 12 h = if mem h = true then 1 else 0) → (∀ z, z < y → s.2 11 z = if mem (own_cd d V ar u w x z) = true then 1 else 0) →
    ∃ t, f_compileTable_78 n k (Int32.ofNat (d ^ V)) (Int32.ofNat y) s = f_compileTable_124 n t ∧ t.1 = s.1 ∧ (∀ j, j ≠ 4 → j ≠ 11 → t.2 j = s.2 j) ∧ (∀ z, z < d ^ V → t.2 11 z = if mem (own_cd d V ar u w x z) = true then 1 else 0) := by
  have pw := own_pw (m := V) hd4 hV
  intro m
  induction m with
  | zero =>
    intro y k s hy hk h20 h21 T hm hz
    obtain ⟨k, rfl⟩ : ∃ k', k = k' + 1 := ⟨k - 1, by omega⟩
    rw [u_compileTable_78, if_neg (own_nlt (by omega) (by omega))]
    exact ⟨s, rfl, rfl, fun _ _ _ => rfl, fun z h => hz z (by omega)⟩
  | succ m ih =>
    intro y k s hy hk h20 h21 T hm hz
    obtain ⟨k, rfl⟩ : ∃ k', k = k' + 1 := ⟨k - 1, by omega⟩
    obtain ⟨t', d1, d2, d3, d4⟩ := own_dec (n := n) hd2 hd4 V n y s hV (by omega) (by omega) h21
    have T' : own_Tb V ar u w x t mt t' := own_TbF (fun j _ _ => by rw [d2]) (d3 1 (by decide)) T
    have sc := own_sco (y := y) hd2 hd4 hV T' (fun p hp => by rw [d4, if_pos hp])
    have c64 := own_cd64 (V := V) (ar := ar) (u := u) (w := w) (x := x) (by omega) hd4 y
    have dd : f_decode n (Int32.ofNat y) s = some t' := by unfold f_decode; rw [h20]; exact d1
    rw [u_compileTable_78, if_pos (ltN (by omega) (by omega)), if_pos (ltZ (z := 1024) 1024 rfl (by omega) (by omega)), dd, Option.bind_some, sc, Option.bind_some, grd_pos (inbN (by omega) (by omega)), ix_N (by omega), d3 12 (by decide), hm _ (by omega)]
    have step : ∀ v : Int32, f_compileTable_117 n (f_compileTable_78 n k) (Int32.ofNat (d ^ V)) (Int32.ofNat y) v (Int32.ofNat y) t' = f_compileTable_78 n k (Int32.ofNat (d ^ V)) (Int32.ofNat (y + 1)) (setA t' 11 y v) := fun v => by
      unfold f_compileTable_117
      rw [grd_pos (inbN (by omega) (by omega)), bnd_eq, ix_N (by omega), N_succ]
    have fin : ∀ v : Int32, v = (if mem (own_cd d V ar u w x y) = true then 1 else 0) → ∃ t'', f_compileTable_78 n k (Int32.ofNat (d ^ V)) (Int32.ofNat (y + 1)) (setA t' 11 y v) = f_compileTable_124 n t'' ∧ t''.1 = s.1 ∧ (∀ j, j ≠ 4 → j ≠ 11 → t''.2 j = s.2 j) ∧ (∀ z, z < d ^ V → t''.2 11 z = if mem (own_cd d V ar u w x z) = true then 1 else 0) := fun v hv => by
      have e1 : (setA t' 11 y v).1 = s.1 := d2
      have e2 : ∀ j, j ≠ 4 → j ≠ 11 → (setA t' 11 y v).2 j = s.2 j := fun j h4 h11 => by
        funext z; rw [setA_2, if_neg (fun w => h11 w.1), d3 j h4]
      obtain ⟨t'', k1, k2, k3, k4⟩ := ih (y + 1) k (setA t' 11 y v) (by omega) (by omega) (by rw [e1]; exact h20) (by rw [e1]; exact h21) (own_TbF (fun j _ _ => by rw [e1]) (e2 1 (by decide) (by decide)) T) (by rw [e2 12 (by decide) (by decide)]; exact hm) (fun z hz' => by
        rw [setA_2]
        by_cases q : z = y
        · rw [if_pos ⟨by trivial, q⟩, hv, q]
        · rw [if_neg (fun w => q w.2), d3 11 (by decide)]; exact hz z (by omega))
      exact ⟨t'', k1, k2.trans e1, fun j h4 h11 => (k3 j h4 h11).trans (e2 j h4 h11), k4⟩
    by_cases q : mem (own_cd d V ar u w x y) = true
    · rw [if_pos q, if_neg (by decide), step]
      exact fin 1 (by rw [if_pos q])
    · rw [if_neg q, if_pos rfl, step]
      exact fin 0 (by rw [if_neg q])
theorem own_c23 {K : Nat} (hK : K ≤ 16) : ∀ (m i k : Nat) (s : St), i + m = K → m < k → s.1 29 = Int32.ofNat K → (∀ i, i < K → s.2 1 i = Int32.ofNat (mt i) ∧ mt i < 64) →
    ∃ t, f_compileTable_23 n k (Int32.ofNat i) s = f_compileTable_67 n t ∧ t.1 = s.1 ∧ (∀ j, j ≠ 12 → t.2 j = s.2 j) ∧ ∀ h, (t.2 12 h = s.2 12 h ∧ ∀ e, i ≤ e → e < K → mt e ≠ h) ∨ (t.2 12 h = 1 ∧ ∃ e, i ≤ e ∧ e < K ∧ mt e = h) := by
  intro m
  induction m with
  | zero =>
    intro i k s hi hk h29 h1
    obtain ⟨k, rfl⟩ : ∃ k', k = k' + 1 := ⟨k - 1, by omega⟩
    rw [u_compileTable_23, h29, if_neg (by rw [show i = K by omega]; exact nltN (by omega))]
    exact ⟨s, rfl, rfl, fun _ _ => rfl, fun h => Or.inl ⟨rfl, fun e a b => by omega⟩⟩
  | succ m ih =>
    intro i k s hi hk h29 h1
    obtain ⟨k, rfl⟩ : ∃ k', k = k' + 1 := ⟨k - 1, by omega⟩
    obtain ⟨hi1, hm⟩ := h1 i (by omega)
    rw [u_compileTable_23, h29, if_pos (ltN (by omega) (by omega)), if_pos (ltZ (z := 16) 16 rfl (by omega) (by omega)), grd_pos (inbN (by omega) (by omega)), ix_N (by omega), hi1, if_neg (N_neg (by omega)), if_pos (ltZ (z := 64) 64 rfl hm (by omega)), grd_pos (inbN hm (by omega)), bnd_eq, ix_N (by omega), N_succ]
    obtain ⟨t, k1, k2, k3, k4⟩ := ih (i + 1) k (setA s 12 (mt i) (1 &&& 1)) (by omega) (by omega) h29 (fun e he => by rw [setA_2, if_neg (fun z => by omega)]; exact h1 e he)
    refine ⟨t, k1, k2, fun j hj => ?_, fun h => ?_⟩
    · rw [k3 j hj]; funext x; rw [setA_2, if_neg (fun z => hj z.1)]
    · rcases k4 h with ⟨a1, a2⟩ | ⟨a1, e, a2, a3, a4⟩
      · by_cases q : mt i = h
        · refine Or.inr ⟨?_, i, by omega, by omega, q⟩
          rw [a1, setA_2, if_pos ⟨by trivial, q.symm⟩]; rfl
        · refine Or.inl ⟨?_, fun e b1 b2 => ?_⟩
          · rw [a1, setA_2, if_neg (fun z => q z.2.symm)]
          · by_cases w : e = i
            · rw [w]; exact q
            · exact a2 e (by omega) b2
      · exact Or.inr ⟨a1, e, by omega, a3, a4⟩
def own_fc (s t : St) : Prop := (∀ j, j ≠ 22 → t.1 j = s.1 j) ∧ (∀ j, j ≠ 4 → j ≠ 5 → j ≠ 6 → j ≠ 7 → j ≠ 11 → j ≠ 12 → t.2 j = s.2 j)
theorem own_cmp {N U : Nat} {lo : List Nat} {L : Nat → Nat} {c : Nat → Nat → Nat} {s : St} (hn : 5000 ≤ n) (I : own_N V d N U lo L c s) (hU : U + 3 * t ≤ 1900) (T : own_Tb V ar u w x t mt s) :
    ∃ r N' U' lo' L' c' s', f_compileTable n s = some (Int32.ofNat r, s') ∧ own_N V d N' U' lo' L' c' s' ∧ own_X N L c N' L' c' ∧ r < N' ∧ U' ≤ U + 3 * t ∧ (t = 0 → r = 0) ∧ own_fc s s' := by
  obtain ⟨i20, i21, i22, n2, n20, v1, v5, d2, d4⟩ := I.1
  have pw := own_pw (m := V) d4 v5
  have c1 : f_compileTable n s = f_compileTable_23 n n 0 (s.1, fun k x => if k = 12 ∧ x < 64 then 0 else s.2 k x) := by
    have q := loopN (F := f_compileTable_2 n) (N := 64) (f := fun i s => setA s 12 i (0 &&& 1)) (fin := fun s => f_compileTable_23 n n 0 s)
      (fun k i s hi => by rw [u_compileTable_2, if_pos (ltZ (z := 64) 64 rfl hi (by omega)), grd_pos (inbN (n := 64) hi (by omega)), bnd_eq, ix_N (by omega)])
      (fun k s => by rw [u_compileTable_2, if_neg (by decide)]) 64 0 n s (by omega) (by omega)
    rw [itr_fill] at q
    exact q
  obtain ⟨s0, e0⟩ : ∃ s0 : St, s0 = (s.1, fun k x => if k = 12 ∧ x < 64 then 0 else s.2 k x) := ⟨_, rfl⟩
  have z1 : s0.1 = s.1 := by rw [e0]
  have z2 : ∀ j, j ≠ 12 → s0.2 j = s.2 j := fun j hj => by rw [e0]; funext x; show (if j = 12 ∧ x < 64 then 0 else s.2 j x) = _; rw [if_neg (fun z => hj z.1)]
  have z3 : ∀ h, h < 64 → s0.2 12 h = 0 := fun h hh => by rw [e0]; show (if 12 = 12 ∧ h < 64 then 0 else s.2 12 h) = _; rw [if_pos ⟨rfl, hh⟩]
  rw [c1, ← e0]
  clear c1 e0
  obtain ⟨t29, t16⟩ := T.2.2.2.2.1
  obtain ⟨q, a1, a2, a3, a4⟩ := own_c23 (n := n) (mt := mt) t16 t 0 n s0 (by omega) (by omega) (by rw [z1]; exact t29) (fun i hi => by rw [z2 1 (by decide)]; exact T.2.2.2.2.2 i hi)
  rw [show (0 : Int32) = Int32.ofNat 0 from rfl, a1]
  obtain ⟨mem, hmem⟩ : ∃ mem : Nat → Bool, ∀ h, mem h = true ↔ ∃ e, e < t ∧ mt e = h := by
    refine ⟨fun h => (List.range t).any (fun e => decide (mt e = h)), fun h => ?_⟩
    simp only [List.any_eq_true, List.mem_range, decide_eq_true_eq]
  unfold f_compileTable_67
  rw [a2, z1, i20, own_pow (by omega) v5 (by rw [a2, z1]; exact i21), Option.bind_some]
  obtain ⟨t2, b1, b2, b3, b4⟩ := own_c78 (n := n) (V := V) (d := d) (by omega) d2 d4 v5 (mem := mem) (d ^ V) 0 n q (by omega) (by omega) (by rw [a2, z1]; exact i20) (by rw [a2, z1]; exact i21) (own_TbF (fun j _ _ => by rw [a2, z1]) ((a3 1 (by decide)).trans (z2 1 (by decide))) T) (fun h hh => by
    rcases a4 h with ⟨c1, c2⟩ | ⟨c1, e, c2, c3, c4⟩
    · rw [c1, z3 h hh, if_neg (fun z => by obtain ⟨e, e1, e2⟩ := (hmem h).mp z; exact c2 e (by omega) e1 e2)]
    · rw [c1, if_pos ((hmem h).mpr ⟨e, c3, c4⟩)]) (fun z hz => by omega)
  rw [show (0 : Int32) = Int32.ofNat 0 from rfl, b1]
  unfold f_compileTable_124 f_reduceBuffer
  have g1 : t2.1 = s.1 := b2.trans (a2.trans z1)
  have g2 : ∀ j, j ≠ 4 → j ≠ 11 → j ≠ 12 → t2.2 j = s.2 j := fun j h4 h11 h12 => (b3 j h4 h11).trans ((a3 j h12).trans (z2 j h12))
  have I2 : own_N V d N U lo L c t2 := own_NF (by rw [g1]) (by rw [g1]) (by rw [g1]) (g2 5 (by decide) (by decide) (by decide)) (g2 6 (by decide) (by decide) (by decide)) (g2 7 (by decide) (by decide) (by decide)) I
  have gg := own_g3 (ar := ar) (u := u) (w := w) (x := x) V
  have gg3 : own_g (own_sc ar u w x) V ≤ 3 := by
    have th : ∀ z, (if z < V then 1 else 0) ≤ 1 := fun z => by split <;> omega
    have h1 := th u
    have h2 := th w
    have h3 := th x
    omega
  have gt : t * own_g (own_sc ar u w x) V ≤ 3 * t := by rw [Nat.mul_comm 3]; exact Nat.mul_le_mul_left t gg3
  obtain ⟨r, N', U', lo', L', c', t3, r1, r2, r3, r4, r5, r6, r7⟩ := own_red16 (n := n) (V := V) (d := d) (S := own_sc ar u w x) (code := own_cd d V ar u w x) (mt := mt) (t := t) hn (own_cdi (by omega) d4) V n N U lo L c (fun y => if mem (own_cd d V ar u w x y) = true then 1 else 0) t2 (Nat.le_refl _) (by omega) I2 (fun y _ hy => by
      obtain ⟨l0, l1⟩ := I.2.2.1
      show t2.2 11 y = Int32.ofNat (if mem (own_cd d V ar u w x y) = true then 1 else 0) ∧ (if mem (own_cd d V ar u w x y) = true then 1 else 0) < N ∧ V ≤ L (if mem (own_cd d V ar u w x y) = true then 1 else 0)
      rw [b4 y hy]
      by_cases q : mem (own_cd d V ar u w x y) = true
      · rw [if_pos q, if_pos q]
        exact ⟨rfl, by omega, by omega⟩
      · rw [if_neg q, if_neg q]
        exact ⟨rfl, by omega, by omega⟩) ⟨fun y hy hne => by
      by_cases q : mem (own_cd d V ar u w x y) = true
      · obtain ⟨e, e1, e2⟩ := (hmem _).mp q
        exact ⟨e, e1, y, e2.symm, fun p _ _ => rfl⟩
      · exact absurd (if_neg q) hne, fun y y' hy hy' hG => by
      have : own_cd d V ar u w x y = own_cd d V ar u w x y' := by
        obtain ⟨-, ⟨-, u1⟩, T3, T4, -, -⟩ := T
        unfold own_cd
        rw [hG u (own_scE.mpr (Or.inl rfl)) u1]
        by_cases q : ar < 2
        · rw [if_pos q, if_pos q, if_neg (by omega), if_neg (by omega)]
        · rw [if_neg q, if_neg q, hG w (own_scE.mpr (Or.inr (Or.inl ⟨by omega, rfl⟩))) (T3 (by omega)).2]
          by_cases q3 : ar = 3
          · rw [if_pos q3, if_pos q3, hG x (own_scE.mpr (Or.inr (Or.inr ⟨q3, rfl⟩))) (T4 q3).2]
          · rw [if_neg q3, if_neg q3]
      show (if mem (own_cd d V ar u w x y) = true then 1 else 0) = if mem (own_cd d V ar u w x y') = true then 1 else 0
      rw [this]⟩ (by omega)
  rw [g1, i20, own_pow (by omega) v5 (by rw [g1]; exact i21), Option.bind_some, r1, Option.bind_some]
  refine ⟨r, N', U', lo', L', c', t3, rfl, r2, r3, r4, by omega, r6, fun j hj => ?_, fun j h4 h5 h6 h7 h11 h12 => ?_⟩
  · rw [r7.1 j hj, g1]
  · rw [r7.2 j h5 h6 h7 h11, g2 j h4 h11 h12]
end

/-! ### conjoin -/
def own_Me (N : Nat) (L : Nat → Nat) (s : St) : Prop :=
  ∀ h, h < 1024 → ¬ s.2 16 h = 0 → ∃ a b r, s.2 13 h = Int32.ofNat a ∧ s.2 14 h = Int32.ofNat b ∧ s.2 15 h = Int32.ofNat r ∧ a < N ∧ b < N ∧ r < N ∧ ∀ l, l ≤ L a → l ≤ L b → l ≤ L r
theorem own_slot (s : St) (a b : Int32) : ∃ p, p < 1024 ∧ f_memoSlot s a b = some (Int32.ofNat p) := by
  obtain ⟨v, hv⟩ : ∃ v : Int32, f_memoSlot s a b = some (v &&& Int32.ofNat 1023) := ⟨_, rfl⟩
  obtain ⟨m, m1, m2⟩ := own_and v (M := 1023) (by omega)
  exact ⟨m, by omega, by rw [hv, m2]⟩
theorem own_f35 {n : Nat} {s : St} {A B : Int32} : ∀ m e p k, e + m = 1024 → m < k → p < 1024 → ∃ v, f_memoFind_35 n s k A B (Int32.ofNat p) (Int32.ofNat e) = some v ∧ (v = -1 ∨ ∃ h, h < 1024 ∧ ¬ s.2 16 h = 0 ∧ s.2 13 h = A ∧ s.2 14 h = B ∧ v = s.2 15 h) := by
  intro m
  induction m with
  | zero =>
    intro e p k he hk hp
    obtain ⟨k, rfl⟩ : ∃ k', k = k' + 1 := ⟨k - 1, by omega⟩
    rw [u_memoFind_35, if_neg (by rw [show e = 1024 by omega]; decide)]
    exact ⟨_, rfl, Or.inl rfl⟩
  | succ m ih =>
    intro e p k he hk hp
    obtain ⟨k, rfl⟩ : ∃ k', k = k' + 1 := ⟨k - 1, by omega⟩
    have nx : ∃ v, f_memoFind_84 n s (f_memoFind_35 n s k) A B (Int32.ofNat p) (Int32.ofNat e) = some v ∧ (v = -1 ∨ ∃ h, h < 1024 ∧ ¬ s.2 16 h = 0 ∧ s.2 13 h = A ∧ s.2 14 h = B ∧ v = s.2 15 h) := by
      unfold f_memoFind_84
      rw [N_succ, show (1023 : Int32) = Int32.ofNat (2 ^ 10 - 1) from rfl, own_and2 (by omega) (by omega), N_succ]
      exact ih (e + 1) ((p + 1) % 2 ^ 10) k (by omega) (by omega) (Nat.mod_lt _ (by decide))
    rw [u_memoFind_35, if_pos (ltZ (z := 1024) 1024 rfl (by omega) (by omega)), grd_pos (inbN hp (by omega)), ix_N (by omega)]
    by_cases q0 : s.2 16 p = 0
    · rw [if_pos q0]; exact ⟨_, rfl, Or.inl rfl⟩
    · rw [if_neg q0]
      by_cases q1 : s.2 13 p = A
      · rw [if_pos q1]
        by_cases q2 : s.2 14 p = B
        · rw [if_pos q2]; exact ⟨_, rfl, Or.inr ⟨p, hp, q0, q1, q2, rfl⟩⟩
        · rw [if_neg q2]; exact nx
      · rw [if_neg q1]; exact nx
def own_at (s : St) (p a b : Nat) (f : Int32) : Prop := s.2 17 p = Int32.ofNat a ∧ s.2 18 p = Int32.ofNat b ∧ s.2 19 p = f
def own_low (D : Nat) (s t : St) : Prop := ∀ p, p < D → t.2 17 p = s.2 17 p ∧ t.2 18 p = s.2 18 p ∧ t.2 19 p = s.2 19 p
theorem own_lowr (D : Nat) (s : St) : own_low D s s := fun _ _ => ⟨rfl, rfl, rfl⟩
theorem own_lowt {D D' : Nat} {s t u : St} (h : own_low D s t) (g : own_low D' t u) (hd : D ≤ D') : own_low D s u := fun p hp => ⟨(g p (by omega)).1.trans (h p hp).1, (g p (by omega)).2.1.trans (h p hp).2.1, (g p (by omega)).2.2.trans (h p hp).2.2⟩
theorem own_lowat {D : Nat} {s t : St} (h : own_low D s t) {p a b : Nat} {f : Int32} (hp : p < D) (k : own_at s p a b f) : own_at t p a b f := ⟨(h p hp).1.trans k.1, (h p hp).2.1.trans k.2.1, (h p hp).2.2.trans k.2.2⟩
def own_fj (s t : St) : Prop := (∀ j, j ≠ 22 → j ≠ 30 → t.1 j = s.1 j) ∧ (∀ j, j ≤ 4 ∨ (8 ≤ j ∧ j ≤ 12) ∨ 20 ≤ j → t.2 j = s.2 j)
theorem own_fjr (s : St) : own_fj s s := ⟨fun _ _ _ => rfl, fun _ _ => rfl⟩
theorem own_fjt {s t u : St} (h : own_fj s t) (g : own_fj t u) : own_fj s u := ⟨fun j a b => (g.1 j a b).trans (h.1 j a b), fun j a => (g.2 j a).trans (h.2 j a)⟩
theorem own_push {D a b : Nat} {s : St} (hD : s.1 30 = Int32.ofNat D) (hb : D < 64) : ∃ t, f_push (Int32.ofNat a) (Int32.ofNat b) s = some t ∧ t.1 30 = Int32.ofNat (D + 1) ∧ (∀ j, j ≠ 30 → t.1 j = s.1 j) ∧ (∀ j, j < 17 ∨ 19 < j → t.2 j = s.2 j) ∧ own_low D s t ∧ own_at t D a b 0 := by
  unfold f_push
  rw [hD, if_pos (ltZ (z := 64) 64 rfl hb (by omega)), grd_pos (inbN hb (by omega)), bnd_eq, ix_N (by omega)]
  rw [show (setA s 17 D (Int32.ofNat a)).1 30 = Int32.ofNat D from hD, grd_pos (inbN hb (by omega)), bnd_eq, ix_N (by omega)]
  rw [show (setA (setA s 17 D (Int32.ofNat a)) 18 D (Int32.ofNat b)).1 30 = Int32.ofNat D from hD, grd_pos (inbN hb (by omega)), bnd_eq, ix_N (by omega), bnd_eq]
  rw [show (setA (setA (setA s 17 D (Int32.ofNat a)) 18 D (Int32.ofNat b)) 19 D 0).1 30 = Int32.ofNat D from hD, N_succ]
  refine ⟨_, rfl, by rw [setI_1, if_pos (by trivial)], fun j hj => by rw [setI_1, if_neg hj]; rfl, fun j hj => ?_, fun p hp => ?_, ?_⟩
  · funext x
    rw [setI_2, setA_2, if_neg (fun z => by omega), setA_2, if_neg (fun z => by omega), setA_2, if_neg (fun z => by omega)]
  · rw [setI_2]
    have : p ≠ D := by omega
    simp [setA_2, this]
  · unfold own_at
    rw [setI_2]
    simp [setA_2]
def own_cf (L : Nat → Nat) (c : Nat → Nat → Nat) (l a v : Nat) : Nat := if L a = l then c a v else a
section
variable {V d N U n l a b : Nat} {lo : List Nat} {L : Nat → Nat} {c : Nat → Nat → Nat} {s : St}
theorem own_NX {N' : Nat} {L' : Nat → Nat} {c' : Nat → Nat → Nat} {t : St} (X : own_X N L c N' L' c') (h : ∀ j, 13 ≤ j → j ≤ 16 → t.2 j = s.2 j) (Me : own_Me N L s) : own_Me N' L' t := by
  unfold own_Me at *
  rw [h 13 (by omega) (by omega), h 14 (by omega) (by omega), h 15 (by omega) (by omega), h 16 (by omega) (by omega)]
  intro x hx hu
  obtain ⟨a, b, r, k1, k2, k3, k4, k5, k6, k7⟩ := Me x hx hu
  have := X.1
  refine ⟨a, b, r, k1, k2, k3, by omega, by omega, by omega, ?_⟩
  rw [(X.2 a k4).1, (X.2 b k5).1, (X.2 r k6).1]; exact k7
theorem own_Rs (hn : 5000 ≤ n) (I : own_N V d N U lo L c s) (Me : own_Me N L s) (ha : a < N) (hb : b < N) :
    ∃ v, f_resolve n s (Int32.ofNat a) (Int32.ofNat b) = some v ∧ ((v = -1 ∧ 2 ≤ a ∧ 2 ≤ b) ∨ ∃ r, r < N ∧ v = Int32.ofNat r ∧ ∀ l, l ≤ L a → l ≤ L b → l ≤ L r) := by
  have n20 := I.1.2.2.2.2.1
  have ne : ∀ i k : Nat, i < N → k ≤ 1 → i ≠ k → ¬ Int32.ofNat i = Int32.ofNat k := fun i k hi hk q z => q ((N_inj (by omega) (by omega)).mp z)
  unfold f_resolve
  rw [show (0 : Int32) = Int32.ofNat 0 from rfl, show (1 : Int32) = Int32.ofNat 1 from rfl]
  by_cases q1 : a = 0
  · subst q1
    rw [if_pos rfl]
    exact ⟨_, rfl, Or.inr ⟨0, ha, rfl, fun l h1 h2 => h1⟩⟩
  · rw [if_neg (ne a 0 ha (by omega) q1)]
    by_cases q2 : b = 0
    · subst q2
      rw [if_pos rfl]
      exact ⟨_, rfl, Or.inr ⟨0, hb, rfl, fun l h1 h2 => h2⟩⟩
    · rw [if_neg (ne b 0 hb (by omega) q2)]
      by_cases q3 : a = 1
      · rw [if_pos (by rw [q3])]
        exact ⟨_, rfl, Or.inr ⟨b, hb, rfl, fun l h1 h2 => h2⟩⟩
      · rw [if_neg (ne a 1 ha (by omega) q3)]
        by_cases q4 : b = 1
        · rw [if_pos (by rw [q4])]
          exact ⟨_, rfl, Or.inr ⟨a, ha, rfl, fun l h1 h2 => h1⟩⟩
        · rw [if_neg (ne b 1 hb (by omega) q4)]
          by_cases q5 : a = b
          · rw [if_pos (by rw [q5])]
            exact ⟨_, rfl, Or.inr ⟨a, ha, rfl, fun l h1 h2 => h1⟩⟩
          · rw [if_neg (fun z => q5 ((N_inj (by omega) (by omega)).mp z))]
            have key : ∀ x y : Nat, x < N → y < N → ((x = a ∧ y = b) ∨ (x = b ∧ y = a)) → ∃ v, ((f_memoFind_21 n s (Int32.ofNat x) (Int32.ofNat y)).bind fun q6 => some q6) = some v ∧ ((v = -1 ∧ 2 ≤ a ∧ 2 ≤ b) ∨ ∃ r, r < N ∧ v = Int32.ofNat r ∧ ∀ l, l ≤ L a → l ≤ L b → l ≤ L r) := fun x y hx hy hxy => by
              unfold f_memoFind_21
              obtain ⟨p, p1, p2⟩ := own_slot s (Int32.ofNat x) (Int32.ofNat y)
              rw [p2, Option.bind_some]
              obtain ⟨v, v1, v2⟩ := own_f35 (n := n) (s := s) (A := Int32.ofNat x) (B := Int32.ofNat y) 1024 0 p n (by omega) (by omega) p1
              rw [show (0 : Int32) = Int32.ofNat 0 from rfl, v1, Option.bind_some]
              refine ⟨v, rfl, ?_⟩
              rcases v2 with rfl | ⟨h, h1, h2, h3, h4, rfl⟩
              · exact Or.inl ⟨rfl, by omega, by omega⟩
              · obtain ⟨x', y', r, k1, k2, k3, k4, k5, k6, k7⟩ := Me h h1 h2
                rw [k1] at h3
                rw [k2] at h4
                have f1 := (N_inj (by omega) (by omega)).mp h3
                have f2 := (N_inj (by omega) (by omega)).mp h4
                rw [f1, f2] at k7
                refine Or.inr ⟨r, k6, k3, fun l g1 g2 => ?_⟩
                rcases hxy with ⟨z1, z2⟩ | ⟨z1, z2⟩
                · rw [z1, z2] at k7; exact k7 l g1 g2
                · rw [z1, z2] at k7; exact k7 l g2 g1
            unfold f_memoFind f_memoFind_10
            by_cases q : a < b
            · rw [if_pos (ltN q (by omega)), if_pos (ltN q (by omega))]
              exact key a b ha hb (Or.inl ⟨rfl, rfl⟩)
            · rw [if_neg (own_nlt (by omega) (by omega)), if_neg (own_nlt (by omega) (by omega))]
              exact key b a hb ha (Or.inr ⟨rfl, rfl⟩)
theorem own_ms (hn : 5000 ≤ n) (hN : N ≤ 2048) (Me : own_Me N L s) {r : Nat} (ha : a < N) (hb : b < N) (hr : r < N) (hl : ∀ l, l ≤ L a → l ≤ L b → l ≤ L r) :
    ∃ t, f_memoStore n (Int32.ofNat a) (Int32.ofNat b) (Int32.ofNat r) s = some t ∧ own_Me N L t ∧ t.1 = s.1 ∧ (∀ j, j < 13 ∨ 16 < j → t.2 j = s.2 j) := by
  have key : ∀ x y : Nat, x < N → y < N → ((x = a ∧ y = b) ∨ (x = b ∧ y = a)) → ∃ t, f_memoStore_22 n (Int32.ofNat r) (Int32.ofNat x) (Int32.ofNat y) s = some t ∧ own_Me N L t ∧ t.1 = s.1 ∧ (∀ j, j < 13 ∨ 16 < j → t.2 j = s.2 j) := fun x y hx hy hxy => by
    have lp : ∀ m e p k, e + m = 1024 → m < k → p < 1024 → ∃ t, f_memoStore_37 n k (Int32.ofNat r) (Int32.ofNat x) (Int32.ofNat y) (Int32.ofNat p) (Int32.ofNat e) s = some t ∧ own_Me N L t ∧ t.1 = s.1 ∧ (∀ j, j < 13 ∨ 16 < j → t.2 j = s.2 j) := by
      intro m
      induction m with
      | zero =>
        intro e p k he hk hp
        obtain ⟨k, rfl⟩ : ∃ k', k = k' + 1 := ⟨k - 1, by omega⟩
        rw [u_memoStore_37, if_neg (by rw [show e = 1024 by omega]; decide)]
        exact ⟨s, rfl, Me, rfl, fun _ _ => rfl⟩
      | succ m ih =>
        intro e p k he hk hp
        obtain ⟨k, rfl⟩ : ∃ k', k = k' + 1 := ⟨k - 1, by omega⟩
        rw [u_memoStore_37, if_pos (ltZ (z := 1024) 1024 rfl (by omega) (by omega)), grd_pos (inbN hp (by omega)), ix_N (by omega)]
        by_cases q0 : s.2 16 p = 0
        · rw [if_pos q0, bnd_eq, bnd_eq, bnd_eq, bnd_eq]
          obtain ⟨t, et⟩ : ∃ t, t = setA (setA (setA (setA s 16 p (1 &&& 1)) 13 p (Int32.ofNat x)) 14 p (Int32.ofNat y)) 15 p (Int32.ofNat r) := ⟨_, rfl⟩
          rw [← et]
          have t1 : t.1 = s.1 := by rw [et]; rfl
          have t16 : ∀ z, t.2 16 z = if z = p then 1 else s.2 16 z := fun z => by rw [et]; simp [setA_2]
          have t13 : ∀ z, t.2 13 z = if z = p then Int32.ofNat x else s.2 13 z := fun z => by rw [et]; simp [setA_2]
          have t14 : ∀ z, t.2 14 z = if z = p then Int32.ofNat y else s.2 14 z := fun z => by rw [et]; simp [setA_2]
          have t15 : ∀ z, t.2 15 z = if z = p then Int32.ofNat r else s.2 15 z := fun z => by rw [et]; simp [setA_2]
          have to : ∀ j, j < 13 ∨ 16 < j → t.2 j = s.2 j := fun j hj => by
            funext z; rw [et, setA_2, if_neg (fun z => by omega), setA_2, if_neg (fun z => by omega), setA_2, if_neg (fun z => by omega), setA_2, if_neg (fun z => by omega)]
          clear et
          refine ⟨t, rfl, fun h hh hu => ?_, t1, to⟩
          rw [t13, t14, t15]
          by_cases q : h = p
          · rw [if_pos q, if_pos q, if_pos q]
            refine ⟨x, y, r, rfl, rfl, rfl, hx, hy, hr, fun l g1 g2 => ?_⟩
            rcases hxy with ⟨z1, z2⟩ | ⟨z1, z2⟩
            · rw [z1] at g1; rw [z2] at g2; exact hl l g1 g2
            · rw [z1] at g1; rw [z2] at g2; exact hl l g2 g1
          · rw [t16, if_neg q] at hu
            rw [if_neg q, if_neg q, if_neg q]; exact Me h hh hu
        · rw [if_neg q0, N_succ, show (1023 : Int32) = Int32.ofNat (2 ^ 10 - 1) from rfl, own_and2 (by omega) (by omega), N_succ]
          exact ih (e + 1) ((p + 1) % 2 ^ 10) k (by omega) (by omega) (Nat.mod_lt _ (by decide))
    unfold f_memoStore_22
    obtain ⟨p, p1, p2⟩ := own_slot s (Int32.ofNat x) (Int32.ofNat y)
    rw [p2, Option.bind_some]
    exact lp 1024 0 p n (by omega) (by omega) p1
  unfold f_memoStore f_memoStore_10
  by_cases q : a < b
  · rw [if_pos (ltN q (by omega)), if_pos (ltN q (by omega))]
    exact key a b ha hb (Or.inl ⟨rfl, rfl⟩)
  · rw [if_neg (own_nlt (by omega) (by omega)), if_neg (own_nlt (by omega) (by omega))]
    exact key b a hb ha (Or.inr ⟨rfl, rfl⟩)
theorem own_cof (I : own_N V d N U lo L c s) {v : Nat} (ha : a < N) (hl : l < V) (hla : l ≤ L a) (hv : v < 4) :
    f_cofactor s (Int32.ofNat a) (Int32.ofNat l) (Int32.ofNat v) = some (Int32.ofNat (own_cf L c l a v)) ∧ own_cf L c l a v < N ∧ l < L (own_cf L c l a v) := by
  obtain ⟨-, -, -, n2, n20, v1, v5, d2, d4⟩ := I.1
  have l3 := (I.2.1 a ha).2
  unfold f_cofactor own_cf
  rw [grd_pos (inbN (by omega) (by omega)), ix_N (by omega), (I.2.1 a ha).1]
  by_cases q : L a = l
  · have a2 : 2 ≤ a := by
      obtain ⟨l0, l1⟩ := I.2.2.1
      by_cases z0 : a = 0
      · rw [z0] at q; omega
      · by_cases z1 : a = 1
        · rw [z1] at q; omega
        · omega
    obtain ⟨c1, c2, c3⟩ := (I.2.2.2.1 a a2 ha).2 v hv
    rw [if_pos (by rw [q]), show (4 : Int32) = Int32.ofNat 4 from rfl, N_mul, N_add, grd_pos (inbN (by omega) (by omega)), ix_N (by omega), show a * 4 + v = 4 * a + v by omega, c1, if_pos q]
    rw [q] at c3
    exact ⟨rfl, by omega, c3⟩
  · rw [if_neg (fun z => q ((N_inj (by omega) (by omega)).mp z)), if_neg q]
    exact ⟨rfl, ha, by omega⟩
theorem own_top (I : own_N V d N U lo L c s) (ha : a < N) (hb : b < N) : f_topLevel s (Int32.ofNat a) (Int32.ofNat b) = some (Int32.ofNat (min (L a) (L b))) := by
  obtain ⟨-, -, -, n2, n20, v1, v5, d2, d4⟩ := I.1
  have la := (I.2.1 a ha).2
  have lb := (I.2.1 b hb).2
  unfold f_topLevel
  rw [grd_pos (inbN (by omega) (by omega)), grd_pos (inbN (by omega) (by omega)), ix_N (by omega), ix_N (by omega), (I.2.1 a ha).1, (I.2.1 b hb).1]
  by_cases q : L a < L b
  · rw [if_pos (ltN q (by omega)), Nat.min_eq_left (by omega)]
  · rw [if_neg (fun z => q ((N_lt (by omega) (by omega)).mp z)), Nat.min_eq_right (by omega)]
theorem own_pc (hn : 5000 ≤ n) (ha : a < N) (hb : b < N) (hl : l < V) (hla : l ≤ L a) (hlb : l ≤ L b) :
    ∀ (m v k D : Nat) (s : St), own_N V d N U lo L c s → own_Me N L s → v + m = d → m < k → s.1 30 = Int32.ofNat D → D + m ≤ 60 →
      ∃ (t : St) (p : Nat) (A B : Nat → Nat), f_pushChildren_10 n k (Int32.ofNat a) (Int32.ofNat b) (Int32.ofNat l) (Int32.ofNat v) s = some t ∧ own_N V d N U lo L c t ∧ own_Me N L t ∧ p ≤ m ∧ t.1 30 = Int32.ofNat (D + p) ∧ own_low D s t ∧ own_fj s t ∧
        (∀ q, D ≤ q → q < D + p → own_at t q (A q) (B q) 0 ∧ A q < N ∧ B q < N ∧ l < L (A q) ∧ l < L (B q)) := by
  intro m
  induction m with
  | zero =>
    intro v k D s I Me hv hk hD hDm
    obtain ⟨k, rfl⟩ : ∃ k', k = k' + 1 := ⟨k - 1, by omega⟩
    have d4 := I.1.2.2.2.2.2.2.2.2
    rw [u_pushChildren_10, I.1.2.1, if_neg (own_nlt (by omega) (by omega))]
    exact ⟨s, 0, fun _ => 0, fun _ => 0, rfl, I, Me, by omega, hD, own_lowr D s, own_fjr s, fun q h1 h2 => by omega⟩
  | succ m ih =>
    intro v k D s I Me hv hk hD hDm
    obtain ⟨k, rfl⟩ : ∃ k', k = k' + 1 := ⟨k - 1, by omega⟩
    obtain ⟨-, i21, -, n2, n20, v1, v5, d2, d4⟩ := I.1
    obtain ⟨c1, c2, c3⟩ := own_cof I ha hl hla (v := v) (by omega)
    obtain ⟨d1, e2, e3⟩ := own_cof I hb hl hlb (v := v) (by omega)
    rw [u_pushChildren_10, i21, if_pos (ltN (by omega) (by omega)), c1, Option.bind_some, d1, Option.bind_some, N_succ]
    obtain ⟨w, r1, r2⟩ := own_Rs (n := n) hn I Me c2 e2
    rw [r1, Option.bind_some]
    rcases r2 with ⟨rfl, -, -⟩ | ⟨r, r3, rfl, -⟩
    · rw [if_pos (by decide)]
      obtain ⟨u, u1, u2, u3, u4, u5, u6⟩ := own_push (a := own_cf L c l a v) (b := own_cf L c l b v) hD (by omega)
      rw [u1, Option.bind_some]
      have Iu : own_N V d N U lo L c u := own_NF (u3 20 (by decide)) (u3 21 (by decide)) (u3 22 (by decide)) (u4 5 (by omega)) (u4 6 (by omega)) (u4 7 (by omega)) I
      have Mu : own_Me N L u := own_NX (own_Xr N L c) (fun j h1 h2 => u4 j (by omega)) Me
      have fu : own_fj s u := ⟨fun j _ h30 => u3 j h30, fun j hj => u4 j (by omega)⟩
      obtain ⟨t, p, A, B, t1, t2, t3, t4, t5, t6, t8, t9⟩ := ih (v + 1) k (D + 1) u Iu Mu (by omega) (by omega) u2 (by omega)
      obtain ⟨A', hA⟩ : ∃ A' : Nat → Nat, ∀ q, A' q = if q = D then own_cf L c l a v else A q := ⟨_, fun _ => rfl⟩
      obtain ⟨B', hB⟩ : ∃ B' : Nat → Nat, ∀ q, B' q = if q = D then own_cf L c l b v else B q := ⟨_, fun _ => rfl⟩
      refine ⟨t, p + 1, A', B', t1, t2, t3, by omega, by rw [t5, show D + 1 + p = D + (p + 1) by omega], own_lowt u5 t6 (by omega), own_fjt fu t8, fun q h1 h2 => ?_⟩
      by_cases z : q = D
      · rw [hA, hB, if_pos z, if_pos z, z]
        exact ⟨own_lowat t6 (by omega) u6, c2, e2, c3, e3⟩
      · rw [hA, hB, if_neg z, if_neg z]; exact t9 q (by omega) (by omega)
    · rw [if_neg (N_neg (by omega))]
      obtain ⟨t, p, A, B, t1, t2, t3, t4, rest⟩ := ih (v + 1) k D s I Me (by omega) (by omega) hD (by omega)
      exact ⟨t, p, A, B, t1, t2, t3, by omega, rest⟩
theorem own_child (hn : 5000 ≤ n) (I : own_N V d N U lo L c s) (Me : own_Me N L s) {v : Nat} (ha : a < N) (hb : b < N) (hl : l < V) (hla : l ≤ L a) (hlb : l ≤ L b) (hv : v < 4) :
    ∃ r, f_childResult n s (Int32.ofNat a) (Int32.ofNat b) (Int32.ofNat l) (Int32.ofNat v) = some (Int32.ofNat r) ∧ r < N ∧ l < L r := by
  obtain ⟨-, i21, -, n2, n20, v1, v5, d2, d4⟩ := I.1
  have z : (0 : Nat) < N ∧ l < L 0 := ⟨by omega, by rw [I.2.2.1.1]; exact hl⟩
  unfold f_childResult
  rw [i21]
  by_cases q : v < d
  · obtain ⟨c1, c2, c3⟩ := own_cof I ha hl hla hv
    obtain ⟨d1, e2, e3⟩ := own_cof I hb hl hlb hv
    obtain ⟨w, r1, r2⟩ := own_Rs (n := n) hn I Me c2 e2
    rw [if_pos (ltN q (by omega)), c1, Option.bind_some, d1, Option.bind_some, r1, Option.bind_some]
    rcases r2 with ⟨rfl, -, -⟩ | ⟨r, r3, rfl, r4⟩
    · rw [if_pos (by decide)]; exact ⟨0, rfl, z⟩
    · rw [if_neg (N_neg (by omega))]; exact ⟨r, rfl, r3, r4 (l + 1) c3 e3⟩
  · rw [if_neg (own_nlt (by omega) (by omega))]; exact ⟨0, rfl, z⟩
theorem own_fp (hn : 5000 ≤ n) (I : own_N V d N U lo L c s) (hU : U ≤ 1900) (Me : own_Me N L s) (ha : a < N) (hb : b < N) (el : l = min (L a) (L b)) (hl : l < V) :
    ∃ N' U' lo' L' c' t, f_finishPair n (Int32.ofNat a) (Int32.ofNat b) s = some t ∧ own_N V d N' U' lo' L' c' t ∧ own_Me N' L' t ∧ own_X N L c N' L' c' ∧ U' ≤ U + (if l + 1 < V then 1 else 0) ∧ (∀ j, j ≠ 22 → t.1 j = s.1 j) ∧ (∀ j, j ≤ 4 ∨ (8 ≤ j ∧ j ≤ 12) ∨ 17 ≤ j → t.2 j = s.2 j) := by
  have hla : l ≤ L a := by rw [el]; omega
  have hlb : l ≤ L b := by rw [el]; omega
  have l16 := own_lo16 I
  have Ne := I.2.2.2.2.2.2.2.2.1
  obtain ⟨r0, a1, a2, a3⟩ := own_child hn I Me ha hb hl hla hlb (v := 0) (by omega)
  obtain ⟨r1, b1, b2, b3⟩ := own_child hn I Me ha hb hl hla hlb (v := 1) (by omega)
  obtain ⟨r2, c1, c2, c3⟩ := own_child hn I Me ha hb hl hla hlb (v := 2) (by omega)
  obtain ⟨r3, d1, d2, d3⟩ := own_child hn I Me ha hb hl hla hlb (v := 3) (by omega)
  unfold f_finishPair
  rw [own_top I ha hb, Option.bind_some, ← el]
  rw [show f_childResult n s (Int32.ofNat a) (Int32.ofNat b) (Int32.ofNat l) 0 = some (Int32.ofNat r0) from a1, Option.bind_some, show f_childResult n s (Int32.ofNat a) (Int32.ofNat b) (Int32.ofNat l) 1 = some (Int32.ofNat r1) from b1, Option.bind_some, show f_childResult n s (Int32.ofNat a) (Int32.ofNat b) (Int32.ofNat l) 2 = some (Int32.ofNat r2) from c1, Option.bind_some, show f_childResult n s (Int32.ofNat a) (Int32.ofNat b) (Int32.ofNat l) 3 = some (Int32.ofNat r3) from d1, Option.bind_some]
  obtain ⟨f, hf⟩ : ∃ f : Nat → Nat, ∀ v, f v = if v = 0 then r0 else if v = 1 then r1 else if v = 2 then r2 else r3 := ⟨_, fun _ => rfl⟩
  have f0 : f 0 = r0 := by rw [hf]; rfl
  have f1 : f 1 = r1 := by rw [hf]; rfl
  have f2 : f 2 = r2 := by rw [hf]; rfl
  have f3 : f 3 = r3 := by rw [hf]; rfl
  obtain ⟨r, N', U', lo', L', c', s', k1, k2, k4, k5, k6, -, k8, k9, -⟩ := own_mk (n := n) (a := f) hn I (by omega) hl (fun v hv => by
    match v, hv with
    | 0, _ => rw [f0]; exact ⟨a2, a3⟩
    | 1, _ => rw [f1]; exact ⟨b2, b3⟩
    | 2, _ => rw [f2]; exact ⟨c2, c3⟩
    | 3, _ => rw [f3]; exact ⟨d2, d3⟩)
  rw [f0, f1, f2, f3] at k1
  rw [k1, Option.bind_some]
  have Me' : own_Me N' L' s' := own_NX k4 (fun j h1 h2 => k8.2 j (by omega) (by omega) (by omega)) Me
  have hN' := k4.1
  obtain ⟨t, t1, t2, t5, t6⟩ := own_ms hn k2.1.2.2.2.2.1 Me' (a := a) (b := b) (r := r) (by omega) (by omega) k5 (fun l' h1 h2 => by
    rw [(k4.2 a ha).1] at h1
    rw [(k4.2 b hb).1] at h2
    have : l' ≤ l := by rw [el]; omega
    omega)
  rw [t1, Option.bind_some]
  refine ⟨N', U', lo', L', c', t, rfl, own_NF (by rw [t5]) (by rw [t5]) (by rw [t5]) (t6 5 (by omega)) (t6 6 (by omega)) (t6 7 (by omega)) k2, t2, k4, k9, fun j hj => by rw [t5, k8.1 j hj], fun j hj => ?_⟩
  rw [t6 j (by omega), k8.2 j (by omega) (by omega) (by omega)]
end

/-! ### the walk over the pairs -/
def own_c : Nat → Nat
  | 0 => 0
  | j + 1 => 4 * own_c j + (if j = 0 then 0 else 1)
def own_k : Nat → Nat
  | 0 => 1
  | j + 1 => 4 * own_k j + 2
theorem own_it {n D : Nat} {s t : St} (h : s.1 30 = Int32.ofNat (D + 1)) (hD : D < 64) (e : f_step n s = some t) (k : Nat) (x1 x2 : Int32) {x3 : Nat} (hx : x3 < 200000) : f_conjoin_35 n (k + 1) x1 x2 (Int32.ofNat x3) s = f_conjoin_35 n k x1 x2 (Int32.ofNat (x3 + 1)) t := by
  rw [u_conjoin_35, if_pos (ltZ (z := 200000) 200000 rfl hx (by omega)), h, if_pos (by rw [show (0 : Int32) = Int32.ofNat 0 from rfl]; exact ltN (by omega) (by omega)), e, Option.bind_some, N_succ]
theorem own_stepR {n D a b r : Nat} {s : St} (hD : s.1 30 = Int32.ofNat (D + 1)) (hb : D < 64) (at' : own_at s D a b 0) (hr : r < 2147483648) (r1 : f_resolve n s (Int32.ofNat a) (Int32.ofNat b) = some (Int32.ofNat r)) : f_step n s = some (setI s 30 (Int32.ofNat D)) := by
  unfold f_step
  rw [hD, own_pred, grd_pos (inbN hb (by omega)), ix_N (by omega), at'.2.2, if_pos rfl, at'.1, at'.2.1, r1, Option.bind_some, if_neg (N_neg (by omega)), bnd_eq]
/-- what the work on the stack's top leaves: K steps, at most C upper nodes -/
def own_W (n V d D N U C Kb : Nat) (L : Nat → Nat) (c : Nat → Nat → Nat) (s : St) : Prop :=
  ∃ K N' U' lo' L' c' t, K ≤ Kb ∧ (∀ (k : Nat) (x1 x2 : Int32) (x3 : Nat), x3 + K ≤ 199999 → f_conjoin_35 n (k + K) x1 x2 (Int32.ofNat x3) s = f_conjoin_35 n k x1 x2 (Int32.ofNat (x3 + K)) t) ∧ own_N V d N' U' lo' L' c' t ∧ own_Me N' L' t ∧ own_X N L c N' L' c' ∧ U' ≤ U + C ∧ t.1 30 = Int32.ofNat D ∧ own_low D s t ∧ own_fj s t
def own_PJ (n V d j : Nat) : Prop := ∀ (D N U a b : Nat) (lo : List Nat) (L : Nat → Nat) (c : Nat → Nat → Nat) (s : St), own_N V d N U lo L c s → own_Me N L s → s.1 30 = Int32.ofNat (D + 1) → own_at s D a b 0 → a < N → b < N → V ≤ L a + j → V ≤ L b + j → D + 1 + 4 * j ≤ 60 → U + own_c j ≤ 1900 → own_W n V d D N U (own_c j) (own_k j) L c s
theorem own_pop {n V d D N U a b r C Kb : Nat} {lo : List Nat} {L : Nat → Nat} {c : Nat → Nat → Nat} {s : St} (I : own_N V d N U lo L c s) (Me : own_Me N L s) (hD : s.1 30 = Int32.ofNat (D + 1)) (at' : own_at s D a b 0) (hd : D < 64) (hr : r < 2147483648) (hK : 1 ≤ Kb) (r1 : f_resolve n s (Int32.ofNat a) (Int32.ofNat b) = some (Int32.ofNat r)) : own_W n V d D N U C Kb L c s := by
  have st := own_stepR (n := n) hD hd at' hr r1
  refine ⟨1, N, U, lo, L, c, setI s 30 (Int32.ofNat D), hK, fun k x1 x2 x3 hx => own_it hD hd st k x1 x2 (by omega), own_NF (by rw [setI_1, if_neg (by decide)]) (by rw [setI_1, if_neg (by decide)]) (by rw [setI_1, if_neg (by decide)]) rfl rfl rfl I, own_NX (own_Xr N L c) (fun _ _ _ => rfl) Me, own_Xr N L c, by omega, by rw [setI_1, if_pos (by trivial)], own_lowr D s, ⟨fun j _ h => by rw [setI_1, if_neg h], fun _ _ => rfl⟩⟩
theorem own_many {n V d j : Nat} (P : own_PJ n V d j) (A B : Nat → Nat) : ∀ (p D N U : Nat) (lo : List Nat) (L : Nat → Nat) (c : Nat → Nat → Nat) (s : St), own_N V d N U lo L c s → own_Me N L s → s.1 30 = Int32.ofNat (D + p) → (∀ q, D ≤ q → q < D + p → own_at s q (A q) (B q) 0 ∧ A q < N ∧ B q < N ∧ V ≤ L (A q) + j ∧ V ≤ L (B q) + j) → D + p + 4 * j ≤ 60 → U + p * own_c j ≤ 1900 → own_W n V d D N U (p * own_c j) (p * own_k j) L c s := by
  intro p
  induction p with
  | zero =>
    intro D N U lo L c s I Me hD hq h1 h2
    exact ⟨0, N, U, lo, L, c, s, by omega, fun k x1 x2 x3 _ => rfl, I, Me, own_Xr N L c, by omega, hD, own_lowr D s, own_fjr s⟩
  | succ p ih =>
    intro D N U lo L c s I Me hD hq h1 h2
    obtain ⟨q1, q2, q3, q4, q5⟩ := hq (D + p) (by omega) (by omega)
    rw [Nat.succ_mul] at h2
    obtain ⟨K, N1, U1, lo1, L1, c1, t, e1, e2, e3, e4, e5, e6, e8, e9, e12⟩ := P (D + p) N U (A (D + p)) (B (D + p)) lo L c s I Me hD q1 q2 q3 q4 q5 (by omega) (by omega)
    obtain ⟨K', N2, U2, lo2, L2, c2, u, f1, f2, f3, f4, f5, f6, f8, f9, f12⟩ := ih D N1 U1 lo1 L1 c1 t e3 e4 e8 (fun q g1 g2 => by
      obtain ⟨w1, w2, w3, w4, w5⟩ := hq q g1 (by omega)
      have := e5.1
      exact ⟨own_lowat e9 (by omega) w1, by omega, by omega, by rw [(e5.2 _ w2).1]; exact w4, by rw [(e5.2 _ w3).1]; exact w5⟩) (by omega) (by omega)
    refine ⟨K + K', N2, U2, lo2, L2, c2, u, by rw [Nat.succ_mul]; omega, fun k x1 x2 x3 hx => ?_, f3, f4, own_Xt e5 f5, by rw [Nat.succ_mul]; omega, f8, fun p hp => ?_, own_fjt e12 f12⟩
    · rw [show k + (K + K') = (k + K') + K by omega, e2 _ _ _ _ (by omega), f2 _ _ _ _ (by omega), Nat.add_assoc]
    · exact ⟨(f9 p hp).1.trans (e9 p (by omega)).1, (f9 p hp).2.1.trans (e9 p (by omega)).2.1, (f9 p hp).2.2.trans (e9 p (by omega)).2.2⟩
theorem own_PJall {n V d : Nat} (hn : 5000 ≤ n) : ∀ j, j ≤ 5 → own_PJ n V d j := by
  intro j
  induction j with
  | zero =>
    intro _ D N U a b lo L c s I Me hD at' ha hb hla hlb hd _
    have n20 := I.1.2.2.2.2.1
    have la : a ≤ 1 := by
      by_cases z : 2 ≤ a
      · have := (I.2.2.2.1 a z ha).1; omega
      · omega
    obtain ⟨v, r1, r2⟩ := own_Rs (n := n) hn I Me ha hb
    rcases r2 with ⟨-, r2, -⟩ | ⟨r, r3, rfl, -⟩
    · omega
    · exact own_pop I Me hD at' (by omega) (by omega) (Nat.le_refl _) r1
  | succ j ih =>
    intro hj D N U a b lo L c s I Me hD at' ha hb hla hlb hd hU
    have P := ih (by omega)
    obtain ⟨-, i21, -, n2, n20, v1, v5, d2, d4⟩ := I.1
    obtain ⟨v, r1, r2⟩ := own_Rs (n := n) hn I Me ha hb
    have k1 : own_k (j + 1) = 4 * own_k j + 2 := rfl
    rcases r2 with ⟨rfl, r2, r3⟩ | ⟨r, r3, rfl, -⟩
    · have c1 : own_c (j + 1) = 4 * own_c j + (if j = 0 then 0 else 1) := rfl
      obtain ⟨l, el⟩ : ∃ l, l = min (L a) (L b) := ⟨_, rfl⟩
      have hl : l < V := by have := (I.2.2.2.1 a r2 ha).1; omega
      -- the pair is marked, its children go to the stack
      obtain ⟨s1, es1⟩ : ∃ s1, s1 = setA s 19 D 1 := ⟨_, rfl⟩
      have I1 : own_N V d N U lo L c s1 := own_NF (by rw [es1]; rfl) (by rw [es1]; rfl) (by rw [es1]; rfl) (by rw [es1]; funext x; simp [setA_2]) (by rw [es1]; funext x; simp [setA_2]) (by rw [es1]; funext x; simp [setA_2]) I
      have o1 : ∀ j, j ≠ 19 → s1.2 j = s.2 j := fun j hj => by rw [es1]; funext x; rw [setA_2, if_neg (fun z => hj z.1)]
      have Me1 : own_Me N L s1 := own_NX (own_Xr N L c) (fun j h1 h2 => o1 j (by omega)) Me
      have at1 : own_at s1 D a b 1 := ⟨by rw [o1 17 (by decide)]; exact at'.1, by rw [o1 18 (by decide)]; exact at'.2.1, by rw [es1, setA_2, if_pos ⟨by trivial, by trivial⟩]⟩
      have low1 : own_low D s s1 := fun p hp => ⟨by rw [o1 17 (by decide)], by rw [o1 18 (by decide)], by rw [es1, setA_2, if_neg (fun z => by omega)]⟩
      obtain ⟨s2, p, A, B, t1, t2, t3, t4, t5, t6, t8, t9⟩ := own_pc (n := n) (a := a) (b := b) (l := l) hn ha hb hl (by omega) (by omega) d 0 n (D + 1) s1 I1 Me1 (by omega) (by omega) (by rw [es1]; exact hD) (by omega)
      have st1 : f_step n s = some s2 := by
        unfold f_step
        rw [hD, own_pred, grd_pos (inbN (by omega) (by omega)), ix_N (by omega), at'.2.2, if_pos rfl, at'.1, at'.2.1, r1, Option.bind_some, if_pos (by decide), bnd_eq, ← es1]
        unfold f_pushChildren
        rw [own_top I1 ha hb, Option.bind_some, ← el, show (0 : Int32) = Int32.ofNat 0 from rfl, t1, Option.bind_some]
      have hpc : p * own_c j ≤ 4 * own_c j := Nat.mul_le_mul_right (own_c j) (by omega)
      have hpk : p * own_k j ≤ 4 * own_k j := Nat.mul_le_mul_right (own_k j) (by omega)
      -- the children
      obtain ⟨K, N3, U3, lo3, L3, c3, s3, e1, e2, e3, e4, e5, e6, e8, e9, e12⟩ := own_many P A B p (D + 1) N U lo L c s2 t2 t3 t5 (fun q g1 g2 => by
        obtain ⟨w1, w2, w3, w4, w5⟩ := t9 q g1 g2
        exact ⟨w1, w2, w3, by omega, by omega⟩) (by omega) (by omega)
      -- the pair's end
      have at3 : own_at s3 D a b 1 := own_lowat e9 (by omega) (own_lowat t6 (by omega) at1)
      have hN3 := e5.1
      have La3 : L3 a = L a := (e5.2 a ha).1
      have Lb3 : L3 b = L b := (e5.2 b hb).1
      obtain ⟨s4, es4⟩ : ∃ s4, s4 = setI s3 30 (Int32.ofNat D) := ⟨_, rfl⟩
      have I4 : own_N V d N3 U3 lo3 L3 c3 s4 := own_NF (by rw [es4, setI_1, if_neg (by decide)]) (by rw [es4, setI_1, if_neg (by decide)]) (by rw [es4, setI_1, if_neg (by decide)]) (by rw [es4]; rfl) (by rw [es4]; rfl) (by rw [es4]; rfl) e3
      have Me4 : own_Me N3 L3 s4 := own_NX (own_Xr N3 L3 c3) (fun _ _ _ => by rw [es4]; rfl) e4
      obtain ⟨N5, U5, lo5, L5, c5, s5, f1, f2, f3, f4, f5, f8, f9⟩ := own_fp (n := n) (a := a) (b := b) (l := l) hn I4 (by omega) Me4 (by omega) (by omega) (by rw [La3, Lb3]; exact el) hl
      have st3 : f_step n s3 = some s5 := by
        unfold f_step
        rw [e8, own_pred, grd_pos (inbN (by omega) (by omega)), ix_N (by omega), at3.2.2, if_neg (by decide), at3.1, at3.2.1, bnd_eq, ← es4, f1, Option.bind_some]
      have inc : (if l + 1 < V then 1 else 0) ≤ (if j = 0 then 0 else 1) := by
        by_cases q : j = 0
        · rw [if_neg (by omega)]; exact Nat.zero_le _
        · rw [if_neg q]; split <;> omega
      refine ⟨1 + K + 1, N5, U5, lo5, L5, c5, s5, by omega, fun k x1 x2 x3 hx => ?_, f2, f3, own_Xt e5 f4, by omega, by rw [f8 30 (by decide), es4, setI_1, if_pos (by trivial)], fun p hp => ?_, ⟨fun j h22 h30 => ?_, fun j hj => ?_⟩⟩
      · rw [show k + (1 + K + 1) = (k + 1 + K) + 1 by omega, own_it hD (by omega) st1 _ x1 x2 (by omega), e2 _ _ _ _ (by omega), own_it e8 (by omega) st3 _ x1 x2 (by omega)]
        rw [show x3 + 1 + K + 1 = x3 + (1 + K + 1) by omega]
      · have g4 : own_low D s3 s5 := fun p hp => by rw [f9 17 (by omega), f9 18 (by omega), f9 19 (by omega), es4]; exact ⟨rfl, rfl, rfl⟩
        exact own_lowt (own_lowt (own_lowt low1 t6 (by omega)) e9 (by omega)) g4 (by omega) p hp
      · rw [f8 j h22, es4, setI_1, if_neg h30, e12.1 j h22 h30, t8.1 j h22 h30, es1]; rfl
      · rw [f9 j (by omega), es4, setI_2, e12.2 j hj, t8.2 j hj, o1 j (by omega)]
    · exact own_pop I Me hD at' (by omega) (by omega) (by omega) r1
theorem own_cj {n V d N U a b : Nat} {lo : List Nat} {L : Nat → Nat} {c : Nat → Nat → Nat} {s : St} (hn : 5000 ≤ n) (I : own_N V d N U lo L c s) (hU : U ≤ 1800) (ha : a < N) (hb : b < N) :
    ∃ r N' U' lo' L' c' t, f_conjoin n (Int32.ofNat a) (Int32.ofNat b) s = some (Int32.ofNat r, t) ∧ own_N V d N' U' lo' L' c' t ∧ own_X N L c N' L' c' ∧ U' ≤ U + (if b = 0 then 0 else 85) ∧ r < N' ∧ own_fj s t := by
  have c1 : f_conjoin n (Int32.ofNat a) (Int32.ofNat b) s = (fun t => bnd (setI t 30 (0 : Int32)) fun s4 => (f_push (Int32.ofNat a) (Int32.ofNat b) s4).bind fun q5 => f_conjoin_35 n n (Int32.ofNat a) (Int32.ofNat b) (0 : Int32) q5) (s.1, fun k x => if k = 16 ∧ x < 1024 then 0 else s.2 k x) := by
    have q := loopN (F := fun k i s => f_conjoin_2 n k (Int32.ofNat a) (Int32.ofNat b) i s) (N := 1024) (f := fun i s => setA s 16 i (0 &&& 1)) (fin := fun t => bnd (setI t 30 (0 : Int32)) fun s4 => (f_push (Int32.ofNat a) (Int32.ofNat b) s4).bind fun q5 => f_conjoin_35 n n (Int32.ofNat a) (Int32.ofNat b) (0 : Int32) q5)
      (fun k i s hi => by
        show f_conjoin_2 n (k + 1) (Int32.ofNat a) (Int32.ofNat b) (Int32.ofNat i) s = _
        rw [u_conjoin_2, if_pos (ltZ (z := 1024) 1024 rfl hi (by omega)), grd_pos (inbN (n := 1024) hi (by omega)), bnd_eq, ix_N (by omega)])
      (fun k s => by
        show f_conjoin_2 n (k + 1) (Int32.ofNat a) (Int32.ofNat b) (Int32.ofNat 1024) s = _
        rw [u_conjoin_2, if_neg (by decide)]) 1024 0 n s (by omega) (by omega)
    rw [itr_fill] at q
    exact q
  obtain ⟨s0, e0⟩ : ∃ s0 : St, s0 = setI (s.1, fun k x => if k = 16 ∧ x < 1024 then 0 else s.2 k x) 30 0 := ⟨_, rfl⟩
  have z1 : ∀ j, j ≠ 30 → s0.1 j = s.1 j := fun j hj => by rw [e0, setI_1, if_neg hj]
  have z30 : s0.1 30 = Int32.ofNat 0 := by rw [e0, setI_1, if_pos (by trivial)]; rfl
  have z2 : ∀ j, j ≠ 16 → s0.2 j = s.2 j := fun j hj => by rw [e0, setI_2]; funext x; show (if j = 16 ∧ x < 1024 then 0 else s.2 j x) = _; rw [if_neg (fun z => hj z.1)]
  have z3 : ∀ h, h < 1024 → s0.2 16 h = 0 := fun h hh => by rw [e0, setI_2]; show (if 16 = 16 ∧ h < 1024 then 0 else s.2 16 h) = _; rw [if_pos ⟨rfl, hh⟩]
  rw [c1]
  show ∃ r N' U' lo' L' c' t, (bnd (setI (s.1, fun k x => if k = 16 ∧ x < 1024 then 0 else s.2 k x) 30 (0 : Int32)) fun s4 => (f_push (Int32.ofNat a) (Int32.ofNat b) s4).bind fun q5 => f_conjoin_35 n n (Int32.ofNat a) (Int32.ofNat b) (0 : Int32) q5) = some (Int32.ofNat r, t) ∧ _
  rw [bnd_eq, ← e0]
  clear c1 e0
  have I0 : own_N V d N U lo L c s0 := own_NF (z1 20 (by decide)) (z1 21 (by decide)) (z1 22 (by decide)) (z2 5 (by decide)) (z2 6 (by decide)) (z2 7 (by decide)) I
  have Me0 : own_Me N L s0 := fun h hh hu => absurd (z3 h hh) hu
  obtain ⟨s1, u1, u2, u3, u4, u5, u6⟩ := own_push (a := a) (b := b) z30 (by omega)
  rw [u1, Option.bind_some]
  have I1 : own_N V d N U lo L c s1 := own_NF (u3 20 (by decide)) (u3 21 (by decide)) (u3 22 (by decide)) (u4 5 (by omega)) (u4 6 (by omega)) (u4 7 (by omega)) I0
  have Me1 : own_Me N L s1 := own_NX (own_Xr N L c) (fun j h1 h2 => u4 j (by omega)) Me0
  have c5 : own_c 5 = 85 := rfl
  have k5 : own_k 5 = 1706 := rfl
  obtain ⟨-, i21, -, n2, n20, v1, v5, d2, d4⟩ := I.1
  have W : own_W n V d 0 N U (if b = 0 then 0 else 85) 1706 L c s1 := by
    by_cases q : b = 0
    · have r1 : f_resolve n s1 (Int32.ofNat a) (Int32.ofNat b) = some (Int32.ofNat 0) := by
        unfold f_resolve
        by_cases q1 : Int32.ofNat a = 0
        · rw [if_pos q1]; rfl
        · rw [if_neg q1, if_pos (by rw [q]; rfl)]; rfl
      exact own_pop I1 Me1 u2 u6 (by omega) (by omega) (by omega) r1
    · rw [if_neg q]
      have := own_PJall (n := n) (V := V) (d := d) hn 5 (by omega) 0 N U a b lo L c s1 I1 Me1 u2 u6 ha hb (by omega) (by omega) (by omega) (by omega)
      rw [c5, k5] at this
      exact this
  obtain ⟨K, N', U', lo', L', c', t, e1, e2, e3, e4, e5, e6, e8, e9, e12⟩ := W
  have hN' := e5.1
  obtain ⟨v, r1, r2⟩ := own_Rs (n := n) hn e3 e4 (a := a) (b := b) (by omega) (by omega)
  have n20' := e3.1.2.2.2.2.1
  obtain ⟨r, fin, r5⟩ : ∃ r, f_conjoin_35 n n (Int32.ofNat a) (Int32.ofNat b) 0 s1 = some (Int32.ofNat r, t) ∧ r < N' := by
    obtain ⟨k, ek⟩ : ∃ k, n = (k + 1) + K := ⟨n - K - 1, by omega⟩
    have := e2 (k + 1) (Int32.ofNat a) (Int32.ofNat b) 0 (by omega)
    rw [← ek] at this
    rw [show (0 : Int32) = Int32.ofNat 0 from rfl, this, u_conjoin_35, if_pos (ltZ (z := 200000) 200000 rfl (by omega) (by omega)), e8, if_neg (by decide)]
    unfold f_conjoin_58
    rw [r1, Option.bind_some]
    rcases r2 with ⟨rfl, -, -⟩ | ⟨r, r3, rfl, -⟩
    · rw [if_pos (by decide)]; exact ⟨0, rfl, by omega⟩
    · rw [if_neg (N_neg (by omega))]; exact ⟨r, rfl, r3⟩
  refine ⟨r, N', U', lo', L', c', t, fin, e3, e5, e6, r5, fun j h22 h30 => ?_, fun j hj => ?_⟩
  · rw [e12.1 j h22 h30, u3 j h30, z1 j h30]
  · rw [e12.2 j hj, u4 j (by omega), z2 j (by omega)]

/-! ### counting -/
def own_s : Nat → (Nat → Nat) → Nat
  | 0, _ => 0
  | k + 1, f => own_s k f + f k
theorem own_sc2 {f g : Nat → Nat} : ∀ k, (∀ v, v < k → f v = g v) → own_s k f = own_s k g
  | 0, _ => rfl
  | k + 1, h => by
    show own_s k f + f k = own_s k g + g k
    rw [own_sc2 k (fun v hv => h v (by omega)), h k (by omega)]
theorem own_sadd {f g : Nat → Nat} : ∀ k, own_s k (fun v => f v + g v) = own_s k f + own_s k g
  | 0 => rfl
  | k + 1 => by
    show own_s k (fun v => f v + g v) + (f k + g k) = (own_s k f + f k) + (own_s k g + g k)
    rw [own_sadd k]; omega
theorem own_s0 : ∀ k, own_s k (fun _ => 0) = 0
  | 0 => rfl
  | k + 1 => by
    show own_s k (fun _ => 0) + 0 = 0
    rw [own_s0 k]
theorem own_sswap {f : Nat → Nat → Nat} (d : Nat) : ∀ k, own_s k (fun v => own_s d (fun x => f v x)) = own_s d (fun x => own_s k (fun v => f v x))
  | 0 => (own_s0 d).symm
  | k + 1 => by
    show own_s k (fun v => own_s d (fun x => f v x)) + own_s d (fun x => f k x) = own_s d (fun x => own_s k (fun v => f v x) + f k x)
    rw [own_sadd, own_sswap d k]
theorem own_sone {f : Nat → Nat} {x : Nat} : ∀ k, own_s k (fun v => if v = x then f v else 0) = if x < k then f x else 0
  | 0 => rfl
  | k + 1 => by
    show own_s k (fun v => if v = x then f v else 0) + (if k = x then f k else 0) = _
    rw [own_sone k]
    by_cases q : x < k
    · rw [if_pos q, if_neg (by omega), if_pos (by omega)]; rfl
    · rw [if_neg q]
      by_cases e : k = x
      · rw [if_pos e, if_pos (by omega), e]; omega
      · rw [if_neg e, if_neg (by omega)]
theorem own_sle {f : Nat → Nat} {B : Nat} : ∀ k, (∀ v, v < k → f v ≤ B) → own_s k f ≤ k * B
  | 0, _ => Nat.zero_le _
  | k + 1, h => by
    show own_s k f + f k ≤ (k + 1) * B
    have h1 := own_sle k (fun v hv => h v (by omega))
    have h2 := h k (by omega)
    rw [Nat.succ_mul]; omega
theorem own_sconst (X : Nat) : ∀ k, own_s k (fun _ => X) = k * X
  | 0 => by rw [Nat.zero_mul]; rfl
  | k + 1 => by
    show own_s k (fun _ => X) + X = _
    rw [own_sconst X k, Nat.succ_mul]
/-- the values that the fixed choices allow at a level -/
def own_ok (F : Nat → Int32) (l v : Nat) : Bool := decide (F l < 0) || decide (F l = Int32.ofNat v)
theorem own_okE {F : Nat → Int32} {l v : Nat} : own_ok F l v = true ↔ F l < 0 ∨ F l = Int32.ofNat v := by
  unfold own_ok
  simp only [Bool.or_eq_true, decide_eq_true_eq]
def own_fix (V d : Nat) (F : Nat → Int32) : Prop := ∀ l, l < V → F l < 0 ∨ ∃ x, x < d ∧ F l = Int32.ofNat x
def own_T (V d : Nat) (L : Nat → Nat) (c : Nat → Nat → Nat) (F : Nat → Int32) : Nat → Nat → Nat
  | 0, i => if i = 1 then 1 else 0
  | m + 1, i => own_s d (fun v => if own_ok F (V - (m + 1)) v = true then own_T V d L c F m (own_cf L c (V - (m + 1)) i v) else 0)
def own_gn (d : Nat) (F : Nat → Int32) : Nat → Nat → Nat
  | _, 0 => 1
  | a, m + 1 => (if F a < 0 then d else 1) * own_gn d F (a + 1) m
def own_up (F : Nat → Int32) (p : Nat) (x : Int32) : Nat → Int32 := fun l => if l = p then x else F l
section
variable {V d : Nat} {L : Nat → Nat} {c : Nat → Nat → Nat} {F : Nat → Int32}
theorem own_TE (m i : Nat) : own_T V d L c F (m + 1) i = own_s d (fun v => if own_ok F (V - (m + 1)) v = true then own_T V d L c F m (own_cf L c (V - (m + 1)) i v) else 0) := rfl
theorem own_Tle (hd : d ≤ 4) : ∀ m i, own_T V d L c F m i ≤ 4 ^ m
  | 0, i => by show (if i = 1 then 1 else 0) ≤ 1; split <;> omega
  | m + 1, i => by
    rw [own_TE]
    have h := own_sle (f := fun v => if own_ok F (V - (m + 1)) v = true then own_T V d L c F m (own_cf L c (V - (m + 1)) i v) else 0) (B := 4 ^ m) d (fun v _ => by
      show (if own_ok F (V - (m + 1)) v = true then own_T V d L c F m (own_cf L c (V - (m + 1)) i v) else 0) ≤ 4 ^ m
      split
      · exact own_Tle hd m _
      · exact Nat.zero_le _)
    refine Nat.le_trans h ?_
    rw [Nat.pow_succ, Nat.mul_comm]
    exact Nat.mul_le_mul_left _ hd
theorem own_Tc {F' : Nat → Int32} : ∀ m, m ≤ V → (∀ l, V - m ≤ l → l < V → F l = F' l) → ∀ i, own_T V d L c F m i = own_T V d L c F' m i
  | 0, _, _, _ => rfl
  | m + 1, hm, h, i => by
    rw [own_TE, own_TE]
    refine own_sc2 d (fun v _ => ?_)
    have e : own_ok F (V - (m + 1)) v = own_ok F' (V - (m + 1)) v := by unfold own_ok; rw [h (V - (m + 1)) (Nat.le_refl _) (by omega)]
    rw [e, own_Tc m (by omega) (fun l h1 h2 => h l (by omega) h2)]
theorem own_wE (hd4 : d ≤ 4) (hF : own_fix V d F) {l : Nat} (hl : l < V) (X : Nat) : own_s d (fun v => if own_ok F l v = true then X else 0) = (if F l < 0 then d else 1) * X := by
  by_cases q : F l < 0
  · rw [if_pos q, ← own_sconst X d]
    exact own_sc2 d (fun v _ => by rw [if_pos (own_okE.mpr (Or.inl q))])
  · rcases hF l hl with w | ⟨x, x1, x2⟩
    · exact absurd w q
    · rw [if_neg q, Nat.one_mul]
      have : own_s d (fun v => if own_ok F l v = true then X else 0) = own_s d (fun v => if v = x then X else 0) := own_sc2 d (fun v hv => by
        by_cases e : v = x
        · rw [if_pos e, if_pos (own_okE.mpr (Or.inr (by rw [e]; exact x2)))]
        · rw [if_neg e, if_neg (fun w => by
            rcases own_okE.mp w with w | w
            · exact q w
            · rw [x2] at w; exact e ((N_inj (by omega) (by omega)).mp w).symm)])
      rw [this, own_sone (f := fun _ => X), if_pos x1]
theorem own_skip (hd4 : d ≤ 4) (hF : own_fix V d F) {i : Nat} : ∀ m l, l + m = L i → L i ≤ V → own_T V d L c F (V - l) i = own_gn d F l m * own_T V d L c F (V - L i) i
  | 0, l, h, _ => by
    show _ = 1 * _
    rw [Nat.one_mul, show l = L i by omega]
  | m + 1, l, h, hV => by
    obtain ⟨q, hq⟩ : ∃ q, V - l = q + 1 := ⟨V - l - 1, by omega⟩
    have ih := own_skip hd4 hF m (l + 1) (by omega) hV
    show _ = ((if F l < 0 then d else 1) * own_gn d F (l + 1) m) * _
    rw [hq, own_TE, show V - (q + 1) = l by omega]
    have : own_s d (fun v => if own_ok F l v = true then own_T V d L c F q (own_cf L c l i v) else 0) = own_s d (fun v => if own_ok F l v = true then own_T V d L c F q i else 0) := own_sc2 d (fun v _ => by
      rw [show own_cf L c l i v = i from if_neg (by omega)])
    rw [this, own_wE hd4 hF (by omega), show q = V - (l + 1) by omega, ih, Nat.mul_assoc]
theorem own_split (hd4 : d ≤ 4) {p : Nat} (hp : p < V) (hF : F p < 0) : ∀ m, m ≤ V → V - m ≤ p → ∀ i, own_T V d L c F m i = own_s d (fun x => own_T V d L c (own_up F p (Int32.ofNat x)) m i)
  | 0, _, h, _ => by omega
  | m + 1, hm, h, i => by
    rw [own_TE]
    have upn : ∀ x l, l ≠ p → own_up F p x l = F l := fun x l hl => by unfold own_up; rw [if_neg hl]
    have upp : ∀ x, own_up F p x p = x := fun x => by unfold own_up; rw [if_pos rfl]
    by_cases e : V - (m + 1) = p
    · rw [e]
      refine own_sc2 d (fun x hx => ?_)
      rw [if_pos (own_okE.mpr (Or.inl hF)), own_TE, e]
      have : own_s d (fun v => if own_ok (own_up F p (Int32.ofNat x)) p v = true then own_T V d L c (own_up F p (Int32.ofNat x)) m (own_cf L c p i v) else 0) = own_s d (fun v => if v = x then own_T V d L c (own_up F p (Int32.ofNat x)) m (own_cf L c p i v) else 0) := own_sc2 d (fun v hv => by
        by_cases e : v = x
        · rw [if_pos e, if_pos (own_okE.mpr (Or.inr (by rw [upp, e])))]
        · rw [if_neg e, if_neg (fun w => by
            rcases own_okE.mp w with w | w
            · rw [upp] at w; exact N_neg (by omega) w
            · rw [upp] at w; exact e ((N_inj (by omega) (by omega)).mp w).symm)])
      rw [this, own_sone (f := fun v => own_T V d L c (own_up F p (Int32.ofNat x)) m (own_cf L c p i v)), if_pos hx]
      exact own_Tc m (by omega) (fun l h1 h2 => (upn _ l (by omega)).symm) _
    · have : ∀ x, own_T V d L c (own_up F p (Int32.ofNat x)) (m + 1) i = own_s d (fun v => if own_ok F (V - (m + 1)) v = true then own_T V d L c (own_up F p (Int32.ofNat x)) m (own_cf L c (V - (m + 1)) i v) else 0) := fun x => by
        rw [own_TE]
        refine own_sc2 d (fun v _ => ?_)
        have : own_ok (own_up F p (Int32.ofNat x)) (V - (m + 1)) v = own_ok F (V - (m + 1)) v := by unfold own_ok; rw [upn _ _ e]
        rw [this]
      rw [own_sc2 (f := fun x => own_T V d L c (own_up F p (Int32.ofNat x)) (m + 1) i) d (fun x _ => this x), ← own_sswap d d]
      refine own_sc2 d (fun v _ => ?_)
      by_cases q : own_ok F (V - (m + 1)) v = true
      · rw [if_pos q, own_split hd4 hp hF m (by omega) (by omega)]
        exact own_sc2 d (fun x _ => by rw [if_pos q])
      · rw [if_neg q]
        refine ((own_sc2 d (fun x _ => ?_)).trans (own_s0 d)).symm
        rw [if_neg q]
end
section
variable {V d N U n : Nat} {lo : List Nat} {L : Nat → Nat} {c : Nat → Nat → Nat} {s : St}
theorem own_gap5 (h21 : s.1 21 = Int32.ofNat d) {b : Nat} (hb : b ≤ 5) : ∀ (m a q k : Nat), a + m = b → m < k → f_gap_5 n s k (Int32.ofNat b) (Int32.ofNat q) (Int32.ofNat a) = some (Int32.ofNat (q * own_gn d (s.2 3) a m)) := by
  intro m
  induction m with
  | zero =>
    intro a q k ha hk
    obtain ⟨k, rfl⟩ : ∃ k', k = k' + 1 := ⟨k - 1, by omega⟩
    rw [u_gap_5, if_neg (own_nlt (by omega) (by omega))]
    show _ = some (Int32.ofNat (q * 1))
    rw [Nat.mul_one]
  | succ m ih =>
    intro a q k ha hk
    obtain ⟨k, rfl⟩ : ∃ k', k = k' + 1 := ⟨k - 1, by omega⟩
    show _ = some (Int32.ofNat (q * ((if s.2 3 a < 0 then d else 1) * own_gn d (s.2 3) (a + 1) m)))
    rw [u_gap_5, if_pos (ltN (by omega) (by omega)), if_pos (ltZ (z := 5) 5 rfl (by omega) (by omega)), grd_pos (inbN (by omega) (by omega)), ix_N (by omega), h21, N_mul, N_succ]
    by_cases z : s.2 3 a < 0
    · rw [if_pos z, if_pos z, ih (a + 1) (q * d) k (by omega) (by omega), Nat.mul_assoc]
    · rw [if_neg z, if_neg z, ih (a + 1) q k (by omega) (by omega), Nat.one_mul]
theorem own_gap (hn : 10 ≤ n) (h21 : s.1 21 = Int32.ofNat d) {a b : Nat} (hab : a ≤ b) (hb : b ≤ 5) : f_gap n s (Int32.ofNat a) (Int32.ofNat b) = some (Int32.ofNat (own_gn d (s.2 3) a (b - a))) := by
  unfold f_gap
  have := own_gap5 (n := n) (s := s) h21 hb (b - a) a 1 n (by omega) (by omega)
  rw [Nat.one_mul] at this
  exact this
theorem own_node (hn : 5000 ≤ n) (I : own_N V d N U lo L c s) (hF : own_fix V d (s.2 3)) {i : Nat} (h2 : 2 ≤ i) (hi : i < N) (hc : ∀ j, j < i → s.2 10 j = Int32.ofNat (own_T V d L c (s.2 3) (V - L j) j)) :
    f_nodeCount n s (Int32.ofNat i) = some (Int32.ofNat (own_T V d L c (s.2 3) (V - L i) i)) := by
  obtain ⟨-, i21, -, n2, n20, v1, v5, d2, d4⟩ := I.1
  obtain ⟨k1, k2⟩ := I.2.2.2.1 i h2 hi
  obtain ⟨q, hq⟩ : ∃ q, V - L i = q + 1 := ⟨V - L i - 1, by omega⟩
  have term : ∀ v, v < d → own_T V d L c (s.2 3) q (own_cf L c (L i) i v) = own_T V d L c (s.2 3) (V - L (c i v)) (c i v) * own_gn d (s.2 3) (L i + 1) (L (c i v) - (L i + 1)) := fun v hv => by
    obtain ⟨c1, c2, c3⟩ := k2 v (by omega)
    have lv := (I.2.1 (c i v) (by omega)).2
    unfold own_cf
    rw [if_pos rfl, show q = V - (L i + 1) by omega, own_skip d4 hF (L (c i v) - (L i + 1)) (L i + 1) (by omega) lv, Nat.mul_comm]
  have lp : ∀ (m v k q' : Nat), v + m = d → m < k → q' = own_s v (fun v => if own_ok (s.2 3) (L i) v = true then own_T V d L c (s.2 3) q (own_cf L c (L i) i v) else 0) → f_nodeCount_23 n s k (Int32.ofNat i) (Int32.ofNat (L i)) (Int32.ofNat q') (Int32.ofNat v) = some (Int32.ofNat (own_s d (fun v => if own_ok (s.2 3) (L i) v = true then own_T V d L c (s.2 3) q (own_cf L c (L i) i v) else 0))) := by
    intro m
    induction m with
    | zero =>
      intro v k q' hv hk e
      obtain ⟨k, rfl⟩ : ∃ k', k = k' + 1 := ⟨k - 1, by omega⟩
      rw [u_nodeCount_23, i21, if_neg (own_nlt (by omega) (by omega)), e, show v = d by omega]
    | succ m ih =>
      intro v k q' hv hk e
      obtain ⟨k, rfl⟩ : ∃ k', k = k' + 1 := ⟨k - 1, by omega⟩
      obtain ⟨c1, c2, c3⟩ := k2 v (by omega)
      have lv := (I.2.1 (c i v) (by omega)).2
      have tk : own_ok (s.2 3) (L i) v = true → f_nodeCount_55 n s (f_nodeCount_23 n s k) (Int32.ofNat i) (Int32.ofNat (L i)) (Int32.ofNat q') (Int32.ofNat v) = some (Int32.ofNat (own_s d (fun v => if own_ok (s.2 3) (L i) v = true then own_T V d L c (s.2 3) q (own_cf L c (L i) i v) else 0))) := fun ok => by
        unfold f_nodeCount_55
        rw [show (4 : Int32) = Int32.ofNat 4 from rfl, N_mul, N_add, grd_pos (inbN (by omega) (by omega)), bnd_eq, ix_N (by omega), show i * 4 + v = 4 * i + v by omega, c1, if_neg (N_neg (by omega)), if_pos (ltN c2 (by omega)), grd_pos (inbN (by omega) (by omega)), ix_N (by omega), (I.2.1 (c i v) (by omega)).1, N_succ, own_gap (by omega) i21 (by omega) (by omega), Option.bind_some, bnd_eq, hc (c i v) c2, N_mul, N_add, N_succ]
        refine ih (v + 1) k _ (by omega) (by omega) ?_
        show _ = own_s v _ + (if own_ok (s.2 3) (L i) v = true then own_T V d L c (s.2 3) q (own_cf L c (L i) i v) else 0)
        rw [← e, if_pos ok, term v (by omega)]
      rw [u_nodeCount_23, i21, if_pos (ltN (by omega) (by omega)), grd_pos (inbN (by omega) (by omega)), ix_N (by omega)]
      by_cases z : s.2 3 (L i) < 0
      · rw [if_pos z]; exact tk (own_okE.mpr (Or.inl z))
      · rw [if_neg z]
        by_cases z2 : s.2 3 (L i) = Int32.ofNat v
        · rw [if_pos z2]; exact tk (own_okE.mpr (Or.inr z2))
        · rw [if_neg z2, N_succ]
          refine ih (v + 1) k _ (by omega) (by omega) ?_
          show _ = own_s v _ + (if own_ok (s.2 3) (L i) v = true then own_T V d L c (s.2 3) q (own_cf L c (L i) i v) else 0)
          rw [← e, if_neg (fun w => by
            rcases own_okE.mp w with w | w
            · exact z w
            · exact z2 w), Nat.add_zero]
  have := lp d 0 n 0 (by omega) (by omega) rfl
  unfold f_nodeCount
  rw [grd_pos (inbN (by omega) (by omega)), ix_N (by omega), (I.2.1 i hi).1, if_neg (N_neg (by omega)), if_pos (ltZ (z := 5) 5 rfl (by omega) (by omega)), hq, own_TE, show V - (q + 1) = L i by omega]
  exact this
theorem own_cF (hn : 5000 ≤ n) (I : own_N V d N U lo L c s) (hF : own_fix V d (s.2 3)) {K r : Nat} (hK : K ≤ 8) (h23 : s.1 23 = Int32.ofNat K) (h0 : s.2 0 K = Int32.ofNat r) (hr : r < N) :
    ∃ t, f_countFixed n s = some (Int32.ofNat (own_T V d L c (s.2 3) V r), t) ∧ t.1 = s.1 ∧ (∀ j, j ≠ 10 → t.2 j = s.2 j) := by
  obtain ⟨-, i21, -, n2, n20, v1, v5, d2, d4⟩ := I.1
  have lr := (I.2.1 r hr).2
  have fin : ∀ t : St, t.1 = s.1 → (∀ j, j ≠ 10 → t.2 j = s.2 j) → t.2 10 r = Int32.ofNat (own_T V d L c (s.2 3) (V - L r) r) → f_countFixed_55 n (Int32.ofNat r) t = some (Int32.ofNat (own_T V d L c (s.2 3) V r), t) := fun t t1 t2 t3 => by
    unfold f_countFixed_55
    rw [grd_pos (inbN (by omega) (by omega)), ix_N (by omega), t2 5 (by decide), (I.2.1 r hr).1, show (0 : Int32) = Int32.ofNat 0 from rfl, own_gap (s := t) (d := d) (by omega) (by rw [t1]; exact i21) (by omega) (by omega), Option.bind_some, t3, N_mul, t2 3 (by decide)]
    have := own_skip (c := c) d4 hF (i := r) (L r) 0 (by omega) lr
    rw [Nat.sub_zero] at this
    rw [this, Nat.sub_zero, Nat.mul_comm]
  have lp : ∀ (m i k : Nat) (t : St), i + m = max (r + 1) 2 → 2 ≤ i → m < k → t.1 = s.1 → (∀ j, j ≠ 10 → t.2 j = s.2 j) → (∀ j, j < i → t.2 10 j = Int32.ofNat (own_T V d L c (s.2 3) (V - L j) j)) → ∃ t', f_countFixed_26 n k (Int32.ofNat r) (Int32.ofNat i) t = some (Int32.ofNat (own_T V d L c (s.2 3) V r), t') ∧ t'.1 = s.1 ∧ (∀ j, j ≠ 10 → t'.2 j = s.2 j) := by
    intro m
    induction m with
    | zero =>
      intro i k t hi h2 hk t1 t2 t3
      obtain ⟨k, rfl⟩ : ∃ k', k = k' + 1 := ⟨k - 1, by omega⟩
      rw [u_countFixed_26, if_pos (ltN (by omega) (by omega)), fin t t1 t2 (t3 r (by omega))]
      exact ⟨t, rfl, t1, t2⟩
    | succ m ih =>
      intro i k t hi h2 hk t1 t2 t3
      obtain ⟨k, rfl⟩ : ∃ k', k = k' + 1 := ⟨k - 1, by omega⟩
      have It : own_N V d N U lo L c t := own_NF (by rw [t1]) (by rw [t1]) (by rw [t1]) (t2 5 (by decide)) (t2 6 (by decide)) (t2 7 (by decide)) I
      have nd := own_node (n := n) (s := t) hn It (by rw [t2 3 (by decide)]; exact hF) (i := i) h2 (by omega) (by rw [t2 3 (by decide)]; exact t3)
      rw [t2 3 (by decide)] at nd
      rw [u_countFixed_26, if_neg (own_nlt (by omega) (by omega)), if_pos (ltZ (z := 2048) 2048 rfl (by omega) (by omega)), nd, Option.bind_some, grd_pos (inbN (by omega) (by omega)), bnd_eq, ix_N (by omega), N_succ]
      refine ih (i + 1) k _ (by omega) (by omega) (by omega) t1 (fun j hj => by funext x; rw [setA_2, if_neg (fun w => hj w.1), t2 j hj]) (fun j hj => ?_)
      rw [setA_2]
      by_cases e : j = i
      · rw [if_pos ⟨by trivial, e⟩, e]
      · rw [if_neg (fun w => e w.2)]; exact t3 j (by omega)
  unfold f_countFixed
  rw [h23, grd_pos (inbN (by omega) (by omega)), bnd_eq, bnd_eq, ix_N (by omega), h0, show ix (0 : Int32) = 0 from rfl, show ix (1 : Int32) = 1 from rfl]
  obtain ⟨l0, l1⟩ := I.2.2.1
  exact lp (max (r + 1) 2 - 2) 2 n _ (by omega) (by omega) (by omega) rfl (fun j hj => by funext x; rw [setA_2, if_neg (fun w => hj w.1), setA_2, if_neg (fun w => hj w.1)]) (fun j hj => by
    rw [setA_2, setA_2]
    match j, hj with
    | 0, _ => rw [if_neg (fun w => by omega), if_pos ⟨by trivial, by trivial⟩, l0, Nat.sub_self]; rfl
    | 1, _ => rw [if_pos ⟨by trivial, by trivial⟩, l1, Nat.sub_self]; rfl)
theorem own_lc (hn : 10 ≤ n) (s : St) : ∃ t, f_loadChoices n s = some t ∧ t.1 = s.1 ∧ (∀ j, j ≠ 3 → t.2 j = s.2 j) ∧ ∀ x, t.2 3 x = if x < 5 then s.2 2 x else s.2 3 x := by
  have lp : ∀ (m i k : Nat) (t : St), i + m = 5 → m < k → t.1 = s.1 → (∀ j, j ≠ 3 → t.2 j = s.2 j) → (∀ x, t.2 3 x = if x < i then s.2 2 x else s.2 3 x) → ∃ t', f_loadChoices_2 n k (Int32.ofNat i) t = some t' ∧ t'.1 = s.1 ∧ (∀ j, j ≠ 3 → t'.2 j = s.2 j) ∧ ∀ x, t'.2 3 x = if x < 5 then s.2 2 x else s.2 3 x := by
    intro m
    induction m with
    | zero =>
      intro i k t hi hk t1 t2 t3
      obtain ⟨k, rfl⟩ : ∃ k', k = k' + 1 := ⟨k - 1, by omega⟩
      rw [u_loadChoices_2, if_neg (by rw [show i = 5 by omega]; decide)]
      exact ⟨t, rfl, t1, t2, fun x => by rw [t3, show i = 5 by omega]⟩
    | succ m ih =>
      intro i k t hi hk t1 t2 t3
      obtain ⟨k, rfl⟩ : ∃ k', k = k' + 1 := ⟨k - 1, by omega⟩
      rw [u_loadChoices_2, if_pos (ltZ (z := 5) 5 rfl (by omega) (by omega)), grd_pos (inbN (by omega) (by omega)), bnd_eq, ix_N (by omega), N_succ]
      refine ih (i + 1) k _ (by omega) (by omega) t1 (fun j hj => by funext x; rw [setA_2, if_neg (fun w => hj w.1), t2 j hj]) (fun x => ?_)
      rw [setA_2, t2 2 (by decide), t3]
      by_cases e : x = i
      · rw [if_pos ⟨by trivial, e⟩, if_pos (by omega), e]
      · rw [if_neg (fun w => e w.2)]
        by_cases q : x < i
        · rw [if_pos q, if_pos (by omega)]
        · rw [if_neg q, if_neg (by omega)]
  unfold f_loadChoices
  exact lp 5 0 n s (by omega) (by omega) rfl (fun _ _ => rfl) (fun x => by rw [if_neg (by omega)])
/-- what the counting leaves alone -/
def own_fn (s t : St) : Prop := t.1 = s.1 ∧ ∀ j, j ≠ 3 → j ≠ 10 → t.2 j = s.2 j
theorem own_cnt (hn : 5000 ≤ n) (I : own_N V d N U lo L c s) (hF : own_fix V d (s.2 2)) {K r : Nat} (hK : K ≤ 8) (h23 : s.1 23 = Int32.ofNat K) (h0 : s.2 0 K = Int32.ofNat r) (hr : r < N) :
    ∃ t, f_count n s = some (Int32.ofNat (own_T V d L c (s.2 2) V r), t) ∧ own_fn s t := by
  obtain ⟨u, u1, u2, u3, u4⟩ := own_lc (n := n) (by omega) s
  have v5 := I.1.2.2.2.2.2.2.1
  have Iu : own_N V d N U lo L c u := own_NF (by rw [u2]) (by rw [u2]) (by rw [u2]) (u3 5 (by decide)) (u3 6 (by decide)) (u3 7 (by decide)) I
  have e : ∀ l, l < V → u.2 3 l = s.2 2 l := fun l hl => by rw [u4, if_pos (by omega)]
  obtain ⟨t, t1, t2, t3⟩ := own_cF (n := n) hn Iu (fun l hl => by rw [e l hl]; exact hF l hl) hK (by rw [u2]; exact h23) (by rw [u3 0 (by decide)]; exact h0) hr
  unfold f_count
  rw [u1, Option.bind_some, t1, Option.bind_some]
  exact ⟨t, by rw [own_Tc V (Nat.le_refl _) (fun l _ hl => e l hl)], t2.trans u2, fun j h3 h10 => (t3 j h10).trans (u3 j h3)⟩
theorem own_vv (I : own_N V d N U lo L c s) {v : Nat} (hv : v < V) : f_validVar s (Int32.ofNat v) = some 1 := by
  have v5 := I.1.2.2.2.2.2.2.1
  unfold f_validVar
  rw [if_neg (N_neg (by omega)), I.1.1, if_pos (ltN hv (by omega))]
theorem own_vd (I : own_N V d N U lo L c s) {v : Nat} (hv : v < d) : f_validValue s (Int32.ofNat v) = some 1 := by
  have d4 := I.1.2.2.2.2.2.2.2.2
  unfold f_validValue
  rw [if_neg (N_neg (by omega)), I.1.2.1, if_pos (ltN hv (by omega))]
theorem own_cw (hn : 5000 ≤ n) (I : own_N V d N U lo L c s) (hF : own_fix V d (s.2 2)) {K r v x : Nat} (hK : K ≤ 8) (h23 : s.1 23 = Int32.ofNat K) (h0 : s.2 0 K = Int32.ofNat r) (hr : r < N) (hv : v < V) (hx : x < d) :
    ∃ t, f_countWith n (Int32.ofNat v) (Int32.ofNat x) s = some (Int32.ofNat (own_T V d L c (own_up (s.2 2) v (Int32.ofNat x)) V r), t) ∧ own_fn s t := by
  obtain ⟨u, u1, u2, u3, u4⟩ := own_lc (n := n) (by omega) s
  have v5 := I.1.2.2.2.2.2.2.1
  obtain ⟨w, hw⟩ : ∃ w, w = setA u 3 v (Int32.ofNat x) := ⟨_, rfl⟩
  have w1 : w.1 = s.1 := by rw [hw]; exact u2
  have w2 : ∀ j, j ≠ 3 → w.2 j = s.2 j := fun j hj => by rw [hw, ← u3 j hj]; funext y; rw [setA_2, if_neg (fun z => hj z.1)]
  have Iw : own_N V d N U lo L c w := own_NF (by rw [w1]) (by rw [w1]) (by rw [w1]) (w2 5 (by decide)) (w2 6 (by decide)) (w2 7 (by decide)) I
  have e : ∀ l, l < V → w.2 3 l = own_up (s.2 2) v (Int32.ofNat x) l := fun l hl => by
    rw [hw, setA_2]
    unfold own_up
    by_cases q : l = v
    · rw [if_pos ⟨by trivial, q⟩, if_pos q]
    · rw [if_neg (fun z => q z.2), if_neg q, u4, if_pos (by omega)]
  obtain ⟨t, t1, t2, t3⟩ := own_cF (n := n) hn Iw (fun l hl => by
    rw [e l hl]
    unfold own_up
    by_cases q : l = v
    · rw [if_pos q]; exact Or.inr ⟨x, hx, rfl⟩
    · rw [if_neg q]; exact hF l hl) hK (by rw [w1]; exact h23) (by rw [w2 0 (by decide)]; exact h0) hr
  unfold f_countWith
  rw [own_vv I hv, Option.bind_some, if_neg (by decide), own_vd I hx, Option.bind_some, if_neg (by decide), u1, Option.bind_some, grd_pos (inbN (by omega) (by omega)), bnd_eq, ix_N (by omega), ← hw, t1, Option.bind_some]
  exact ⟨t, by rw [own_Tc V (Nat.le_refl _) (fun l _ hl => e l hl)], t2.trans w1, fun j h3 h10 => (t3 j h10).trans (w2 j h3)⟩
end

/-! ### the law's check -/
def own_q (m : Int32) (b : Bool) (x : Nat) : Int32 := if b = true then m ||| ((1 : Int32) <<< (Int32.ofNat x &&& 31)) else m
def own_msk (b : Nat → Bool) : Nat → Int32
  | 0 => 0
  | x + 1 => own_q (own_msk b x) (b x) x
theorem own_m2 : ∀ b0 b1 : Bool, ((XT.ushr (own_q (own_q 0 b0 0) b1 1) 0 &&& 1 = 1) ↔ b0 = true) ∧ ((XT.ushr (own_q (own_q 0 b0 0) b1 1) 1 &&& 1 = 1) ↔ b1 = true) ∧ XT.ushr (own_q (own_q 0 b0 0) b1 1) 2 = 0 := by decide
theorem own_m3 : ∀ b0 b1 b2 : Bool, ((XT.ushr (own_q (own_q (own_q 0 b0 0) b1 1) b2 2) 0 &&& 1 = 1) ↔ b0 = true) ∧ ((XT.ushr (own_q (own_q (own_q 0 b0 0) b1 1) b2 2) 1 &&& 1 = 1) ↔ b1 = true) ∧ ((XT.ushr (own_q (own_q (own_q 0 b0 0) b1 1) b2 2) 2 &&& 1 = 1) ↔ b2 = true) ∧ XT.ushr (own_q (own_q (own_q 0 b0 0) b1 1) b2 2) 3 = 0 := by decide
theorem own_m4 : ∀ b0 b1 b2 b3 : Bool, ((XT.ushr (own_q (own_q (own_q (own_q 0 b0 0) b1 1) b2 2) b3 3) 0 &&& 1 = 1) ↔ b0 = true) ∧ ((XT.ushr (own_q (own_q (own_q (own_q 0 b0 0) b1 1) b2 2) b3 3) 1 &&& 1 = 1) ↔ b1 = true) ∧ ((XT.ushr (own_q (own_q (own_q (own_q 0 b0 0) b1 1) b2 2) b3 3) 2 &&& 1 = 1) ↔ b2 = true) ∧ ((XT.ushr (own_q (own_q (own_q (own_q 0 b0 0) b1 1) b2 2) b3 3) 3 &&& 1 = 1) ↔ b3 = true) ∧ XT.ushr (own_q (own_q (own_q (own_q 0 b0 0) b1 1) b2 2) b3 3) 4 = 0 := by decide
theorem own_mskE {d : Nat} (hd2 : 2 ≤ d) (hd4 : d ≤ 4) (b : Nat → Bool) : (∀ x, x < d → ((XT.ushr (own_msk b d) (Int32.ofNat x) &&& 1 = 1) ↔ b x = true)) ∧ XT.ushr (own_msk b d) (Int32.ofNat d) = 0 := by
  match d, hd2, hd4 with
  | 2, _, _ =>
    obtain ⟨h0, h1, h2⟩ := own_m2 (b 0) (b 1)
    refine ⟨fun x hx => ?_, h2⟩
    match x, hx with
    | 0, _ => exact h0
    | 1, _ => exact h1
  | 3, _, _ =>
    obtain ⟨h0, h1, h2, h3⟩ := own_m3 (b 0) (b 1) (b 2)
    refine ⟨fun x hx => ?_, h3⟩
    match x, hx with
    | 0, _ => exact h0
    | 1, _ => exact h1
    | 2, _ => exact h2
  | 4, _, _ =>
    obtain ⟨h0, h1, h2, h3, h4⟩ := own_m4 (b 0) (b 1) (b 2) (b 3)
    refine ⟨fun x hx => ?_, h4⟩
    match x, hx with
    | 0, _ => exact h0
    | 1, _ => exact h1
    | 2, _ => exact h2
    | 3, _ => exact h3
theorem own_l64 {v : Nat} (h : v < 2147483648) : (Int32.ofNat v).toInt64 = Int64.ofNat v := by
  rw [← Int64.toInt_inj, Int32.toInt_toInt64, N_toInt h, Int64.toInt_ofNat_of_lt (by omega)]
theorem own_cmpx (x : Int64) : XT.cmpL x x = 0 := by
  show (if x < x then (1 : Int32) else if x = x then 0 else -1) = 0
  rw [if_neg (fun h => by rw [Int64.lt_iff_toInt_lt] at h; omega), if_pos rfl]
theorem own_pos {v : Nat} (h : v < 2147483648) : (0 : Int32) < Int32.ofNat v ↔ 0 < v := N_lt (i := 0) (by omega) h
/-- the state between two calls -/
def own_R (V d N U : Nat) (lo : List Nat) (L : Nat → Nat) (c : Nat → Nat → Nat) (K : Nat) (s : St) : Prop :=
  own_N V d N U lo L c s ∧ K ≤ 8 ∧ s.1 23 = Int32.ofNat K ∧ (∀ j, j ≤ K → ∃ r, r < N ∧ s.2 0 j = Int32.ofNat r) ∧ (∀ l, l < 5 → s.2 2 l = -1 ∨ ∃ x, x < d ∧ s.2 2 l = Int32.ofNat x)
section
variable {V d N U n K : Nat} {lo : List Nat} {L : Nat → Nat} {c : Nat → Nat → Nat} {s t u : St}
theorem own_RF (h1 : ∀ j, j = 20 ∨ j = 21 ∨ j = 22 ∨ j = 23 → t.1 j = s.1 j) (h2 : ∀ j, j = 0 ∨ j = 2 ∨ j = 5 ∨ j = 6 ∨ j = 7 → t.2 j = s.2 j) (R : own_R V d N U lo L c K s) : own_R V d N U lo L c K t := by
  obtain ⟨I, r2, r3, r4, r5⟩ := R
  refine ⟨own_NF (h1 20 (by omega)) (h1 21 (by omega)) (h1 22 (by omega)) (h2 5 (by omega)) (h2 6 (by omega)) (h2 7 (by omega)) I, r2, ?_, ?_, ?_⟩
  · rw [h1 23 (by omega)]; exact r3
  · rw [h2 0 (by omega)]; exact r4
  · rw [h2 2 (by omega)]; exact r5
theorem own_Rn (h : own_fn s t) (R : own_R V d N U lo L c K s) : own_R V d N U lo L c K t := own_RF (fun j _ => by rw [h.1]) (fun j hj => h.2 j (by omega) (by omega)) R
theorem own_fnt (h : own_fn s t) (g : own_fn t u) : own_fn s u := ⟨g.1.trans h.1, fun j a b => (g.2 j a b).trans (h.2 j a b)⟩
theorem own_fnr (s : St) : own_fn s s := ⟨rfl, fun _ _ _ => rfl⟩
theorem own_Rfix (R : own_R V d N U lo L c K s) : own_fix V d (s.2 2) := fun l hl => by
  have v5 := R.1.1.2.2.2.2.2.2.1
  rcases R.2.2.2.2 l (by omega) with w | w
  · exact Or.inl (by rw [w]; decide)
  · exact Or.inr w
theorem own_om (hn : 5000 ≤ n) {r v : Nat} (hr : r < N) (hv : v < V) {b : Nat → Bool} : ∀ (m x k : Nat) (s : St), x + m = d → m < k → own_R V d N U lo L c K s → s.2 0 K = Int32.ofNat r → (∀ x, b x = decide (0 < own_T V d L c (own_up (s.2 2) v (Int32.ofNat x)) V r)) →
    ∃ t, f_offeredMask_14 n k (Int32.ofNat v) (own_msk b x) (Int32.ofNat x) s = some (own_msk b d, t) ∧ own_fn s t := by
  intro m
  induction m with
  | zero =>
    intro x k s hx hk R h0 hb
    obtain ⟨k, rfl⟩ : ∃ k', k = k' + 1 := ⟨k - 1, by omega⟩
    have d4 := R.1.1.2.2.2.2.2.2.2.2
    rw [u_offeredMask_14, R.1.1.2.1, if_neg (own_nlt (by omega) (by omega)), show x = d by omega]
    exact ⟨s, rfl, own_fnr s⟩
  | succ m ih =>
    intro x k s hx hk R h0 hb
    obtain ⟨k, rfl⟩ : ∃ k', k = k' + 1 := ⟨k - 1, by omega⟩
    obtain ⟨-, i21, -, n2, n20, v1, v5, d2, d4⟩ := R.1.1
    obtain ⟨t, t1, t2⟩ := own_cw (n := n) hn R.1 (own_Rfix R) (x := x) R.2.1 R.2.2.1 h0 hr hv (by omega)
    have T4 := own_Tle (V := V) (d := d) (L := L) (c := c) (F := own_up (s.2 2) v (Int32.ofNat x)) d4 V r
    have p5 : 4 ^ V ≤ 4 ^ 5 := Nat.pow_le_pow_right (by omega) v5
    obtain ⟨u, u1, u2⟩ := ih (x + 1) k t (by omega) (by omega) (own_Rn t2 R) (by rw [t2.2 0 (by decide) (by decide)]; exact h0) (by rw [t2.2 2 (by decide) (by decide)]; exact hb)
    rw [u_offeredMask_14, i21, if_pos (ltN (by omega) (by omega)), t1, Option.bind_some, N_succ]
    refine ⟨u, ?_, own_fnt t2 u2⟩
    rw [show own_msk b (x + 1) = own_q (own_msk b x) (b x) x from rfl] at u1
    unfold own_q at u1
    by_cases q : 0 < own_T V d L c (own_up (s.2 2) v (Int32.ofNat x)) V r
    · rw [if_pos (show (0 : Int32) < Int32.ofNat _ from (own_pos (by omega)).mpr q)]
      rw [if_pos (by rw [hb]; exact decide_eq_true q)] at u1
      exact u1
    · rw [if_neg (show ¬ (0 : Int32) < Int32.ofNat _ from fun w => q ((own_pos (by omega)).mp w))]
      rw [if_neg (by rw [hb]; exact fun w => q (of_decide_eq_true w))] at u1
      exact u1
theorem own_hc43 (hn : 5000 ≤ n) {r v : Nat} (hr : r < N) (hv : v < V) {b : Nat → Bool} {k12 : Int32 → Int32 → Int32 → St → Option (Int32 × St)} : ∀ (m x k S : Nat) (s : St), x + m = d → m < k → own_R V d N U lo L c K s → s.2 0 K = Int32.ofNat r → (∀ x, b x = decide (0 < own_T V d L c (own_up (s.2 2) v (Int32.ofNat x)) V r)) → S = own_s x (fun x => own_T V d L c (own_up (s.2 2) v (Int32.ofNat x)) V r) →
    ∃ t, f_hcheck_43 n k12 k (Int32.ofNat V) (Int32.ofNat d) (Int32.ofNat v) (Int32.ofNat (own_T V d L c (s.2 2) V r)) (s.2 2 v) (own_msk b d) (Int64.ofNat S) (Int32.ofNat x) s = k12 (Int32.ofNat V) (Int32.ofNat d) (Int32.ofNat (v + 1)) t ∧ own_fn s t := by
  intro m
  induction m with
  | zero =>
    intro x k S s hx hk R h0 hb hS
    obtain ⟨k, rfl⟩ : ∃ k', k = k' + 1 := ⟨k - 1, by omega⟩
    obtain ⟨-, i21, -, n2, n20, v1, v5, d2, d4⟩ := R.1.1
    have xd : x = d := by omega
    subst xd
    have T4 := own_Tle (V := V) (d := x) (L := L) (c := c) (F := s.2 2) d4 V r
    have p5 : 4 ^ V ≤ 4 ^ 5 := Nat.pow_le_pow_right (by omega) v5
    rw [u_hcheck_43, if_neg (own_nlt (by omega) (by omega)), if_pos (own_mskE d2 d4 b).2, N_succ]
    rcases R.2.2.2.2 v (by omega) with w | ⟨y, y1, y2⟩
    · have e : own_T V x L c (s.2 2) V r = S := by
        rw [hS]; exact own_split d4 hv (by rw [w]; decide) V (Nat.le_refl _) (by omega) r
      rw [if_pos w, own_l64 (by omega), e, own_cmpx, if_pos rfl]
      exact ⟨s, rfl, own_fnr s⟩
    · obtain ⟨t, t1, t2⟩ := own_cw (n := n) hn R.1 (own_Rfix R) (x := y) R.2.1 R.2.2.1 h0 hr hv y1
      have e : own_up (s.2 2) v (Int32.ofNat y) = s.2 2 := by
        funext l
        unfold own_up
        by_cases q : l = v
        · rw [if_pos q, q, y2]
        · rw [if_neg q]
      rw [e] at t1
      rw [y2, if_neg (fun w => absurd (show Int32.ofNat y < 0 by rw [w]; decide) (N_neg (by omega))), if_neg (N_neg (by omega)), t1, Option.bind_some, if_pos rfl]
      exact ⟨t, rfl, t2⟩
  | succ m ih =>
    intro x k S s hx hk R h0 hb hS
    obtain ⟨k, rfl⟩ : ∃ k', k = k' + 1 := ⟨k - 1, by omega⟩
    obtain ⟨-, i21, -, n2, n20, v1, v5, d2, d4⟩ := R.1.1
    obtain ⟨t, t1, t2⟩ := own_cw (n := n) hn R.1 (own_Rfix R) (x := x) R.2.1 R.2.2.1 h0 hr hv (by omega)
    have T4 := own_Tle (V := V) (d := d) (L := L) (c := c) (F := own_up (s.2 2) v (Int32.ofNat x)) d4 V r
    have p5 : 4 ^ V ≤ 4 ^ 5 := Nat.pow_le_pow_right (by omega) v5
    have e2 : t.2 2 = s.2 2 := t2.2 2 (by decide) (by decide)
    obtain ⟨u, u1, u2⟩ := ih (x + 1) k (S + own_T V d L c (own_up (s.2 2) v (Int32.ofNat x)) V r) t (by omega) (by omega) (own_Rn t2 R) (by rw [t2.2 0 (by decide) (by decide)]; exact h0) (by rw [e2]; exact hb) (by rw [e2, hS]; rfl)
    rw [e2] at u1
    refine ⟨u, ?_, own_fnt t2 u2⟩
    have bx := (own_mskE d2 d4 b).1 x (by omega)
    rw [u_hcheck_43, if_pos (ltN (by omega) (by omega)), t1, Option.bind_some]
    rw [show (Int32.ofNat (own_T V d L c (own_up (s.2 2) v (Int32.ofNat x)) V r), t).1 = Int32.ofNat (own_T V d L c (own_up (s.2 2) v (Int32.ofNat x)) V r) from rfl, own_l64 (by omega), ← Int64.ofNat_add]
    unfold f_hcheck_82 f_hcheck_96
    by_cases q : 0 < own_T V d L c (own_up (s.2 2) v (Int32.ofNat x)) V r
    · rw [if_pos (bx.mpr (by rw [hb]; exact decide_eq_true q)), if_pos ((own_pos (by omega)).mpr q), if_pos rfl, N_succ]
      exact u1
    · rw [if_neg (fun w => by have := bx.mp w; rw [hb] at this; exact q (of_decide_eq_true this)), if_neg (fun w => q ((own_pos (by omega)).mp w)), if_pos rfl, N_succ]
      exact u1
theorem own_hc (hn : 5000 ≤ n) (R : own_R V d N U lo L c K s) : ∃ t, f_hcheck n s = some (1, t) ∧ own_fn s t := by
  obtain ⟨r, hr, h0⟩ := R.2.2.2.1 K (Nat.le_refl _)
  have lp : ∀ (m v k : Nat) (s : St), v + m = V → m < k → own_R V d N U lo L c K s → s.2 0 K = Int32.ofNat r → ∃ t, f_hcheck_12 n k (Int32.ofNat V) (Int32.ofNat d) (Int32.ofNat v) s = some (1, t) ∧ own_fn s t := by
    intro m
    induction m with
    | zero =>
      intro v k s hv hk R h0
      obtain ⟨k, rfl⟩ : ∃ k', k = k' + 1 := ⟨k - 1, by omega⟩
      have v5 := R.1.1.2.2.2.2.2.2.1
      rw [u_hcheck_12, if_neg (own_nlt (by omega) (by omega))]
      exact ⟨s, rfl, own_fnr s⟩
    | succ m ih =>
      intro v k s hv hk R h0
      obtain ⟨k, rfl⟩ : ∃ k', k = k' + 1 := ⟨k - 1, by omega⟩
      obtain ⟨-, i21, -, n2, n20, v1, v5, d2, d4⟩ := R.1.1
      obtain ⟨t, t1, t2⟩ := own_cnt (n := n) hn R.1 (own_Rfix R) R.2.1 R.2.2.1 h0 hr
      have Rt := own_Rn t2 R
      have et : t.2 2 = s.2 2 := t2.2 2 (by decide) (by decide)
      have cv : f_chosenValue t (Int32.ofNat v) = some (t.2 2 v) := by
        unfold f_chosenValue
        rw [own_vv Rt.1 (by omega), Option.bind_some, if_neg (by decide), grd_pos (inbN (by omega) (by omega)), ix_N (by omega)]
      have h0t : t.2 0 K = Int32.ofNat r := by rw [t2.2 0 (by decide) (by decide)]; exact h0
      obtain ⟨b, hb⟩ : ∃ b : Nat → Bool, ∀ x, b x = decide (0 < own_T V d L c (own_up (t.2 2) v (Int32.ofNat x)) V r) := ⟨_, fun _ => rfl⟩
      obtain ⟨w, w1, w2⟩ := own_om (n := n) (v := v) hn hr (by omega) d 0 n t (by omega) (by omega) Rt h0t hb
      have om : f_offeredMask n (Int32.ofNat v) t = some (own_msk b d, w) := by
        unfold f_offeredMask
        rw [own_vv Rt.1 (by omega), Option.bind_some, if_neg (by decide)]
        exact w1
      have ew : w.2 2 = t.2 2 := w2.2 2 (by decide) (by decide)
      obtain ⟨y, y1, y2⟩ := own_hc43 (n := n) (v := v) (k12 := f_hcheck_12 n k) hn hr (by omega) d 0 n 0 w (by omega) (by omega) (own_Rn w2 Rt) (by rw [w2.2 0 (by decide) (by decide)]; exact h0t) (by rw [ew]; exact hb) rfl
      rw [ew, et] at y1
      have Ry := own_Rn y2 (own_Rn w2 Rt)
      obtain ⟨z, z1, z2⟩ := ih (v + 1) k y (by omega) (by omega) Ry (by rw [y2.2 0 (by decide) (by decide), w2.2 0 (by decide) (by decide)]; exact h0t)
      rw [u_hcheck_12, if_pos (ltN (by omega) (by omega)), t1, Option.bind_some, cv, Option.bind_some, om, Option.bind_some, et]
      exact ⟨z, y1.trans z1, own_fnt t2 (own_fnt w2 (own_fnt y2 z2))⟩
  unfold f_hcheck f_numVars f_domainSize
  rw [Option.bind_some, Option.bind_some, R.1.1.1, R.1.1.2.1]
  exact lp V 0 n s (by omega) (by have := R.1.1.2.2.2.2.2.2.1; omega) R h0
end

/-! ### the calls -/
/-- k turns are done -/
def own_Z (V d k : Nat) (s : St) : Prop :=
  ∃ N U lo L c K m q, own_R V d N U lo L c K s ∧ U ≤ 85 * m + 3 * q ∧ m ≤ q ∧ ((s.1 24 = 0 ∧ 3 * m + q ≤ k + K) ∨ (s.1 24 = 1 ∧ ∃ ar u w x t mt, own_Tb V ar u w x t mt s ∧ 3 * m + q + t + 1 ≤ k + K))
theorem own_Zm {V d k k' : Nat} {s : St} (h : k ≤ k') (Z : own_Z V d k s) : own_Z V d k' s := by
  obtain ⟨N, U, lo, L, c, K, m, q, R, z1, z2, z3⟩ := Z
  refine ⟨N, U, lo, L, c, K, m, q, R, z1, z2, ?_⟩
  rcases z3 with ⟨a, b⟩ | ⟨a, ar, u, w, x, t, mt, T, b⟩
  · exact Or.inl ⟨a, by omega⟩
  · exact Or.inr ⟨a, ar, u, w, x, t, mt, T, by omega⟩
theorem own_ZF {V d k : Nat} {s t : St} (h1 : t.1 = s.1) (h2 : ∀ j, j = 0 ∨ j = 1 ∨ j = 2 ∨ j = 5 ∨ j = 6 ∨ j = 7 → t.2 j = s.2 j) (Z : own_Z V d k s) : own_Z V d k t := by
  obtain ⟨N, U, lo, L, c, K, m, q, R, z1, z2, z3⟩ := Z
  refine ⟨N, U, lo, L, c, K, m, q, own_RF (fun j _ => by rw [h1]) (fun j hj => h2 j (by omega)) R, z1, z2, ?_⟩
  rw [h1]
  rcases z3 with z3 | ⟨a, ar, u, w, x, t', mt, T, b⟩
  · exact Or.inl z3
  · exact Or.inr ⟨a, ar, u, w, x, t', mt, own_TbF (fun j _ _ => by rw [h1]) (h2 1 (by omega)) T, b⟩
section
variable {V d n k : Nat} {s : St}
theorem own_vi {V d N U : Nat} {lo : List Nat} {L : Nat → Nat} {c : Nat → Nat → Nat} {s : St} (I : own_N V d N U lo L c s) (x : Int32) : ∃ q, f_validVar s x = some q ∧ ((q = 0 ∧ ¬ ∃ u, u < V ∧ x = Int32.ofNat u) ∨ (q ≠ 0 ∧ ∃ u, u < V ∧ x = Int32.ofNat u)) := by
  have v5 := I.1.2.2.2.2.2.2.1
  unfold f_validVar
  rw [I.1.1]
  by_cases h0 : x < 0
  · rw [if_pos h0]; exact ⟨_, rfl, Or.inl ⟨rfl, fun ⟨u, u1, u2⟩ => by rw [u2] at h0; exact N_neg (by omega) h0⟩⟩
  · rw [if_neg h0]
    by_cases h1 : x < Int32.ofNat V
    · rw [if_pos h1]; exact ⟨_, rfl, Or.inr ⟨by decide, cases_N (by omega) h0 h1⟩⟩
    · rw [if_neg h1]; exact ⟨_, rfl, Or.inl ⟨rfl, fun ⟨u, u1, u2⟩ => h1 (by rw [u2]; exact ltN u1 (by omega))⟩⟩
theorem own_di {V d N U : Nat} {lo : List Nat} {L : Nat → Nat} {c : Nat → Nat → Nat} {s : St} (I : own_N V d N U lo L c s) (x : Int32) : ∃ q, f_validValue s x = some q ∧ ((q = 0 ∧ ¬ ∃ u, u < d ∧ x = Int32.ofNat u) ∨ (q ≠ 0 ∧ ∃ u, u < d ∧ x = Int32.ofNat u)) := by
  have d4 := I.1.2.2.2.2.2.2.2.2
  unfold f_validValue
  rw [I.1.2.1]
  by_cases h0 : x < 0
  · rw [if_pos h0]; exact ⟨_, rfl, Or.inl ⟨rfl, fun ⟨u, u1, u2⟩ => by rw [u2] at h0; exact N_neg (by omega) h0⟩⟩
  · rw [if_neg h0]
    by_cases h1 : x < Int32.ofNat d
    · rw [if_pos h1]; exact ⟨_, rfl, Or.inr ⟨by decide, cases_N (by omega) h0 h1⟩⟩
    · rw [if_neg h1]; exact ⟨_, rfl, Or.inl ⟨rfl, fun ⟨u, u1, u2⟩ => h1 (by rw [u2]; exact ltN u1 (by omega))⟩⟩
/-- the table is open now, without a tuple -/
def own_BT (V : Nat) (s : St) (o : Option (Int32 × St)) : Prop := ∃ q t, o = some (q, t) ∧ (t = s ∨ (t.1 24 = 1 ∧ (∀ j, j < 24 → t.1 j = s.1 j) ∧ t.2 = s.2 ∧ ∃ ar u w x mt, own_Tb V ar u w x 0 mt t))
theorem own_bt {N U : Nat} {lo : List Nat} {L : Nat → Nat} {c : Nat → Nat → Nat} (I : own_N V d N U lo L c s) (a0 a1 a2 : Int32) : own_BT V s (f_beginTable a0 a1 a2 s) := by
  have no : ∀ q : Int32, own_BT V s (some (q, s)) := fun q => ⟨q, s, rfl, Or.inl rfl⟩
  have b131 : ∀ ar u w x : Nat, 1 ≤ ar → ar ≤ 3 → u < V → a0 = Int32.ofNat u → (2 ≤ ar → a1 = Int32.ofNat w ∧ w < V) → (ar = 3 → a2 = Int32.ofNat x ∧ x < V) → own_BT V s (f_beginTable_131 a0 a1 a2 (Int32.ofNat ar) s) := fun ar u w x h1 h3 hu eu hw hx => by
    unfold f_beginTable_131
    simp only [bnd_eq]
    refine ⟨_, _, rfl, Or.inr ⟨rfl, fun j hj => ?_, rfl, ar, u, w, x, fun _ => 0, ⟨rfl, h1, h3⟩, ⟨eu, hu⟩, hw, hx, ⟨rfl, by omega⟩, fun i hi => by omega⟩⟩
    rw [setI_1, if_neg (by omega), setI_1, if_neg (by omega), setI_1, if_neg (by omega), setI_1, if_neg (by omega), setI_1, if_neg (by omega), setI_1, if_neg (by omega)]
  have b54 : ∀ ar : Nat, 1 ≤ ar → ar ≤ 3 → own_BT V s (f_beginTable_54 a0 a1 a2 (Int32.ofNat ar) s) := fun ar h1 h3 => by
    have l2 : Int32.ofNat ar < 2 ↔ ar < 2 := N_lt (j := 2) (by omega) (by omega)
    have l3 : Int32.ofNat ar = 3 ↔ ar = 3 := N_inj (j := 3) (by omega) (by omega)
    obtain ⟨q0, p0, r0⟩ := own_vi I a0
    obtain ⟨q1, p1, r1⟩ := own_vi I a1
    obtain ⟨q2, p2, r2⟩ := own_vi I a2
    unfold f_beginTable_54
    rw [p0, Option.bind_some]
    rcases r0 with ⟨z, -⟩ | ⟨z, u, hu, eu⟩
    · rw [if_pos z]; exact no _
    · rw [if_neg z]
      have b98 : (2 ≤ ar → ∃ w, w < V ∧ a1 = Int32.ofNat w) → (ar = 3 → ∃ x, x < V ∧ a2 = Int32.ofNat x) → own_BT V s (f_beginTable_98 a0 a1 a2 (Int32.ofNat ar) s) := fun hw hx => by
        obtain ⟨w, hw⟩ : ∃ w, 2 ≤ ar → a1 = Int32.ofNat w ∧ w < V := by
          by_cases g : 2 ≤ ar
          · obtain ⟨w, w1, w2⟩ := hw g; exact ⟨w, fun _ => ⟨w2, w1⟩⟩
          · exact ⟨0, fun g' => absurd g' g⟩
        obtain ⟨x, hx⟩ : ∃ x, ar = 3 → a2 = Int32.ofNat x ∧ x < V := by
          by_cases g : ar = 3
          · obtain ⟨w, w1, w2⟩ := hx g; exact ⟨w, fun _ => ⟨w2, w1⟩⟩
          · exact ⟨0, fun g' => absurd g' g⟩
        have b := b131 ar u w x h1 h3 hu eu hw hx
        have b112 : own_BT V s (f_beginTable_112 a0 a1 a2 (Int32.ofNat ar) s) := by
          unfold f_beginTable_112
          split
          · split
            · exact no _
            · split
              · exact no _
              · exact b
          · exact b
        unfold f_beginTable_98
        split
        · exact b112
        · split
          · exact no _
          · exact b112
      have b82 : (2 ≤ ar → ∃ w, w < V ∧ a1 = Int32.ofNat w) → own_BT V s (f_beginTable_82 a0 a1 a2 (Int32.ofNat ar) s) := fun hw => by
        unfold f_beginTable_82
        by_cases g : ar = 3
        · rw [if_pos (l3.mpr g), p2, Option.bind_some]
          rcases r2 with ⟨z, -⟩ | ⟨z, y, hy, ey⟩
          · rw [if_pos z]; exact no _
          · rw [if_neg z]; exact b98 hw (fun _ => ⟨y, hy, ey⟩)
        · rw [if_neg (fun w => g (l3.mp w))]
          exact b98 hw (fun w => absurd w g)
      by_cases g : ar < 2
      · rw [if_pos (l2.mpr g)]; exact b82 (fun w => by omega)
      · rw [if_neg (fun w => g (l2.mp w)), p1, Option.bind_some]
        rcases r1 with ⟨z, -⟩ | ⟨z, y, hy, ey⟩
        · rw [if_pos z]; exact no _
        · rw [if_neg z]; exact b82 (fun _ => ⟨y, hy, ey⟩)
  have b35 : own_BT V s (f_beginTable_35 a0 a1 a2 s) := by
    unfold f_beginTable_35
    split
    · exact b54 1 (by omega) (by omega)
    · split
      · exact b54 2 (by omega) (by omega)
      · exact b54 3 (by omega) (by omega)
  unfold f_beginTable
  split
  · split
    · split
      · split
        · exact b35
        · exact no _
      · exact b35
    · exact no _
  · exact no _
theorem own_Zbt (Z : own_Z V d k s) (a0 a1 a2 : Int32) : ∃ q t, f_beginTable a0 a1 a2 s = some (q, t) ∧ own_Z V d (k + 1) t := by
  obtain ⟨N, U, lo, L, c, K, m, q, R, z1, z2, z3⟩ := id Z
  by_cases h24 : s.1 24 = 0
  · obtain ⟨q', t, t1, t2⟩ := own_bt R.1 a0 a1 a2
    refine ⟨q', t, t1, ?_⟩
    rcases t2 with rfl | ⟨t2, t3, t4, ar, u, w, x, mt, T⟩
    · exact own_Zm (by omega) Z
    · refine ⟨N, U, lo, L, c, K, m, q, own_RF (fun j hj => t3 j (by omega)) (fun j _ => by rw [t4]) R, z1, z2, Or.inr ⟨t2, ar, u, w, x, 0, mt, T, ?_⟩⟩
      rcases z3 with ⟨-, z3⟩ | ⟨z3, -⟩
      · omega
      · rw [h24] at z3; exact absurd z3 (by decide)
  · unfold f_beginTable
    rw [if_neg h24]
    exact ⟨_, s, rfl, own_Zm (by omega) Z⟩
theorem own_at135 {ar u w x t y : Nat} {mt : Nat → Nat} (hy : y < 64) (T : own_Tb V ar u w x t mt s) : ∃ q s', f_addTuple_95 n (Int32.ofNat y) s = some (q, s') ∧ (s' = s ∨ ((∀ j, j ≠ 29 → s'.1 j = s.1 j) ∧ (∀ j, j ≠ 1 → s'.2 j = s.2 j) ∧ ∃ mt', own_Tb V ar u w x (t + 1) mt' s')) ∨ n < 20 := by
  by_cases hn : n < 20
  · exact ⟨0, s, Or.inr hn⟩
  · obtain ⟨T1, T2, T3, T4, ⟨t29, t16⟩, T6⟩ := T
    have b135 : ∃ q s', f_addTuple_135 n (Int32.ofNat y) s = some (q, s') ∧ (s' = s ∨ ((∀ j, j ≠ 29 → s'.1 j = s.1 j) ∧ (∀ j, j ≠ 1 → s'.2 j = s.2 j) ∧ ∃ mt', own_Tb V ar u w x (t + 1) mt' s')) := by
      unfold f_addTuple_135
      rw [t29]
      by_cases g : t < 16
      · rw [if_pos (ltZ (z := 16) 16 rfl g (by omega)), grd_pos (inbN g (by omega)), bnd_eq, ix_N (by omega), bnd_eq]
        rw [show (setA s 1 t (Int32.ofNat y)).1 29 = Int32.ofNat t from t29, N_succ]
        refine ⟨_, _, rfl, Or.inr ⟨fun j hj => by rw [setI_1, if_neg hj]; rfl, fun j hj => by funext z; rw [setI_2, setA_2, if_neg (fun w => hj w.1)], fun i => if i = t then y else mt i, T1, T2, T3, T4, ⟨rfl, by omega⟩, fun i hi => ?_⟩⟩
        show (setA s 1 t (Int32.ofNat y)).2 1 i = Int32.ofNat (if i = t then y else mt i) ∧ (if i = t then y else mt i) < 64
        rw [setA_2]
        by_cases e : i = t
        · rw [if_pos ⟨by trivial, e⟩, if_pos e]; exact ⟨rfl, hy⟩
        · rw [if_neg (fun w => e w.2), if_neg e]; exact T6 i (by omega)
      · rw [if_neg (by rw [show t = 16 by omega]; decide)]
        exact ⟨_, _, rfl, Or.inl rfl⟩
    have lp : ∀ m i k, i + m = t → m < k → ∃ q s', f_addTuple_98 n k (Int32.ofNat y) (Int32.ofNat i) s = some (q, s') ∧ (s' = s ∨ ((∀ j, j ≠ 29 → s'.1 j = s.1 j) ∧ (∀ j, j ≠ 1 → s'.2 j = s.2 j) ∧ ∃ mt', own_Tb V ar u w x (t + 1) mt' s')) := by
      intro m
      induction m with
      | zero =>
        intro i k hi hk
        obtain ⟨k, rfl⟩ : ∃ k', k = k' + 1 := ⟨k - 1, by omega⟩
        rw [u_addTuple_98, t29, if_neg (own_nlt (by omega) (by omega))]
        exact b135
      | succ m ih =>
        intro i k hi hk
        obtain ⟨k, rfl⟩ : ∃ k', k = k' + 1 := ⟨k - 1, by omega⟩
        rw [u_addTuple_98, t29, if_pos (ltN (by omega) (by omega)), if_pos (ltZ (z := 16) 16 rfl (by omega) (by omega)), grd_pos (inbN (by omega) (by omega)), N_succ]
        split
        · exact ⟨_, _, rfl, Or.inl rfl⟩
        · exact ih (i + 1) k (by omega) (by omega)
    unfold f_addTuple_95
    obtain ⟨q, s', h1, h2⟩ := lp t 0 n (by omega) (by omega)
    exact ⟨q, s', Or.inl ⟨h1, h2⟩⟩
theorem own_Zat (hn : 5000 ≤ n) (Z : own_Z V d k s) (a0 a1 a2 : Int32) : ∃ q t, f_addTuple n a0 a1 a2 s = some (q, t) ∧ own_Z V d (k + 1) t := by
  obtain ⟨N, U, lo, L, c, K, m, q, R, z1, z2, z3⟩ := id Z
  have d4 := R.1.1.2.2.2.2.2.2.2.2
  have no : ∀ q : Int32, ∃ q' t, some (q, s) = some (q', t) ∧ own_Z V d (k + 1) t := fun q => ⟨q, s, rfl, own_Zm (by omega) Z⟩
  unfold f_addTuple
  rcases z3 with ⟨h24, z3⟩ | ⟨h24, ar, u, w, x, t, mt, T, z3⟩
  · rw [if_pos h24]; exact no _
  · rw [if_neg (by rw [h24]; decide)]
    have l2 : Int32.ofNat ar < 2 ↔ ar < 2 := N_lt (j := 2) (by have := T.1.2.2; omega) (by omega)
    have l3 : Int32.ofNat ar = 3 ↔ ar = 3 := N_inj (j := 3) (by have := T.1.2.2; omega) (by omega)
    have b95 : ∀ y, y < 64 → ∃ q t, f_addTuple_95 n (Int32.ofNat y) s = some (q, t) ∧ own_Z V d (k + 1) t := fun y hy => by
      obtain ⟨q', s', ⟨h1, h2⟩ | h2⟩ := own_at135 (n := n) hy T
      · refine ⟨q', s', h1, ?_⟩
        rcases h2 with rfl | ⟨g1, g2, mt', T'⟩
        · exact own_Zm (by omega) Z
        · exact ⟨N, U, lo, L, c, K, m, q, own_RF (fun j hj => g1 j (by omega)) (fun j hj => g2 j (by omega)) R, z1, z2, Or.inr ⟨by rw [g1 24 (by decide)]; exact h24, ar, u, w, x, t + 1, mt', T', by omega⟩⟩
      · omega
    obtain ⟨q0, p0, r0⟩ := own_di R.1 a0
    obtain ⟨q1, p1, r1⟩ := own_di R.1 a1
    obtain ⟨q2, p2, r2⟩ := own_di R.1 a2
    rw [p0, Option.bind_some]
    rcases r0 with ⟨g, -⟩ | ⟨g, y0, hy0, ey0⟩
    · rw [if_pos g]; exact no _
    · rw [if_neg g, T.1.1]
      have b81 : ∀ y, y < 61 → (ar = 3 → ∃ y2, y2 < d ∧ a2 = Int32.ofNat y2) → ∃ q t, f_addTuple_81 n a2 (Int32.ofNat y) s = some (q, t) ∧ own_Z V d (k + 1) t := fun y hy h3 => by
        unfold f_addTuple_81
        rw [T.1.1]
        by_cases g : ar = 3
        · obtain ⟨y2, hy2, ey2⟩ := h3 g
          rw [if_pos (l3.mpr g), ey2, N_add]; exact b95 _ (by omega)
        · rw [if_neg (fun w => g (l3.mp w))]; exact b95 _ (by omega)
      have b59 : (2 ≤ ar → ∃ y1, y1 < d ∧ a1 = Int32.ofNat y1) → (ar = 3 → ∃ y2, y2 < d ∧ a2 = Int32.ofNat y2) → ∃ q t, f_addTuple_59 n a0 a1 a2 s = some (q, t) ∧ own_Z V d (k + 1) t := fun h2 h3 => by
        unfold f_addTuple_59
        rw [T.1.1, ey0, show (16 : Int32) = Int32.ofNat 16 from rfl, N_mul]
        by_cases g : ar < 2
        · rw [if_pos (l2.mpr g)]; exact b81 _ (by omega) h3
        · obtain ⟨y1, hy1, ey1⟩ := h2 (by omega)
          rw [if_neg (fun w => g (l2.mp w)), ey1, show (4 : Int32) = Int32.ofNat 4 from rfl, N_mul, N_add, bnd_eq]
          exact b81 _ (by omega) h3
      have b40 : (2 ≤ ar → ∃ y1, y1 < d ∧ a1 = Int32.ofNat y1) → ∃ q t, f_addTuple_40 n a0 a1 a2 s = some (q, t) ∧ own_Z V d (k + 1) t := fun h2 => by
        unfold f_addTuple_40
        rw [T.1.1]
        by_cases g : ar = 3
        · rw [if_pos (l3.mpr g), p2, Option.bind_some]
          rcases r2 with ⟨g', -⟩ | ⟨g', y2, hy2, ey2⟩
          · rw [if_pos g']; exact no _
          · rw [if_neg g']; exact b59 h2 (fun _ => ⟨y2, hy2, ey2⟩)
        · rw [if_neg (fun w => g (l3.mp w))]; exact b59 h2 (fun w => absurd w g)
      by_cases g : ar < 2
      · rw [if_pos (l2.mpr g)]; exact b40 (fun w => by omega)
      · rw [if_neg (fun w => g (l2.mp w)), p1, Option.bind_some]
        rcases r1 with ⟨g', -⟩ | ⟨g', y1, hy1, ey1⟩
        · rw [if_pos g']; exact no _
        · rw [if_neg g']; exact b40 (fun _ => ⟨y1, hy1, ey1⟩)
theorem own_Zco (hn : 5000 ≤ n) (hk : k ≤ 64) (Z : own_Z V d k s) : ∃ q t, f_commitTable n s = some (q, t) ∧ own_Z V d (k + 1) t := by
  obtain ⟨N, U, lo, L, c, K, m, q, R, z1, z2, z3⟩ := id Z
  unfold f_commitTable
  rcases z3 with ⟨h24, z3⟩ | ⟨h24, ar, u, w, x, t, mt, T, z3⟩
  · rw [if_pos h24]; exact ⟨_, s, rfl, own_Zm (by omega) Z⟩
  · rw [if_neg (by rw [h24]; decide)]
    obtain ⟨I, K8, h23, hroot, hch⟩ := R
    have l16 := own_lo16 I
    have Ne := I.2.2.2.2.2.2.2.2.1
    have t16 := T.2.2.2.2.1.2
    have end63 : ∀ (N' U' K' m' q' : Nat) (lo' : List Nat) (L' : Nat → Nat) (c' : Nat → Nat → Nat) (s' : St), own_R V d N' U' lo' L' c' K' s' → U' ≤ 85 * m' + 3 * q' → m' ≤ q' → 3 * m' + q' ≤ k + 1 + K' → ∃ q t, f_commitTable_63 n s' = some (q, t) ∧ own_Z V d (k + 1) t := fun N' U' K' m' q' lo' L' c' s' R' b1 b2 b3 => by
      unfold f_commitTable_63
      rw [bnd_eq, bnd_eq]
      refine ⟨_, _, rfl, N', U', lo', L', c', K', m', q', own_RF (fun j hj => ?_) (fun j _ => rfl) R', b1, b2, Or.inl ⟨rfl, b3⟩⟩
      rw [setI_1, if_neg (by omega), setI_1, if_neg (by omega)]
    rw [h23]
    by_cases g : K < 8
    · rw [if_pos (ltZ (z := 8) 8 rfl g (by omega))]
      have m17 : m ≤ 17 := by omega
      have er : f_ensureRoom s = some () := by
        unfold f_ensureRoom
        rw [I.1.2.2.1, show Int32.ofNat N + 512 = Int32.ofNat (N + 512) from N_add N 512, if_neg (show ¬ (2048 : Int32) < Int32.ofNat (N + 512) from own_nlt (i := 2048) (by omega) (by omega))]
      rw [er, Option.bind_some]
      obtain ⟨r, N1, U1, lo1, L1, c1, s1, e1, e2, e3, e4, e5, e6, e7⟩ := own_cmp (n := n) hn I (by omega) T
      rw [e1, Option.bind_some]
      have h231 : s1.1 23 = Int32.ofNat K := by rw [e7.1 23 (by decide)]; exact h23
      obtain ⟨r0, hr0, er0⟩ := hroot K (Nat.le_refl _)
      have root1 : s1.2 0 K = Int32.ofNat r0 := by rw [e7.2 0 (by decide) (by decide) (by decide) (by decide) (by decide) (by decide)]; exact er0
      have hN1 := e3.1
      obtain ⟨r2, N2, U2, lo2, L2, c2, s2, f1, f2, f3, f4, f5, f6⟩ := own_cj (n := n) (a := r0) (b := r) hn e2 (by omega) (by omega) e4
      have hN2 := f3.1
      show ∃ q t, (grd (inb (s1.1 23) 9) <| (f_conjoin n (s1.2 0 (ix (s1.1 23))) (Int32.ofNat r) s1).bind fun q8 => bnd (setI q8.2 23 ((q8.2.1 23) + (1 : Int32))) fun s10 => grd (inb (s10.1 23) 9) <| bnd (setA s10 0 (ix (s10.1 23)) q8.1) fun s12 => f_commitTable_63 n s12) = some (q, t) ∧ own_Z V d (k + 1) t
      rw [h231, grd_pos (inbN (by omega) (by omega)), ix_N (by omega), root1, f1, Option.bind_some, bnd_eq]
      have h232 : s2.1 23 = Int32.ofNat K := by rw [f6.1 23 (by decide) (by decide)]; exact h231
      show ∃ q t, (grd (inb ((setI s2 23 (s2.1 23 + 1)).1 23) 9) <| bnd (setA (setI s2 23 (s2.1 23 + 1)) 0 (ix ((setI s2 23 (s2.1 23 + 1)).1 23)) (Int32.ofNat r2)) fun s12 => f_commitTable_63 n s12) = some (q, t) ∧ own_Z V d (k + 1) t
      rw [show (setI s2 23 (s2.1 23 + 1)).1 23 = Int32.ofNat (K + 1) by rw [setI_1, if_pos (by trivial), h232, N_succ], grd_pos (inbN (by omega) (by omega)), bnd_eq, ix_N (by omega)]
      obtain ⟨s3, es3⟩ : ∃ s3, s3 = setA (setI s2 23 (s2.1 23 + 1)) 0 (K + 1) (Int32.ofNat r2) := ⟨_, rfl⟩
      rw [← es3]
      have g1 : ∀ j, j ≠ 23 → s3.1 j = s2.1 j := fun j hj => by rw [es3]; show (setI s2 23 (s2.1 23 + 1)).1 j = _; rw [setI_1, if_neg hj]
      have g23 : s3.1 23 = Int32.ofNat (K + 1) := by rw [es3]; show (setI s2 23 (s2.1 23 + 1)).1 23 = _; rw [setI_1, if_pos (by trivial), h232, N_succ]
      have g2 : ∀ j, j ≠ 0 → s3.2 j = s2.2 j := fun j hj => by rw [es3]; funext y; rw [setA_2, if_neg (fun w => hj w.1)]; rfl
      have g0 : ∀ y, s3.2 0 y = if y = K + 1 then Int32.ofNat r2 else s2.2 0 y := fun y => by
        rw [es3, setA_2]
        by_cases e : y = K + 1
        · rw [if_pos ⟨by trivial, e⟩, if_pos e]
        · rw [if_neg (fun w => e w.2), if_neg e]; rfl
      have c0 : s2.2 0 = s.2 0 := (f6.2 0 (by omega)).trans (e7.2 0 (by decide) (by decide) (by decide) (by decide) (by decide) (by decide))
      have c2' : s2.2 2 = s.2 2 := (f6.2 2 (by omega)).trans (e7.2 2 (by decide) (by decide) (by decide) (by decide) (by decide) (by decide))
      have R3 : own_R V d N2 U2 lo2 L2 c2 (K + 1) s3 := ⟨own_NF (g1 20 (by decide)) (g1 21 (by decide)) (g1 22 (by decide)) (g2 5 (by decide)) (g2 6 (by decide)) (g2 7 (by decide)) f2, by omega, g23, fun j hj => by
        rw [g0]
        by_cases e : j = K + 1
        · rw [if_pos e]; exact ⟨r2, f5, rfl⟩
        · rw [if_neg e, c0]
          obtain ⟨y, y1, y2⟩ := hroot j (by omega)
          exact ⟨y, by omega, y2⟩, by rw [g2 2 (by decide), c2']; exact hch⟩
      by_cases t0 : t = 0
      · have r0' := e6 t0
        rw [if_pos r0'] at f4
        exact end63 N2 U2 (K + 1) m q lo2 L2 c2 s3 R3 (by omega) z2 (by omega)
      · have : (if r = 0 then 0 else 85) ≤ 85 := by split <;> omega
        exact end63 N2 U2 (K + 1) (m + 1) (q + t) lo2 L2 c2 s3 R3 (by omega) (by omega) (by omega)
    · rw [if_neg (by rw [show K = 8 by omega]; decide)]
      exact end63 N U K m q lo L c s ⟨I, K8, h23, hroot, hch⟩ z1 z2 (by omega)
theorem own_Zab (Z : own_Z V d k s) : ∃ q t, f_abortTable s = some (q, t) ∧ own_Z V d (k + 1) t := by
  obtain ⟨N, U, lo, L, c, K, m, q, R, z1, z2, z3⟩ := id Z
  unfold f_abortTable
  rcases z3 with ⟨h24, z3⟩ | ⟨h24, ar, u, w, x, t, mt, T, z3⟩
  · rw [if_pos h24]; exact ⟨_, s, rfl, own_Zm (by omega) Z⟩
  · rw [if_neg (by rw [h24]; decide), bnd_eq, bnd_eq]
    refine ⟨_, _, rfl, N, U, lo, L, c, K, m, q, own_RF (fun j hj => ?_) (fun j _ => rfl) R, z1, z2, Or.inl ⟨rfl, by omega⟩⟩
    rw [setI_1, if_neg (by omega), setI_1, if_neg (by omega)]
theorem own_Zdr (Z : own_Z V d k s) : ∃ q t, f_dropLastTable s = some (q, t) ∧ own_Z V d (k + 1) t := by
  obtain ⟨N, U, lo, L, c, K, m, q, R, z1, z2, z3⟩ := id Z
  obtain ⟨I, K8, h23, hroot, hch⟩ := R
  unfold f_dropLastTable
  rw [h23]
  by_cases g : 0 < K
  · obtain ⟨K', rfl⟩ : ∃ K', K = K' + 1 := ⟨K - 1, by omega⟩
    rw [if_pos ((own_pos (by omega)).mpr g), bnd_eq, own_pred]
    refine ⟨_, _, rfl, N, U, lo, L, c, K', m, q, ⟨own_NF (by rw [setI_1, if_neg (by decide)]) (by rw [setI_1, if_neg (by decide)]) (by rw [setI_1, if_neg (by decide)]) rfl rfl rfl I, by omega, by rw [setI_1, if_pos (by trivial)], fun j hj => hroot j (by omega), hch⟩, z1, z2, ?_⟩
    rcases z3 with ⟨h24, z3⟩ | ⟨h24, ar, u, w, x, t, mt, T, z3⟩
    · exact Or.inl ⟨by rw [setI_1, if_neg (by decide)]; exact h24, by omega⟩
    · exact Or.inr ⟨by rw [setI_1, if_neg (by decide)]; exact h24, ar, u, w, x, t, mt, own_TbF (fun j _ _ => by rw [setI_1, if_neg (by omega)]) rfl T, by omega⟩
  · rw [if_neg (fun w => g ((own_pos (by omega)).mp w))]
    exact ⟨_, s, rfl, own_Zm (by omega) Z⟩
/-- a choice is set -/
theorem own_Zch (Z : own_Z V d k s) {v : Nat} {y : Int32} (hy : y = -1 ∨ ∃ x, x < d ∧ y = Int32.ofNat x) : own_Z V d k (setA s 2 v y) := by
  obtain ⟨N, U, lo, L, c, K, m, q, R, z1, z2, z3⟩ := Z
  obtain ⟨I, K8, h23, hroot, hch⟩ := R
  have e : ∀ j, j ≠ 2 → (setA s 2 v y).2 j = s.2 j := fun j hj => by funext z; rw [setA_2, if_neg (fun w => hj w.1)]
  refine ⟨N, U, lo, L, c, K, m, q, ⟨own_NF rfl rfl rfl (e 5 (by decide)) (e 6 (by decide)) (e 7 (by decide)) I, K8, h23, by rw [e 0 (by decide)]; exact hroot, fun l hl => ?_⟩, z1, z2, ?_⟩
  · rw [setA_2]
    by_cases g : l = v
    · rw [if_pos ⟨by trivial, g⟩]; exact hy
    · rw [if_neg (fun w => g w.2)]; exact hch l hl
  · rcases z3 with z3 | ⟨h24, ar, u, w, x, t, mt, T, z3⟩
    · exact Or.inl z3
    · exact Or.inr ⟨h24, ar, u, w, x, t, mt, own_TbF (fun _ _ _ => rfl) (e 1 (by decide)) T, z3⟩
theorem own_Zre (Z : own_Z V d k s) (a0 : Int32) : ∃ q t, f_retract a0 s = some (q, t) ∧ own_Z V d (k + 1) t := by
  obtain ⟨N, U, lo, L, c, K, m, q, R, z1, z2, z3⟩ := id Z
  have v5 := R.1.1.2.2.2.2.2.2.1
  obtain ⟨q0, p0, r0⟩ := own_vi R.1 a0
  unfold f_retract
  rw [p0, Option.bind_some]
  rcases r0 with ⟨g, -⟩ | ⟨g, v, hv, ev⟩
  · rw [if_pos g]; exact ⟨_, s, rfl, own_Zm (by omega) Z⟩
  · rw [if_neg g, ev, grd_pos (inbN (by omega) (by omega)), ix_N (by omega), bnd_eq]
    split
    · exact ⟨_, s, rfl, own_Zm (by omega) Z⟩
    · exact ⟨_, _, rfl, own_Zm (by omega) (own_Zch Z (Or.inl rfl))⟩
theorem own_Zcl (hn : 10 ≤ n) (Z : own_Z V d k s) : ∃ t, f_clearChoices n s = some t ∧ own_Z V d (k + 1) t := by
  have lp : ∀ (m i j : Nat) (s : St), i + m = 5 → m < j → own_Z V d k s → ∃ t, f_clearChoices_2 n j (Int32.ofNat i) s = some t ∧ own_Z V d (k + 1) t := by
    intro m
    induction m with
    | zero =>
      intro i j s hi hj Z
      obtain ⟨j, rfl⟩ : ∃ k', j = k' + 1 := ⟨j - 1, by omega⟩
      rw [u_clearChoices_2, if_neg (by rw [show i = 5 by omega]; decide)]
      exact ⟨s, rfl, own_Zm (by omega) Z⟩
    | succ m ih =>
      intro i j s hi hj Z
      obtain ⟨j, rfl⟩ : ∃ k', j = k' + 1 := ⟨j - 1, by omega⟩
      rw [u_clearChoices_2, if_pos (ltZ (z := 5) 5 rfl (by omega) (by omega)), grd_pos (inbN (by omega) (by omega)), bnd_eq, ix_N (by omega), N_succ]
      exact ih (i + 1) j _ (by omega) (by omega) (own_Zch Z (Or.inl rfl))
  unfold f_clearChoices
  exact lp 5 0 n s (by omega) (by omega) Z
end

/-! ### the whole law -/
theorem own_cell (sn : Nat) (sf : Nat → Int32) (h : sn ≤ 260) {j : Nat} (hj : j < 1000) : ∃ v, f_hcell sn sf (Int32.ofNat j) = some v := by
  unfold f_hcell
  by_cases q : j < sn
  · rw [if_pos (show Int32.ofNat j < Int32.ofNat sn from ltN q (by omega)), grd_pos (inbN q (by omega))]; exact ⟨_, rfl⟩
  · rw [if_neg (show ¬ Int32.ofNat j < Int32.ofNat sn from own_nlt (by omega) (by omega))]; exact ⟨_, rfl⟩
theorem own_pick (x : Int32) {m : Nat} (h1 : 1 ≤ m) (h2 : m < 100) : ∃ v, f_hpick x (Int32.ofNat m) = some v := by
  unfold f_hpick
  split
  · exact ⟨_, rfl⟩
  · rw [grd_pos (show Int32.ofNat m ≠ 0 from own_ne (j := 0) (by omega) (by omega) (by omega))]; exact ⟨_, rfl⟩
section
variable {V d n sn k : Nat} {sf : Nat → Int32} {k35 : Int32 → St → Option (Int32 × St)} {s : St}
/-- what the turns behind answer -/
def own_C (V d k : Nat) (k35 : Int32 → St → Option (Int32 × St)) : Prop := ∀ s, own_Z V d (k + 1) s → ∃ w, k35 (Int32.ofNat (2 + 4 * (k + 1))) s = some (1, w)
theorem own_433 (hn : 5000 ≤ n) (C : own_C V d k k35) (Z : own_Z V d (k + 1) s) : ∃ w, f_law_433 n sn sf k35 (Int32.ofNat (2 + 4 * k)) s = some (1, w) := by
  obtain ⟨N, U, lo, L, c, K, m, q, R, z1, z2, z3⟩ := id Z
  obtain ⟨t, t1, t2⟩ := own_hc (n := n) hn R
  unfold f_law_433
  rw [t1, Option.bind_some, if_neg (show ¬ (1 : Int32) = 0 by decide), show (4 : Int32) = Int32.ofNat 4 from rfl, N_add]
  exact C t (own_ZF t2.1 (fun j hj => t2.2 j (by omega) (by omega)) Z)
theorem own_cho (hn : 5000 ≤ n) (C : own_C V d k k35) (Z : own_Z V d k s) (v x : Int32) :
    ∃ w, (if v < 0 then f_law_290 n sn sf k35 (Int32.ofNat (2 + 4 * k)) v x 0 s else if v < Int32.ofNat V then (if x < 0 then f_law_290 n sn sf k35 (Int32.ofNat (2 + 4 * k)) v x 0 s else if x < Int32.ofNat d then f_law_290 n sn sf k35 (Int32.ofNat (2 + 4 * k)) v x 1 s else f_law_290 n sn sf k35 (Int32.ofNat (2 + 4 * k)) v x 0 s) else f_law_290 n sn sf k35 (Int32.ofNat (2 + 4 * k)) v x 0 s) = some (1, w) := by
  obtain ⟨N, U, lo, L, c, K, m, q, R, z1, z2, z3⟩ := id Z
  obtain ⟨-, i21, -, n2, n20, v1, v5, d2, d4⟩ := R.1.1
  obtain ⟨qv, pv, rv⟩ := own_vi R.1 v
  obtain ⟨qx, px, rx⟩ := own_di R.1 x
  have go : own_Z V d (k + 1) s := own_Zm (by omega) Z
  -- out of range: refused
  have out : (¬ ∃ u, u < V ∧ v = Int32.ofNat u) ∨ (¬ ∃ u, u < d ∧ x = Int32.ofNat u) → ∃ w, f_law_290 n sn sf k35 (Int32.ofNat (2 + 4 * k)) v x 0 s = some (1, w) := fun h => by
    have ch : ∃ e, f_choose n v x s = some (e, s) ∧ e ≠ 0 := by
      unfold f_choose
      rw [pv, Option.bind_some]
      rcases rv with ⟨g, -⟩ | ⟨g, gv⟩
      · rw [if_pos g]; exact ⟨_, rfl, by decide⟩
      · rw [if_neg g, px, Option.bind_some]
        rcases rx with ⟨g', -⟩ | ⟨g', gx⟩
        · rw [if_pos g']; exact ⟨_, rfl, by decide⟩
        · rcases h with h | h
          · exact absurd gv h
          · exact absurd gx h
    obtain ⟨e, e1, e2⟩ := ch
    unfold f_law_290 f_law_312 f_law_331 f_law_353 f_law_375
    rw [if_pos rfl, if_pos rfl, if_pos rfl, e1, Option.bind_some, if_neg e2, if_pos rfl, if_neg e2]
    exact own_433 hn C go
  by_cases v0 : v < 0
  · rw [if_pos v0]; exact out (Or.inl (fun ⟨u, u1, u2⟩ => by rw [u2] at v0; exact N_neg (by omega) v0))
  rw [if_neg v0]
  by_cases vV : ¬ v < Int32.ofNat V
  · rw [if_neg vV]; exact out (Or.inl (fun ⟨u, u1, u2⟩ => vV (by rw [u2]; exact ltN u1 (by omega))))
  replace vV := Decidable.not_not.mp vV
  rw [if_pos vV]
  by_cases x0 : x < 0
  · rw [if_pos x0]; exact out (Or.inr (fun ⟨u, u1, u2⟩ => by rw [u2] at x0; exact N_neg (by omega) x0))
  rw [if_neg x0]
  by_cases xd : ¬ x < Int32.ofNat d
  · rw [if_neg xd]; exact out (Or.inr (fun ⟨u, u1, u2⟩ => xd (by rw [u2]; exact ltN u1 (by omega))))
  replace xd := Decidable.not_not.mp xd
  rw [if_pos xd]
  obtain ⟨v', hv, rfl⟩ := cases_N (by omega) v0 vV
  obtain ⟨x', hx, rfl⟩ := cases_N (by omega) x0 xd
  obtain ⟨r, hr, h0⟩ := R.2.2.2.1 K (Nat.le_refl _)
  have cv : f_chosenValue s (Int32.ofNat v') = some (s.2 2 v') := by
    unfold f_chosenValue
    rw [own_vv R.1 hv, Option.bind_some, if_neg (by decide), grd_pos (inbN (by omega) (by omega)), ix_N (by omega)]
  obtain ⟨t, t1, t2⟩ := own_cw (n := n) hn R.1 (own_Rfix R) (x := x') R.2.1 R.2.2.1 h0 hr hv hx
  have Rt := own_Rn t2 R
  have Zt : own_Z V d k t := own_ZF t2.1 (fun j hj => t2.2 j (by omega) (by omega)) Z
  have et : t.2 2 = s.2 2 := t2.2 2 (by decide) (by decide)
  have h0t : t.2 0 K = Int32.ofNat r := by rw [t2.2 0 (by decide) (by decide)]; exact h0
  obtain ⟨B, hB⟩ : ∃ B, B = own_T V d L c (own_up (s.2 2) v' (Int32.ofNat x')) V r := ⟨_, rfl⟩
  have T4 := own_Tle (V := V) (d := d) (L := L) (c := c) (F := own_up (s.2 2) v' (Int32.ofNat x')) d4 V r
  have p5 : 4 ^ V ≤ 4 ^ 5 := Nat.pow_le_pow_right (by omega) v5
  rw [← hB] at t1 T4
  have ch0 : f_choose n (Int32.ofNat v') (Int32.ofNat x') t = if t.2 2 v' < 0 then (f_countWith n (Int32.ofNat v') (Int32.ofNat x') t).bind fun q9 => if q9.1 = 0 then some ((-7 : Int32), q9.2) else bnd (setA q9.2 2 (ix (Int32.ofNat v')) (Int32.ofNat x')) fun s12 => some ((0 : Int32), s12) else some ((-8 : Int32), t) := by
    unfold f_choose
    rw [own_vv Rt.1 hv, Option.bind_some, if_neg (by decide), own_vd Rt.1 hx, Option.bind_some, if_neg (by decide), grd_pos (inbN (by omega) (by omega)), ix_N (by omega)]
  have n10 : ¬ (1 : Int32) = 0 := by decide
  have h312 : ∀ g : Int32, f_law_312 n sn sf k35 (Int32.ofNat (2 + 4 * k)) (Int32.ofNat v') (Int32.ofNat x') 1 g s = f_law_331 n sn sf k35 (Int32.ofNat (2 + 4 * k)) (Int32.ofNat v') (Int32.ofNat x') 1 g (Int32.ofNat B) t := fun g => by
    unfold f_law_312
    rw [if_neg n10, t1, Option.bind_some]
  unfold f_law_290
  rw [if_neg n10, cv, Option.bind_some]
  rcases R.2.2.2.2 v' (by omega) with w | ⟨y, y1, y2⟩
  · rw [if_pos w, h312]
    unfold f_law_331
    rw [if_neg n10, if_neg n10]
    obtain ⟨t', t1', t2'⟩ := own_cw (n := n) hn Rt.1 (own_Rfix Rt) (x := x') Rt.2.1 Rt.2.2.1 h0t hr hv hx
    rw [et, ← hB] at t1'
    rw [et, w, if_pos (by decide), t1', Option.bind_some] at ch0
    have Rt' := own_Rn t2' Rt
    by_cases b0 : 0 < B
    · rw [if_pos (show (0 : Int32) < Int32.ofNat B from (own_pos (by omega)).mpr b0)]
      rw [if_neg (show ¬ Int32.ofNat B = 0 from own_ne (j := 0) (by omega) (by omega) (by omega)), bnd_eq, ix_N (by omega)] at ch0
      have ch1 : f_choose n (Int32.ofNat v') (Int32.ofNat x') t = some (0, setA t' 2 v' (Int32.ofNat x')) := ch0
      have Zc : own_Z V d k (setA t' 2 v' (Int32.ofNat x')) := own_Zch (own_ZF t2'.1 (fun j hj => t2'.2 j (by omega) (by omega)) Zt) (Or.inr ⟨x', hx, rfl⟩)
      have Rc : own_R V d N U lo L c K (setA t' 2 v' (Int32.ofNat x')) := by
        obtain ⟨I, K8, h23, hroot, hch⟩ := Rt'
        have e : ∀ j, j ≠ 2 → (setA t' 2 v' (Int32.ofNat x')).2 j = t'.2 j := fun j hj => by funext z; rw [setA_2, if_neg (fun w => hj w.1)]
        refine ⟨own_NF rfl rfl rfl (e 5 (by decide)) (e 6 (by decide)) (e 7 (by decide)) I, K8, h23, by rw [e 0 (by decide)]; exact hroot, fun l hl => ?_⟩
        rw [setA_2]
        by_cases g : l = v'
        · rw [if_pos ⟨by trivial, g⟩]; exact Or.inr ⟨x', hx, rfl⟩
        · rw [if_neg (fun w => g w.2)]; exact hch l hl
      have F2 : (setA t' 2 v' (Int32.ofNat x')).2 2 = own_up (s.2 2) v' (Int32.ofNat x') := by
        funext l
        rw [setA_2]
        unfold own_up
        by_cases g : l = v'
        · rw [if_pos ⟨by trivial, g⟩, if_pos g]
        · rw [if_neg (fun w => g w.2), if_neg g, t2'.2 2 (by decide) (by decide), et]
      obtain ⟨y, y1, y2⟩ := own_cnt (n := n) hn Rc.1 (own_Rfix Rc) Rc.2.1 Rc.2.2.1 (r := r) (by rw [setA_2, if_neg (fun w => absurd w.1 (by decide)), t2'.2 0 (by decide) (by decide)]; exact h0t) hr
      rw [F2, ← hB] at y1
      unfold f_law_353
      rw [ch1, Option.bind_some, if_pos rfl]
      unfold f_law_375
      rw [if_pos rfl, if_pos rfl, if_pos (show (0 : Int32) < Int32.ofNat B from (own_pos (by omega)).mpr b0), y1, Option.bind_some, if_pos rfl]
      exact own_433 hn C (own_Zm (by omega) (own_ZF y2.1 (fun j hj => y2.2 j (by omega) (by omega)) Zc))
    · rw [if_neg (show ¬ (0 : Int32) < Int32.ofNat B from fun w => b0 ((own_pos (by omega)).mp w))]
      have B0 : B = 0 := by omega
      rw [if_pos (show Int32.ofNat B = 0 by rw [B0]; rfl)] at ch0
      have ch1 : f_choose n (Int32.ofNat v') (Int32.ofNat x') t = some (-7, t') := ch0
      unfold f_law_353 f_law_375
      rw [ch1, Option.bind_some, if_neg (show ¬ (-7 : Int32) = 0 by decide), if_pos rfl, if_neg (show ¬ (-7 : Int32) = 0 by decide)]
      exact own_433 hn C (own_Zm (by omega) (own_ZF t2'.1 (fun j hj => t2'.2 j (by omega) (by omega)) Zt))
  · rw [y2, if_neg (fun w => absurd (show Int32.ofNat y < 0 by rw [w]; decide) (N_neg (by omega))), h312]
    unfold f_law_331
    rw [if_neg n10, if_pos rfl]
    rw [et, y2, if_neg (N_neg (by omega))] at ch0
    unfold f_law_353 f_law_375
    rw [ch0, Option.bind_some, if_neg (show ¬ (-8 : Int32) = 0 by decide), if_pos rfl, if_neg (show ¬ (-8 : Int32) = 0 by decide)]
    exact own_433 hn C (own_Zm (by omega) Zt)
theorem own_loop (hn : 5000 ≤ n) (hsn : sn ≤ 260) : ∀ (m k j : Nat) (s : St), k + m = 65 → m < j → own_Z V d k s → ∃ w, f_law_35 n sn sf j (Int32.ofNat (2 + 4 * k)) s = some (1, w) := by
  intro m
  induction m with
  | zero =>
    intro k j s hk hj Z
    obtain ⟨j, rfl⟩ : ∃ k', j = k' + 1 := ⟨j - 1, by omega⟩
    rw [u_law_35, if_neg (show ¬ Int32.ofNat (2 + 4 * k) < Int32.ofNat sn from own_nlt (by omega) (by omega))]
    exact ⟨s, rfl⟩
  | succ m ih =>
    intro k j s hk hj Z
    obtain ⟨j, rfl⟩ : ∃ k', j = k' + 1 := ⟨j - 1, by omega⟩
    by_cases g : 2 + 4 * k < sn
    · obtain ⟨N, U, lo, L, c, K, m', q', R, z1, z2, z3⟩ := id Z
      obtain ⟨i20, i21, -, n2, n20, v1, v5, d2, d4⟩ := R.1.1
      have C : own_C V d k (f_law_35 n sn sf j) := fun s Z => ih (k + 1) j s (by omega) (by omega) Z
      obtain ⟨c0, e0⟩ := own_cell sn sf hsn (j := 2 + 4 * k) (by omega)
      obtain ⟨c1, e1⟩ := own_cell sn sf hsn (j := 2 + 4 * k + 1) (by omega)
      obtain ⟨c2, e2⟩ := own_cell sn sf hsn (j := 2 + 4 * k + 2) (by omega)
      obtain ⟨c3, e3⟩ := own_cell sn sf hsn (j := 2 + 4 * k + 3) (by omega)
      obtain ⟨pV1, hV1⟩ := own_pick c1 (m := V) v1 (by omega)
      obtain ⟨pV2, hV2⟩ := own_pick c2 (m := V) v1 (by omega)
      obtain ⟨pV3, hV3⟩ := own_pick c3 (m := V) v1 (by omega)
      obtain ⟨pd1, hd1⟩ := own_pick c1 (m := d) (by omega) (by omega)
      obtain ⟨pd2, hd2⟩ := own_pick c2 (m := d) (by omega) (by omega)
      obtain ⟨pd3, hd3⟩ := own_pick c3 (m := d) (by omega) (by omega)
      rw [u_law_35, if_pos (show Int32.ofNat (2 + 4 * k) < Int32.ofNat sn from ltN g (by omega)), e0, Option.bind_some, show Int32.ofNat (2 + 4 * k) + 1 = Int32.ofNat (2 + 4 * k + 1) from N_add _ 1, show Int32.ofNat (2 + 4 * k) + 2 = Int32.ofNat (2 + 4 * k + 2) from N_add _ 2, show Int32.ofNat (2 + 4 * k) + 3 = Int32.ofNat (2 + 4 * k + 3) from N_add _ 3, e1, Option.bind_some, e2, Option.bind_some, e3, Option.bind_some, show f_numVars s = some (Int32.ofNat V) by unfold f_numVars; rw [i20], Option.bind_some, show f_domainSize s = some (Int32.ofNat d) by unfold f_domainSize; rw [i21], Option.bind_some]
      by_cases o1 : (1 : Int32) < c0 &&& 15
      · rw [if_pos o1]
        by_cases o5 : (5 : Int32) < c0 &&& 15
        · rw [if_pos o5]
          by_cases o7 : (7 : Int32) < c0 &&& 15
          · rw [if_pos o7]
            by_cases o8 : c0 &&& 15 = 8
            · rw [if_pos o8]
              obtain ⟨q, t, t1, t2⟩ := own_Zab Z
              rw [t1, Option.bind_some]
              exact own_433 hn C t2
            · rw [if_neg o8]
              by_cases o9 : c0 &&& 15 = 9
              · rw [if_pos o9]
                obtain ⟨q, t, t1, t2⟩ := own_Zdr Z
                rw [t1, Option.bind_some]
                exact own_433 hn C t2
              · rw [if_neg o9]
                by_cases o12 : (12 : Int32) < c0 &&& 15
                · rw [if_pos o12]
                  by_cases o14 : (14 : Int32) < c0 &&& 15
                  · rw [if_pos o14]
                    obtain ⟨t, t1, t2⟩ := own_Zcl (n := n) (by omega) Z
                    rw [t1, Option.bind_some]
                    exact own_433 hn C t2
                  · rw [if_neg o14, hV1, Option.bind_some]
                    obtain ⟨q, t, t1, t2⟩ := own_Zre Z pV1
                    rw [t1, Option.bind_some]
                    exact own_433 hn C t2
                · rw [if_neg o12, hV1, Option.bind_some, hd2, Option.bind_some]
                  exact own_cho hn C Z pV1 pd2
          · rw [if_neg o7]
            obtain ⟨q, t, t1, t2⟩ := own_Zco (n := n) hn (by omega) Z
            rw [t1, Option.bind_some]
            exact own_433 hn C t2
        · rw [if_neg o5, hd1, Option.bind_some, hd2, Option.bind_some, hd3, Option.bind_some]
          obtain ⟨q, t, t1, t2⟩ := own_Zat (n := n) hn Z pd1 pd2 pd3
          rw [t1, Option.bind_some]
          exact own_433 hn C t2
      · have bg : ∀ a b : Int32, ∃ w, f_law_123 n sn sf (f_law_35 n sn sf j) (Int32.ofNat (2 + 4 * k)) c3 (Int32.ofNat V) a b s = some (1, w) := fun a b => by
          have b145 : ∀ z, ∃ w, f_law_145 n sn sf (f_law_35 n sn sf j) (Int32.ofNat (2 + 4 * k)) a b z s = some (1, w) := fun z => by
            unfold f_law_145
            obtain ⟨q, t, t1, t2⟩ := own_Zbt Z a b z
            rw [t1, Option.bind_some]
            exact own_433 hn C t2
          unfold f_law_123
          split
          · exact b145 _
          · rw [hV3, Option.bind_some]; exact b145 _
        rw [if_neg o1, hV1, Option.bind_some]
        split
        · exact bg _ _
        · rw [hV2, Option.bind_some]; exact bg _ _
    · rw [u_law_35, if_neg (show ¬ Int32.ofNat (2 + 4 * k) < Int32.ofNat sn from own_nlt (by omega) (by omega))]
      exact ⟨s, rfl⟩
theorem own_ct215 (hn : 5000 ≤ n) {V d : Nat} (v1 : 1 ≤ V) (v5 : V ≤ 5) (d2 : 2 ≤ d) (d4 : d ≤ 4) {s : St} (h20 : s.1 20 = Int32.ofNat V) (hz : ∀ j x, s.2 j x = 0) : ∃ t, f_ctor_215 n (Int32.ofNat d) s = some t ∧ own_Z V d 0 t := by
  unfold f_ctor_215
  rw [bnd_eq, bnd_eq, bnd_eq, bnd_eq, show ix (0 : Int32) = 0 from rfl, show ix (1 : Int32) = 1 from rfl]
  obtain ⟨s1, es⟩ : ∃ s1, s1 = setI (setA (setA (setI s 21 (Int32.ofNat d)) 5 0 ((setI s 21 (Int32.ofNat d)).1 20)) 5 1 ((setA (setI s 21 (Int32.ofNat d)) 5 0 ((setI s 21 (Int32.ofNat d)).1 20)).1 20)) 22 2 := ⟨_, rfl⟩
  rw [← es]
  have a20 : s1.1 20 = Int32.ofNat V := by rw [es]; exact h20
  have a21 : s1.1 21 = Int32.ofNat d := by rw [es]; rfl
  have a22 : s1.1 22 = 2 := by rw [es]; rfl
  have a5 : ∀ x, x < 2 → s1.2 5 x = Int32.ofNat V := fun x hx => by
    rw [es, setI_2, setA_2, setA_2]
    match x, hx with
    | 0, _ => rw [if_neg (fun w => by omega), if_pos ⟨by trivial, by trivial⟩]; exact h20
    | 1, _ => rw [if_pos ⟨by trivial, by trivial⟩]; exact h20
  have ao : ∀ j, j ≠ 5 → ∀ x, s1.2 j x = 0 := fun j hj x => by
    rw [es, setI_2, setA_2, if_neg (fun w => hj w.1), setA_2, if_neg (fun w => hj w.1)]; exact hz j x
  clear es
  have cu : f_clearUnique n s1 = some (s1.1, fun k x => if k = 7 ∧ x < 4096 then 0 else s1.2 k x) := by
    have q := loopN (F := f_clearUnique_2 n) (N := 4096) (f := fun i s => setA s 7 i 0) (fin := fun s => some s)
      (fun k i s hi => by rw [u_clearUnique_2, if_pos (ltZ (z := 4096) 4096 rfl hi (by omega)), grd_pos (inbN (n := 4096) hi (by omega)), bnd_eq, ix_N (by omega)])
      (fun k s => by rw [u_clearUnique_2, if_neg (by decide)]) 4096 0 n s1 (by omega) (by omega)
    rw [itr_fill] at q
    exact q
  rw [cu, Option.bind_some, bnd_eq, bnd_eq, bnd_eq]
  obtain ⟨s2, es2⟩ : ∃ s2 : St, s2 = setI (setA (setI (s1.1, fun k x => if k = 7 ∧ x < 4096 then 0 else s1.2 k x) 23 0) 0 0 1) 24 (0 &&& 1) := ⟨_, rfl⟩
  rw [← es2]
  have b1 : ∀ j, j ≠ 23 → j ≠ 24 → s2.1 j = s1.1 j := fun j h3 h4 => by rw [es2, setI_1, if_neg h4]; show (setI (s1.1, _) 23 0).1 j = _; rw [setI_1, if_neg h3]
  have b23 : s2.1 23 = Int32.ofNat 0 := by rw [es2]; rfl
  have b24 : s2.1 24 = 0 := by rw [es2]; rfl
  have b0 : s2.2 0 0 = Int32.ofNat 1 := by rw [es2, setI_2, setA_2, if_pos ⟨by trivial, by trivial⟩]; rfl
  have b7 : ∀ x, x < 4096 → s2.2 7 x = 0 := fun x hx => by
    rw [es2, setI_2, setA_2, if_neg (fun w => by omega), setI_2]
    show (if 7 = 7 ∧ x < 4096 then (0 : Int32) else s1.2 7 x) = 0
    rw [if_pos ⟨rfl, hx⟩]
  have b5 : s2.2 5 = s1.2 5 := by
    funext x
    rw [es2, setI_2, setA_2, if_neg (fun w => by omega), setI_2]
    show (if 5 = 7 ∧ x < 4096 then (0 : Int32) else s1.2 5 x) = _
    rw [if_neg (fun w => by omega)]
  clear es2
  have lp : ∀ (m i k : Nat) (t : St), i + m = 5 → m < k → t.1 = s2.1 → (∀ j, j ≠ 2 → t.2 j = s2.2 j) → (∀ l, l < i → t.2 2 l = -1) → ∃ t', f_ctor_266 n k (Int32.ofNat i) t = some t' ∧ t'.1 = s2.1 ∧ (∀ j, j ≠ 2 → t'.2 j = s2.2 j) ∧ (∀ l, l < 5 → t'.2 2 l = -1) := by
    intro m
    induction m with
    | zero =>
      intro i k t hi hk t1 t2 t3
      obtain ⟨k, rfl⟩ : ∃ k', k = k' + 1 := ⟨k - 1, by omega⟩
      rw [u_ctor_266, if_neg (by rw [show i = 5 by omega]; decide)]
      exact ⟨t, rfl, t1, t2, fun l hl => t3 l (by omega)⟩
    | succ m ih =>
      intro i k t hi hk t1 t2 t3
      obtain ⟨k, rfl⟩ : ∃ k', k = k' + 1 := ⟨k - 1, by omega⟩
      rw [u_ctor_266, if_pos (ltZ (z := 5) 5 rfl (by omega) (by omega)), grd_pos (inbN (by omega) (by omega)), bnd_eq, ix_N (by omega), N_succ]
      refine ih (i + 1) k _ (by omega) (by omega) t1 (fun j hj => by funext x; rw [setA_2, if_neg (fun w => hj w.1), t2 j hj]) (fun l hl => ?_)
      rw [setA_2]
      by_cases e : l = i
      · rw [if_pos ⟨by trivial, e⟩]
      · rw [if_neg (fun w => e w.2)]; exact t3 l (by omega)
  obtain ⟨t, t1, t2, t3, t4⟩ := lp 5 0 n s2 (by omega) (by omega) rfl (fun _ _ => rfl) (fun l hl => by omega)
  refine ⟨t, t1, 2, 0, [], fun _ => V, fun _ _ => 0, 0, 0, 0, ⟨⟨⟨by rw [t2, b1 20 (by decide) (by decide)]; exact a20, by rw [t2, b1 21 (by decide) (by decide)]; exact a21, by rw [t2, b1 22 (by decide) (by decide)]; exact a22, by omega, by omega, v1, v5, d2, d4⟩, fun i hi => ⟨by rw [t3 5 (by decide), b5]; exact a5 i hi, Nat.le_refl _⟩, ⟨rfl, rfl⟩, fun i h2 hi => by omega, ⟨[], by simp, fun h hh _ => by rw [t3 7 (by decide)]; exact b7 h hh⟩, fun h hh => Or.inl (by rw [t3 7 (by decide)]; exact b7 h hh), fun i h2 hi => by omega, fun i j h2 hi => by omega, by simp, by simp, fun y hy => by simp at hy⟩, by omega, by rw [t2]; exact b23, fun j hj => ⟨1, by omega, by rw [t3 0 (by decide), show j = 0 by omega]; exact b0⟩, fun l hl => Or.inl (t4 l hl)⟩, by omega, by omega, Or.inl ⟨by rw [t2]; exact b24, by omega⟩⟩
theorem own_ct (hn : 5000 ≤ n) {a b : Nat} (ha : a ≤ 7) (hb : b ≤ 7) : ∃ V d t, f_ctor n (Int32.ofNat a) (Int32.ofNat b) = some t ∧ own_Z V d 0 t := by
  have c192 : ∀ W, 1 ≤ W → W ≤ 5 → ∃ V d t, f_ctor_192 n (Int32.ofNat b) (Int32.ofNat W) zeroS = some t ∧ own_Z V d 0 t := fun W v1 v5 => by
    unfold f_ctor_192
    rw [bnd_eq]
    have go : ∀ d, 2 ≤ d → d ≤ 4 → ∃ V d' t, f_ctor_215 n (Int32.ofNat d) (setI zeroS 20 (Int32.ofNat W)) = some t ∧ own_Z V d' 0 t := fun d d2 d4 => by
      obtain ⟨t, t1, t2⟩ := own_ct215 (n := n) (s := setI zeroS 20 (Int32.ofNat W)) hn v1 v5 d2 d4 rfl (fun _ _ => rfl)
      exact ⟨W, d, t, t1, t2⟩
    by_cases q : b < 2
    · rw [if_pos (ltZ (z := 2) 2 rfl q (by omega))]; exact go 2 (by omega) (by omega)
    · rw [if_neg (show ¬ Int32.ofNat b < 2 from own_nlt (j := 2) (by omega) (by omega))]
      by_cases q2 : 4 < b
      · rw [if_pos (show 4 < Int32.ofNat b from ltN (i := 4) q2 (by omega))]; exact go 4 (by omega) (by omega)
      · rw [if_neg (show ¬ 4 < Int32.ofNat b from own_nlt (i := 4) (by omega) (by omega))]; exact go b (by omega) (by omega)
  unfold f_ctor f_ctor_172
  by_cases q : a < 1
  · rw [if_pos (ltZ (z := 1) 1 rfl q (by omega))]; exact c192 1 (by omega) (by omega)
  · rw [if_neg (show ¬ Int32.ofNat a < 1 from own_nlt (j := 1) (by omega) (by omega))]
    by_cases q2 : 5 < a
    · rw [if_pos (show 5 < Int32.ofNat a from ltN (i := 5) q2 (by omega))]; exact c192 5 (by omega) (by omega)
    · rw [if_neg (show ¬ 5 < Int32.ofNat a from own_nlt (i := 5) (by omega) (by omega))]; exact c192 a (by omega) (by omega)
end
theorem plain : ∀ (sn : Nat) (sf : Nat → Int32), sn ≤ 260 → ∃ n w, f_law n sn sf = some (1, w) := by
  intro sn sf hsn
  obtain ⟨n, hn⟩ : ∃ n : Nat, 5000 ≤ n := ⟨5000, Nat.le_refl _⟩
  refine ⟨n, ?_⟩
  obtain ⟨v0, e0⟩ := own_cell sn sf hsn (j := 0) (by omega)
  obtain ⟨v1, e1⟩ := own_cell sn sf hsn (j := 1) (by omega)
  obtain ⟨a, a1, a2⟩ := own_and v0 (M := 7) (by omega)
  obtain ⟨b, b1, b2⟩ := own_and v1 (M := 7) (by omega)
  obtain ⟨V, d, s, s1, Z⟩ := own_ct (n := n) hn a1 b1
  unfold f_law f_law_23
  rw [show f_hcell sn sf 0 = some v0 from e0, Option.bind_some, show f_hcell sn sf 1 = some v1 from e1, Option.bind_some, show v0 &&& 7 = Int32.ofNat a from a2, show v1 &&& 7 = Int32.ofNat b from b2, s1, Option.bind_some]
  obtain ⟨N, U, lo, L, c, K, m, q, R, z1, z2, z3⟩ := id Z
  obtain ⟨t, t1, t2⟩ := own_hc (n := n) hn R
  rw [t1, Option.bind_some, if_neg (show ¬ (1 : Int32) = 0 by decide)]
  exact own_loop hn hsn 65 0 n t (by omega) (by omega) (own_ZF t2.1 (fun j hj => t2.2 j (by omega) (by omega)) Z)
theorem main_1_1 : Claimed_1_1 := comes_1 plain fun _ _ _ _ _ _ h hF => ⟨h.1, hF⟩
theorem main_1_2 : Claimed_1_2 := comes_1 plain fun _ _ _ _ _ _ h hF => ⟨h.2.1, hF⟩


end Jvm.Pilot.@@N@@
namespace Jvm.Pilot.@@N@@
open Jvm Jvm.ClassFile Sem Op Lib Jvm.Free Jvm.Stand Jvm.Pilot.@@N@@.Jvm.D
/-! MADE BY PROGRAM (witnessworld.py) out of the Statement's table words and the real class files: 11 classes; the members and pool entries that the words name. The judged class is class 1, her method 4. -/
namespace start1
open Jvm.ClassFile
def u (s : String) : CpInfo := .utf8 (stringToUtf16 s)
/-- a pool by its gaps: so many unusable entries, then the entry; so many at the end -/
def gap : Nat → List CpInfo → List CpInfo
  | 0, r => r
  | n + 1, r => .unusable :: gap n r
def poolList (es : List (Nat × CpInfo)) (last : Nat) : List CpInfo := es.foldr (fun e r => gap e.1 (e.2 :: r)) (gap last [])
def pool (es : List (Nat × CpInfo)) (last : Nat) : Array CpInfo := ⟨poolList es last⟩
def fileOf (pool : Array CpInfo) (this : Nat) (attrs : Array Attribute := #[]) (ms : Array MethodInfo := #[]) (fl : Nat := 33) (sup : Nat := 0) (ifs : Array Nat := #[]) (fds : Array FieldInfo := #[]) : ClassFile where
  minorVersion := 0
  majorVersion := 65
  constantPool := pool
  accessFlags := fl
  thisClass := this
  superClass := sup
  interfaces := ifs
  fields := fds
  methods := ms
  attributes := attrs
def plain (name : String) (sup : Option ClassId) : Class where
  name := name
  kind := .ordinary
  loader := none
  accessFlags := 33
  super := sup
  interfaces := #[]
  cf := none
  fields := #[]
  methods := #[]
  instanceTypes := #[]
  staticTypes := #[]
  resolved := #[]
  callSites := []
  init := .initialized
  statics := none
  mirror := none

def pool0 : Array CpInfo := pool [(5, u "<init>"), (0, u "()V"), (1, .class_ 10), (1, u "java/lang/Object")] 113

def k0c0 : Code := { maxStack := 0, maxLocals := 1, code := object_method_1_code, exceptionTable := #[], attributes := #[] }
def k0m0 : Method := { name := "<init>", desc := "()V", sig := { parameters := [], returnType := none }, accessFlags := 1, code := some k0c0 }
/-- java/lang/Object -/
def k0 : Class := { plain "java/lang/Object" none with
  accessFlags := 33
  interfaces := #[]
  cf := some (fileOf pool0 8 #[] #[{ accessFlags := 1, nameIndex := 5, descriptorIndex := 6, attributes := #[] }] 33 0 #[] #[])
  fields := #[]
  methods := #[k0m0]
  instanceTypes := #[]
  staticTypes := #[]
  resolved := Array.replicate 124 none
  statics := none }

def pool1 : Array CpInfo := pool [(2, .class_ 4), (1, u "java/lang/Object"), (0, u "<init>"), (0, u "()V"), (0, .methodref 8 9), (0, .class_ 10), (0, .nameAndType 11 12), (0, u "MddConfigurator"), (0, u "numVars"), (0, u "()I"), (0, .methodref 8 14), (0, .nameAndType 15 12), (0, u "domainSize"), (0, .methodref 8 17), (0, .nameAndType 18 12), (0, u "count"), (0, .methodref 8 20), (0, .nameAndType 21 22), (0, u "chosenValue"), (0, u "(I)I"), (0, .methodref 8 24), (0, .nameAndType 25 22), (0, u "offeredMask"), (0, .methodref 8 27), (0, .nameAndType 28 29), (0, u "countWith"), (0, u "(II)I"), (0, .methodref 31 32), (0, .class_ 33), (0, .nameAndType 34 35), (0, u "MddConfiguratorOwnLaw"), (0, u "cell"), (0, u "([II)I"), (0, .methodref 8 37), (0, .nameAndType 5 38), (0, u "(II)V"), (0, .methodref 31 40), (0, .nameAndType 41 42), (0, u "check"), (0, u "(LMddConfigurator;)Z"), (0, .methodref 31 44), (0, .nameAndType 45 29), (0, u "pick"), (0, .methodref 8 47), (0, .nameAndType 48 49), (0, u "beginTable"), (0, u "(III)I"), (0, .methodref 8 51), (0, .nameAndType 52 49), (0, u "addTuple"), (0, .methodref 8 54), (0, .nameAndType 55 12), (0, u "commitTable"), (0, .methodref 8 57), (0, .nameAndType 58 12), (0, u "abortTable"), (0, .methodref 8 60), (0, .nameAndType 61 12), (0, u "dropLastTable"), (0, .methodref 8 63), (0, .nameAndType 64 29), (0, u "choose"), (0, .methodref 8 66), (0, .nameAndType 67 22), (0, u "retract"), (0, .methodref 8 69), (0, .nameAndType 70 6), (0, u "clearChoices"), (3, u "law"), (0, u "([I)Z")] 4

def k1m0 : Method := { name := "<init>", desc := "()V", sig := { parameters := [], returnType := none }, accessFlags := 1, code := none }
def k1c1 : Code := { maxStack := 2, maxLocals := 2, code := method_2_code, exceptionTable := #[], attributes := #[] }
def k1m1 : Method := { name := "cell", desc := "([II)I", sig := { parameters := [(.array .int), .int], returnType := some .int }, accessFlags := 10, code := some k1c1 }
def k1c2 : Code := { maxStack := 2, maxLocals := 2, code := method_3_code, exceptionTable := #[], attributes := #[] }
def k1m2 : Method := { name := "pick", desc := "(II)I", sig := { parameters := [.int, .int], returnType := some .int }, accessFlags := 10, code := some k1c2 }
def k1c3 : Code := { maxStack := 4, maxLocals := 12, code := method_4_code, exceptionTable := #[], attributes := #[] }
def k1m3 : Method := { name := "check", desc := "(LMddConfigurator;)Z", sig := { parameters := [(.object "MddConfigurator")], returnType := some .boolean }, accessFlags := 10, code := some k1c3 }
def k1c4 : Code := { maxStack := 5, maxLocals := 16, code := code, exceptionTable := #[], attributes := #[] }
def k1m4 : Method := { name := "law", desc := "([I)Z", sig := { parameters := [(.array .int)], returnType := some .boolean }, accessFlags := 9, code := some k1c4 }
/-- MddConfiguratorOwnLaw -/
def k1 : Class := { plain "MddConfiguratorOwnLaw" (some 0) with
  accessFlags := 33
  interfaces := #[]
  cf := some (fileOf pool1 31 #[] #[{ accessFlags := 1, nameIndex := 5, descriptorIndex := 6, attributes := #[] }, { accessFlags := 10, nameIndex := 34, descriptorIndex := 35, attributes := #[] }, { accessFlags := 10, nameIndex := 45, descriptorIndex := 29, attributes := #[] }, { accessFlags := 10, nameIndex := 41, descriptorIndex := 42, attributes := #[] }, { accessFlags := 9, nameIndex := 74, descriptorIndex := 75, attributes := #[] }] 33 2 #[] #[])
  fields := #[]
  methods := #[k1m0, k1m1, k1m2, k1m3, k1m4]
  instanceTypes := #[]
  staticTypes := #[]
  resolved := Array.replicate 80 none
  statics := none }

def pool2 : Array CpInfo := pool [(1, .methodref 2 3), (0, .class_ 4), (0, .nameAndType 5 6), (0, u "java/lang/Object"), (0, u "<init>"), (0, u "()V"), (0, .fieldref 8 9), (0, .class_ 10), (0, .nameAndType 11 12), (0, u "MddConfigurator"), (0, u "root"), (0, u "[I"), (0, .fieldref 8 14), (0, .nameAndType 15 12), (0, u "pendCode"), (0, .fieldref 8 17), (0, .nameAndType 18 12), (0, u "choice"), (0, .fieldref 8 20), (0, .nameAndType 21 12), (0, u "fix"), (0, .fieldref 8 23), (0, .nameAndType 24 12), (0, u "digit"), (0, .fieldref 8 26), (0, .nameAndType 27 12), (0, u "lvl"), (0, .fieldref 8 29), (0, .nameAndType 30 12), (0, u "kid"), (0, .fieldref 8 32), (0, .nameAndType 33 12), (0, u "uniq"), (0, .fieldref 8 35), (0, .nameAndType 36 37), (0, u "mark"), (0, u "[Z"), (0, .fieldref 8 39), (0, .nameAndType 40 12), (0, u "remap"), (0, .fieldref 8 42), (0, .nameAndType 43 12), (0, u "cnt"), (0, .fieldref 8 45), (0, .nameAndType 46 12), (0, u "buf"), (0, .fieldref 8 48), (0, .nameAndType 49 37), (0, u "allowT"), (0, .fieldref 8 51), (0, .nameAndType 52 12), (0, u "memoA"), (0, .fieldref 8 54), (0, .nameAndType 55 12), (0, u "memoB"), (0, .fieldref 8 57), (0, .nameAndType 58 12), (0, u "memoR"), (0, .fieldref 8 60), (0, .nameAndType 61 37), (0, u "memoUsed"), (0, .fieldref 8 63), (0, .nameAndType 64 12), (0, u "stU"), (0, .fieldref 8 66), (0, .nameAndType 67 12), (0, u "stV"), (0, .fieldref 8 69), (0, .nameAndType 70 12), (0, u "stPh"), (0, .fieldref 8 72), (0, .nameAndType 73 74), (0, u "n"), (0, u "I"), (0, .fieldref 8 76), (0, .nameAndType 77 74), (0, u "d"), (0, .fieldref 8 79), (0, .nameAndType 80 74), (0, u "top"), (0, .methodref 8 82), (0, .nameAndType 83 6), (0, u "clearUnique"), (0, .fieldref 8 85), (0, .nameAndType 86 74), (0, u "depth"), (0, .fieldref 8 88), (0, .nameAndType 89 90), (0, u "pending"), (0, u "Z"), (0, .methodref 8 92), (0, .nameAndType 93 94), (0, u "validVar"), (0, u "(I)Z"), (0, .fieldref 8 96), (0, .nameAndType 97 74), (0, u "pendArity"), (0, .fieldref 8 99), (0, .nameAndType 100 74), (0, u "pendA"), (0, .fieldref 8 102), (0, .nameAndType 103 74), (0, u "pendB"), (0, .fieldref 8 105), (0, .nameAndType 106 74), (0, u "pendC"), (0, .fieldref 8 108), (0, .nameAndType 109 74), (0, u "pendCount"), (0, .methodref 8 111), (0, .nameAndType 112 94), (0, u "validValue"), (0, .methodref 8 114), (0, .nameAndType 115 6), (0, u "ensureRoom"), (0, .methodref 8 117), (0, .nameAndType 118 119), (0, u "compileTable"), (0, u "()I"), (0, .methodref 8 121), (0, .nameAndType 122 123), (0, u "conjoin"), (0, u "(II)I"), (0, .methodref 8 125), (0, .nameAndType 126 123), (0, u "countWith"), (0, .methodref 8 128), (0, .nameAndType 129 6), (0, u "loadChoices"), (0, .methodref 8 131), (0, .nameAndType 132 119), (0, u "countFixed"), (0, .integer 1000003), (0, .integer 668265261), (0, .methodref 8 136), (0, .nameAndType 137 138), (0, u "hashOf"), (0, u "(IIIII)I"), (0, .methodref 8 140), (0, .nameAndType 141 142), (0, u "newNode"), (0, u "(IIIIII)I"), (0, .methodref 8 144), (0, .nameAndType 145 146), (0, u "sameNode"), (0, u "(IIIIII)Z"), (9, .methodref 8 157), (0, .nameAndType 158 159), (0, u "pow"), (0, u "(I)I"), (0, .methodref 8 161), (0, .nameAndType 162 163), (0, u "decode"), (0, u "(I)V"), (0, .methodref 8 165), (0, .nameAndType 166 119), (0, u "scopeCode"), (0, .methodref 8 168), (0, .nameAndType 169 119), (0, u "reduceBuffer"), (0, .methodref 8 171), (0, .nameAndType 172 138), (0, u "mk"), (0, .fieldref 8 174), (0, .nameAndType 175 74), (0, u "sp"), (0, .methodref 8 177), (0, .nameAndType 178 179), (0, u "push"), (0, u "(II)V"), (0, .integer 200000), (0, .methodref 8 182), (0, .nameAndType 183 6), (0, u "step"), (0, .methodref 8 185), (0, .nameAndType 186 123), (0, u "resolve"), (0, .methodref 8 188), (0, .nameAndType 189 179), (0, u "pushChildren"), (0, .methodref 8 191), (0, .nameAndType 192 179), (0, u "finishPair"), (0, .methodref 8 194), (0, .nameAndType 195 123), (0, u "topLevel"), (0, .methodref 8 197), (0, .nameAndType 198 199), (0, u "cofactor"), (0, u "(III)I"), (0, .methodref 8 201), (0, .nameAndType 202 203), (0, u "childResult"), (0, u "(IIII)I"), (0, .methodref 8 205), (0, .nameAndType 206 207), (0, u "memoStore"), (0, u "(III)V"), (0, .methodref 8 209), (0, .nameAndType 210 123), (0, u "memoFind"), (0, .methodref 8 212), (0, .nameAndType 213 123), (0, u "memoSlot"), (0, .methodref 8 215), (0, .nameAndType 216 159), (0, u "nodeCount"), (0, .methodref 8 218), (0, .nameAndType 219 123), (0, u "gap"), (0, u "OK"), (2, u "BAD_VAR"), (1, u "BAD_VALUE"), (1, u "PENDING"), (1, u "NO_PENDING"), (1, u "DUPLICATE"), (1, u "FULL"), (1, u "CONFLICT"), (1, u "ALREADY"), (1, u "NOT_CHOSEN"), (1, u "NO_TABLE"), (1, u "BAD_SCOPE"), (1, u "MAX_TABLES"), (1, u "MAX_TUPLES"), (4, u "numVars"), (0, u "domainSize"), (0, u "beginTable"), (0, u "addTuple"), (0, u "commitTable"), (0, u "abortTable"), (0, u "dropLastTable"), (0, u "choose"), (0, u "retract"), (0, u "clearChoices"), (0, u "chosenValue"), (0, u "offeredMask"), (0, u "count")] 5

def k2c0 : Code := { maxStack := 3, maxLocals := 4, code := prog_1_method_1_code, exceptionTable := #[], attributes := #[] }
def k2m0 : Method := { name := "<init>", desc := "(II)V", sig := { parameters := [.int, .int], returnType := none }, accessFlags := 1, code := some k2c0 }
def k2c1 : Code := { maxStack := 1, maxLocals := 1, code := prog_1_method_2_code, exceptionTable := #[], attributes := #[] }
def k2m1 : Method := { name := "numVars", desc := "()I", sig := { parameters := [], returnType := some .int }, accessFlags := 1, code := some k2c1 }
def k2c2 : Code := { maxStack := 1, maxLocals := 1, code := prog_1_method_3_code, exceptionTable := #[], attributes := #[] }
def k2m2 : Method := { name := "domainSize", desc := "()I", sig := { parameters := [], returnType := some .int }, accessFlags := 1, code := some k2c2 }
def k2c3 : Code := { maxStack := 2, maxLocals := 5, code := prog_1_method_4_code, exceptionTable := #[], attributes := #[] }
def k2m3 : Method := { name := "beginTable", desc := "(III)I", sig := { parameters := [.int, .int, .int], returnType := some .int }, accessFlags := 1, code := some k2c3 }
def k2c4 : Code := { maxStack := 3, maxLocals := 6, code := prog_1_method_5_code, exceptionTable := #[], attributes := #[] }
def k2m4 : Method := { name := "addTuple", desc := "(III)I", sig := { parameters := [.int, .int, .int], returnType := some .int }, accessFlags := 1, code := some k2c4 }
def k2c5 : Code := { maxStack := 3, maxLocals := 3, code := prog_1_method_6_code, exceptionTable := #[], attributes := #[] }
def k2m5 : Method := { name := "commitTable", desc := "()I", sig := { parameters := [], returnType := some .int }, accessFlags := 1, code := some k2c5 }
def k2c6 : Code := { maxStack := 2, maxLocals := 1, code := prog_1_method_7_code, exceptionTable := #[], attributes := #[] }
def k2m6 : Method := { name := "abortTable", desc := "()I", sig := { parameters := [], returnType := some .int }, accessFlags := 1, code := some k2c6 }
def k2c7 : Code := { maxStack := 3, maxLocals := 1, code := prog_1_method_8_code, exceptionTable := #[], attributes := #[] }
def k2m7 : Method := { name := "dropLastTable", desc := "()I", sig := { parameters := [], returnType := some .int }, accessFlags := 1, code := some k2c7 }
def k2c8 : Code := { maxStack := 3, maxLocals := 3, code := prog_1_method_9_code, exceptionTable := #[], attributes := #[] }
def k2m8 : Method := { name := "choose", desc := "(II)I", sig := { parameters := [.int, .int], returnType := some .int }, accessFlags := 1, code := some k2c8 }
def k2c9 : Code := { maxStack := 3, maxLocals := 2, code := prog_1_method_10_code, exceptionTable := #[], attributes := #[] }
def k2m9 : Method := { name := "retract", desc := "(I)I", sig := { parameters := [.int], returnType := some .int }, accessFlags := 1, code := some k2c9 }
def k2c10 : Code := { maxStack := 3, maxLocals := 2, code := prog_1_method_11_code, exceptionTable := #[], attributes := #[] }
def k2m10 : Method := { name := "clearChoices", desc := "()V", sig := { parameters := [], returnType := none }, accessFlags := 1, code := some k2c10 }
def k2c11 : Code := { maxStack := 2, maxLocals := 2, code := prog_1_method_12_code, exceptionTable := #[], attributes := #[] }
def k2m11 : Method := { name := "chosenValue", desc := "(I)I", sig := { parameters := [.int], returnType := some .int }, accessFlags := 1, code := some k2c11 }
def k2c12 : Code := { maxStack := 3, maxLocals := 4, code := prog_1_method_13_code, exceptionTable := #[], attributes := #[] }
def k2m12 : Method := { name := "offeredMask", desc := "(I)I", sig := { parameters := [.int], returnType := some .int }, accessFlags := 1, code := some k2c12 }
def k2c13 : Code := { maxStack := 1, maxLocals := 1, code := prog_1_method_14_code, exceptionTable := #[], attributes := #[] }
def k2m13 : Method := { name := "count", desc := "()I", sig := { parameters := [], returnType := some .int }, accessFlags := 1, code := some k2c13 }
def k2c14 : Code := { maxStack := 3, maxLocals := 3, code := prog_1_method_15_code, exceptionTable := #[], attributes := #[] }
def k2m14 : Method := { name := "countWith", desc := "(II)I", sig := { parameters := [.int, .int], returnType := some .int }, accessFlags := 1, code := some k2c14 }
def k2c15 : Code := { maxStack := 2, maxLocals := 2, code := prog_1_method_18_code, exceptionTable := #[], attributes := #[] }
def k2m15 : Method := { name := "validVar", desc := "(I)Z", sig := { parameters := [.int], returnType := some .boolean }, accessFlags := 2, code := some k2c15 }
def k2c16 : Code := { maxStack := 2, maxLocals := 2, code := prog_1_method_19_code, exceptionTable := #[], attributes := #[] }
def k2m16 : Method := { name := "validValue", desc := "(I)Z", sig := { parameters := [.int], returnType := some .boolean }, accessFlags := 2, code := some k2c16 }
def k2c17 : Code := { maxStack := 2, maxLocals := 4, code := prog_1_method_20_code, exceptionTable := #[], attributes := #[] }
def k2m17 : Method := { name := "pow", desc := "(I)I", sig := { parameters := [.int], returnType := some .int }, accessFlags := 2, code := some k2c17 }
def k2c18 : Code := { maxStack := 3, maxLocals := 2, code := prog_1_method_21_code, exceptionTable := #[], attributes := #[] }
def k2m18 : Method := { name := "clearUnique", desc := "()V", sig := { parameters := [], returnType := none }, accessFlags := 2, code := some k2c18 }
def k2c19 : Code := { maxStack := 3, maxLocals := 7, code := prog_1_method_22_code, exceptionTable := #[], attributes := #[] }
def k2m19 : Method := { name := "hashOf", desc := "(IIIII)I", sig := { parameters := [.int, .int, .int, .int, .int], returnType := some .int }, accessFlags := 2, code := some k2c19 }
def k2c20 : Code := { maxStack := 3, maxLocals := 8, code := prog_1_method_23_code, exceptionTable := #[], attributes := #[] }
def k2m20 : Method := { name := "sameNode", desc := "(IIIIII)Z", sig := { parameters := [.int, .int, .int, .int, .int, .int], returnType := some .boolean }, accessFlags := 2, code := some k2c20 }
def k2c21 : Code := { maxStack := 7, maxLocals := 10, code := prog_1_method_24_code, exceptionTable := #[], attributes := #[] }
def k2m21 : Method := { name := "mk", desc := "(IIIII)I", sig := { parameters := [.int, .int, .int, .int, .int], returnType := some .int }, accessFlags := 2, code := some k2c21 }
def k2c22 : Code := { maxStack := 3, maxLocals := 9, code := prog_1_method_25_code, exceptionTable := #[], attributes := #[] }
def k2m22 : Method := { name := "newNode", desc := "(IIIIII)I", sig := { parameters := [.int, .int, .int, .int, .int, .int], returnType := some .int }, accessFlags := 2, code := some k2c22 }
def k2c23 : Code := { maxStack := 2, maxLocals := 1, code := prog_1_method_26_code, exceptionTable := #[], attributes := #[] }
def k2m23 : Method := { name := "ensureRoom", desc := "()V", sig := { parameters := [], returnType := none }, accessFlags := 2, code := some k2c23 }
def k2c24 : Code := { maxStack := 4, maxLocals := 3, code := prog_1_method_30_code, exceptionTable := #[], attributes := #[] }
def k2m24 : Method := { name := "compileTable", desc := "()I", sig := { parameters := [], returnType := some .int }, accessFlags := 2, code := some k2c24 }
def k2c25 : Code := { maxStack := 4, maxLocals := 4, code := prog_1_method_31_code, exceptionTable := #[], attributes := #[] }
def k2m25 : Method := { name := "decode", desc := "(I)V", sig := { parameters := [.int], returnType := none }, accessFlags := 2, code := some k2c25 }
def k2c26 : Code := { maxStack := 3, maxLocals := 2, code := prog_1_method_32_code, exceptionTable := #[], attributes := #[] }
def k2m26 : Method := { name := "scopeCode", desc := "()I", sig := { parameters := [], returnType := some .int }, accessFlags := 2, code := some k2c26 }
def k2c27 : Code := { maxStack := 8, maxLocals := 9, code := prog_1_method_33_code, exceptionTable := #[], attributes := #[] }
def k2m27 : Method := { name := "reduceBuffer", desc := "()I", sig := { parameters := [], returnType := some .int }, accessFlags := 2, code := some k2c27 }
def k2c28 : Code := { maxStack := 3, maxLocals := 4, code := prog_1_method_34_code, exceptionTable := #[], attributes := #[] }
def k2m28 : Method := { name := "conjoin", desc := "(II)I", sig := { parameters := [.int, .int], returnType := some .int }, accessFlags := 2, code := some k2c28 }
def k2c29 : Code := { maxStack := 3, maxLocals := 3, code := prog_1_method_35_code, exceptionTable := #[], attributes := #[] }
def k2m29 : Method := { name := "push", desc := "(II)V", sig := { parameters := [.int, .int], returnType := none }, accessFlags := 2, code := some k2c29 }
def k2c30 : Code := { maxStack := 3, maxLocals := 4, code := prog_1_method_36_code, exceptionTable := #[], attributes := #[] }
def k2m30 : Method := { name := "step", desc := "()V", sig := { parameters := [], returnType := none }, accessFlags := 2, code := some k2c30 }
def k2c31 : Code := { maxStack := 3, maxLocals := 3, code := prog_1_method_37_code, exceptionTable := #[], attributes := #[] }
def k2m31 : Method := { name := "topLevel", desc := "(II)I", sig := { parameters := [.int, .int], returnType := some .int }, accessFlags := 2, code := some k2c31 }
def k2c32 : Code := { maxStack := 3, maxLocals := 4, code := prog_1_method_38_code, exceptionTable := #[], attributes := #[] }
def k2m32 : Method := { name := "cofactor", desc := "(III)I", sig := { parameters := [.int, .int, .int], returnType := some .int }, accessFlags := 2, code := some k2c32 }
def k2c33 : Code := { maxStack := 4, maxLocals := 7, code := prog_1_method_39_code, exceptionTable := #[], attributes := #[] }
def k2m33 : Method := { name := "pushChildren", desc := "(II)V", sig := { parameters := [.int, .int], returnType := none }, accessFlags := 2, code := some k2c33 }
def k2c34 : Code := { maxStack := 4, maxLocals := 8, code := prog_1_method_40_code, exceptionTable := #[], attributes := #[] }
def k2m34 : Method := { name := "childResult", desc := "(IIII)I", sig := { parameters := [.int, .int, .int, .int], returnType := some .int }, accessFlags := 2, code := some k2c34 }
def k2c35 : Code := { maxStack := 6, maxLocals := 9, code := prog_1_method_41_code, exceptionTable := #[], attributes := #[] }
def k2m35 : Method := { name := "finishPair", desc := "(II)V", sig := { parameters := [.int, .int], returnType := none }, accessFlags := 2, code := some k2c35 }
def k2c36 : Code := { maxStack := 3, maxLocals := 3, code := prog_1_method_42_code, exceptionTable := #[], attributes := #[] }
def k2m36 : Method := { name := "resolve", desc := "(II)I", sig := { parameters := [.int, .int], returnType := some .int }, accessFlags := 2, code := some k2c36 }
def k2c37 : Code := { maxStack := 3, maxLocals := 4, code := prog_1_method_43_code, exceptionTable := #[], attributes := #[] }
def k2m37 : Method := { name := "memoSlot", desc := "(II)I", sig := { parameters := [.int, .int], returnType := some .int }, accessFlags := 2, code := some k2c37 }
def k2c38 : Code := { maxStack := 3, maxLocals := 7, code := prog_1_method_44_code, exceptionTable := #[], attributes := #[] }
def k2m38 : Method := { name := "memoFind", desc := "(II)I", sig := { parameters := [.int, .int], returnType := some .int }, accessFlags := 2, code := some k2c38 }
def k2c39 : Code := { maxStack := 3, maxLocals := 8, code := prog_1_method_45_code, exceptionTable := #[], attributes := #[] }
def k2m39 : Method := { name := "memoStore", desc := "(III)V", sig := { parameters := [.int, .int, .int], returnType := none }, accessFlags := 2, code := some k2c39 }
def k2c40 : Code := { maxStack := 4, maxLocals := 2, code := prog_1_method_46_code, exceptionTable := #[], attributes := #[] }
def k2m40 : Method := { name := "loadChoices", desc := "()V", sig := { parameters := [], returnType := none }, accessFlags := 2, code := some k2c40 }
def k2c41 : Code := { maxStack := 2, maxLocals := 5, code := prog_1_method_47_code, exceptionTable := #[], attributes := #[] }
def k2m41 : Method := { name := "gap", desc := "(II)I", sig := { parameters := [.int, .int], returnType := some .int }, accessFlags := 2, code := some k2c41 }
def k2c42 : Code := { maxStack := 4, maxLocals := 3, code := prog_1_method_48_code, exceptionTable := #[], attributes := #[] }
def k2m42 : Method := { name := "countFixed", desc := "()I", sig := { parameters := [], returnType := some .int }, accessFlags := 2, code := some k2c42 }
def k2c43 : Code := { maxStack := 4, maxLocals := 7, code := prog_1_method_49_code, exceptionTable := #[], attributes := #[] }
def k2m43 : Method := { name := "nodeCount", desc := "(I)I", sig := { parameters := [.int], returnType := some .int }, accessFlags := 2, code := some k2c43 }
/-- MddConfigurator -/
def k2 : Class := { plain "MddConfigurator" (some 0) with
  accessFlags := 49
  interfaces := #[]
  cf := some (fileOf pool2 8 #[] #[{ accessFlags := 1, nameIndex := 5, descriptorIndex := 179, attributes := #[] }, { accessFlags := 1, nameIndex := 252, descriptorIndex := 119, attributes := #[] }, { accessFlags := 1, nameIndex := 253, descriptorIndex := 119, attributes := #[] }, { accessFlags := 1, nameIndex := 254, descriptorIndex := 199, attributes := #[] }, { accessFlags := 1, nameIndex := 255, descriptorIndex := 199, attributes := #[] }, { accessFlags := 1, nameIndex := 256, descriptorIndex := 119, attributes := #[] }, { accessFlags := 1, nameIndex := 257, descriptorIndex := 119, attributes := #[] }, { accessFlags := 1, nameIndex := 258, descriptorIndex := 119, attributes := #[] }, { accessFlags := 1, nameIndex := 259, descriptorIndex := 123, attributes := #[] }, { accessFlags := 1, nameIndex := 260, descriptorIndex := 159, attributes := #[] }, { accessFlags := 1, nameIndex := 261, descriptorIndex := 6, attributes := #[] }, { accessFlags := 1, nameIndex := 262, descriptorIndex := 159, attributes := #[] }, { accessFlags := 1, nameIndex := 263, descriptorIndex := 159, attributes := #[] }, { accessFlags := 1, nameIndex := 264, descriptorIndex := 119, attributes := #[] }, { accessFlags := 1, nameIndex := 126, descriptorIndex := 123, attributes := #[] }, { accessFlags := 2, nameIndex := 93, descriptorIndex := 94, attributes := #[] }, { accessFlags := 2, nameIndex := 112, descriptorIndex := 94, attributes := #[] }, { accessFlags := 2, nameIndex := 158, descriptorIndex := 159, attributes := #[] }, { accessFlags := 2, nameIndex := 83, descriptorIndex := 6, attributes := #[] }, { accessFlags := 2, nameIndex := 137, descriptorIndex := 138, attributes := #[] }, { accessFlags := 2, nameIndex := 145, descriptorIndex := 146, attributes := #[] }, { accessFlags := 2, nameIndex := 172, descriptorIndex := 138, attributes := #[] }, { accessFlags := 2, nameIndex := 141, descriptorIndex := 142, attributes := #[] }, { accessFlags := 2, nameIndex := 115, descriptorIndex := 6, attributes := #[] }, { accessFlags := 2, nameIndex := 118, descriptorIndex := 119, attributes := #[] }, { accessFlags := 2, nameIndex := 162, descriptorIndex := 163, attributes := #[] }, { accessFlags := 2, nameIndex := 166, descriptorIndex := 119, attributes := #[] }, { accessFlags := 2, nameIndex := 169, descriptorIndex := 119, attributes := #[] }, { accessFlags := 2, nameIndex := 122, descriptorIndex := 123, attributes := #[] }, { accessFlags := 2, nameIndex := 178, descriptorIndex := 179, attributes := #[] }, { accessFlags := 2, nameIndex := 183, descriptorIndex := 6, attributes := #[] }, { accessFlags := 2, nameIndex := 195, descriptorIndex := 123, attributes := #[] }, { accessFlags := 2, nameIndex := 198, descriptorIndex := 199, attributes := #[] }, { accessFlags := 2, nameIndex := 189, descriptorIndex := 179, attributes := #[] }, { accessFlags := 2, nameIndex := 202, descriptorIndex := 203, attributes := #[] }, { accessFlags := 2, nameIndex := 192, descriptorIndex := 179, attributes := #[] }, { accessFlags := 2, nameIndex := 186, descriptorIndex := 123, attributes := #[] }, { accessFlags := 2, nameIndex := 213, descriptorIndex := 123, attributes := #[] }, { accessFlags := 2, nameIndex := 210, descriptorIndex := 123, attributes := #[] }, { accessFlags := 2, nameIndex := 206, descriptorIndex := 207, attributes := #[] }, { accessFlags := 2, nameIndex := 129, descriptorIndex := 6, attributes := #[] }, { accessFlags := 2, nameIndex := 219, descriptorIndex := 123, attributes := #[] }, { accessFlags := 2, nameIndex := 132, descriptorIndex := 119, attributes := #[] }, { accessFlags := 2, nameIndex := 216, descriptorIndex := 159, attributes := #[] }] 49 2 #[] #[{ accessFlags := 25, nameIndex := 220, descriptorIndex := 74, attributes := #[] }, { accessFlags := 25, nameIndex := 223, descriptorIndex := 74, attributes := #[] }, { accessFlags := 25, nameIndex := 225, descriptorIndex := 74, attributes := #[] }, { accessFlags := 25, nameIndex := 227, descriptorIndex := 74, attributes := #[] }, { accessFlags := 25, nameIndex := 229, descriptorIndex := 74, attributes := #[] }, { accessFlags := 25, nameIndex := 231, descriptorIndex := 74, attributes := #[] }, { accessFlags := 25, nameIndex := 233, descriptorIndex := 74, attributes := #[] }, { accessFlags := 25, nameIndex := 235, descriptorIndex := 74, attributes := #[] }, { accessFlags := 25, nameIndex := 237, descriptorIndex := 74, attributes := #[] }, { accessFlags := 25, nameIndex := 239, descriptorIndex := 74, attributes := #[] }, { accessFlags := 25, nameIndex := 241, descriptorIndex := 74, attributes := #[] }, { accessFlags := 25, nameIndex := 243, descriptorIndex := 74, attributes := #[] }, { accessFlags := 25, nameIndex := 245, descriptorIndex := 74, attributes := #[] }, { accessFlags := 25, nameIndex := 247, descriptorIndex := 74, attributes := #[] }, { accessFlags := 2, nameIndex := 73, descriptorIndex := 74, attributes := #[] }, { accessFlags := 2, nameIndex := 77, descriptorIndex := 74, attributes := #[] }, { accessFlags := 2, nameIndex := 86, descriptorIndex := 74, attributes := #[] }, { accessFlags := 2, nameIndex := 11, descriptorIndex := 12, attributes := #[] }, { accessFlags := 2, nameIndex := 89, descriptorIndex := 90, attributes := #[] }, { accessFlags := 2, nameIndex := 97, descriptorIndex := 74, attributes := #[] }, { accessFlags := 2, nameIndex := 100, descriptorIndex := 74, attributes := #[] }, { accessFlags := 2, nameIndex := 103, descriptorIndex := 74, attributes := #[] }, { accessFlags := 2, nameIndex := 106, descriptorIndex := 74, attributes := #[] }, { accessFlags := 2, nameIndex := 109, descriptorIndex := 74, attributes := #[] }, { accessFlags := 2, nameIndex := 15, descriptorIndex := 12, attributes := #[] }, { accessFlags := 2, nameIndex := 18, descriptorIndex := 12, attributes := #[] }, { accessFlags := 2, nameIndex := 21, descriptorIndex := 12, attributes := #[] }, { accessFlags := 2, nameIndex := 24, descriptorIndex := 12, attributes := #[] }, { accessFlags := 2, nameIndex := 80, descriptorIndex := 74, attributes := #[] }, { accessFlags := 2, nameIndex := 27, descriptorIndex := 12, attributes := #[] }, { accessFlags := 2, nameIndex := 30, descriptorIndex := 12, attributes := #[] }, { accessFlags := 2, nameIndex := 33, descriptorIndex := 12, attributes := #[] }, { accessFlags := 2, nameIndex := 36, descriptorIndex := 37, attributes := #[] }, { accessFlags := 2, nameIndex := 40, descriptorIndex := 12, attributes := #[] }, { accessFlags := 2, nameIndex := 43, descriptorIndex := 12, attributes := #[] }, { accessFlags := 2, nameIndex := 46, descriptorIndex := 12, attributes := #[] }, { accessFlags := 2, nameIndex := 49, descriptorIndex := 37, attributes := #[] }, { accessFlags := 2, nameIndex := 52, descriptorIndex := 12, attributes := #[] }, { accessFlags := 2, nameIndex := 55, descriptorIndex := 12, attributes := #[] }, { accessFlags := 2, nameIndex := 58, descriptorIndex := 12, attributes := #[] }, { accessFlags := 2, nameIndex := 61, descriptorIndex := 37, attributes := #[] }, { accessFlags := 2, nameIndex := 64, descriptorIndex := 12, attributes := #[] }, { accessFlags := 2, nameIndex := 67, descriptorIndex := 12, attributes := #[] }, { accessFlags := 2, nameIndex := 70, descriptorIndex := 12, attributes := #[] }, { accessFlags := 2, nameIndex := 175, descriptorIndex := 74, attributes := #[] }])
  fields := #[{ name := "OK", type := .int, accessFlags := 25, slot := 0, constantValue := 0 }, { name := "BAD_VAR", type := .int, accessFlags := 25, slot := 1, constantValue := 0 }, { name := "BAD_VALUE", type := .int, accessFlags := 25, slot := 2, constantValue := 0 }, { name := "PENDING", type := .int, accessFlags := 25, slot := 3, constantValue := 0 }, { name := "NO_PENDING", type := .int, accessFlags := 25, slot := 4, constantValue := 0 }, { name := "DUPLICATE", type := .int, accessFlags := 25, slot := 5, constantValue := 0 }, { name := "FULL", type := .int, accessFlags := 25, slot := 6, constantValue := 0 }, { name := "CONFLICT", type := .int, accessFlags := 25, slot := 7, constantValue := 0 }, { name := "ALREADY", type := .int, accessFlags := 25, slot := 8, constantValue := 0 }, { name := "NOT_CHOSEN", type := .int, accessFlags := 25, slot := 9, constantValue := 0 }, { name := "NO_TABLE", type := .int, accessFlags := 25, slot := 10, constantValue := 0 }, { name := "BAD_SCOPE", type := .int, accessFlags := 25, slot := 11, constantValue := 0 }, { name := "MAX_TABLES", type := .int, accessFlags := 25, slot := 12, constantValue := 0 }, { name := "MAX_TUPLES", type := .int, accessFlags := 25, slot := 13, constantValue := 0 }, { name := "n", type := .int, accessFlags := 2, slot := 0, constantValue := 0 }, { name := "d", type := .int, accessFlags := 2, slot := 1, constantValue := 0 }, { name := "depth", type := .int, accessFlags := 2, slot := 2, constantValue := 0 }, { name := "root", type := (.array .int), accessFlags := 2, slot := 3, constantValue := 0 }, { name := "pending", type := .boolean, accessFlags := 2, slot := 4, constantValue := 0 }, { name := "pendArity", type := .int, accessFlags := 2, slot := 5, constantValue := 0 }, { name := "pendA", type := .int, accessFlags := 2, slot := 6, constantValue := 0 }, { name := "pendB", type := .int, accessFlags := 2, slot := 7, constantValue := 0 }, { name := "pendC", type := .int, accessFlags := 2, slot := 8, constantValue := 0 }, { name := "pendCount", type := .int, accessFlags := 2, slot := 9, constantValue := 0 }, { name := "pendCode", type := (.array .int), accessFlags := 2, slot := 10, constantValue := 0 }, { name := "choice", type := (.array .int), accessFlags := 2, slot := 11, constantValue := 0 }, { name := "fix", type := (.array .int), accessFlags := 2, slot := 12, constantValue := 0 }, { name := "digit", type := (.array .int), accessFlags := 2, slot := 13, constantValue := 0 }, { name := "top", type := .int, accessFlags := 2, slot := 14, constantValue := 0 }, { name := "lvl", type := (.array .int), accessFlags := 2, slot := 15, constantValue := 0 }, { name := "kid", type := (.array .int), accessFlags := 2, slot := 16, constantValue := 0 }, { name := "uniq", type := (.array .int), accessFlags := 2, slot := 17, constantValue := 0 }, { name := "mark", type := (.array .boolean), accessFlags := 2, slot := 18, constantValue := 0 }, { name := "remap", type := (.array .int), accessFlags := 2, slot := 19, constantValue := 0 }, { name := "cnt", type := (.array .int), accessFlags := 2, slot := 20, constantValue := 0 }, { name := "buf", type := (.array .int), accessFlags := 2, slot := 21, constantValue := 0 }, { name := "allowT", type := (.array .boolean), accessFlags := 2, slot := 22, constantValue := 0 }, { name := "memoA", type := (.array .int), accessFlags := 2, slot := 23, constantValue := 0 }, { name := "memoB", type := (.array .int), accessFlags := 2, slot := 24, constantValue := 0 }, { name := "memoR", type := (.array .int), accessFlags := 2, slot := 25, constantValue := 0 }, { name := "memoUsed", type := (.array .boolean), accessFlags := 2, slot := 26, constantValue := 0 }, { name := "stU", type := (.array .int), accessFlags := 2, slot := 27, constantValue := 0 }, { name := "stV", type := (.array .int), accessFlags := 2, slot := 28, constantValue := 0 }, { name := "stPh", type := (.array .int), accessFlags := 2, slot := 29, constantValue := 0 }, { name := "sp", type := .int, accessFlags := 2, slot := 30, constantValue := 0 }]
  methods := #[k2m0, k2m1, k2m2, k2m3, k2m4, k2m5, k2m6, k2m7, k2m8, k2m9, k2m10, k2m11, k2m12, k2m13, k2m14, k2m15, k2m16, k2m17, k2m18, k2m19, k2m20, k2m21, k2m22, k2m23, k2m24, k2m25, k2m26, k2m27, k2m28, k2m29, k2m30, k2m31, k2m32, k2m33, k2m34, k2m35, k2m36, k2m37, k2m38, k2m39, k2m40, k2m41, k2m42, k2m43]
  instanceTypes := #[.int, .int, .int, (.array .int), .boolean, .int, .int, .int, .int, .int, (.array .int), (.array .int), (.array .int), (.array .int), .int, (.array .int), (.array .int), (.array .int), (.array .boolean), (.array .int), (.array .int), (.array .int), (.array .boolean), (.array .int), (.array .int), (.array .int), (.array .boolean), (.array .int), (.array .int), (.array .int), .int]
  staticTypes := #[.int, .int, .int, .int, .int, .int, .int, .int, .int, .int, .int, .int, .int, .int]
  resolved := Array.replicate 270 none
  statics := none }

def pool3 : Array CpInfo := pool [(1, u "java/lang/Cloneable"), (0, .class_ 1), (0, u "java/lang/Object"), (0, .class_ 3)] 3

/-- java/lang/Cloneable -/
def k3 : Class := { plain "java/lang/Cloneable" (some 0) with
  accessFlags := 1537
  interfaces := #[]
  cf := some (fileOf pool3 2 #[] #[] 1537 4 #[] #[])
  fields := #[]
  methods := #[]
  instanceTypes := #[]
  staticTypes := #[]
  resolved := Array.replicate 8 none
  statics := none }

def pool4 : Array CpInfo := pool [(1, u "java/io/Serializable"), (0, .class_ 1), (0, u "java/lang/Object"), (0, .class_ 3)] 3

/-- java/io/Serializable -/
def k4 : Class := { plain "java/io/Serializable" (some 0) with
  accessFlags := 1537
  interfaces := #[]
  cf := some (fileOf pool4 2 #[] #[] 1537 4 #[] #[])
  fields := #[]
  methods := #[]
  instanceTypes := #[]
  staticTypes := #[]
  resolved := Array.replicate 8 none
  statics := none }

/-- the primitive boolean -/
def k5 : Class := { plain "boolean" none with kind := .primitive 'Z', accessFlags := 0x411 }
/-- [Z -/
def k6 : Class := { plain "[Z" (some 0) with kind := .array 5 .boolean, interfaces := #[3, 4], accessFlags := 1041 }

/-- the primitive byte -/
def k7 : Class := { plain "byte" none with kind := .primitive 'B', accessFlags := 0x411 }
/-- [B -/
def k8 : Class := { plain "[B" (some 0) with kind := .array 7 .byte, interfaces := #[3, 4], accessFlags := 1041 }

/-- the primitive int -/
def k9 : Class := { plain "int" none with kind := .primitive 'I', accessFlags := 0x411 }
/-- [I -/
def k10 : Class := { plain "[I" (some 0) with kind := .array 9 .int, interfaces := #[3, 4], accessFlags := 1041 }

def heap : Heap := #[{ cls := 10, slots := #[.int 1, .int 2, .int 3], vm := .none }]
def classes : Array Class := #[k0, k1, k2, k3, k4, k5, k6, k7, k8, k9, k10]
def interned : List (Array UInt16 × Addr) := []
def slotsUsed : Nat := 3
def theMethod : MethodId := ⟨1, 4⟩
def args0 : Array Value := #[.ref 0]
def aboutOver (below : List Frame) : State where
  vm := { classes := classes, interned := interned.toArray }
  heap := heap
  slotsUsed := slotsUsed
  threads := #[{ frames := .invoking theMethod args0 :: below }]
def below0 : List Frame := [.native { method := ⟨0, 0⟩, args := #[] }]
def about1 : State := aboutOver below0
def p0 : Program := .bare "" "" ""
def e0 : Env := launch0.env 0 0 0
theorem w_frames : about1.frames = Frame.invoking theMethod args0 :: below0 := rfl
set_option maxRecDepth 65536 in
theorem w_args : argsFit about1.vm theMethod args0 = true := by decide +kernel
set_option maxRecDepth 65536 in
theorem w_heap : heapFits about1 = true := by decide +kernel
set_option maxRecDepth 65536 in
theorem w_runnable : about1.curStatus? = some .runnable := by decide +kernel
set_option maxRecDepth 65536 in
theorem w_alone : about1.alone = true := by decide +kernel
set_option maxRecDepth 65536 in
theorem w_named : about1.methodNamed? x = some theMethod := by decide +kernel
set_option maxRecDepth 65536 in
theorem w_hears : about1.hears theMethod below0 = true := by decide +kernel
set_option maxRecDepth 65536 in
theorem w_ripe : about1.ripe theMethod args0 below0 = true := by decide +kernel
theorem w_running : about1.status = .running := rfl
set_option maxRecDepth 65536 in
theorem w_room : about1.hasRoom e0.platform room_1 = true :=
  launch0.hasRoom_least _ room_1 (by decide +kernel) (by decide +kernel) (by decide +kernel) (by decide +kernel) (by decide +kernel) (by decide +kernel)
theorem allAtoms_all (ts : List Jvm.Cond) (a : Array Jvm.Value) (st : Jvm.State) : (allAtoms ts).before a st = ts.all (fun c => c.before a st) := by
  induction ts with
  | nil => rfl
  | cons c t ih =>
    show (Jvm.Cond.and c (allAtoms t)).before a st = _
    rw [Jvm.Cond.before_and, ih, List.all_cons]
def words1 : List Jvm.Cond := Jvm.Cond.code x code maxLocals ret :: tables_1
/-- a 'code' word, met by the world's own term for the bytes: nothing is compared byte by byte -/
theorem code_word {y : MethodName} {bytes : ByteArray} {mx : Nat} {rt : Option FieldType} {a : Array Value} {s : State} {m : MethodId} {meth : Method} {c : Code} (h1 : s.methodNamed? y = some m) (h2 : s.vm.method? m = some meth) (h3 : meth.code = some c) (h4 : c.code = bytes)
    (h5 : (c.maxLocals == mx && c.exceptionTable.isEmpty && decide (c.maxStack ≤ mostOperands) && decide (meth.sig.returnType = rt) && !meth.locks && decide (parseMethodDescriptor y.desc = some meth.sig)) = true) : (Jvm.Cond.code y bytes mx rt).before a s = true := by
  simp only [Bool.and_eq_true, beq_iff_eq, Bool.not_eq_true', decide_eq_true_eq] at h5
  obtain ⟨⟨⟨⟨⟨g1, g2⟩, g3⟩, g4⟩, g5⟩, g6⟩ := h5
  simp [Cond.before, Cond.holds, Cond.value, h1, h2, h3, h4, g1, g2, g3, g4, g5, g6]
def isCode : Jvm.Cond → Bool
  | .code _ _ _ _ => true
  | _ => false
theorem all_split {L : List Jvm.Cond} {P : Jvm.Cond → Bool} (h1 : L.all (fun c => isCode c || P c) = true) (h2 : ∀ c ∈ L.filter isCode, P c = true) : L.all P = true := by
  refine List.all_eq_true.mpr fun c hc => ?_
  have h := List.all_eq_true.mp h1 c hc
  rcases Bool.eq_false_or_eq_true (isCode c) with hi | hi
  · exact h2 c (List.mem_filter.mpr ⟨hc, hi⟩)
  · simpa [hi] using h
set_option maxRecDepth 65536 in
theorem w_c0 : (Jvm.Cond.code x code maxLocals ret).before args0 about1 = true := code_word (m := ⟨1, 4⟩) (meth := k1m4) (c := k1c4) (by decide +kernel) rfl rfl rfl (by decide +kernel)
set_option maxRecDepth 65536 in
theorem w_c1 : (Jvm.Cond.code ({ cls := "MddConfiguratorOwnLaw", name := "cell", desc := "([II)I" } : Jvm.MethodName) method_2_code (2 : Nat) (Option.some Jvm.ClassFile.FieldType.int)).before args0 about1 = true := code_word (m := ⟨1, 1⟩) (meth := k1m1) (c := k1c1) (by decide +kernel) rfl rfl rfl (by decide +kernel)
set_option maxRecDepth 65536 in
theorem w_c2 : (Jvm.Cond.code ({ cls := "MddConfigurator", name := "<init>", desc := "(II)V" } : Jvm.MethodName) prog_1_method_1_code (4 : Nat) (Option.none : Option Jvm.ClassFile.FieldType)).before args0 about1 = true := code_word (m := ⟨2, 0⟩) (meth := k2m0) (c := k2c0) (by decide +kernel) rfl rfl rfl (by decide +kernel)
set_option maxRecDepth 65536 in
theorem w_c3 : (Jvm.Cond.code ({ cls := "java/lang/Object", name := "<init>", desc := "()V" } : Jvm.MethodName) object_method_1_code (1 : Nat) (Option.none : Option Jvm.ClassFile.FieldType)).before args0 about1 = true := code_word (m := ⟨0, 0⟩) (meth := k0m0) (c := k0c0) (by decide +kernel) rfl rfl rfl (by decide +kernel)
set_option maxRecDepth 65536 in
theorem w_c4 : (Jvm.Cond.code ({ cls := "MddConfigurator", name := "clearUnique", desc := "()V" } : Jvm.MethodName) prog_1_method_21_code (2 : Nat) (Option.none : Option Jvm.ClassFile.FieldType)).before args0 about1 = true := code_word (m := ⟨2, 18⟩) (meth := k2m18) (c := k2c18) (by decide +kernel) rfl rfl rfl (by decide +kernel)
set_option maxRecDepth 65536 in
theorem w_c5 : (Jvm.Cond.code ({ cls := "MddConfiguratorOwnLaw", name := "check", desc := "(LMddConfigurator;)Z" } : Jvm.MethodName) method_4_code (12 : Nat) (Option.some Jvm.ClassFile.FieldType.boolean)).before args0 about1 = true := code_word (m := ⟨1, 3⟩) (meth := k1m3) (c := k1c3) (by decide +kernel) rfl rfl rfl (by decide +kernel)
set_option maxRecDepth 65536 in
theorem w_c6 : (Jvm.Cond.code ({ cls := "MddConfigurator", name := "numVars", desc := "()I" } : Jvm.MethodName) prog_1_method_2_code (1 : Nat) (Option.some Jvm.ClassFile.FieldType.int)).before args0 about1 = true := code_word (m := ⟨2, 1⟩) (meth := k2m1) (c := k2c1) (by decide +kernel) rfl rfl rfl (by decide +kernel)
set_option maxRecDepth 65536 in
theorem w_c7 : (Jvm.Cond.code ({ cls := "MddConfigurator", name := "domainSize", desc := "()I" } : Jvm.MethodName) prog_1_method_3_code (1 : Nat) (Option.some Jvm.ClassFile.FieldType.int)).before args0 about1 = true := code_word (m := ⟨2, 2⟩) (meth := k2m2) (c := k2c2) (by decide +kernel) rfl rfl rfl (by decide +kernel)
set_option maxRecDepth 65536 in
theorem w_c8 : (Jvm.Cond.code ({ cls := "MddConfigurator", name := "count", desc := "()I" } : Jvm.MethodName) prog_1_method_14_code (1 : Nat) (Option.some Jvm.ClassFile.FieldType.int)).before args0 about1 = true := code_word (m := ⟨2, 13⟩) (meth := k2m13) (c := k2c13) (by decide +kernel) rfl rfl rfl (by decide +kernel)
set_option maxRecDepth 65536 in
theorem w_c9 : (Jvm.Cond.code ({ cls := "MddConfigurator", name := "loadChoices", desc := "()V" } : Jvm.MethodName) prog_1_method_46_code (2 : Nat) (Option.none : Option Jvm.ClassFile.FieldType)).before args0 about1 = true := code_word (m := ⟨2, 40⟩) (meth := k2m40) (c := k2c40) (by decide +kernel) rfl rfl rfl (by decide +kernel)
set_option maxRecDepth 65536 in
theorem w_c10 : (Jvm.Cond.code ({ cls := "MddConfigurator", name := "countFixed", desc := "()I" } : Jvm.MethodName) prog_1_method_48_code (3 : Nat) (Option.some Jvm.ClassFile.FieldType.int)).before args0 about1 = true := code_word (m := ⟨2, 42⟩) (meth := k2m42) (c := k2c42) (by decide +kernel) rfl rfl rfl (by decide +kernel)
set_option maxRecDepth 65536 in
theorem w_c11 : (Jvm.Cond.code ({ cls := "MddConfigurator", name := "gap", desc := "(II)I" } : Jvm.MethodName) prog_1_method_47_code (5 : Nat) (Option.some Jvm.ClassFile.FieldType.int)).before args0 about1 = true := code_word (m := ⟨2, 41⟩) (meth := k2m41) (c := k2c41) (by decide +kernel) rfl rfl rfl (by decide +kernel)
set_option maxRecDepth 65536 in
theorem w_c12 : (Jvm.Cond.code ({ cls := "MddConfigurator", name := "chosenValue", desc := "(I)I" } : Jvm.MethodName) prog_1_method_12_code (2 : Nat) (Option.some Jvm.ClassFile.FieldType.int)).before args0 about1 = true := code_word (m := ⟨2, 11⟩) (meth := k2m11) (c := k2c11) (by decide +kernel) rfl rfl rfl (by decide +kernel)
set_option maxRecDepth 65536 in
theorem w_c13 : (Jvm.Cond.code ({ cls := "MddConfigurator", name := "validVar", desc := "(I)Z" } : Jvm.MethodName) prog_1_method_18_code (2 : Nat) (Option.some Jvm.ClassFile.FieldType.boolean)).before args0 about1 = true := code_word (m := ⟨2, 15⟩) (meth := k2m15) (c := k2c15) (by decide +kernel) rfl rfl rfl (by decide +kernel)
set_option maxRecDepth 65536 in
theorem w_c14 : (Jvm.Cond.code ({ cls := "MddConfigurator", name := "offeredMask", desc := "(I)I" } : Jvm.MethodName) prog_1_method_13_code (4 : Nat) (Option.some Jvm.ClassFile.FieldType.int)).before args0 about1 = true := code_word (m := ⟨2, 12⟩) (meth := k2m12) (c := k2c12) (by decide +kernel) rfl rfl rfl (by decide +kernel)
set_option maxRecDepth 65536 in
theorem w_c15 : (Jvm.Cond.code ({ cls := "MddConfigurator", name := "countWith", desc := "(II)I" } : Jvm.MethodName) prog_1_method_15_code (3 : Nat) (Option.some Jvm.ClassFile.FieldType.int)).before args0 about1 = true := code_word (m := ⟨2, 14⟩) (meth := k2m14) (c := k2c14) (by decide +kernel) rfl rfl rfl (by decide +kernel)
set_option maxRecDepth 65536 in
theorem w_c16 : (Jvm.Cond.code ({ cls := "MddConfigurator", name := "validValue", desc := "(I)Z" } : Jvm.MethodName) prog_1_method_19_code (2 : Nat) (Option.some Jvm.ClassFile.FieldType.boolean)).before args0 about1 = true := code_word (m := ⟨2, 16⟩) (meth := k2m16) (c := k2c16) (by decide +kernel) rfl rfl rfl (by decide +kernel)
set_option maxRecDepth 65536 in
theorem w_c17 : (Jvm.Cond.code ({ cls := "MddConfiguratorOwnLaw", name := "pick", desc := "(II)I" } : Jvm.MethodName) method_3_code (2 : Nat) (Option.some Jvm.ClassFile.FieldType.int)).before args0 about1 = true := code_word (m := ⟨1, 2⟩) (meth := k1m2) (c := k1c2) (by decide +kernel) rfl rfl rfl (by decide +kernel)
set_option maxRecDepth 65536 in
theorem w_c18 : (Jvm.Cond.code ({ cls := "MddConfigurator", name := "beginTable", desc := "(III)I" } : Jvm.MethodName) prog_1_method_4_code (5 : Nat) (Option.some Jvm.ClassFile.FieldType.int)).before args0 about1 = true := code_word (m := ⟨2, 3⟩) (meth := k2m3) (c := k2c3) (by decide +kernel) rfl rfl rfl (by decide +kernel)
set_option maxRecDepth 65536 in
theorem w_c19 : (Jvm.Cond.code ({ cls := "MddConfigurator", name := "addTuple", desc := "(III)I" } : Jvm.MethodName) prog_1_method_5_code (6 : Nat) (Option.some Jvm.ClassFile.FieldType.int)).before args0 about1 = true := code_word (m := ⟨2, 4⟩) (meth := k2m4) (c := k2c4) (by decide +kernel) rfl rfl rfl (by decide +kernel)
set_option maxRecDepth 65536 in
theorem w_c20 : (Jvm.Cond.code ({ cls := "MddConfigurator", name := "commitTable", desc := "()I" } : Jvm.MethodName) prog_1_method_6_code (3 : Nat) (Option.some Jvm.ClassFile.FieldType.int)).before args0 about1 = true := code_word (m := ⟨2, 5⟩) (meth := k2m5) (c := k2c5) (by decide +kernel) rfl rfl rfl (by decide +kernel)
set_option maxRecDepth 65536 in
theorem w_c21 : (Jvm.Cond.code ({ cls := "MddConfigurator", name := "dropLastTable", desc := "()I" } : Jvm.MethodName) prog_1_method_8_code (1 : Nat) (Option.some Jvm.ClassFile.FieldType.int)).before args0 about1 = true := code_word (m := ⟨2, 7⟩) (meth := k2m7) (c := k2c7) (by decide +kernel) rfl rfl rfl (by decide +kernel)
set_option maxRecDepth 65536 in
theorem w_c22 : (Jvm.Cond.code ({ cls := "MddConfigurator", name := "ensureRoom", desc := "()V" } : Jvm.MethodName) prog_1_method_26_code (1 : Nat) (Option.none : Option Jvm.ClassFile.FieldType)).before args0 about1 = true := code_word (m := ⟨2, 23⟩) (meth := k2m23) (c := k2c23) (by decide +kernel) rfl rfl rfl (by decide +kernel)
set_option maxRecDepth 65536 in
theorem w_c23 : (Jvm.Cond.code ({ cls := "MddConfigurator", name := "compileTable", desc := "()I" } : Jvm.MethodName) prog_1_method_30_code (3 : Nat) (Option.some Jvm.ClassFile.FieldType.int)).before args0 about1 = true := code_word (m := ⟨2, 24⟩) (meth := k2m24) (c := k2c24) (by decide +kernel) rfl rfl rfl (by decide +kernel)
set_option maxRecDepth 65536 in
theorem w_c24 : (Jvm.Cond.code ({ cls := "MddConfigurator", name := "pow", desc := "(I)I" } : Jvm.MethodName) prog_1_method_20_code (4 : Nat) (Option.some Jvm.ClassFile.FieldType.int)).before args0 about1 = true := code_word (m := ⟨2, 17⟩) (meth := k2m17) (c := k2c17) (by decide +kernel) rfl rfl rfl (by decide +kernel)
set_option maxRecDepth 65536 in
theorem w_c25 : (Jvm.Cond.code ({ cls := "MddConfigurator", name := "decode", desc := "(I)V" } : Jvm.MethodName) prog_1_method_31_code (4 : Nat) (Option.none : Option Jvm.ClassFile.FieldType)).before args0 about1 = true := code_word (m := ⟨2, 25⟩) (meth := k2m25) (c := k2c25) (by decide +kernel) rfl rfl rfl (by decide +kernel)
set_option maxRecDepth 65536 in
theorem w_c26 : (Jvm.Cond.code ({ cls := "MddConfigurator", name := "scopeCode", desc := "()I" } : Jvm.MethodName) prog_1_method_32_code (2 : Nat) (Option.some Jvm.ClassFile.FieldType.int)).before args0 about1 = true := code_word (m := ⟨2, 26⟩) (meth := k2m26) (c := k2c26) (by decide +kernel) rfl rfl rfl (by decide +kernel)
set_option maxRecDepth 65536 in
theorem w_c27 : (Jvm.Cond.code ({ cls := "MddConfigurator", name := "reduceBuffer", desc := "()I" } : Jvm.MethodName) prog_1_method_33_code (9 : Nat) (Option.some Jvm.ClassFile.FieldType.int)).before args0 about1 = true := code_word (m := ⟨2, 27⟩) (meth := k2m27) (c := k2c27) (by decide +kernel) rfl rfl rfl (by decide +kernel)
set_option maxRecDepth 65536 in
theorem w_c28 : (Jvm.Cond.code ({ cls := "MddConfigurator", name := "mk", desc := "(IIIII)I" } : Jvm.MethodName) prog_1_method_24_code (10 : Nat) (Option.some Jvm.ClassFile.FieldType.int)).before args0 about1 = true := code_word (m := ⟨2, 21⟩) (meth := k2m21) (c := k2c21) (by decide +kernel) rfl rfl rfl (by decide +kernel)
set_option maxRecDepth 65536 in
theorem w_c29 : (Jvm.Cond.code ({ cls := "MddConfigurator", name := "conjoin", desc := "(II)I" } : Jvm.MethodName) prog_1_method_34_code (4 : Nat) (Option.some Jvm.ClassFile.FieldType.int)).before args0 about1 = true := code_word (m := ⟨2, 28⟩) (meth := k2m28) (c := k2c28) (by decide +kernel) rfl rfl rfl (by decide +kernel)
set_option maxRecDepth 65536 in
theorem w_c30 : (Jvm.Cond.code ({ cls := "MddConfigurator", name := "push", desc := "(II)V" } : Jvm.MethodName) prog_1_method_35_code (3 : Nat) (Option.none : Option Jvm.ClassFile.FieldType)).before args0 about1 = true := code_word (m := ⟨2, 29⟩) (meth := k2m29) (c := k2c29) (by decide +kernel) rfl rfl rfl (by decide +kernel)
set_option maxRecDepth 65536 in
theorem w_c31 : (Jvm.Cond.code ({ cls := "MddConfigurator", name := "step", desc := "()V" } : Jvm.MethodName) prog_1_method_36_code (4 : Nat) (Option.none : Option Jvm.ClassFile.FieldType)).before args0 about1 = true := code_word (m := ⟨2, 30⟩) (meth := k2m30) (c := k2c30) (by decide +kernel) rfl rfl rfl (by decide +kernel)
set_option maxRecDepth 65536 in
theorem w_c32 : (Jvm.Cond.code ({ cls := "MddConfigurator", name := "resolve", desc := "(II)I" } : Jvm.MethodName) prog_1_method_42_code (3 : Nat) (Option.some Jvm.ClassFile.FieldType.int)).before args0 about1 = true := code_word (m := ⟨2, 36⟩) (meth := k2m36) (c := k2c36) (by decide +kernel) rfl rfl rfl (by decide +kernel)
set_option maxRecDepth 65536 in
theorem w_c33 : (Jvm.Cond.code ({ cls := "MddConfigurator", name := "retract", desc := "(I)I" } : Jvm.MethodName) prog_1_method_10_code (2 : Nat) (Option.some Jvm.ClassFile.FieldType.int)).before args0 about1 = true := code_word (m := ⟨2, 9⟩) (meth := k2m9) (c := k2c9) (by decide +kernel) rfl rfl rfl (by decide +kernel)
set_option maxRecDepth 65536 in
theorem w_c34 : (Jvm.Cond.code ({ cls := "MddConfigurator", name := "abortTable", desc := "()I" } : Jvm.MethodName) prog_1_method_7_code (1 : Nat) (Option.some Jvm.ClassFile.FieldType.int)).before args0 about1 = true := code_word (m := ⟨2, 6⟩) (meth := k2m6) (c := k2c6) (by decide +kernel) rfl rfl rfl (by decide +kernel)
set_option maxRecDepth 65536 in
theorem w_c35 : (Jvm.Cond.code ({ cls := "MddConfigurator", name := "choose", desc := "(II)I" } : Jvm.MethodName) prog_1_method_9_code (3 : Nat) (Option.some Jvm.ClassFile.FieldType.int)).before args0 about1 = true := code_word (m := ⟨2, 8⟩) (meth := k2m8) (c := k2c8) (by decide +kernel) rfl rfl rfl (by decide +kernel)
set_option maxRecDepth 65536 in
theorem w_c36 : (Jvm.Cond.code ({ cls := "MddConfigurator", name := "clearChoices", desc := "()V" } : Jvm.MethodName) prog_1_method_11_code (2 : Nat) (Option.none : Option Jvm.ClassFile.FieldType)).before args0 about1 = true := code_word (m := ⟨2, 10⟩) (meth := k2m10) (c := k2c10) (by decide +kernel) rfl rfl rfl (by decide +kernel)
set_option maxRecDepth 65536 in
theorem w_c37 : (Jvm.Cond.code ({ cls := "MddConfigurator", name := "hashOf", desc := "(IIIII)I" } : Jvm.MethodName) prog_1_method_22_code (7 : Nat) (Option.some Jvm.ClassFile.FieldType.int)).before args0 about1 = true := code_word (m := ⟨2, 19⟩) (meth := k2m19) (c := k2c19) (by decide +kernel) rfl rfl rfl (by decide +kernel)
set_option maxRecDepth 65536 in
theorem w_c38 : (Jvm.Cond.code ({ cls := "MddConfigurator", name := "newNode", desc := "(IIIIII)I" } : Jvm.MethodName) prog_1_method_25_code (9 : Nat) (Option.some Jvm.ClassFile.FieldType.int)).before args0 about1 = true := code_word (m := ⟨2, 22⟩) (meth := k2m22) (c := k2c22) (by decide +kernel) rfl rfl rfl (by decide +kernel)
set_option maxRecDepth 65536 in
theorem w_c39 : (Jvm.Cond.code ({ cls := "MddConfigurator", name := "sameNode", desc := "(IIIIII)Z" } : Jvm.MethodName) prog_1_method_23_code (8 : Nat) (Option.some Jvm.ClassFile.FieldType.boolean)).before args0 about1 = true := code_word (m := ⟨2, 20⟩) (meth := k2m20) (c := k2c20) (by decide +kernel) rfl rfl rfl (by decide +kernel)
set_option maxRecDepth 65536 in
theorem w_c40 : (Jvm.Cond.code ({ cls := "MddConfigurator", name := "nodeCount", desc := "(I)I" } : Jvm.MethodName) prog_1_method_49_code (7 : Nat) (Option.some Jvm.ClassFile.FieldType.int)).before args0 about1 = true := code_word (m := ⟨2, 43⟩) (meth := k2m43) (c := k2c43) (by decide +kernel) rfl rfl rfl (by decide +kernel)
set_option maxRecDepth 65536 in
theorem w_c41 : (Jvm.Cond.code ({ cls := "MddConfigurator", name := "memoFind", desc := "(II)I" } : Jvm.MethodName) prog_1_method_44_code (7 : Nat) (Option.some Jvm.ClassFile.FieldType.int)).before args0 about1 = true := code_word (m := ⟨2, 38⟩) (meth := k2m38) (c := k2c38) (by decide +kernel) rfl rfl rfl (by decide +kernel)
set_option maxRecDepth 65536 in
theorem w_c42 : (Jvm.Cond.code ({ cls := "MddConfigurator", name := "memoSlot", desc := "(II)I" } : Jvm.MethodName) prog_1_method_43_code (4 : Nat) (Option.some Jvm.ClassFile.FieldType.int)).before args0 about1 = true := code_word (m := ⟨2, 37⟩) (meth := k2m37) (c := k2c37) (by decide +kernel) rfl rfl rfl (by decide +kernel)
set_option maxRecDepth 65536 in
theorem w_c43 : (Jvm.Cond.code ({ cls := "MddConfigurator", name := "pushChildren", desc := "(II)V" } : Jvm.MethodName) prog_1_method_39_code (7 : Nat) (Option.none : Option Jvm.ClassFile.FieldType)).before args0 about1 = true := code_word (m := ⟨2, 33⟩) (meth := k2m33) (c := k2c33) (by decide +kernel) rfl rfl rfl (by decide +kernel)
set_option maxRecDepth 65536 in
theorem w_c44 : (Jvm.Cond.code ({ cls := "MddConfigurator", name := "topLevel", desc := "(II)I" } : Jvm.MethodName) prog_1_method_37_code (3 : Nat) (Option.some Jvm.ClassFile.FieldType.int)).before args0 about1 = true := code_word (m := ⟨2, 31⟩) (meth := k2m31) (c := k2c31) (by decide +kernel) rfl rfl rfl (by decide +kernel)
set_option maxRecDepth 65536 in
theorem w_c45 : (Jvm.Cond.code ({ cls := "MddConfigurator", name := "cofactor", desc := "(III)I" } : Jvm.MethodName) prog_1_method_38_code (4 : Nat) (Option.some Jvm.ClassFile.FieldType.int)).before args0 about1 = true := code_word (m := ⟨2, 32⟩) (meth := k2m32) (c := k2c32) (by decide +kernel) rfl rfl rfl (by decide +kernel)
set_option maxRecDepth 65536 in
theorem w_c46 : (Jvm.Cond.code ({ cls := "MddConfigurator", name := "finishPair", desc := "(II)V" } : Jvm.MethodName) prog_1_method_41_code (9 : Nat) (Option.none : Option Jvm.ClassFile.FieldType)).before args0 about1 = true := code_word (m := ⟨2, 35⟩) (meth := k2m35) (c := k2c35) (by decide +kernel) rfl rfl rfl (by decide +kernel)
set_option maxRecDepth 65536 in
theorem w_c47 : (Jvm.Cond.code ({ cls := "MddConfigurator", name := "childResult", desc := "(IIII)I" } : Jvm.MethodName) prog_1_method_40_code (8 : Nat) (Option.some Jvm.ClassFile.FieldType.int)).before args0 about1 = true := code_word (m := ⟨2, 34⟩) (meth := k2m34) (c := k2c34) (by decide +kernel) rfl rfl rfl (by decide +kernel)
set_option maxRecDepth 65536 in
theorem w_c48 : (Jvm.Cond.code ({ cls := "MddConfigurator", name := "memoStore", desc := "(III)V" } : Jvm.MethodName) prog_1_method_45_code (8 : Nat) (Option.none : Option Jvm.ClassFile.FieldType)).before args0 about1 = true := code_word (m := ⟨2, 39⟩) (meth := k2m39) (c := k2c39) (by decide +kernel) rfl rfl rfl (by decide +kernel)
def codes1 : List Jvm.Cond := [Jvm.Cond.code x code maxLocals ret, Jvm.Cond.code ({ cls := "MddConfiguratorOwnLaw", name := "cell", desc := "([II)I" } : Jvm.MethodName) method_2_code (2 : Nat) (Option.some Jvm.ClassFile.FieldType.int), Jvm.Cond.code ({ cls := "MddConfigurator", name := "<init>", desc := "(II)V" } : Jvm.MethodName) prog_1_method_1_code (4 : Nat) (Option.none : Option Jvm.ClassFile.FieldType), Jvm.Cond.code ({ cls := "java/lang/Object", name := "<init>", desc := "()V" } : Jvm.MethodName) object_method_1_code (1 : Nat) (Option.none : Option Jvm.ClassFile.FieldType), Jvm.Cond.code ({ cls := "MddConfigurator", name := "clearUnique", desc := "()V" } : Jvm.MethodName) prog_1_method_21_code (2 : Nat) (Option.none : Option Jvm.ClassFile.FieldType), Jvm.Cond.code ({ cls := "MddConfiguratorOwnLaw", name := "check", desc := "(LMddConfigurator;)Z" } : Jvm.MethodName) method_4_code (12 : Nat) (Option.some Jvm.ClassFile.FieldType.boolean), Jvm.Cond.code ({ cls := "MddConfigurator", name := "numVars", desc := "()I" } : Jvm.MethodName) prog_1_method_2_code (1 : Nat) (Option.some Jvm.ClassFile.FieldType.int), Jvm.Cond.code ({ cls := "MddConfigurator", name := "domainSize", desc := "()I" } : Jvm.MethodName) prog_1_method_3_code (1 : Nat) (Option.some Jvm.ClassFile.FieldType.int), Jvm.Cond.code ({ cls := "MddConfigurator", name := "count", desc := "()I" } : Jvm.MethodName) prog_1_method_14_code (1 : Nat) (Option.some Jvm.ClassFile.FieldType.int), Jvm.Cond.code ({ cls := "MddConfigurator", name := "loadChoices", desc := "()V" } : Jvm.MethodName) prog_1_method_46_code (2 : Nat) (Option.none : Option Jvm.ClassFile.FieldType), Jvm.Cond.code ({ cls := "MddConfigurator", name := "countFixed", desc := "()I" } : Jvm.MethodName) prog_1_method_48_code (3 : Nat) (Option.some Jvm.ClassFile.FieldType.int), Jvm.Cond.code ({ cls := "MddConfigurator", name := "gap", desc := "(II)I" } : Jvm.MethodName) prog_1_method_47_code (5 : Nat) (Option.some Jvm.ClassFile.FieldType.int), Jvm.Cond.code ({ cls := "MddConfigurator", name := "chosenValue", desc := "(I)I" } : Jvm.MethodName) prog_1_method_12_code (2 : Nat) (Option.some Jvm.ClassFile.FieldType.int), Jvm.Cond.code ({ cls := "MddConfigurator", name := "validVar", desc := "(I)Z" } : Jvm.MethodName) prog_1_method_18_code (2 : Nat) (Option.some Jvm.ClassFile.FieldType.boolean), Jvm.Cond.code ({ cls := "MddConfigurator", name := "offeredMask", desc := "(I)I" } : Jvm.MethodName) prog_1_method_13_code (4 : Nat) (Option.some Jvm.ClassFile.FieldType.int), Jvm.Cond.code ({ cls := "MddConfigurator", name := "countWith", desc := "(II)I" } : Jvm.MethodName) prog_1_method_15_code (3 : Nat) (Option.some Jvm.ClassFile.FieldType.int), Jvm.Cond.code ({ cls := "MddConfigurator", name := "validValue", desc := "(I)Z" } : Jvm.MethodName) prog_1_method_19_code (2 : Nat) (Option.some Jvm.ClassFile.FieldType.boolean), Jvm.Cond.code ({ cls := "MddConfiguratorOwnLaw", name := "pick", desc := "(II)I" } : Jvm.MethodName) method_3_code (2 : Nat) (Option.some Jvm.ClassFile.FieldType.int), Jvm.Cond.code ({ cls := "MddConfigurator", name := "beginTable", desc := "(III)I" } : Jvm.MethodName) prog_1_method_4_code (5 : Nat) (Option.some Jvm.ClassFile.FieldType.int), Jvm.Cond.code ({ cls := "MddConfigurator", name := "addTuple", desc := "(III)I" } : Jvm.MethodName) prog_1_method_5_code (6 : Nat) (Option.some Jvm.ClassFile.FieldType.int), Jvm.Cond.code ({ cls := "MddConfigurator", name := "commitTable", desc := "()I" } : Jvm.MethodName) prog_1_method_6_code (3 : Nat) (Option.some Jvm.ClassFile.FieldType.int), Jvm.Cond.code ({ cls := "MddConfigurator", name := "dropLastTable", desc := "()I" } : Jvm.MethodName) prog_1_method_8_code (1 : Nat) (Option.some Jvm.ClassFile.FieldType.int), Jvm.Cond.code ({ cls := "MddConfigurator", name := "ensureRoom", desc := "()V" } : Jvm.MethodName) prog_1_method_26_code (1 : Nat) (Option.none : Option Jvm.ClassFile.FieldType), Jvm.Cond.code ({ cls := "MddConfigurator", name := "compileTable", desc := "()I" } : Jvm.MethodName) prog_1_method_30_code (3 : Nat) (Option.some Jvm.ClassFile.FieldType.int), Jvm.Cond.code ({ cls := "MddConfigurator", name := "pow", desc := "(I)I" } : Jvm.MethodName) prog_1_method_20_code (4 : Nat) (Option.some Jvm.ClassFile.FieldType.int), Jvm.Cond.code ({ cls := "MddConfigurator", name := "decode", desc := "(I)V" } : Jvm.MethodName) prog_1_method_31_code (4 : Nat) (Option.none : Option Jvm.ClassFile.FieldType), Jvm.Cond.code ({ cls := "MddConfigurator", name := "scopeCode", desc := "()I" } : Jvm.MethodName) prog_1_method_32_code (2 : Nat) (Option.some Jvm.ClassFile.FieldType.int), Jvm.Cond.code ({ cls := "MddConfigurator", name := "reduceBuffer", desc := "()I" } : Jvm.MethodName) prog_1_method_33_code (9 : Nat) (Option.some Jvm.ClassFile.FieldType.int), Jvm.Cond.code ({ cls := "MddConfigurator", name := "mk", desc := "(IIIII)I" } : Jvm.MethodName) prog_1_method_24_code (10 : Nat) (Option.some Jvm.ClassFile.FieldType.int), Jvm.Cond.code ({ cls := "MddConfigurator", name := "conjoin", desc := "(II)I" } : Jvm.MethodName) prog_1_method_34_code (4 : Nat) (Option.some Jvm.ClassFile.FieldType.int), Jvm.Cond.code ({ cls := "MddConfigurator", name := "push", desc := "(II)V" } : Jvm.MethodName) prog_1_method_35_code (3 : Nat) (Option.none : Option Jvm.ClassFile.FieldType), Jvm.Cond.code ({ cls := "MddConfigurator", name := "step", desc := "()V" } : Jvm.MethodName) prog_1_method_36_code (4 : Nat) (Option.none : Option Jvm.ClassFile.FieldType), Jvm.Cond.code ({ cls := "MddConfigurator", name := "resolve", desc := "(II)I" } : Jvm.MethodName) prog_1_method_42_code (3 : Nat) (Option.some Jvm.ClassFile.FieldType.int), Jvm.Cond.code ({ cls := "MddConfigurator", name := "retract", desc := "(I)I" } : Jvm.MethodName) prog_1_method_10_code (2 : Nat) (Option.some Jvm.ClassFile.FieldType.int), Jvm.Cond.code ({ cls := "MddConfigurator", name := "abortTable", desc := "()I" } : Jvm.MethodName) prog_1_method_7_code (1 : Nat) (Option.some Jvm.ClassFile.FieldType.int), Jvm.Cond.code ({ cls := "MddConfigurator", name := "choose", desc := "(II)I" } : Jvm.MethodName) prog_1_method_9_code (3 : Nat) (Option.some Jvm.ClassFile.FieldType.int), Jvm.Cond.code ({ cls := "MddConfigurator", name := "clearChoices", desc := "()V" } : Jvm.MethodName) prog_1_method_11_code (2 : Nat) (Option.none : Option Jvm.ClassFile.FieldType), Jvm.Cond.code ({ cls := "MddConfigurator", name := "hashOf", desc := "(IIIII)I" } : Jvm.MethodName) prog_1_method_22_code (7 : Nat) (Option.some Jvm.ClassFile.FieldType.int), Jvm.Cond.code ({ cls := "MddConfigurator", name := "newNode", desc := "(IIIIII)I" } : Jvm.MethodName) prog_1_method_25_code (9 : Nat) (Option.some Jvm.ClassFile.FieldType.int), Jvm.Cond.code ({ cls := "MddConfigurator", name := "sameNode", desc := "(IIIIII)Z" } : Jvm.MethodName) prog_1_method_23_code (8 : Nat) (Option.some Jvm.ClassFile.FieldType.boolean), Jvm.Cond.code ({ cls := "MddConfigurator", name := "nodeCount", desc := "(I)I" } : Jvm.MethodName) prog_1_method_49_code (7 : Nat) (Option.some Jvm.ClassFile.FieldType.int), Jvm.Cond.code ({ cls := "MddConfigurator", name := "memoFind", desc := "(II)I" } : Jvm.MethodName) prog_1_method_44_code (7 : Nat) (Option.some Jvm.ClassFile.FieldType.int), Jvm.Cond.code ({ cls := "MddConfigurator", name := "memoSlot", desc := "(II)I" } : Jvm.MethodName) prog_1_method_43_code (4 : Nat) (Option.some Jvm.ClassFile.FieldType.int), Jvm.Cond.code ({ cls := "MddConfigurator", name := "pushChildren", desc := "(II)V" } : Jvm.MethodName) prog_1_method_39_code (7 : Nat) (Option.none : Option Jvm.ClassFile.FieldType), Jvm.Cond.code ({ cls := "MddConfigurator", name := "topLevel", desc := "(II)I" } : Jvm.MethodName) prog_1_method_37_code (3 : Nat) (Option.some Jvm.ClassFile.FieldType.int), Jvm.Cond.code ({ cls := "MddConfigurator", name := "cofactor", desc := "(III)I" } : Jvm.MethodName) prog_1_method_38_code (4 : Nat) (Option.some Jvm.ClassFile.FieldType.int), Jvm.Cond.code ({ cls := "MddConfigurator", name := "finishPair", desc := "(II)V" } : Jvm.MethodName) prog_1_method_41_code (9 : Nat) (Option.none : Option Jvm.ClassFile.FieldType), Jvm.Cond.code ({ cls := "MddConfigurator", name := "childResult", desc := "(IIII)I" } : Jvm.MethodName) prog_1_method_40_code (8 : Nat) (Option.some Jvm.ClassFile.FieldType.int), Jvm.Cond.code ({ cls := "MddConfigurator", name := "memoStore", desc := "(III)V" } : Jvm.MethodName) prog_1_method_45_code (8 : Nat) (Option.none : Option Jvm.ClassFile.FieldType)]
set_option maxRecDepth 65536 in
theorem codes_eq : words1.filter isCode = codes1 := rfl
theorem w_codes : ∀ c ∈ words1.filter isCode, c.before args0 about1 = true := by
  rw [codes_eq]
  intro c hc
  simp only [codes1, List.mem_cons, List.not_mem_nil, or_false] at hc
  rcases hc with rfl | rfl | rfl | rfl | rfl | rfl | rfl | rfl | rfl | rfl | rfl | rfl | rfl | rfl | rfl | rfl | rfl | rfl | rfl | rfl | rfl | rfl | rfl | rfl | rfl | rfl | rfl | rfl | rfl | rfl | rfl | rfl | rfl | rfl | rfl | rfl | rfl | rfl | rfl | rfl | rfl | rfl | rfl | rfl | rfl | rfl | rfl | rfl | rfl
  · exact w_c0
  · exact w_c1
  · exact w_c2
  · exact w_c3
  · exact w_c4
  · exact w_c5
  · exact w_c6
  · exact w_c7
  · exact w_c8
  · exact w_c9
  · exact w_c10
  · exact w_c11
  · exact w_c12
  · exact w_c13
  · exact w_c14
  · exact w_c15
  · exact w_c16
  · exact w_c17
  · exact w_c18
  · exact w_c19
  · exact w_c20
  · exact w_c21
  · exact w_c22
  · exact w_c23
  · exact w_c24
  · exact w_c25
  · exact w_c26
  · exact w_c27
  · exact w_c28
  · exact w_c29
  · exact w_c30
  · exact w_c31
  · exact w_c32
  · exact w_c33
  · exact w_c34
  · exact w_c35
  · exact w_c36
  · exact w_c37
  · exact w_c38
  · exact w_c39
  · exact w_c40
  · exact w_c41
  · exact w_c42
  · exact w_c43
  · exact w_c44
  · exact w_c45
  · exact w_c46
  · exact w_c47
  · exact w_c48
set_option maxRecDepth 65536 in
theorem w_t1 : (words1.take 24).all (fun c => isCode c || c.before args0 about1) = true := by decide +kernel
set_option maxRecDepth 65536 in
theorem w_t2 : ((words1.drop 24).take 24).all (fun c => isCode c || c.before args0 about1) = true := by decide +kernel
set_option maxRecDepth 65536 in
theorem w_t3 : (((words1.drop 24).drop 24).take 24).all (fun c => isCode c || c.before args0 about1) = true := by decide +kernel
set_option maxRecDepth 65536 in
theorem w_t4 : ((((words1.drop 24).drop 24).drop 24).take 24).all (fun c => isCode c || c.before args0 about1) = true := by decide +kernel
set_option maxRecDepth 65536 in
theorem w_t5 : (((((words1.drop 24).drop 24).drop 24).drop 24).take 24).all (fun c => isCode c || c.before args0 about1) = true := by decide +kernel
set_option maxRecDepth 65536 in
theorem w_t6 : ((((((words1.drop 24).drop 24).drop 24).drop 24).drop 24).take 24).all (fun c => isCode c || c.before args0 about1) = true := by decide +kernel
set_option maxRecDepth 65536 in
theorem w_t7 : (((((((words1.drop 24).drop 24).drop 24).drop 24).drop 24).drop 24).take 24).all (fun c => isCode c || c.before args0 about1) = true := by decide +kernel
set_option maxRecDepth 65536 in
theorem w_t8 : ((((((((words1.drop 24).drop 24).drop 24).drop 24).drop 24).drop 24).drop 24).take 24).all (fun c => isCode c || c.before args0 about1) = true := by decide +kernel
set_option maxRecDepth 65536 in
theorem w_t9 : (((((((((words1.drop 24).drop 24).drop 24).drop 24).drop 24).drop 24).drop 24).drop 24).take 24).all (fun c => isCode c || c.before args0 about1) = true := by decide +kernel
set_option maxRecDepth 65536 in
theorem w_t10 : ((((((((((words1.drop 24).drop 24).drop 24).drop 24).drop 24).drop 24).drop 24).drop 24).drop 24).take 24).all (fun c => isCode c || c.before args0 about1) = true := by decide +kernel
set_option maxRecDepth 65536 in
theorem w_t11 : (((((((((((words1.drop 24).drop 24).drop 24).drop 24).drop 24).drop 24).drop 24).drop 24).drop 24).drop 24).take 24).all (fun c => isCode c || c.before args0 about1) = true := by decide +kernel
set_option maxRecDepth 65536 in
theorem w_t12 : (((((((((((words1.drop 24).drop 24).drop 24).drop 24).drop 24).drop 24).drop 24).drop 24).drop 24).drop 24).drop 24).all (fun c => isCode c || c.before args0 about1) = true := by decide +kernel
theorem w_tables : (allAtoms (Jvm.Cond.code x code maxLocals ret :: tables_1)).before args0 about1 = true := by
  rw [allAtoms_all]
  show words1.all (fun c => c.before args0 about1) = true
  refine all_split ?_ w_codes
  rw [← List.take_append_drop 24 words1, List.all_append, w_t1, ← List.take_append_drop 24 (words1.drop 24), List.all_append, w_t2, ← List.take_append_drop 24 ((words1.drop 24).drop 24), List.all_append, w_t3, ← List.take_append_drop 24 (((words1.drop 24).drop 24).drop 24), List.all_append, w_t4, ← List.take_append_drop 24 ((((words1.drop 24).drop 24).drop 24).drop 24), List.all_append, w_t5, ← List.take_append_drop 24 (((((words1.drop 24).drop 24).drop 24).drop 24).drop 24), List.all_append, w_t6, ← List.take_append_drop 24 ((((((words1.drop 24).drop 24).drop 24).drop 24).drop 24).drop 24), List.all_append, w_t7, ← List.take_append_drop 24 (((((((words1.drop 24).drop 24).drop 24).drop 24).drop 24).drop 24).drop 24), List.all_append, w_t8, ← List.take_append_drop 24 ((((((((words1.drop 24).drop 24).drop 24).drop 24).drop 24).drop 24).drop 24).drop 24), List.all_append, w_t9, ← List.take_append_drop 24 (((((((((words1.drop 24).drop 24).drop 24).drop 24).drop 24).drop 24).drop 24).drop 24).drop 24), List.all_append, w_t10, ← List.take_append_drop 24 ((((((((((words1.drop 24).drop 24).drop 24).drop 24).drop 24).drop 24).drop 24).drop 24).drop 24).drop 24), List.all_append, w_t11, w_t12]
  rfl
set_option maxRecDepth 65536 in
theorem w_rest : rest_1_c.before args0 about1 = true := by decide +kernel
set_option maxRecDepth 65536 in
theorem w_case : (Jvm.Cond.and given_1 narrow_1).before args0 about1 = true := by decide +kernel
theorem w_applies : (headSpec (Jvm.Cond.code x code maxLocals ret :: tables_1) room_1).applies x e0.platform about1 = true :=
  (Spec.applies_iff w_frames).mpr ⟨w_running, w_runnable, w_alone, w_named, w_hears, w_ripe, w_room, w_tables⟩
theorem atStart : AtStart classFile x code maxLocals ret World_1 tables_1 room_1 Calls_1 rest_1 Pre_1 launch0 p0 e0 about1 theMethod args0 below0 :=
  ⟨lists_1, trivial, launch0.admits_env _ _ _, launch0.least_env, fairChoices_fair.cas, fairChoices_fair.clock, w_frames, w_args, w_heap, w_applies, trivial, w_rest, w_case⟩
end start1
theorem witness_1 : WitnessClaimed_1 := ⟨start1.p0, start1.e0, start1.about1, start1.theMethod, start1.args0, start1.below0, start1.atStart⟩
end Jvm.Pilot.@@N@@
