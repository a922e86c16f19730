import JvmDerived
import JvmDerived.Pilot.@@N@@Statement
import JvmDerived.Pilot.@@N@@Code
set_option linter.unusedVariables false
set_option linter.unusedSimpArgs false
namespace Jvm.Own
open Sem ClassFile Op Lib Jvm.Stand Jvm.Free Jvm.LawKit Jvm.RoadKit
/-! ## 1. Small heaps: a list of cells: an object of the one class (its fields in order), or an array (of booleans, of ints) -/
abbrev MCell := List Value ⊕ (Bool × List Int32)
abbrev MHeap := List MCell
abbrev Fd := String × String × FieldType
/-- start, its arguments, launch, the script's place, the heap's first length, the class, its fields, its slots -/
abbrev Ctx := State × Array Value × Launch × Option Nat × Nat × String × List Fd × Nat
abbrev gZ (G : Ctx) : State := G.1
abbrev gA (G : Ctx) : Array Value := G.2.1
abbrev gL (G : Ctx) : Launch := G.2.2.1
abbrev gS (G : Ctx) : Option Nat := G.2.2.2.1
abbrev gN (G : Ctx) : Nat := G.2.2.2.2.1
abbrev gC (G : Ctx) : String := G.2.2.2.2.2.1
abbrev gF (G : Ctx) : List Fd := G.2.2.2.2.2.2.1
abbrev gK (G : Ctx) : Nat := G.2.2.2.2.2.2.2
/-- a method: name, bytes, locals, result, frames and words that it needs -/
abbrev Mi := MethodName × ByteArray × Nat × Option FieldType × Nat × Nat
abbrev mN (M : Mi) : MethodName := M.1
abbrev mB (M : Mi) : ByteArray := M.2.1
abbrev mL (M : Mi) : Nat := M.2.2.1
abbrev mR (M : Mi) : Option FieldType := M.2.2.2.1
abbrev mF (M : Mi) : Nat := M.2.2.2.2.1
abbrev mW (M : Mi) : Nat := M.2.2.2.2.2
def rhoA (sa : Option Nat) (n0 i : Nat) : Nat := match sa with
  | none => n0 + i
  | some a => match i with
    | 0 => a
    | j + 1 => n0 + j
def k0A (sa : Option Nat) : Nat := match sa with
  | none => 0
  | some _ => 1
def rho (G : Ctx) (i : Nat) : Nat := rhoA (gS G) (gN G) i
def k0 (G : Ctx) : Nat := k0A (gS G)
def tr (G : Ctx) : Value → Value
  | .ref i => .ref (rho G i)
  | v => v
def trS (G : Ctx) : Slot → Slot
  | .val v => .val (tr G v)
  | s => s
theorem tr_cat (G : Ctx) (v : Value) : (tr G v).category = v.category := by cases v <;> rfl
theorem tr_cats (G : Ctx) (S : List Value) : ((S.map (tr G)).map fun v => v.category).sum = (S.map fun v => v.category).sum := by
  rw [List.map_map]
  congr 1
  exact List.map_congr_left fun v _ => tr_cat G v
def kd : Bool → FieldType
  | true => .boolean
  | false => .int
def CellAt (G : Ctx) (hr : Heap) (a : Nat) : MCell → Prop
  | .inl fs => Exa (gZ G) hr a (gC G) ∧ fs.length = (gF G).length ∧ ∀ (j : Nat) (n d : String) (ty : FieldType) (v : Value), (gF G)[j]? = some (n, d, ty) → fs[j]? = some v → Fld (gZ G) hr a (gC G) n d (tr G v)
  | .inr bx => ∃ c : Cell, Arr (gZ G) hr a c (kd bx.1) ∧ c.slots = (bx.2.map Value.int).toArray
def Rel (G : Ctx) (hr : Heap) (h : MHeap) : Prop :=
  hr.size + k0 G = gN G + h.length ∧ k0 G ≤ h.length ∧ (∀ a, gS G = some a → a < gN G) ∧ ∀ i c, h[i]? = some c → CellAt G hr (rho G i) c
/-- what the sheet says of the class -/
def GOk (G : Ctx) : Prop :=
  (∀ (j : Nat) (n d : String) (ty : FieldType), (gF G)[j]? = some (n, d, ty) → Laid (gZ G) (gA G) (gC G) (gC G) n d ∧ parseFieldDescriptor d = some ty) ∧
  (∀ (j j' : Nat) (f f' : Fd), (gF G)[j]? = some f → (gF G)[j']? = some f' → j ≠ j' → f.1 ≠ f'.1) ∧
  (Cond.instantiable (gC G) (gK G)).before (gA G) (gZ G) = true ∧ (Cond.initialized (gC G)).before (gA G) (gZ G) = true
theorem rhoA_inj {sa : Option Nat} {n0 i j : Nat} (h : ∀ a, sa = some a → a < n0) (e : rhoA sa n0 i = rhoA sa n0 j) : i = j := by
  cases sa with
  | none => simp only [rhoA] at e; omega
  | some a =>
    have := h a rfl
    cases i <;> cases j <;> simp only [rhoA] at e <;> omega
theorem rho_inj {G : Ctx} {i j : Nat} (h : ∀ a, gS G = some a → a < gN G) (e : rho G i = rho G j) : i = j := rhoA_inj h e
theorem rhoA_new {sa : Option Nat} {n0 i : Nat} (h : k0A sa ≤ i) : rhoA sa n0 i = n0 + (i - k0A sa) := by
  cases sa with
  | none => simp only [rhoA, k0A]; omega
  | some a =>
    cases i with
    | zero => simp only [k0A] at h; omega
    | succ j => simp only [rhoA, k0A]; omega
theorem rho_new {G : Ctx} {i : Nat} (h : k0 G ≤ i) : rho G i = gN G + (i - k0 G) := rhoA_new h
theorem rho_ge {G : Ctx} {i : Nat} (h : k0 G ≤ i) : gN G ≤ rho G i := by rw [rho_new h]; omega
theorem CellAt.other {G : Ctx} {hr hr' : Heap} {a b : Nat} {sl : Nat} {v : Value} (W : Wr hr hr' a sl v) (hne : b ≠ a) : ∀ {c : MCell}, CellAt G hr b c → CellAt G hr' b c
  | .inl _, ⟨h1, h2, h3⟩ => ⟨h1.wr W, h2, fun j n d ty v hf hv => Fld.other W (h3 j n d ty v hf hv) (Or.inl hne)⟩
  | .inr _, ⟨c, h1, h2⟩ => ⟨c, h1.other W hne, h2⟩
theorem CellAt.ext {G : Ctx} {hr hr' : Heap} {b : Nat} (E : Ext hr hr') : ∀ {c : MCell}, CellAt G hr b c → CellAt G hr' b c
  | .inl _, ⟨h1, h2, h3⟩ => ⟨h1.ext E, h2, fun j n d ty v hf hv => Fld.ext E (h3 j n d ty v hf hv)⟩
  | .inr _, ⟨c, h1, h2⟩ => ⟨c, h1.ext E, h2⟩
theorem Rel.push {G : Ctx} {hr hr' : Heap} {h : MHeap} {c : MCell} (R : Rel G hr h) (E : Ext hr hr') (hs : hr'.size = hr.size + 1) (hc : CellAt G hr' hr.size c) : Rel G hr' (h ++ [c]) := by
  obtain ⟨h1, h2, h3, h4⟩ := R
  refine ⟨by rw [List.length_append, List.length_singleton]; omega, by rw [List.length_append]; omega, h3, fun i c' hi => ?_⟩
  rcases Nat.lt_or_ge i h.length with q | q
  · rw [List.getElem?_append_left q] at hi
    exact (h4 i c' hi).ext E
  · have hi2 := hi
    rw [List.getElem?_append_right q] at hi2
    have : i - h.length = 0 := by
      rcases Nat.eq_zero_or_pos (i - h.length) with z | z
      · exact z
      · rw [List.getElem?_eq_none (by simp; omega)] at hi2; cases hi2
    have e : i = h.length := by omega
    subst e
    rw [Nat.sub_self] at hi2
    cases hi2
    have : rho G h.length = hr.size := by rw [rho_new h2]; omega
    rw [this]; exact hc
theorem Rel.wrArr {G : Ctx} {hr hr' : Heap} {h : MHeap} {i j : Nat} {b : Bool} {xs : List Int32} {x : Int32} (R : Rel G hr h) (hi : h[i]? = some (.inr (b, xs))) (W : Wr hr hr' (rho G i) j (.int x)) : Rel G hr' (h.set i (.inr (b, xs.set j x))) := by
  obtain ⟨h1, h2, h3, h4⟩ := R
  refine ⟨by rw [W.size, List.length_set]; exact h1, by rw [List.length_set]; exact h2, h3, fun k c' hk => ?_⟩
  by_cases e : i = k
  · subst e
    rw [List.getElem?_set_self (List.getElem?_eq_some_iff.mp hi).1] at hk
    cases hk
    obtain ⟨c, A, hs⟩ := h4 i _ hi
    refine ⟨c.setSlot j (.int x), A.same W, ?_⟩
    show c.slots.setIfInBounds j (.int x) = _
    rw [hs]
    simp [List.map_set]
  · rw [List.getElem?_set_ne e] at hk
    exact (h4 k c' hk).other W fun q => e (rho_inj h3 q).symm
theorem Rel.wrFld {G : Ctx} {hr hr' : Heap} {h : MHeap} {i j : Nat} {fs : List Value} {n d : String} {ty : FieldType} {v : Value} (R : Rel G hr h) (K : GOk G) (hi : h[i]? = some (.inl fs)) (hF : (gF G)[j]? = some (n, d, ty)) (W : Wr hr hr' (rho G i) (Jvm.RoadKit.slotOf (gZ G) (gC G) n d) (tr G v)) : Rel G hr' (h.set i (.inl (fs.set j v))) := by
  obtain ⟨h1, h2, h3, h4⟩ := R
  refine ⟨by rw [W.size, List.length_set]; exact h1, by rw [List.length_set]; exact h2, h3, fun k c' hk => ?_⟩
  by_cases e : i = k
  · subst e
    rw [List.getElem?_set_self (List.getElem?_eq_some_iff.mp hi).1] at hk
    cases hk
    obtain ⟨e1, e2, e3⟩ := h4 i _ hi
    refine ⟨e1.wr W, by rw [List.length_set]; exact e2, fun j' n' d' ty' v' hf' hv' => ?_⟩
    by_cases q : j = j'
    · subst q
      cases hF.symm.trans hf'
      have hlt : j < fs.length := by rw [e2]; exact (List.getElem?_eq_some_iff.mp hF).1
      rw [List.getElem?_set_self hlt] at hv'
      cases hv'
      obtain ⟨w, hw⟩ : ∃ w, fs[j]? = some w := ⟨_, List.getElem?_eq_getElem hlt⟩
      exact Fld.same W (e3 j n d ty w hF hw)
    · rw [List.getElem?_set_ne q] at hv'
      refine Fld.other W (e3 j' n' d' ty' v' hf' hv') (Or.inr ?_)
      exact slot_ne (K.1 j' n' d' ty' hf').1 (K.1 j n d ty hF).1 (K.2.1 j' j _ _ hf' hF (Ne.symm q)) (K.1 j' n' d' ty' hf').2 (K.1 j n d ty hF).2
  · rw [List.getElem?_set_ne e] at hk
    exact (h4 k c' hk).other W fun q => e (rho_inj h3 q).symm
def csl (k : Nat) : MCell → Nat
  | .inl _ => k
  | .inr bx => bx.2.length
def hsl (k : Nat) (h : MHeap) : Nat := (h.map (csl k)).sum
theorem hsl_push (k : Nat) (h : MHeap) (c : MCell) : hsl k (h ++ [c]) = hsl k h + csl k c := by simp [hsl]
theorem hsl_set (k : Nat) : ∀ (h : MHeap) (i : Nat) (c c' : MCell), h[i]? = some c → csl k c' = csl k c → hsl k (h.set i c') = hsl k h
  | [], _, _, _, h, _ => by simp at h
  | a :: t, 0, c, c', h, e => by simp at h; subst h; simp [hsl, e]
  | a :: t, i + 1, c, c', h, e => by
    have := hsl_set k t i c c' (by simpa using h) e
    simp only [hsl, List.set_cons_succ, List.map_cons, List.sum_cons] at this ⊢
    omega
/-! ## 2. Storing a local variable, on lists -/
def lsetAt (l : List Slot) (i : Nat) (x : Slot) : Option (List Slot) := if i < l.length then some (l.set i x) else none
def lstoreSelf (l : List Slot) (i : Nat) (v : Value) : Option (List Slot) :=
  match lsetAt l i (.val v) with
  | none => none
  | some l => if v.category = 2 then
      (match l[i + 1]? with
      | none => none
      | some (.val old) => if old.category = 2 then (match lsetAt l (i + 2) .unset with | none => none | some l2 => lsetAt l2 (i + 1) .second) else lsetAt l (i + 1) .second
      | some _ => lsetAt l (i + 1) .second)
    else some l
def mst (l : List Slot) (i : Nat) (v : Value) : Option (List Slot) :=
  match l[i]? with
  | none => none
  | some .second => (match lsetAt l (i - 1) .unset with | none => none | some l2 => lstoreSelf l2 i v)
  | some (.val old) => if old.category = 2 then (match lsetAt l (i + 1) .unset with | none => none | some l2 => lstoreSelf l2 i v) else lstoreSelf l i v
  | some .unset => lstoreSelf l i v
def arL (G : Ctx) (l : List Slot) : Array Slot := (l.map (trS G)).toArray
theorem setAt_map (G : Ctx) (l : List Slot) (i : Nat) (x : Slot) : setAt (arL G l) i (trS G x) = (lsetAt l i x).map (arL G) := by
  unfold setAt lsetAt arL
  by_cases h : i < l.length <;> simp [h, List.map_set]
theorem arL_get (G : Ctx) (l : List Slot) (i : Nat) : (arL G l)[i]? = (l[i]?).map (trS G) := by simp [arL]
theorem storeSelf_map (G : Ctx) (l : List Slot) (i : Nat) (v : Value) : storeSelf (arL G l) i (tr G v) = (lstoreSelf l i v).map (arL G) := by
  unfold storeSelf lstoreSelf
  have e := setAt_map G l i (.val v)
  simp only [trS] at e
  rw [e]
  cases h1 : lsetAt l i (.val v) with
  | none => rfl
  | some l1 =>
    simp only [Option.map_some, Option.bind_eq_bind, Option.bind_some, tr_cat]
    by_cases hc : v.category = 2
    · simp only [hc, if_true, arL_get]
      cases h2 : l1[i + 1]? with
      | none => rfl
      | some sl =>
        simp only [Option.map_some, Option.bind_some]
        have u2 := setAt_map G l1 (i + 2) .unset
        have s1 := setAt_map G l1 (i + 1) .second
        simp only [trS] at u2 s1
        cases sl with
        | unset => exact s1
        | second => exact s1
        | val old =>
          simp only [trS, tr_cat]
          by_cases hq : old.category = 2
          · simp only [hq, if_true, u2]
            cases h3 : lsetAt l1 (i + 2) .unset with
            | none => rfl
            | some l2 =>
              have s2 := setAt_map G l2 (i + 1) .second
              simp only [trS] at s2
              exact s2
          · simp only [hq, if_false]
            exact s1
    · simp only [hc, if_false]
      rfl
theorem mst_map (G : Ctx) (l : List Slot) (i : Nat) (v : Value) : storeLocals (arL G l) i (tr G v) = (mst l i v).map (arL G) := by
  unfold storeLocals mst
  simp only [arL_get]
  cases h1 : l[i]? with
  | none => rfl
  | some sl =>
    simp only [Option.map_some, Option.bind_eq_bind, Option.bind_some]
    have u1 := setAt_map G l (i - 1) .unset
    have u2 := setAt_map G l (i + 1) .unset
    simp only [trS] at u1 u2
    cases sl with
    | unset => exact storeSelf_map G l i v
    | second =>
      simp only [trS, u1]
      cases h3 : lsetAt l (i - 1) .unset with
      | none => rfl
      | some l2 => exact storeSelf_map G l2 i v
    | val old =>
      simp only [trS, tr_cat]
      by_cases hq : old.category = 2
      · simp only [hq, if_true, u2]
        cases h3 : lsetAt l (i + 1) .unset with
        | none => rfl
        | some l2 => exact storeSelf_map G l2 i v
      · simp only [hq, if_false]
        exact storeSelf_map G l i v
theorem lsetAt_len {l l' : List Slot} {i : Nat} {x : Slot} (h : lsetAt l i x = some l') : l'.length = l.length := by
  unfold lsetAt at h; split at h
  · cases h; simp
  · cases h
theorem lstoreSelf_len {l l' : List Slot} {i : Nat} {v : Value} (h : lstoreSelf l i v = some l') : l'.length = l.length := by
  unfold lstoreSelf at h
  split at h
  · cases h
  · rename_i l1 h1
    have e1 := lsetAt_len h1
    split at h
    · split at h
      · cases h
      · split at h
        · split at h
          · cases h
          · rename_i h2; rw [lsetAt_len h, lsetAt_len h2, e1]
        · rw [lsetAt_len h, e1]
      · rw [lsetAt_len h, e1]
    · cases h; exact e1
theorem mst_len {l l' : List Slot} {i : Nat} {v : Value} (h : mst l i v = some l') : l'.length = l.length := by
  unfold mst at h
  split at h
  · cases h
  · split at h
    · cases h
    · rename_i h2; rw [lstoreSelf_len h, lsetAt_len h2]
  · split at h
    · split at h
      · cases h
      · rename_i h2; rw [lstoreSelf_len h, lsetAt_len h2]
    · exact lstoreSelf_len h
  · exact lstoreSelf_len h
theorem st_of {G : Ctx} {l l' : List Slot} {i : Nat} {v : Value} (h : mst l i v = some l') : storeLocals (arL G l) i (tr G v) = some (arL G l') := by rw [mst_map, h]; rfl
theorem ld_of {G : Ctx} {l : List Slot} {i : Nat} {s : Slot} (h : l[i]? = some s) : (arL G l)[i]? = some (trS G s) := by rw [arL_get, h]; rfl
/-! ## 3. What a run of a body from a point does -/
def Ev (G : Ctx) (M : Mi) (pc : Nat) (L : List Slot) (S : List Value) (h : MHeap) (r : Option Value × MHeap) : Prop :=
  (h.length ≤ r.2.length ∧ hsl (gK G) h ≤ hsl (gK G) r.2) ∧
  ∀ (p : Program) (e : Env) (R : Room) (s : State) (m : MethodId) (args : Array Value) (below : List Frame) (meth : Method) (c : Code) (T : State) (locs : List Loc) (cells slots : Nat),
    Stand p (gL G) e R s m args below meth c T locs cells slots → p.tables.exec = Jvm.exec → (gZ G).Warmed39 s.vm → s.vm.findClass (mN M).cls = some m.cls →
    c.code = mB M → c.maxLocals = mL M → meth.sig.returnType = mR M → meth.name = (mN M).name → L.length = mL M → mF M ≤ R.frames → mW M ≤ R.locals →
    s.heap.size + cells = T.heap.size → Rel G T.heap h → Fr (gN G) locs → cells + (r.2.length - h.length) ≤ R.cells → slots + (hsl (gK G) r.2 - hsl (gK G) h) ≤ R.slots →
    ∃ T' locs', Stand p (gL G) e R s m args below meth c T' locs' (cells + (r.2.length - h.length)) (slots + (hsl (gK G) r.2 - hsl (gK G) h)) ∧ Rel G T'.heap r.2 ∧ Fr (gN G) locs' ∧
      ∀ fs, (∀ (f : JFrame) (acts : List Action), f.method = m → f.locked = none → f.entered = [] → (doReturn e (T'.setTop f) acts (r.1.map (tr G))).1 = T'.setFrames fs) →
        Steps p.tables e below (T.setTop (mkF m pc (arL G L) (S.map (tr G)))) (T'.setFrames fs)
/-- a whole call -/
def EvC (G : Ctx) (y : Mi) (args : List Value) (h : MHeap) (r : Option Value × MHeap) : Prop :=
  (h.length ≤ r.2.length ∧ hsl (gK G) h ≤ hsl (gK G) r.2) ∧
  ∀ (ws : List Jvm.Cond) (R : Room) (hr : Heap), mF y ≤ R.frames → mW y ≤ R.locals → r.2.length - h.length ≤ R.cells → hsl (gK G) r.2 - hsl (gK G) h ≤ R.slots → Rel G hr h →
    MetFree (gL G) (mN y) (head1 (Jvm.Cond.code (mN y) (mB y) (mL y) (mR y) :: ws) R) (fun a U => a = (args.map (tr G)).toArray ∧ (gZ G).Warmed39 U.vm ∧ U.heap = hr) (fun _ _ _ _ _ => True)
      (fun _ U o U' => ∃ v L, o = .returned v ∧ (v = r.1.map (tr G) ∧ Fr (gN G) L ∧ Rel G U'.heap r.2) ∧ FrameEnd U o U' L (r.2.length - h.length) (hsl (gK G) r.2 - hsl (gK G) h))
section Rules
variable {G : Ctx} {M : Mi} {pc : Nat} {L : List Slot} {S : List Value} {h : MHeap} {r : Option Value × MHeap}
theorem Ev.gen {pc' : Nat} {L' : List Slot} {S' : List Value} {h' : MHeap} (hm1 : h.length ≤ h'.length) (hm2 : hsl (gK G) h ≤ hsl (gK G) h') (hL : L'.length = L.length) (hn : Ev G M pc' L' S' h' r)
    (st : ∀ {p : Program} {e : Env} {R : Room} {s : State} {m : MethodId} {args : Array Value} {below : List Frame} {meth : Method} {c : Code} {T : State} {locs : List Loc} {cells slots : Nat},
      Stand p (gL G) e R s m args below meth c T locs cells slots → p.tables.exec = Jvm.exec → (gZ G).Warmed39 s.vm → s.vm.findClass (mN M).cls = some m.cls →
      c.code = mB M → c.maxLocals = mL M → meth.name = (mN M).name → L.length = mL M → mF M ≤ R.frames → mW M ≤ R.locals →
      s.heap.size + cells = T.heap.size → Rel G T.heap h → Fr (gN G) locs → cells + (h'.length - h.length) ≤ R.cells → slots + (hsl (gK G) h' - hsl (gK G) h) ≤ R.slots →
      ∃ T' locs', Stand p (gL G) e R s m args below meth c T' locs' (cells + (h'.length - h.length)) (slots + (hsl (gK G) h' - hsl (gK G) h)) ∧ Rel G T'.heap h' ∧ Fr (gN G) locs' ∧
        ∀ target, Steps p.tables e below (T'.setTop (mkF m pc' (arL G L') (S'.map (tr G)))) target → Steps p.tables e below (T.setTop (mkF m pc (arL G L) (S.map (tr G)))) target) :
    Ev G M pc L S h r := by
  obtain ⟨⟨g1, g2⟩, hn⟩ := hn
  refine ⟨⟨Nat.le_trans hm1 g1, Nat.le_trans hm2 g2⟩, ?_⟩
  intro p e R s m args below meth c T locs cells slots X hx hZ hown hby hml hret hnm hLm hfr hlo hsz hR hF hc hs
  obtain ⟨T1, locs1, X1, R1, F1, st1⟩ := st X hx hZ hown hby hml hnm hLm hfr hlo hsz hR hF (by omega) (by omega)
  have hsz1 : s.heap.size + (cells + (h'.length - h.length)) = T1.heap.size := by
    have a1 := hR.1
    have a2 := R1.1
    omega
  obtain ⟨T2, locs2, X2, R2, F2, st2⟩ := hn p e R s m args below meth c T1 locs1 _ _ X1 hx hZ hown hby hml hret hnm (hL.trans hLm) hfr hlo hsz1 R1 F1 (by omega) (by omega)
  refine ⟨T2, locs2, ?_, R2, F2, fun fs hl => st1 _ (st2 fs hl)⟩
  have e1 : cells + (h'.length - h.length) + (r.2.length - h'.length) = cells + (r.2.length - h.length) := by omega
  have e2 : slots + (hsl (gK G) h' - hsl (gK G) h) + (hsl (gK G) r.2 - hsl (gK G) h') = slots + (hsl (gK G) r.2 - hsl (gK G) h) := by omega
  rw [e1, e2] at X2
  exact X2
/-- a step that leaves the heap -/
theorem Ev.same {pc' : Nat} {L' : List Slot} {S' : List Value} (hL : L'.length = L.length) (hn : Ev G M pc' L' S' h r)
    (st : ∀ {p : Program} {e : Env} {R : Room} {s : State} {m : MethodId} {args : Array Value} {below : List Frame} {meth : Method} {c : Code} {T : State} {locs : List Loc} {cells slots : Nat},
      Stand p (gL G) e R s m args below meth c T locs cells slots → p.tables.exec = Jvm.exec → (gZ G).Warmed39 s.vm → s.vm.findClass (mN M).cls = some m.cls →
      c.code = mB M → c.maxLocals = mL M → L.length = mL M → mF M ≤ R.frames → mW M ≤ R.locals → Rel G T.heap h →
      ∃ T', Stand p (gL G) e R s m args below meth c T' locs cells slots ∧ T'.heap = T.heap ∧
        ∀ target, Steps p.tables e below (T'.setTop (mkF m pc' (arL G L') (S'.map (tr G)))) target → Steps p.tables e below (T.setTop (mkF m pc (arL G L) (S.map (tr G)))) target) :
    Ev G M pc L S h r := by
  refine Ev.gen (Nat.le_refl _) (Nat.le_refl _) hL hn ?_
  intro p e R s m args below meth c T locs cells slots X hx hZ hown hby hml hnm hLm hfr hlo hsz hR hF hc hs
  obtain ⟨T', X', e', st'⟩ := st X hx hZ hown hby hml hLm hfr hlo hR
  refine ⟨T', locs, ?_, by rw [e']; exact hR, hF, st'⟩
  rw [Nat.sub_self, Nat.sub_self, Nat.add_zero, Nat.add_zero]
  exact X'
/-- a step that leaves all but the frame -/
theorem Ev.pure {pc' : Nat} {L' : List Slot} {S' : List Value} (hL : L'.length = L.length) (hn : Ev G M pc' L' S' h r)
    (st : ∀ {p : Program} {e : Env} {R : Room} {s : State} {m : MethodId} {args : Array Value} {below : List Frame} {meth : Method} {c : Code} {T : State} {locs : List Loc} {cells slots : Nat},
      Stand p (gL G) e R s m args below meth c T locs cells slots → p.tables.exec = Jvm.exec → (gZ G).Warmed39 s.vm → s.vm.findClass (mN M).cls = some m.cls →
      c.code = mB M → ∀ target, Steps p.tables e below (T.setTop (mkF m pc' (arL G L') (S'.map (tr G)))) target → Steps p.tables e below (T.setTop (mkF m pc (arL G L) (S.map (tr G)))) target) :
    Ev G M pc L S h r :=
  Ev.same hL hn fun {p e R s m args below meth c T locs cells slots} X hx hZ hown hby hml hLm hfr hlo hR => ⟨T, X, rfl, st X hx hZ hown hby⟩
/-! ### loads, stores, constants -/
theorem Ev.iload {k : Nat} {v : Int32} (hd : decode (mB M) pc = .ok (.iload k, 2)) (hl : L[k]? = some (.val (.int v))) (hn : Ev G M (pc + 2) L (.int v :: S) h r) : Ev G M pc L S h r :=
  Ev.pure rfl hn fun {_ _ _ _ m _ _ _ _ _ _ _ _} X hx hZ hown hby target q => XS.iload (g := mkF m pc (arL G L) (List.map (tr G) S)) X.here hx rfl (hb hby hd) (ld_of hl) q
theorem Ev.iloadN {k : Fin 4} {v : Int32} (hd : decode (mB M) pc = .ok (.iload_n k, 1)) (hl : L[k.val]? = some (.val (.int v))) (hn : Ev G M (pc + 1) L (.int v :: S) h r) : Ev G M pc L S h r :=
  Ev.pure rfl hn fun {_ _ _ _ m _ _ _ _ _ _ _ _} X hx hZ hown hby target q => XS.iloadN (g := mkF m pc (arL G L) (List.map (tr G) S)) X.here hx rfl (hb hby hd) (ld_of hl) q
theorem Ev.aload {k : Nat} {v : Nat} (hd : decode (mB M) pc = .ok (.aload k, 2)) (hl : L[k]? = some (.val (.ref v))) (hn : Ev G M (pc + 2) L (.ref v :: S) h r) : Ev G M pc L S h r :=
  Ev.pure rfl hn fun {_ _ _ _ m _ _ _ _ _ _ _ _} X hx hZ hown hby target q => XS.aload (g := mkF m pc (arL G L) (List.map (tr G) S)) X.here hx rfl (hb hby hd) (ld_of hl) rfl q
theorem Ev.aloadN {k : Fin 4} {v : Nat} (hd : decode (mB M) pc = .ok (.aload_n k, 1)) (hl : L[k.val]? = some (.val (.ref v))) (hn : Ev G M (pc + 1) L (.ref v :: S) h r) : Ev G M pc L S h r :=
  Ev.pure rfl hn fun {_ _ _ _ m _ _ _ _ _ _ _ _} X hx hZ hown hby target q => XS.aloadN (g := mkF m pc (arL G L) (List.map (tr G) S)) X.here hx rfl (hb hby hd) (ld_of hl) rfl q
theorem Ev.lload {k : Nat} {v : Int64} (hd : decode (mB M) pc = .ok (.lload k, 2)) (hl : L[k]? = some (.val (.long v))) (hn : Ev G M (pc + 2) L (.long v :: S) h r) : Ev G M pc L S h r :=
  Ev.pure rfl hn fun {_ _ _ _ m _ _ _ _ _ _ _ _} X hx hZ hown hby target q => XT.lload (g := mkF m pc (arL G L) (List.map (tr G) S)) X.here hx rfl (hb hby hd) (ld_of hl) q
theorem Ev.lloadN {k : Fin 4} {v : Int64} (hd : decode (mB M) pc = .ok (.lload_n k, 1)) (hl : L[k.val]? = some (.val (.long v))) (hn : Ev G M (pc + 1) L (.long v :: S) h r) : Ev G M pc L S h r :=
  Ev.pure rfl hn fun {_ _ _ _ m _ _ _ _ _ _ _ _} X hx hZ hown hby target q => XT.lloadN (g := mkF m pc (arL G L) (List.map (tr G) S)) X.here hx rfl (hb hby hd) (ld_of hl) q
theorem Ev.istore {k : Nat} {v : Int32} {L' : List Slot} (hd : decode (mB M) pc = .ok (.istore k, 2)) (hl : mst L k (.int v) = some L') (hn : Ev G M (pc + 2) L' S h r) : Ev G M pc L (.int v :: S) h r :=
  Ev.pure (mst_len hl) hn fun {_ _ _ _ m _ _ _ _ _ _ _ _} X hx hZ hown hby target q => XS.istore (g := mkF m pc (arL G L) (List.map (tr G) (Value.int v :: S))) X.here hx rfl (hb hby hd) rfl (st_of hl) q
theorem Ev.istoreN {k : Fin 4} {v : Int32} {L' : List Slot} (hd : decode (mB M) pc = .ok (.istore_n k, 1)) (hl : mst L k.val (.int v) = some L') (hn : Ev G M (pc + 1) L' S h r) : Ev G M pc L (.int v :: S) h r :=
  Ev.pure (mst_len hl) hn fun {_ _ _ _ m _ _ _ _ _ _ _ _} X hx hZ hown hby target q => XS.istoreN (g := mkF m pc (arL G L) (List.map (tr G) (Value.int v :: S))) X.here hx rfl (hb hby hd) rfl (st_of hl) q
theorem Ev.astore {k v : Nat} {L' : List Slot} (hd : decode (mB M) pc = .ok (.astore k, 2)) (hl : mst L k (.ref v) = some L') (hn : Ev G M (pc + 2) L' S h r) : Ev G M pc L (.ref v :: S) h r :=
  Ev.pure (mst_len hl) hn fun {_ _ _ _ m _ _ _ _ _ _ _ _} X hx hZ hown hby target q => XS.astore (g := mkF m pc (arL G L) (List.map (tr G) (Value.ref v :: S))) X.here hx rfl (hb hby hd) rfl rfl (st_of hl) q
theorem Ev.astoreN {k : Fin 4} {v : Nat} {L' : List Slot} (hd : decode (mB M) pc = .ok (.astore_n k, 1)) (hl : mst L k.val (.ref v) = some L') (hn : Ev G M (pc + 1) L' S h r) : Ev G M pc L (.ref v :: S) h r :=
  Ev.pure (mst_len hl) hn fun {_ _ _ _ m _ _ _ _ _ _ _ _} X hx hZ hown hby target q => XS.astoreN (g := mkF m pc (arL G L) (List.map (tr G) (Value.ref v :: S))) X.here hx rfl (hb hby hd) rfl rfl (st_of hl) q
theorem Ev.lstore {k : Nat} {v : Int64} {L' : List Slot} (hd : decode (mB M) pc = .ok (.lstore k, 2)) (hl : mst L k (.long v) = some L') (hn : Ev G M (pc + 2) L' S h r) : Ev G M pc L (.long v :: S) h r :=
  Ev.pure (mst_len hl) hn fun {_ _ _ _ m _ _ _ _ _ _ _ _} X hx hZ hown hby target q => XT.lstore (g := mkF m pc (arL G L) (List.map (tr G) (Value.long v :: S))) X.here hx rfl (hb hby hd) rfl (st_of hl) q
theorem Ev.lstoreN {k : Fin 4} {v : Int64} {L' : List Slot} (hd : decode (mB M) pc = .ok (.lstore_n k, 1)) (hl : mst L k.val (.long v) = some L') (hn : Ev G M (pc + 1) L' S h r) : Ev G M pc L (.long v :: S) h r :=
  Ev.pure (mst_len hl) hn fun {_ _ _ _ m _ _ _ _ _ _ _ _} X hx hZ hown hby target q => XT.lstoreN (g := mkF m pc (arL G L) (List.map (tr G) (Value.long v :: S))) X.here hx rfl (hb hby hd) rfl (st_of hl) q
theorem Ev.iconst {i : Int} {z : Int32} (hd : decode (mB M) pc = .ok (.iconst i, 1)) (hz : Int32.ofInt i = z) (hn : Ev G M (pc + 1) L (.int z :: S) h r) : Ev G M pc L S h r :=
  Ev.pure rfl (hz ▸ hn) fun {_ _ _ _ m _ _ _ _ _ _ _ _} X hx hZ hown hby target q => XS.iconst (g := mkF m pc (arL G L) (List.map (tr G) S)) X.here hx rfl (hb hby hd) q
theorem Ev.bipush {i : Int} {z : Int32} (hd : decode (mB M) pc = .ok (.bipush i, 2)) (hz : (Int8.ofInt i).toInt32 = z) (hn : Ev G M (pc + 2) L (.int z :: S) h r) : Ev G M pc L S h r :=
  Ev.pure rfl (hz ▸ hn) fun {_ _ _ _ m _ _ _ _ _ _ _ _} X hx hZ hown hby target q => XS.bipush (g := mkF m pc (arL G L) (List.map (tr G) S)) X.here hx rfl (hb hby hd) q
theorem Ev.sipush {i : Int} {z : Int32} (hd : decode (mB M) pc = .ok (.sipush i, 3)) (hz : (Int16.ofInt i).toInt32 = z) (hn : Ev G M (pc + 3) L (.int z :: S) h r) : Ev G M pc L S h r :=
  Ev.pure rfl (hz ▸ hn) fun {_ _ _ _ m _ _ _ _ _ _ _ _} X hx hZ hown hby target q => XS.sipush (g := mkF m pc (arL G L) (List.map (tr G) S)) X.here hx rfl (hb hby hd) q
theorem Ev.lconst {k : Fin 2} {z : Int64} (hd : decode (mB M) pc = .ok (.lconst k, 1)) (hz : Int64.ofNat k = z) (hn : Ev G M (pc + 1) L (.long z :: S) h r) : Ev G M pc L S h r :=
  Ev.pure rfl (hz ▸ hn) fun {_ _ _ _ m _ _ _ _ _ _ _ _} X hx hZ hown hby target q => XT.lconst (g := mkF m pc (arL G L) (List.map (tr G) S)) X.here hx rfl (hb hby hd) q
theorem Ev.ldc {k : Nat} {v : Int32} (w : (Jvm.Cond.constant (mN M).cls k v).before (gA G) (gZ G) = true) (hd : decode (mB M) pc = .ok (.ldc k, 2)) (hn : Ev G M (pc + 2) L (.int v :: S) h r) : Ev G M pc L S h r :=
  Ev.pure rfl hn fun {_ _ _ _ m _ _ _ _ _ _ _ _} X hx hZ hown hby target q => X.ldcInt hx hown (mvT hZ w) (g := mkF m pc (arL G L) (List.map (tr G) S)) rfl (hb hby hd) target q
theorem Ev.ldcW {k : Nat} {v : Int32} (w : (Jvm.Cond.constant (mN M).cls k v).before (gA G) (gZ G) = true) (hd : decode (mB M) pc = .ok (.ldc_w k, 3)) (hn : Ev G M (pc + 3) L (.int v :: S) h r) : Ev G M pc L S h r :=
  Ev.pure rfl hn fun {_ _ _ _ m _ _ _ _ _ _ _ _} X hx hZ hown hby target q => X.ldcwInt hx hown (mvT hZ w) (g := mkF m pc (arL G L) (List.map (tr G) S)) rfl (hb hby hd) target q
theorem Ev.ldcL {k : Nat} {v : Int64} (w : (Jvm.Cond.constantLong (mN M).cls k v).before (gA G) (gZ G) = true) (hd : decode (mB M) pc = .ok (.ldc2_w k, 3)) (hn : Ev G M (pc + 3) L (.long v :: S) h r) : Ev G M pc L S h r :=
  Ev.pure rfl hn fun {_ _ _ _ m _ _ _ _ _ _ _ _} X hx hZ hown hby target q => X.ldc2Long hx hown (mvT hZ w) (g := mkF m pc (arL G L) (List.map (tr G) S)) rfl (hb hby hd) target q
/-! ### reckoning -/
theorem Ev.iadd {x y : Int32} (hd : decode (mB M) pc = .ok (.iadd, 1)) (hn : Ev G M (pc + 1) L (.int (x + y) :: S) h r) : Ev G M pc L (.int y :: .int x :: S) h r :=
  Ev.pure rfl hn fun {_ _ _ _ m _ _ _ _ _ _ _ _} X hx hZ hown hby target q => XS.iadd (g := mkF m pc (arL G L) (List.map (tr G) (Value.int y :: Value.int x :: S))) X.here hx rfl (hb hby hd) rfl q
theorem Ev.isub {x y : Int32} (hd : decode (mB M) pc = .ok (.isub, 1)) (hn : Ev G M (pc + 1) L (.int (x - y) :: S) h r) : Ev G M pc L (.int y :: .int x :: S) h r :=
  Ev.pure rfl hn fun {_ _ _ _ m _ _ _ _ _ _ _ _} X hx hZ hown hby target q => XS.isub (g := mkF m pc (arL G L) (List.map (tr G) (Value.int y :: Value.int x :: S))) X.here hx rfl (hb hby hd) rfl q
theorem Ev.imul {x y : Int32} (hd : decode (mB M) pc = .ok (.imul, 1)) (hn : Ev G M (pc + 1) L (.int (x * y) :: S) h r) : Ev G M pc L (.int y :: .int x :: S) h r :=
  Ev.pure rfl hn fun {_ _ _ _ m _ _ _ _ _ _ _ _} X hx hZ hown hby target q => XS.imul (g := mkF m pc (arL G L) (List.map (tr G) (Value.int y :: Value.int x :: S))) X.here hx rfl (hb hby hd) rfl q
theorem Ev.idiv {x y : Int32} (hd : decode (mB M) pc = .ok (.idiv, 1)) (hy : y ≠ 0) (hn : Ev G M (pc + 1) L (.int (x / y) :: S) h r) : Ev G M pc L (.int y :: .int x :: S) h r :=
  Ev.pure rfl hn fun {_ _ _ _ m _ _ _ _ _ _ _ _} X hx hZ hown hby target q => XS.idiv (g := mkF m pc (arL G L) (List.map (tr G) (Value.int y :: Value.int x :: S))) X.here hx rfl (hb hby hd) rfl hy q
theorem Ev.irem {x y : Int32} (hd : decode (mB M) pc = .ok (.irem, 1)) (hy : y ≠ 0) (hn : Ev G M (pc + 1) L (.int (x % y) :: S) h r) : Ev G M pc L (.int y :: .int x :: S) h r :=
  Ev.pure rfl hn fun {_ _ _ _ m _ _ _ _ _ _ _ _} X hx hZ hown hby target q => iremM (g := mkF m pc (arL G L) (List.map (tr G) (Value.int y :: Value.int x :: S))) X hx rfl (hb hby hd) rfl hy q
theorem Ev.ineg {x : Int32} (hd : decode (mB M) pc = .ok (.ineg, 1)) (hn : Ev G M (pc + 1) L (.int (-x) :: S) h r) : Ev G M pc L (.int x :: S) h r :=
  Ev.pure rfl hn fun {_ _ _ _ m _ _ _ _ _ _ _ _} X hx hZ hown hby target q => XS.ineg (g := mkF m pc (arL G L) (List.map (tr G) (Value.int x :: S))) X.here hx rfl (hb hby hd) rfl q
theorem Ev.iand {x y : Int32} (hd : decode (mB M) pc = .ok (.iand, 1)) (hn : Ev G M (pc + 1) L (.int (x &&& y) :: S) h r) : Ev G M pc L (.int y :: .int x :: S) h r :=
  Ev.pure rfl hn fun {_ _ _ _ m _ _ _ _ _ _ _ _} X hx hZ hown hby target q => XS.iand (g := mkF m pc (arL G L) (List.map (tr G) (Value.int y :: Value.int x :: S))) X.here hx rfl (hb hby hd) rfl q
theorem Ev.ior {x y : Int32} (hd : decode (mB M) pc = .ok (.ior, 1)) (hn : Ev G M (pc + 1) L (.int (x ||| y) :: S) h r) : Ev G M pc L (.int y :: .int x :: S) h r :=
  Ev.pure rfl hn fun {_ _ _ _ m _ _ _ _ _ _ _ _} X hx hZ hown hby target q => XT.ior (g := mkF m pc (arL G L) (List.map (tr G) (Value.int y :: Value.int x :: S))) X.here hx rfl (hb hby hd) rfl q
theorem Ev.ixor {x y : Int32} (hd : decode (mB M) pc = .ok (.ixor, 1)) (hn : Ev G M (pc + 1) L (.int (x ^^^ y) :: S) h r) : Ev G M pc L (.int y :: .int x :: S) h r :=
  Ev.pure rfl hn fun {_ _ _ _ m _ _ _ _ _ _ _ _} X hx hZ hown hby target q => XT.ixor (g := mkF m pc (arL G L) (List.map (tr G) (Value.int y :: Value.int x :: S))) X.here hx rfl (hb hby hd) rfl q
theorem Ev.ishl {x y : Int32} (hd : decode (mB M) pc = .ok (.ishl, 1)) (hn : Ev G M (pc + 1) L (.int (x <<< (y &&& 31)) :: S) h r) : Ev G M pc L (.int y :: .int x :: S) h r :=
  Ev.pure rfl hn fun {_ _ _ _ m _ _ _ _ _ _ _ _} X hx hZ hown hby target q => XT.ishl (g := mkF m pc (arL G L) (List.map (tr G) (Value.int y :: Value.int x :: S))) X.here hx rfl (hb hby hd) rfl q
theorem Ev.ishr {x y : Int32} (hd : decode (mB M) pc = .ok (.ishr, 1)) (hn : Ev G M (pc + 1) L (.int (x >>> (y &&& 31)) :: S) h r) : Ev G M pc L (.int y :: .int x :: S) h r :=
  Ev.pure rfl hn fun {_ _ _ _ m _ _ _ _ _ _ _ _} X hx hZ hown hby target q => XT.ishr (g := mkF m pc (arL G L) (List.map (tr G) (Value.int y :: Value.int x :: S))) X.here hx rfl (hb hby hd) rfl q
theorem Ev.iushr {x y : Int32} (hd : decode (mB M) pc = .ok (.iushr, 1)) (hn : Ev G M (pc + 1) L (.int (XT.ushr x y) :: S) h r) : Ev G M pc L (.int y :: .int x :: S) h r :=
  Ev.pure rfl hn fun {_ _ _ _ m _ _ _ _ _ _ _ _} X hx hZ hown hby target q => XT.iushr (g := mkF m pc (arL G L) (List.map (tr G) (Value.int y :: Value.int x :: S))) X.here hx rfl (hb hby hd) rfl q
theorem Ev.ladd {x y : Int64} (hd : decode (mB M) pc = .ok (.ladd, 1)) (hn : Ev G M (pc + 1) L (.long (x + y) :: S) h r) : Ev G M pc L (.long y :: .long x :: S) h r :=
  Ev.pure rfl hn fun {_ _ _ _ m _ _ _ _ _ _ _ _} X hx hZ hown hby target q => XT.ladd (g := mkF m pc (arL G L) (List.map (tr G) (Value.long y :: Value.long x :: S))) X.here hx rfl (hb hby hd) rfl q
theorem Ev.lsub {x y : Int64} (hd : decode (mB M) pc = .ok (.lsub, 1)) (hn : Ev G M (pc + 1) L (.long (x - y) :: S) h r) : Ev G M pc L (.long y :: .long x :: S) h r :=
  Ev.pure rfl hn fun {_ _ _ _ m _ _ _ _ _ _ _ _} X hx hZ hown hby target q => XT.lsub (g := mkF m pc (arL G L) (List.map (tr G) (Value.long y :: Value.long x :: S))) X.here hx rfl (hb hby hd) rfl q
theorem Ev.lmul {x y : Int64} (hd : decode (mB M) pc = .ok (.lmul, 1)) (hn : Ev G M (pc + 1) L (.long (x * y) :: S) h r) : Ev G M pc L (.long y :: .long x :: S) h r :=
  Ev.pure rfl hn fun {_ _ _ _ m _ _ _ _ _ _ _ _} X hx hZ hown hby target q => XT.lmul (g := mkF m pc (arL G L) (List.map (tr G) (Value.long y :: Value.long x :: S))) X.here hx rfl (hb hby hd) rfl q
theorem Ev.ldiv {x y : Int64} (hd : decode (mB M) pc = .ok (.ldiv, 1)) (hy : y ≠ 0) (hn : Ev G M (pc + 1) L (.long (x / y) :: S) h r) : Ev G M pc L (.long y :: .long x :: S) h r :=
  Ev.pure rfl hn fun {_ _ _ _ m _ _ _ _ _ _ _ _} X hx hZ hown hby target q => XT.ldiv (g := mkF m pc (arL G L) (List.map (tr G) (Value.long y :: Value.long x :: S))) X.here hx rfl (hb hby hd) rfl hy q
theorem Ev.lneg {x : Int64} (hd : decode (mB M) pc = .ok (.lneg, 1)) (hn : Ev G M (pc + 1) L (.long (-x) :: S) h r) : Ev G M pc L (.long x :: S) h r :=
  Ev.pure rfl hn fun {_ _ _ _ m _ _ _ _ _ _ _ _} X hx hZ hown hby target q => XT.lneg (g := mkF m pc (arL G L) (List.map (tr G) (Value.long x :: S))) X.here hx rfl (hb hby hd) rfl q
theorem Ev.land {x y : Int64} (hd : decode (mB M) pc = .ok (.land, 1)) (hn : Ev G M (pc + 1) L (.long (x &&& y) :: S) h r) : Ev G M pc L (.long y :: .long x :: S) h r :=
  Ev.pure rfl hn fun {_ _ _ _ m _ _ _ _ _ _ _ _} X hx hZ hown hby target q => XT.land (g := mkF m pc (arL G L) (List.map (tr G) (Value.long y :: Value.long x :: S))) X.here hx rfl (hb hby hd) rfl q
theorem Ev.lor {x y : Int64} (hd : decode (mB M) pc = .ok (.lor, 1)) (hn : Ev G M (pc + 1) L (.long (x ||| y) :: S) h r) : Ev G M pc L (.long y :: .long x :: S) h r :=
  Ev.pure rfl hn fun {_ _ _ _ m _ _ _ _ _ _ _ _} X hx hZ hown hby target q => XT.lor (g := mkF m pc (arL G L) (List.map (tr G) (Value.long y :: Value.long x :: S))) X.here hx rfl (hb hby hd) rfl q
theorem Ev.lxor {x y : Int64} (hd : decode (mB M) pc = .ok (.lxor, 1)) (hn : Ev G M (pc + 1) L (.long (x ^^^ y) :: S) h r) : Ev G M pc L (.long y :: .long x :: S) h r :=
  Ev.pure rfl hn fun {_ _ _ _ m _ _ _ _ _ _ _ _} X hx hZ hown hby target q => XT.lxor (g := mkF m pc (arL G L) (List.map (tr G) (Value.long y :: Value.long x :: S))) X.here hx rfl (hb hby hd) rfl q
theorem Ev.lshl {x : Int64} {y : Int32} (hd : decode (mB M) pc = .ok (.lshl, 1)) (hn : Ev G M (pc + 1) L (.long (x <<< (y.toInt64 &&& 63)) :: S) h r) : Ev G M pc L (.int y :: .long x :: S) h r :=
  Ev.pure rfl hn fun {_ _ _ _ m _ _ _ _ _ _ _ _} X hx hZ hown hby target q => XT.lshl (g := mkF m pc (arL G L) (List.map (tr G) (Value.int y :: Value.long x :: S))) X.here hx rfl (hb hby hd) rfl q
theorem Ev.lushr {x : Int64} {y : Int32} (hd : decode (mB M) pc = .ok (.lushr, 1)) (hn : Ev G M (pc + 1) L (.long (XT.ushrL x y) :: S) h r) : Ev G M pc L (.int y :: .long x :: S) h r :=
  Ev.pure rfl hn fun {_ _ _ _ m _ _ _ _ _ _ _ _} X hx hZ hown hby target q => XT.lushr (g := mkF m pc (arL G L) (List.map (tr G) (Value.int y :: Value.long x :: S))) X.here hx rfl (hb hby hd) rfl q
theorem Ev.lcmp {x y : Int64} (hd : decode (mB M) pc = .ok (.lcmp, 1)) (hn : Ev G M (pc + 1) L (.int (XT.cmpL x y) :: S) h r) : Ev G M pc L (.long y :: .long x :: S) h r :=
  Ev.pure rfl hn fun {_ _ _ _ m _ _ _ _ _ _ _ _} X hx hZ hown hby target q => XT.lcmp (g := mkF m pc (arL G L) (List.map (tr G) (Value.long y :: Value.long x :: S))) X.here hx rfl (hb hby hd) rfl q
theorem Ev.i2l {x : Int32} (hd : decode (mB M) pc = .ok (.i2l, 1)) (hn : Ev G M (pc + 1) L (.long x.toInt64 :: S) h r) : Ev G M pc L (.int x :: S) h r :=
  Ev.pure rfl hn fun {_ _ _ _ m _ _ _ _ _ _ _ _} X hx hZ hown hby target q => XT.i2l (g := mkF m pc (arL G L) (List.map (tr G) (Value.int x :: S))) X.here hx rfl (hb hby hd) rfl q
theorem Ev.l2i {x : Int64} (hd : decode (mB M) pc = .ok (.l2i, 1)) (hn : Ev G M (pc + 1) L (.int x.toInt32 :: S) h r) : Ev G M pc L (.long x :: S) h r :=
  Ev.pure rfl hn fun {_ _ _ _ m _ _ _ _ _ _ _ _} X hx hZ hown hby target q => XT.l2i (g := mkF m pc (arL G L) (List.map (tr G) (Value.long x :: S))) X.here hx rfl (hb hby hd) rfl q
theorem Ev.i2b {x : Int32} (hd : decode (mB M) pc = .ok (.i2b, 1)) (hn : Ev G M (pc + 1) L (.int x.toInt8.toInt32 :: S) h r) : Ev G M pc L (.int x :: S) h r :=
  Ev.pure rfl hn fun {_ _ _ _ m _ _ _ _ _ _ _ _} X hx hZ hown hby target q => XT.i2b (g := mkF m pc (arL G L) (List.map (tr G) (Value.int x :: S))) X.here hx rfl (hb hby hd) rfl q
theorem Ev.iinc {k : Nat} {i : Int} {x z : Int32} {L' : List Slot} (hd : decode (mB M) pc = .ok (.iinc k i, 3)) (hl : L[k]? = some (.val (.int x))) (hz : Int32.ofInt i = z) (hl' : mst L k (.int (x + z)) = some L') (hn : Ev G M (pc + 3) L' S h r) : Ev G M pc L S h r :=
  Ev.pure (mst_len hl') hn fun {_ _ _ _ m _ _ _ _ _ _ _ _} X hx hZ hown hby target q => XS.iinc (g := mkF m pc (arL G L) (List.map (tr G) S)) X.here hx rfl (hb hby hd) (ld_of hl) (by rw [hz]; exact st_of hl') q
theorem iincW {tb : Tables} [Ours tb] {e : Env} {below : List Frame} {T target : State} {m : MethodId} {c : Code} {g : JFrame} (h : At T m c below) (hx : tb.exec = Jvm.exec) (hg : g.method = m) {k : Nat} {cst : Int} {x : Int32} {l' : Array Slot} (hd : decode c.code g.pc = .ok (.iinc k cst, 6)) (hl : g.locals[k]? = some (.val (.int x))) (hl' : storeLocals g.locals k (.int (x + Int32.ofInt cst)) = some l')
    (hr : Steps tb e below (T.setTop { g with pc := g.pc + 6, locals := l' }) target) : Steps tb e below (T.setTop g) target := by
  subst hg
  jvm_step h [h.top, hx, hd, hl, hl']
  exact hr
theorem Ev.iincW {k : Nat} {i : Int} {x z : Int32} {L' : List Slot} (hd : decode (mB M) pc = .ok (.iinc k i, 6)) (hl : L[k]? = some (.val (.int x))) (hz : Int32.ofInt i = z) (hl' : mst L k (.int (x + z)) = some L') (hn : Ev G M (pc + 6) L' S h r) : Ev G M pc L S h r :=
  Ev.pure (mst_len hl') hn fun {_ _ _ _ m _ _ _ _ _ _ _ _} X hx hZ hown hby target q => Own.iincW (g := mkF m pc (arL G L) (List.map (tr G) S)) X.here hx rfl (hb hby hd) (ld_of hl) (by rw [hz]; exact st_of hl') q
theorem Ev.dup {x : Value} (hd : decode (mB M) pc = .ok (.dup, 1)) (hc : x.category = 1) (hn : Ev G M (pc + 1) L (x :: x :: S) h r) : Ev G M pc L (x :: S) h r :=
  Ev.pure rfl hn fun {_ _ _ _ m _ _ _ _ _ _ _ _} X hx hZ hown hby target q => XS.dup (g := mkF m pc (arL G L) (List.map (tr G) (x :: S))) X.here hx rfl (hb hby hd) rfl ((tr_cat G x).trans hc) q
theorem Ev.dup2 {x y : Value} (hd : decode (mB M) pc = .ok (.dup2, 1)) (hc : x.category = 1) (hc' : y.category = 1) (hn : Ev G M (pc + 1) L (x :: y :: x :: y :: S) h r) : Ev G M pc L (x :: y :: S) h r :=
  Ev.pure rfl hn fun {_ _ _ _ m _ _ _ _ _ _ _ _} X hx hZ hown hby target q => XT.dup2 (g := mkF m pc (arL G L) (List.map (tr G) (x :: y :: S))) X.here hx rfl (hb hby hd) rfl ((tr_cat G x).trans hc) ((tr_cat G y).trans hc') q
theorem Ev.pop {x : Value} (hd : decode (mB M) pc = .ok (.pop, 1)) (hc : x.category = 1) (hn : Ev G M (pc + 1) L S h r) : Ev G M pc L (x :: S) h r :=
  Ev.pure rfl hn fun {_ _ _ _ m _ _ _ _ _ _ _ _} X hx hZ hown hby target q => XT.pop (g := mkF m pc (arL G L) (List.map (tr G) (x :: S))) X.here hx rfl (hb hby hd) rfl ((tr_cat G x).trans hc) q
/-! ### branches -/
theorem Ev.goto {o : Int} {t : Nat} (hd : decode (mB M) pc = .ok (.goto o, 3)) (hp : (pc : Int) + o = (t : Int)) (hn : Ev G M t L S h r) : Ev G M pc L S h r :=
  Ev.pure rfl hn fun {_ _ _ _ m _ _ _ _ _ _ _ _} X hx hZ hown hby target q => XS.goto (g := mkF m pc (arL G L) (List.map (tr G) S)) X.here hx rfl rfl (hb hby hd) (by rw [hp]; exact Int.natCast_nonneg t) (by rw [hp]; rfl) q
theorem Ev.ifc {cd : ClassFile.Cond} {x : Int32} {o : Int} {t : Nat} (hd : decode (mB M) pc = .ok (.ifCond cd o, 3)) (hp : (pc : Int) + o = (t : Int)) (h1 : ifCond.holds cd x = true → Ev G M t L S h r) (h2 : ifCond.holds cd x = false → Ev G M (pc + 3) L S h r) : Ev G M pc L (.int x :: S) h r := by
  cases hc : ifCond.holds cd x with
  | true => exact Ev.pure rfl (h1 hc) fun {_ _ _ _ m _ _ _ _ _ _ _ _} X hx hZ hown hby target q => XS.ifYes (g := mkF m pc (arL G L) (List.map (tr G) (Value.int x :: S))) X.here hx rfl rfl (hb hby hd) rfl hc (by rw [hp]; exact Int.natCast_nonneg t) (by rw [hp]; rfl) q
  | false => exact Ev.pure rfl (h2 hc) fun {_ _ _ _ m _ _ _ _ _ _ _ _} X hx hZ hown hby target q => XS.ifNo (g := mkF m pc (arL G L) (List.map (tr G) (Value.int x :: S))) X.here hx rfl (hb hby hd) rfl hc q
theorem Ev.icc {cd : ClassFile.Cond} {x y : Int32} {o : Int} {t : Nat} (hd : decode (mB M) pc = .ok (.if_icmp cd o, 3)) (hp : (pc : Int) + o = (t : Int)) (h1 : if_icmp.holds cd x y = true → Ev G M t L S h r) (h2 : if_icmp.holds cd x y = false → Ev G M (pc + 3) L S h r) : Ev G M pc L (.int y :: .int x :: S) h r := by
  cases hc : if_icmp.holds cd x y with
  | true => exact Ev.pure rfl (h1 hc) fun {_ _ _ _ m _ _ _ _ _ _ _ _} X hx hZ hown hby target q => XS.icmpYes (g := mkF m pc (arL G L) (List.map (tr G) (Value.int y :: Value.int x :: S))) X.here hx rfl rfl (hb hby hd) rfl hc (by rw [hp]; exact Int.natCast_nonneg t) (by rw [hp]; rfl) q
  | false => exact Ev.pure rfl (h2 hc) fun {_ _ _ _ m _ _ _ _ _ _ _ _} X hx hZ hown hby target q => XS.icmpNo (g := mkF m pc (arL G L) (List.map (tr G) (Value.int y :: Value.int x :: S))) X.here hx rfl (hb hby hd) rfl hc q
theorem Ev.iclt {x y : Int32} {o : Int} {t : Nat} (hd : decode (mB M) pc = .ok (.if_icmp .lt o, 3)) (hp : (pc : Int) + o = (t : Int)) (h1 : x < y → Ev G M t L S h r) (h2 : ¬ x < y → Ev G M (pc + 3) L S h r) : Ev G M pc L (.int y :: .int x :: S) h r :=
  Ev.icc hd hp (fun q => h1 (by simpa [if_icmp.holds] using q)) (fun q => h2 (by simpa [if_icmp.holds] using q))
theorem Ev.icge {x y : Int32} {o : Int} {t : Nat} (hd : decode (mB M) pc = .ok (.if_icmp .ge o, 3)) (hp : (pc : Int) + o = (t : Int)) (h1 : x < y → Ev G M (pc + 3) L S h r) (h2 : ¬ x < y → Ev G M t L S h r) : Ev G M pc L (.int y :: .int x :: S) h r :=
  Ev.icc hd hp (fun q => h2 (by simpa [if_icmp.holds] using q)) (fun q => h1 (by simpa [if_icmp.holds] using q))
theorem Ev.icgt {x y : Int32} {o : Int} {t : Nat} (hd : decode (mB M) pc = .ok (.if_icmp .gt o, 3)) (hp : (pc : Int) + o = (t : Int)) (h1 : y < x → Ev G M t L S h r) (h2 : ¬ y < x → Ev G M (pc + 3) L S h r) : Ev G M pc L (.int y :: .int x :: S) h r :=
  Ev.icc hd hp (fun q => h1 (by simpa [if_icmp.holds] using q)) (fun q => h2 (by simpa [if_icmp.holds] using q))
theorem Ev.icle {x y : Int32} {o : Int} {t : Nat} (hd : decode (mB M) pc = .ok (.if_icmp .le o, 3)) (hp : (pc : Int) + o = (t : Int)) (h1 : y < x → Ev G M (pc + 3) L S h r) (h2 : ¬ y < x → Ev G M t L S h r) : Ev G M pc L (.int y :: .int x :: S) h r :=
  Ev.icc hd hp (fun q => h2 (by simpa [if_icmp.holds] using q)) (fun q => h1 (by simpa [if_icmp.holds] using q))
theorem Ev.iceq {x y : Int32} {o : Int} {t : Nat} (hd : decode (mB M) pc = .ok (.if_icmp .eq o, 3)) (hp : (pc : Int) + o = (t : Int)) (h1 : x = y → Ev G M t L S h r) (h2 : ¬ x = y → Ev G M (pc + 3) L S h r) : Ev G M pc L (.int y :: .int x :: S) h r :=
  Ev.icc hd hp (fun q => h1 (by simpa [if_icmp.holds] using q)) (fun q => h2 (by simpa [if_icmp.holds] using q))
theorem Ev.icne {x y : Int32} {o : Int} {t : Nat} (hd : decode (mB M) pc = .ok (.if_icmp .ne o, 3)) (hp : (pc : Int) + o = (t : Int)) (h1 : x = y → Ev G M (pc + 3) L S h r) (h2 : ¬ x = y → Ev G M t L S h r) : Ev G M pc L (.int y :: .int x :: S) h r :=
  Ev.icc hd hp (fun q => h2 (by simpa [if_icmp.holds] using q)) (fun q => h1 (by simpa [if_icmp.holds] using q))
theorem Ev.iflt {x : Int32} {o : Int} {t : Nat} (hd : decode (mB M) pc = .ok (.ifCond .lt o, 3)) (hp : (pc : Int) + o = (t : Int)) (h1 : x < 0 → Ev G M t L S h r) (h2 : ¬ x < 0 → Ev G M (pc + 3) L S h r) : Ev G M pc L (.int x :: S) h r :=
  Ev.ifc hd hp (fun q => h1 (by simpa [ifCond.holds] using q)) (fun q => h2 (by simpa [ifCond.holds] using q))
theorem Ev.ifge {x : Int32} {o : Int} {t : Nat} (hd : decode (mB M) pc = .ok (.ifCond .ge o, 3)) (hp : (pc : Int) + o = (t : Int)) (h1 : x < 0 → Ev G M (pc + 3) L S h r) (h2 : ¬ x < 0 → Ev G M t L S h r) : Ev G M pc L (.int x :: S) h r :=
  Ev.ifc hd hp (fun q => h2 (by simpa [ifCond.holds] using q)) (fun q => h1 (by simpa [ifCond.holds] using q))
theorem Ev.ifgt {x : Int32} {o : Int} {t : Nat} (hd : decode (mB M) pc = .ok (.ifCond .gt o, 3)) (hp : (pc : Int) + o = (t : Int)) (h1 : 0 < x → Ev G M t L S h r) (h2 : ¬ 0 < x → Ev G M (pc + 3) L S h r) : Ev G M pc L (.int x :: S) h r :=
  Ev.ifc hd hp (fun q => h1 (by simpa [ifCond.holds] using q)) (fun q => h2 (by simpa [ifCond.holds] using q))
theorem Ev.ifle {x : Int32} {o : Int} {t : Nat} (hd : decode (mB M) pc = .ok (.ifCond .le o, 3)) (hp : (pc : Int) + o = (t : Int)) (h1 : 0 < x → Ev G M (pc + 3) L S h r) (h2 : ¬ 0 < x → Ev G M t L S h r) : Ev G M pc L (.int x :: S) h r :=
  Ev.ifc hd hp (fun q => h2 (by simpa [ifCond.holds] using q)) (fun q => h1 (by simpa [ifCond.holds] using q))
theorem Ev.ifeq {x : Int32} {o : Int} {t : Nat} (hd : decode (mB M) pc = .ok (.ifCond .eq o, 3)) (hp : (pc : Int) + o = (t : Int)) (h1 : x = 0 → Ev G M t L S h r) (h2 : ¬ x = 0 → Ev G M (pc + 3) L S h r) : Ev G M pc L (.int x :: S) h r :=
  Ev.ifc hd hp (fun q => h1 (by simpa [ifCond.holds] using q)) (fun q => h2 (by simpa [ifCond.holds] using q))
theorem Ev.ifne {x : Int32} {o : Int} {t : Nat} (hd : decode (mB M) pc = .ok (.ifCond .ne o, 3)) (hp : (pc : Int) + o = (t : Int)) (h1 : x = 0 → Ev G M (pc + 3) L S h r) (h2 : ¬ x = 0 → Ev G M t L S h r) : Ev G M pc L (.int x :: S) h r :=
  Ev.ifc hd hp (fun q => h2 (by simpa [ifCond.holds] using q)) (fun q => h1 (by simpa [ifCond.holds] using q))
theorem Ev.tswIn {x : Int32} {dflt low high : Int} {offs : Array Int} {len t : Nat} {o : Int} (hd : decode (mB M) pc = .ok (.tableswitch dflt low high offs, len)) (hin : ¬ (x.toInt < low ∨ x.toInt > high)) (ho : offs[(x.toInt - low).toNat]? = some o) (hp : (pc : Int) + o = (t : Int)) (hn : Ev G M t L S h r) : Ev G M pc L (.int x :: S) h r :=
  Ev.pure rfl hn fun {_ _ _ _ m _ _ _ _ _ _ _ _} X hx hZ hown hby target q => XS.tswIn (g := mkF m pc (arL G L) (List.map (tr G) (Value.int x :: S))) X.here hx rfl rfl (hb hby hd) rfl hin ho (by rw [hp]; exact Int.natCast_nonneg t) (by rw [hp]; rfl) q
theorem Ev.tswOut {x : Int32} {dflt low high : Int} {offs : Array Int} {len t : Nat} (hd : decode (mB M) pc = .ok (.tableswitch dflt low high offs, len)) (hout : x.toInt < low ∨ x.toInt > high) (hp : (pc : Int) + dflt = (t : Int)) (hn : Ev G M t L S h r) : Ev G M pc L (.int x :: S) h r :=
  Ev.pure rfl hn fun {_ _ _ _ m _ _ _ _ _ _ _ _} X hx hZ hown hby target q => XS.tswOut (g := mkF m pc (arL G L) (List.map (tr G) (Value.int x :: S))) X.here hx rfl rfl (hb hby hd) rfl hout (by rw [hp]; exact Int.natCast_nonneg t) (by rw [hp]; rfl) q
/-! ### fields -/
theorem Ev.getfield {idx j i : Nat} {n d : String} {ty : FieldType} {fs : List Value} {v : Value} (w : (Jvm.Cond.fieldLink (mN M).cls idx (gC G) n d).before (gA G) (gZ G) = true) (hd : decode (mB M) pc = .ok (.getfield idx, 3))
    (hF : (gF G)[j]? = some (n, d, ty)) (hi : h[i]? = some (.inl fs)) (hv : fs[j]? = some v) (hn : Ev G M (pc + 3) L (v :: S) h r) : Ev G M pc L (.ref i :: S) h r := by
  refine Ev.same rfl hn ?_
  intro p e R s m args below meth c T locs cells slots X hx hZ hown hby hml hLm hfr hlo hR
  obtain ⟨-, -, h3⟩ := hR.2.2.2 i _ hi
  obtain ⟨T', X', e', st⟩ := getF X hx hZ hown (host := "") (Or.inl w) Via.refl rfl (h3 j n d ty v hF hv) (g := mkF m pc (arL G L) ((Value.ref i :: S).map (tr G))) rfl rfl (hb hby hd)
  exact ⟨T', X', e', st⟩
def mput : FieldType → Value → Option Value
  | .int, .int z => some (.int z)
  | .boolean, .int z => some (.int (z &&& 1))
  | .array _, .ref a => some (.ref a)
  | _, _ => none
theorem mput_spec {G : Ctx} {ty : FieldType} {v v' : Value} (h : mput ty v = some v') : narrow ty (tr G v) = tr G v' ∧ fits ty (tr G v') = true := by
  unfold mput at h
  split at h
  · cases h; exact ⟨rfl, rfl⟩
  · cases h; exact ⟨rfl, fits_nar_bool _⟩
  · cases h; exact ⟨rfl, rfl⟩
  · cases h
theorem Ev.putfield {idx j i : Nat} {n d : String} {ty : FieldType} {fs : List Value} {v v' : Value} (K : GOk G) (w : (Jvm.Cond.fieldLink (mN M).cls idx (gC G) n d).before (gA G) (gZ G) = true)
    (wl : (Jvm.Cond.lays (gC G) (gC G) n d).before (gA G) (gZ G) = true ∨ ((Jvm.Cond.laysFinal (gC G) (gC G) n d).before (gA G) (gZ G) = true ∧ (mN M).cls = gC G ∧ (mN M).name = "<init>"))
    (hd : decode (mB M) pc = .ok (.putfield idx, 3)) (hF : (gF G)[j]? = some (n, d, ty)) (hk : k0 G ≤ i) (hi : h[i]? = some (.inl fs)) (hp : mput ty v = some v') (hn : Ev G M (pc + 3) L S (h.set i (.inl (fs.set j v'))) r) : Ev G M pc L (v :: .ref i :: S) h r := by
  have hs := hsl_set (gK G) h i (.inl fs) (.inl (fs.set j v')) hi rfl
  refine Ev.gen (by rw [List.length_set]; exact Nat.le_refl _) (by rw [hs]; exact Nat.le_refl _) rfl hn ?_
  intro p e R s m args below meth c T locs cells slots X hx hZ hown hby hml hnm hLm hfr hlo hsz hR hFr hc hsq
  obtain ⟨e1, e2, e3⟩ := hR.2.2.2 i _ hi
  obtain ⟨q1, q2⟩ := mput_spec (G := G) hp
  have hlt : j < fs.length := by rw [e2]; exact (List.getElem?_eq_some_iff.mp hF).1
  have F := e3 j n d ty _ hF (List.getElem?_eq_getElem hlt)
  obtain ⟨T', h', X', eT', W, st⟩ := putFN X hx hZ hown w Via.refl rfl F e1 (wl.imp id fun ⟨a, b, c⟩ => ⟨a, b, by rw [hnm]; exact c⟩) K.2.2.1 (K.1 j n d ty hF).2 q1 q2 (g := mkF m pc (arL G L) ((v :: Value.ref i :: S).map (tr G))) rfl rfl (hb hby hd)
  refine ⟨T', _, ?_, ?_, Fr.snoc X' hFr (rho_ge hk), st⟩
  · rw [hs, List.length_set, Nat.sub_self, Nat.sub_self, Nat.add_zero, Nat.add_zero]; exact X'
  · rw [eT']; exact hR.wrFld K hi hF W
/-! ### arrays -/
theorem get_arr {xs : List Int32} {c : Cell} (hs : c.slots = (xs.map Value.int).toArray) (k : Nat) : c.slots[k]? = (xs[k]?).map Value.int := by rw [hs]; simp
theorem arr_size {xs : List Int32} {c : Cell} (hs : c.slots = (xs.map Value.int).toArray) : c.slots.size = xs.length := by rw [hs]; simp
theorem Ev.arraylength {i : Nat} {b : Bool} {xs : List Int32} (hd : decode (mB M) pc = .ok (.arraylength, 1)) (hi : h[i]? = some (.inr (b, xs))) (hn : Ev G M (pc + 1) L (.int xs.length.toInt32 :: S) h r) : Ev G M pc L (.ref i :: S) h r := by
  refine Ev.same rfl hn ?_
  intro p e R s m args below meth c T locs cells slots X hx hZ hown hby hml hLm hfr hlo hR
  obtain ⟨cl, A, hs⟩ := hR.2.2.2 i _ hi
  refine ⟨T, X, rfl, fun target k => X.arraylength hx A.1 (State.isArrayOf_alike hZ.alike A.2.1) (g := mkF m pc (arL G L) ((Value.ref i :: S).map (tr G))) rfl rfl (hb hby hd) target ?_⟩
  rw [arr_size hs]; exact k
theorem Ev.iaload {i : Nat} {xs : List Int32} {j v : Int32} (hd : decode (mB M) pc = .ok (.iaload, 1)) (hi : h[i]? = some (.inr (false, xs))) (hj : ¬ j < 0) (hv : xs[j.toNatClampNeg]? = some v) (hn : Ev G M (pc + 1) L (.int v :: S) h r) : Ev G M pc L (.int j :: .ref i :: S) h r := by
  refine Ev.same rfl hn ?_
  intro p e R s m args below meth c T locs cells slots X hx hZ hown hby hml hLm hfr hlo hR
  obtain ⟨cl, A, hs⟩ := hR.2.2.2 i _ hi
  have hlt := (List.getElem?_eq_some_iff.mp hv).1
  exact ⟨T, X, rfl, fun target k => X.iaload hx A.1 (State.isArrayOf_alike hZ.alike A.2.1) A.2.2 (fun q => q.elim hj fun q => absurd (arr_size hs ▸ q) (Nat.not_le.mpr hlt)) (by rw [get_arr hs, hv]; rfl) (g := mkF m pc (arL G L) ((Value.int j :: Value.ref i :: S).map (tr G))) rfl rfl (hb hby hd) target k⟩
theorem Ev.baload {i : Nat} {xs : List Int32} {j v : Int32} (hd : decode (mB M) pc = .ok (.baload, 1)) (hi : h[i]? = some (.inr (true, xs))) (hj : ¬ j < 0) (hv : xs[j.toNatClampNeg]? = some v) (hn : Ev G M (pc + 1) L (.int v :: S) h r) : Ev G M pc L (.int j :: .ref i :: S) h r := by
  refine Ev.same rfl hn ?_
  intro p e R s m args below meth c T locs cells slots X hx hZ hown hby hml hLm hfr hlo hR
  obtain ⟨cl, A, hs⟩ := hR.2.2.2 i _ hi
  have hlt := (List.getElem?_eq_some_iff.mp hv).1
  exact ⟨T, X, rfl, fun target k => X.baloadBooleans hx A.1 (State.isArrayOf_alike hZ.alike A.2.1) A.2.2 (fun q => q.elim hj fun q => absurd (arr_size hs ▸ q) (Nat.not_le.mpr hlt)) (by rw [get_arr hs, hv]; rfl) (g := mkF m pc (arL G L) ((Value.int j :: Value.ref i :: S).map (tr G))) rfl rfl (hb hby hd) target k⟩
theorem Ev.iastore {i : Nat} {xs : List Int32} {j v : Int32} (hd : decode (mB M) pc = .ok (.iastore, 1)) (hk : k0 G ≤ i) (hi : h[i]? = some (.inr (false, xs))) (hj : ¬ j < 0) (hlt : j.toNatClampNeg < xs.length) (hn : Ev G M (pc + 1) L S (h.set i (.inr (false, xs.set j.toNatClampNeg v))) r) : Ev G M pc L (.int v :: .int j :: .ref i :: S) h r := by
  have hs := hsl_set (gK G) h i (.inr (false, xs)) (.inr (false, xs.set j.toNatClampNeg v)) hi (by simp [csl])
  refine Ev.gen (by rw [List.length_set]; exact Nat.le_refl _) (by rw [hs]; exact Nat.le_refl _) rfl hn ?_
  intro p e R s m args below meth c T locs cells slots X hx hZ hown hby hml hnm hLm hfr hlo hsz hR hFr hc hsq
  obtain ⟨cl, A, hsz'⟩ := hR.2.2.2 i _ hi
  obtain ⟨T', h', X', eT', W, st⟩ := stI X hx hZ rfl A (j := j) (x := v) (fun q => q.elim hj fun q => absurd (arr_size hsz' ▸ q) (Nat.not_le.mpr hlt)) (g := mkF m pc (arL G L) ((Value.int v :: Value.int j :: Value.ref i :: S).map (tr G))) rfl rfl (hb hby hd)
  refine ⟨T', _, ?_, ?_, Fr.snoc X' hFr (rho_ge hk), st⟩
  · rw [hs, List.length_set, Nat.sub_self, Nat.sub_self, Nat.add_zero, Nat.add_zero]; exact X'
  · rw [eT']; exact hR.wrArr hi W
theorem Ev.bastore {i : Nat} {xs : List Int32} {j v : Int32} (hd : decode (mB M) pc = .ok (.bastore, 1)) (hk : k0 G ≤ i) (hi : h[i]? = some (.inr (true, xs))) (hj : ¬ j < 0) (hlt : j.toNatClampNeg < xs.length) (hn : Ev G M (pc + 1) L S (h.set i (.inr (true, xs.set j.toNatClampNeg (v &&& 1)))) r) : Ev G M pc L (.int v :: .int j :: .ref i :: S) h r := by
  have hs := hsl_set (gK G) h i (.inr (true, xs)) (.inr (true, xs.set j.toNatClampNeg (v &&& 1))) hi (by simp [csl])
  refine Ev.gen (by rw [List.length_set]; exact Nat.le_refl _) (by rw [hs]; exact Nat.le_refl _) rfl hn ?_
  intro p e R s m args below meth c T locs cells slots X hx hZ hown hby hml hnm hLm hfr hlo hsz hR hFr hc hsq
  obtain ⟨cl, A, hsz'⟩ := hR.2.2.2 i _ hi
  obtain ⟨T', h', X', eT', W, st⟩ := stZ X hx hZ rfl A (j := j) (x := v) (fun q => q.elim hj fun q => absurd (arr_size hsz' ▸ q) (Nat.not_le.mpr hlt)) (g := mkF m pc (arL G L) ((Value.int v :: Value.int j :: Value.ref i :: S).map (tr G))) rfl rfl (hb hby hd)
  refine ⟨T', _, ?_, ?_, Fr.snoc X' hFr (rho_ge hk), st⟩
  · rw [hs, List.length_set, Nat.sub_self, Nat.sub_self, Nat.add_zero, Nat.add_zero]; exact X'
  · rw [eT']; exact hR.wrArr hi W
/-! ### making -/
theorem Ev.new {idx : Nat} {fs : List Value} (K : GOk G) (w : (Jvm.Cond.classLink (mN M).cls idx (gC G)).before (gA G) (gZ G) = true) (hd : decode (mB M) pc = .ok (.new idx, 3)) (hf : fs = (gF G).map fun f => defaultValue f.2.2)
    (hn : Ev G M (pc + 3) L (.ref h.length :: S) (h ++ [.inl fs]) r) : Ev G M pc L S h r := by
  subst hf
  have hs := hsl_push (gK G) h (.inl ((gF G).map fun f => defaultValue f.2.2))
  refine Ev.gen (by simp) (by rw [hs]; exact Nat.le_add_right _ _) rfl hn ?_
  intro p e R s m args below meth c T locs cells slots X hx hZ hown hby hml hnm hLm hfr hlo hsz hR hFr hc hsq
  have el : (h ++ [(.inl ((gF G).map fun f => defaultValue f.2.2) : MCell)]).length - h.length = 1 := by simp
  have es : hsl (gK G) (h ++ [.inl ((gF G).map fun f => defaultValue f.2.2)]) - hsl (gK G) h = gK G := by rw [hs]; simp [csl]
  rw [el] at hc
  rw [es] at hsq
  obtain ⟨T', h', X', eT', E, A, D, -, st⟩ := newO X hx hZ hown w K.2.2.1 K.2.2.2 rfl (g := mkF m pc (arL G L) (S.map (tr G))) rfl (hb hby hd) hc hsq
  rw [el, es]
  have hrho : rho G h.length = T.heap.size := by rw [rho_new hR.2.1]; have := hR.1; have := hR.2.1; omega
  refine ⟨T', _, X', ?_, hFr, fun target k => st target ?_⟩
  · rw [eT']
    refine hR.push E ?_ ⟨A, by simp, fun j n d ty v hf hv => ?_⟩
    · have h1 := X'.heapSize
      have h2 : T.heap.size < h'.size := A.lt
      rw [eT'] at h1
      omega
    · rw [List.getElem?_map, hf] at hv
      cases hv
      have := D (K.1 j n d ty hf).1 (K.1 j n d ty hf).2
      have e : tr G (defaultValue ty) = defaultValue ty := by cases ty <;> rfl
      rw [e]; exact this
  · rw [← hrho]; exact k
theorem Ev.newarray {aty : ArrayType} {b : Bool} {n : Int32} {k : Nat} (w : (Jvm.Cond.arrayClass (newarray.typeOf aty)).before (gA G) (gZ G) = true) (hb' : newarray.typeOf aty = kd b) (hd : decode (mB M) pc = .ok (.newarray aty, 2)) (hn0 : ¬ n < 0) (hk : n.toNatClampNeg = k) (hcap : k ≤ 67108864)
    (hn : Ev G M (pc + 2) L (.ref h.length :: S) (h ++ [.inr (b, List.replicate k 0)]) r) : Ev G M pc L (.int n :: S) h r := by
  subst hk
  have hs := hsl_push (gK G) h (.inr (b, List.replicate n.toNatClampNeg 0))
  refine Ev.gen (by simp) (by rw [hs]; exact Nat.le_add_right _ _) rfl hn ?_
  intro p e R s m args below meth c T locs cells slots X hx hZ hown hby hml hnm hLm hfr hlo hsz hR hFr hc hsq
  have el : (h ++ [(.inr (b, List.replicate n.toNatClampNeg 0) : MCell)]).length - h.length = 1 := by simp
  have es : hsl (gK G) (h ++ [.inr (b, List.replicate n.toNatClampNeg 0)]) - hsl (gK G) h = n.toNatClampNeg := by rw [hs]; simp [csl]
  rw [el] at hc
  rw [es] at hsq
  obtain ⟨T', h', cA, X', eT', E, A, st⟩ := newP X hx hZ w rfl (g := mkF m pc (arL G L) ((Value.int n :: S).map (tr G))) rfl (hb hby hd) rfl hn0 (cap := n.toNatClampNeg) (Nat.le_refl _) (by omega) hc hsq
  rw [el, es]
  have hrho : rho G h.length = T.heap.size := by rw [rho_new hR.2.1]; have := hR.1; have := hR.2.1; omega
  refine ⟨T', _, X', ?_, hFr, fun target k => st target ?_⟩
  · rw [eT']
    refine hR.push E ?_ ⟨_, hb' ▸ A, ?_⟩
    · have h1 := X'.heapSize
      have h2 : T.heap.size < h'.size := A.lt
      rw [eT'] at h1
      omega
    · have e0 : defaultValue (kd b) = .int 0 := by cases b <;> rfl
      show Array.replicate n.toNatClampNeg (defaultValue (kd b)) = _
      rw [e0]
      simp
  · rw [← hrho]; exact k
theorem Ev.initO {idx i : Nat} (w1 : (Jvm.Cond.methodLink (mN M).cls idx Lib.objectInit).before (gA G) (gZ G) = true) (w2 : (Jvm.Cond.instanceMethod Lib.objectInit).before (gA G) (gZ G) = true) (w3 : (Jvm.Cond.code Lib.objectInit ⟨#[0xb1]⟩ 1 none).before (gA G) (gZ G) = true)
    (hd : decode (mB M) pc = .ok (.invokespecial idx, 3)) (hf : 1 ≤ mF M) (hl : (S.map fun v => v.category).sum + 12 ≤ mW M) (hn : Ev G M (pc + 3) L S h r) : Ev G M pc L (.ref i :: S) h r := by
  refine Ev.same rfl hn ?_
  intro p e R s m args below meth c T locs cells slots X hx hZ hown hby hml hLm hfr hlo hR
  obtain ⟨T', X', e', st⟩ := RoadKit.initO X hx hZ hown w1 w2 w3 rfl (g := mkF m pc (arL G L) ((Value.ref i :: S).map (tr G))) rfl (by rw [hml, ← hLm]; simp [arL]) (a := rho G i) (rest := S.map (tr G)) rfl (hb hby hd) (Nat.le_trans hf hfr) (W := (S.map fun v => v.category).sum) (by rw [tr_cats]; show 2 * 0 + _ ≤ _; omega) (by omega)
  exact ⟨T', X', e', st⟩
/-! ### calls -/
def notMH (y : Mi) : Prop := (mN y).cls ≠ "java/lang/invoke/MethodHandle" ∧ (mN y).cls ≠ "java/lang/invoke/VarHandle"
theorem mapRev (G : Ctx) (args : List Value) : (args.reverse).map (tr G) = (args.map (tr G)).reverse := by simp
theorem vList (G : Ctx) (v : Option Value) (S : List Value) : (v.map (tr G)).toList ++ S.map (tr G) = (v.toList ++ S).map (tr G) := by cases v <;> simp
theorem back_of_evc {p : Program} {e : Env} {R : Room} {s : State} {args0 : Array Value} {below : List Frame} {y : Mi} {args : List Value} {r1 : Option Value × MHeap} {hr : Heap} {W : Nat} (hC : EvC G y args h r1) (hR : Rel G hr h) (hZ : (gZ G).Warmed39 s.vm)
    (wc : (Jvm.Cond.code (mN y) (mB y) (mL y) (mR y)).before (gA G) (gZ G) = true) (wz : (Jvm.Cond.initialized (mN y).cls).before (gA G) (gZ G) = true) (hf : mF y + 1 ≤ R.frames) (hl : W + (mL y + 11) + mW y ≤ R.locals) :
    Back (gL G) R p e below s args0 (mN y) 3 W (fun A a => a = (args.map (tr G)).toArray ∧ A.U.heap = hr ∧ A.cells + (r1.2.length - h.length) ≤ R.cells ∧ A.slots + (hsl (gK G) r1.2 - hsl (gK G) h) ≤ R.slots)
      (fun A _ v B => ∃ L, (v = r1.1.map (tr G) ∧ Fr (gN G) L ∧ Rel G B.U.heap r1.2) ∧ B.locs = A.locs ++ L ∧ B.cells = A.cells + (r1.2.length - h.length) ∧ B.slots = A.slots + (hsl (gK G) r1.2 - hsl (gK G) h)) :=
  backOf (Q := fun v hp L => v = r1.1.map (tr G) ∧ Fr (gN G) L ∧ Rel G hp r1.2) (rm := { frames := mF y, cells := r1.2.length - h.length, slots := hsl (gK G) r1.2 - hsl (gK G) h, locals := mW y })
    (hC.2 [] { frames := mF y, cells := r1.2.length - h.length, slots := hsl (gK G) r1.2 - hsl (gK G) h, locals := mW y } hr (Nat.le_refl _) (Nat.le_refl _) (Nat.le_refl _) (Nat.le_refl _) hR) hZ wc wz hf hl
/-- a private method of the class -/
theorem Ev.priv {y : Mi} {idx i : Nat} {args rest : List Value} {v : Option Value} {h1 : MHeap} {fs : List Value} (K : GOk G) (hcls : (mN y).cls = gC G) (hy : notMH y)
    (wl : (Jvm.Cond.methodLink (mN M).cls idx (mN y)).before (gA G) (gZ G) = true) (wi : (Jvm.Cond.instanceMethod (mN y)).before (gA G) (gZ G) = true) (wp : (Jvm.Cond.privateMethod (mN y)).before (gA G) (gZ G) = true)
    (wc : (Jvm.Cond.code (mN y) (mB y) (mL y) (mR y)).before (gA G) (gZ G) = true) (hlen : ∀ sig, parseMethodDescriptor (mN y).desc = some sig → args.length = sig.parameters.length)
    (hd : decode (mB M) pc = .ok (.invokevirtual idx, 3)) (hi : h[i]? = some (.inl fs)) (hC : EvC G y (.ref i :: args) h (v, h1)) (hfr : mF y + 1 ≤ mF M) (hlo : (rest.map fun v => v.category).sum + (mL y + 11) + mW y ≤ mW M)
    (hS : S = args.reverse ++ .ref i :: rest) (hn : Ev G M (pc + 3) L (v.toList ++ rest) h1 r) : Ev G M pc L S h r := by
  subst hS
  refine Ev.gen hC.1.1 hC.1.2 rfl hn ?_
  intro p e R s m args0 below meth c T locs cells slots X hx hZ hown hby hml hnm hLm hfr' hlo' hsz hR hFr hc hsq
  obtain ⟨e1, -, -⟩ := hR.2.2.2 i _ hi
  obtain ⟨cell, hcell, hobj⟩ := e1.cell
  have hwi : (Jvm.Cond.instanceMethod (mN y)).before args0 s = true := mvT hZ wi
  have hpr := Jvm.Cond.privateMethod_at (mvP hZ wp (args := #[]))
  have hsel : (Jvm.Cond.selects (mN y).cls (mN y) (mN y)).before args0 s = true := by
    obtain ⟨c0, k0', q1, q2, -, q4, -⟩ := Jvm.Cond.instantiable_spec (mvT hZ K.2.2.1 (args := #[]) (s := s))
    refine selects_self_of_private (c := c0) (k := k0') (by rw [hcls]; exact q1) q2 ?_ hpr hwi hy
    simp only [Bool.or_eq_false_iff] at q4
    exact q4.1
  obtain ⟨v', vm1, ⟨T', L', k', n'⟩, -, X', ⟨Lc, ⟨rfl, hF', hR'⟩, l1, l2, l3⟩, st⟩ := X.privateBack hx (y := mN y) hown (mvT hZ wl) hwi hsel hpr (mvT hZ wc) hy
    (back_of_evc (W := (rest.map fun v => v.category).sum) hC hR hZ wc (hcls ▸ K.2.2.2) (Nat.le_trans hfr hfr') (Nat.le_trans hlo hlo')) (g := mkF m pc (arL G L) ((args.reverse ++ Value.ref i :: rest).map (tr G))) rfl (by rw [hml, ← hLm]; simp [arL]) (Steps.refl _) hcell hobj
    (argsL := args.map (tr G)) (rest := rest.map (tr G)) (fun sig hsig => by rw [List.length_map]; exact hlen sig hsig) (by simp [tr]) (by rw [tr_cats]; show 2 * 0 + _ ≤ _; omega) (hb hby hd) (fun vm1 hW1 => ⟨rfl, rfl, hc, hsq⟩)
  dsimp only [Pt.U, Pt.locs, Pt.cells, Pt.slots] at X' l1 l2 l3 st hR'
  subst l1 l2 l3
  refine ⟨T', _, X', hR', hFr.app hF', fun target k => st.trans ?_⟩
  rw [vList]
  exact k
/-- a method of the class that no one overrides -/
theorem Ev.virt {y : Mi} {idx i : Nat} {args rest : List Value} {v : Option Value} {h1 : MHeap} {fs : List Value} (K : GOk G) (hcls : (mN y).cls = gC G) (hy : notMH y)
    (wl : (Jvm.Cond.methodLink (mN M).cls idx (mN y)).before (gA G) (gZ G) = true) (wd : (Jvm.Cond.declares (mN y)).before (gA G) (gZ G) = true) (wi : (Jvm.Cond.instanceMethod (mN y)).before (gA G) (gZ G) = true) (ws : (Jvm.Cond.selects (gC G) (mN y) (mN y)).before (gA G) (gZ G) = true)
    (wc : (Jvm.Cond.code (mN y) (mB y) (mL y) (mR y)).before (gA G) (gZ G) = true) (hlen : ∀ sig, parseMethodDescriptor (mN y).desc = some sig → args.length = sig.parameters.length)
    (hd : decode (mB M) pc = .ok (.invokevirtual idx, 3)) (hi : h[i]? = some (.inl fs)) (hC : EvC G y (.ref i :: args) h (v, h1)) (hfr : mF y + 1 ≤ mF M) (hlo : (rest.map fun v => v.category).sum + (mL y + 11) + mW y ≤ mW M)
    (hS : S = args.reverse ++ .ref i :: rest) (hn : Ev G M (pc + 3) L (v.toList ++ rest) h1 r) : Ev G M pc L S h r := by
  subst hS
  refine Ev.gen hC.1.1 hC.1.2 rfl hn ?_
  intro p e R s m args0 below meth c T locs cells slots X hx hZ hown hby hml hnm hLm hfr' hlo' hsz hR hFr hc hsq
  obtain ⟨e1, -, -⟩ := hR.2.2.2 i _ hi
  obtain ⟨cq, kq, qa, qb, qc⟩ := isOf (T := T) hZ rfl e1
  obtain ⟨v', vm1, ⟨T', L', k', n'⟩, -, X', ⟨Lc, ⟨rfl, hF', hR'⟩, l1, l2, l3⟩, st⟩ := X.virtualBack hx (y := mN y) (z := mN y) hown (mvT hZ wl) (mvT hZ wd) (notFace_of_selects (args := #[]) (mvT hZ ws)) (mvT hZ ws) (mvT hZ wi) hy
    (back_of_evc (W := (rest.map fun v => v.category).sum) hC hR hZ wc (hcls ▸ K.2.2.2) (Nat.le_trans hfr hfr') (Nat.le_trans hlo hlo')) qa qc (g := mkF m pc (arL G L) ((args.reverse ++ Value.ref i :: rest).map (tr G))) rfl (by rw [hml, ← hLm]; simp [arL]) (Steps.refl _)
    (argsL := args.map (tr G)) (rest := rest.map (tr G)) (fun sig hsig => by rw [List.length_map]; exact hlen sig hsig) (by simp [tr]) (by rw [tr_cats]; show 2 * 0 + _ ≤ _; omega) (hb hby hd) (fun vm1 hW1 => ⟨rfl, rfl, hc, hsq⟩)
  dsimp only [Pt.U, Pt.locs, Pt.cells, Pt.slots] at X' l1 l2 l3 st hR'
  subst l1 l2 l3
  refine ⟨T', _, X', hR', hFr.app hF', fun target k => st.trans ?_⟩
  rw [vList]
  exact k
/-- a constructor -/
theorem Ev.ctor {y : Mi} {idx i : Nat} {args rest : List Value} {v : Option Value} {h1 : MHeap} (hy1 : (mN y).name = "<init>") (hret : mR y = none) (hy : notMH y)
    (wl : (Jvm.Cond.methodLink (mN M).cls idx (mN y)).before (gA G) (gZ G) = true) (wi : (Jvm.Cond.instanceMethod (mN y)).before (gA G) (gZ G) = true)
    (wc : (Jvm.Cond.code (mN y) (mB y) (mL y) (mR y)).before (gA G) (gZ G) = true) (wz : (Jvm.Cond.initialized (mN y).cls).before (gA G) (gZ G) = true) (hlen : ∀ sig, parseMethodDescriptor (mN y).desc = some sig → args.length = sig.parameters.length)
    (hd : decode (mB M) pc = .ok (.invokespecial idx, 3)) (hC : EvC G y (.ref i :: args) h (v, h1)) (hfr : mF y + 1 ≤ mF M) (hlo : (rest.map fun v => v.category).sum + (mL y + 11) + mW y ≤ mW M)
    (hS : S = args.reverse ++ .ref i :: rest) (hn : Ev G M (pc + 3) L (v.toList ++ rest) h1 r) : Ev G M pc L S h r := by
  subst hS
  refine Ev.gen hC.1.1 hC.1.2 rfl hn ?_
  intro p e R s m args0 below meth c T locs cells slots X hx hZ hown hby hml hnm hLm hfr' hlo' hsz hR hFr hc hsq
  obtain ⟨v', vm1, ⟨T', L', k', n'⟩, -, X', ⟨Lc, ⟨rfl, hF', hR'⟩, l1, l2, l3⟩, st⟩ := X.specialBack hx (y := mN y) hy1 hown (mvT hZ wl) (mvT hZ wi) (mvT hZ (hret ▸ wc)) hy
    (back_of_evc (W := (rest.map fun v => v.category).sum) hC hR hZ wc wz (Nat.le_trans hfr hfr') (Nat.le_trans hlo hlo')) (g := mkF m pc (arL G L) ((args.reverse ++ Value.ref i :: rest).map (tr G))) rfl (by rw [hml, ← hLm]; simp [arL]) (Steps.refl _)
    (a := rho G i) (argsL := args.map (tr G)) (rest := rest.map (tr G)) (fun sig hsig => by rw [List.length_map]; exact hlen sig hsig) (by simp [tr]) (by rw [tr_cats]; show 2 * 0 + _ ≤ _; omega) (hb hby hd) (fun vm1 hW1 => ⟨rfl, rfl, hc, hsq⟩)
  dsimp only [Pt.U, Pt.locs, Pt.cells, Pt.slots] at X' l1 l2 l3 st hR'
  subst l1 l2 l3
  refine ⟨T', _, X', hR', hFr.app hF', fun target k => st.trans ?_⟩
  rw [vList]
  exact k
/-- a static method -/
theorem Ev.stat {y : Mi} {idx : Nat} {args rest : List Value} {v : Option Value} {h1 : MHeap} (hy : notMH y)
    (wl : (Jvm.Cond.methodLink (mN M).cls idx (mN y)).before (gA G) (gZ G) = true) (wst : (Jvm.Cond.static (mN y)).before (gA G) (gZ G) = true) (wz : (Jvm.Cond.initialized (mN y).cls).before (gA G) (gZ G) = true)
    (wc : (Jvm.Cond.code (mN y) (mB y) (mL y) (mR y)).before (gA G) (gZ G) = true) (hlen : ∀ sig, parseMethodDescriptor (mN y).desc = some sig → args.length = sig.parameters.length)
    (hd : decode (mB M) pc = .ok (.invokestatic idx, 3)) (hC : EvC G y args h (v, h1)) (hfr : mF y + 1 ≤ mF M) (hlo : (rest.map fun v => v.category).sum + (mL y + 11) + mW y ≤ mW M)
    (hS : S = args.reverse ++ rest) (hn : Ev G M (pc + 3) L (v.toList ++ rest) h1 r) : Ev G M pc L S h r := by
  subst hS
  refine Ev.gen hC.1.1 hC.1.2 rfl hn ?_
  intro p e R s m args0 below meth c T locs cells slots X hx hZ hown hby hml hnm hLm hfr' hlo' hsz hR hFr hc hsq
  obtain ⟨v', vm1, ⟨T', L', k', n'⟩, -, X', ⟨Lc, ⟨rfl, hF', hR'⟩, l1, l2, l3⟩, st⟩ := Jvm.LawKit.callS X hx (y := mN y) hown (mvT hZ wl) (mvT hZ wst) (mvT hZ wz) (mvT hZ wc) hy
    (back_of_evc (W := (rest.map fun v => v.category).sum) hC hR hZ wc wz (Nat.le_trans hfr hfr') (Nat.le_trans hlo hlo')) (g := mkF m pc (arL G L) ((args.reverse ++ rest).map (tr G))) rfl (by rw [hml, ← hLm]; simp [arL])
    (argsL := args.map (tr G)) (rest := rest.map (tr G)) (fun sig hsig => by rw [List.length_map]; exact hlen sig hsig) (by simp) (by rw [tr_cats]; show 2 * 0 + _ ≤ _; omega) (hb hby hd) (fun vm1 hW1 => ⟨rfl, rfl, hc, hsq⟩)
  dsimp only [Pt.U, Pt.locs, Pt.cells, Pt.slots] at X' l1 l2 l3 st hR'
  subst l1 l2 l3
  refine ⟨T', _, X', hR', hFr.app hF', fun target k => st target ?_⟩
  rw [vList]
  exact k
/-! ### returns -/
theorem Ev.ret {v : Option Value} (st : ∀ {p : Program} {e : Env} {R : Room} {s : State} {m : MethodId} {args : Array Value} {below : List Frame} {meth : Method} {c : Code} {T : State} {locs : List Loc} {cells slots : Nat},
      Stand p (gL G) e R s m args below meth c T locs cells slots → p.tables.exec = Jvm.exec → c.code = mB M → meth.sig.returnType = mR M → ∀ fs,
      (∀ (f : JFrame) (acts : List Action), f.method = m → f.locked = none → f.entered = [] → (doReturn e (T.setTop f) acts (v.map (tr G))).1 = T.setFrames fs) → Steps p.tables e below (T.setTop (mkF m pc (arL G L) (S.map (tr G)))) (T.setFrames fs)) :
    Ev G M pc L S h (v, h) := by
  refine ⟨⟨Nat.le_refl _, Nat.le_refl _⟩, ?_⟩
  intro p e R s m args below meth c T locs cells slots X hx hZ hown hby hml hret hnm hLm hfr hlo hsz hR hF hc hs
  refine ⟨T, locs, ?_, hR, hF, st X hx hby hret⟩
  rw [Nat.sub_self, Nat.sub_self, Nat.add_zero, Nat.add_zero]
  exact X
theorem Ev.ireturn {z : Int32} (hret : mR M = some .int) (hd : decode (mB M) pc = .ok (.ireturn, 1)) : Ev G M pc L (.int z :: S) h (some (.int z), h) :=
  Ev.ret fun X hx hby hr fs hl => retOut X hx (hr.trans hret) rfl (Or.inl ⟨rfl, Or.inl rfl, z, rfl⟩) (hb hby hd) hl
theorem Ev.zreturn {z : Int32} (hret : mR M = some .boolean) (hd : decode (mB M) pc = .ok (.ireturn, 1)) : Ev G M pc L (.int z :: S) h (some (.int (z &&& 1)), h) :=
  Ev.ret fun X hx hby hr fs hl => retN X hx (t := .boolean) (hr.trans hret) (Or.inl rfl) (hb hby hd) hl
theorem Ev.lreturn {z : Int64} (hret : mR M = some .long) (hd : decode (mB M) pc = .ok (.lreturn, 1)) : Ev G M pc L (.long z :: S) h (some (.long z), h) :=
  Ev.ret fun X hx hby hr fs hl => retOut X hx (hr.trans hret) rfl (Or.inr (Or.inl ⟨rfl, rfl, z, rfl⟩)) (hb hby hd) hl
theorem Ev.vreturn (hret : mR M = none) (hd : decode (mB M) pc = .ok (.return_, 1)) : Ev G M pc L [] h (none, h) :=
  Ev.ret fun X hx hby hr fs hl => X.returnOut hx (hr.trans hret) (hb hby hd) hl
/-! ### entering -/
def margs : List Value → List Slot
  | [] => []
  | v :: vs => if v.category = 2 then .val v :: .second :: margs vs else .val v :: margs vs
theorem margs_fold (vs : List Value) : ∀ acc : Array Slot, vs.foldl (init := acc) (fun acc v => if v.category = 2 then (acc.push (.val v)).push .second else acc.push (.val v)) = acc ++ (margs vs).toArray := by
  induction vs with
  | nil => intro acc; simp [margs]
  | cons v vs ih =>
    intro acc
    rw [List.foldl_cons, ih]
    by_cases h : v.category = 2
    · simp [margs, h]
    · simp [margs, h]
theorem margs_map (G : Ctx) : ∀ vs : List Value, margs (vs.map (tr G)) = (margs vs).map (trS G)
  | [] => rfl
  | v :: vs => by
    have ih := margs_map G vs
    by_cases h : v.category = 2
    · simp only [List.map_cons, margs, tr_cat, h, if_true, ih]; rfl
    · simp only [List.map_cons, margs, tr_cat, h, if_false, ih]; rfl
def ment (args : List Value) (k : Nat) : List Slot := margs args ++ List.replicate (k - (margs args).length) .unset
theorem entry_eq (G : Ctx) (m : MethodId) (args : List Value) (k : Nat) : entryFrame m (args.map (tr G)).toArray k = mkF m 0 (arL G (ment args k)) [] := by
  have e : argsToLocals (args.map (tr G)).toArray k = arL G (ment args k) := by
    unfold argsToLocals arL ment
    have q := margs_fold (args.map (tr G)) #[]
    rw [List.foldl_toArray']
    · rw [q, margs_map]
      simp [trS]
    · simp
  unfold entryFrame
  rw [e]
theorem EvC.enter {y : Mi} {args : List Value} {L0 : List Slot} (hp : plainFor (mN y) = true) (hv : mR y = none → r.1 = none) (hL : ment args (mL y) = L0) (hlen : L0.length = mL y) (hn : Ev G y 0 L0 [] h r) : EvC G y args h r := by
  subst hL
  refine ⟨hn.1, fun ws R hr hf hl hc hs hR => ?_⟩
  refine MetFree.of_bodySF hp hisR ?_
  intro p e s m args' below meth c s₁ Bd hml0 hP hK
  obtain ⟨rfl, hZ, hh⟩ := hP
  have X0 : Stand p (gL G) e R s m _ below meth c s₁ [] 0 0 := Stand.of_body Bd
  have e0 : s₁.heap = hr := by rw [← hh, Bd.state]; rfl
  obtain ⟨T', locs', X', R', F', st⟩ := hn.2 p e R s m _ below meth c s₁ [] 0 0 X0 Bd.exec hZ (findClass_of_methodNamed Bd.named) Bd.bytes hml0 Bd.returns (name_of_methodNamed Bd.named Bd.method).1 hlen hf hl (by rw [e0, hh]; rfl) (by rw [e0]; exact hR) (Fr.nil _) (by omega) (by omega)
  rw [Nat.zero_add, Nat.zero_add] at X'
  obtain ⟨fs, hret, hrun, hended, hW, hsame⟩ := X'.leave (v := r.1.map (tr G)) (fun q => by rw [hv (Bd.returns.symm.trans q)]; rfl)
  refine ⟨_, _, castTop (entry_eq G m args (mL y)) (st fs hret), hrun, hended, _, _, rfl, ⟨rfl, F', ?_⟩, ⟨_, rfl⟩, hW, hsame⟩
  exact R'
end Rules
end Jvm.Own
namespace Jvm.Own
open Sem ClassFile Op Lib Jvm.Stand Jvm.Free Jvm.LawKit Jvm.RoadKit
/-! ## 4. An object as two functions: its ints by the field's number, its arrays by the field's number and the place -/
abbrev St := (Nat → Int32) × (Nat → Nat → Int32)
def setI (s : St) (j : Nat) (z : Int32) : St := (fun k => if k = j then z else s.1 k, s.2)
def setA (s : St) (j i : Nat) (z : Int32) : St := (s.1, fun k x => if k = j ∧ x = i then z else s.2 k x)
def zeroS : St := (fun _ => 0, fun _ _ => 0)
theorem setI_1 (s : St) (j : Nat) (z : Int32) (k : Nat) : (setI s j z).1 k = if k = j then z else s.1 k := rfl
theorem setI_2 (s : St) (j : Nat) (z : Int32) : (setI s j z).2 = s.2 := rfl
theorem setA_1 (s : St) (j i : Nat) (z : Int32) : (setA s j i z).1 = s.1 := rfl
theorem setA_2 (s : St) (j i : Nat) (z : Int32) (k x : Nat) : (setA s j i z).2 k x = if k = j ∧ x = i then z else s.2 k x := rfl
def ix (j : Int32) : Nat := j.toNatClampNeg
/-- the place j lies in an array of n -/
def inb (j : Int32) (n : Nat) : Prop := ¬ j < 0 ∧ ix j < n
instance (j : Int32) (n : Nat) : Decidable (inb j n) := inferInstanceAs (Decidable (_ ∧ _))
def bnd {α β : Type} (x : α) (f : α → β) : β := f x
theorem bnd_eq {α β : Type} (x : α) (f : α → β) : bnd x f = f x := rfl
def tab (n : Nat) (f : Nat → Int32) : List Int32 := (List.range n).map f
theorem tab_len (n : Nat) (f : Nat → Int32) : (tab n f).length = n := by simp [tab]
theorem tab_get {n : Nat} {f : Nat → Int32} {i : Nat} (h : i < n) : (tab n f)[i]? = some (f i) := by simp [tab, h]
theorem tab_set {n : Nat} {f : Nat → Int32} {i : Nat} {z : Int32} : (tab n f).set i z = tab n (fun x => if x = i then z else f x) := by
  apply List.ext_getElem?
  intro k
  rw [List.getElem?_set]
  by_cases h : i = k
  · subst h
    by_cases q : i < n
    · simp [tab, q]
    · simp [tab, q]
  · by_cases q : k < n
    · simp [tab, q, h, Ne.symm h]
    · simp [tab, q, h]
theorem tab_zero (n : Nat) : tab n (fun _ => 0) = List.replicate n 0 := by
  apply List.ext_getElem?
  intro k
  by_cases q : k < n <;> simp [tab, q]
theorem tab_of (xs : List Int32) : xs = tab xs.length (fun i => xs.getD i 0) := by
  apply List.ext_getElem?
  intro k
  by_cases q : k < xs.length
  · simp [tab, q]
  · simp [tab, q]
def isA : FieldType → Bool
  | .array _ => true
  | _ => false
def isB : FieldType → Bool
  | .boolean => true
  | _ => false
def fv1 (r : Nat → Nat) (s : St) (j : Nat) (f : Fd) : Value := match f.2.2 with
  | .array _ => .ref (r j)
  | _ => .int (s.1 j)
def fvA (r : Nat → Nat) (s : St) : Nat → List Fd → List Value
  | _, [] => []
  | j, f :: fs => fv1 r s j f :: fvA r s (j + 1) fs
theorem fvA_get (r : Nat → Nat) (s : St) : ∀ (F : List Fd) (k j : Nat), (fvA r s k F)[j]? = (F[j]?).map (fv1 r s (k + j))
  | [], _, _ => by simp [fvA]
  | f :: fs, k, 0 => by simp [fvA]
  | f :: fs, k, j + 1 => by
    have := fvA_get r s fs (k + 1) j
    simp only [fvA, List.getElem?_cons_succ, this]
    rw [show k + 1 + j = k + (j + 1) by omega]
theorem fvA_len (r : Nat → Nat) (s : St) : ∀ (F : List Fd) (k : Nat), (fvA r s k F).length = F.length
  | [], _ => rfl
  | f :: fs, k => by simp [fvA, fvA_len r s fs (k + 1)]
theorem fvA_set {r : Nat → Nat} {s : St} {F : List Fd} {j : Nat} {f : Fd} {z : Int32} (hF : F[j]? = some f) (ht : isA f.2.2 = false) : (fvA r s 0 F).set j (.int z) = fvA r (setI s j z) 0 F := by
  apply List.ext_getElem?
  intro k
  rw [List.getElem?_set, fvA_get, fvA_get, Nat.zero_add]
  by_cases h : j = k
  · subst h
    simp only [if_true, fvA_len, (List.getElem?_eq_some_iff.mp hF).1, hF, Option.map_some]
    congr 1
    unfold fv1
    split
    · rename_i t e; rw [e] at ht; cases ht
    · simp [setI_1]
  · simp only [h, if_false]
    cases F[k]? with
    | none => rfl
    | some g =>
      simp only [Option.map_some]
      congr 1
      unfold fv1
      split
      · rfl
      · rw [setI_1, if_neg (Ne.symm h)]
theorem fvA_same (r : Nat → Nat) {s s' : St} (h : s.1 = s'.1) : ∀ (F : List Fd) (k : Nat), fvA r s k F = fvA r s' k F
  | [], _ => rfl
  | f :: fs, k => by
    simp only [fvA, fvA_same r h fs (k + 1)]
    congr 1
    unfold fv1
    split
    · rfl
    · rw [h]
/-- the heap K s shows the object at o, its arrays at r, as s tells -/
def View (G : Ctx) (Ln : Nat → Nat) (K : St → MHeap) (o : Nat) (r : Nat → Nat) : Prop :=
  k0 G ≤ o ∧ (∀ s, (K s)[o]? = some (.inl (fvA r s 0 (gF G)))) ∧
  (∀ s j f z, (gF G)[j]? = some f → isA f.2.2 = false → (K s).set o (.inl ((fvA r s 0 (gF G)).set j (.int z))) = K (setI s j z)) ∧
  (∀ j n d t, (gF G)[j]? = some (n, d, .array t) → k0 G ≤ r j ∧ (∀ s, (K s)[r j]? = some (.inr (isB t, tab (Ln j) (s.2 j)))) ∧ ∀ s i z, i < Ln j → (K s).set (r j) (.inr (isB t, (tab (Ln j) (s.2 j)).set i z)) = K (setA s j i z))
section ViewRules
variable {G : Ctx} {M : Mi} {pc : Nat} {L : List Slot} {S : List Value} {rr : Option Value × MHeap} {Ln : Nat → Nat} {K : St → MHeap} {o : Nat} {r : Nat → Nat} {s : St}
theorem Ev.gI {idx j : Nat} {n d : String} {ty : FieldType} (V : View G Ln K o r) (w : (Jvm.Cond.fieldLink (mN M).cls idx (gC G) n d).before (gA G) (gZ G) = true) (hd : decode (mB M) pc = .ok (.getfield idx, 3)) (hF : (gF G)[j]? = some (n, d, ty)) (ht : isA ty = false)
    (hn : Ev G M (pc + 3) L (.int (s.1 j) :: S) (K s) rr) : Ev G M pc L (.ref o :: S) (K s) rr :=
  Ev.getfield w hd hF (V.2.1 s) (v := .int (s.1 j)) (by rw [fvA_get, hF, Nat.zero_add]; simp only [Option.map_some, fv1]; cases ty <;> first | rfl | cases ht) hn
theorem Ev.gAr {idx j : Nat} {n d : String} {t : FieldType} (V : View G Ln K o r) (w : (Jvm.Cond.fieldLink (mN M).cls idx (gC G) n d).before (gA G) (gZ G) = true) (hd : decode (mB M) pc = .ok (.getfield idx, 3)) (hF : (gF G)[j]? = some (n, d, .array t))
    (hn : Ev G M (pc + 3) L (.ref (r j) :: S) (K s) rr) : Ev G M pc L (.ref o :: S) (K s) rr :=
  Ev.getfield w hd hF (V.2.1 s) (v := .ref (r j)) (by rw [fvA_get, hF, Nat.zero_add]; rfl) hn
theorem Ev.pI {idx j : Nat} {n d : String} {z : Int32} (V : View G Ln K o r) (Kk : GOk G) (w : (Jvm.Cond.fieldLink (mN M).cls idx (gC G) n d).before (gA G) (gZ G) = true)
    (wl : (Jvm.Cond.lays (gC G) (gC G) n d).before (gA G) (gZ G) = true ∨ ((Jvm.Cond.laysFinal (gC G) (gC G) n d).before (gA G) (gZ G) = true ∧ (mN M).cls = gC G ∧ (mN M).name = "<init>"))
    (hd : decode (mB M) pc = .ok (.putfield idx, 3)) (hF : (gF G)[j]? = some (n, d, .int)) (hn : Ev G M (pc + 3) L S (K (setI s j z)) rr) : Ev G M pc L (.int z :: .ref o :: S) (K s) rr := by
  refine Ev.putfield Kk w wl hd hF V.1 (V.2.1 s) (v' := .int z) rfl ?_
  rw [V.2.2.1 s j _ z hF rfl]; exact hn
theorem Ev.pZ {idx j : Nat} {n d : String} {z : Int32} (V : View G Ln K o r) (Kk : GOk G) (w : (Jvm.Cond.fieldLink (mN M).cls idx (gC G) n d).before (gA G) (gZ G) = true)
    (wl : (Jvm.Cond.lays (gC G) (gC G) n d).before (gA G) (gZ G) = true ∨ ((Jvm.Cond.laysFinal (gC G) (gC G) n d).before (gA G) (gZ G) = true ∧ (mN M).cls = gC G ∧ (mN M).name = "<init>"))
    (hd : decode (mB M) pc = .ok (.putfield idx, 3)) (hF : (gF G)[j]? = some (n, d, .boolean)) (hn : Ev G M (pc + 3) L S (K (setI s j (z &&& 1))) rr) : Ev G M pc L (.int z :: .ref o :: S) (K s) rr := by
  refine Ev.putfield Kk w wl hd hF V.1 (V.2.1 s) (v' := .int (z &&& 1)) rfl ?_
  rw [V.2.2.1 s j _ _ hF rfl]; exact hn
theorem Ev.ial {j : Nat} {n d : String} {i : Int32} {N : Nat} (V : View G Ln K o r) (hF : (gF G)[j]? = some (n, d, .array .int)) (hN : Ln j = N) (hd : decode (mB M) pc = .ok (.iaload, 1)) (hb : inb i N) (hn : Ev G M (pc + 1) L (.int (s.2 j (ix i)) :: S) (K s) rr) : Ev G M pc L (.int i :: .ref (r j) :: S) (K s) rr :=
  Ev.iaload hd ((V.2.2.2 j n d _ hF).2.1 s) hb.1 (tab_get (hN ▸ hb.2)) hn
theorem Ev.bal {j : Nat} {n d : String} {i : Int32} {N : Nat} (V : View G Ln K o r) (hF : (gF G)[j]? = some (n, d, .array .boolean)) (hN : Ln j = N) (hd : decode (mB M) pc = .ok (.baload, 1)) (hb : inb i N) (hn : Ev G M (pc + 1) L (.int (s.2 j (ix i)) :: S) (K s) rr) : Ev G M pc L (.int i :: .ref (r j) :: S) (K s) rr :=
  Ev.baload hd ((V.2.2.2 j n d _ hF).2.1 s) hb.1 (tab_get (hN ▸ hb.2)) hn
theorem Ev.ias {j : Nat} {n d : String} {i z : Int32} {N : Nat} (V : View G Ln K o r) (hF : (gF G)[j]? = some (n, d, .array .int)) (hN : Ln j = N) (hd : decode (mB M) pc = .ok (.iastore, 1)) (hb : inb i N) (hn : Ev G M (pc + 1) L S (K (setA s j (ix i) z)) rr) : Ev G M pc L (.int z :: .int i :: .ref (r j) :: S) (K s) rr := by
  obtain ⟨q1, q2, q3⟩ := V.2.2.2 j n d _ hF
  refine Ev.iastore hd q1 (q2 s) hb.1 (by rw [tab_len, hN]; exact hb.2) ?_
  have := q3 s (ix i) z (hN ▸ hb.2)
  exact this ▸ hn
theorem Ev.bas {j : Nat} {n d : String} {i z : Int32} {N : Nat} (V : View G Ln K o r) (hF : (gF G)[j]? = some (n, d, .array .boolean)) (hN : Ln j = N) (hd : decode (mB M) pc = .ok (.bastore, 1)) (hb : inb i N) (hn : Ev G M (pc + 1) L S (K (setA s j (ix i) (z &&& 1))) rr) : Ev G M pc L (.int z :: .int i :: .ref (r j) :: S) (K s) rr := by
  obtain ⟨q1, q2, q3⟩ := V.2.2.2 j n d _ hF
  refine Ev.bastore hd q1 (q2 s) hb.1 (by rw [tab_len, hN]; exact hb.2) ?_
  have := q3 s (ix i) (z &&& 1) (hN ▸ hb.2)
  exact this ▸ hn
theorem Ev.sal {h : MHeap} {i : Int32} {N k : Nat} {f : Nat → Int32} (hs : h[k]? = some (.inr (false, tab N f))) (hd : decode (mB M) pc = .ok (.iaload, 1)) (hb : inb i N) (hn : Ev G M (pc + 1) L (.int (f (ix i)) :: S) h rr) : Ev G M pc L (.int i :: .ref k :: S) h rr :=
  Ev.iaload hd hs hb.1 (tab_get hb.2) hn
theorem Ev.sln {h : MHeap} {N k : Nat} {f : Nat → Int32} (hs : h[k]? = some (.inr (false, tab N f))) (hd : decode (mB M) pc = .ok (.arraylength, 1)) (hn : Ev G M (pc + 1) L (.int N.toInt32 :: S) h rr) : Ev G M pc L (.ref k :: S) h rr :=
  Ev.arraylength hd hs (by rw [tab_len]; exact hn)
theorem Ev.zret1 {h : MHeap} (hret : mR M = some .boolean) (hd : decode (mB M) pc = .ok (.ireturn, 1)) : Ev G M pc L (.int 1 :: S) h (some (.int 1), h) := Ev.zreturn hret hd
theorem Ev.zret0 {h : MHeap} (hret : mR M = some .boolean) (hd : decode (mB M) pc = .ok (.ireturn, 1)) : Ev G M pc L (.int 0 :: S) h (some (.int 0), h) := Ev.zreturn hret hd
/-- a slot over which an int may be stored at once -/
def one1 : Slot → Bool
  | .unset => true
  | .val v => v.category == 1
  | .second => false
theorem mst_one {l : List Slot} {i : Nat} {v : Value} {o : Slot} (ho : l[i]? = some o) (h1 : one1 o = true) (hv : v.category = 1) : mst l i v = some (l.set i (.val v)) := by
  have hlt := (List.getElem?_eq_some_iff.mp ho).1
  have e : lstoreSelf l i v = some (l.set i (.val v)) := by simp [lstoreSelf, lsetAt, hlt, hv]
  unfold mst
  rw [ho]
  cases o with
  | unset => exact e
  | second => cases h1
  | val w =>
    have : w.category = 1 := by simpa [one1] using h1
    simp only [this]
    exact e
theorem Ev.istD {k : Nat} {v : Int32} {L' : List Slot} {o : Slot} {h : MHeap} (hd : decode (mB M) pc = .ok (.istore k, 2)) (ho : L[k]? = some o) (h1 : one1 o = true) (hl : L.set k (.val (.int v)) = L') (hn : Ev G M (pc + 2) L' S h rr) : Ev G M pc L (.int v :: S) h rr :=
  Ev.istore hd (by rw [mst_one ho h1 rfl, hl]) hn
theorem Ev.istDN {k : Fin 4} {v : Int32} {L' : List Slot} {o : Slot} {h : MHeap} (hd : decode (mB M) pc = .ok (.istore_n k, 1)) (ho : L[k.val]? = some o) (h1 : one1 o = true) (hl : L.set k.val (.val (.int v)) = L') (hn : Ev G M (pc + 1) L' S h rr) : Ev G M pc L (.int v :: S) h rr :=
  Ev.istoreN hd (by rw [mst_one ho h1 rfl, hl]) hn
/-- a pair of slots over which a long may be stored at once -/
def two2 (a b : Slot) : Prop := (one1 a = true ∧ one1 b = true) ∨ (∃ x, a = .val (.long x) ∧ b = .second)
theorem set_set2 {l : List Slot} {i : Nat} {a b c : Slot} : ((l.set (i + 1) a).set i b).set (i + 1) c = (l.set i b).set (i + 1) c := by
  rw [List.set_comm _ _ (by omega : i + 1 ≠ i), List.set_set]
theorem mst_two {l : List Slot} {i : Nat} {v : Int64} {o o' : Slot} (ho : l[i]? = some o) (ho' : l[i + 1]? = some o') (h2 : two2 o o') : mst l i (.long v) = some ((l.set i (.val (.long v))).set (i + 1) .second) := by
  have hlt := (List.getElem?_eq_some_iff.mp ho).1
  have hlt' := (List.getElem?_eq_some_iff.mp ho').1
  rcases h2 with ⟨h1, h1'⟩ | ⟨x, rfl, rfl⟩
  · have e : lstoreSelf l i (.long v) = some ((l.set i (.val (.long v))).set (i + 1) .second) := by
      have q : (l.set i (.val (.long v)))[i + 1]? = some o' := by rw [List.getElem?_set_ne (by omega)]; exact ho'
      have hcat : (Value.long v).category = 2 := rfl
      simp only [lstoreSelf, lsetAt, hlt, if_true, hcat, q]
      cases o' with
      | unset => simp [hlt']
      | second => cases h1'
      | val w =>
        have : w.category = 1 := by simpa [one1] using h1'
        simp [this, hlt']
    unfold mst
    rw [ho]
    cases o with
    | unset => exact e
    | second => cases h1
    | val w =>
      have : w.category = 1 := by simpa [one1] using h1
      simp only [this]
      exact e
  · unfold mst
    rw [ho]
    have q : ((l.set (i + 1) Slot.unset).set i (.val (.long v)))[i + 1]? = some .unset := by
      rw [List.getElem?_set_ne (by omega), List.getElem?_set_self hlt']
    simp only [Value.category, if_true, lsetAt, hlt', lstoreSelf, List.length_set, hlt, q, set_set2]
theorem Ev.lstD {k : Nat} {v : Int64} {L' : List Slot} {o o' : Slot} {h : MHeap} (hd : decode (mB M) pc = .ok (.lstore k, 2)) (ho : L[k]? = some o) (ho' : L[k + 1]? = some o') (h2 : two2 o o') (hl : (L.set k (.val (.long v))).set (k + 1) .second = L') (hn : Ev G M (pc + 2) L' S h rr) : Ev G M pc L (.long v :: S) h rr :=
  Ev.lstore hd (by rw [mst_two ho ho' h2, hl]) hn
theorem Ev.lstDN {k : Fin 4} {v : Int64} {L' : List Slot} {o o' : Slot} {h : MHeap} (hd : decode (mB M) pc = .ok (.lstore_n k, 1)) (ho : L[k.val]? = some o) (ho' : L[k.val + 1]? = some o') (h2 : two2 o o') (hl : (L.set k.val (.val (.long v))).set (k.val + 1) .second = L') (hn : Ev G M (pc + 1) L' S h rr) : Ev G M pc L (.long v :: S) h rr :=
  Ev.lstoreN hd (by rw [mst_two ho ho' h2, hl]) hn
end ViewRules
/-! ## 5. One object among others -/
/-- al: the array fields in the order in which the constructor makes them, each with 'of booleans' -/
def rA (o : Nat) (al : List (Nat × Bool)) (j : Nat) : Nat := o + 1 + al.findIdx (fun q => q.1 == j)
def arr1 (Ln : Nat → Nat) (s : St) (q : Nat × Bool) : MCell := .inr (q.2, tab (Ln q.1) (s.2 q.1))
def KO (F : List Fd) (al : List (Nat × Bool)) (Ln : Nat → Nat) (o : Nat) (s : St) : MHeap := .inl (fvA (rA o al) s 0 F) :: al.map (arr1 Ln s)
def KH (F : List Fd) (al : List (Nat × Bool)) (Ln : Nat → Nat) (pre post : MHeap) (s : St) : MHeap := pre ++ (KO F al Ln pre.length s ++ post)
def alOk (F : List Fd) (al : List (Nat × Bool)) : Bool := (List.range F.length).all (fun j => match F[j]? with
  | some (_, _, .array t) => al[al.findIdx (fun q => q.1 == j)]? == some (j, isB t)
  | _ => true)
theorem KO_len {F : List Fd} {al : List (Nat × Bool)} {Ln : Nat → Nat} {o : Nat} {s : St} : (KO F al Ln o s).length = al.length + 1 := by simp [KO]
theorem app_get (pre post l : MHeap) (k : Nat) (h : k < l.length) : (pre ++ (l ++ post))[pre.length + k]? = l[k]? := by
  rw [List.getElem?_append_right (by omega), Nat.add_sub_cancel_left, List.getElem?_append_left h]
theorem app_set (pre post l : MHeap) (k : Nat) (c : MCell) (h : k < l.length) : (pre ++ (l ++ post)).set (pre.length + k) c = pre ++ (l.set k c ++ post) := by
  rw [List.set_append_right _ _ (by omega), Nat.add_sub_cancel_left, List.set_append_left _ _ h]
theorem view_of {G : Ctx} {al : List (Nat × Bool)} {Ln : Nat → Nat} {pre post : MHeap} (hk : k0 G ≤ pre.length) (h1 : alOk (gF G) al = true) (h2 : (al.map (·.1)).Nodup) :
    View G Ln (KH (gF G) al Ln pre post) pre.length (rA pre.length al) := by
  refine ⟨hk, fun s => ?_, fun s j f z hF ht => ?_, fun j n d t hF => ?_⟩
  · have := app_get pre post (KO (gF G) al Ln pre.length s) 0 (by rw [KO_len]; omega)
    exact this
  · have := app_set pre post (KO (gF G) al Ln pre.length s) 0 (.inl ((fvA (rA pre.length al) s 0 (gF G)).set j (.int z))) (by rw [KO_len]; omega)
    refine Eq.trans this ?_
    show pre ++ ((.inl _ :: al.map (arr1 Ln s)) ++ post) = pre ++ ((.inl _ :: al.map (arr1 Ln (setI s j z))) ++ post)
    rw [fvA_set hF ht]
    rfl
  · have hj : j < (gF G).length := (List.getElem?_eq_some_iff.mp hF).1
    have hq := List.all_eq_true.mp h1 j (List.mem_range.mpr hj)
    simp only [hF, beq_iff_eq] at hq
    have hlt := (List.getElem?_eq_some_iff.mp hq).1
    have hlen : ∀ s, al.findIdx (fun q => q.1 == j) + 1 < (KO (gF G) al Ln pre.length s).length := fun s => by rw [KO_len]; omega
    have hr : rA pre.length al j = pre.length + (al.findIdx (fun q => q.1 == j) + 1) := by unfold rA; omega
    refine ⟨by rw [hr]; omega, fun s => ?_, fun s i z hi => ?_⟩
    · rw [hr]
      refine (app_get pre post _ _ (hlen s)).trans ?_
      show (al.map (arr1 Ln s))[al.findIdx fun q => q.1 == j]? = _
      rw [List.getElem?_map, hq]
      rfl
    · rw [hr]
      refine (app_set pre post _ _ _ (hlen s)).trans ?_
      show pre ++ ((.inl (fvA (rA pre.length al) s 0 (gF G)) :: (al.map (arr1 Ln s)).set (al.findIdx fun q => q.1 == j) (.inr (isB t, (tab (Ln j) (s.2 j)).set i z))) ++ post) = pre ++ ((.inl (fvA (rA pre.length al) (setA s j i z) 0 (gF G)) :: al.map (arr1 Ln (setA s j i z))) ++ post)
      rw [fvA_same (s := s) (s' := setA s j i z) _ rfl]
      congr 3
      apply List.ext_getElem?
      intro k
      rw [List.getElem?_set, List.getElem?_map, List.getElem?_map, List.length_map]
      by_cases e : al.findIdx (fun q => q.1 == j) = k
      · subst e
        simp only [if_true, hlt, hq, Option.map_some, arr1, tab_set]
        congr 4
        funext x
        rw [setA_2]
        simp
      · simp only [e, if_false]
        cases hk2 : al[k]? with
        | none => rfl
        | some q =>
          simp only [Option.map_some, arr1]
          have ne : q.1 ≠ j := fun hqj => by
            have a1 : (al.map (·.1))[al.findIdx (fun q => q.1 == j)]? = some j := by rw [List.getElem?_map, hq]; rfl
            have a2 : (al.map (·.1))[k]? = some j := by rw [List.getElem?_map, hk2]; simp [hqj]
            have := (List.getElem?_inj (by rw [List.length_map]; exact hlt) h2).mp (a1.trans a2.symm)
            exact e this
          congr 4
          funext x
          rw [setA_2]
          simp [ne]
/-! ### while the constructor makes the arrays -/
def cons (pre : MHeap) (fs : List Value) (as : List (Bool × List Int32)) : MHeap := pre ++ (.inl fs :: as.map .inr)
section ConsRules
variable {G : Ctx} {M : Mi} {pc : Nat} {L : List Slot} {S : List Value} {rr : Option Value × MHeap} {pre : MHeap} {fs fs' : List Value} {as : List (Bool × List Int32)}
theorem cons_get : (cons pre fs as)[pre.length]? = some (.inl fs) := by unfold cons; rw [List.getElem?_append_right (Nat.le_refl _), Nat.sub_self]; rfl
theorem cons_set (c : List Value) : (cons pre fs as).set pre.length (.inl c) = cons pre c as := by unfold cons; rw [List.set_append_right _ _ (Nat.le_refl _), Nat.sub_self]; rfl
theorem cons_len : (cons pre fs as).length = pre.length + 1 + as.length := by simp [cons]; omega
theorem cons_push (b : Bool) (xs : List Int32) : cons pre fs as ++ [.inr (b, xs)] = cons pre fs (as ++ [(b, xs)]) := by simp [cons]
theorem Ev.cput {idx j : Nat} {n d : String} {ty : FieldType} {v v' : Value} (K : GOk G) (hk : k0 G ≤ pre.length) (w : (Jvm.Cond.fieldLink (mN M).cls idx (gC G) n d).before (gA G) (gZ G) = true)
    (wl : (Jvm.Cond.lays (gC G) (gC G) n d).before (gA G) (gZ G) = true ∨ ((Jvm.Cond.laysFinal (gC G) (gC G) n d).before (gA G) (gZ G) = true ∧ (mN M).cls = gC G ∧ (mN M).name = "<init>"))
    (hd : decode (mB M) pc = .ok (.putfield idx, 3)) (hF : (gF G)[j]? = some (n, d, ty)) (hp : mput ty v = some v') (hs : fs.set j v' = fs') (hn : Ev G M (pc + 3) L S (cons pre fs' as) rr) : Ev G M pc L (v :: .ref pre.length :: S) (cons pre fs as) rr := by
  subst hs
  refine Ev.putfield K w wl hd hF hk cons_get hp ?_
  rw [cons_set]; exact hn
theorem Ev.cget {idx j : Nat} {n d : String} {ty : FieldType} {v : Value} (w : (Jvm.Cond.fieldLink (mN M).cls idx (gC G) n d).before (gA G) (gZ G) = true) (hd : decode (mB M) pc = .ok (.getfield idx, 3)) (hF : (gF G)[j]? = some (n, d, ty)) (hv : fs[j]? = some v)
    (hn : Ev G M (pc + 3) L (v :: S) (cons pre fs as) rr) : Ev G M pc L (.ref pre.length :: S) (cons pre fs as) rr := Ev.getfield w hd hF cons_get hv hn
theorem Ev.cnew {aty : ArrayType} {b : Bool} {n : Int32} {k q : Nat} {as' : List (Bool × List Int32)} (w : (Jvm.Cond.arrayClass (newarray.typeOf aty)).before (gA G) (gZ G) = true) (hb' : newarray.typeOf aty = kd b) (hd : decode (mB M) pc = .ok (.newarray aty, 2)) (hn0 : ¬ n < 0) (hk : n.toNatClampNeg = k) (hcap : k ≤ 67108864)
    (hq : as.length = q) (has : as ++ [(b, tab k (fun _ => 0))] = as') (hn : Ev G M (pc + 2) L (.ref (pre.length + 1 + q) :: S) (cons pre fs as') rr) : Ev G M pc L (.int n :: S) (cons pre fs as) rr := by
  subst hq has
  refine Ev.newarray w hb' hd hn0 hk hcap ?_
  rw [cons_push, cons_len, ← tab_zero]; exact hn
end ConsRules
theorem forall_get {P : Nat → Fd → Prop} : ∀ (F : List Fd) (k : Nat), (∀ j f, F[j]? = some f → P (k + j) f) → True := fun _ _ _ => trivial
def AllF (P : Fd → Prop) : List Fd → Prop
  | [] => True
  | f :: fs => P f ∧ AllF P fs
theorem AllF.mem {P : Fd → Prop} : ∀ {F : List Fd}, AllF P F → ∀ f ∈ F, P f
  | _ :: _, ⟨h1, h2⟩, f, hf => (List.mem_cons.mp hf).elim (fun e => e ▸ h1) (AllF.mem h2 f)
theorem gok_of {G : Ctx} (h1 : AllF (fun f => Laid (gZ G) (gA G) (gC G) (gC G) f.1 f.2.1 ∧ parseFieldDescriptor f.2.1 = some f.2.2) (gF G)) (h2 : ((gF G).map (·.1)).Nodup)
    (h3 : (Jvm.Cond.instantiable (gC G) (gK G)).before (gA G) (gZ G) = true) (h4 : (Jvm.Cond.initialized (gC G)).before (gA G) (gZ G) = true) : GOk G := by
  refine ⟨fun j n d ty hF => h1.mem _ (List.mem_of_getElem? hF), fun j j' f f' hF hF' ne e => ne ?_, h3, h4⟩
  have a1 : ((gF G).map (·.1))[j]? = some f.1 := by rw [List.getElem?_map, hF]; rfl
  have a2 : ((gF G).map (·.1))[j']? = some f.1 := by rw [List.getElem?_map, hF', e]; rfl
  exact (List.getElem?_inj (by rw [List.length_map]; exact (List.getElem?_eq_some_iff.mp hF).1) h2).mp (a1.trans a2.symm)
end Jvm.Own
namespace Jvm.Own
open Sem ClassFile Op Lib Jvm.Stand Jvm.Free Jvm.LawKit Jvm.RoadKit
def grd {α : Type} (c : Prop) [Decidable c] (x : Option α) : Option α := if c then x else none
theorem grd_some {α : Type} {c : Prop} [Decidable c] {x : Option α} {w : α} (h : grd c x = some w) : c ∧ x = some w := by
  unfold grd at h; split at h
  · exact ⟨by assumption, h⟩
  · cases h
theorem grd_pos {α : Type} {c : Prop} [Decidable c] {x : Option α} (h : c) : grd c x = x := if_pos h
theorem KH_len (F : List Fd) (al : List (Nat × Bool)) (Ln : Nat → Nat) (pre post : MHeap) (s : St) : (KH F al Ln pre post s).length = pre.length + (al.length + 1 + post.length) := by simp [KH, KO]; omega
theorem hsl_app (k : Nat) (a b : MHeap) : hsl k (a ++ b) = hsl k a + hsl k b := by simp [hsl]
theorem hsl_arr (k : Nat) (Ln : Nat → Nat) (s : St) : ∀ al : List (Nat × Bool), hsl k (al.map (arr1 Ln s)) = (al.map fun q => Ln q.1).sum
  | [] => rfl
  | q :: al => by
    have := hsl_arr k Ln s al
    simp only [hsl, List.map_cons, List.sum_cons] at this ⊢
    rw [this]
    simp [arr1, csl, tab_len]
theorem hsl_KH (k : Nat) (F : List Fd) (al : List (Nat × Bool)) (Ln : Nat → Nat) (pre post : MHeap) (s : St) : hsl k (KH F al Ln pre post s) = hsl k pre + (k + (al.map fun q => Ln q.1).sum + hsl k post) := by
  unfold KH
  rw [hsl_app, hsl_app]
  have : hsl k (KO F al Ln pre.length s) = k + (al.map fun q => Ln q.1).sum := by
    have := hsl_arr k Ln s al
    simp only [KO, hsl, List.map_cons, List.sum_cons, csl] at this ⊢
    rw [this]
  rw [this]
theorem ne_lit {x z : Int32} {k : Int} (h : ¬ x = z) (e : z.toInt = k) : x.toInt ≠ k := fun q => h (Int32.toInt_inj.mp (q.trans e.symm))
section
variable {G : Ctx} {M : Mi} {pc : Nat} {L : List Slot} {S : List Value} {rr : Option Value × MHeap}
theorem Ev.astD {k v : Nat} {L' : List Slot} {o : Slot} {h : MHeap} (hd : decode (mB M) pc = .ok (.astore k, 2)) (ho : L[k]? = some o) (h1 : one1 o = true) (hl : L.set k (.val (.ref v)) = L') (hn : Ev G M (pc + 2) L' S h rr) : Ev G M pc L (.ref v :: S) h rr :=
  Ev.astore hd (by rw [mst_one ho h1 rfl, hl]) hn
theorem Ev.astDN {k : Fin 4} {v : Nat} {L' : List Slot} {o : Slot} {h : MHeap} (hd : decode (mB M) pc = .ok (.astore_n k, 1)) (ho : L[k.val]? = some o) (h1 : one1 o = true) (hl : L.set k.val (.val (.ref v)) = L') (hn : Ev G M (pc + 1) L' S h rr) : Ev G M pc L (.ref v :: S) h rr :=
  Ev.astoreN hd (by rw [mst_one ho h1 rfl, hl]) hn
end
end Jvm.Own
namespace Jvm.Own
open Sem ClassFile Op Lib Jvm.Stand Jvm.Free Jvm.LawKit Jvm.RoadKit
section
variable {G : Ctx} {M : Mi} {pc : Nat} {L : List Slot} {S : List Value} {rr : Option Value × MHeap}
theorem mst_T {l : List Slot} {i : Nat} {v : Value} {o o' : Slot} (ho : l[i]? = some o) (ho' : l[i + 1]? = some o') (h2 : two2 o o') (hv : v.category = 1) : ∃ b, one1 b = true ∧ mst l i v = some ((l.set i (.val v)).set (i + 1) b) := by
  have hlt := (List.getElem?_eq_some_iff.mp ho).1
  have hlt' := (List.getElem?_eq_some_iff.mp ho').1
  rcases h2 with ⟨h1, h1'⟩ | ⟨x, rfl, rfl⟩
  · refine ⟨o', h1', ?_⟩
    rw [mst_one ho h1 hv]
    congr 1
    apply List.ext_getElem?
    intro k
    by_cases e : i + 1 = k
    · subst e
      rw [List.getElem?_set_self (by simpa using hlt'), List.getElem?_set_ne (by omega), ho']
    · rw [List.getElem?_set_ne e]
  · refine ⟨.unset, rfl, ?_⟩
    unfold mst
    rw [ho]
    have c2 : (Value.long x).category = 2 := rfl
    simp only [c2, if_true, lsetAt, hlt', lstoreSelf, List.length_set, hlt, hv]
    rw [List.set_comm _ _ (by omega : i + 1 ≠ i)]
    simp
theorem Ev.istT {k : Nat} {v : Int32} {L' : Slot → List Slot} {o o' : Slot} {h : MHeap} (hd : decode (mB M) pc = .ok (.istore k, 2)) (ho : L[k]? = some o) (ho' : L[k + 1]? = some o') (h2 : two2 o o') (hl : ∀ b, (L.set k (.val (.int v))).set (k + 1) b = L' b) (hn : ∀ b, one1 b = true → Ev G M (pc + 2) (L' b) S h rr) : Ev G M pc L (.int v :: S) h rr := by
  obtain ⟨b, h1, e⟩ := mst_T (v := .int v) ho ho' h2 rfl
  exact Ev.istore hd e (by rw [hl]; exact hn b h1)
theorem Ev.istTN {k : Fin 4} {v : Int32} {L' : Slot → List Slot} {o o' : Slot} {h : MHeap} (hd : decode (mB M) pc = .ok (.istore_n k, 1)) (ho : L[k.val]? = some o) (ho' : L[k.val + 1]? = some o') (h2 : two2 o o') (hl : ∀ b, (L.set k.val (.val (.int v))).set (k.val + 1) b = L' b) (hn : ∀ b, one1 b = true → Ev G M (pc + 1) (L' b) S h rr) : Ev G M pc L (.int v :: S) h rr := by
  obtain ⟨b, h1, e⟩ := mst_T (v := .int v) ho ho' h2 rfl
  exact Ev.istoreN hd e (by rw [hl]; exact hn b h1)
end
section
variable {G : Ctx} {Ln : Nat → Nat} {K : St → MHeap} {o len : Nat} {r : Nat → Nat} {F : List Fd} {al : List (Nat × Bool)}
theorem View.le (V : View G Ln K o r) (s : St) : k0 G ≤ (K s).length := Nat.le_trans V.1 (Nat.le_of_lt (List.getElem?_eq_some_iff.mp (V.2.1 s)).1)
theorem View.app (V : View G Ln K o r) (X : MHeap) : View G Ln (fun s => K s ++ X) o r := by
  refine ⟨V.1, fun s => ?_, fun s j f z hF ht => ?_, fun j n d t hF => ?_⟩
  · show (K s ++ X)[o]? = _
    rw [List.getElem?_append_left (List.getElem?_eq_some_iff.mp (V.2.1 s)).1]; exact V.2.1 s
  · show (K s ++ X).set o _ = _
    rw [List.set_append_left _ _ (List.getElem?_eq_some_iff.mp (V.2.1 s)).1, V.2.2.1 s j f z hF ht]
  · obtain ⟨q1, q2, q3⟩ := V.2.2.2 j n d t hF
    refine ⟨q1, fun s => ?_, fun s i z hi => ?_⟩
    · show (K s ++ X)[r j]? = _
      rw [List.getElem?_append_left (List.getElem?_eq_some_iff.mp (q2 s)).1]; exact q2 s
    · show (K s ++ X).set (r j) _ = _
      rw [List.set_append_left _ _ (List.getElem?_eq_some_iff.mp (q2 s)).1, q3 s i z hi]
theorem View.app2 (V : View G Ln K o r) (hl : ∀ s, (K s).length = len) (t : St) : View G Ln (fun s => KH F al Ln (K s) [] t) o r := by
  have e : (fun s => KH F al Ln (K s) [] t) = fun s => K s ++ (KO F al Ln len t ++ []) := by
    funext s; unfold KH; rw [hl]
  rw [e]
  exact V.app _
theorem app2_get (V : View G Ln K o r) {s t : St} {c : MCell} (h : (K s)[0]? = some c) : (KH F al Ln (K s) [] t)[0]? = some c := by
  unfold KH
  rw [List.getElem?_append_left (List.getElem?_eq_some_iff.mp h).1]; exact h
end
end Jvm.Own
namespace Jvm.Own
open Sem ClassFile Op Lib Jvm.Stand Jvm.Free Jvm.LawKit Jvm.RoadKit
def toI : Value → Int32
  | .int z => z
  | _ => 0
theorem script_rel {s : State} {a : Nat} {cl : Cell} {args : Array Value} {l : Launch} {C : String} {F : List Fd} {k : Nat} (hf : Fit s) (A : Arr s s.heap a cl .int) :
    ∃ xs : List Int32, xs.length = cl.slots.size ∧ Rel (s, args, l, some a, s.heap.size, C, F, k) s.heap [.inr (false, tab xs.length (fun i => xs.getD i 0))] := by
  have hl : (cl.slots.toList.map toI).length = cl.slots.size := by simp
  refine ⟨cl.slots.toList.map toI, hl, rfl, Nat.le_refl _, fun a' q => by cases q; exact A.lt, fun i c q => ?_⟩
  match i, q with
  | 0, q =>
    cases q
    refine ⟨cl, A, ?_⟩
    rw [← tab_of]
    apply Array.ext'
    apply List.ext_getElem?
    intro j
    simp only [List.map_map, List.getElem?_map]
    cases hj : cl.slots.toList[j]? with
    | none => rfl
    | some v =>
      have hj' : cl.slots[j]? = some v := by simpa using hj
      obtain ⟨hlt, hv⟩ := Array.getElem?_eq_some_iff.mp hj'
      have q := hf A.1 hlt
      obtain ⟨hs, kk, hk, comp, hkind⟩ := A.2.1
      have e : s.slotType? cl.cls cl.vm j = some .int := by
        cases hq : cl.vm <;> first | exact absurd hq (hs _) | simp [State.slotType?, hk, hkind]
      have q2 : fits .int v = true := by rw [hv] at q; simpa [State.fitsSlot, e] using q
      obtain ⟨z, rfl⟩ := fit_I q2 (Or.inl rfl)
      rfl
theorem script_len {s : State} {args : Array Value} {t : Term} {a : Nat} {cl : Cell} (A : Arr s s.heap a cl .int) (ea : t.eval args s none [] s = some (.ref a)) (h1 : (Jvm.Cond.isInt (.length t)).value args s none s [] = some true) (h2 : (Jvm.Cond.le (.length t) (.int 260)).value args s none s [] = some true) : cl.slots.size ≤ 260 := by
  obtain ⟨z, ez⟩ := is_v h1
  have ha := A.fin (Vm.Alike.refl s.vm)
  have hlen : cl.slots.size < 2 ^ 31 := by
    rcases Nat.lt_or_ge cl.slots.size (2 ^ 31) with q | q
    · exact q
    · simp [Term.eval, ea, ha, Nat.not_lt.mpr q] at ez
  have e1 := len_f ea ha hlen
  have q : cl.slots.size.toInt32 ≤ 260 := by
    have := Cond.le_ints e1 (Term.int_eval (260 : Int32)) (args := args) (first := s) (o := none) (s := s) (idx := [])
    exact gotT this h2
  have q2 := Int32.le_iff_toInt_le.mp q
  rw [len_toInt hlen] at q2
  have : (260 : Int32).toInt = 260 := by decide
  omega
end Jvm.Own
namespace Jvm.Own
open Sem ClassFile Op Lib Jvm.Stand Jvm.Free Jvm.LawKit Jvm.RoadKit
def decs (b : ByteArray) : List (Nat × Instr × Nat) → Bool
  | [] => true
  | q :: t => decide (decode b q.1 = .ok (q.2.1, q.2.2)) && decs b t
theorem dget {b : ByteArray} : ∀ {l : List (Nat × Instr × Nat)}, decs b l = true → ∀ {k p : Nat} {i : Instr} {n : Nat}, l[k]? = some (p, i, n) → decode b p = .ok (i, n)
  | [], _, k, _, _, _, hk => by simp at hk
  | q :: t, h, 0, p, i, n, hk => by
    simp only [decs, Bool.and_eq_true, decide_eq_true_eq] at h
    simp only [List.getElem?_cons_zero, Option.some.injEq] at hk
    subst hk
    exact h.1
  | q :: t, h, k + 1, p, i, n, hk => by
    simp only [decs, Bool.and_eq_true] at h
    exact dget h.2 (by simpa using hk)
end Jvm.Own
namespace Jvm.Own
/-! ## 6. Ints of 32 bits and naturals -/
theorem N_toInt {i : Nat} (h : i < 2147483648) : (Int32.ofNat i).toInt = i := Int32.toInt_ofNat_of_lt h
theorem N_lt {i j : Nat} (hi : i < 2147483648) (hj : j < 2147483648) : Int32.ofNat i < Int32.ofNat j ↔ i < j := by
  rw [Int32.lt_iff_toInt_lt, N_toInt hi, N_toInt hj]; omega
theorem N_inj {i j : Nat} (hi : i < 2147483648) (hj : j < 2147483648) : Int32.ofNat i = Int32.ofNat j ↔ i = j := by
  rw [← Int32.toInt_inj, N_toInt hi, N_toInt hj]; omega
theorem N_succ (i : Nat) : Int32.ofNat i + 1 = Int32.ofNat (i + 1) := (Int32.ofNat_add i 1).symm
theorem N_add (i j : Nat) : Int32.ofNat i + Int32.ofNat j = Int32.ofNat (i + j) := (Int32.ofNat_add i j).symm
theorem N_mul (i j : Nat) : Int32.ofNat i * Int32.ofNat j = Int32.ofNat (i * j) := (Int32.ofNat_mul i j).symm
theorem N_neg {i : Nat} (h : i < 2147483648) : ¬ Int32.ofNat i < 0 := by
  rw [Int32.lt_iff_toInt_lt, N_toInt h]; simp
theorem ix_N {i : Nat} (h : i < 2147483648) : ix (Int32.ofNat i) = i := by
  unfold ix Int32.toNatClampNeg; rw [N_toInt h]; simp
theorem inb_N {i n : Nat} (h : i < 2147483648) : inb (Int32.ofNat i) n ↔ i < n := by
  unfold inb; rw [ix_N h]; exact ⟨fun q => q.2, fun q => ⟨N_neg h, q⟩⟩
theorem ix_toInt {x : Int32} (h : ¬ x < 0) : (ix x : Int) = x.toInt := by
  unfold ix Int32.toNatClampNeg
  rw [Int32.lt_iff_toInt_lt] at h
  have : (0 : Int32).toInt = 0 := rfl
  omega
theorem ix_lt (x : Int32) : ix x < 2147483648 := by
  unfold ix Int32.toNatClampNeg
  have := Int32.toInt_lt x
  omega
theorem N_ix {x : Int32} (h : ¬ x < 0) : Int32.ofNat (ix x) = x := by
  rw [← Int32.toInt_inj, N_toInt (ix_lt x), ix_toInt h]
theorem ix_eq {x y : Int32} (hx : ¬ x < 0) (hy : ¬ y < 0) : ix x = ix y ↔ x = y := by
  refine ⟨fun e => ?_, fun e => e ▸ rfl⟩
  rw [← N_ix hx, ← N_ix hy, e]
theorem rng (x : Int32) : -2147483648 ≤ x.toInt ∧ x.toInt < 2147483648 := ⟨Int32.le_toInt x, Int32.toInt_lt x⟩
theorem lt_I {x y : Int32} : x < y ↔ x.toInt < y.toInt := Int32.lt_iff_toInt_lt
theorem le_I {x y : Int32} : x ≤ y ↔ x.toInt ≤ y.toInt := Int32.le_iff_toInt_le
theorem eq_I {x y : Int32} : x = y ↔ x.toInt = y.toInt := Int32.toInt_inj.symm
theorem bmod_eq {x : Int} (h1 : -2147483648 ≤ x) (h2 : x < 2147483648) : x.bmod (2 ^ 32) = x := by
  apply Int.bmod_eq_of_le <;> omega
theorem add_I {x y : Int32} (h1 : -2147483648 ≤ x.toInt + y.toInt) (h2 : x.toInt + y.toInt < 2147483648) : (x + y).toInt = x.toInt + y.toInt := by
  rw [Int32.toInt_add]; exact bmod_eq h1 h2
theorem sub_I {x y : Int32} (h1 : -2147483648 ≤ x.toInt - y.toInt) (h2 : x.toInt - y.toInt < 2147483648) : (x - y).toInt = x.toInt - y.toInt := by
  rw [Int32.toInt_sub]; exact bmod_eq h1 h2
theorem mul_I {x y : Int32} (h1 : -2147483648 ≤ x.toInt * y.toInt) (h2 : x.toInt * y.toInt < 2147483648) : (x * y).toInt = x.toInt * y.toInt := by
  rw [Int32.toInt_mul]; exact bmod_eq h1 h2
theorem inb_I {x : Int32} {n : Nat} (h1 : 0 ≤ x.toInt) (h2 : x.toInt < n) : inb x n := by
  have h : ¬ x < 0 := by rw [lt_I]; have : (0 : Int32).toInt = 0 := rfl; omega
  refine ⟨h, ?_⟩
  have := ix_toInt h
  omega
/-- an int between 0 and n is one of them -/
theorem cases_N {x : Int32} {n : Nat} (hn : n < 2147483648) (h0 : ¬ x < 0) (h1 : x < Int32.ofNat n) : ∃ i, i < n ∧ x = Int32.ofNat i := by
  refine ⟨ix x, ?_, (N_ix h0).symm⟩
  have a := ix_toInt h0
  rw [lt_I, N_toInt hn] at h1
  omega
/-! ## 7. Loops that count from i to N -/
def itr {α : Type} (f : Nat → α → α) : Nat → Nat → α → α
  | _, 0, s => s
  | i, m + 1, s => itr f (i + 1) m (f i s)
theorem loopN {α β : Type} {F : Nat → Int32 → α → Option β} {N : Nat} {f : Nat → α → α} {fin : α → Option β}
    (hF : ∀ k i s, i < N → F (k + 1) (Int32.ofNat i) s = F k (Int32.ofNat i + 1) (f i s)) (hE : ∀ k s, F (k + 1) (Int32.ofNat N) s = fin s) :
    ∀ m i k s, i + m = N → m < k → F k (Int32.ofNat i) s = fin (itr f i m s) := by
  intro m
  induction m with
  | zero =>
    intro i k s hi hk
    obtain ⟨k, rfl⟩ : ∃ k', k = k' + 1 := ⟨k - 1, by omega⟩
    have : i = N := by omega
    subst this
    exact hE k s
  | succ m ih =>
    intro i k s hi hk
    obtain ⟨k, rfl⟩ : ∃ k', k = k' + 1 := ⟨k - 1, by omega⟩
    rw [hF k i s (by omega), N_succ]
    exact ih (i + 1) k _ (by omega) (by omega)
theorem itr_ind {α : Type} {f : Nat → α → α} {P : Nat → α → Prop} {N : Nat} (h : ∀ i s, i < N → P i s → P (i + 1) (f i s)) : ∀ m i s, i + m = N → P i s → P N (itr f i m s) := by
  intro m
  induction m with
  | zero => intro i s hi hp; have : i = N := by omega
            subst this; exact hp
  | succ m ih => intro i s hi hp; exact ih (i + 1) _ (by omega) (h i s (by omega) hp)
theorem itr_pt {f : Nat → St → St} {u : Nat → Int32 → Int32} (h1 : ∀ i s, (f i s).1 = s.1) (h2 : ∀ i s k x, (f i s).2 k x = if x = i then u k (s.2 k x) else s.2 k x) :
    ∀ m i s, itr f i m s = (s.1, fun k x => if i ≤ x ∧ x < i + m then u k (s.2 k x) else s.2 k x) := by
  intro m
  induction m with
  | zero =>
    intro i s
    refine Prod.ext rfl ?_
    funext k x
    have : ¬ (i ≤ x ∧ x < i + 0) := by omega
    simp only [this, if_false]
    rfl
  | succ m ih =>
    intro i s
    show itr f (i + 1) m (f i s) = _
    rw [ih]
    refine Prod.ext (h1 i s) ?_
    funext k x
    simp only [h2]
    by_cases e : x = i
    · subst e
      have a : ¬ (x + 1 ≤ x ∧ x < x + 1 + m) := by omega
      have b : x ≤ x ∧ x < x + (m + 1) := by omega
      simp only [a, b, if_false, if_true, and_self]
    · have : (i + 1 ≤ x ∧ x < i + 1 + m) ↔ (i ≤ x ∧ x < i + (m + 1)) := by omega
      simp only [this, e, if_false]
theorem itr_fill (K : Nat) (z : Int32) (m : Nat) (s : St) : itr (fun i s => setA s K i z) 0 m s = (s.1, fun k x => if k = K ∧ x < m then z else s.2 k x) := by
  rw [itr_pt (f := fun i s => setA s K i z) (u := fun k v => if k = K then z else v) (fun _ _ => rfl) (fun i s j x => by
    simp only [setA_2]
    by_cases e : x = i <;> by_cases e1 : j = K <;> simp [e, e1])]
  refine Prod.ext rfl ?_
  funext k x
  have : (0 ≤ x ∧ x < 0 + m) ↔ x < m := by omega
  simp only [this]
  by_cases e : x < m <;> by_cases e1 : k = K <;> simp [e, e1]
theorem and_rng (x : Int32) {m : Nat} (hm : m < 2147483648) : 0 ≤ (x &&& Int32.ofNat m).toInt ∧ (x &&& Int32.ofNat m).toInt ≤ m := by
  have h1 : (x &&& Int32.ofNat m).toBitVec.toNat ≤ m := by
    rw [Int32.toBitVec_and, BitVec.toNat_and]
    refine Nat.le_trans Nat.and_le_right ?_
    show (BitVec.ofNat 32 m).toNat ≤ m
    rw [BitVec.toNat_ofNat]
    exact Nat.mod_le _ _
  have h2 : (x &&& Int32.ofNat m).toInt = ((x &&& Int32.ofNat m).toBitVec.toNat : Int) := by
    show (x &&& Int32.ofNat m).toBitVec.toInt = _
    exact BitVec.toInt_eq_toNat_of_lt (by omega)
  omega
theorem idx8 {o p : Int32} (h0 : ¬ o < 0) (h3 : ¬ 3 < o) : inb (o * 8 + (p &&& 7)) 32 := by
  have a := and_rng p (m := 7) (by omega)
  rw [show Int32.ofNat 7 = (7 : Int32) from rfl] at a
  rw [lt_I] at h0 h3
  have e0 : (0 : Int32).toInt = 0 := rfl
  have e3 : (3 : Int32).toInt = 3 := rfl
  have e8 : (8 : Int32).toInt = 8 := rfl
  have em : (o * 8).toInt = o.toInt * 8 := by rw [mul_I] <;> rw [e8] <;> omega
  have ea : (o * 8 + (p &&& 7)).toInt = o.toInt * 8 + (p &&& 7).toInt := by rw [add_I] <;> rw [em] <;> omega
  exact inb_I (by omega) (by omega)
theorem idx8' {o p : Int32} (h0 : ¬ o < 0) (h3 : ¬ 3 < o) (g0 : ¬ p < 0) (g7 : ¬ 7 < p) : inb (o * 8 + p) 32 ∧ (o * 8 + p).toInt = o.toInt * 8 + p.toInt := by
  rw [lt_I] at h0 h3 g0 g7
  have e0 : (0 : Int32).toInt = 0 := rfl
  have e3 : (3 : Int32).toInt = 3 := rfl
  have e7 : (7 : Int32).toInt = 7 := rfl
  have e8 : (8 : Int32).toInt = 8 := rfl
  have em : (o * 8).toInt = o.toInt * 8 := by rw [mul_I] <;> rw [e8] <;> omega
  have ea : (o * 8 + p).toInt = o.toInt * 8 + p.toInt := by rw [add_I] <;> rw [em] <;> omega
  exact ⟨inb_I (by omega) (by omega), ea⟩
theorem inb_le {x : Int32} {m : Int32} {n : Nat} (h0 : ¬ x < 0) (h1 : ¬ m < x) (hm : m.toInt < n) : inb x n := by
  rw [lt_I] at h0 h1
  have e0 : (0 : Int32).toInt = 0 := rfl
  exact inb_I (by omega) (by omega)
theorem inb_lt {x : Int32} {m : Int32} {n : Nat} (h0 : ¬ x < 0) (h1 : x < m) (hm : m.toInt ≤ n) : inb x n := by
  rw [lt_I] at h0 h1
  have e0 : (0 : Int32).toInt = 0 := rfl
  exact inb_I (by omega) (by omega)
theorem rem_N {a N : Nat} (ha : a < 2147483648) (hN : N < 2147483648) (h0 : 0 < N) : Int32.ofNat a % Int32.ofNat N = Int32.ofNat (a % N) := by
  have h1 : a % N < N := Nat.mod_lt _ h0
  rw [← Int32.toInt_inj, Int32.toInt_mod, N_toInt ha, N_toInt hN, N_toInt (by omega)]
  rw [Int.tmod_eq_emod_of_nonneg (by omega)]
  rfl
/-- the rule of a loop that counts from i to N: P before each turn; Q of what it gives -/
theorem loopP {α β : Type} {F : Nat → Int32 → α → Option β} {N : Nat} {P : Nat → α → Prop} {Q : β → Prop}
    (hF : ∀ k i s, i < N → P i s → (∃ s', F (k + 1) (Int32.ofNat i) s = F k (Int32.ofNat i + 1) s' ∧ P (i + 1) s') ∨ ∃ r, F (k + 1) (Int32.ofNat i) s = some r ∧ Q r)
    (hE : ∀ k s, P N s → ∃ r, F (k + 1) (Int32.ofNat N) s = some r ∧ Q r) :
    ∀ m i k s, i + m = N → m < k → P i s → ∃ r, F k (Int32.ofNat i) s = some r ∧ Q r := by
  intro m
  induction m with
  | zero =>
    intro i k s hi hk hp
    obtain ⟨k, rfl⟩ : ∃ k', k = k' + 1 := ⟨k - 1, by omega⟩
    have : i = N := by omega
    subst this
    exact hE k s hp
  | succ m ih =>
    intro i k s hi hk hp
    obtain ⟨k, rfl⟩ : ∃ k', k = k' + 1 := ⟨k - 1, by omega⟩
    rcases hF k i s (by omega) hp with ⟨s', e, hp'⟩ | h
    · rw [e, N_succ]
      exact ih (i + 1) k s' (by omega) (by omega) hp'
    · exact h
theorem ltN {i j : Nat} (h : i < j) (hj : j < 2147483648) : Int32.ofNat i < Int32.ofNat j := (N_lt (by omega) hj).mpr h
theorem ltZ {i : Nat} {z : Int32} (N : Nat) (hz : Int32.ofNat N = z) (h : i < N) (hN : N < 2147483648) : Int32.ofNat i < z := hz ▸ ltN h hN
theorem nltN {i : Nat} (hi : i < 2147483648) : ¬ Int32.ofNat i < Int32.ofNat i := fun q => by rw [N_lt hi hi] at q; omega
theorem inbN {i n : Nat} (h : i < n) (hi : i < 2147483648) : inb (Int32.ofNat i) n := (inb_N hi).mpr h
def own_cl (a lo hi : Int32) : Int32 := if a < lo then lo else if hi < a then hi else a
theorem own_cl_rng {a lo hi : Int32} (h : ¬ hi < lo) : lo.toInt ≤ (own_cl a lo hi).toInt ∧ (own_cl a lo hi).toInt ≤ hi.toInt := by
  unfold own_cl
  rw [lt_I] at h
  split
  · omega
  · rename_i q; rw [lt_I] at q
    split
    · omega
    · rename_i q2; rw [lt_I] at q2; omega
theorem own_nat {x : Int32} {lo hi : Nat} (h1 : (lo : Int) ≤ x.toInt) (h2 : x.toInt ≤ hi) : ∃ N : Nat, x = Int32.ofNat N ∧ lo ≤ N ∧ N ≤ hi := by
  have := rng x
  refine ⟨x.toInt.toNat, ?_, by omega, by omega⟩
  rw [← Int32.toInt_inj, N_toInt (by omega)]; omega
theorem own_clN (a : Int32) {lo hi : Nat} (h : lo ≤ hi) (hi' : hi < 2147483648) : ∃ N : Nat, own_cl a (Int32.ofNat lo) (Int32.ofNat hi) = Int32.ofNat N ∧ lo ≤ N ∧ N ≤ hi := by
  have q := own_cl_rng (a := a) (lo := Int32.ofNat lo) (hi := Int32.ofNat hi) (fun q => by rw [N_lt (by omega) (by omega)] at q; omega)
  rw [N_toInt (by omega), N_toInt (by omega)] at q
  exact own_nat q.1 q.2
end Jvm.Own
namespace Jvm.Pilot.@@N@@
open Jvm Jvm.ClassFile Sem Op Lib Jvm.Free Jvm.Stand Jvm.LawKit Jvm.RoadKit Bundle Jvm.Pilot.@@N@@.Jvm.D Jvm.Own
/-! ### the class and its words (printed by a program of this repo) -/
abbrev GT := State × Array Value × Launch × Option Addr × Nat
def flds : List Fd := [("root", "[I", FieldType.array FieldType.int), ("pendCode", "[I", FieldType.array FieldType.int), ("choice", "[I", FieldType.array FieldType.int), ("fix", "[I", FieldType.array FieldType.int), ("digit", "[I", FieldType.array FieldType.int), ("lvl", "[I", FieldType.array FieldType.int), ("kid", "[I", FieldType.array FieldType.int), ("uniq", "[I", FieldType.array FieldType.int), ("mark", "[Z", FieldType.array FieldType.boolean), ("remap", "[I", FieldType.array FieldType.int), ("cnt", "[I", FieldType.array FieldType.int), ("buf", "[I", FieldType.array FieldType.int), ("allowT", "[Z", FieldType.array FieldType.boolean), ("memoA", "[I", FieldType.array FieldType.int), ("memoB", "[I", FieldType.array FieldType.int), ("memoR", "[I", FieldType.array FieldType.int), ("memoUsed", "[Z", FieldType.array FieldType.boolean), ("stU", "[I", FieldType.array FieldType.int), ("stV", "[I", FieldType.array FieldType.int), ("stPh", "[I", FieldType.array FieldType.int), ("n", "I", FieldType.int), ("d", "I", FieldType.int), ("top", "I", FieldType.int), ("depth", "I", FieldType.int), ("pending", "Z", FieldType.boolean)]
def GG (g : GT) : Ctx := (g.1, g.2.1, g.2.2.1, g.2.2.2.1, g.2.2.2.2, "MddConfigurator", flds, 31)
def HW (g : GT) : Prop := ∀ d ∈ tables_1, d.before g.2.1 g.1 = true
def al : List (Nat × Bool) := [(0, false), (1, false), (2, false), (3, false), (4, false), (5, false), (6, false), (7, false), (8, true), (9, false), (10, false), (11, false), (12, true), (13, false), (14, false), (15, false), (16, true), (17, false), (18, false), (19, false)]
def Ln (j : Nat) : Nat := [9, 16, 5, 5, 5, 2048, 8192, 4096, 2048, 2048, 2048, 1024, 64, 1024, 1024, 1024, 1024, 64, 64, 64, 0, 0, 0, 0, 0].getD j 0
def dfl : List Value := [.null, .null, .null, .null, .null, .null, .null, .null, .null, .null, .null, .null, .null, .null, .null, .null, .null, .null, .null, .null, .int 0, .int 0, .int 0, .int 0, .int 0]
theorem ww {g : GT} (hw : HW g) (k : Nat) {d : Jvm.Cond} (h : tables_1[k]? = some d) : d.before (gA (GG g)) (gZ (GG g)) = true := hw _ (List.mem_of_getElem? h)
theorem fld_nd : (flds.map (·.1)).Nodup := by decide +kernel
theorem al_ok : alOk flds al = true := by decide +kernel
theorem al_nd : (al.map (·.1)).Nodup := by decide +kernel
theorem gok {g : GT} (hw : HW g) : GOk (GG g) := gok_of ⟨⟨Or.inl (ww hw 11 rfl), by decide⟩, ⟨Or.inl (ww hw 13 rfl), by decide⟩, ⟨Or.inl (ww hw 15 rfl), by decide⟩, ⟨Or.inl (ww hw 17 rfl), by decide⟩, ⟨Or.inl (ww hw 19 rfl), by decide⟩, ⟨Or.inl (ww hw 21 rfl), by decide⟩, ⟨Or.inl (ww hw 23 rfl), by decide⟩, ⟨Or.inl (ww hw 25 rfl), by decide⟩, ⟨Or.inl (ww hw 28 rfl), by decide⟩, ⟨Or.inl (ww hw 30 rfl), by decide⟩, ⟨Or.inl (ww hw 32 rfl), by decide⟩, ⟨Or.inl (ww hw 34 rfl), by decide⟩, ⟨Or.inl (ww hw 36 rfl), by decide⟩, ⟨Or.inl (ww hw 38 rfl), by decide⟩, ⟨Or.inl (ww hw 40 rfl), by decide⟩, ⟨Or.inl (ww hw 42 rfl), by decide⟩, ⟨Or.inl (ww hw 44 rfl), by decide⟩, ⟨Or.inl (ww hw 46 rfl), by decide⟩, ⟨Or.inl (ww hw 48 rfl), by decide⟩, ⟨Or.inl (ww hw 50 rfl), by decide⟩, ⟨Or.inl (ww hw 52 rfl), by decide⟩, ⟨Or.inl (ww hw 54 rfl), by decide⟩, ⟨Or.inl (ww hw 56 rfl), by decide⟩, ⟨Or.inl (ww hw 62 rfl), by decide⟩, ⟨Or.inl (ww hw 64 rfl), by decide⟩, trivial⟩ fld_nd (ww hw 1 rfl) (ww hw 2 rfl)
theorem pcls : plainName "MddConfigurator" = true := by first | (simp [plainName, overriddenIn]; done) | decide +kernel
theorem pclsL : plainName "MddConfiguratorL2" = true := by first | (simp [plainName, overriddenIn]; done) | decide +kernel
theorem nmh : "MddConfigurator" ≠ "java/lang/invoke/MethodHandle" ∧ "MddConfigurator" ≠ "java/lang/invoke/VarHandle" := by decide
theorem nmhL : "MddConfiguratorL2" ≠ "java/lang/invoke/MethodHandle" ∧ "MddConfiguratorL2" ≠ "java/lang/invoke/VarHandle" := by decide
def M_clearUnique : Mi := ((⟨"MddConfigurator", "clearUnique", "()V"⟩ : MethodName), prog_1_method_21_code, 2, none, 0, 0)
theorem pl_clearUnique : plainFor (mN M_clearUnique) = true := plainFor_of_name pcls
theorem nm_clearUnique : notMH M_clearUnique := nmh
theorem pd_clearUnique : parseMethodDescriptor (mN M_clearUnique).desc = some ⟨[], none⟩ := by decide +kernel
def M_ctor : Mi := ((⟨"MddConfigurator", "<init>", "(II)V"⟩ : MethodName), prog_1_method_1_code, 4, none, 1, 13)
theorem pl_ctor : plainFor (mN M_ctor) = true := plainFor_of_name pcls
theorem nm_ctor : notMH M_ctor := nmh
theorem pd_ctor : parseMethodDescriptor (mN M_ctor).desc = some ⟨[.int, .int], none⟩ := by decide +kernel
def M_validVar : Mi := ((⟨"MddConfigurator", "validVar", "(I)Z"⟩ : MethodName), prog_1_method_18_code, 2, (some .boolean), 0, 0)
theorem pl_validVar : plainFor (mN M_validVar) = true := plainFor_of_name pcls
theorem nm_validVar : notMH M_validVar := nmh
theorem pd_validVar : parseMethodDescriptor (mN M_validVar).desc = some ⟨[.int], some .boolean⟩ := by decide +kernel
def M_validValue : Mi := ((⟨"MddConfigurator", "validValue", "(I)Z"⟩ : MethodName), prog_1_method_19_code, 2, (some .boolean), 0, 0)
theorem pl_validValue : plainFor (mN M_validValue) = true := plainFor_of_name pcls
theorem nm_validValue : notMH M_validValue := nmh
theorem pd_validValue : parseMethodDescriptor (mN M_validValue).desc = some ⟨[.int], some .boolean⟩ := by decide +kernel
def M_loadChoices : Mi := ((⟨"MddConfigurator", "loadChoices", "()V"⟩ : MethodName), prog_1_method_46_code, 2, none, 0, 0)
theorem pl_loadChoices : plainFor (mN M_loadChoices) = true := plainFor_of_name pcls
theorem nm_loadChoices : notMH M_loadChoices := nmh
theorem pd_loadChoices : parseMethodDescriptor (mN M_loadChoices).desc = some ⟨[], none⟩ := by decide +kernel
def M_gap : Mi := ((⟨"MddConfigurator", "gap", "(II)I"⟩ : MethodName), prog_1_method_47_code, 5, (some .int), 0, 0)
theorem pl_gap : plainFor (mN M_gap) = true := plainFor_of_name pcls
theorem nm_gap : notMH M_gap := nmh
theorem pd_gap : parseMethodDescriptor (mN M_gap).desc = some ⟨[.int, .int], some .int⟩ := by decide +kernel
def M_countFixed : Mi := ((⟨"MddConfigurator", "countFixed", "()I"⟩ : MethodName), prog_1_method_48_code, 3, (some .int), 1, 16)
theorem pl_countFixed : plainFor (mN M_countFixed) = true := plainFor_of_name pcls
theorem nm_countFixed : notMH M_countFixed := nmh
theorem pd_countFixed : parseMethodDescriptor (mN M_countFixed).desc = some ⟨[], some .int⟩ := by decide +kernel
def M_countWith : Mi := ((⟨"MddConfigurator", "countWith", "(II)I"⟩ : MethodName), prog_1_method_15_code, 3, (some .int), 2, 30)
theorem pl_countWith : plainFor (mN M_countWith) = true := plainFor_of_name pcls
theorem nm_countWith : notMH M_countWith := nmh
theorem pd_countWith : parseMethodDescriptor (mN M_countWith).desc = some ⟨[.int, .int], some .int⟩ := by decide +kernel
def M_choose : Mi := ((⟨"MddConfigurator", "choose", "(II)I"⟩ : MethodName), prog_1_method_9_code, 3, (some .int), 3, 44)
theorem pl_choose : plainFor (mN M_choose) = true := plainFor_of_name pcls
theorem nm_choose : notMH M_choose := nmh
theorem pd_choose : parseMethodDescriptor (mN M_choose).desc = some ⟨[.int, .int], some .int⟩ := by decide +kernel
def M_chosenValue : Mi := ((⟨"MddConfigurator", "chosenValue", "(I)I"⟩ : MethodName), prog_1_method_12_code, 2, (some .int), 1, 13)
theorem pl_chosenValue : plainFor (mN M_chosenValue) = true := plainFor_of_name pcls
theorem nm_chosenValue : notMH M_chosenValue := nmh
theorem pd_chosenValue : parseMethodDescriptor (mN M_chosenValue).desc = some ⟨[.int], some .int⟩ := by decide +kernel
def M_count : Mi := ((⟨"MddConfigurator", "count", "()I"⟩ : MethodName), prog_1_method_14_code, 1, (some .int), 2, 30)
theorem pl_count : plainFor (mN M_count) = true := plainFor_of_name pcls
theorem nm_count : notMH M_count := nmh
theorem pd_count : parseMethodDescriptor (mN M_count).desc = some ⟨[], some .int⟩ := by decide +kernel
def M_offeredMask : Mi := ((⟨"MddConfigurator", "offeredMask", "(I)I"⟩ : MethodName), prog_1_method_13_code, 4, (some .int), 3, 44)
theorem pl_offeredMask : plainFor (mN M_offeredMask) = true := plainFor_of_name pcls
theorem nm_offeredMask : notMH M_offeredMask := nmh
theorem pd_offeredMask : parseMethodDescriptor (mN M_offeredMask).desc = some ⟨[.int], some .int⟩ := by decide +kernel
def M_retract : Mi := ((⟨"MddConfigurator", "retract", "(I)I"⟩ : MethodName), prog_1_method_10_code, 2, (some .int), 1, 13)
theorem pl_retract : plainFor (mN M_retract) = true := plainFor_of_name pcls
theorem nm_retract : notMH M_retract := nmh
theorem pd_retract : parseMethodDescriptor (mN M_retract).desc = some ⟨[.int], some .int⟩ := by decide +kernel
def M_law : Mi := (x, code, maxLocals, ret, 4, 59)
theorem pl_law : plainFor (mN M_law) = true := plainFor_of_name (by first | (simp [plainName, overriddenIn, x]; done) | decide +kernel)
def c2 : List (Nat × Instr × Nat) := [(0, .iconst 0, 1), (1, .istore_n 1, 1), (2, .iload_n 1, 1), (3, .sipush 4096, 3), (6, .if_icmp .ge 16, 3), (9, .aload_n 0, 1), (10, .getfield 31, 3), (13, .iload_n 1, 1), (14, .iconst 0, 1), (15, .iastore, 1), (16, .iinc 1 1, 3), (19, .goto (-17), 3), (22, .return_, 1)]
theorem D2 : decs prog_1_method_21_code c2 = true := by decide +kernel
theorem d2 (k : Nat) {p : Nat} {i : Instr} {n : Nat} (h : c2[k]? = some (p, i, n)) : decode prog_1_method_21_code p = .ok (i, n) := dget D2 h
def c0 : List (Nat × Instr × Nat) := [(0, .aload_n 0, 1), (1, .invokespecial 1, 3), (4, .aload_n 0, 1), (5, .bipush 9, 2), (7, .newarray .int, 2), (9, .putfield 7, 3), (12, .aload_n 0, 1), (13, .bipush 16, 2), (15, .newarray .int, 2), (17, .putfield 13, 3), (20, .aload_n 0, 1), (21, .iconst 5, 1), (22, .newarray .int, 2), (24, .putfield 16, 3), (27, .aload_n 0, 1), (28, .iconst 5, 1), (29, .newarray .int, 2), (31, .putfield 19, 3), (34, .aload_n 0, 1), (35, .iconst 5, 1), (36, .newarray .int, 2), (38, .putfield 22, 3), (41, .aload_n 0, 1), (42, .sipush 2048, 3), (45, .newarray .int, 2), (47, .putfield 25, 3), (50, .aload_n 0, 1), (51, .sipush 8192, 3), (54, .newarray .int, 2), (56, .putfield 28, 3), (59, .aload_n 0, 1), (60, .sipush 4096, 3), (63, .newarray .int, 2), (65, .putfield 31, 3), (68, .aload_n 0, 1), (69, .sipush 2048, 3), (72, .newarray .boolean, 2), (74, .putfield 34, 3), (77, .aload_n 0, 1), (78, .sipush 2048, 3), (81, .newarray .int, 2), (83, .putfield 38, 3), (86, .aload_n 0, 1), (87, .sipush 2048, 3), (90, .newarray .int, 2), (92, .putfield 41, 3), (95, .aload_n 0, 1), (96, .sipush 1024, 3), (99, .newarray .int, 2), (101, .putfield 44, 3), (104, .aload_n 0, 1), (105, .bipush 64, 2), (107, .newarray .boolean, 2), (109, .putfield 47, 3), (112, .aload_n 0, 1), (113, .sipush 1024, 3), (116, .newarray .int, 2), (118, .putfield 50, 3), (121, .aload_n 0, 1), (122, .sipush 1024, 3), (125, .newarray .int, 2), (127, .putfield 53, 3), (130, .aload_n 0, 1), (131, .sipush 1024, 3), (134, .newarray .int, 2), (136, .putfield 56, 3), (139, .aload_n 0, 1), (140, .sipush 1024, 3), (143, .newarray .boolean, 2), (145, .putfield 59, 3), (148, .aload_n 0, 1), (149, .bipush 64, 2), (151, .newarray .int, 2), (153, .putfield 62, 3), (156, .aload_n 0, 1), (157, .bipush 64, 2), (159, .newarray .int, 2), (161, .putfield 65, 3), (164, .aload_n 0, 1), (165, .bipush 64, 2), (167, .newarray .int, 2), (169, .putfield 68, 3), (172, .aload_n 0, 1), (173, .iload_n 1, 1), (174, .iconst 1, 1), (175, .if_icmp .ge 7, 3), (178, .iconst 1, 1), (179, .goto 13, 3), (182, .iload_n 1, 1), (183, .iconst 5, 1), (184, .if_icmp .le 7, 3), (187, .iconst 5, 1), (188, .goto 4, 3), (191, .iload_n 1, 1), (192, .putfield 71, 3), (195, .aload_n 0, 1), (196, .iload_n 2, 1), (197, .iconst 2, 1), (198, .if_icmp .ge 7, 3), (201, .iconst 2, 1), (202, .goto 13, 3), (205, .iload_n 2, 1), (206, .iconst 4, 1), (207, .if_icmp .le 7, 3), (210, .iconst 4, 1), (211, .goto 4, 3), (214, .iload_n 2, 1), (215, .putfield 75, 3), (218, .aload_n 0, 1), (219, .getfield 25, 3), (222, .iconst 0, 1), (223, .aload_n 0, 1), (224, .getfield 71, 3), (227, .iastore, 1), (228, .aload_n 0, 1), (229, .getfield 25, 3), (232, .iconst 1, 1), (233, .aload_n 0, 1), (234, .getfield 71, 3), (237, .iastore, 1), (238, .aload_n 0, 1), (239, .iconst 2, 1), (240, .putfield 78, 3), (243, .aload_n 0, 1), (244, .invokevirtual 81, 3), (247, .aload_n 0, 1), (248, .iconst 0, 1), (249, .putfield 84, 3), (252, .aload_n 0, 1), (253, .getfield 7, 3), (256, .iconst 0, 1), (257, .iconst 1, 1), (258, .iastore, 1), (259, .aload_n 0, 1), (260, .iconst 0, 1), (261, .putfield 87, 3), (264, .iconst 0, 1), (265, .istore_n 3, 1), (266, .iload_n 3, 1), (267, .iconst 5, 1), (268, .if_icmp .ge 16, 3), (271, .aload_n 0, 1), (272, .getfield 16, 3), (275, .iload_n 3, 1), (276, .iconst (-1), 1), (277, .iastore, 1), (278, .iinc 3 1, 3), (281, .goto (-15), 3), (284, .return_, 1)]
theorem D0 : decs prog_1_method_1_code c0 = true := by decide +kernel
theorem d0 (k : Nat) {p : Nat} {i : Instr} {n : Nat} (h : c0[k]? = some (p, i, n)) : decode prog_1_method_1_code p = .ok (i, n) := dget D0 h
def c4 : List (Nat × Instr × Nat) := [(0, .iload_n 1, 1), (1, .ifCond .lt 15, 3), (4, .iload_n 1, 1), (5, .aload_n 0, 1), (6, .getfield 71, 3), (9, .if_icmp .ge 7, 3), (12, .iconst 1, 1), (13, .goto 4, 3), (16, .iconst 0, 1), (17, .ireturn, 1)]
theorem D4 : decs prog_1_method_18_code c4 = true := by decide +kernel
theorem d4 (k : Nat) {p : Nat} {i : Instr} {n : Nat} (h : c4[k]? = some (p, i, n)) : decode prog_1_method_18_code p = .ok (i, n) := dget D4 h
def c12 : List (Nat × Instr × Nat) := [(0, .iload_n 1, 1), (1, .ifCond .lt 15, 3), (4, .iload_n 1, 1), (5, .aload_n 0, 1), (6, .getfield 75, 3), (9, .if_icmp .ge 7, 3), (12, .iconst 1, 1), (13, .goto 4, 3), (16, .iconst 0, 1), (17, .ireturn, 1)]
theorem D12 : decs prog_1_method_19_code c12 = true := by decide +kernel
theorem d12 (k : Nat) {p : Nat} {i : Instr} {n : Nat} (h : c12[k]? = some (p, i, n)) : decode prog_1_method_19_code p = .ok (i, n) := dget D12 h
def c7 : List (Nat × Instr × Nat) := [(0, .iconst 0, 1), (1, .istore_n 1, 1), (2, .iload_n 1, 1), (3, .iconst 5, 1), (4, .if_icmp .ge 21, 3), (7, .aload_n 0, 1), (8, .getfield 19, 3), (11, .iload_n 1, 1), (12, .aload_n 0, 1), (13, .getfield 16, 3), (16, .iload_n 1, 1), (17, .iaload, 1), (18, .iastore, 1), (19, .iinc 1 1, 3), (22, .goto (-20), 3), (25, .return_, 1)]
theorem D7 : decs prog_1_method_46_code c7 = true := by decide +kernel
theorem d7 (k : Nat) {p : Nat} {i : Instr} {n : Nat} (h : c7[k]? = some (p, i, n)) : decode prog_1_method_46_code p = .ok (i, n) := dget D7 h
def c9 : List (Nat × Instr × Nat) := [(0, .iconst 1, 1), (1, .istore_n 3, 1), (2, .iload_n 1, 1), (3, .istore 4, 2), (5, .iload 4, 2), (7, .iload_n 2, 1), (8, .if_icmp .ge 32, 3), (11, .iload 4, 2), (13, .iconst 5, 1), (14, .if_icmp .ge 26, 3), (17, .aload_n 0, 1), (18, .getfield 19, 3), (21, .iload 4, 2), (23, .iaload, 1), (24, .ifCond .ge 10, 3), (27, .iload_n 3, 1), (28, .aload_n 0, 1), (29, .getfield 75, 3), (32, .imul, 1), (33, .istore_n 3, 1), (34, .iinc 4 1, 3), (37, .goto (-32), 3), (40, .iload_n 3, 1), (41, .ireturn, 1)]
theorem D9 : decs prog_1_method_47_code c9 = true := by decide +kernel
theorem d9 (k : Nat) {p : Nat} {i : Instr} {n : Nat} (h : c9[k]? = some (p, i, n)) : decode prog_1_method_47_code p = .ok (i, n) := dget D9 h
def c8 : List (Nat × Instr × Nat) := [(0, .aload_n 0, 1), (1, .getfield 7, 3), (4, .aload_n 0, 1), (5, .getfield 84, 3), (8, .iaload, 1), (9, .istore_n 1, 1), (10, .aload_n 0, 1), (11, .getfield 41, 3), (14, .iconst 0, 1), (15, .iconst 0, 1), (16, .iastore, 1), (17, .aload_n 0, 1), (18, .getfield 41, 3), (21, .iconst 1, 1), (22, .iconst 1, 1), (23, .iastore, 1), (24, .iconst 2, 1), (25, .istore_n 2, 1), (26, .iload_n 2, 1), (27, .iload_n 1, 1), (28, .if_icmp .gt 27, 3), (31, .iload_n 2, 1), (32, .sipush 2048, 3), (35, .if_icmp .ge 20, 3), (38, .aload_n 0, 1), (39, .getfield 41, 3), (42, .iload_n 2, 1), (43, .aload_n 0, 1), (44, .iload_n 2, 1), (45, .invokevirtual 214, 3), (48, .iastore, 1), (49, .iinc 2 1, 3), (52, .goto (-26), 3), (55, .aload_n 0, 1), (56, .iconst 0, 1), (57, .aload_n 0, 1), (58, .getfield 25, 3), (61, .iload_n 1, 1), (62, .iaload, 1), (63, .invokevirtual 217, 3), (66, .istore_n 2, 1), (67, .aload_n 0, 1), (68, .getfield 41, 3), (71, .iload_n 1, 1), (72, .iaload, 1), (73, .iload_n 2, 1), (74, .imul, 1), (75, .ireturn, 1)]
theorem D8 : decs prog_1_method_48_code c8 = true := by decide +kernel
theorem d8 (k : Nat) {p : Nat} {i : Instr} {n : Nat} (h : c8[k]? = some (p, i, n)) : decode prog_1_method_48_code p = .ok (i, n) := dget D8 h
def c13 : List (Nat × Instr × Nat) := [(0, .aload_n 0, 1), (1, .iload_n 1, 1), (2, .invokevirtual 91, 3), (5, .ifCond .ne 5, 3), (8, .iconst (-1), 1), (9, .ireturn, 1), (10, .aload_n 0, 1), (11, .iload_n 2, 1), (12, .invokevirtual 110, 3), (15, .ifCond .ne 6, 3), (18, .bipush (-2), 2), (20, .ireturn, 1), (21, .aload_n 0, 1), (22, .invokevirtual 127, 3), (25, .aload_n 0, 1), (26, .getfield 19, 3), (29, .iload_n 1, 1), (30, .iload_n 2, 1), (31, .iastore, 1), (32, .aload_n 0, 1), (33, .invokevirtual 130, 3), (36, .ireturn, 1)]
theorem D13 : decs prog_1_method_15_code c13 = true := by decide +kernel
theorem d13 (k : Nat) {p : Nat} {i : Instr} {n : Nat} (h : c13[k]? = some (p, i, n)) : decode prog_1_method_15_code p = .ok (i, n) := dget D13 h
def c3 : List (Nat × Instr × Nat) := [(0, .aload_n 0, 1), (1, .iload_n 1, 1), (2, .invokevirtual 91, 3), (5, .ifCond .ne 5, 3), (8, .iconst (-1), 1), (9, .ireturn, 1), (10, .aload_n 0, 1), (11, .iload_n 2, 1), (12, .invokevirtual 110, 3), (15, .ifCond .ne 6, 3), (18, .bipush (-2), 2), (20, .ireturn, 1), (21, .aload_n 0, 1), (22, .getfield 16, 3), (25, .iload_n 1, 1), (26, .iaload, 1), (27, .ifCond .lt 6, 3), (30, .bipush (-8), 2), (32, .ireturn, 1), (33, .aload_n 0, 1), (34, .iload_n 1, 1), (35, .iload_n 2, 1), (36, .invokevirtual 124, 3), (39, .ifCond .ne 6, 3), (42, .bipush (-7), 2), (44, .ireturn, 1), (45, .aload_n 0, 1), (46, .getfield 16, 3), (49, .iload_n 1, 1), (50, .iload_n 2, 1), (51, .iastore, 1), (52, .iconst 0, 1), (53, .ireturn, 1)]
theorem D3 : decs prog_1_method_9_code c3 = true := by decide +kernel
theorem d3 (k : Nat) {p : Nat} {i : Instr} {n : Nat} (h : c3[k]? = some (p, i, n)) : decode prog_1_method_9_code p = .ok (i, n) := dget D3 h
def c5 : List (Nat × Instr × Nat) := [(0, .aload_n 0, 1), (1, .iload_n 1, 1), (2, .invokevirtual 91, 3), (5, .ifCond .ne 5, 3), (8, .iconst (-1), 1), (9, .ireturn, 1), (10, .aload_n 0, 1), (11, .getfield 16, 3), (14, .iload_n 1, 1), (15, .iaload, 1), (16, .ireturn, 1)]
theorem D5 : decs prog_1_method_12_code c5 = true := by decide +kernel
theorem d5 (k : Nat) {p : Nat} {i : Instr} {n : Nat} (h : c5[k]? = some (p, i, n)) : decode prog_1_method_12_code p = .ok (i, n) := dget D5 h
def c6 : List (Nat × Instr × Nat) := [(0, .aload_n 0, 1), (1, .invokevirtual 127, 3), (4, .aload_n 0, 1), (5, .invokevirtual 130, 3), (8, .ireturn, 1)]
theorem D6 : decs prog_1_method_14_code c6 = true := by decide +kernel
theorem d6 (k : Nat) {p : Nat} {i : Instr} {n : Nat} (h : c6[k]? = some (p, i, n)) : decode prog_1_method_14_code p = .ok (i, n) := dget D6 h
def c10 : List (Nat × Instr × Nat) := [(0, .aload_n 0, 1), (1, .iload_n 1, 1), (2, .invokevirtual 91, 3), (5, .ifCond .ne 5, 3), (8, .iconst (-1), 1), (9, .ireturn, 1), (10, .iconst 0, 1), (11, .istore_n 2, 1), (12, .iconst 0, 1), (13, .istore_n 3, 1), (14, .iload_n 3, 1), (15, .aload_n 0, 1), (16, .getfield 75, 3), (19, .if_icmp .ge 24, 3), (22, .aload_n 0, 1), (23, .iload_n 1, 1), (24, .iload_n 3, 1), (25, .invokevirtual 124, 3), (28, .ifCond .le 9, 3), (31, .iload_n 2, 1), (32, .iconst 1, 1), (33, .iload_n 3, 1), (34, .ishl, 1), (35, .ior, 1), (36, .istore_n 2, 1), (37, .iinc 3 1, 3), (40, .goto (-26), 3), (43, .iload_n 2, 1), (44, .ireturn, 1)]
theorem D10 : decs prog_1_method_13_code c10 = true := by decide +kernel
theorem d10 (k : Nat) {p : Nat} {i : Instr} {n : Nat} (h : c10[k]? = some (p, i, n)) : decode prog_1_method_13_code p = .ok (i, n) := dget D10 h
def c11 : List (Nat × Instr × Nat) := [(0, .aload_n 0, 1), (1, .iload_n 1, 1), (2, .invokevirtual 91, 3), (5, .ifCond .ne 5, 3), (8, .iconst (-1), 1), (9, .ireturn, 1), (10, .aload_n 0, 1), (11, .getfield 16, 3), (14, .iload_n 1, 1), (15, .iaload, 1), (16, .ifCond .ge 6, 3), (19, .bipush (-9), 2), (21, .ireturn, 1), (22, .aload_n 0, 1), (23, .getfield 16, 3), (26, .iload_n 1, 1), (27, .iconst (-1), 1), (28, .iastore, 1), (29, .iconst 0, 1), (30, .ireturn, 1)]
theorem D11 : decs prog_1_method_10_code c11 = true := by decide +kernel
theorem d11 (k : Nat) {p : Nat} {i : Instr} {n : Nat} (h : c11[k]? = some (p, i, n)) : decode prog_1_method_10_code p = .ok (i, n) := dget D11 h
def H0 : MHeap := []
def KL (s : St) : MHeap := KH flds al Ln H0 [] s
def f_clearUnique_2 (n : Nat) : Nat → Int32 → St → Option (St)
  | 0 => fun _ _ => none
  | k + 1 => fun x1 s =>
    if x1 < (4096 : Int32) then
      grd (inb x1 4096) <|
      bnd (setA s 7 (ix x1) (0 : Int32)) fun s3 =>
      f_clearUnique_2 n k (x1 + (1 : Int32)) s3
    else
      some s
set_option maxRecDepth 100000 in
theorem e_clearUnique_2 {g : GT} {n : Nat} (hw : HW g) {K : St → MHeap} {o : Nat} {r : Nat → Nat} (V : View (GG g) Ln K o r) (k : Nat) : ∀ (x1 : Int32) (s : St) (w : St), f_clearUnique_2 n k x1 s = some w → Ev (GG g) M_clearUnique 2 [.val (.ref o), .val (.int x1)] [] (K s) (none, (K w)) := by
  induction k with
  | zero => intro x1 s w hr; rw [f_clearUnique_2] at hr; cases hr
  | succ k ih =>
    intro x1 s w hr
    rw [f_clearUnique_2] at hr
    refine Ev.iloadN (d2 2 rfl) rfl ?_
    refine Ev.sipush (z := 4096) (d2 3 rfl) rfl ?_
    refine Ev.icge (t := 22) (d2 4 rfl) rfl (fun c1 => ?_) (fun c1 => ?_)
    · replace hr := (if_pos c1).symm.trans hr
      refine Ev.aloadN (d2 5 rfl) rfl ?_
      refine Ev.gAr V (ww hw 24 rfl) (d2 6 rfl) (j := 7) rfl ?_
      refine Ev.iloadN (d2 7 rfl) rfl ?_
      refine Ev.iconst (z := 0) (d2 8 rfl) rfl ?_
      obtain ⟨b2, hr⟩ := grd_some hr
      refine Ev.ias V (j := 7) rfl rfl (d2 9 rfl) b2 ?_
      revert hr
      generalize setA s 7 (ix x1) (0 : Int32) = s3
      intro hr
      replace hr := (bnd_eq _ _).symm.trans hr
      refine Ev.iinc (z := 1) (L' := [.val (.ref o), .val (.int (x1 + (1 : Int32)))]) (d2 10 rfl) rfl rfl rfl ?_
      refine Ev.goto (t := 2) (d2 11 rfl) rfl ?_
      exact ih (x1 + (1 : Int32)) s3  _ hr
    · replace hr := (if_neg c1).symm.trans hr
      cases hr
      exact Ev.vreturn rfl (d2 12 rfl)
def f_clearUnique (n : Nat) (s : St) : Option (St) :=
  f_clearUnique_2 n n (0 : Int32) s
set_option maxRecDepth 100000 in
theorem e_clearUnique {g : GT} {n : Nat} {s : St} {w : St} (hw : HW g) {K : St → MHeap} {o : Nat} {r : Nat → Nat} (V : View (GG g) Ln K o r) (hr : f_clearUnique n s = some w) : EvC (GG g) M_clearUnique [.ref o] (K s) (none, (K w)) := by
  refine EvC.enter (L0 := [.val (.ref o), .unset]) pl_clearUnique (fun _ => rfl) rfl rfl ?_
  unfold f_clearUnique at hr
  refine Ev.iconst (z := 0) (d2 0 rfl) rfl ?_
  refine Ev.istDN (L' := [.val (.ref o), .val (.int (0 : Int32))]) (d2 1 rfl) rfl rfl rfl ?_
  exact e_clearUnique_2 hw V  n (0 : Int32) s  _ hr
def f_ctor_266 (n : Nat) : Nat → Int32 → St → Option (St)
  | 0 => fun _ _ => none
  | k + 1 => fun x3 s =>
    if x3 < (5 : Int32) then
      grd (inb x3 5) <|
      bnd (setA s 2 (ix x3) (-1 : Int32)) fun s3 =>
      f_ctor_266 n k (x3 + (1 : Int32)) s3
    else
      some s
set_option maxRecDepth 100000 in
theorem e_ctor_266 {g : GT} {n : Nat} (hw : HW g) {K : St → MHeap} {o : Nat} {r : Nat → Nat} (V : View (GG g) Ln K o r) (k : Nat) : ∀ (x3 : Int32) (s : St) (y1 : Slot) (hy1 : one1 y1 = true) (y2 : Slot) (hy2 : one1 y2 = true) (w : St), f_ctor_266 n k x3 s = some w → Ev (GG g) M_ctor 266 [.val (.ref o), y1, y2, .val (.int x3)] [] (K s) (none, (K w)) := by
  induction k with
  | zero => intro x3 s y1 hy1 y2 hy2 w hr; rw [f_ctor_266] at hr; cases hr
  | succ k ih =>
    intro x3 s y1 hy1 y2 hy2 w hr
    rw [f_ctor_266] at hr
    refine Ev.iloadN (d0 138 rfl) rfl ?_
    refine Ev.iconst (z := 5) (d0 139 rfl) rfl ?_
    refine Ev.icge (t := 284) (d0 140 rfl) rfl (fun c1 => ?_) (fun c1 => ?_)
    · replace hr := (if_pos c1).symm.trans hr
      refine Ev.aloadN (d0 141 rfl) rfl ?_
      refine Ev.gAr V (ww hw 14 rfl) (d0 142 rfl) (j := 2) rfl ?_
      refine Ev.iloadN (d0 143 rfl) rfl ?_
      refine Ev.iconst (z := -1) (d0 144 rfl) rfl ?_
      obtain ⟨b2, hr⟩ := grd_some hr
      refine Ev.ias V (j := 2) rfl rfl (d0 145 rfl) b2 ?_
      revert hr
      generalize setA s 2 (ix x3) (-1 : Int32) = s3
      intro hr
      replace hr := (bnd_eq _ _).symm.trans hr
      refine Ev.iinc (z := 1) (L' := [.val (.ref o), y1, y2, .val (.int (x3 + (1 : Int32)))]) (d0 146 rfl) rfl rfl rfl ?_
      refine Ev.goto (t := 266) (d0 147 rfl) rfl ?_
      exact ih (x3 + (1 : Int32)) s3 y1 hy1 y2 hy2 _ hr
    · replace hr := (if_neg c1).symm.trans hr
      cases hr
      exact Ev.vreturn rfl (d0 148 rfl)
def f_ctor_215 (n : Nat) (z0 : Int32) (s : St) : Option (St) :=
  bnd (setI s 21 z0) fun s1 =>
  bnd (setA s1 5 (ix (0 : Int32)) (s1.1 20)) fun s2 =>
  bnd (setA s2 5 (ix (1 : Int32)) (s2.1 20)) fun s3 =>
  bnd (setI s3 22 (2 : Int32)) fun s4 =>
  (f_clearUnique n s4).bind fun q5 =>
  bnd (setI q5 23 (0 : Int32)) fun s7 =>
  bnd (setA s7 0 (ix (0 : Int32)) (1 : Int32)) fun s8 =>
  bnd (setI s8 24 ((0 : Int32) &&& 1)) fun s9 =>
  f_ctor_266 n n (0 : Int32) s9
set_option maxRecDepth 100000 in
theorem e_ctor_215 {g : GT} {n : Nat} (hw : HW g) {K : St → MHeap} {o : Nat} {r : Nat → Nat} (V : View (GG g) Ln K o r) (z0 : Int32) (s : St) (y1 : Slot) (hy1 : one1 y1 = true) (y2 : Slot) (hy2 : one1 y2 = true) (y3 : Slot) (hy3 : one1 y3 = true) (w : St) (hr : f_ctor_215 n z0 s = some w) : Ev (GG g) M_ctor 215 [.val (.ref o), y1, y2, y3] [.int z0, .ref o] (K s) (none, (K w)) := by
  unfold f_ctor_215 at hr
  refine Ev.pI V (gok hw) (ww hw 53 rfl) (Or.inl (ww hw 54 rfl)) (d0 107 rfl) (j := 21) rfl ?_
  revert hr
  generalize setI s 21 z0 = s1
  intro hr
  replace hr := (bnd_eq _ _).symm.trans hr
  refine Ev.aloadN (d0 108 rfl) rfl ?_
  refine Ev.gAr V (ww hw 20 rfl) (d0 109 rfl) (j := 5) rfl ?_
  refine Ev.iconst (z := 0) (d0 110 rfl) rfl ?_
  refine Ev.aloadN (d0 111 rfl) rfl ?_
  refine Ev.gI V (ww hw 51 rfl) (d0 112 rfl) (j := 20) rfl rfl ?_
  refine Ev.ias V (j := 5) rfl rfl (d0 113 rfl) ⟨by decide, by decide⟩ ?_
  revert hr
  generalize setA s1 5 (ix (0 : Int32)) (s1.1 20) = s2
  intro hr
  replace hr := (bnd_eq _ _).symm.trans hr
  refine Ev.aloadN (d0 114 rfl) rfl ?_
  refine Ev.gAr V (ww hw 20 rfl) (d0 115 rfl) (j := 5) rfl ?_
  refine Ev.iconst (z := 1) (d0 116 rfl) rfl ?_
  refine Ev.aloadN (d0 117 rfl) rfl ?_
  refine Ev.gI V (ww hw 51 rfl) (d0 118 rfl) (j := 20) rfl rfl ?_
  refine Ev.ias V (j := 5) rfl rfl (d0 119 rfl) ⟨by decide, by decide⟩ ?_
  revert hr
  generalize setA s2 5 (ix (1 : Int32)) (s2.1 20) = s3
  intro hr
  replace hr := (bnd_eq _ _).symm.trans hr
  refine Ev.aloadN (d0 120 rfl) rfl ?_
  refine Ev.iconst (z := 2) (d0 121 rfl) rfl ?_
  refine Ev.pI V (gok hw) (ww hw 55 rfl) (Or.inl (ww hw 56 rfl)) (d0 122 rfl) (j := 22) rfl ?_
  revert hr
  generalize setI s3 22 (2 : Int32) = s4
  intro hr
  replace hr := (bnd_eq _ _).symm.trans hr
  refine Ev.aloadN (d0 123 rfl) rfl ?_
  obtain ⟨q5, hq6, hr⟩ := Option.bind_eq_some_iff.mp hr
  refine Ev.priv (y := M_clearUnique) (args := []) (rest := []) (gok hw) rfl nm_clearUnique (ww hw 57 rfl) (ww hw 58 rfl) (ww hw 59 rfl) (ww hw 60 rfl) (lenOf pd_clearUnique rfl) (d0 124 rfl) (V.2.1 s4) (e_clearUnique hw V hq6) (by decide) (Nat.le_of_ble_eq_true rfl) rfl ?_
  refine Ev.aloadN (d0 125 rfl) rfl ?_
  refine Ev.iconst (z := 0) (d0 126 rfl) rfl ?_
  refine Ev.pI V (gok hw) (ww hw 61 rfl) (Or.inl (ww hw 62 rfl)) (d0 127 rfl) (j := 23) rfl ?_
  revert hr
  generalize setI q5 23 (0 : Int32) = s7
  intro hr
  replace hr := (bnd_eq _ _).symm.trans hr
  refine Ev.aloadN (d0 128 rfl) rfl ?_
  refine Ev.gAr V (ww hw 10 rfl) (d0 129 rfl) (j := 0) rfl ?_
  refine Ev.iconst (z := 0) (d0 130 rfl) rfl ?_
  refine Ev.iconst (z := 1) (d0 131 rfl) rfl ?_
  refine Ev.ias V (j := 0) rfl rfl (d0 132 rfl) ⟨by decide, by decide⟩ ?_
  revert hr
  generalize setA s7 0 (ix (0 : Int32)) (1 : Int32) = s8
  intro hr
  replace hr := (bnd_eq _ _).symm.trans hr
  refine Ev.aloadN (d0 133 rfl) rfl ?_
  refine Ev.iconst (z := 0) (d0 134 rfl) rfl ?_
  refine Ev.pZ V (gok hw) (ww hw 63 rfl) (Or.inl (ww hw 64 rfl)) (d0 135 rfl) (j := 24) rfl ?_
  revert hr
  generalize setI s8 24 ((0 : Int32) &&& 1) = s9
  intro hr
  replace hr := (bnd_eq _ _).symm.trans hr
  refine Ev.iconst (z := 0) (d0 136 rfl) rfl ?_
  refine Ev.istDN (L' := [.val (.ref o), y1, y2, .val (.int (0 : Int32))]) (d0 137 rfl) rfl hy3 rfl ?_
  exact e_ctor_266 hw V  n (0 : Int32) s9 y1 hy1 y2 hy2 _ hr
def f_ctor_192 (n : Nat) (x2 : Int32) (z0 : Int32) (s : St) : Option (St) :=
  bnd (setI s 20 z0) fun s1 =>
  if x2 < (2 : Int32) then
    f_ctor_215 n (2 : Int32) s1
  else
    if (4 : Int32) < x2 then
      f_ctor_215 n (4 : Int32) s1
    else
      f_ctor_215 n x2 s1
set_option maxRecDepth 100000 in
theorem e_ctor_192 {g : GT} {n : Nat} (hw : HW g) {K : St → MHeap} {o : Nat} {r : Nat → Nat} (V : View (GG g) Ln K o r) (x2 : Int32) (z0 : Int32) (s : St) (y1 : Slot) (hy1 : one1 y1 = true) (y3 : Slot) (hy3 : one1 y3 = true) (w : St) (hr : f_ctor_192 n x2 z0 s = some w) : Ev (GG g) M_ctor 192 [.val (.ref o), y1, .val (.int x2), y3] [.int z0, .ref o] (K s) (none, (K w)) := by
  unfold f_ctor_192 at hr
  refine Ev.pI V (gok hw) (ww hw 51 rfl) (Or.inl (ww hw 52 rfl)) (d0 94 rfl) (j := 20) rfl ?_
  revert hr
  generalize setI s 20 z0 = s1
  intro hr
  replace hr := (bnd_eq _ _).symm.trans hr
  refine Ev.aloadN (d0 95 rfl) rfl ?_
  refine Ev.iloadN (d0 96 rfl) rfl ?_
  refine Ev.iconst (z := 2) (d0 97 rfl) rfl ?_
  refine Ev.icge (t := 205) (d0 98 rfl) rfl (fun c2 => ?_) (fun c2 => ?_)
  · replace hr := (if_pos c2).symm.trans hr
    refine Ev.iconst (z := 2) (d0 99 rfl) rfl ?_
    refine Ev.goto (t := 215) (d0 100 rfl) rfl ?_
    exact e_ctor_215 hw V  (2 : Int32) s1 y1 hy1 (.val (.int x2)) rfl y3 hy3 _ hr
  · replace hr := (if_neg c2).symm.trans hr
    refine Ev.iloadN (d0 101 rfl) rfl ?_
    refine Ev.iconst (z := 4) (d0 102 rfl) rfl ?_
    refine Ev.icle (t := 214) (d0 103 rfl) rfl (fun c3 => ?_) (fun c3 => ?_)
    · replace hr := (if_pos c3).symm.trans hr
      refine Ev.iconst (z := 4) (d0 104 rfl) rfl ?_
      refine Ev.goto (t := 215) (d0 105 rfl) rfl ?_
      exact e_ctor_215 hw V  (4 : Int32) s1 y1 hy1 (.val (.int x2)) rfl y3 hy3 _ hr
    · replace hr := (if_neg c3).symm.trans hr
      refine Ev.iloadN (d0 106 rfl) rfl ?_
      exact e_ctor_215 hw V  x2 s1 y1 hy1 (.val (.int x2)) rfl y3 hy3 _ hr
def f_ctor_172 (n : Nat) (x1 : Int32) (x2 : Int32) (s : St) : Option (St) :=
  if x1 < (1 : Int32) then
    f_ctor_192 n x2 (1 : Int32) s
  else
    if (5 : Int32) < x1 then
      f_ctor_192 n x2 (5 : Int32) s
    else
      f_ctor_192 n x2 x1 s
set_option maxRecDepth 100000 in
theorem e_ctor_172 {g : GT} {n : Nat} (hw : HW g) {K : St → MHeap} {o : Nat} {r : Nat → Nat} (V : View (GG g) Ln K o r) (x1 : Int32) (x2 : Int32) (s : St) (y3 : Slot) (hy3 : one1 y3 = true) (w : St) (hr : f_ctor_172 n x1 x2 s = some w) : Ev (GG g) M_ctor 172 [.val (.ref o), .val (.int x1), .val (.int x2), y3] [] (K s) (none, (K w)) := by
  unfold f_ctor_172 at hr
  refine Ev.aloadN (d0 82 rfl) rfl ?_
  refine Ev.iloadN (d0 83 rfl) rfl ?_
  refine Ev.iconst (z := 1) (d0 84 rfl) rfl ?_
  refine Ev.icge (t := 182) (d0 85 rfl) rfl (fun c1 => ?_) (fun c1 => ?_)
  · replace hr := (if_pos c1).symm.trans hr
    refine Ev.iconst (z := 1) (d0 86 rfl) rfl ?_
    refine Ev.goto (t := 192) (d0 87 rfl) rfl ?_
    exact e_ctor_192 hw V  x2 (1 : Int32) s (.val (.int x1)) rfl y3 hy3 _ hr
  · replace hr := (if_neg c1).symm.trans hr
    refine Ev.iloadN (d0 88 rfl) rfl ?_
    refine Ev.iconst (z := 5) (d0 89 rfl) rfl ?_
    refine Ev.icle (t := 191) (d0 90 rfl) rfl (fun c2 => ?_) (fun c2 => ?_)
    · replace hr := (if_pos c2).symm.trans hr
      refine Ev.iconst (z := 5) (d0 91 rfl) rfl ?_
      refine Ev.goto (t := 192) (d0 92 rfl) rfl ?_
      exact e_ctor_192 hw V  x2 (5 : Int32) s (.val (.int x1)) rfl y3 hy3 _ hr
    · replace hr := (if_neg c2).symm.trans hr
      refine Ev.iloadN (d0 93 rfl) rfl ?_
      exact e_ctor_192 hw V  x2 x1 s (.val (.int x1)) rfl y3 hy3 _ hr
def f_ctor (n : Nat) (a0 : Int32) (a1 : Int32) : Option (St) :=
  f_ctor_172 n a0 a1 zeroS
set_option maxRecDepth 100000 in
theorem e_ctor {g : GT} {n : Nat} {a0 : Int32} {a1 : Int32} {w : St} (hw : HW g) {pre : MHeap} (hk : k0 (GG g) ≤ pre.length) (hr : f_ctor n a0 a1 = some w) : EvC (GG g) M_ctor [.ref pre.length, .int a0, .int a1] (pre ++ [.inl dfl]) (none, KH flds al Ln pre [] w) := by
  refine EvC.enter (L0 := [.val (.ref pre.length), .val (.int a0), .val (.int a1), .unset]) pl_ctor (fun _ => rfl) rfl rfl ?_
  unfold f_ctor at hr
  refine Ev.aloadN (d0 0 rfl) rfl ?_
  refine Ev.initO (ww hw 6 rfl) (ww hw 7 rfl) (ww hw 8 rfl) (d0 1 rfl) (by decide) (Nat.le_of_ble_eq_true rfl) ?_
  show Ev (GG g) M_ctor 4 _ _ (cons pre dfl []) _
  refine Ev.aloadN (d0 2 rfl) rfl ?_
  refine Ev.bipush (z := 9) (d0 3 rfl) rfl ?_
  refine Ev.cnew (aty := .int) (b := false) (k := 9) (q := 0) (as' := [(false, tab 9 (fun _ => 0))]) (ww hw 9 rfl) rfl (d0 4 rfl) (by decide) rfl (by decide) rfl rfl ?_
  refine Ev.cput (v' := .ref (pre.length + 1 + 0)) (fs' := [.ref (pre.length + 1 + 0), .null, .null, .null, .null, .null, .null, .null, .null, .null, .null, .null, .null, .null, .null, .null, .null, .null, .null, .null, .int 0, .int 0, .int 0, .int 0, .int 0]) (gok hw) hk (ww hw 10 rfl) (Or.inl (ww hw 11 rfl)) (d0 5 rfl) (j := 0) rfl rfl rfl ?_
  refine Ev.aloadN (d0 6 rfl) rfl ?_
  refine Ev.bipush (z := 16) (d0 7 rfl) rfl ?_
  refine Ev.cnew (aty := .int) (b := false) (k := 16) (q := 1) (as' := [(false, tab 9 (fun _ => 0)), (false, tab 16 (fun _ => 0))]) (ww hw 9 rfl) rfl (d0 8 rfl) (by decide) rfl (by decide) rfl rfl ?_
  refine Ev.cput (v' := .ref (pre.length + 1 + 1)) (fs' := [.ref (pre.length + 1 + 0), .ref (pre.length + 1 + 1), .null, .null, .null, .null, .null, .null, .null, .null, .null, .null, .null, .null, .null, .null, .null, .null, .null, .null, .int 0, .int 0, .int 0, .int 0, .int 0]) (gok hw) hk (ww hw 12 rfl) (Or.inl (ww hw 13 rfl)) (d0 9 rfl) (j := 1) rfl rfl rfl ?_
  refine Ev.aloadN (d0 10 rfl) rfl ?_
  refine Ev.iconst (z := 5) (d0 11 rfl) rfl ?_
  refine Ev.cnew (aty := .int) (b := false) (k := 5) (q := 2) (as' := [(false, tab 9 (fun _ => 0)), (false, tab 16 (fun _ => 0)), (false, tab 5 (fun _ => 0))]) (ww hw 9 rfl) rfl (d0 12 rfl) (by decide) rfl (by decide) rfl rfl ?_
  refine Ev.cput (v' := .ref (pre.length + 1 + 2)) (fs' := [.ref (pre.length + 1 + 0), .ref (pre.length + 1 + 1), .ref (pre.length + 1 + 2), .null, .null, .null, .null, .null, .null, .null, .null, .null, .null, .null, .null, .null, .null, .null, .null, .null, .int 0, .int 0, .int 0, .int 0, .int 0]) (gok hw) hk (ww hw 14 rfl) (Or.inl (ww hw 15 rfl)) (d0 13 rfl) (j := 2) rfl rfl rfl ?_
  refine Ev.aloadN (d0 14 rfl) rfl ?_
  refine Ev.iconst (z := 5) (d0 15 rfl) rfl ?_
  refine Ev.cnew (aty := .int) (b := false) (k := 5) (q := 3) (as' := [(false, tab 9 (fun _ => 0)), (false, tab 16 (fun _ => 0)), (false, tab 5 (fun _ => 0)), (false, tab 5 (fun _ => 0))]) (ww hw 9 rfl) rfl (d0 16 rfl) (by decide) rfl (by decide) rfl rfl ?_
  refine Ev.cput (v' := .ref (pre.length + 1 + 3)) (fs' := [.ref (pre.length + 1 + 0), .ref (pre.length + 1 + 1), .ref (pre.length + 1 + 2), .ref (pre.length + 1 + 3), .null, .null, .null, .null, .null, .null, .null, .null, .null, .null, .null, .null, .null, .null, .null, .null, .int 0, .int 0, .int 0, .int 0, .int 0]) (gok hw) hk (ww hw 16 rfl) (Or.inl (ww hw 17 rfl)) (d0 17 rfl) (j := 3) rfl rfl rfl ?_
  refine Ev.aloadN (d0 18 rfl) rfl ?_
  refine Ev.iconst (z := 5) (d0 19 rfl) rfl ?_
  refine Ev.cnew (aty := .int) (b := false) (k := 5) (q := 4) (as' := [(false, tab 9 (fun _ => 0)), (false, tab 16 (fun _ => 0)), (false, tab 5 (fun _ => 0)), (false, tab 5 (fun _ => 0)), (false, tab 5 (fun _ => 0))]) (ww hw 9 rfl) rfl (d0 20 rfl) (by decide) rfl (by decide) rfl rfl ?_
  refine Ev.cput (v' := .ref (pre.length + 1 + 4)) (fs' := [.ref (pre.length + 1 + 0), .ref (pre.length + 1 + 1), .ref (pre.length + 1 + 2), .ref (pre.length + 1 + 3), .ref (pre.length + 1 + 4), .null, .null, .null, .null, .null, .null, .null, .null, .null, .null, .null, .null, .null, .null, .null, .int 0, .int 0, .int 0, .int 0, .int 0]) (gok hw) hk (ww hw 18 rfl) (Or.inl (ww hw 19 rfl)) (d0 21 rfl) (j := 4) rfl rfl rfl ?_
  refine Ev.aloadN (d0 22 rfl) rfl ?_
  refine Ev.sipush (z := 2048) (d0 23 rfl) rfl ?_
  refine Ev.cnew (aty := .int) (b := false) (k := 2048) (q := 5) (as' := [(false, tab 9 (fun _ => 0)), (false, tab 16 (fun _ => 0)), (false, tab 5 (fun _ => 0)), (false, tab 5 (fun _ => 0)), (false, tab 5 (fun _ => 0)), (false, tab 2048 (fun _ => 0))]) (ww hw 9 rfl) rfl (d0 24 rfl) (by decide) rfl (by decide) rfl rfl ?_
  refine Ev.cput (v' := .ref (pre.length + 1 + 5)) (fs' := [.ref (pre.length + 1 + 0), .ref (pre.length + 1 + 1), .ref (pre.length + 1 + 2), .ref (pre.length + 1 + 3), .ref (pre.length + 1 + 4), .ref (pre.length + 1 + 5), .null, .null, .null, .null, .null, .null, .null, .null, .null, .null, .null, .null, .null, .null, .int 0, .int 0, .int 0, .int 0, .int 0]) (gok hw) hk (ww hw 20 rfl) (Or.inl (ww hw 21 rfl)) (d0 25 rfl) (j := 5) rfl rfl rfl ?_
  refine Ev.aloadN (d0 26 rfl) rfl ?_
  refine Ev.sipush (z := 8192) (d0 27 rfl) rfl ?_
  refine Ev.cnew (aty := .int) (b := false) (k := 8192) (q := 6) (as' := [(false, tab 9 (fun _ => 0)), (false, tab 16 (fun _ => 0)), (false, tab 5 (fun _ => 0)), (false, tab 5 (fun _ => 0)), (false, tab 5 (fun _ => 0)), (false, tab 2048 (fun _ => 0)), (false, tab 8192 (fun _ => 0))]) (ww hw 9 rfl) rfl (d0 28 rfl) (by decide) rfl (by decide) rfl rfl ?_
  refine Ev.cput (v' := .ref (pre.length + 1 + 6)) (fs' := [.ref (pre.length + 1 + 0), .ref (pre.length + 1 + 1), .ref (pre.length + 1 + 2), .ref (pre.length + 1 + 3), .ref (pre.length + 1 + 4), .ref (pre.length + 1 + 5), .ref (pre.length + 1 + 6), .null, .null, .null, .null, .null, .null, .null, .null, .null, .null, .null, .null, .null, .int 0, .int 0, .int 0, .int 0, .int 0]) (gok hw) hk (ww hw 22 rfl) (Or.inl (ww hw 23 rfl)) (d0 29 rfl) (j := 6) rfl rfl rfl ?_
  refine Ev.aloadN (d0 30 rfl) rfl ?_
  refine Ev.sipush (z := 4096) (d0 31 rfl) rfl ?_
  refine Ev.cnew (aty := .int) (b := false) (k := 4096) (q := 7) (as' := [(false, tab 9 (fun _ => 0)), (false, tab 16 (fun _ => 0)), (false, tab 5 (fun _ => 0)), (false, tab 5 (fun _ => 0)), (false, tab 5 (fun _ => 0)), (false, tab 2048 (fun _ => 0)), (false, tab 8192 (fun _ => 0)), (false, tab 4096 (fun _ => 0))]) (ww hw 9 rfl) rfl (d0 32 rfl) (by decide) rfl (by decide) rfl rfl ?_
  refine Ev.cput (v' := .ref (pre.length + 1 + 7)) (fs' := [.ref (pre.length + 1 + 0), .ref (pre.length + 1 + 1), .ref (pre.length + 1 + 2), .ref (pre.length + 1 + 3), .ref (pre.length + 1 + 4), .ref (pre.length + 1 + 5), .ref (pre.length + 1 + 6), .ref (pre.length + 1 + 7), .null, .null, .null, .null, .null, .null, .null, .null, .null, .null, .null, .null, .int 0, .int 0, .int 0, .int 0, .int 0]) (gok hw) hk (ww hw 24 rfl) (Or.inl (ww hw 25 rfl)) (d0 33 rfl) (j := 7) rfl rfl rfl ?_
  refine Ev.aloadN (d0 34 rfl) rfl ?_
  refine Ev.sipush (z := 2048) (d0 35 rfl) rfl ?_
  refine Ev.cnew (aty := .boolean) (b := true) (k := 2048) (q := 8) (as' := [(false, tab 9 (fun _ => 0)), (false, tab 16 (fun _ => 0)), (false, tab 5 (fun _ => 0)), (false, tab 5 (fun _ => 0)), (false, tab 5 (fun _ => 0)), (false, tab 2048 (fun _ => 0)), (false, tab 8192 (fun _ => 0)), (false, tab 4096 (fun _ => 0)), (true, tab 2048 (fun _ => 0))]) (ww hw 26 rfl) rfl (d0 36 rfl) (by decide) rfl (by decide) rfl rfl ?_
  refine Ev.cput (v' := .ref (pre.length + 1 + 8)) (fs' := [.ref (pre.length + 1 + 0), .ref (pre.length + 1 + 1), .ref (pre.length + 1 + 2), .ref (pre.length + 1 + 3), .ref (pre.length + 1 + 4), .ref (pre.length + 1 + 5), .ref (pre.length + 1 + 6), .ref (pre.length + 1 + 7), .ref (pre.length + 1 + 8), .null, .null, .null, .null, .null, .null, .null, .null, .null, .null, .null, .int 0, .int 0, .int 0, .int 0, .int 0]) (gok hw) hk (ww hw 27 rfl) (Or.inl (ww hw 28 rfl)) (d0 37 rfl) (j := 8) rfl rfl rfl ?_
  refine Ev.aloadN (d0 38 rfl) rfl ?_
  refine Ev.sipush (z := 2048) (d0 39 rfl) rfl ?_
  refine Ev.cnew (aty := .int) (b := false) (k := 2048) (q := 9) (as' := [(false, tab 9 (fun _ => 0)), (false, tab 16 (fun _ => 0)), (false, tab 5 (fun _ => 0)), (false, tab 5 (fun _ => 0)), (false, tab 5 (fun _ => 0)), (false, tab 2048 (fun _ => 0)), (false, tab 8192 (fun _ => 0)), (false, tab 4096 (fun _ => 0)), (true, tab 2048 (fun _ => 0)), (false, tab 2048 (fun _ => 0))]) (ww hw 9 rfl) rfl (d0 40 rfl) (by decide) rfl (by decide) rfl rfl ?_
  refine Ev.cput (v' := .ref (pre.length + 1 + 9)) (fs' := [.ref (pre.length + 1 + 0), .ref (pre.length + 1 + 1), .ref (pre.length + 1 + 2), .ref (pre.length + 1 + 3), .ref (pre.length + 1 + 4), .ref (pre.length + 1 + 5), .ref (pre.length + 1 + 6), .ref (pre.length + 1 + 7), .ref (pre.length + 1 + 8), .ref (pre.length + 1 + 9), .null, .null, .null, .null, .null, .null, .null, .null, .null, .null, .int 0, .int 0, .int 0, .int 0, .int 0]) (gok hw) hk (ww hw 29 rfl) (Or.inl (ww hw 30 rfl)) (d0 41 rfl) (j := 9) rfl rfl rfl ?_
  refine Ev.aloadN (d0 42 rfl) rfl ?_
  refine Ev.sipush (z := 2048) (d0 43 rfl) rfl ?_
  refine Ev.cnew (aty := .int) (b := false) (k := 2048) (q := 10) (as' := [(false, tab 9 (fun _ => 0)), (false, tab 16 (fun _ => 0)), (false, tab 5 (fun _ => 0)), (false, tab 5 (fun _ => 0)), (false, tab 5 (fun _ => 0)), (false, tab 2048 (fun _ => 0)), (false, tab 8192 (fun _ => 0)), (false, tab 4096 (fun _ => 0)), (true, tab 2048 (fun _ => 0)), (false, tab 2048 (fun _ => 0)), (false, tab 2048 (fun _ => 0))]) (ww hw 9 rfl) rfl (d0 44 rfl) (by decide) rfl (by decide) rfl rfl ?_
  refine Ev.cput (v' := .ref (pre.length + 1 + 10)) (fs' := [.ref (pre.length + 1 + 0), .ref (pre.length + 1 + 1), .ref (pre.length + 1 + 2), .ref (pre.length + 1 + 3), .ref (pre.length + 1 + 4), .ref (pre.length + 1 + 5), .ref (pre.length + 1 + 6), .ref (pre.length + 1 + 7), .ref (pre.length + 1 + 8), .ref (pre.length + 1 + 9), .ref (pre.length + 1 + 10), .null, .null, .null, .null, .null, .null, .null, .null, .null, .int 0, .int 0, .int 0, .int 0, .int 0]) (gok hw) hk (ww hw 31 rfl) (Or.inl (ww hw 32 rfl)) (d0 45 rfl) (j := 10) rfl rfl rfl ?_
  refine Ev.aloadN (d0 46 rfl) rfl ?_
  refine Ev.sipush (z := 1024) (d0 47 rfl) rfl ?_
  refine Ev.cnew (aty := .int) (b := false) (k := 1024) (q := 11) (as' := [(false, tab 9 (fun _ => 0)), (false, tab 16 (fun _ => 0)), (false, tab 5 (fun _ => 0)), (false, tab 5 (fun _ => 0)), (false, tab 5 (fun _ => 0)), (false, tab 2048 (fun _ => 0)), (false, tab 8192 (fun _ => 0)), (false, tab 4096 (fun _ => 0)), (true, tab 2048 (fun _ => 0)), (false, tab 2048 (fun _ => 0)), (false, tab 2048 (fun _ => 0)), (false, tab 1024 (fun _ => 0))]) (ww hw 9 rfl) rfl (d0 48 rfl) (by decide) rfl (by decide) rfl rfl ?_
  refine Ev.cput (v' := .ref (pre.length + 1 + 11)) (fs' := [.ref (pre.length + 1 + 0), .ref (pre.length + 1 + 1), .ref (pre.length + 1 + 2), .ref (pre.length + 1 + 3), .ref (pre.length + 1 + 4), .ref (pre.length + 1 + 5), .ref (pre.length + 1 + 6), .ref (pre.length + 1 + 7), .ref (pre.length + 1 + 8), .ref (pre.length + 1 + 9), .ref (pre.length + 1 + 10), .ref (pre.length + 1 + 11), .null, .null, .null, .null, .null, .null, .null, .null, .int 0, .int 0, .int 0, .int 0, .int 0]) (gok hw) hk (ww hw 33 rfl) (Or.inl (ww hw 34 rfl)) (d0 49 rfl) (j := 11) rfl rfl rfl ?_
  refine Ev.aloadN (d0 50 rfl) rfl ?_
  refine Ev.bipush (z := 64) (d0 51 rfl) rfl ?_
  refine Ev.cnew (aty := .boolean) (b := true) (k := 64) (q := 12) (as' := [(false, tab 9 (fun _ => 0)), (false, tab 16 (fun _ => 0)), (false, tab 5 (fun _ => 0)), (false, tab 5 (fun _ => 0)), (false, tab 5 (fun _ => 0)), (false, tab 2048 (fun _ => 0)), (false, tab 8192 (fun _ => 0)), (false, tab 4096 (fun _ => 0)), (true, tab 2048 (fun _ => 0)), (false, tab 2048 (fun _ => 0)), (false, tab 2048 (fun _ => 0)), (false, tab 1024 (fun _ => 0)), (true, tab 64 (fun _ => 0))]) (ww hw 26 rfl) rfl (d0 52 rfl) (by decide) rfl (by decide) rfl rfl ?_
  refine Ev.cput (v' := .ref (pre.length + 1 + 12)) (fs' := [.ref (pre.length + 1 + 0), .ref (pre.length + 1 + 1), .ref (pre.length + 1 + 2), .ref (pre.length + 1 + 3), .ref (pre.length + 1 + 4), .ref (pre.length + 1 + 5), .ref (pre.length + 1 + 6), .ref (pre.length + 1 + 7), .ref (pre.length + 1 + 8), .ref (pre.length + 1 + 9), .ref (pre.length + 1 + 10), .ref (pre.length + 1 + 11), .ref (pre.length + 1 + 12), .null, .null, .null, .null, .null, .null, .null, .int 0, .int 0, .int 0, .int 0, .int 0]) (gok hw) hk (ww hw 35 rfl) (Or.inl (ww hw 36 rfl)) (d0 53 rfl) (j := 12) rfl rfl rfl ?_
  refine Ev.aloadN (d0 54 rfl) rfl ?_
  refine Ev.sipush (z := 1024) (d0 55 rfl) rfl ?_
  refine Ev.cnew (aty := .int) (b := false) (k := 1024) (q := 13) (as' := [(false, tab 9 (fun _ => 0)), (false, tab 16 (fun _ => 0)), (false, tab 5 (fun _ => 0)), (false, tab 5 (fun _ => 0)), (false, tab 5 (fun _ => 0)), (false, tab 2048 (fun _ => 0)), (false, tab 8192 (fun _ => 0)), (false, tab 4096 (fun _ => 0)), (true, tab 2048 (fun _ => 0)), (false, tab 2048 (fun _ => 0)), (false, tab 2048 (fun _ => 0)), (false, tab 1024 (fun _ => 0)), (true, tab 64 (fun _ => 0)), (false, tab 1024 (fun _ => 0))]) (ww hw 9 rfl) rfl (d0 56 rfl) (by decide) rfl (by decide) rfl rfl ?_
  refine Ev.cput (v' := .ref (pre.length + 1 + 13)) (fs' := [.ref (pre.length + 1 + 0), .ref (pre.length + 1 + 1), .ref (pre.length + 1 + 2), .ref (pre.length + 1 + 3), .ref (pre.length + 1 + 4), .ref (pre.length + 1 + 5), .ref (pre.length + 1 + 6), .ref (pre.length + 1 + 7), .ref (pre.length + 1 + 8), .ref (pre.length + 1 + 9), .ref (pre.length + 1 + 10), .ref (pre.length + 1 + 11), .ref (pre.length + 1 + 12), .ref (pre.length + 1 + 13), .null, .null, .null, .null, .null, .null, .int 0, .int 0, .int 0, .int 0, .int 0]) (gok hw) hk (ww hw 37 rfl) (Or.inl (ww hw 38 rfl)) (d0 57 rfl) (j := 13) rfl rfl rfl ?_
  refine Ev.aloadN (d0 58 rfl) rfl ?_
  refine Ev.sipush (z := 1024) (d0 59 rfl) rfl ?_
  refine Ev.cnew (aty := .int) (b := false) (k := 1024) (q := 14) (as' := [(false, tab 9 (fun _ => 0)), (false, tab 16 (fun _ => 0)), (false, tab 5 (fun _ => 0)), (false, tab 5 (fun _ => 0)), (false, tab 5 (fun _ => 0)), (false, tab 2048 (fun _ => 0)), (false, tab 8192 (fun _ => 0)), (false, tab 4096 (fun _ => 0)), (true, tab 2048 (fun _ => 0)), (false, tab 2048 (fun _ => 0)), (false, tab 2048 (fun _ => 0)), (false, tab 1024 (fun _ => 0)), (true, tab 64 (fun _ => 0)), (false, tab 1024 (fun _ => 0)), (false, tab 1024 (fun _ => 0))]) (ww hw 9 rfl) rfl (d0 60 rfl) (by decide) rfl (by decide) rfl rfl ?_
  refine Ev.cput (v' := .ref (pre.length + 1 + 14)) (fs' := [.ref (pre.length + 1 + 0), .ref (pre.length + 1 + 1), .ref (pre.length + 1 + 2), .ref (pre.length + 1 + 3), .ref (pre.length + 1 + 4), .ref (pre.length + 1 + 5), .ref (pre.length + 1 + 6), .ref (pre.length + 1 + 7), .ref (pre.length + 1 + 8), .ref (pre.length + 1 + 9), .ref (pre.length + 1 + 10), .ref (pre.length + 1 + 11), .ref (pre.length + 1 + 12), .ref (pre.length + 1 + 13), .ref (pre.length + 1 + 14), .null, .null, .null, .null, .null, .int 0, .int 0, .int 0, .int 0, .int 0]) (gok hw) hk (ww hw 39 rfl) (Or.inl (ww hw 40 rfl)) (d0 61 rfl) (j := 14) rfl rfl rfl ?_
  refine Ev.aloadN (d0 62 rfl) rfl ?_
  refine Ev.sipush (z := 1024) (d0 63 rfl) rfl ?_
  refine Ev.cnew (aty := .int) (b := false) (k := 1024) (q := 15) (as' := [(false, tab 9 (fun _ => 0)), (false, tab 16 (fun _ => 0)), (false, tab 5 (fun _ => 0)), (false, tab 5 (fun _ => 0)), (false, tab 5 (fun _ => 0)), (false, tab 2048 (fun _ => 0)), (false, tab 8192 (fun _ => 0)), (false, tab 4096 (fun _ => 0)), (true, tab 2048 (fun _ => 0)), (false, tab 2048 (fun _ => 0)), (false, tab 2048 (fun _ => 0)), (false, tab 1024 (fun _ => 0)), (true, tab 64 (fun _ => 0)), (false, tab 1024 (fun _ => 0)), (false, tab 1024 (fun _ => 0)), (false, tab 1024 (fun _ => 0))]) (ww hw 9 rfl) rfl (d0 64 rfl) (by decide) rfl (by decide) rfl rfl ?_
  refine Ev.cput (v' := .ref (pre.length + 1 + 15)) (fs' := [.ref (pre.length + 1 + 0), .ref (pre.length + 1 + 1), .ref (pre.length + 1 + 2), .ref (pre.length + 1 + 3), .ref (pre.length + 1 + 4), .ref (pre.length + 1 + 5), .ref (pre.length + 1 + 6), .ref (pre.length + 1 + 7), .ref (pre.length + 1 + 8), .ref (pre.length + 1 + 9), .ref (pre.length + 1 + 10), .ref (pre.length + 1 + 11), .ref (pre.length + 1 + 12), .ref (pre.length + 1 + 13), .ref (pre.length + 1 + 14), .ref (pre.length + 1 + 15), .null, .null, .null, .null, .int 0, .int 0, .int 0, .int 0, .int 0]) (gok hw) hk (ww hw 41 rfl) (Or.inl (ww hw 42 rfl)) (d0 65 rfl) (j := 15) rfl rfl rfl ?_
  refine Ev.aloadN (d0 66 rfl) rfl ?_
  refine Ev.sipush (z := 1024) (d0 67 rfl) rfl ?_
  refine Ev.cnew (aty := .boolean) (b := true) (k := 1024) (q := 16) (as' := [(false, tab 9 (fun _ => 0)), (false, tab 16 (fun _ => 0)), (false, tab 5 (fun _ => 0)), (false, tab 5 (fun _ => 0)), (false, tab 5 (fun _ => 0)), (false, tab 2048 (fun _ => 0)), (false, tab 8192 (fun _ => 0)), (false, tab 4096 (fun _ => 0)), (true, tab 2048 (fun _ => 0)), (false, tab 2048 (fun _ => 0)), (false, tab 2048 (fun _ => 0)), (false, tab 1024 (fun _ => 0)), (true, tab 64 (fun _ => 0)), (false, tab 1024 (fun _ => 0)), (false, tab 1024 (fun _ => 0)), (false, tab 1024 (fun _ => 0)), (true, tab 1024 (fun _ => 0))]) (ww hw 26 rfl) rfl (d0 68 rfl) (by decide) rfl (by decide) rfl rfl ?_
  refine Ev.cput (v' := .ref (pre.length + 1 + 16)) (fs' := [.ref (pre.length + 1 + 0), .ref (pre.length + 1 + 1), .ref (pre.length + 1 + 2), .ref (pre.length + 1 + 3), .ref (pre.length + 1 + 4), .ref (pre.length + 1 + 5), .ref (pre.length + 1 + 6), .ref (pre.length + 1 + 7), .ref (pre.length + 1 + 8), .ref (pre.length + 1 + 9), .ref (pre.length + 1 + 10), .ref (pre.length + 1 + 11), .ref (pre.length + 1 + 12), .ref (pre.length + 1 + 13), .ref (pre.length + 1 + 14), .ref (pre.length + 1 + 15), .ref (pre.length + 1 + 16), .null, .null, .null, .int 0, .int 0, .int 0, .int 0, .int 0]) (gok hw) hk (ww hw 43 rfl) (Or.inl (ww hw 44 rfl)) (d0 69 rfl) (j := 16) rfl rfl rfl ?_
  refine Ev.aloadN (d0 70 rfl) rfl ?_
  refine Ev.bipush (z := 64) (d0 71 rfl) rfl ?_
  refine Ev.cnew (aty := .int) (b := false) (k := 64) (q := 17) (as' := [(false, tab 9 (fun _ => 0)), (false, tab 16 (fun _ => 0)), (false, tab 5 (fun _ => 0)), (false, tab 5 (fun _ => 0)), (false, tab 5 (fun _ => 0)), (false, tab 2048 (fun _ => 0)), (false, tab 8192 (fun _ => 0)), (false, tab 4096 (fun _ => 0)), (true, tab 2048 (fun _ => 0)), (false, tab 2048 (fun _ => 0)), (false, tab 2048 (fun _ => 0)), (false, tab 1024 (fun _ => 0)), (true, tab 64 (fun _ => 0)), (false, tab 1024 (fun _ => 0)), (false, tab 1024 (fun _ => 0)), (false, tab 1024 (fun _ => 0)), (true, tab 1024 (fun _ => 0)), (false, tab 64 (fun _ => 0))]) (ww hw 9 rfl) rfl (d0 72 rfl) (by decide) rfl (by decide) rfl rfl ?_
  refine Ev.cput (v' := .ref (pre.length + 1 + 17)) (fs' := [.ref (pre.length + 1 + 0), .ref (pre.length + 1 + 1), .ref (pre.length + 1 + 2), .ref (pre.length + 1 + 3), .ref (pre.length + 1 + 4), .ref (pre.length + 1 + 5), .ref (pre.length + 1 + 6), .ref (pre.length + 1 + 7), .ref (pre.length + 1 + 8), .ref (pre.length + 1 + 9), .ref (pre.length + 1 + 10), .ref (pre.length + 1 + 11), .ref (pre.length + 1 + 12), .ref (pre.length + 1 + 13), .ref (pre.length + 1 + 14), .ref (pre.length + 1 + 15), .ref (pre.length + 1 + 16), .ref (pre.length + 1 + 17), .null, .null, .int 0, .int 0, .int 0, .int 0, .int 0]) (gok hw) hk (ww hw 45 rfl) (Or.inl (ww hw 46 rfl)) (d0 73 rfl) (j := 17) rfl rfl rfl ?_
  refine Ev.aloadN (d0 74 rfl) rfl ?_
  refine Ev.bipush (z := 64) (d0 75 rfl) rfl ?_
  refine Ev.cnew (aty := .int) (b := false) (k := 64) (q := 18) (as' := [(false, tab 9 (fun _ => 0)), (false, tab 16 (fun _ => 0)), (false, tab 5 (fun _ => 0)), (false, tab 5 (fun _ => 0)), (false, tab 5 (fun _ => 0)), (false, tab 2048 (fun _ => 0)), (false, tab 8192 (fun _ => 0)), (false, tab 4096 (fun _ => 0)), (true, tab 2048 (fun _ => 0)), (false, tab 2048 (fun _ => 0)), (false, tab 2048 (fun _ => 0)), (false, tab 1024 (fun _ => 0)), (true, tab 64 (fun _ => 0)), (false, tab 1024 (fun _ => 0)), (false, tab 1024 (fun _ => 0)), (false, tab 1024 (fun _ => 0)), (true, tab 1024 (fun _ => 0)), (false, tab 64 (fun _ => 0)), (false, tab 64 (fun _ => 0))]) (ww hw 9 rfl) rfl (d0 76 rfl) (by decide) rfl (by decide) rfl rfl ?_
  refine Ev.cput (v' := .ref (pre.length + 1 + 18)) (fs' := [.ref (pre.length + 1 + 0), .ref (pre.length + 1 + 1), .ref (pre.length + 1 + 2), .ref (pre.length + 1 + 3), .ref (pre.length + 1 + 4), .ref (pre.length + 1 + 5), .ref (pre.length + 1 + 6), .ref (pre.length + 1 + 7), .ref (pre.length + 1 + 8), .ref (pre.length + 1 + 9), .ref (pre.length + 1 + 10), .ref (pre.length + 1 + 11), .ref (pre.length + 1 + 12), .ref (pre.length + 1 + 13), .ref (pre.length + 1 + 14), .ref (pre.length + 1 + 15), .ref (pre.length + 1 + 16), .ref (pre.length + 1 + 17), .ref (pre.length + 1 + 18), .null, .int 0, .int 0, .int 0, .int 0, .int 0]) (gok hw) hk (ww hw 47 rfl) (Or.inl (ww hw 48 rfl)) (d0 77 rfl) (j := 18) rfl rfl rfl ?_
  refine Ev.aloadN (d0 78 rfl) rfl ?_
  refine Ev.bipush (z := 64) (d0 79 rfl) rfl ?_
  refine Ev.cnew (aty := .int) (b := false) (k := 64) (q := 19) (as' := [(false, tab 9 (fun _ => 0)), (false, tab 16 (fun _ => 0)), (false, tab 5 (fun _ => 0)), (false, tab 5 (fun _ => 0)), (false, tab 5 (fun _ => 0)), (false, tab 2048 (fun _ => 0)), (false, tab 8192 (fun _ => 0)), (false, tab 4096 (fun _ => 0)), (true, tab 2048 (fun _ => 0)), (false, tab 2048 (fun _ => 0)), (false, tab 2048 (fun _ => 0)), (false, tab 1024 (fun _ => 0)), (true, tab 64 (fun _ => 0)), (false, tab 1024 (fun _ => 0)), (false, tab 1024 (fun _ => 0)), (false, tab 1024 (fun _ => 0)), (true, tab 1024 (fun _ => 0)), (false, tab 64 (fun _ => 0)), (false, tab 64 (fun _ => 0)), (false, tab 64 (fun _ => 0))]) (ww hw 9 rfl) rfl (d0 80 rfl) (by decide) rfl (by decide) rfl rfl ?_
  refine Ev.cput (v' := .ref (pre.length + 1 + 19)) (fs' := [.ref (pre.length + 1 + 0), .ref (pre.length + 1 + 1), .ref (pre.length + 1 + 2), .ref (pre.length + 1 + 3), .ref (pre.length + 1 + 4), .ref (pre.length + 1 + 5), .ref (pre.length + 1 + 6), .ref (pre.length + 1 + 7), .ref (pre.length + 1 + 8), .ref (pre.length + 1 + 9), .ref (pre.length + 1 + 10), .ref (pre.length + 1 + 11), .ref (pre.length + 1 + 12), .ref (pre.length + 1 + 13), .ref (pre.length + 1 + 14), .ref (pre.length + 1 + 15), .ref (pre.length + 1 + 16), .ref (pre.length + 1 + 17), .ref (pre.length + 1 + 18), .ref (pre.length + 1 + 19), .int 0, .int 0, .int 0, .int 0, .int 0]) (gok hw) hk (ww hw 49 rfl) (Or.inl (ww hw 50 rfl)) (d0 81 rfl) (j := 19) rfl rfl rfl ?_
  show Ev (GG g) M_ctor 172 [.val (.ref pre.length), .val (.int a0), .val (.int a1), .unset] [] (KH flds al Ln pre [] zeroS) _
  exact e_ctor_172 hw (K := KH flds al Ln pre []) (o := pre.length) (r := rA pre.length al) (view_of hk al_ok al_nd) a0 a1 zeroS .unset rfl _ hr
def f_validVar (s : St) (a0 : Int32) : Option (Int32) :=
  if a0 < 0 then
    some (0 : Int32)
  else
    if a0 < (s.1 20) then
      some (1 : Int32)
    else
      some (0 : Int32)
set_option maxRecDepth 100000 in
theorem e_validVar {g : GT} {s : St} {a0 : Int32} {w : Int32} (hw : HW g) {K : St → MHeap} {o : Nat} {r : Nat → Nat} (V : View (GG g) Ln K o r) (hr : f_validVar s a0 = some w) : EvC (GG g) M_validVar [.ref o, .int a0] (K s) ((some (.int w)), (K s)) := by
  refine EvC.enter (L0 := [.val (.ref o), .val (.int a0)]) pl_validVar (fun h => nomatch h) rfl rfl ?_
  unfold f_validVar at hr
  refine Ev.iloadN (d4 0 rfl) rfl ?_
  refine Ev.iflt (t := 16) (d4 1 rfl) rfl (fun c1 => ?_) (fun c1 => ?_)
  · replace hr := (if_pos c1).symm.trans hr
    refine Ev.iconst (z := 0) (d4 8 rfl) rfl ?_
    cases hr
    exact Ev.zret0 rfl (d4 9 rfl)
  · replace hr := (if_neg c1).symm.trans hr
    refine Ev.iloadN (d4 2 rfl) rfl ?_
    refine Ev.aloadN (d4 3 rfl) rfl ?_
    refine Ev.gI V (ww hw 51 rfl) (d4 4 rfl) (j := 20) rfl rfl ?_
    refine Ev.icge (t := 16) (d4 5 rfl) rfl (fun c2 => ?_) (fun c2 => ?_)
    · replace hr := (if_pos c2).symm.trans hr
      refine Ev.iconst (z := 1) (d4 6 rfl) rfl ?_
      refine Ev.goto (t := 17) (d4 7 rfl) rfl ?_
      cases hr
      exact Ev.zret1 rfl (d4 9 rfl)
    · replace hr := (if_neg c2).symm.trans hr
      refine Ev.iconst (z := 0) (d4 8 rfl) rfl ?_
      cases hr
      exact Ev.zret0 rfl (d4 9 rfl)
def f_validValue (s : St) (a0 : Int32) : Option (Int32) :=
  if a0 < 0 then
    some (0 : Int32)
  else
    if a0 < (s.1 21) then
      some (1 : Int32)
    else
      some (0 : Int32)
set_option maxRecDepth 100000 in
theorem e_validValue {g : GT} {s : St} {a0 : Int32} {w : Int32} (hw : HW g) {K : St → MHeap} {o : Nat} {r : Nat → Nat} (V : View (GG g) Ln K o r) (hr : f_validValue s a0 = some w) : EvC (GG g) M_validValue [.ref o, .int a0] (K s) ((some (.int w)), (K s)) := by
  refine EvC.enter (L0 := [.val (.ref o), .val (.int a0)]) pl_validValue (fun h => nomatch h) rfl rfl ?_
  unfold f_validValue at hr
  refine Ev.iloadN (d12 0 rfl) rfl ?_
  refine Ev.iflt (t := 16) (d12 1 rfl) rfl (fun c1 => ?_) (fun c1 => ?_)
  · replace hr := (if_pos c1).symm.trans hr
    refine Ev.iconst (z := 0) (d12 8 rfl) rfl ?_
    cases hr
    exact Ev.zret0 rfl (d12 9 rfl)
  · replace hr := (if_neg c1).symm.trans hr
    refine Ev.iloadN (d12 2 rfl) rfl ?_
    refine Ev.aloadN (d12 3 rfl) rfl ?_
    refine Ev.gI V (ww hw 53 rfl) (d12 4 rfl) (j := 21) rfl rfl ?_
    refine Ev.icge (t := 16) (d12 5 rfl) rfl (fun c2 => ?_) (fun c2 => ?_)
    · replace hr := (if_pos c2).symm.trans hr
      refine Ev.iconst (z := 1) (d12 6 rfl) rfl ?_
      refine Ev.goto (t := 17) (d12 7 rfl) rfl ?_
      cases hr
      exact Ev.zret1 rfl (d12 9 rfl)
    · replace hr := (if_neg c2).symm.trans hr
      refine Ev.iconst (z := 0) (d12 8 rfl) rfl ?_
      cases hr
      exact Ev.zret0 rfl (d12 9 rfl)
def f_loadChoices_2 (n : Nat) : Nat → Int32 → St → Option (St)
  | 0 => fun _ _ => none
  | k + 1 => fun x1 s =>
    if x1 < (5 : Int32) then
      grd (inb x1 5) <|
      bnd (setA s 3 (ix x1) (s.2 2 (ix x1))) fun s3 =>
      f_loadChoices_2 n k (x1 + (1 : Int32)) s3
    else
      some s
set_option maxRecDepth 100000 in
theorem e_loadChoices_2 {g : GT} {n : Nat} (hw : HW g) {K : St → MHeap} {o : Nat} {r : Nat → Nat} (V : View (GG g) Ln K o r) (k : Nat) : ∀ (x1 : Int32) (s : St) (w : St), f_loadChoices_2 n k x1 s = some w → Ev (GG g) M_loadChoices 2 [.val (.ref o), .val (.int x1)] [] (K s) (none, (K w)) := by
  induction k with
  | zero => intro x1 s w hr; rw [f_loadChoices_2] at hr; cases hr
  | succ k ih =>
    intro x1 s w hr
    rw [f_loadChoices_2] at hr
    refine Ev.iloadN (d7 2 rfl) rfl ?_
    refine Ev.iconst (z := 5) (d7 3 rfl) rfl ?_
    refine Ev.icge (t := 25) (d7 4 rfl) rfl (fun c1 => ?_) (fun c1 => ?_)
    · replace hr := (if_pos c1).symm.trans hr
      refine Ev.aloadN (d7 5 rfl) rfl ?_
      refine Ev.gAr V (ww hw 16 rfl) (d7 6 rfl) (j := 3) rfl ?_
      refine Ev.iloadN (d7 7 rfl) rfl ?_
      refine Ev.aloadN (d7 8 rfl) rfl ?_
      refine Ev.gAr V (ww hw 14 rfl) (d7 9 rfl) (j := 2) rfl ?_
      refine Ev.iloadN (d7 10 rfl) rfl ?_
      obtain ⟨b2, hr⟩ := grd_some hr
      refine Ev.ial V (j := 2) rfl rfl (d7 11 rfl) b2 ?_
      refine Ev.ias V (j := 3) rfl rfl (d7 12 rfl) b2 ?_
      revert hr
      generalize setA s 3 (ix x1) (s.2 2 (ix x1)) = s3
      intro hr
      replace hr := (bnd_eq _ _).symm.trans hr
      refine Ev.iinc (z := 1) (L' := [.val (.ref o), .val (.int (x1 + (1 : Int32)))]) (d7 13 rfl) rfl rfl rfl ?_
      refine Ev.goto (t := 2) (d7 14 rfl) rfl ?_
      exact ih (x1 + (1 : Int32)) s3  _ hr
    · replace hr := (if_neg c1).symm.trans hr
      cases hr
      exact Ev.vreturn rfl (d7 15 rfl)
def f_loadChoices (n : Nat) (s : St) : Option (St) :=
  f_loadChoices_2 n n (0 : Int32) s
set_option maxRecDepth 100000 in
theorem e_loadChoices {g : GT} {n : Nat} {s : St} {w : St} (hw : HW g) {K : St → MHeap} {o : Nat} {r : Nat → Nat} (V : View (GG g) Ln K o r) (hr : f_loadChoices n s = some w) : EvC (GG g) M_loadChoices [.ref o] (K s) (none, (K w)) := by
  refine EvC.enter (L0 := [.val (.ref o), .unset]) pl_loadChoices (fun _ => rfl) rfl rfl ?_
  unfold f_loadChoices at hr
  refine Ev.iconst (z := 0) (d7 0 rfl) rfl ?_
  refine Ev.istDN (L' := [.val (.ref o), .val (.int (0 : Int32))]) (d7 1 rfl) rfl rfl rfl ?_
  exact e_loadChoices_2 hw V  n (0 : Int32) s  _ hr
def f_gap_5 (n : Nat) (s : St) : Nat → Int32 → Int32 → Int32 → Option (Int32)
  | 0 => fun _ _ _ => none
  | k + 1 => fun x2 x3 x4 =>
    if x4 < x2 then
      if x4 < (5 : Int32) then
        grd (inb x4 5) <|
        if (s.2 3 (ix x4)) < 0 then
          f_gap_5 n s k x2 (x3 * (s.1 21)) (x4 + (1 : Int32))
        else
          f_gap_5 n s k x2 x3 (x4 + (1 : Int32))
      else
        some x3
    else
      some x3
set_option maxRecDepth 100000 in
theorem e_gap_5 {g : GT} {n : Nat} {s : St} (hw : HW g) {K : St → MHeap} {o : Nat} {r : Nat → Nat} (V : View (GG g) Ln K o r) (k : Nat) : ∀ (x2 : Int32) (x3 : Int32) (x4 : Int32) (y1 : Slot) (hy1 : one1 y1 = true) (w : Int32), f_gap_5 n s k x2 x3 x4 = some w → Ev (GG g) M_gap 5 [.val (.ref o), y1, .val (.int x2), .val (.int x3), .val (.int x4)] [] (K s) ((some (.int w)), (K s)) := by
  induction k with
  | zero => intro x2 x3 x4 y1 hy1 w hr; rw [f_gap_5] at hr; cases hr
  | succ k ih =>
    intro x2 x3 x4 y1 hy1 w hr
    rw [f_gap_5] at hr
    refine Ev.iload (d9 4 rfl) rfl ?_
    refine Ev.iloadN (d9 5 rfl) rfl ?_
    refine Ev.icge (t := 40) (d9 6 rfl) rfl (fun c1 => ?_) (fun c1 => ?_)
    · replace hr := (if_pos c1).symm.trans hr
      refine Ev.iload (d9 7 rfl) rfl ?_
      refine Ev.iconst (z := 5) (d9 8 rfl) rfl ?_
      refine Ev.icge (t := 40) (d9 9 rfl) rfl (fun c2 => ?_) (fun c2 => ?_)
      · replace hr := (if_pos c2).symm.trans hr
        refine Ev.aloadN (d9 10 rfl) rfl ?_
        refine Ev.gAr V (ww hw 16 rfl) (d9 11 rfl) (j := 3) rfl ?_
        refine Ev.iload (d9 12 rfl) rfl ?_
        obtain ⟨b3, hr⟩ := grd_some hr
        refine Ev.ial V (j := 3) rfl rfl (d9 13 rfl) b3 ?_
        refine Ev.ifge (t := 34) (d9 14 rfl) rfl (fun c4 => ?_) (fun c4 => ?_)
        · replace hr := (if_pos c4).symm.trans hr
          refine Ev.iloadN (d9 15 rfl) rfl ?_
          refine Ev.aloadN (d9 16 rfl) rfl ?_
          refine Ev.gI V (ww hw 53 rfl) (d9 17 rfl) (j := 21) rfl rfl ?_
          refine Ev.imul (d9 18 rfl) ?_
          refine Ev.istDN (L' := [.val (.ref o), y1, .val (.int x2), .val (.int (x3 * (s.1 21))), .val (.int x4)]) (d9 19 rfl) rfl rfl rfl ?_
          refine Ev.iinc (z := 1) (L' := [.val (.ref o), y1, .val (.int x2), .val (.int (x3 * (s.1 21))), .val (.int (x4 + (1 : Int32)))]) (d9 20 rfl) rfl rfl rfl ?_
          refine Ev.goto (t := 5) (d9 21 rfl) rfl ?_
          exact ih x2 (x3 * (s.1 21)) (x4 + (1 : Int32)) y1 hy1 _ hr
        · replace hr := (if_neg c4).symm.trans hr
          refine Ev.iinc (z := 1) (L' := [.val (.ref o), y1, .val (.int x2), .val (.int x3), .val (.int (x4 + (1 : Int32)))]) (d9 20 rfl) rfl rfl rfl ?_
          refine Ev.goto (t := 5) (d9 21 rfl) rfl ?_
          exact ih x2 x3 (x4 + (1 : Int32)) y1 hy1 _ hr
      · replace hr := (if_neg c2).symm.trans hr
        refine Ev.iloadN (d9 22 rfl) rfl ?_
        cases hr
        exact Ev.ireturn rfl (d9 23 rfl)
    · replace hr := (if_neg c1).symm.trans hr
      refine Ev.iloadN (d9 22 rfl) rfl ?_
      cases hr
      exact Ev.ireturn rfl (d9 23 rfl)
def f_gap (n : Nat) (s : St) (a0 : Int32) (a1 : Int32) : Option (Int32) :=
  f_gap_5 n s n a1 (1 : Int32) a0
set_option maxRecDepth 100000 in
theorem e_gap {g : GT} {n : Nat} {s : St} {a0 : Int32} {a1 : Int32} {w : Int32} (hw : HW g) {K : St → MHeap} {o : Nat} {r : Nat → Nat} (V : View (GG g) Ln K o r) (hr : f_gap n s a0 a1 = some w) : EvC (GG g) M_gap [.ref o, .int a0, .int a1] (K s) ((some (.int w)), (K s)) := by
  refine EvC.enter (L0 := [.val (.ref o), .val (.int a0), .val (.int a1), .unset, .unset]) pl_gap (fun h => nomatch h) rfl rfl ?_
  unfold f_gap at hr
  refine Ev.iconst (z := 1) (d9 0 rfl) rfl ?_
  refine Ev.istDN (L' := [.val (.ref o), .val (.int a0), .val (.int a1), .val (.int (1 : Int32)), .unset]) (d9 1 rfl) rfl rfl rfl ?_
  refine Ev.iloadN (d9 2 rfl) rfl ?_
  refine Ev.istD (L' := [.val (.ref o), .val (.int a0), .val (.int a1), .val (.int (1 : Int32)), .val (.int a0)]) (d9 3 rfl) rfl rfl rfl ?_
  exact e_gap_5 hw V  n a1 (1 : Int32) a0 (.val (.int a0)) rfl _ hr
def f_countFixed_55 (n : Nat) (x1 : Int32) (s : St) : Option (Int32 × St) :=
  grd (inb x1 2048) <|
  (f_gap n s (0 : Int32) (s.2 5 (ix x1))).bind fun q2 =>
  some (((s.2 10 (ix x1)) * q2), s)
set_option maxRecDepth 100000 in
theorem e_countFixed_55 {g : GT} {n : Nat} (hw : HW g) {K : St → MHeap} {o : Nat} {r : Nat → Nat} (V : View (GG g) Ln K o r) (x1 : Int32) (s : St) (y2 : Slot) (hy2 : one1 y2 = true) (w : Int32 × St) (hr : f_countFixed_55 n x1 s = some w) : Ev (GG g) M_countFixed 55 [.val (.ref o), .val (.int x1), y2] [] (K s) ((some (.int w.1)), (K w.2)) := by
  unfold f_countFixed_55 at hr
  refine Ev.aloadN (d8 33 rfl) rfl ?_
  refine Ev.iconst (z := 0) (d8 34 rfl) rfl ?_
  refine Ev.aloadN (d8 35 rfl) rfl ?_
  refine Ev.gAr V (ww hw 20 rfl) (d8 36 rfl) (j := 5) rfl ?_
  refine Ev.iloadN (d8 37 rfl) rfl ?_
  obtain ⟨b1, hr⟩ := grd_some hr
  refine Ev.ial V (j := 5) rfl rfl (d8 38 rfl) b1 ?_
  obtain ⟨q2, hq3, hr⟩ := Option.bind_eq_some_iff.mp hr
  refine Ev.priv (y := M_gap) (args := [.int (0 : Int32), .int (s.2 5 (ix x1))]) (rest := []) (gok hw) rfl nm_gap (ww hw 92 rfl) (ww hw 93 rfl) (ww hw 94 rfl) (ww hw 95 rfl) (lenOf pd_gap rfl) (d8 39 rfl) (V.2.1 s) (e_gap hw V hq3) (by decide) (Nat.le_of_ble_eq_true rfl) rfl ?_
  refine Ev.istDN (L' := [.val (.ref o), .val (.int x1), .val (.int q2)]) (d8 40 rfl) rfl hy2 rfl ?_
  refine Ev.aloadN (d8 41 rfl) rfl ?_
  refine Ev.gAr V (ww hw 31 rfl) (d8 42 rfl) (j := 10) rfl ?_
  refine Ev.iloadN (d8 43 rfl) rfl ?_
  refine Ev.ial V (j := 10) rfl rfl (d8 44 rfl) b1 ?_
  refine Ev.iloadN (d8 45 rfl) rfl ?_
  refine Ev.imul (d8 46 rfl) ?_
  cases hr
  exact Ev.ireturn rfl (d8 47 rfl)
def f_countFixed_26 (n : Nat) : Nat → Int32 → Int32 → St → Option (Int32 × St)
  | 0 => fun _ _ _ => none
  | k + 1 => fun x1 x2 s =>
    if x1 < x2 then
      f_countFixed_55 n x1 s
    else
      if x2 < (2048 : Int32) then
        none
      else
        f_countFixed_55 n x1 s
set_option maxRecDepth 100000 in
theorem e_countFixed_26 {g : GT} {n : Nat} (hw : HW g) {K : St → MHeap} {o : Nat} {r : Nat → Nat} (V : View (GG g) Ln K o r) (k : Nat) : ∀ (x1 : Int32) (x2 : Int32) (s : St) (w : Int32 × St), f_countFixed_26 n k x1 x2 s = some w → Ev (GG g) M_countFixed 26 [.val (.ref o), .val (.int x1), .val (.int x2)] [] (K s) ((some (.int w.1)), (K w.2)) := by
  induction k with
  | zero => intro x1 x2 s w hr; rw [f_countFixed_26] at hr; cases hr
  | succ k ih =>
    intro x1 x2 s w hr
    rw [f_countFixed_26] at hr
    refine Ev.iloadN (d8 18 rfl) rfl ?_
    refine Ev.iloadN (d8 19 rfl) rfl ?_
    refine Ev.icgt (t := 55) (d8 20 rfl) rfl (fun c1 => ?_) (fun c1 => ?_)
    · replace hr := (if_pos c1).symm.trans hr
      exact e_countFixed_55 hw V  x1 s (.val (.int x2)) rfl _ hr
    · replace hr := (if_neg c1).symm.trans hr
      refine Ev.iloadN (d8 21 rfl) rfl ?_
      refine Ev.sipush (z := 2048) (d8 22 rfl) rfl ?_
      refine Ev.icge (t := 55) (d8 23 rfl) rfl (fun c2 => ?_) (fun c2 => ?_)
      · replace hr := (if_pos c2).symm.trans hr
        refine Ev.aloadN (d8 24 rfl) rfl ?_
        refine Ev.gAr V (ww hw 31 rfl) (d8 25 rfl) (j := 10) rfl ?_
        refine Ev.iloadN (d8 26 rfl) rfl ?_
        refine Ev.aloadN (d8 27 rfl) rfl ?_
        refine Ev.iloadN (d8 28 rfl) rfl ?_
        cases hr
      · replace hr := (if_neg c2).symm.trans hr
        exact e_countFixed_55 hw V  x1 s (.val (.int x2)) rfl _ hr
def f_countFixed (n : Nat) (s : St) : Option (Int32 × St) :=
  grd (inb (s.1 23) 9) <|
  bnd (setA s 10 (ix (0 : Int32)) (0 : Int32)) fun s2 =>
  bnd (setA s2 10 (ix (1 : Int32)) (1 : Int32)) fun s3 =>
  f_countFixed_26 n n (s.2 0 (ix (s.1 23))) (2 : Int32) s3
set_option maxRecDepth 100000 in
theorem e_countFixed {g : GT} {n : Nat} {s : St} {w : Int32 × St} (hw : HW g) {K : St → MHeap} {o : Nat} {r : Nat → Nat} (V : View (GG g) Ln K o r) (hr : f_countFixed n s = some w) : EvC (GG g) M_countFixed [.ref o] (K s) ((some (.int w.1)), (K w.2)) := by
  refine EvC.enter (L0 := [.val (.ref o), .unset, .unset]) pl_countFixed (fun h => nomatch h) rfl rfl ?_
  unfold f_countFixed at hr
  refine Ev.aloadN (d8 0 rfl) rfl ?_
  refine Ev.gAr V (ww hw 10 rfl) (d8 1 rfl) (j := 0) rfl ?_
  refine Ev.aloadN (d8 2 rfl) rfl ?_
  refine Ev.gI V (ww hw 61 rfl) (d8 3 rfl) (j := 23) rfl rfl ?_
  obtain ⟨b1, hr⟩ := grd_some hr
  refine Ev.ial V (j := 0) rfl rfl (d8 4 rfl) b1 ?_
  refine Ev.istDN (L' := [.val (.ref o), .val (.int (s.2 0 (ix (s.1 23)))), .unset]) (d8 5 rfl) rfl rfl rfl ?_
  refine Ev.aloadN (d8 6 rfl) rfl ?_
  refine Ev.gAr V (ww hw 31 rfl) (d8 7 rfl) (j := 10) rfl ?_
  refine Ev.iconst (z := 0) (d8 8 rfl) rfl ?_
  refine Ev.iconst (z := 0) (d8 9 rfl) rfl ?_
  refine Ev.ias V (j := 10) rfl rfl (d8 10 rfl) ⟨by decide, by decide⟩ ?_
  revert hr
  generalize setA s 10 (ix (0 : Int32)) (0 : Int32) = s2
  intro hr
  replace hr := (bnd_eq _ _).symm.trans hr
  refine Ev.aloadN (d8 11 rfl) rfl ?_
  refine Ev.gAr V (ww hw 31 rfl) (d8 12 rfl) (j := 10) rfl ?_
  refine Ev.iconst (z := 1) (d8 13 rfl) rfl ?_
  refine Ev.iconst (z := 1) (d8 14 rfl) rfl ?_
  refine Ev.ias V (j := 10) rfl rfl (d8 15 rfl) ⟨by decide, by decide⟩ ?_
  revert hr
  generalize setA s2 10 (ix (1 : Int32)) (1 : Int32) = s3
  intro hr
  replace hr := (bnd_eq _ _).symm.trans hr
  refine Ev.iconst (z := 2) (d8 16 rfl) rfl ?_
  refine Ev.istDN (L' := [.val (.ref o), .val (.int (s.2 0 (ix (s.1 23)))), .val (.int (2 : Int32))]) (d8 17 rfl) rfl rfl rfl ?_
  exact e_countFixed_26 hw V  n (s.2 0 (ix (s.1 23))) (2 : Int32) s3  _ hr
def f_countWith (n : Nat) (a0 : Int32) (a1 : Int32) (s : St) : Option (Int32 × St) :=
  (f_validVar s a0).bind fun q1 =>
  if q1 = 0 then
    some ((-1 : Int32), s)
  else
    (f_validValue s a1).bind fun q4 =>
    if q4 = 0 then
      some ((-2 : Int32), s)
    else
      (f_loadChoices n s).bind fun q7 =>
      grd (inb a0 5) <|
      bnd (setA q7 3 (ix a0) a1) fun s10 =>
      (f_countFixed n s10).bind fun q11 =>
      some (q11.1, q11.2)
set_option maxRecDepth 100000 in
theorem e_countWith {g : GT} {n : Nat} {a0 : Int32} {a1 : Int32} {s : St} {w : Int32 × St} (hw : HW g) {K : St → MHeap} {o : Nat} {r : Nat → Nat} (V : View (GG g) Ln K o r) (hr : f_countWith n a0 a1 s = some w) : EvC (GG g) M_countWith [.ref o, .int a0, .int a1] (K s) ((some (.int w.1)), (K w.2)) := by
  refine EvC.enter (L0 := [.val (.ref o), .val (.int a0), .val (.int a1)]) pl_countWith (fun h => nomatch h) rfl rfl ?_
  unfold f_countWith at hr
  refine Ev.aloadN (d13 0 rfl) rfl ?_
  refine Ev.iloadN (d13 1 rfl) rfl ?_
  obtain ⟨q1, hq2, hr⟩ := Option.bind_eq_some_iff.mp hr
  refine Ev.priv (y := M_validVar) (args := [.int a0]) (rest := []) (gok hw) rfl nm_validVar (ww hw 70 rfl) (ww hw 71 rfl) (ww hw 72 rfl) (ww hw 73 rfl) (lenOf pd_validVar rfl) (d13 2 rfl) (V.2.1 s) (e_validVar hw V hq2) (by decide) (Nat.le_of_ble_eq_true rfl) rfl ?_
  refine Ev.ifne (t := 10) (d13 3 rfl) rfl (fun c3 => ?_) (fun c3 => ?_)
  · replace hr := (if_pos c3).symm.trans hr
    refine Ev.iconst (z := -1) (d13 4 rfl) rfl ?_
    cases hr
    exact Ev.ireturn rfl (d13 5 rfl)
  · replace hr := (if_neg c3).symm.trans hr
    refine Ev.aloadN (d13 6 rfl) rfl ?_
    refine Ev.iloadN (d13 7 rfl) rfl ?_
    obtain ⟨q4, hq5, hr⟩ := Option.bind_eq_some_iff.mp hr
    refine Ev.priv (y := M_validValue) (args := [.int a1]) (rest := []) (gok hw) rfl nm_validValue (ww hw 106 rfl) (ww hw 107 rfl) (ww hw 108 rfl) (ww hw 109 rfl) (lenOf pd_validValue rfl) (d13 8 rfl) (V.2.1 s) (e_validValue hw V hq5) (by decide) (Nat.le_of_ble_eq_true rfl) rfl ?_
    refine Ev.ifne (t := 21) (d13 9 rfl) rfl (fun c6 => ?_) (fun c6 => ?_)
    · replace hr := (if_pos c6).symm.trans hr
      refine Ev.bipush (z := -2) (d13 10 rfl) rfl ?_
      cases hr
      exact Ev.ireturn rfl (d13 11 rfl)
    · replace hr := (if_neg c6).symm.trans hr
      refine Ev.aloadN (d13 12 rfl) rfl ?_
      obtain ⟨q7, hq8, hr⟩ := Option.bind_eq_some_iff.mp hr
      refine Ev.priv (y := M_loadChoices) (args := []) (rest := []) (gok hw) rfl nm_loadChoices (ww hw 84 rfl) (ww hw 85 rfl) (ww hw 86 rfl) (ww hw 87 rfl) (lenOf pd_loadChoices rfl) (d13 13 rfl) (V.2.1 s) (e_loadChoices hw V hq8) (by decide) (Nat.le_of_ble_eq_true rfl) rfl ?_
      refine Ev.aloadN (d13 14 rfl) rfl ?_
      refine Ev.gAr V (ww hw 16 rfl) (d13 15 rfl) (j := 3) rfl ?_
      refine Ev.iloadN (d13 16 rfl) rfl ?_
      refine Ev.iloadN (d13 17 rfl) rfl ?_
      obtain ⟨b9, hr⟩ := grd_some hr
      refine Ev.ias V (j := 3) rfl rfl (d13 18 rfl) b9 ?_
      revert hr
      generalize setA q7 3 (ix a0) a1 = s10
      intro hr
      replace hr := (bnd_eq _ _).symm.trans hr
      refine Ev.aloadN (d13 19 rfl) rfl ?_
      obtain ⟨q11, hq12, hr⟩ := Option.bind_eq_some_iff.mp hr
      refine Ev.priv (y := M_countFixed) (args := []) (rest := []) (gok hw) rfl nm_countFixed (ww hw 88 rfl) (ww hw 89 rfl) (ww hw 90 rfl) (ww hw 91 rfl) (lenOf pd_countFixed rfl) (d13 20 rfl) (V.2.1 s10) (e_countFixed hw V hq12) (by decide) (Nat.le_of_ble_eq_true rfl) rfl ?_
      cases hr
      exact Ev.ireturn rfl (d13 21 rfl)
def f_choose (n : Nat) (a0 : Int32) (a1 : Int32) (s : St) : Option (Int32 × St) :=
  (f_validVar s a0).bind fun q1 =>
  if q1 = 0 then
    some ((-1 : Int32), s)
  else
    (f_validValue s a1).bind fun q4 =>
    if q4 = 0 then
      some ((-2 : Int32), s)
    else
      grd (inb a0 5) <|
      if (s.2 2 (ix a0)) < 0 then
        (f_countWith n a0 a1 s).bind fun q9 =>
        if q9.1 = 0 then
          some ((-7 : Int32), q9.2)
        else
          bnd (setA q9.2 2 (ix a0) a1) fun s12 =>
          some ((0 : Int32), s12)
      else
        some ((-8 : Int32), s)
set_option maxRecDepth 100000 in
theorem e_choose {g : GT} {n : Nat} {a0 : Int32} {a1 : Int32} {s : St} {w : Int32 × St} (hw : HW g) {K : St → MHeap} {o : Nat} {r : Nat → Nat} (V : View (GG g) Ln K o r) (hr : f_choose n a0 a1 s = some w) : EvC (GG g) M_choose [.ref o, .int a0, .int a1] (K s) ((some (.int w.1)), (K w.2)) := by
  refine EvC.enter (L0 := [.val (.ref o), .val (.int a0), .val (.int a1)]) pl_choose (fun h => nomatch h) rfl rfl ?_
  unfold f_choose at hr
  refine Ev.aloadN (d3 0 rfl) rfl ?_
  refine Ev.iloadN (d3 1 rfl) rfl ?_
  obtain ⟨q1, hq2, hr⟩ := Option.bind_eq_some_iff.mp hr
  refine Ev.priv (y := M_validVar) (args := [.int a0]) (rest := []) (gok hw) rfl nm_validVar (ww hw 70 rfl) (ww hw 71 rfl) (ww hw 72 rfl) (ww hw 73 rfl) (lenOf pd_validVar rfl) (d3 2 rfl) (V.2.1 s) (e_validVar hw V hq2) (by decide) (Nat.le_of_ble_eq_true rfl) rfl ?_
  refine Ev.ifne (t := 10) (d3 3 rfl) rfl (fun c3 => ?_) (fun c3 => ?_)
  · replace hr := (if_pos c3).symm.trans hr
    refine Ev.iconst (z := -1) (d3 4 rfl) rfl ?_
    cases hr
    exact Ev.ireturn rfl (d3 5 rfl)
  · replace hr := (if_neg c3).symm.trans hr
    refine Ev.aloadN (d3 6 rfl) rfl ?_
    refine Ev.iloadN (d3 7 rfl) rfl ?_
    obtain ⟨q4, hq5, hr⟩ := Option.bind_eq_some_iff.mp hr
    refine Ev.priv (y := M_validValue) (args := [.int a1]) (rest := []) (gok hw) rfl nm_validValue (ww hw 106 rfl) (ww hw 107 rfl) (ww hw 108 rfl) (ww hw 109 rfl) (lenOf pd_validValue rfl) (d3 8 rfl) (V.2.1 s) (e_validValue hw V hq5) (by decide) (Nat.le_of_ble_eq_true rfl) rfl ?_
    refine Ev.ifne (t := 21) (d3 9 rfl) rfl (fun c6 => ?_) (fun c6 => ?_)
    · replace hr := (if_pos c6).symm.trans hr
      refine Ev.bipush (z := -2) (d3 10 rfl) rfl ?_
      cases hr
      exact Ev.ireturn rfl (d3 11 rfl)
    · replace hr := (if_neg c6).symm.trans hr
      refine Ev.aloadN (d3 12 rfl) rfl ?_
      refine Ev.gAr V (ww hw 14 rfl) (d3 13 rfl) (j := 2) rfl ?_
      refine Ev.iloadN (d3 14 rfl) rfl ?_
      obtain ⟨b7, hr⟩ := grd_some hr
      refine Ev.ial V (j := 2) rfl rfl (d3 15 rfl) b7 ?_
      refine Ev.iflt (t := 33) (d3 16 rfl) rfl (fun c8 => ?_) (fun c8 => ?_)
      · replace hr := (if_pos c8).symm.trans hr
        refine Ev.aloadN (d3 19 rfl) rfl ?_
        refine Ev.iloadN (d3 20 rfl) rfl ?_
        refine Ev.iloadN (d3 21 rfl) rfl ?_
        obtain ⟨q9, hq10, hr⟩ := Option.bind_eq_some_iff.mp hr
        refine Ev.virt (y := M_countWith) (args := [.int a0, .int a1]) (rest := []) (gok hw) rfl nm_countWith (ww hw 110 rfl) (ww hw 111 rfl) (ww hw 112 rfl) (ww hw 113 rfl) (ww hw 114 rfl) (lenOf pd_countWith rfl) (d3 22 rfl) (V.2.1 s) (e_countWith hw V hq10) (by decide) (Nat.le_of_ble_eq_true rfl) rfl ?_
        refine Ev.ifne (t := 45) (d3 23 rfl) rfl (fun c11 => ?_) (fun c11 => ?_)
        · replace hr := (if_pos c11).symm.trans hr
          refine Ev.bipush (z := -7) (d3 24 rfl) rfl ?_
          cases hr
          exact Ev.ireturn rfl (d3 25 rfl)
        · replace hr := (if_neg c11).symm.trans hr
          refine Ev.aloadN (d3 26 rfl) rfl ?_
          refine Ev.gAr V (ww hw 14 rfl) (d3 27 rfl) (j := 2) rfl ?_
          refine Ev.iloadN (d3 28 rfl) rfl ?_
          refine Ev.iloadN (d3 29 rfl) rfl ?_
          refine Ev.ias V (j := 2) rfl rfl (d3 30 rfl) b7 ?_
          revert hr
          generalize setA q9.2 2 (ix a0) a1 = s12
          intro hr
          replace hr := (bnd_eq _ _).symm.trans hr
          refine Ev.iconst (z := 0) (d3 31 rfl) rfl ?_
          cases hr
          exact Ev.ireturn rfl (d3 32 rfl)
      · replace hr := (if_neg c8).symm.trans hr
        refine Ev.bipush (z := -8) (d3 17 rfl) rfl ?_
        cases hr
        exact Ev.ireturn rfl (d3 18 rfl)
def f_chosenValue (s : St) (a0 : Int32) : Option (Int32) :=
  (f_validVar s a0).bind fun q1 =>
  if q1 = 0 then
    some (-1 : Int32)
  else
    grd (inb a0 5) <|
    some (s.2 2 (ix a0))
set_option maxRecDepth 100000 in
theorem e_chosenValue {g : GT} {s : St} {a0 : Int32} {w : Int32} (hw : HW g) {K : St → MHeap} {o : Nat} {r : Nat → Nat} (V : View (GG g) Ln K o r) (hr : f_chosenValue s a0 = some w) : EvC (GG g) M_chosenValue [.ref o, .int a0] (K s) ((some (.int w)), (K s)) := by
  refine EvC.enter (L0 := [.val (.ref o), .val (.int a0)]) pl_chosenValue (fun h => nomatch h) rfl rfl ?_
  unfold f_chosenValue at hr
  refine Ev.aloadN (d5 0 rfl) rfl ?_
  refine Ev.iloadN (d5 1 rfl) rfl ?_
  obtain ⟨q1, hq2, hr⟩ := Option.bind_eq_some_iff.mp hr
  refine Ev.priv (y := M_validVar) (args := [.int a0]) (rest := []) (gok hw) rfl nm_validVar (ww hw 70 rfl) (ww hw 71 rfl) (ww hw 72 rfl) (ww hw 73 rfl) (lenOf pd_validVar rfl) (d5 2 rfl) (V.2.1 s) (e_validVar hw V hq2) (by decide) (Nat.le_of_ble_eq_true rfl) rfl ?_
  refine Ev.ifne (t := 10) (d5 3 rfl) rfl (fun c3 => ?_) (fun c3 => ?_)
  · replace hr := (if_pos c3).symm.trans hr
    refine Ev.iconst (z := -1) (d5 4 rfl) rfl ?_
    cases hr
    exact Ev.ireturn rfl (d5 5 rfl)
  · replace hr := (if_neg c3).symm.trans hr
    refine Ev.aloadN (d5 6 rfl) rfl ?_
    refine Ev.gAr V (ww hw 14 rfl) (d5 7 rfl) (j := 2) rfl ?_
    refine Ev.iloadN (d5 8 rfl) rfl ?_
    obtain ⟨b4, hr⟩ := grd_some hr
    refine Ev.ial V (j := 2) rfl rfl (d5 9 rfl) b4 ?_
    cases hr
    exact Ev.ireturn rfl (d5 10 rfl)
def f_count (n : Nat) (s : St) : Option (Int32 × St) :=
  (f_loadChoices n s).bind fun q1 =>
  (f_countFixed n q1).bind fun q3 =>
  some (q3.1, q3.2)
set_option maxRecDepth 100000 in
theorem e_count {g : GT} {n : Nat} {s : St} {w : Int32 × St} (hw : HW g) {K : St → MHeap} {o : Nat} {r : Nat → Nat} (V : View (GG g) Ln K o r) (hr : f_count n s = some w) : EvC (GG g) M_count [.ref o] (K s) ((some (.int w.1)), (K w.2)) := by
  refine EvC.enter (L0 := [.val (.ref o)]) pl_count (fun h => nomatch h) rfl rfl ?_
  unfold f_count at hr
  refine Ev.aloadN (d6 0 rfl) rfl ?_
  obtain ⟨q1, hq2, hr⟩ := Option.bind_eq_some_iff.mp hr
  refine Ev.priv (y := M_loadChoices) (args := []) (rest := []) (gok hw) rfl nm_loadChoices (ww hw 84 rfl) (ww hw 85 rfl) (ww hw 86 rfl) (ww hw 87 rfl) (lenOf pd_loadChoices rfl) (d6 1 rfl) (V.2.1 s) (e_loadChoices hw V hq2) (by decide) (Nat.le_of_ble_eq_true rfl) rfl ?_
  refine Ev.aloadN (d6 2 rfl) rfl ?_
  obtain ⟨q3, hq4, hr⟩ := Option.bind_eq_some_iff.mp hr
  refine Ev.priv (y := M_countFixed) (args := []) (rest := []) (gok hw) rfl nm_countFixed (ww hw 88 rfl) (ww hw 89 rfl) (ww hw 90 rfl) (ww hw 91 rfl) (lenOf pd_countFixed rfl) (d6 3 rfl) (V.2.1 q1) (e_countFixed hw V hq4) (by decide) (Nat.le_of_ble_eq_true rfl) rfl ?_
  cases hr
  exact Ev.ireturn rfl (d6 4 rfl)
def f_offeredMask_14 (n : Nat) : Nat → Int32 → Int32 → Int32 → St → Option (Int32 × St)
  | 0 => fun _ _ _ _ => none
  | k + 1 => fun x1 x2 x3 s =>
    if x3 < (s.1 21) then
      (f_countWith n x1 x3 s).bind fun q2 =>
      if 0 < q2.1 then
        f_offeredMask_14 n k x1 (x2 ||| ((1 : Int32) <<< (x3 &&& 31))) (x3 + (1 : Int32)) q2.2
      else
        f_offeredMask_14 n k x1 x2 (x3 + (1 : Int32)) q2.2
    else
      some (x2, s)
set_option maxRecDepth 100000 in
theorem e_offeredMask_14 {g : GT} {n : Nat} (hw : HW g) {K : St → MHeap} {o : Nat} {r : Nat → Nat} (V : View (GG g) Ln K o r) (k : Nat) : ∀ (x1 : Int32) (x2 : Int32) (x3 : Int32) (s : St) (w : Int32 × St), f_offeredMask_14 n k x1 x2 x3 s = some w → Ev (GG g) M_offeredMask 14 [.val (.ref o), .val (.int x1), .val (.int x2), .val (.int x3)] [] (K s) ((some (.int w.1)), (K w.2)) := by
  induction k with
  | zero => intro x1 x2 x3 s w hr; rw [f_offeredMask_14] at hr; cases hr
  | succ k ih =>
    intro x1 x2 x3 s w hr
    rw [f_offeredMask_14] at hr
    refine Ev.iloadN (d10 10 rfl) rfl ?_
    refine Ev.aloadN (d10 11 rfl) rfl ?_
    refine Ev.gI V (ww hw 53 rfl) (d10 12 rfl) (j := 21) rfl rfl ?_
    refine Ev.icge (t := 43) (d10 13 rfl) rfl (fun c1 => ?_) (fun c1 => ?_)
    · replace hr := (if_pos c1).symm.trans hr
      refine Ev.aloadN (d10 14 rfl) rfl ?_
      refine Ev.iloadN (d10 15 rfl) rfl ?_
      refine Ev.iloadN (d10 16 rfl) rfl ?_
      obtain ⟨q2, hq3, hr⟩ := Option.bind_eq_some_iff.mp hr
      refine Ev.virt (y := M_countWith) (args := [.int x1, .int x3]) (rest := []) (gok hw) rfl nm_countWith (ww hw 110 rfl) (ww hw 111 rfl) (ww hw 112 rfl) (ww hw 113 rfl) (ww hw 114 rfl) (lenOf pd_countWith rfl) (d10 17 rfl) (V.2.1 s) (e_countWith hw V hq3) (by decide) (Nat.le_of_ble_eq_true rfl) rfl ?_
      refine Ev.ifle (t := 37) (d10 18 rfl) rfl (fun c4 => ?_) (fun c4 => ?_)
      · replace hr := (if_pos c4).symm.trans hr
        refine Ev.iloadN (d10 19 rfl) rfl ?_
        refine Ev.iconst (z := 1) (d10 20 rfl) rfl ?_
        refine Ev.iloadN (d10 21 rfl) rfl ?_
        refine Ev.ishl (d10 22 rfl) ?_
        refine Ev.ior (d10 23 rfl) ?_
        refine Ev.istDN (L' := [.val (.ref o), .val (.int x1), .val (.int (x2 ||| ((1 : Int32) <<< (x3 &&& 31)))), .val (.int x3)]) (d10 24 rfl) rfl rfl rfl ?_
        refine Ev.iinc (z := 1) (L' := [.val (.ref o), .val (.int x1), .val (.int (x2 ||| ((1 : Int32) <<< (x3 &&& 31)))), .val (.int (x3 + (1 : Int32)))]) (d10 25 rfl) rfl rfl rfl ?_
        refine Ev.goto (t := 14) (d10 26 rfl) rfl ?_
        exact ih x1 (x2 ||| ((1 : Int32) <<< (x3 &&& 31))) (x3 + (1 : Int32)) q2.2  _ hr
      · replace hr := (if_neg c4).symm.trans hr
        refine Ev.iinc (z := 1) (L' := [.val (.ref o), .val (.int x1), .val (.int x2), .val (.int (x3 + (1 : Int32)))]) (d10 25 rfl) rfl rfl rfl ?_
        refine Ev.goto (t := 14) (d10 26 rfl) rfl ?_
        exact ih x1 x2 (x3 + (1 : Int32)) q2.2  _ hr
    · replace hr := (if_neg c1).symm.trans hr
      refine Ev.iloadN (d10 27 rfl) rfl ?_
      cases hr
      exact Ev.ireturn rfl (d10 28 rfl)
def f_offeredMask (n : Nat) (a0 : Int32) (s : St) : Option (Int32 × St) :=
  (f_validVar s a0).bind fun q1 =>
  if q1 = 0 then
    some ((-1 : Int32), s)
  else
    f_offeredMask_14 n n a0 (0 : Int32) (0 : Int32) s
set_option maxRecDepth 100000 in
theorem e_offeredMask {g : GT} {n : Nat} {a0 : Int32} {s : St} {w : Int32 × St} (hw : HW g) {K : St → MHeap} {o : Nat} {r : Nat → Nat} (V : View (GG g) Ln K o r) (hr : f_offeredMask n a0 s = some w) : EvC (GG g) M_offeredMask [.ref o, .int a0] (K s) ((some (.int w.1)), (K w.2)) := by
  refine EvC.enter (L0 := [.val (.ref o), .val (.int a0), .unset, .unset]) pl_offeredMask (fun h => nomatch h) rfl rfl ?_
  unfold f_offeredMask at hr
  refine Ev.aloadN (d10 0 rfl) rfl ?_
  refine Ev.iloadN (d10 1 rfl) rfl ?_
  obtain ⟨q1, hq2, hr⟩ := Option.bind_eq_some_iff.mp hr
  refine Ev.priv (y := M_validVar) (args := [.int a0]) (rest := []) (gok hw) rfl nm_validVar (ww hw 70 rfl) (ww hw 71 rfl) (ww hw 72 rfl) (ww hw 73 rfl) (lenOf pd_validVar rfl) (d10 2 rfl) (V.2.1 s) (e_validVar hw V hq2) (by decide) (Nat.le_of_ble_eq_true rfl) rfl ?_
  refine Ev.ifne (t := 10) (d10 3 rfl) rfl (fun c3 => ?_) (fun c3 => ?_)
  · replace hr := (if_pos c3).symm.trans hr
    refine Ev.iconst (z := -1) (d10 4 rfl) rfl ?_
    cases hr
    exact Ev.ireturn rfl (d10 5 rfl)
  · replace hr := (if_neg c3).symm.trans hr
    refine Ev.iconst (z := 0) (d10 6 rfl) rfl ?_
    refine Ev.istDN (L' := [.val (.ref o), .val (.int a0), .val (.int (0 : Int32)), .unset]) (d10 7 rfl) rfl rfl rfl ?_
    refine Ev.iconst (z := 0) (d10 8 rfl) rfl ?_
    refine Ev.istDN (L' := [.val (.ref o), .val (.int a0), .val (.int (0 : Int32)), .val (.int (0 : Int32))]) (d10 9 rfl) rfl rfl rfl ?_
    exact e_offeredMask_14 hw V  n a0 (0 : Int32) (0 : Int32) s  _ hr
def f_retract (a0 : Int32) (s : St) : Option (Int32 × St) :=
  (f_validVar s a0).bind fun q1 =>
  if q1 = 0 then
    some ((-1 : Int32), s)
  else
    grd (inb a0 5) <|
    if (s.2 2 (ix a0)) < 0 then
      some ((-9 : Int32), s)
    else
      bnd (setA s 2 (ix a0) (-1 : Int32)) fun s6 =>
      some ((0 : Int32), s6)
set_option maxRecDepth 100000 in
theorem e_retract {g : GT} {a0 : Int32} {s : St} {w : Int32 × St} (hw : HW g) {K : St → MHeap} {o : Nat} {r : Nat → Nat} (V : View (GG g) Ln K o r) (hr : f_retract a0 s = some w) : EvC (GG g) M_retract [.ref o, .int a0] (K s) ((some (.int w.1)), (K w.2)) := by
  refine EvC.enter (L0 := [.val (.ref o), .val (.int a0)]) pl_retract (fun h => nomatch h) rfl rfl ?_
  unfold f_retract at hr
  refine Ev.aloadN (d11 0 rfl) rfl ?_
  refine Ev.iloadN (d11 1 rfl) rfl ?_
  obtain ⟨q1, hq2, hr⟩ := Option.bind_eq_some_iff.mp hr
  refine Ev.priv (y := M_validVar) (args := [.int a0]) (rest := []) (gok hw) rfl nm_validVar (ww hw 70 rfl) (ww hw 71 rfl) (ww hw 72 rfl) (ww hw 73 rfl) (lenOf pd_validVar rfl) (d11 2 rfl) (V.2.1 s) (e_validVar hw V hq2) (by decide) (Nat.le_of_ble_eq_true rfl) rfl ?_
  refine Ev.ifne (t := 10) (d11 3 rfl) rfl (fun c3 => ?_) (fun c3 => ?_)
  · replace hr := (if_pos c3).symm.trans hr
    refine Ev.iconst (z := -1) (d11 4 rfl) rfl ?_
    cases hr
    exact Ev.ireturn rfl (d11 5 rfl)
  · replace hr := (if_neg c3).symm.trans hr
    refine Ev.aloadN (d11 6 rfl) rfl ?_
    refine Ev.gAr V (ww hw 14 rfl) (d11 7 rfl) (j := 2) rfl ?_
    refine Ev.iloadN (d11 8 rfl) rfl ?_
    obtain ⟨b4, hr⟩ := grd_some hr
    refine Ev.ial V (j := 2) rfl rfl (d11 9 rfl) b4 ?_
    refine Ev.ifge (t := 22) (d11 10 rfl) rfl (fun c5 => ?_) (fun c5 => ?_)
    · replace hr := (if_pos c5).symm.trans hr
      refine Ev.bipush (z := -9) (d11 11 rfl) rfl ?_
      cases hr
      exact Ev.ireturn rfl (d11 12 rfl)
    · replace hr := (if_neg c5).symm.trans hr
      refine Ev.aloadN (d11 13 rfl) rfl ?_
      refine Ev.gAr V (ww hw 14 rfl) (d11 14 rfl) (j := 2) rfl ?_
      refine Ev.iloadN (d11 15 rfl) rfl ?_
      refine Ev.iconst (z := -1) (d11 16 rfl) rfl ?_
      refine Ev.ias V (j := 2) rfl rfl (d11 17 rfl) b4 ?_
      revert hr
      generalize setA s 2 (ix a0) (-1 : Int32) = s6
      intro hr
      replace hr := (bnd_eq _ _).symm.trans hr
      refine Ev.iconst (z := 0) (d11 18 rfl) rfl ?_
      cases hr
      exact Ev.ireturn rfl (d11 19 rfl)
def f_law_317 (n : Nat) (x7 : Int32) (x12 : Int32) (x13 : Int32) (x18 : Int32) (x19 : Int32) (x20 : Int32) (x21 : Int32) (z0 : Int32) (z1 : Int32) (s : St) : Option (Int32 × St) :=
  if z1 = z0 then
    if x18 = x12 then
      if x19 = x13 then
        if x20 = x7 then
          if x21 = (-1 : Int32) then
            some ((1 : Int32), s)
          else
            some ((0 : Int32), s)
        else
          some ((0 : Int32), s)
      else
        some ((0 : Int32), s)
    else
      some ((0 : Int32), s)
  else
    some ((0 : Int32), s)
set_option maxRecDepth 100000 in
theorem e_law_317 {g : GT} {n : Nat} (hw : HW g) {K : St → MHeap} {o : Nat} {r : Nat → Nat} (V : View (GG g) Ln K o r) (x7 : Int32) (x12 : Int32) (x13 : Int32) (x18 : Int32) (x19 : Int32) (x20 : Int32) (x21 : Int32) (z0 : Int32) (z1 : Int32) (s : St) (y0 : Slot) (hy0 : one1 y0 = true) (y1 : Slot) (hy1 : one1 y1 = true) (y2 : Slot) (hy2 : one1 y2 = true) (y3 : Slot) (hy3 : one1 y3 = true) (y4 : Slot) (hy4 : one1 y4 = true) (y5 : Slot) (hy5 : one1 y5 = true) (y6 : Slot) (hy6 : one1 y6 = true) (y8 : Slot) (hy8 : one1 y8 = true) (y9 : Slot) (hy9 : one1 y9 = true) (y10 : Slot) (hy10 : one1 y10 = true) (y11 : Slot) (hy11 : one1 y11 = true) (y14 : Slot) (hy14 : one1 y14 = true) (y15 : Slot) (hy15 : one1 y15 = true) (y16 : Slot) (hy16 : one1 y16 = true) (y17 : Slot) (hy17 : one1 y17 = true) (w : Int32 × St) (hr : f_law_317 n x7 x12 x13 x18 x19 x20 x21 z0 z1 s = some w) : Ev (GG g) M_law 317 [y0, y1, y2, y3, y4, y5, y6, .val (.int x7), y8, y9, y10, y11, .val (.int x12), .val (.int x13), y14, y15, y16, y17, .val (.int x18), .val (.int x19), .val (.int x20), .val (.int x21)] [.int z0, .int z1] (K s) ((some (.int w.1)), (K w.2)) := by
  unfold f_law_317 at hr
  refine Ev.icne (t := 351) at_317 rfl (fun c1 => ?_) (fun c1 => ?_)
  · replace hr := (if_pos c1).symm.trans hr
    refine Ev.iload at_320 rfl ?_
    refine Ev.iload at_322 rfl ?_
    refine Ev.icne (t := 351) at_324 rfl (fun c2 => ?_) (fun c2 => ?_)
    · replace hr := (if_pos c2).symm.trans hr
      refine Ev.iload at_327 rfl ?_
      refine Ev.iload at_329 rfl ?_
      refine Ev.icne (t := 351) at_331 rfl (fun c3 => ?_) (fun c3 => ?_)
      · replace hr := (if_pos c3).symm.trans hr
        refine Ev.iload at_334 rfl ?_
        refine Ev.iload at_336 rfl ?_
        refine Ev.icne (t := 351) at_338 rfl (fun c4 => ?_) (fun c4 => ?_)
        · replace hr := (if_pos c4).symm.trans hr
          refine Ev.iload at_341 rfl ?_
          refine Ev.iconst (z := -1) at_343 rfl ?_
          refine Ev.icne (t := 351) at_344 rfl (fun c5 => ?_) (fun c5 => ?_)
          · replace hr := (if_pos c5).symm.trans hr
            refine Ev.iconst (z := 1) at_347 rfl ?_
            refine Ev.goto (t := 352) at_348 rfl ?_
            cases hr
            exact Ev.zret1 rfl at_352
          · replace hr := (if_neg c5).symm.trans hr
            refine Ev.iconst (z := 0) at_351 rfl ?_
            cases hr
            exact Ev.zret0 rfl at_352
        · replace hr := (if_neg c4).symm.trans hr
          refine Ev.iconst (z := 0) at_351 rfl ?_
          cases hr
          exact Ev.zret0 rfl at_352
      · replace hr := (if_neg c3).symm.trans hr
        refine Ev.iconst (z := 0) at_351 rfl ?_
        cases hr
        exact Ev.zret0 rfl at_352
    · replace hr := (if_neg c2).symm.trans hr
      refine Ev.iconst (z := 0) at_351 rfl ?_
      cases hr
      exact Ev.zret0 rfl at_352
  · replace hr := (if_neg c1).symm.trans hr
    refine Ev.iconst (z := 0) at_351 rfl ?_
    cases hr
    exact Ev.zret0 rfl at_352
def f_law_297 (n : Nat) (x6 : Int32) (x7 : Int32) (x8 : Int32) (x12 : Int32) (x13 : Int32) (x17 : Int32) (x18 : Int32) (x19 : Int32) (x20 : Int32) (x21 : Int32) (z0 : Int32) (z1 : Int32) (s : St) : Option (Int32 × St) :=
  if z1 = z0 then
    if x8 = 0 then
      f_law_317 n x7 x12 x13 x18 x19 x20 x21 (-1 : Int32) x17 s
    else
      f_law_317 n x7 x12 x13 x18 x19 x20 x21 (((1 : Int32) <<< (x6 &&& 31)) - (1 : Int32)) x17 s
  else
    some ((0 : Int32), s)
set_option maxRecDepth 100000 in
theorem e_law_297 {g : GT} {n : Nat} (hw : HW g) {K : St → MHeap} {o : Nat} {r : Nat → Nat} (V : View (GG g) Ln K o r) (x6 : Int32) (x7 : Int32) (x8 : Int32) (x12 : Int32) (x13 : Int32) (x17 : Int32) (x18 : Int32) (x19 : Int32) (x20 : Int32) (x21 : Int32) (z0 : Int32) (z1 : Int32) (s : St) (y0 : Slot) (hy0 : one1 y0 = true) (y1 : Slot) (hy1 : one1 y1 = true) (y2 : Slot) (hy2 : one1 y2 = true) (y3 : Slot) (hy3 : one1 y3 = true) (y4 : Slot) (hy4 : one1 y4 = true) (y5 : Slot) (hy5 : one1 y5 = true) (y9 : Slot) (hy9 : one1 y9 = true) (y10 : Slot) (hy10 : one1 y10 = true) (y11 : Slot) (hy11 : one1 y11 = true) (y14 : Slot) (hy14 : one1 y14 = true) (y15 : Slot) (hy15 : one1 y15 = true) (y16 : Slot) (hy16 : one1 y16 = true) (w : Int32 × St) (hr : f_law_297 n x6 x7 x8 x12 x13 x17 x18 x19 x20 x21 z0 z1 s = some w) : Ev (GG g) M_law 297 [y0, y1, y2, y3, y4, y5, .val (.int x6), .val (.int x7), .val (.int x8), y9, y10, y11, .val (.int x12), .val (.int x13), y14, y15, y16, .val (.int x17), .val (.int x18), .val (.int x19), .val (.int x20), .val (.int x21)] [.int z0, .int z1] (K s) ((some (.int w.1)), (K w.2)) := by
  unfold f_law_297 at hr
  refine Ev.icne (t := 351) at_297 rfl (fun c1 => ?_) (fun c1 => ?_)
  · replace hr := (if_pos c1).symm.trans hr
    refine Ev.iload at_300 rfl ?_
    refine Ev.iload at_302 rfl ?_
    refine Ev.ifeq (t := 316) at_304 rfl (fun c2 => ?_) (fun c2 => ?_)
    · replace hr := (if_pos c2).symm.trans hr
      refine Ev.iconst (z := -1) at_316 rfl ?_
      exact e_law_317 hw V  x7 x12 x13 x18 x19 x20 x21 (-1 : Int32) x17 s y0 hy0 y1 hy1 y2 hy2 y3 hy3 y4 hy4 y5 hy5 (.val (.int x6)) rfl (.val (.int x8)) rfl y9 hy9 y10 hy10 y11 hy11 y14 hy14 y15 hy15 y16 hy16 (.val (.int x17)) rfl _ hr
    · replace hr := (if_neg c2).symm.trans hr
      refine Ev.iconst (z := 1) at_307 rfl ?_
      refine Ev.iload at_308 rfl ?_
      refine Ev.ishl at_310 ?_
      refine Ev.iconst (z := 1) at_311 rfl ?_
      refine Ev.isub at_312 ?_
      refine Ev.goto (t := 317) at_313 rfl ?_
      exact e_law_317 hw V  x7 x12 x13 x18 x19 x20 x21 (((1 : Int32) <<< (x6 &&& 31)) - (1 : Int32)) x17 s y0 hy0 y1 hy1 y2 hy2 y3 hy3 y4 hy4 y5 hy5 (.val (.int x6)) rfl (.val (.int x8)) rfl y9 hy9 y10 hy10 y11 hy11 y14 hy14 y15 hy15 y16 hy16 (.val (.int x17)) rfl _ hr
  · replace hr := (if_neg c1).symm.trans hr
    refine Ev.iconst (z := 0) at_351 rfl ?_
    cases hr
    exact Ev.zret0 rfl at_352
def f_law_277 (n : Nat) (x6 : Int32) (x7 : Int32) (x8 : Int32) (x10 : Int32) (x12 : Int32) (x13 : Int32) (x16 : Int32) (x17 : Int32) (x18 : Int32) (x19 : Int32) (x20 : Int32) (x21 : Int32) (z0 : Int32) (z1 : Int32) (s : St) : Option (Int32 × St) :=
  if z1 = z0 then
    if x10 = 0 then
      f_law_297 n x6 x7 x8 x12 x13 x17 x18 x19 x20 x21 x7 x16 s
    else
      grd (x6 ≠ 0) <|
      f_law_297 n x6 x7 x8 x12 x13 x17 x18 x19 x20 x21 (x7 / x6) x16 s
  else
    some ((0 : Int32), s)
set_option maxRecDepth 100000 in
theorem e_law_277 {g : GT} {n : Nat} (hw : HW g) {K : St → MHeap} {o : Nat} {r : Nat → Nat} (V : View (GG g) Ln K o r) (x6 : Int32) (x7 : Int32) (x8 : Int32) (x10 : Int32) (x12 : Int32) (x13 : Int32) (x16 : Int32) (x17 : Int32) (x18 : Int32) (x19 : Int32) (x20 : Int32) (x21 : Int32) (z0 : Int32) (z1 : Int32) (s : St) (y0 : Slot) (hy0 : one1 y0 = true) (y1 : Slot) (hy1 : one1 y1 = true) (y2 : Slot) (hy2 : one1 y2 = true) (y3 : Slot) (hy3 : one1 y3 = true) (y4 : Slot) (hy4 : one1 y4 = true) (y5 : Slot) (hy5 : one1 y5 = true) (y9 : Slot) (hy9 : one1 y9 = true) (y11 : Slot) (hy11 : one1 y11 = true) (y14 : Slot) (hy14 : one1 y14 = true) (y15 : Slot) (hy15 : one1 y15 = true) (w : Int32 × St) (hr : f_law_277 n x6 x7 x8 x10 x12 x13 x16 x17 x18 x19 x20 x21 z0 z1 s = some w) : Ev (GG g) M_law 277 [y0, y1, y2, y3, y4, y5, .val (.int x6), .val (.int x7), .val (.int x8), y9, .val (.int x10), y11, .val (.int x12), .val (.int x13), y14, y15, .val (.int x16), .val (.int x17), .val (.int x18), .val (.int x19), .val (.int x20), .val (.int x21)] [.int z0, .int z1] (K s) ((some (.int w.1)), (K w.2)) := by
  unfold f_law_277 at hr
  refine Ev.icne (t := 351) at_277 rfl (fun c1 => ?_) (fun c1 => ?_)
  · replace hr := (if_pos c1).symm.trans hr
    refine Ev.iload at_280 rfl ?_
    refine Ev.iload at_282 rfl ?_
    refine Ev.ifeq (t := 295) at_284 rfl (fun c2 => ?_) (fun c2 => ?_)
    · replace hr := (if_pos c2).symm.trans hr
      refine Ev.iload at_295 rfl ?_
      exact e_law_297 hw V  x6 x7 x8 x12 x13 x17 x18 x19 x20 x21 x7 x16 s y0 hy0 y1 hy1 y2 hy2 y3 hy3 y4 hy4 y5 hy5 y9 hy9 (.val (.int x10)) rfl y11 hy11 y14 hy14 y15 hy15 (.val (.int x16)) rfl _ hr
    · replace hr := (if_neg c2).symm.trans hr
      refine Ev.iload at_287 rfl ?_
      refine Ev.iload at_289 rfl ?_
      obtain ⟨c3, hr⟩ := grd_some hr
      refine Ev.idiv at_291 c3 ?_
      refine Ev.goto (t := 297) at_292 rfl ?_
      exact e_law_297 hw V  x6 x7 x8 x12 x13 x17 x18 x19 x20 x21 (x7 / x6) x16 s y0 hy0 y1 hy1 y2 hy2 y3 hy3 y4 hy4 y5 hy5 y9 hy9 (.val (.int x10)) rfl y11 hy11 y14 hy14 y15 hy15 (.val (.int x16)) rfl _ hr
  · replace hr := (if_neg c1).symm.trans hr
    refine Ev.iconst (z := 0) at_351 rfl ?_
    cases hr
    exact Ev.zret0 rfl at_352
def f_law_192 (n : Nat) (x2 : Int32) (x3 : Int32) (x6 : Int32) (x7 : Int32) (x8 : Int32) (x10 : Int32) (x11 : Int32) (x12 : Int32) (z0 : Int32) (s : St) : Option (Int32 × St) :=
  (f_choose n x2 x3 s).bind fun q1 =>
  (f_chosenValue q1.2 x2).bind fun q3 =>
  (f_count n q1.2).bind fun q5 =>
  (f_offeredMask n x2 q5.2).bind fun q7 =>
  (f_choose n x2 x3 q7.2).bind fun q9 =>
  (f_retract x2 q9.2).bind fun q11 =>
  (f_count n q11.2).bind fun q13 =>
  (f_chosenValue q13.2 x2).bind fun q15 =>
  if q1.1 = x11 then
    if x10 = 0 then
      f_law_277 n x6 x7 x8 x10 x12 z0 q5.1 q7.1 q9.1 q11.1 q13.1 q15 (-1 : Int32) q3 q13.2
    else
      f_law_277 n x6 x7 x8 x10 x12 z0 q5.1 q7.1 q9.1 q11.1 q13.1 q15 x3 q3 q13.2
  else
    some ((0 : Int32), q13.2)
set_option maxRecDepth 100000 in
theorem e_law_192 {g : GT} {n : Nat} (hw : HW g) {K : St → MHeap} {o : Nat} {r : Nat → Nat} (V : View (GG g) Ln K o r) (x2 : Int32) (x3 : Int32) (x6 : Int32) (x7 : Int32) (x8 : Int32) (x10 : Int32) (x11 : Int32) (x12 : Int32) (z0 : Int32) (s : St) (y0 : Slot) (hy0 : one1 y0 = true) (y1 : Slot) (hy1 : one1 y1 = true) (y5 : Slot) (hy5 : one1 y5 = true) (y9 : Slot) (hy9 : one1 y9 = true) (y13 : Slot) (hy13 : one1 y13 = true) (y14 : Slot) (hy14 : one1 y14 = true) (y15 : Slot) (hy15 : one1 y15 = true) (y16 : Slot) (hy16 : one1 y16 = true) (y17 : Slot) (hy17 : one1 y17 = true) (y18 : Slot) (hy18 : one1 y18 = true) (y19 : Slot) (hy19 : one1 y19 = true) (y20 : Slot) (hy20 : one1 y20 = true) (y21 : Slot) (hy21 : one1 y21 = true) (w : Int32 × St) (hr : f_law_192 n x2 x3 x6 x7 x8 x10 x11 x12 z0 s = some w) : Ev (GG g) M_law 192 [y0, y1, .val (.int x2), .val (.int x3), .val (.ref o), y5, .val (.int x6), .val (.int x7), .val (.int x8), y9, .val (.int x10), .val (.int x11), .val (.int x12), y13, y14, y15, y16, y17, y18, y19, y20, y21] [.int z0] (K s) ((some (.int w.1)), (K w.2)) := by
  unfold f_law_192 at hr
  refine Ev.istD (L' := [y0, y1, .val (.int x2), .val (.int x3), .val (.ref o), y5, .val (.int x6), .val (.int x7), .val (.int x8), y9, .val (.int x10), .val (.int x11), .val (.int x12), .val (.int z0), y14, y15, y16, y17, y18, y19, y20, y21]) at_192 rfl hy13 rfl ?_
  refine Ev.aload at_194 rfl ?_
  refine Ev.iloadN at_196 rfl ?_
  refine Ev.iloadN at_197 rfl ?_
  obtain ⟨q1, hq2, hr⟩ := Option.bind_eq_some_iff.mp hr
  refine Ev.virt (y := M_choose) (args := [.int x2, .int x3]) (rest := []) (gok hw) rfl nm_choose (ww hw 65 rfl) (ww hw 66 rfl) (ww hw 67 rfl) (ww hw 68 rfl) (ww hw 69 rfl) (lenOf pd_choose rfl) at_198 (V.2.1 s) (e_choose hw V hq2) (by decide) (Nat.le_of_ble_eq_true rfl) rfl ?_
  refine Ev.istD (L' := [y0, y1, .val (.int x2), .val (.int x3), .val (.ref o), y5, .val (.int x6), .val (.int x7), .val (.int x8), y9, .val (.int x10), .val (.int x11), .val (.int x12), .val (.int z0), .val (.int q1.1), y15, y16, y17, y18, y19, y20, y21]) at_201 rfl hy14 rfl ?_
  refine Ev.aload at_203 rfl ?_
  refine Ev.iloadN at_205 rfl ?_
  obtain ⟨q3, hq4, hr⟩ := Option.bind_eq_some_iff.mp hr
  refine Ev.virt (y := M_chosenValue) (args := [.int x2]) (rest := []) (gok hw) rfl nm_chosenValue (ww hw 74 rfl) (ww hw 75 rfl) (ww hw 76 rfl) (ww hw 77 rfl) (ww hw 78 rfl) (lenOf pd_chosenValue rfl) at_206 (V.2.1 q1.2) (e_chosenValue hw V hq4) (by decide) (Nat.le_of_ble_eq_true rfl) rfl ?_
  refine Ev.istD (L' := [y0, y1, .val (.int x2), .val (.int x3), .val (.ref o), y5, .val (.int x6), .val (.int x7), .val (.int x8), y9, .val (.int x10), .val (.int x11), .val (.int x12), .val (.int z0), .val (.int q1.1), .val (.int q3), y16, y17, y18, y19, y20, y21]) at_209 rfl hy15 rfl ?_
  refine Ev.aload at_211 rfl ?_
  obtain ⟨q5, hq6, hr⟩ := Option.bind_eq_some_iff.mp hr
  refine Ev.virt (y := M_count) (args := []) (rest := []) (gok hw) rfl nm_count (ww hw 79 rfl) (ww hw 80 rfl) (ww hw 81 rfl) (ww hw 82 rfl) (ww hw 83 rfl) (lenOf pd_count rfl) at_213 (V.2.1 q1.2) (e_count hw V hq6) (by decide) (Nat.le_of_ble_eq_true rfl) rfl ?_
  refine Ev.istD (L' := [y0, y1, .val (.int x2), .val (.int x3), .val (.ref o), y5, .val (.int x6), .val (.int x7), .val (.int x8), y9, .val (.int x10), .val (.int x11), .val (.int x12), .val (.int z0), .val (.int q1.1), .val (.int q3), .val (.int q5.1), y17, y18, y19, y20, y21]) at_216 rfl hy16 rfl ?_
  refine Ev.aload at_218 rfl ?_
  refine Ev.iloadN at_220 rfl ?_
  obtain ⟨q7, hq8, hr⟩ := Option.bind_eq_some_iff.mp hr
  refine Ev.virt (y := M_offeredMask) (args := [.int x2]) (rest := []) (gok hw) rfl nm_offeredMask (ww hw 96 rfl) (ww hw 97 rfl) (ww hw 98 rfl) (ww hw 99 rfl) (ww hw 100 rfl) (lenOf pd_offeredMask rfl) at_221 (V.2.1 q5.2) (e_offeredMask hw V hq8) (by decide) (Nat.le_of_ble_eq_true rfl) rfl ?_
  refine Ev.istD (L' := [y0, y1, .val (.int x2), .val (.int x3), .val (.ref o), y5, .val (.int x6), .val (.int x7), .val (.int x8), y9, .val (.int x10), .val (.int x11), .val (.int x12), .val (.int z0), .val (.int q1.1), .val (.int q3), .val (.int q5.1), .val (.int q7.1), y18, y19, y20, y21]) at_224 rfl hy17 rfl ?_
  refine Ev.aload at_226 rfl ?_
  refine Ev.iloadN at_228 rfl ?_
  refine Ev.iloadN at_229 rfl ?_
  obtain ⟨q9, hq10, hr⟩ := Option.bind_eq_some_iff.mp hr
  refine Ev.virt (y := M_choose) (args := [.int x2, .int x3]) (rest := []) (gok hw) rfl nm_choose (ww hw 65 rfl) (ww hw 66 rfl) (ww hw 67 rfl) (ww hw 68 rfl) (ww hw 69 rfl) (lenOf pd_choose rfl) at_230 (V.2.1 q7.2) (e_choose hw V hq10) (by decide) (Nat.le_of_ble_eq_true rfl) rfl ?_
  refine Ev.istD (L' := [y0, y1, .val (.int x2), .val (.int x3), .val (.ref o), y5, .val (.int x6), .val (.int x7), .val (.int x8), y9, .val (.int x10), .val (.int x11), .val (.int x12), .val (.int z0), .val (.int q1.1), .val (.int q3), .val (.int q5.1), .val (.int q7.1), .val (.int q9.1), y19, y20, y21]) at_233 rfl hy18 rfl ?_
  refine Ev.aload at_235 rfl ?_
  refine Ev.iloadN at_237 rfl ?_
  obtain ⟨q11, hq12, hr⟩ := Option.bind_eq_some_iff.mp hr
  refine Ev.virt (y := M_retract) (args := [.int x2]) (rest := []) (gok hw) rfl nm_retract (ww hw 101 rfl) (ww hw 102 rfl) (ww hw 103 rfl) (ww hw 104 rfl) (ww hw 105 rfl) (lenOf pd_retract rfl) at_238 (V.2.1 q9.2) (e_retract hw V hq12) (by decide) (Nat.le_of_ble_eq_true rfl) rfl ?_
  refine Ev.istD (L' := [y0, y1, .val (.int x2), .val (.int x3), .val (.ref o), y5, .val (.int x6), .val (.int x7), .val (.int x8), y9, .val (.int x10), .val (.int x11), .val (.int x12), .val (.int z0), .val (.int q1.1), .val (.int q3), .val (.int q5.1), .val (.int q7.1), .val (.int q9.1), .val (.int q11.1), y20, y21]) at_241 rfl hy19 rfl ?_
  refine Ev.aload at_243 rfl ?_
  obtain ⟨q13, hq14, hr⟩ := Option.bind_eq_some_iff.mp hr
  refine Ev.virt (y := M_count) (args := []) (rest := []) (gok hw) rfl nm_count (ww hw 79 rfl) (ww hw 80 rfl) (ww hw 81 rfl) (ww hw 82 rfl) (ww hw 83 rfl) (lenOf pd_count rfl) at_245 (V.2.1 q11.2) (e_count hw V hq14) (by decide) (Nat.le_of_ble_eq_true rfl) rfl ?_
  refine Ev.istD (L' := [y0, y1, .val (.int x2), .val (.int x3), .val (.ref o), y5, .val (.int x6), .val (.int x7), .val (.int x8), y9, .val (.int x10), .val (.int x11), .val (.int x12), .val (.int z0), .val (.int q1.1), .val (.int q3), .val (.int q5.1), .val (.int q7.1), .val (.int q9.1), .val (.int q11.1), .val (.int q13.1), y21]) at_248 rfl hy20 rfl ?_
  refine Ev.aload at_250 rfl ?_
  refine Ev.iloadN at_252 rfl ?_
  obtain ⟨q15, hq16, hr⟩ := Option.bind_eq_some_iff.mp hr
  refine Ev.virt (y := M_chosenValue) (args := [.int x2]) (rest := []) (gok hw) rfl nm_chosenValue (ww hw 74 rfl) (ww hw 75 rfl) (ww hw 76 rfl) (ww hw 77 rfl) (ww hw 78 rfl) (lenOf pd_chosenValue rfl) at_253 (V.2.1 q13.2) (e_chosenValue hw V hq16) (by decide) (Nat.le_of_ble_eq_true rfl) rfl ?_
  refine Ev.istD (L' := [y0, y1, .val (.int x2), .val (.int x3), .val (.ref o), y5, .val (.int x6), .val (.int x7), .val (.int x8), y9, .val (.int x10), .val (.int x11), .val (.int x12), .val (.int z0), .val (.int q1.1), .val (.int q3), .val (.int q5.1), .val (.int q7.1), .val (.int q9.1), .val (.int q11.1), .val (.int q13.1), .val (.int q15)]) at_256 rfl hy21 rfl ?_
  refine Ev.iload at_258 rfl ?_
  refine Ev.iload at_260 rfl ?_
  refine Ev.icne (t := 351) at_262 rfl (fun c17 => ?_) (fun c17 => ?_)
  · replace hr := (if_pos c17).symm.trans hr
    refine Ev.iload at_265 rfl ?_
    refine Ev.iload at_267 rfl ?_
    refine Ev.ifeq (t := 276) at_269 rfl (fun c18 => ?_) (fun c18 => ?_)
    · replace hr := (if_pos c18).symm.trans hr
      refine Ev.iconst (z := -1) at_276 rfl ?_
      exact e_law_277 hw V  x6 x7 x8 x10 x12 z0 q5.1 q7.1 q9.1 q11.1 q13.1 q15 (-1 : Int32) q3 q13.2 y0 hy0 y1 hy1 (.val (.int x2)) rfl (.val (.int x3)) rfl (.val (.ref o)) rfl y5 hy5 y9 hy9 (.val (.int x11)) rfl (.val (.int q1.1)) rfl (.val (.int q3)) rfl _ hr
    · replace hr := (if_neg c18).symm.trans hr
      refine Ev.iloadN at_272 rfl ?_
      refine Ev.goto (t := 277) at_273 rfl ?_
      exact e_law_277 hw V  x6 x7 x8 x10 x12 z0 q5.1 q7.1 q9.1 q11.1 q13.1 q15 x3 q3 q13.2 y0 hy0 y1 hy1 (.val (.int x2)) rfl (.val (.int x3)) rfl (.val (.ref o)) rfl y5 hy5 y9 hy9 (.val (.int x11)) rfl (.val (.int q1.1)) rfl (.val (.int q3)) rfl _ hr
  · replace hr := (if_neg c17).symm.trans hr
    refine Ev.iconst (z := 0) at_351 rfl ?_
    cases hr
    exact Ev.zret0 rfl at_352
def f_law_170 (n : Nat) (x2 : Int32) (x3 : Int32) (x6 : Int32) (x7 : Int32) (x8 : Int32) (x10 : Int32) (x11 : Int32) (z0 : Int32) (s : St) : Option (Int32 × St) :=
  if x8 = 0 then
    f_law_192 n x2 x3 x6 x7 x8 x10 x11 z0 (-1 : Int32) s
  else
    if x10 = 0 then
      f_law_192 n x2 x3 x6 x7 x8 x10 x11 z0 (-9 : Int32) s
    else
      f_law_192 n x2 x3 x6 x7 x8 x10 x11 z0 (0 : Int32) s
set_option maxRecDepth 100000 in
theorem e_law_170 {g : GT} {n : Nat} (hw : HW g) {K : St → MHeap} {o : Nat} {r : Nat → Nat} (V : View (GG g) Ln K o r) (x2 : Int32) (x3 : Int32) (x6 : Int32) (x7 : Int32) (x8 : Int32) (x10 : Int32) (x11 : Int32) (z0 : Int32) (s : St) (y0 : Slot) (hy0 : one1 y0 = true) (y1 : Slot) (hy1 : one1 y1 = true) (y5 : Slot) (hy5 : one1 y5 = true) (y9 : Slot) (hy9 : one1 y9 = true) (y12 : Slot) (hy12 : one1 y12 = true) (y13 : Slot) (hy13 : one1 y13 = true) (y14 : Slot) (hy14 : one1 y14 = true) (y15 : Slot) (hy15 : one1 y15 = true) (y16 : Slot) (hy16 : one1 y16 = true) (y17 : Slot) (hy17 : one1 y17 = true) (y18 : Slot) (hy18 : one1 y18 = true) (y19 : Slot) (hy19 : one1 y19 = true) (y20 : Slot) (hy20 : one1 y20 = true) (y21 : Slot) (hy21 : one1 y21 = true) (w : Int32 × St) (hr : f_law_170 n x2 x3 x6 x7 x8 x10 x11 z0 s = some w) : Ev (GG g) M_law 170 [y0, y1, .val (.int x2), .val (.int x3), .val (.ref o), y5, .val (.int x6), .val (.int x7), .val (.int x8), y9, .val (.int x10), .val (.int x11), y12, y13, y14, y15, y16, y17, y18, y19, y20, y21] [.int z0] (K s) ((some (.int w.1)), (K w.2)) := by
  unfold f_law_170 at hr
  refine Ev.istD (L' := [y0, y1, .val (.int x2), .val (.int x3), .val (.ref o), y5, .val (.int x6), .val (.int x7), .val (.int x8), y9, .val (.int x10), .val (.int x11), .val (.int z0), y13, y14, y15, y16, y17, y18, y19, y20, y21]) at_170 rfl hy12 rfl ?_
  refine Ev.iload at_172 rfl ?_
  refine Ev.ifne (t := 181) at_174 rfl (fun c1 => ?_) (fun c1 => ?_)
  · replace hr := (if_pos c1).symm.trans hr
    refine Ev.iconst (z := -1) at_177 rfl ?_
    refine Ev.goto (t := 192) at_178 rfl ?_
    exact e_law_192 hw V  x2 x3 x6 x7 x8 x10 x11 z0 (-1 : Int32) s y0 hy0 y1 hy1 y5 hy5 y9 hy9 y13 hy13 y14 hy14 y15 hy15 y16 hy16 y17 hy17 y18 hy18 y19 hy19 y20 hy20 y21 hy21 _ hr
  · replace hr := (if_neg c1).symm.trans hr
    refine Ev.iload at_181 rfl ?_
    refine Ev.ifeq (t := 190) at_183 rfl (fun c2 => ?_) (fun c2 => ?_)
    · replace hr := (if_pos c2).symm.trans hr
      refine Ev.bipush (z := -9) at_190 rfl ?_
      exact e_law_192 hw V  x2 x3 x6 x7 x8 x10 x11 z0 (-9 : Int32) s y0 hy0 y1 hy1 y5 hy5 y9 hy9 y13 hy13 y14 hy14 y15 hy15 y16 hy16 y17 hy17 y18 hy18 y19 hy19 y20 hy20 y21 hy21 _ hr
    · replace hr := (if_neg c2).symm.trans hr
      refine Ev.iconst (z := 0) at_186 rfl ?_
      refine Ev.goto (t := 192) at_187 rfl ?_
      exact e_law_192 hw V  x2 x3 x6 x7 x8 x10 x11 z0 (0 : Int32) s y0 hy0 y1 hy1 y5 hy5 y9 hy9 y13 hy13 y14 hy14 y15 hy15 y16 hy16 y17 hy17 y18 hy18 y19 hy19 y20 hy20 y21 hy21 _ hr
def f_law_156 (n : Nat) (x2 : Int32) (x3 : Int32) (x6 : Int32) (x7 : Int32) (x8 : Int32) (x10 : Int32) (z0 : Int32) (s : St) : Option (Int32 × St) :=
  if x10 = 0 then
    f_law_170 n x2 x3 x6 x7 x8 x10 z0 z0 s
  else
    f_law_170 n x2 x3 x6 x7 x8 x10 z0 (-8 : Int32) s
set_option maxRecDepth 100000 in
theorem e_law_156 {g : GT} {n : Nat} (hw : HW g) {K : St → MHeap} {o : Nat} {r : Nat → Nat} (V : View (GG g) Ln K o r) (x2 : Int32) (x3 : Int32) (x6 : Int32) (x7 : Int32) (x8 : Int32) (x10 : Int32) (z0 : Int32) (s : St) (y0 : Slot) (hy0 : one1 y0 = true) (y1 : Slot) (hy1 : one1 y1 = true) (y5 : Slot) (hy5 : one1 y5 = true) (y9 : Slot) (hy9 : one1 y9 = true) (y11 : Slot) (hy11 : one1 y11 = true) (y12 : Slot) (hy12 : one1 y12 = true) (y13 : Slot) (hy13 : one1 y13 = true) (y14 : Slot) (hy14 : one1 y14 = true) (y15 : Slot) (hy15 : one1 y15 = true) (y16 : Slot) (hy16 : one1 y16 = true) (y17 : Slot) (hy17 : one1 y17 = true) (y18 : Slot) (hy18 : one1 y18 = true) (y19 : Slot) (hy19 : one1 y19 = true) (y20 : Slot) (hy20 : one1 y20 = true) (y21 : Slot) (hy21 : one1 y21 = true) (w : Int32 × St) (hr : f_law_156 n x2 x3 x6 x7 x8 x10 z0 s = some w) : Ev (GG g) M_law 156 [y0, y1, .val (.int x2), .val (.int x3), .val (.ref o), y5, .val (.int x6), .val (.int x7), .val (.int x8), y9, .val (.int x10), y11, y12, y13, y14, y15, y16, y17, y18, y19, y20, y21] [.int z0] (K s) ((some (.int w.1)), (K w.2)) := by
  unfold f_law_156 at hr
  refine Ev.istD (L' := [y0, y1, .val (.int x2), .val (.int x3), .val (.ref o), y5, .val (.int x6), .val (.int x7), .val (.int x8), y9, .val (.int x10), .val (.int z0), y12, y13, y14, y15, y16, y17, y18, y19, y20, y21]) at_156 rfl hy11 rfl ?_
  refine Ev.iload at_158 rfl ?_
  refine Ev.ifeq (t := 168) at_160 rfl (fun c1 => ?_) (fun c1 => ?_)
  · replace hr := (if_pos c1).symm.trans hr
    refine Ev.iload at_168 rfl ?_
    exact e_law_170 hw V  x2 x3 x6 x7 x8 x10 z0 z0 s y0 hy0 y1 hy1 y5 hy5 y9 hy9 y12 hy12 y13 hy13 y14 hy14 y15 hy15 y16 hy16 y17 hy17 y18 hy18 y19 hy19 y20 hy20 y21 hy21 _ hr
  · replace hr := (if_neg c1).symm.trans hr
    refine Ev.bipush (z := -8) at_163 rfl ?_
    refine Ev.goto (t := 170) at_165 rfl ?_
    exact e_law_170 hw V  x2 x3 x6 x7 x8 x10 z0 (-8 : Int32) s y0 hy0 y1 hy1 y5 hy5 y9 hy9 y12 hy12 y13 hy13 y14 hy14 y15 hy15 y16 hy16 y17 hy17 y18 hy18 y19 hy19 y20 hy20 y21 hy21 _ hr
def f_law_134 (n : Nat) (x2 : Int32) (x3 : Int32) (x6 : Int32) (x7 : Int32) (x8 : Int32) (x9 : Int32) (z0 : Int32) (s : St) : Option (Int32 × St) :=
  if x8 = 0 then
    f_law_156 n x2 x3 x6 x7 x8 z0 (-1 : Int32) s
  else
    if x9 = 0 then
      f_law_156 n x2 x3 x6 x7 x8 z0 (-2 : Int32) s
    else
      f_law_156 n x2 x3 x6 x7 x8 z0 (0 : Int32) s
set_option maxRecDepth 100000 in
theorem e_law_134 {g : GT} {n : Nat} (hw : HW g) {K : St → MHeap} {o : Nat} {r : Nat → Nat} (V : View (GG g) Ln K o r) (x2 : Int32) (x3 : Int32) (x6 : Int32) (x7 : Int32) (x8 : Int32) (x9 : Int32) (z0 : Int32) (s : St) (y0 : Slot) (hy0 : one1 y0 = true) (y1 : Slot) (hy1 : one1 y1 = true) (y5 : Slot) (hy5 : one1 y5 = true) (y10 : Slot) (hy10 : one1 y10 = true) (y11 : Slot) (hy11 : one1 y11 = true) (y12 : Slot) (hy12 : one1 y12 = true) (y13 : Slot) (hy13 : one1 y13 = true) (y14 : Slot) (hy14 : one1 y14 = true) (y15 : Slot) (hy15 : one1 y15 = true) (y16 : Slot) (hy16 : one1 y16 = true) (y17 : Slot) (hy17 : one1 y17 = true) (y18 : Slot) (hy18 : one1 y18 = true) (y19 : Slot) (hy19 : one1 y19 = true) (y20 : Slot) (hy20 : one1 y20 = true) (y21 : Slot) (hy21 : one1 y21 = true) (w : Int32 × St) (hr : f_law_134 n x2 x3 x6 x7 x8 x9 z0 s = some w) : Ev (GG g) M_law 134 [y0, y1, .val (.int x2), .val (.int x3), .val (.ref o), y5, .val (.int x6), .val (.int x7), .val (.int x8), .val (.int x9), y10, y11, y12, y13, y14, y15, y16, y17, y18, y19, y20, y21] [.int z0] (K s) ((some (.int w.1)), (K w.2)) := by
  unfold f_law_134 at hr
  refine Ev.istD (L' := [y0, y1, .val (.int x2), .val (.int x3), .val (.ref o), y5, .val (.int x6), .val (.int x7), .val (.int x8), .val (.int x9), .val (.int z0), y11, y12, y13, y14, y15, y16, y17, y18, y19, y20, y21]) at_134 rfl hy10 rfl ?_
  refine Ev.iload at_136 rfl ?_
  refine Ev.ifne (t := 145) at_138 rfl (fun c1 => ?_) (fun c1 => ?_)
  · replace hr := (if_pos c1).symm.trans hr
    refine Ev.iconst (z := -1) at_141 rfl ?_
    refine Ev.goto (t := 156) at_142 rfl ?_
    exact e_law_156 hw V  x2 x3 x6 x7 x8 z0 (-1 : Int32) s y0 hy0 y1 hy1 y5 hy5 (.val (.int x9)) rfl y11 hy11 y12 hy12 y13 hy13 y14 hy14 y15 hy15 y16 hy16 y17 hy17 y18 hy18 y19 hy19 y20 hy20 y21 hy21 _ hr
  · replace hr := (if_neg c1).symm.trans hr
    refine Ev.iload at_145 rfl ?_
    refine Ev.ifne (t := 155) at_147 rfl (fun c2 => ?_) (fun c2 => ?_)
    · replace hr := (if_pos c2).symm.trans hr
      refine Ev.bipush (z := -2) at_150 rfl ?_
      refine Ev.goto (t := 156) at_152 rfl ?_
      exact e_law_156 hw V  x2 x3 x6 x7 x8 z0 (-2 : Int32) s y0 hy0 y1 hy1 y5 hy5 (.val (.int x9)) rfl y11 hy11 y12 hy12 y13 hy13 y14 hy14 y15 hy15 y16 hy16 y17 hy17 y18 hy18 y19 hy19 y20 hy20 y21 hy21 _ hr
    · replace hr := (if_neg c2).symm.trans hr
      refine Ev.iconst (z := 0) at_155 rfl ?_
      exact e_law_156 hw V  x2 x3 x6 x7 x8 z0 (0 : Int32) s y0 hy0 y1 hy1 y5 hy5 (.val (.int x9)) rfl y11 hy11 y12 hy12 y13 hy13 y14 hy14 y15 hy15 y16 hy16 y17 hy17 y18 hy18 y19 hy19 y20 hy20 y21 hy21 _ hr
def f_law_117 (n : Nat) (x2 : Int32) (x3 : Int32) (x6 : Int32) (x7 : Int32) (x8 : Int32) (z0 : Int32) (s : St) : Option (Int32 × St) :=
  if x8 = 0 then
    f_law_134 n x2 x3 x6 x7 x8 z0 (0 : Int32) s
  else
    if z0 = 0 then
      f_law_134 n x2 x3 x6 x7 x8 z0 (0 : Int32) s
    else
      f_law_134 n x2 x3 x6 x7 x8 z0 (1 : Int32) s
set_option maxRecDepth 100000 in
theorem e_law_117 {g : GT} {n : Nat} (hw : HW g) {K : St → MHeap} {o : Nat} {r : Nat → Nat} (V : View (GG g) Ln K o r) (x2 : Int32) (x3 : Int32) (x6 : Int32) (x7 : Int32) (x8 : Int32) (z0 : Int32) (s : St) (y0 : Slot) (hy0 : one1 y0 = true) (y1 : Slot) (hy1 : one1 y1 = true) (y5 : Slot) (hy5 : one1 y5 = true) (y9 : Slot) (hy9 : one1 y9 = true) (y10 : Slot) (hy10 : one1 y10 = true) (y11 : Slot) (hy11 : one1 y11 = true) (y12 : Slot) (hy12 : one1 y12 = true) (y13 : Slot) (hy13 : one1 y13 = true) (y14 : Slot) (hy14 : one1 y14 = true) (y15 : Slot) (hy15 : one1 y15 = true) (y16 : Slot) (hy16 : one1 y16 = true) (y17 : Slot) (hy17 : one1 y17 = true) (y18 : Slot) (hy18 : one1 y18 = true) (y19 : Slot) (hy19 : one1 y19 = true) (y20 : Slot) (hy20 : one1 y20 = true) (y21 : Slot) (hy21 : one1 y21 = true) (w : Int32 × St) (hr : f_law_117 n x2 x3 x6 x7 x8 z0 s = some w) : Ev (GG g) M_law 117 [y0, y1, .val (.int x2), .val (.int x3), .val (.ref o), y5, .val (.int x6), .val (.int x7), .val (.int x8), y9, y10, y11, y12, y13, y14, y15, y16, y17, y18, y19, y20, y21] [.int z0] (K s) ((some (.int w.1)), (K w.2)) := by
  unfold f_law_117 at hr
  refine Ev.istD (L' := [y0, y1, .val (.int x2), .val (.int x3), .val (.ref o), y5, .val (.int x6), .val (.int x7), .val (.int x8), .val (.int z0), y10, y11, y12, y13, y14, y15, y16, y17, y18, y19, y20, y21]) at_117 rfl hy9 rfl ?_
  refine Ev.iload at_119 rfl ?_
  refine Ev.ifeq (t := 133) at_121 rfl (fun c1 => ?_) (fun c1 => ?_)
  · replace hr := (if_pos c1).symm.trans hr
    refine Ev.iconst (z := 0) at_133 rfl ?_
    exact e_law_134 hw V  x2 x3 x6 x7 x8 z0 (0 : Int32) s y0 hy0 y1 hy1 y5 hy5 y10 hy10 y11 hy11 y12 hy12 y13 hy13 y14 hy14 y15 hy15 y16 hy16 y17 hy17 y18 hy18 y19 hy19 y20 hy20 y21 hy21 _ hr
  · replace hr := (if_neg c1).symm.trans hr
    refine Ev.iload at_124 rfl ?_
    refine Ev.ifeq (t := 133) at_126 rfl (fun c2 => ?_) (fun c2 => ?_)
    · replace hr := (if_pos c2).symm.trans hr
      refine Ev.iconst (z := 0) at_133 rfl ?_
      exact e_law_134 hw V  x2 x3 x6 x7 x8 z0 (0 : Int32) s y0 hy0 y1 hy1 y5 hy5 y10 hy10 y11 hy11 y12 hy12 y13 hy13 y14 hy14 y15 hy15 y16 hy16 y17 hy17 y18 hy18 y19 hy19 y20 hy20 y21 hy21 _ hr
    · replace hr := (if_neg c2).symm.trans hr
      refine Ev.iconst (z := 1) at_129 rfl ?_
      refine Ev.goto (t := 134) at_130 rfl ?_
      exact e_law_134 hw V  x2 x3 x6 x7 x8 z0 (1 : Int32) s y0 hy0 y1 hy1 y5 hy5 y10 hy10 y11 hy11 y12 hy12 y13 hy13 y14 hy14 y15 hy15 y16 hy16 y17 hy17 y18 hy18 y19 hy19 y20 hy20 y21 hy21 _ hr
def f_law_100 (n : Nat) (x2 : Int32) (x3 : Int32) (x6 : Int32) (x7 : Int32) (z0 : Int32) (s : St) : Option (Int32 × St) :=
  if x3 < 0 then
    f_law_117 n x2 x3 x6 x7 z0 (0 : Int32) s
  else
    if x3 < x6 then
      f_law_117 n x2 x3 x6 x7 z0 (1 : Int32) s
    else
      f_law_117 n x2 x3 x6 x7 z0 (0 : Int32) s
set_option maxRecDepth 100000 in
theorem e_law_100 {g : GT} {n : Nat} (hw : HW g) {K : St → MHeap} {o : Nat} {r : Nat → Nat} (V : View (GG g) Ln K o r) (x2 : Int32) (x3 : Int32) (x6 : Int32) (x7 : Int32) (z0 : Int32) (s : St) (y0 : Slot) (hy0 : one1 y0 = true) (y1 : Slot) (hy1 : one1 y1 = true) (y5 : Slot) (hy5 : one1 y5 = true) (y8 : Slot) (hy8 : one1 y8 = true) (y9 : Slot) (hy9 : one1 y9 = true) (y10 : Slot) (hy10 : one1 y10 = true) (y11 : Slot) (hy11 : one1 y11 = true) (y12 : Slot) (hy12 : one1 y12 = true) (y13 : Slot) (hy13 : one1 y13 = true) (y14 : Slot) (hy14 : one1 y14 = true) (y15 : Slot) (hy15 : one1 y15 = true) (y16 : Slot) (hy16 : one1 y16 = true) (y17 : Slot) (hy17 : one1 y17 = true) (y18 : Slot) (hy18 : one1 y18 = true) (y19 : Slot) (hy19 : one1 y19 = true) (y20 : Slot) (hy20 : one1 y20 = true) (y21 : Slot) (hy21 : one1 y21 = true) (w : Int32 × St) (hr : f_law_100 n x2 x3 x6 x7 z0 s = some w) : Ev (GG g) M_law 100 [y0, y1, .val (.int x2), .val (.int x3), .val (.ref o), y5, .val (.int x6), .val (.int x7), y8, y9, y10, y11, y12, y13, y14, y15, y16, y17, y18, y19, y20, y21] [.int z0] (K s) ((some (.int w.1)), (K w.2)) := by
  unfold f_law_100 at hr
  refine Ev.istD (L' := [y0, y1, .val (.int x2), .val (.int x3), .val (.ref o), y5, .val (.int x6), .val (.int x7), .val (.int z0), y9, y10, y11, y12, y13, y14, y15, y16, y17, y18, y19, y20, y21]) at_100 rfl hy8 rfl ?_
  refine Ev.iloadN at_102 rfl ?_
  refine Ev.iflt (t := 116) at_103 rfl (fun c1 => ?_) (fun c1 => ?_)
  · replace hr := (if_pos c1).symm.trans hr
    refine Ev.iconst (z := 0) at_116 rfl ?_
    exact e_law_117 hw V  x2 x3 x6 x7 z0 (0 : Int32) s y0 hy0 y1 hy1 y5 hy5 y9 hy9 y10 hy10 y11 hy11 y12 hy12 y13 hy13 y14 hy14 y15 hy15 y16 hy16 y17 hy17 y18 hy18 y19 hy19 y20 hy20 y21 hy21 _ hr
  · replace hr := (if_neg c1).symm.trans hr
    refine Ev.iloadN at_106 rfl ?_
    refine Ev.iload at_107 rfl ?_
    refine Ev.icge (t := 116) at_109 rfl (fun c2 => ?_) (fun c2 => ?_)
    · replace hr := (if_pos c2).symm.trans hr
      refine Ev.iconst (z := 1) at_112 rfl ?_
      refine Ev.goto (t := 117) at_113 rfl ?_
      exact e_law_117 hw V  x2 x3 x6 x7 z0 (1 : Int32) s y0 hy0 y1 hy1 y5 hy5 y9 hy9 y10 hy10 y11 hy11 y12 hy12 y13 hy13 y14 hy14 y15 hy15 y16 hy16 y17 hy17 y18 hy18 y19 hy19 y20 hy20 y21 hy21 _ hr
    · replace hr := (if_neg c2).symm.trans hr
      refine Ev.iconst (z := 0) at_116 rfl ?_
      exact e_law_117 hw V  x2 x3 x6 x7 z0 (0 : Int32) s y0 hy0 y1 hy1 y5 hy5 y9 hy9 y10 hy10 y11 hy11 y12 hy12 y13 hy13 y14 hy14 y15 hy15 y16 hy16 y17 hy17 y18 hy18 y19 hy19 y20 hy20 y21 hy21 _ hr
def f_law_59 (n : Nat) : Nat → Int32 → Int32 → Int32 → Int32 → Int32 → Int32 → St → Option (Int32 × St)
  | 0 => fun _ _ _ _ _ _ _ => none
  | k + 1 => fun x2 x3 x5 x6 x7 x8 s =>
    if x8 < (5 : Int32) then
      if x8 < x5 then
        f_law_59 n k x2 x3 x5 x6 (x7 * x6) (x8 + (1 : Int32)) s
      else
        f_law_59 n k x2 x3 x5 x6 x7 (x8 + (1 : Int32)) s
    else
      if x2 < 0 then
        f_law_100 n x2 x3 x6 x7 (0 : Int32) s
      else
        if x2 < x5 then
          f_law_100 n x2 x3 x6 x7 (1 : Int32) s
        else
          f_law_100 n x2 x3 x6 x7 (0 : Int32) s
set_option maxRecDepth 100000 in
theorem e_law_59 {g : GT} {n : Nat} (hw : HW g) {K : St → MHeap} {o : Nat} {r : Nat → Nat} (V : View (GG g) Ln K o r) (k : Nat) : ∀ (x2 : Int32) (x3 : Int32) (x5 : Int32) (x6 : Int32) (x7 : Int32) (x8 : Int32) (s : St) (y0 : Slot) (hy0 : one1 y0 = true) (y1 : Slot) (hy1 : one1 y1 = true) (y9 : Slot) (hy9 : one1 y9 = true) (y10 : Slot) (hy10 : one1 y10 = true) (y11 : Slot) (hy11 : one1 y11 = true) (y12 : Slot) (hy12 : one1 y12 = true) (y13 : Slot) (hy13 : one1 y13 = true) (y14 : Slot) (hy14 : one1 y14 = true) (y15 : Slot) (hy15 : one1 y15 = true) (y16 : Slot) (hy16 : one1 y16 = true) (y17 : Slot) (hy17 : one1 y17 = true) (y18 : Slot) (hy18 : one1 y18 = true) (y19 : Slot) (hy19 : one1 y19 = true) (y20 : Slot) (hy20 : one1 y20 = true) (y21 : Slot) (hy21 : one1 y21 = true) (w : Int32 × St), f_law_59 n k x2 x3 x5 x6 x7 x8 s = some w → Ev (GG g) M_law 59 [y0, y1, .val (.int x2), .val (.int x3), .val (.ref o), .val (.int x5), .val (.int x6), .val (.int x7), .val (.int x8), y9, y10, y11, y12, y13, y14, y15, y16, y17, y18, y19, y20, y21] [] (K s) ((some (.int w.1)), (K w.2)) := by
  induction k with
  | zero => intro x2 x3 x5 x6 x7 x8 s y0 hy0 y1 hy1 y9 hy9 y10 hy10 y11 hy11 y12 hy12 y13 hy13 y14 hy14 y15 hy15 y16 hy16 y17 hy17 y18 hy18 y19 hy19 y20 hy20 y21 hy21 w hr; rw [f_law_59] at hr; cases hr
  | succ k ih =>
    intro x2 x3 x5 x6 x7 x8 s y0 hy0 y1 hy1 y9 hy9 y10 hy10 y11 hy11 y12 hy12 y13 hy13 y14 hy14 y15 hy15 y16 hy16 y17 hy17 y18 hy18 y19 hy19 y20 hy20 y21 hy21 w hr
    rw [f_law_59] at hr
    refine Ev.iload at_59 rfl ?_
    refine Ev.iconst (z := 5) at_61 rfl ?_
    refine Ev.icge (t := 85) at_62 rfl (fun c1 => ?_) (fun c1 => ?_)
    · replace hr := (if_pos c1).symm.trans hr
      refine Ev.iload at_65 rfl ?_
      refine Ev.iload at_67 rfl ?_
      refine Ev.icge (t := 79) at_69 rfl (fun c2 => ?_) (fun c2 => ?_)
      · replace hr := (if_pos c2).symm.trans hr
        refine Ev.iload at_72 rfl ?_
        refine Ev.iload at_74 rfl ?_
        refine Ev.imul at_76 ?_
        refine Ev.istD (L' := [y0, y1, .val (.int x2), .val (.int x3), .val (.ref o), .val (.int x5), .val (.int x6), .val (.int (x7 * x6)), .val (.int x8), y9, y10, y11, y12, y13, y14, y15, y16, y17, y18, y19, y20, y21]) at_77 rfl rfl rfl ?_
        refine Ev.iinc (z := 1) (L' := [y0, y1, .val (.int x2), .val (.int x3), .val (.ref o), .val (.int x5), .val (.int x6), .val (.int (x7 * x6)), .val (.int (x8 + (1 : Int32))), y9, y10, y11, y12, y13, y14, y15, y16, y17, y18, y19, y20, y21]) at_79 rfl rfl rfl ?_
        refine Ev.goto (t := 59) at_82 rfl ?_
        exact ih x2 x3 x5 x6 (x7 * x6) (x8 + (1 : Int32)) s y0 hy0 y1 hy1 y9 hy9 y10 hy10 y11 hy11 y12 hy12 y13 hy13 y14 hy14 y15 hy15 y16 hy16 y17 hy17 y18 hy18 y19 hy19 y20 hy20 y21 hy21 _ hr
      · replace hr := (if_neg c2).symm.trans hr
        refine Ev.iinc (z := 1) (L' := [y0, y1, .val (.int x2), .val (.int x3), .val (.ref o), .val (.int x5), .val (.int x6), .val (.int x7), .val (.int (x8 + (1 : Int32))), y9, y10, y11, y12, y13, y14, y15, y16, y17, y18, y19, y20, y21]) at_79 rfl rfl rfl ?_
        refine Ev.goto (t := 59) at_82 rfl ?_
        exact ih x2 x3 x5 x6 x7 (x8 + (1 : Int32)) s y0 hy0 y1 hy1 y9 hy9 y10 hy10 y11 hy11 y12 hy12 y13 hy13 y14 hy14 y15 hy15 y16 hy16 y17 hy17 y18 hy18 y19 hy19 y20 hy20 y21 hy21 _ hr
    · replace hr := (if_neg c1).symm.trans hr
      refine Ev.iloadN at_85 rfl ?_
      refine Ev.iflt (t := 99) at_86 rfl (fun c3 => ?_) (fun c3 => ?_)
      · replace hr := (if_pos c3).symm.trans hr
        refine Ev.iconst (z := 0) at_99 rfl ?_
        exact e_law_100 hw V  x2 x3 x6 x7 (0 : Int32) s y0 hy0 y1 hy1 (.val (.int x5)) rfl (.val (.int x8)) rfl y9 hy9 y10 hy10 y11 hy11 y12 hy12 y13 hy13 y14 hy14 y15 hy15 y16 hy16 y17 hy17 y18 hy18 y19 hy19 y20 hy20 y21 hy21 _ hr
      · replace hr := (if_neg c3).symm.trans hr
        refine Ev.iloadN at_89 rfl ?_
        refine Ev.iload at_90 rfl ?_
        refine Ev.icge (t := 99) at_92 rfl (fun c4 => ?_) (fun c4 => ?_)
        · replace hr := (if_pos c4).symm.trans hr
          refine Ev.iconst (z := 1) at_95 rfl ?_
          refine Ev.goto (t := 100) at_96 rfl ?_
          exact e_law_100 hw V  x2 x3 x6 x7 (1 : Int32) s y0 hy0 y1 hy1 (.val (.int x5)) rfl (.val (.int x8)) rfl y9 hy9 y10 hy10 y11 hy11 y12 hy12 y13 hy13 y14 hy14 y15 hy15 y16 hy16 y17 hy17 y18 hy18 y19 hy19 y20 hy20 y21 hy21 _ hr
        · replace hr := (if_neg c4).symm.trans hr
          refine Ev.iconst (z := 0) at_99 rfl ?_
          exact e_law_100 hw V  x2 x3 x6 x7 (0 : Int32) s y0 hy0 y1 hy1 (.val (.int x5)) rfl (.val (.int x8)) rfl y9 hy9 y10 hy10 y11 hy11 y12 hy12 y13 hy13 y14 hy14 y15 hy15 y16 hy16 y17 hy17 y18 hy18 y19 hy19 y20 hy20 y21 hy21 _ hr
def f_law_51 (n : Nat) (x2 : Int32) (x3 : Int32) (x5 : Int32) (z0 : Int32) (s : St) : Option (Int32 × St) :=
  f_law_59 n n x2 x3 x5 z0 (1 : Int32) (0 : Int32) s
set_option maxRecDepth 100000 in
theorem e_law_51 {g : GT} {n : Nat} (hw : HW g) {K : St → MHeap} {o : Nat} {r : Nat → Nat} (V : View (GG g) Ln K o r) (x2 : Int32) (x3 : Int32) (x5 : Int32) (z0 : Int32) (s : St) (y0 : Slot) (hy0 : one1 y0 = true) (y1 : Slot) (hy1 : one1 y1 = true) (y6 : Slot) (hy6 : one1 y6 = true) (y7 : Slot) (hy7 : one1 y7 = true) (y8 : Slot) (hy8 : one1 y8 = true) (y9 : Slot) (hy9 : one1 y9 = true) (y10 : Slot) (hy10 : one1 y10 = true) (y11 : Slot) (hy11 : one1 y11 = true) (y12 : Slot) (hy12 : one1 y12 = true) (y13 : Slot) (hy13 : one1 y13 = true) (y14 : Slot) (hy14 : one1 y14 = true) (y15 : Slot) (hy15 : one1 y15 = true) (y16 : Slot) (hy16 : one1 y16 = true) (y17 : Slot) (hy17 : one1 y17 = true) (y18 : Slot) (hy18 : one1 y18 = true) (y19 : Slot) (hy19 : one1 y19 = true) (y20 : Slot) (hy20 : one1 y20 = true) (y21 : Slot) (hy21 : one1 y21 = true) (w : Int32 × St) (hr : f_law_51 n x2 x3 x5 z0 s = some w) : Ev (GG g) M_law 51 [y0, y1, .val (.int x2), .val (.int x3), .val (.ref o), .val (.int x5), y6, y7, y8, y9, y10, y11, y12, y13, y14, y15, y16, y17, y18, y19, y20, y21] [.int z0] (K s) ((some (.int w.1)), (K w.2)) := by
  unfold f_law_51 at hr
  refine Ev.istD (L' := [y0, y1, .val (.int x2), .val (.int x3), .val (.ref o), .val (.int x5), .val (.int z0), y7, y8, y9, y10, y11, y12, y13, y14, y15, y16, y17, y18, y19, y20, y21]) at_51 rfl hy6 rfl ?_
  refine Ev.iconst (z := 1) at_53 rfl ?_
  refine Ev.istD (L' := [y0, y1, .val (.int x2), .val (.int x3), .val (.ref o), .val (.int x5), .val (.int z0), .val (.int (1 : Int32)), y8, y9, y10, y11, y12, y13, y14, y15, y16, y17, y18, y19, y20, y21]) at_54 rfl hy7 rfl ?_
  refine Ev.iconst (z := 0) at_56 rfl ?_
  refine Ev.istD (L' := [y0, y1, .val (.int x2), .val (.int x3), .val (.ref o), .val (.int x5), .val (.int z0), .val (.int (1 : Int32)), .val (.int (0 : Int32)), y9, y10, y11, y12, y13, y14, y15, y16, y17, y18, y19, y20, y21]) at_57 rfl hy8 rfl ?_
  exact e_law_59 hw V  n x2 x3 x5 z0 (1 : Int32) (0 : Int32) s y0 hy0 y1 hy1 y9 hy9 y10 hy10 y11 hy11 y12 hy12 y13 hy13 y14 hy14 y15 hy15 y16 hy16 y17 hy17 y18 hy18 y19 hy19 y20 hy20 y21 hy21 _ hr
def f_law_30 (n : Nat) (x1 : Int32) (x2 : Int32) (x3 : Int32) (z0 : Int32) (s : St) : Option (Int32 × St) :=
  if x1 < (2 : Int32) then
    f_law_51 n x2 x3 z0 (2 : Int32) s
  else
    if (4 : Int32) < x1 then
      f_law_51 n x2 x3 z0 (4 : Int32) s
    else
      f_law_51 n x2 x3 z0 x1 s
set_option maxRecDepth 100000 in
theorem e_law_30 {g : GT} {n : Nat} (hw : HW g) {K : St → MHeap} {o : Nat} {r : Nat → Nat} (V : View (GG g) Ln K o r) (x1 : Int32) (x2 : Int32) (x3 : Int32) (z0 : Int32) (s : St) (y0 : Slot) (hy0 : one1 y0 = true) (y5 : Slot) (hy5 : one1 y5 = true) (y6 : Slot) (hy6 : one1 y6 = true) (y7 : Slot) (hy7 : one1 y7 = true) (y8 : Slot) (hy8 : one1 y8 = true) (y9 : Slot) (hy9 : one1 y9 = true) (y10 : Slot) (hy10 : one1 y10 = true) (y11 : Slot) (hy11 : one1 y11 = true) (y12 : Slot) (hy12 : one1 y12 = true) (y13 : Slot) (hy13 : one1 y13 = true) (y14 : Slot) (hy14 : one1 y14 = true) (y15 : Slot) (hy15 : one1 y15 = true) (y16 : Slot) (hy16 : one1 y16 = true) (y17 : Slot) (hy17 : one1 y17 = true) (y18 : Slot) (hy18 : one1 y18 = true) (y19 : Slot) (hy19 : one1 y19 = true) (y20 : Slot) (hy20 : one1 y20 = true) (y21 : Slot) (hy21 : one1 y21 = true) (w : Int32 × St) (hr : f_law_30 n x1 x2 x3 z0 s = some w) : Ev (GG g) M_law 30 [y0, .val (.int x1), .val (.int x2), .val (.int x3), .val (.ref o), y5, y6, y7, y8, y9, y10, y11, y12, y13, y14, y15, y16, y17, y18, y19, y20, y21] [.int z0] (K s) ((some (.int w.1)), (K w.2)) := by
  unfold f_law_30 at hr
  refine Ev.istD (L' := [y0, .val (.int x1), .val (.int x2), .val (.int x3), .val (.ref o), .val (.int z0), y6, y7, y8, y9, y10, y11, y12, y13, y14, y15, y16, y17, y18, y19, y20, y21]) at_30 rfl hy5 rfl ?_
  refine Ev.iloadN at_32 rfl ?_
  refine Ev.iconst (z := 2) at_33 rfl ?_
  refine Ev.icge (t := 41) at_34 rfl (fun c1 => ?_) (fun c1 => ?_)
  · replace hr := (if_pos c1).symm.trans hr
    refine Ev.iconst (z := 2) at_37 rfl ?_
    refine Ev.goto (t := 51) at_38 rfl ?_
    exact e_law_51 hw V  x2 x3 z0 (2 : Int32) s y0 hy0 (.val (.int x1)) rfl y6 hy6 y7 hy7 y8 hy8 y9 hy9 y10 hy10 y11 hy11 y12 hy12 y13 hy13 y14 hy14 y15 hy15 y16 hy16 y17 hy17 y18 hy18 y19 hy19 y20 hy20 y21 hy21 _ hr
  · replace hr := (if_neg c1).symm.trans hr
    refine Ev.iloadN at_41 rfl ?_
    refine Ev.iconst (z := 4) at_42 rfl ?_
    refine Ev.icle (t := 50) at_43 rfl (fun c2 => ?_) (fun c2 => ?_)
    · replace hr := (if_pos c2).symm.trans hr
      refine Ev.iconst (z := 4) at_46 rfl ?_
      refine Ev.goto (t := 51) at_47 rfl ?_
      exact e_law_51 hw V  x2 x3 z0 (4 : Int32) s y0 hy0 (.val (.int x1)) rfl y6 hy6 y7 hy7 y8 hy8 y9 hy9 y10 hy10 y11 hy11 y12 hy12 y13 hy13 y14 hy14 y15 hy15 y16 hy16 y17 hy17 y18 hy18 y19 hy19 y20 hy20 y21 hy21 _ hr
    · replace hr := (if_neg c2).symm.trans hr
      refine Ev.iloadN at_50 rfl ?_
      exact e_law_51 hw V  x2 x3 z0 x1 s y0 hy0 (.val (.int x1)) rfl y6 hy6 y7 hy7 y8 hy8 y9 hy9 y10 hy10 y11 hy11 y12 hy12 y13 hy13 y14 hy14 y15 hy15 y16 hy16 y17 hy17 y18 hy18 y19 hy19 y20 hy20 y21 hy21 _ hr
def f_law_9 (n : Nat) (x0 : Int32) (x1 : Int32) (x2 : Int32) (x3 : Int32) (s : St) : Option (Int32 × St) :=
  if x0 < (1 : Int32) then
    f_law_30 n x1 x2 x3 (1 : Int32) s
  else
    if (5 : Int32) < x0 then
      f_law_30 n x1 x2 x3 (5 : Int32) s
    else
      f_law_30 n x1 x2 x3 x0 s
set_option maxRecDepth 100000 in
theorem e_law_9 {g : GT} {n : Nat} (hw : HW g) {K : St → MHeap} {o : Nat} {r : Nat → Nat} (V : View (GG g) Ln K o r) (x0 : Int32) (x1 : Int32) (x2 : Int32) (x3 : Int32) (s : St) (y4 : Slot) (hy4 : one1 y4 = true) (y5 : Slot) (hy5 : one1 y5 = true) (y6 : Slot) (hy6 : one1 y6 = true) (y7 : Slot) (hy7 : one1 y7 = true) (y8 : Slot) (hy8 : one1 y8 = true) (y9 : Slot) (hy9 : one1 y9 = true) (y10 : Slot) (hy10 : one1 y10 = true) (y11 : Slot) (hy11 : one1 y11 = true) (y12 : Slot) (hy12 : one1 y12 = true) (y13 : Slot) (hy13 : one1 y13 = true) (y14 : Slot) (hy14 : one1 y14 = true) (y15 : Slot) (hy15 : one1 y15 = true) (y16 : Slot) (hy16 : one1 y16 = true) (y17 : Slot) (hy17 : one1 y17 = true) (y18 : Slot) (hy18 : one1 y18 = true) (y19 : Slot) (hy19 : one1 y19 = true) (y20 : Slot) (hy20 : one1 y20 = true) (y21 : Slot) (hy21 : one1 y21 = true) (w : Int32 × St) (hr : f_law_9 n x0 x1 x2 x3 s = some w) : Ev (GG g) M_law 9 [.val (.int x0), .val (.int x1), .val (.int x2), .val (.int x3), y4, y5, y6, y7, y8, y9, y10, y11, y12, y13, y14, y15, y16, y17, y18, y19, y20, y21] [.ref o] (K s) ((some (.int w.1)), (K w.2)) := by
  unfold f_law_9 at hr
  refine Ev.astD (L' := [.val (.int x0), .val (.int x1), .val (.int x2), .val (.int x3), .val (.ref o), y5, y6, y7, y8, y9, y10, y11, y12, y13, y14, y15, y16, y17, y18, y19, y20, y21]) at_9 rfl hy4 rfl ?_
  refine Ev.iloadN at_11 rfl ?_
  refine Ev.iconst (z := 1) at_12 rfl ?_
  refine Ev.icge (t := 20) at_13 rfl (fun c1 => ?_) (fun c1 => ?_)
  · replace hr := (if_pos c1).symm.trans hr
    refine Ev.iconst (z := 1) at_16 rfl ?_
    refine Ev.goto (t := 30) at_17 rfl ?_
    exact e_law_30 hw V  x1 x2 x3 (1 : Int32) s (.val (.int x0)) rfl y5 hy5 y6 hy6 y7 hy7 y8 hy8 y9 hy9 y10 hy10 y11 hy11 y12 hy12 y13 hy13 y14 hy14 y15 hy15 y16 hy16 y17 hy17 y18 hy18 y19 hy19 y20 hy20 y21 hy21 _ hr
  · replace hr := (if_neg c1).symm.trans hr
    refine Ev.iloadN at_20 rfl ?_
    refine Ev.iconst (z := 5) at_21 rfl ?_
    refine Ev.icle (t := 29) at_22 rfl (fun c2 => ?_) (fun c2 => ?_)
    · replace hr := (if_pos c2).symm.trans hr
      refine Ev.iconst (z := 5) at_25 rfl ?_
      refine Ev.goto (t := 30) at_26 rfl ?_
      exact e_law_30 hw V  x1 x2 x3 (5 : Int32) s (.val (.int x0)) rfl y5 hy5 y6 hy6 y7 hy7 y8 hy8 y9 hy9 y10 hy10 y11 hy11 y12 hy12 y13 hy13 y14 hy14 y15 hy15 y16 hy16 y17 hy17 y18 hy18 y19 hy19 y20 hy20 y21 hy21 _ hr
    · replace hr := (if_neg c2).symm.trans hr
      refine Ev.iloadN at_29 rfl ?_
      exact e_law_30 hw V  x1 x2 x3 x0 s (.val (.int x0)) rfl y5 hy5 y6 hy6 y7 hy7 y8 hy8 y9 hy9 y10 hy10 y11 hy11 y12 hy12 y13 hy13 y14 hy14 y15 hy15 y16 hy16 y17 hy17 y18 hy18 y19 hy19 y20 hy20 y21 hy21 _ hr
def f_law (n : Nat) (a0 : Int32) (a1 : Int32) (a2 : Int32) (a3 : Int32) : Option (Int32 × St) :=
  (f_ctor n a0 a1).bind fun q1 =>
  f_law_9 n a0 a1 a2 a3 q1
set_option maxRecDepth 100000 in
theorem e_law {g : GT} {n : Nat} {a0 : Int32} {a1 : Int32} {a2 : Int32} {a3 : Int32} {w : Int32 × St} (hw : HW g) (hk : k0 (GG g) ≤ (H0).length) (hr : f_law n a0 a1 a2 a3 = some w) : EvC (GG g) M_law [.int a0, .int a1, .int a2, .int a3] H0 ((some (.int w.1)), (KL w.2)) := by
  refine EvC.enter (L0 := [.val (.int a0), .val (.int a1), .val (.int a2), .val (.int a3), .unset, .unset, .unset, .unset, .unset, .unset, .unset, .unset, .unset, .unset, .unset, .unset, .unset, .unset, .unset, .unset, .unset, .unset]) pl_law (fun h => nomatch h) rfl rfl ?_
  unfold f_law at hr
  refine Ev.new (gok hw) (ww hw 0 rfl) at_0 (fs := dfl) rfl ?_
  refine Ev.dup at_3 rfl ?_
  refine Ev.iloadN at_4 rfl ?_
  refine Ev.iloadN at_5 rfl ?_
  obtain ⟨q1, hq2, hr⟩ := Option.bind_eq_some_iff.mp hr
  refine Ev.ctor (y := M_ctor) (args := [.int a0, .int a1]) (rest := [.ref (H0).length]) rfl rfl nm_ctor (ww hw 3 rfl) (ww hw 4 rfl) (ww hw 5 rfl) (ww hw 2 rfl) (lenOf pd_ctor rfl) at_6 (e_ctor hw hk hq2) (by decide) (Nat.le_of_ble_eq_true rfl) rfl ?_
  exact e_law_9 hw (K := KL) (o := (H0).length) (r := rA (H0).length al) (view_of hk al_ok al_nd)  a0 a1 a2 a3 q1 .unset rfl .unset rfl .unset rfl .unset rfl .unset rfl .unset rfl .unset rfl .unset rfl .unset rfl .unset rfl .unset rfl .unset rfl .unset rfl .unset rfl .unset rfl .unset rfl .unset rfl .unset rfl _ hr
theorem fin_len (w : St) : (KL w).length - H0.length ≤ 56 := by
  have q : al.length = 20 := rfl
  unfold KL; rw [KH_len]; simp only [List.length_nil]; omega
theorem fin_hsl (w : St) : hsl 31 (KL w) - hsl 31 H0 ≤ 51968 := by
  have q : (al.map fun q => Ln q.1).sum = 25896 := by decide +kernel
  have z : hsl 31 [] = 0 := rfl
  unfold KL; rw [hsl_KH, q, z]; omega
set_option maxRecDepth 100000 in
theorem comes_1 (plain : ∀ i0 i1 i2 i3 : Int32, ∃ n w, f_law n i0 i1 i2 i3 = some (1, w)) {Post : Tables → Env → Array Value → State → Outcome → State → Prop} (hpost : ∀ tb e args s v u, (limb_1_1.after args s (.returned v) u = true ∧ limb_1_2.after args s (.returned v) u = true ∧ True) → FrameEnd s (.returned v) u (Jvm.fieldLocs frame_1_writes args s ++ Jvm.arrayLocs frame_1_arrays args s ++ Jvm.staticLocs frame_1_statics s) 56 51968 → Post tb e args s (.returned v) u) :
    ArmFor flags0 classFile x code maxLocals ret World_1 tables_1 room_1 Calls_1 rest_1 Pre_1 Post := by
  intro l hfl _ _ p e ha hc hk s m args below hf hA hF happ hP
  obtain ⟨hcalls, hrest, hpre⟩ := hP
  obtain ⟨-, -, -, hnamed, -, -, -, hat⟩ := (Spec.applies_iff hf).mp happ
  obtain ⟨hg, hn⟩ := and_e (Cond.before_iff.mp (show (Jvm.Cond.and given_1 narrow_1).before args s = true from hpre))
  obtain ⟨g0, hg⟩ := and_e hg
  obtain ⟨g1, hg⟩ := and_e hg
  obtain ⟨g2, hg⟩ := and_e hg
  obtain ⟨g3, hg⟩ := and_e hg
  obtain ⟨w0, w1, w2, w3, rfl⟩ : ∃ w0 w1 w2 w3 : Value, args = #[w0, w1, w2, w3] := by
    have hs : args.size = 4 := by simpa [Cond.value, given_1] using g0
    obtain ⟨L⟩ := args
    match L, hs with
    | [w0, w1, w2, w3], _ => exact ⟨w0, w1, w2, w3, rfl⟩
  have hw := fun d (hd : d ∈ tables_1) => atoms_spec (ws := Jvm.Cond.code x code maxLocals ret :: tables_1) hat d (List.mem_cons_of_mem _ hd)
  obtain ⟨i0, ei0⟩ := is_v g1
  obtain rfl : w0 = (.int i0) := Option.some.inj ei0
  obtain ⟨i1, ei1⟩ := is_v g2
  obtain rfl : w1 = (.int i1) := Option.some.inj ei1
  obtain ⟨i2, ei2⟩ := is_v g3
  obtain rfl : w2 = (.int i2) := Option.some.inj ei2
  obtain ⟨i3, ei3⟩ := is_v hg
  obtain rfl : w3 = (.int i3) := Option.some.inj ei3
  obtain ⟨n, w, hr⟩ := plain i0 i1 i2 i3
  have hE := e_law (g := (s, _, l, none, s.heap.size)) hw (Nat.le_refl _) hr
  obtain ⟨n, o, h1, h2, h3, _, L, rfl, ⟨rfl, N, -⟩, hq⟩ := hE.2 tables_1 room_1 s.heap (by decide) (by decide) (fin_len w) (fin_hsl w) ⟨rfl, Nat.le_refl _, fun a q => (nomatch q), fun i c q => by simp [H0] at q⟩ p e ha hc hk s m _ below hf ((Spec.applies_iff_loose hf).mp happ).1 ⟨rfl, State.Warmed39.refl s, rfl⟩ trivial
  exact ⟨n, _, h1, h2, h3, hpost _ _ _ _ _ _ ⟨Cond.after_iff.mpr rfl, Cond.after_iff.mpr (eq_i res_at (Term.int_eval (1)) rfl), trivial⟩ ⟨hq.1, hq.2.1, (hq.2.2.sift fun y hy => Or.inr (N y hy)).mono (fin_len w) (fin_hsl w)⟩⟩
theorem u_gap_5 (n : Nat) (s : St) (k : Nat) (x2 : Int32) (x3 : Int32) (x4 : Int32) : f_gap_5 n s (k + 1) x2 x3 x4 =
    (if x4 < x2 then
      if x4 < (5 : Int32) then
        grd (inb x4 5) <|
        if (s.2 3 (ix x4)) < 0 then
          f_gap_5 n s k x2 (x3 * (s.1 21)) (x4 + (1 : Int32))
        else
          f_gap_5 n s k x2 x3 (x4 + (1 : Int32))
      else
        some x3
    else
      some x3) := rfl
theorem u_loadChoices_2 (n : Nat) (k : Nat) (x1 : Int32) (s : St) : f_loadChoices_2 n (k + 1) x1 s =
    (if x1 < (5 : Int32) then
      grd (inb x1 5) <|
      bnd (setA s 3 (ix x1) (s.2 2 (ix x1))) fun s3 =>
      f_loadChoices_2 n k (x1 + (1 : Int32)) s3
    else
      some s) := rfl
theorem u_countFixed_26 (n : Nat) (k : Nat) (x1 : Int32) (x2 : Int32) (s : St) : f_countFixed_26 n (k + 1) x1 x2 s =
    (if x1 < x2 then
      f_countFixed_55 n x1 s
    else
      if x2 < (2048 : Int32) then
        none
      else
        f_countFixed_55 n x1 s) := rfl
theorem u_offeredMask_14 (n : Nat) (k : Nat) (x1 : Int32) (x2 : Int32) (x3 : Int32) (s : St) : f_offeredMask_14 n (k + 1) x1 x2 x3 s =
    (if x3 < (s.1 21) then
      (f_countWith n x1 x3 s).bind fun q2 =>
      if 0 < q2.1 then
        f_offeredMask_14 n k x1 (x2 ||| ((1 : Int32) <<< (x3 &&& 31))) (x3 + (1 : Int32)) q2.2
      else
        f_offeredMask_14 n k x1 x2 (x3 + (1 : Int32)) q2.2
    else
      some (x2, s)) := rfl
theorem u_clearUnique_2 (n : Nat) (k : Nat) (x1 : Int32) (s : St) : f_clearUnique_2 n (k + 1) x1 s =
    (if x1 < (4096 : Int32) then
      grd (inb x1 4096) <|
      bnd (setA s 7 (ix x1) (0 : Int32)) fun s3 =>
      f_clearUnique_2 n k (x1 + (1 : Int32)) s3
    else
      some s) := rfl
theorem u_ctor_266 (n : Nat) (k : Nat) (x3 : Int32) (s : St) : f_ctor_266 n (k + 1) x3 s =
    (if x3 < (5 : Int32) then
      grd (inb x3 5) <|
      bnd (setA s 2 (ix x3) (-1 : Int32)) fun s3 =>
      f_ctor_266 n k (x3 + (1 : Int32)) s3
    else
      some s) := rfl
theorem u_law_59 (n : Nat) (k : Nat) (x2 : Int32) (x3 : Int32) (x5 : Int32) (x6 : Int32) (x7 : Int32) (x8 : Int32) (s : St) : f_law_59 n (k + 1) x2 x3 x5 x6 x7 x8 s =
    (if x8 < (5 : Int32) then
      if x8 < x5 then
        f_law_59 n k x2 x3 x5 x6 (x7 * x6) (x8 + (1 : Int32)) s
      else
        f_law_59 n k x2 x3 x5 x6 x7 (x8 + (1 : Int32)) s
    else
      if x2 < 0 then
        f_law_100 n x2 x3 x6 x7 (0 : Int32) s
      else
        if x2 < x5 then
          f_law_100 n x2 x3 x6 x7 (1 : Int32) s
        else
          f_law_100 n x2 x3 x6 x7 (0 : Int32) s) := rfl
/-! ### the plain law -/
def own_g (d : Int32) (f : Nat → Int32) : Nat → Nat → Int32 → Int32
  | _, 0, c => c
  | i, m + 1, c => own_g d f (i + 1) m (if f i < 0 then c * d else c)
theorem own_g_s (d : Int32) (f : Nat → Int32) (i m : Nat) (c : Int32) : own_g d f i (m + 1) c = own_g d f (i + 1) m (if f i < 0 then c * d else c) := rfl
theorem own_g_cong {d : Int32} {f g : Nat → Int32} : ∀ m i c, (∀ j, i ≤ j → j < i + m → (f j < 0 ↔ g j < 0)) → own_g d f i m c = own_g d g i m c
  | 0, _, _, _ => rfl
  | m + 1, i, c, h => by
    unfold own_g
    have e : (if f i < 0 then c * d else c) = if g i < 0 then c * d else c := by
      have := h i (by omega) (by omega)
      by_cases q : f i < 0
      · rw [if_pos q, if_pos (this.mp q)]
      · rw [if_neg q, if_neg (fun q' => q (this.mpr q'))]
    rw [e]
    exact own_g_cong m (i + 1) _ fun j h1 h2 => h j (by omega) (by omega)
theorem own_gap {n : Nat} (hn : 10 ≤ n) {s : St} {N : Nat} (hN : N ≤ 5) : f_gap n s 0 (Int32.ofNat N) = some (own_g (s.1 21) (s.2 3) 0 N 1) := by
  obtain ⟨r, f1, f2⟩ := loopP (F := fun k i (c : Int32) => f_gap_5 n s k (Int32.ofNat N) c i) (N := N) (P := fun i c => own_g (s.1 21) (s.2 3) i (N - i) c = own_g (s.1 21) (s.2 3) 0 N 1) (Q := fun r => r = own_g (s.1 21) (s.2 3) 0 N 1)
    (fun k i c hi hp => Or.inl (by
      show ∃ s', f_gap_5 n s (k + 1) (Int32.ofNat N) c (Int32.ofNat i) = _ ∧ _
      rw [u_gap_5, if_pos (ltN hi (by omega)), if_pos (ltZ (z := 5) 5 rfl (by omega) (by omega)), grd_pos (inbN (show i < 5 by omega) (by omega)), ix_N (by omega)]
      rw [show N - i = N - (i + 1) + 1 by omega] at hp
      rw [own_g_s] at hp
      by_cases q : s.2 3 i < 0
      · rw [if_pos q] at hp ⊢; exact ⟨_, rfl, hp⟩
      · rw [if_neg q] at hp ⊢; exact ⟨_, rfl, hp⟩))
    (fun k c hp => ⟨c, by
      show f_gap_5 n s (k + 1) (Int32.ofNat N) c (Int32.ofNat N) = _
      rw [u_gap_5, if_neg (nltN (by omega))], by rw [Nat.sub_self] at hp; exact hp⟩) N 0 n 1 (by omega) (by omega) rfl
  rw [← f2]; exact f1
theorem own_loadC {n : Nat} (hn : 10 ≤ n) (s : St) : ∃ s', f_loadChoices n s = some s' ∧ s'.1 = s.1 ∧ ∀ k x, s'.2 k x = if k = 3 ∧ x < 5 then s.2 2 x else s.2 k x := by
  obtain ⟨r, f1, f2⟩ := loopP (F := f_loadChoices_2 n) (N := 5) (P := fun i t => t.1 = s.1 ∧ ∀ k x, t.2 k x = if k = 3 ∧ x < i then s.2 2 x else s.2 k x) (Q := fun t => t.1 = s.1 ∧ ∀ k x, t.2 k x = if k = 3 ∧ x < 5 then s.2 2 x else s.2 k x)
    (fun k i c hi hp => Or.inl (by
      rw [u_loadChoices_2, if_pos (ltZ (z := 5) 5 rfl hi (by omega)), grd_pos (inbN hi (by omega)), ix_N (by omega), bnd_eq]
      refine ⟨_, rfl, hp.1, fun k x => ?_⟩
      rw [setA_2, hp.2, hp.2]
      by_cases e : k = 3
      · by_cases e2 : x = i
        · subst e2; simp [e]
        · have : x < i + 1 ↔ x < i := by omega
          simp [e, e2, this]
      · simp [e]))
    (fun k c hp => ⟨c, by rw [u_loadChoices_2, if_neg (by decide)], hp⟩) 5 0 n s (by omega) (by omega) ⟨rfl, fun k x => by simp⟩
  exact ⟨r, f1, f2⟩
/-- the state that these laws reach: one diagram, all tuples -/
def own_M (N D : Nat) (s : St) : Prop := s.1 20 = Int32.ofNat N ∧ s.1 21 = Int32.ofNat D ∧ s.1 23 = 0 ∧ s.1 24 = 0 ∧ s.2 0 0 = 1 ∧ s.2 5 1 = Int32.ofNat N
theorem own_cf {n N D : Nat} (hn : 10 ≤ n) {s : St} (hN : N ≤ 5) (M : own_M N D s) : ∃ s', f_countFixed n s = some (own_g (Int32.ofNat D) (s.2 3) 0 N 1, s') ∧ s'.1 = s.1 ∧ ∀ k, k ≠ 10 → s'.2 k = s.2 k := by
  obtain ⟨m1, m2, m3, m4, m5, m6⟩ := M
  obtain ⟨m, rfl⟩ : ∃ m, n = m + 1 := ⟨n - 1, by omega⟩
  unfold f_countFixed
  have i0 : ix (0 : Int32) = 0 := rfl
  have i1 : ix (1 : Int32) = 1 := rfl
  rw [m3, grd_pos (by decide), i0, m5, i1]
  simp only [bnd_eq]
  rw [u_countFixed_26, if_pos (by decide)]
  unfold f_countFixed_55
  rw [grd_pos (by decide), i1]
  have e : (setA (setA s 10 0 0) 10 1 1).2 5 1 = Int32.ofNat N := by rw [← m6]; simp [setA_2]
  have e2 : (setA (setA s 10 0 0) 10 1 1).2 10 1 = 1 := by simp [setA_2]
  have e3 : (setA (setA s 10 0 0) 10 1 1).2 3 = s.2 3 := by funext x; simp [setA_2]
  rw [e, own_gap hn hN, e2, e3]
  simp only [Option.bind_some, Int32.one_mul, setA_1, m2]
  refine ⟨_, rfl, rfl, fun k hk => ?_⟩
  funext x
  simp [setA_2, hk]
theorem own_M_of {N D : Nat} {s t : St} (M : own_M N D s) (h1 : t.1 = s.1) (h2 : t.2 0 0 = s.2 0 0) (h3 : t.2 5 1 = s.2 5 1) : own_M N D t := by
  obtain ⟨m1, m2, m3, m4, m5, m6⟩ := M
  exact ⟨by rw [h1, m1], by rw [h1, m2], by rw [h1, m3], by rw [h1, m4], by rw [h2, m5], by rw [h3, m6]⟩
theorem own_count {n N D : Nat} (hn : 10 ≤ n) {s : St} (hN : N ≤ 5) (M : own_M N D s) : ∃ s', f_count n s = some (own_g (Int32.ofNat D) (s.2 2) 0 N 1, s') ∧ own_M N D s' ∧ s'.2 2 = s.2 2 := by
  obtain ⟨t, e1, e2, e3⟩ := own_loadC hn s
  have Mt : own_M N D t := own_M_of M e2 (by rw [e3]; simp) (by rw [e3]; simp)
  obtain ⟨u, f1, f2, f3⟩ := own_cf hn hN Mt
  have g : own_g (Int32.ofNat D) (t.2 3) 0 N 1 = own_g (Int32.ofNat D) (s.2 2) 0 N 1 := own_g_cong _ _ _ fun j _ hj => by rw [e3, if_pos ⟨rfl, by omega⟩]
  unfold f_count
  rw [e1]
  simp only [Option.bind_some, f1, g]
  refine ⟨u, rfl, own_M_of Mt f2 (by rw [f3 _ (by decide)]) (by rw [f3 _ (by decide)]), ?_⟩
  rw [f3 _ (by decide)]
  funext x
  rw [e3]; simp
theorem own_vv {N D : Nat} {s : St} (M : own_M N D s) (hN : N ≤ 5) {i : Nat} (hi : i < N) : f_validVar s (Int32.ofNat i) = some 1 := by unfold f_validVar; rw [if_neg (N_neg (by omega)), M.1, if_pos (ltN hi (by omega))]
theorem own_va {N D : Nat} {s : St} (M : own_M N D s) (hD : D ≤ 4) {i : Nat} (hi : i < D) : f_validValue s (Int32.ofNat i) = some 1 := by unfold f_validValue; rw [if_neg (N_neg (by omega)), M.2.1, if_pos (ltN hi (by omega))]
theorem own_cw {n N D v a : Nat} (hn : 10 ≤ n) {s : St} (hN : N ≤ 5) (hD : D ≤ 4) (M : own_M N D s) (hv : v < N) (ha : a < D) :
    ∃ s', f_countWith n (Int32.ofNat v) (Int32.ofNat a) s = some (own_g (Int32.ofNat D) (fun x => if x = v then 0 else s.2 2 x) 0 N 1, s') ∧ own_M N D s' ∧ s'.2 2 = s.2 2 := by
  obtain ⟨t, e1, e2, e3⟩ := own_loadC hn s
  have Mt : own_M N D t := own_M_of M e2 (by rw [e3]; simp) (by rw [e3]; simp)
  have Mu : own_M N D (setA t 3 v (Int32.ofNat a)) := own_M_of Mt rfl (by simp [setA_2]) (by simp [setA_2])
  obtain ⟨u, f1, f2, f3⟩ := own_cf hn hN Mu
  have g : own_g (Int32.ofNat D) ((setA t 3 v (Int32.ofNat a)).2 3) 0 N 1 = own_g (Int32.ofNat D) (fun x => if x = v then 0 else s.2 2 x) 0 N 1 := own_g_cong _ _ _ fun j _ hj => by
    rw [setA_2]
    by_cases q : j = v
    · simp only [q, and_self, if_true]
      exact ⟨fun h => absurd h (N_neg (by omega)), fun h => absurd h (by decide)⟩
    · simp only [q, and_false, if_false]
      rw [e3, if_pos ⟨rfl, by omega⟩]
  unfold f_countWith
  rw [own_vv M hN hv, own_va M hD ha, e1]
  simp only [Option.bind_some]
  rw [if_neg (by decide), if_neg (by decide), grd_pos (inbN (show v < 5 by omega) (by omega)), ix_N (by omega), bnd_eq, f1]
  simp only [Option.bind_some, g]
  refine ⟨u, rfl, own_M_of Mu f2 (by rw [f3 _ (by decide)]) (by rw [f3 _ (by decide)]), ?_⟩
  rw [f3 _ (by decide)]
  funext x
  rw [setA_2, e3]; simp
theorem own_om {n N D v : Nat} (hn : 10 ≤ n) {s : St} (hN : N ≤ 5) (hD1 : 2 ≤ D) (hD : D ≤ 4) (M : own_M N D s) (hv : v < N) (hp : 0 < own_g (Int32.ofNat D) (fun x => if x = v then 0 else s.2 2 x) 0 N 1) :
    ∃ s', f_offeredMask n (Int32.ofNat v) s = some ((1 : Int32) <<< (Int32.ofNat D &&& 31) - 1, s') ∧ own_M N D s' ∧ s'.2 2 = s.2 2 := by
  obtain ⟨r, f1, f2, f3, f4⟩ := loopP (F := fun k i (c : Int32 × St) => f_offeredMask_14 n k (Int32.ofNat v) c.1 i c.2) (N := D) (P := fun i c => c.1 = (1 : Int32) <<< (Int32.ofNat i &&& 31) - 1 ∧ own_M N D c.2 ∧ c.2.2 2 = s.2 2)
    (Q := fun c => c.1 = (1 : Int32) <<< (Int32.ofNat D &&& 31) - 1 ∧ own_M N D c.2 ∧ c.2.2 2 = s.2 2)
    (fun k i c hi hp' => Or.inl (by
      show ∃ s', f_offeredMask_14 n (k + 1) (Int32.ofNat v) c.1 (Int32.ofNat i) c.2 = _ ∧ _
      obtain ⟨p1, p2, p3⟩ := hp'
      obtain ⟨u, g1, g2, g3⟩ := own_cw hn hN hD p2 hv hi
      rw [p3] at g1 g3
      rw [u_offeredMask_14, p2.2.1, if_pos (ltN hi (by omega)), g1]
      simp only [Option.bind_some]
      rw [if_pos hp]
      refine ⟨(_, u), rfl, ?_, g2, g3⟩
      show c.1 ||| _ = _
      rw [p1]
      have : i = 0 ∨ i = 1 ∨ i = 2 ∨ i = 3 := by omega
      rcases this with rfl | rfl | rfl | rfl <;> decide))
    (fun k c hp' => ⟨c, by
      show f_offeredMask_14 n (k + 1) (Int32.ofNat v) c.1 (Int32.ofNat D) c.2 = _
      rw [u_offeredMask_14, hp'.2.1.2.1, if_neg (nltN (by omega))], hp'⟩) D 0 n (0, s) (by omega) (by omega) ⟨show (0 : Int32) = (1 : Int32) <<< (Int32.ofNat 0 &&& 31) - 1 by decide, M, rfl⟩
  refine ⟨r.2, ?_, f3, f4⟩
  unfold f_offeredMask
  rw [own_vv M hN hv]
  simp only [Option.bind_some]
  rw [if_neg (by decide), ← f2]
  exact f1
theorem own_ctor {n : Nat} (hn : 4100 ≤ n) (a b : Int32) {N D : Nat} (eN : own_cl a 1 5 = Int32.ofNat N) (eD : own_cl b 2 4 = Int32.ofNat D) : ∃ s, f_ctor n a b = some s ∧ own_M N D s ∧ ∀ i, i < 5 → s.2 2 i = -1 := by
  have h1 : f_ctor n a b = f_ctor_192 n b (own_cl a 1 5) zeroS := by
    unfold f_ctor f_ctor_172 own_cl
    by_cases q1 : a < 1 <;> by_cases q2 : 5 < a <;> simp [q1, q2]
  have h2 : f_ctor_192 n b (own_cl a 1 5) zeroS = f_ctor_215 n (own_cl b 2 4) (setI zeroS 20 (own_cl a 1 5)) := by
    unfold f_ctor_192 own_cl
    by_cases q1 : b < 2 <;> by_cases q2 : 4 < b <;> simp [q1, q2, bnd_eq]
  rw [h1, h2, eN, eD]
  unfold f_ctor_215
  simp only [bnd_eq]
  have c1 : ∀ s : St, f_clearUnique n s = some (s.1, fun k x => if k = 7 ∧ x < 4096 then 0 else s.2 k x) := fun s => by
    have q := loopN (F := f_clearUnique_2 n) (N := 4096) (f := fun i s => setA s 7 i 0) (fin := fun s => some s)
      (fun k i s hi => by rw [u_clearUnique_2, if_pos (ltZ (z := 4096) 4096 rfl hi (by omega)), grd_pos (inbN (n := 4096) hi (by omega)), bnd_eq, ix_N (by omega)])
      (fun k s => by rw [u_clearUnique_2, if_neg (by decide)]) 4096 0 n s (by omega) (by omega)
    rw [itr_fill] at q
    exact q
  have c2 : ∀ s : St, f_ctor_266 n n 0 s = some (s.1, fun k x => if k = 2 ∧ x < 5 then -1 else s.2 k x) := fun s => by
    have q := loopN (F := f_ctor_266 n) (N := 5) (f := fun i s => setA s 2 i (-1)) (fin := fun s => some s)
      (fun k i s hi => by rw [u_ctor_266, if_pos (ltZ (z := 5) 5 rfl hi (by omega)), grd_pos (inbN (n := 5) hi (by omega)), bnd_eq, ix_N (by omega)])
      (fun k s => by rw [u_ctor_266, if_neg (by decide)]) 5 0 n s (by omega) (by omega)
    rw [itr_fill] at q
    exact q
  rw [c1]
  simp only [Option.bind_some, c2]
  refine ⟨_, rfl, ⟨?_, ?_, ?_, ?_, ?_, ?_⟩, fun i hi => ?_⟩
  all_goals simp [setI_1, setI_2, setA_1, setA_2, show ix (0 : Int32) = 0 from rfl, show ix (1 : Int32) = 1 from rfl]
  all_goals omega

theorem own_tab : ∀ N, N < 6 → ∀ D, D < 5 → ∀ v, v < N → 2 ≤ D → 0 < own_g (Int32.ofNat D) (fun x => if x = v then 0 else -1) 0 N 1 ∧ own_g (Int32.ofNat D) (fun x => if x = v then 0 else -1) 0 N 1 = own_g (Int32.ofNat D) (fun _ => -1) 0 N 1 / Int32.ofNat D := by decide +kernel
theorem own_fin {n N D : Nat} (hn : 10 ≤ n) (hN1 : 1 ≤ N) (hN2 : N ≤ 5) (hD1 : 2 ≤ D) (hD2 : D ≤ 4) {s : St} (M : own_M N D s) (ch : ∀ i, i < 5 → s.2 2 i = -1) (c e T : Int32) (hT : T = own_g (Int32.ofNat D) (fun _ => -1) 0 N 1) :
    ∃ w, (if c < 0 then f_law_100 n c e (Int32.ofNat D) T 0 s else if c < Int32.ofNat N then f_law_100 n c e (Int32.ofNat D) T 1 s else f_law_100 n c e (Int32.ofNat D) T 0 s) = some (1, w) := by
  have bad : ∀ x : Int32, (x < 0 ∨ ¬ x < Int32.ofNat N) → ∀ t, own_M N D t → f_validVar t x = some 0 := fun x hx t Mt => by
    unfold f_validVar
    rw [Mt.1]
    by_cases q : x < 0
    · rw [if_pos q]
    · rw [if_neg q, if_neg (hx.resolve_left q)]
  have badv : ∀ x : Int32, (x < 0 ∨ ¬ x < Int32.ofNat D) → ∀ t, own_M N D t → f_validValue t x = some 0 := fun x hx t Mt => by
    unfold f_validValue
    rw [Mt.2.1]
    by_cases q : x < 0
    · rw [if_pos q]
    · rw [if_neg q, if_neg (hx.resolve_left q)]
  have cnt : ∀ t, own_M N D t → (∀ i, i < 5 → t.2 2 i = -1) → ∃ t', f_count n t = some (T, t') ∧ own_M N D t' ∧ (∀ i, i < 5 → t'.2 2 i = -1) := fun t Mt ht => by
    obtain ⟨t', x1, x2, x3⟩ := own_count hn hN2 Mt
    refine ⟨t', ?_, x2, fun i hi => by rw [x3]; exact ht i hi⟩
    rw [x1, hT]
    congr 2
    exact own_g_cong _ _ _ fun j _ hj => by rw [ht j (by omega)]
  have out : (c < 0 ∨ ¬ c < Int32.ofNat N) → ∃ w, f_law_100 n c e (Int32.ofNat D) T 0 s = some (1, w) := fun hc => by
    obtain ⟨s1, d1, M1, ch1⟩ := cnt s M ch
    obtain ⟨s2, d2, M2, ch2⟩ := cnt s1 M1 ch1
    refine ⟨s2, ?_⟩
    have w1 : f_choose n c e s = some (-1, s) := by unfold f_choose; rw [bad c hc s M]; simp
    have w2 : f_chosenValue s c = some (-1) := by unfold f_chosenValue; rw [bad c hc s M]; simp
    have w3 : f_offeredMask n c s1 = some (-1, s1) := by unfold f_offeredMask; rw [bad c hc s1 M1]; simp
    have w4 : f_choose n c e s1 = some (-1, s1) := by unfold f_choose; rw [bad c hc s1 M1]; simp
    have w5 : f_retract c s1 = some (-1, s1) := by unfold f_retract; rw [bad c hc s1 M1]; simp
    have w6 : f_chosenValue s2 c = some (-1) := by unfold f_chosenValue; rw [bad c hc s2 M2]; simp
    have h0 : ∀ y, f_law_117 n c e (Int32.ofNat D) T 0 y s = some (1, s2) := fun y => by
      unfold f_law_117 f_law_134 f_law_156 f_law_170 f_law_192
      simp [w1, w2, d1, w3, w4, w5, d2, w6, f_law_277, f_law_297, f_law_317]
    unfold f_law_100
    simp only [h0]
    split
    · rfl
    · split <;> rfl
  by_cases q1 : c < 0
  · rw [if_pos q1]; exact out (Or.inl q1)
  · by_cases q2 : c < Int32.ofNat N
    · rw [if_neg q1, if_pos q2]
      obtain ⟨v, hv, rfl⟩ := cases_N (by omega) q1 q2
      have tb := own_tab N (by omega) D (by omega) v hv hD1
      rw [← hT] at tb
      have hb : inb (Int32.ofNat v) 5 := inbN (by omega) (by omega)
      have iv : ix (Int32.ofNat v) = v := ix_N (by omega)
      have cv : ∀ t, own_M N D t → f_chosenValue t (Int32.ofNat v) = some (t.2 2 v) := fun t Mt => by
        unfold f_chosenValue
        rw [own_vv Mt hN2 hv]
        simp [grd_pos hb, iv]
      have om : ∀ t, own_M N D t → (∀ i, i < 5 → i ≠ v → t.2 2 i = -1) → ∃ s', f_offeredMask n (Int32.ofNat v) t = some ((1 : Int32) <<< (Int32.ofNat D &&& 31) - 1, s') ∧ own_M N D s' ∧ s'.2 2 = t.2 2 := fun t Mt ht => by
        refine own_om hn hN2 hD1 hD2 Mt hv ?_
        rw [own_g_cong (g := fun x => if x = v then 0 else -1) N 0 1 fun j _ hj => by
          by_cases q : j = v
          · simp [q]
          · simp [q, ht j (by omega) q]]
        exact tb.1
      by_cases q3 : e < 0 ∨ ¬ e < Int32.ofNat D
      · obtain ⟨s1, d1, M1, ch1⟩ := cnt s M ch
        obtain ⟨s2, d2, M2, ch2⟩ := om s1 M1 fun i hi _ => ch1 i hi
        have ch2' : ∀ i, i < 5 → s2.2 2 i = -1 := fun i hi => by rw [ch2]; exact ch1 i hi
        obtain ⟨s3, d3, M3, ch3⟩ := cnt s2 M2 ch2'
        have w1 : f_choose n (Int32.ofNat v) e s = some (-2, s) := by unfold f_choose; rw [own_vv M hN2 hv, badv e q3 s M]; simp
        have w2 : f_chosenValue s (Int32.ofNat v) = some (-1) := by rw [cv s M, ch v (by omega)]
        have w4 : f_choose n (Int32.ofNat v) e s2 = some (-2, s2) := by unfold f_choose; rw [own_vv M2 hN2 hv, badv e q3 s2 M2]; simp
        have w5 : f_retract (Int32.ofNat v) s2 = some (-9, s2) := by
          unfold f_retract
          rw [own_vv M2 hN2 hv]
          simp [grd_pos hb, iv, ch2' v (by omega)]
        have w6 : f_chosenValue s3 (Int32.ofNat v) = some (-1) := by rw [cv s3 M3, ch3 v (by omega)]
        refine ⟨s3, ?_⟩
        have h0 : f_law_117 n (Int32.ofNat v) e (Int32.ofNat D) T 1 0 s = some (1, s3) := by
          unfold f_law_117 f_law_134 f_law_156 f_law_170 f_law_192
          simp [w1, w2, d1, d2, w4, w5, d3, w6, f_law_277, f_law_297, f_law_317]
        unfold f_law_100
        by_cases q4 : e < 0
        · rw [if_pos q4, h0]
        · rw [if_neg q4, if_neg (q3.resolve_left q4), h0]
      · have q4 : ¬ e < 0 := fun q => q3 (Or.inl q)
        have q5 : e < Int32.ofNat D := Decidable.byContradiction fun q => q3 (Or.inr q)
        obtain ⟨a, ha, rfl⟩ := cases_N (by omega) q4 q5
        have dn0 : Int32.ofNat D ≠ 0 := fun q => by
          rw [show (0 : Int32) = Int32.ofNat 0 from rfl, N_inj (by omega) (by omega)] at q; omega
        obtain ⟨s1, d1, M1, ch1⟩ := own_cw hn hN2 hD2 M hv ha
        have g1 : own_g (Int32.ofNat D) (fun x => if x = v then 0 else s.2 2 x) 0 N 1 = T / Int32.ofNat D := by
          rw [← tb.2]
          exact own_g_cong _ _ _ fun j _ hj => by rw [ch j (by omega)]
        rw [g1] at d1
        have tp : 0 < T / Int32.ofNat D := by rw [← tb.2]; exact tb.1
        have tn : T / Int32.ofNat D ≠ 0 := fun q => by rw [q] at tp; exact absurd tp (by decide)
        have M2 : own_M N D (setA s1 2 v (Int32.ofNat a)) := own_M_of M1 rfl (by simp [setA_2]) (by simp [setA_2])
        have c2 : ∀ i, i < 5 → (setA s1 2 v (Int32.ofNat a)).2 2 i = if i = v then Int32.ofNat a else -1 := fun i hi => by
          rw [setA_2, ch1, ch i hi]; simp
        have an : ¬ Int32.ofNat a < 0 := N_neg (by omega)
        have w1 : f_choose n (Int32.ofNat v) (Int32.ofNat a) s = some (0, setA s1 2 v (Int32.ofNat a)) := by
          unfold f_choose
          rw [own_vv M hN2 hv, own_va M hD2 ha]
          simp [grd_pos hb, iv, ch v (by omega), d1, tn, bnd_eq]
        have w2 : f_chosenValue (setA s1 2 v (Int32.ofNat a)) (Int32.ofNat v) = some (Int32.ofNat a) := by rw [cv _ M2, c2 v (by omega), if_pos rfl]
        obtain ⟨s3, d3, M3, ch3⟩ := own_count hn hN2 M2
        have g2 : own_g (Int32.ofNat D) ((setA s1 2 v (Int32.ofNat a)).2 2) 0 N 1 = T / Int32.ofNat D := by
          rw [← tb.2]
          refine own_g_cong _ _ _ fun j _ hj => ?_
          rw [c2 j (by omega)]
          by_cases q : j = v
          · simp only [q, if_true]; exact ⟨fun h => absurd h an, fun h => absurd h (by decide)⟩
          · simp only [q, if_false]
        rw [g2] at d3
        obtain ⟨s4, d4, M4, ch4⟩ := om s3 M3 fun i hi hne => by rw [ch3, c2 i hi, if_neg hne]
        have c4 : ∀ i, i < 5 → s4.2 2 i = if i = v then Int32.ofNat a else -1 := fun i hi => by rw [ch4, ch3, c2 i hi]
        have w4 : f_choose n (Int32.ofNat v) (Int32.ofNat a) s4 = some (-8, s4) := by
          unfold f_choose
          rw [own_vv M4 hN2 hv, own_va M4 hD2 ha]
          simp only [Option.bind_some, grd_pos hb, iv, c4 v (by omega), if_true, if_neg an]
          simp
        have w5 : f_retract (Int32.ofNat v) s4 = some (0, setA s4 2 v (-1)) := by
          unfold f_retract
          rw [own_vv M4 hN2 hv]
          simp only [Option.bind_some, grd_pos hb, iv, c4 v (by omega), if_true, if_neg an, bnd_eq]
          simp
        have M5 : own_M N D (setA s4 2 v (-1)) := own_M_of M4 rfl (by simp [setA_2]) (by simp [setA_2])
        have c5 : ∀ i, i < 5 → (setA s4 2 v (-1)).2 2 i = -1 := fun i hi => by
          rw [setA_2, c4 i hi]
          by_cases q : i = v <;> simp [q]
        obtain ⟨s6, d6, M6, ch6⟩ := cnt _ M5 c5
        have w6 : f_chosenValue s6 (Int32.ofNat v) = some (-1) := by rw [cv s6 M6, ch6 v (by omega)]
        refine ⟨s6, ?_⟩
        unfold f_law_100
        rw [if_neg q4, if_pos q5]
        unfold f_law_117 f_law_134 f_law_156 f_law_170 f_law_192
        simp [w1, w2, d3, d4, w4, w5, d6, w6, f_law_277, f_law_297, f_law_317, grd_pos dn0]
    · rw [if_neg q1, if_neg q2]; exact out (Or.inr q2)
theorem plain : ∀ a b c e, ∃ n w, f_law n a b c e = some (1, w) := by
  intro a b c e
  obtain ⟨n, hn⟩ : ∃ n : Nat, 4100 ≤ n := ⟨4100, Nat.le_refl _⟩
  refine ⟨n, ?_⟩
  obtain ⟨N, eN, hN1, hN2⟩ := own_clN a (lo := 1) (hi := 5) (by omega) (by omega)
  obtain ⟨D, eD, hD1, hD2⟩ := own_clN b (lo := 2) (hi := 4) (by omega) (by omega)
  rw [show Int32.ofNat 1 = (1 : Int32) from rfl, show Int32.ofNat 5 = (5 : Int32) from rfl] at eN
  rw [show Int32.ofNat 2 = (2 : Int32) from rfl, show Int32.ofNat 4 = (4 : Int32) from rfl] at eD
  obtain ⟨s, c1, M, ch⟩ := own_ctor (n := n) (by omega) a b eN eD
  unfold f_law
  rw [c1]
  have e1 : f_law_9 n a b c e s = f_law_51 n c e (Int32.ofNat N) (Int32.ofNat D) s := by
    rw [← eN, ← eD]
    unfold f_law_9 f_law_30 own_cl
    by_cases q1 : a < 1 <;> by_cases q2 : 5 < a <;> by_cases q3 : b < 2 <;> by_cases q4 : 4 < b <;> simp [q1, q2, q3, q4]
  show ∃ w, f_law_9 n a b c e s = _
  rw [e1]
  unfold f_law_51
  obtain ⟨r, f1, f2⟩ := loopP (F := fun k i (z : Int32) => f_law_59 n k c e (Int32.ofNat N) (Int32.ofNat D) z i s) (N := 5) (P := fun i z => own_g (Int32.ofNat D) (fun _ => -1) i (N - i) z = own_g (Int32.ofNat D) (fun _ => -1) 0 N 1) (Q := fun r => r.1 = 1)
    (fun k i z hi hp => Or.inl (by
      show ∃ s', f_law_59 n (k + 1) c e (Int32.ofNat N) (Int32.ofNat D) z (Int32.ofNat i) s = _ ∧ _
      rw [u_law_59, if_pos (ltZ (z := 5) 5 rfl hi (by omega))]
      by_cases q : i < N
      · rw [if_pos (ltN q (by omega))]
        rw [show N - i = N - (i + 1) + 1 by omega] at hp
        rw [own_g_s] at hp
        rw [if_pos (by decide)] at hp
        exact ⟨_, rfl, hp⟩
      · rw [if_neg (fun q' => q ((N_lt (by omega) (by omega)).mp q'))]
        refine ⟨_, rfl, ?_⟩
        rw [show N - i = 0 by omega] at hp
        rw [show N - (i + 1) = 0 by omega]
        exact hp))
    (fun k z hp => by
      show ∃ r, f_law_59 n (k + 1) c e (Int32.ofNat N) (Int32.ofNat D) z (Int32.ofNat 5) s = _ ∧ _
      rw [u_law_59, if_neg (by decide)]
      rw [show N - 5 = 0 by omega] at hp
      obtain ⟨w, hw⟩ := own_fin (n := n) (by omega) hN1 hN2 hD1 hD2 M ch c e z hp
      exact ⟨_, hw, rfl⟩) 5 0 n 1 (by omega) (by omega) rfl
  exact ⟨r.2, f1.trans (congrArg some (Prod.ext f2 rfl))⟩
theorem main_1_1 : Claimed_1_1 := comes_1 plain fun _ _ _ _ _ _ h hF => ⟨h.1, hF⟩
theorem main_1_2 : Claimed_1_2 := comes_1 plain fun _ _ _ _ _ _ h hF => ⟨h.2.1, hF⟩

end Jvm.Pilot.@@N@@
namespace Jvm.Pilot.@@N@@
open Jvm Jvm.ClassFile Sem Op Lib Jvm.Free Jvm.Stand Jvm.Pilot.@@N@@.Jvm.D
/-! MADE BY PROGRAM (witnessworld.py) out of the Statement's table words and the real class files: 11 classes; the members and pool entries that the words name. The judged class is class 1, her method 1. -/
namespace start1
open Jvm.ClassFile
def u (s : String) : CpInfo := .utf8 (stringToUtf16 s)
/-- a pool by its gaps: so many unusable entries, then the entry; so many at the end -/
def gap : Nat → List CpInfo → List CpInfo
  | 0, r => r
  | n + 1, r => .unusable :: gap n r
def poolList (es : List (Nat × CpInfo)) (last : Nat) : List CpInfo := es.foldr (fun e r => gap e.1 (e.2 :: r)) (gap last [])
def pool (es : List (Nat × CpInfo)) (last : Nat) : Array CpInfo := ⟨poolList es last⟩
def fileOf (pool : Array CpInfo) (this : Nat) (attrs : Array Attribute := #[]) (ms : Array MethodInfo := #[]) (fl : Nat := 33) (sup : Nat := 0) (ifs : Array Nat := #[]) (fds : Array FieldInfo := #[]) : ClassFile where
  minorVersion := 0
  majorVersion := 65
  constantPool := pool
  accessFlags := fl
  thisClass := this
  superClass := sup
  interfaces := ifs
  fields := fds
  methods := ms
  attributes := attrs
def plain (name : String) (sup : Option ClassId) : Class where
  name := name
  kind := .ordinary
  loader := none
  accessFlags := 33
  super := sup
  interfaces := #[]
  cf := none
  fields := #[]
  methods := #[]
  instanceTypes := #[]
  staticTypes := #[]
  resolved := #[]
  callSites := []
  init := .initialized
  statics := none
  mirror := none

def pool0 : Array CpInfo := pool [(5, u "<init>"), (0, u "()V"), (1, .class_ 10), (1, u "java/lang/Object")] 113

def k0c0 : Code := { maxStack := 0, maxLocals := 1, code := object_method_1_code, exceptionTable := #[], attributes := #[] }
def k0m0 : Method := { name := "<init>", desc := "()V", sig := { parameters := [], returnType := none }, accessFlags := 1, code := some k0c0 }
/-- java/lang/Object -/
def k0 : Class := { plain "java/lang/Object" none with
  accessFlags := 33
  interfaces := #[]
  cf := some (fileOf pool0 8 #[] #[{ accessFlags := 1, nameIndex := 5, descriptorIndex := 6, attributes := #[] }] 33 0 #[] #[])
  fields := #[]
  methods := #[k0m0]
  instanceTypes := #[]
  staticTypes := #[]
  resolved := Array.replicate 124 none
  statics := none }

def pool1 : Array CpInfo := pool [(2, .class_ 4), (1, u "java/lang/Object"), (0, u "<init>"), (0, u "()V"), (0, .class_ 8), (0, u "MddConfigurator"), (0, .methodref 7 10), (0, .nameAndType 5 11), (0, u "(II)V"), (0, .methodref 7 13), (0, .nameAndType 14 15), (0, u "choose"), (0, u "(II)I"), (0, .methodref 7 17), (0, .nameAndType 18 19), (0, u "chosenValue"), (0, u "(I)I"), (0, .methodref 7 21), (0, .nameAndType 22 23), (0, u "count"), (0, u "()I"), (0, .methodref 7 25), (0, .nameAndType 26 19), (0, u "offeredMask"), (0, .methodref 7 28), (0, .nameAndType 29 19), (0, u "retract"), (0, .class_ 31), (0, u "MddConfiguratorL2"), (2, u "law"), (0, u "(IIII)Z")] 3

def k1m0 : Method := { name := "<init>", desc := "()V", sig := { parameters := [], returnType := none }, accessFlags := 1, code := none }
def k1c1 : Code := { maxStack := 4, maxLocals := 22, code := code, exceptionTable := #[], attributes := #[] }
def k1m1 : Method := { name := "law", desc := "(IIII)Z", sig := { parameters := [.int, .int, .int, .int], returnType := some .boolean }, accessFlags := 9, code := some k1c1 }
/-- MddConfiguratorL2 -/
def k1 : Class := { plain "MddConfiguratorL2" (some 0) with
  accessFlags := 33
  interfaces := #[]
  cf := some (fileOf pool1 30 #[] #[{ accessFlags := 1, nameIndex := 5, descriptorIndex := 6, attributes := #[] }, { accessFlags := 9, nameIndex := 34, descriptorIndex := 35, attributes := #[] }] 33 2 #[] #[])
  fields := #[]
  methods := #[k1m0, k1m1]
  instanceTypes := #[]
  staticTypes := #[]
  resolved := Array.replicate 39 none
  statics := none }

def pool2 : Array CpInfo := pool [(1, .methodref 2 3), (0, .class_ 4), (0, .nameAndType 5 6), (0, u "java/lang/Object"), (0, u "<init>"), (0, u "()V"), (0, .fieldref 8 9), (0, .class_ 10), (0, .nameAndType 11 12), (0, u "MddConfigurator"), (0, u "root"), (0, u "[I"), (0, .fieldref 8 14), (0, .nameAndType 15 12), (0, u "pendCode"), (0, .fieldref 8 17), (0, .nameAndType 18 12), (0, u "choice"), (0, .fieldref 8 20), (0, .nameAndType 21 12), (0, u "fix"), (0, .fieldref 8 23), (0, .nameAndType 24 12), (0, u "digit"), (0, .fieldref 8 26), (0, .nameAndType 27 12), (0, u "lvl"), (0, .fieldref 8 29), (0, .nameAndType 30 12), (0, u "kid"), (0, .fieldref 8 32), (0, .nameAndType 33 12), (0, u "uniq"), (0, .fieldref 8 35), (0, .nameAndType 36 37), (0, u "mark"), (0, u "[Z"), (0, .fieldref 8 39), (0, .nameAndType 40 12), (0, u "remap"), (0, .fieldref 8 42), (0, .nameAndType 43 12), (0, u "cnt"), (0, .fieldref 8 45), (0, .nameAndType 46 12), (0, u "buf"), (0, .fieldref 8 48), (0, .nameAndType 49 37), (0, u "allowT"), (0, .fieldref 8 51), (0, .nameAndType 52 12), (0, u "memoA"), (0, .fieldref 8 54), (0, .nameAndType 55 12), (0, u "memoB"), (0, .fieldref 8 57), (0, .nameAndType 58 12), (0, u "memoR"), (0, .fieldref 8 60), (0, .nameAndType 61 37), (0, u "memoUsed"), (0, .fieldref 8 63), (0, .nameAndType 64 12), (0, u "stU"), (0, .fieldref 8 66), (0, .nameAndType 67 12), (0, u "stV"), (0, .fieldref 8 69), (0, .nameAndType 70 12), (0, u "stPh"), (0, .fieldref 8 72), (0, .nameAndType 73 74), (0, u "n"), (0, u "I"), (0, .fieldref 8 76), (0, .nameAndType 77 74), (0, u "d"), (0, .fieldref 8 79), (0, .nameAndType 80 74), (0, u "top"), (0, .methodref 8 82), (0, .nameAndType 83 6), (0, u "clearUnique"), (0, .fieldref 8 85), (0, .nameAndType 86 74), (0, u "depth"), (0, .fieldref 8 88), (0, .nameAndType 89 90), (0, u "pending"), (0, u "Z"), (0, .methodref 8 92), (0, .nameAndType 93 94), (0, u "validVar"), (0, u "(I)Z"), (2, u "pendArity"), (2, u "pendA"), (2, u "pendB"), (2, u "pendC"), (2, u "pendCount"), (0, .methodref 8 111), (0, .nameAndType 112 94), (0, u "validValue"), (6, u "()I"), (3, u "(II)I"), (0, .methodref 8 125), (0, .nameAndType 126 123), (0, u "countWith"), (0, .methodref 8 128), (0, .nameAndType 129 6), (0, u "loadChoices"), (0, .methodref 8 131), (0, .nameAndType 132 119), (0, u "countFixed"), (26, u "(I)I"), (15, u "sp"), (3, u "(II)V"), (37, .methodref 8 218), (0, .nameAndType 219 123), (0, u "gap"), (0, u "OK"), (2, u "BAD_VAR"), (1, u "BAD_VALUE"), (1, u "PENDING"), (1, u "NO_PENDING"), (1, u "DUPLICATE"), (1, u "FULL"), (1, u "CONFLICT"), (1, u "ALREADY"), (1, u "NOT_CHOSEN"), (1, u "NO_TABLE"), (1, u "BAD_SCOPE"), (1, u "MAX_TABLES"), (1, u "MAX_TUPLES"), (11, u "choose"), (0, u "retract"), (1, u "chosenValue"), (0, u "offeredMask"), (0, u "count")] 5

def k2c0 : Code := { maxStack := 3, maxLocals := 4, code := prog_1_method_1_code, exceptionTable := #[], attributes := #[] }
def k2m0 : Method := { name := "<init>", desc := "(II)V", sig := { parameters := [.int, .int], returnType := none }, accessFlags := 1, code := some k2c0 }
def k2c1 : Code := { maxStack := 3, maxLocals := 3, code := prog_1_method_9_code, exceptionTable := #[], attributes := #[] }
def k2m1 : Method := { name := "choose", desc := "(II)I", sig := { parameters := [.int, .int], returnType := some .int }, accessFlags := 1, code := some k2c1 }
def k2c2 : Code := { maxStack := 3, maxLocals := 2, code := prog_1_method_10_code, exceptionTable := #[], attributes := #[] }
def k2m2 : Method := { name := "retract", desc := "(I)I", sig := { parameters := [.int], returnType := some .int }, accessFlags := 1, code := some k2c2 }
def k2c3 : Code := { maxStack := 2, maxLocals := 2, code := prog_1_method_12_code, exceptionTable := #[], attributes := #[] }
def k2m3 : Method := { name := "chosenValue", desc := "(I)I", sig := { parameters := [.int], returnType := some .int }, accessFlags := 1, code := some k2c3 }
def k2c4 : Code := { maxStack := 3, maxLocals := 4, code := prog_1_method_13_code, exceptionTable := #[], attributes := #[] }
def k2m4 : Method := { name := "offeredMask", desc := "(I)I", sig := { parameters := [.int], returnType := some .int }, accessFlags := 1, code := some k2c4 }
def k2c5 : Code := { maxStack := 1, maxLocals := 1, code := prog_1_method_14_code, exceptionTable := #[], attributes := #[] }
def k2m5 : Method := { name := "count", desc := "()I", sig := { parameters := [], returnType := some .int }, accessFlags := 1, code := some k2c5 }
def k2c6 : Code := { maxStack := 3, maxLocals := 3, code := prog_1_method_15_code, exceptionTable := #[], attributes := #[] }
def k2m6 : Method := { name := "countWith", desc := "(II)I", sig := { parameters := [.int, .int], returnType := some .int }, accessFlags := 1, code := some k2c6 }
def k2c7 : Code := { maxStack := 2, maxLocals := 2, code := prog_1_method_18_code, exceptionTable := #[], attributes := #[] }
def k2m7 : Method := { name := "validVar", desc := "(I)Z", sig := { parameters := [.int], returnType := some .boolean }, accessFlags := 2, code := some k2c7 }
def k2c8 : Code := { maxStack := 2, maxLocals := 2, code := prog_1_method_19_code, exceptionTable := #[], attributes := #[] }
def k2m8 : Method := { name := "validValue", desc := "(I)Z", sig := { parameters := [.int], returnType := some .boolean }, accessFlags := 2, code := some k2c8 }
def k2c9 : Code := { maxStack := 3, maxLocals := 2, code := prog_1_method_21_code, exceptionTable := #[], attributes := #[] }
def k2m9 : Method := { name := "clearUnique", desc := "()V", sig := { parameters := [], returnType := none }, accessFlags := 2, code := some k2c9 }
def k2c10 : Code := { maxStack := 4, maxLocals := 2, code := prog_1_method_46_code, exceptionTable := #[], attributes := #[] }
def k2m10 : Method := { name := "loadChoices", desc := "()V", sig := { parameters := [], returnType := none }, accessFlags := 2, code := some k2c10 }
def k2c11 : Code := { maxStack := 2, maxLocals := 5, code := prog_1_method_47_code, exceptionTable := #[], attributes := #[] }
def k2m11 : Method := { name := "gap", desc := "(II)I", sig := { parameters := [.int, .int], returnType := some .int }, accessFlags := 2, code := some k2c11 }
def k2c12 : Code := { maxStack := 4, maxLocals := 3, code := prog_1_method_48_code, exceptionTable := #[], attributes := #[] }
def k2m12 : Method := { name := "countFixed", desc := "()I", sig := { parameters := [], returnType := some .int }, accessFlags := 2, code := some k2c12 }
/-- MddConfigurator -/
def k2 : Class := { plain "MddConfigurator" (some 0) with
  accessFlags := 49
  interfaces := #[]
  cf := some (fileOf pool2 8 #[] #[{ accessFlags := 1, nameIndex := 5, descriptorIndex := 179, attributes := #[] }, { accessFlags := 1, nameIndex := 259, descriptorIndex := 123, attributes := #[] }, { accessFlags := 1, nameIndex := 260, descriptorIndex := 159, attributes := #[] }, { accessFlags := 1, nameIndex := 262, descriptorIndex := 159, attributes := #[] }, { accessFlags := 1, nameIndex := 263, descriptorIndex := 159, attributes := #[] }, { accessFlags := 1, nameIndex := 264, descriptorIndex := 119, attributes := #[] }, { accessFlags := 1, nameIndex := 126, descriptorIndex := 123, attributes := #[] }, { accessFlags := 2, nameIndex := 93, descriptorIndex := 94, attributes := #[] }, { accessFlags := 2, nameIndex := 112, descriptorIndex := 94, attributes := #[] }, { accessFlags := 2, nameIndex := 83, descriptorIndex := 6, attributes := #[] }, { accessFlags := 2, nameIndex := 129, descriptorIndex := 6, attributes := #[] }, { accessFlags := 2, nameIndex := 219, descriptorIndex := 123, attributes := #[] }, { accessFlags := 2, nameIndex := 132, descriptorIndex := 119, attributes := #[] }] 49 2 #[] #[{ accessFlags := 25, nameIndex := 220, descriptorIndex := 74, attributes := #[] }, { accessFlags := 25, nameIndex := 223, descriptorIndex := 74, attributes := #[] }, { accessFlags := 25, nameIndex := 225, descriptorIndex := 74, attributes := #[] }, { accessFlags := 25, nameIndex := 227, descriptorIndex := 74, attributes := #[] }, { accessFlags := 25, nameIndex := 229, descriptorIndex := 74, attributes := #[] }, { accessFlags := 25, nameIndex := 231, descriptorIndex := 74, attributes := #[] }, { accessFlags := 25, nameIndex := 233, descriptorIndex := 74, attributes := #[] }, { accessFlags := 25, nameIndex := 235, descriptorIndex := 74, attributes := #[] }, { accessFlags := 25, nameIndex := 237, descriptorIndex := 74, attributes := #[] }, { accessFlags := 25, nameIndex := 239, descriptorIndex := 74, attributes := #[] }, { accessFlags := 25, nameIndex := 241, descriptorIndex := 74, attributes := #[] }, { accessFlags := 25, nameIndex := 243, descriptorIndex := 74, attributes := #[] }, { accessFlags := 25, nameIndex := 245, descriptorIndex := 74, attributes := #[] }, { accessFlags := 25, nameIndex := 247, descriptorIndex := 74, attributes := #[] }, { accessFlags := 2, nameIndex := 73, descriptorIndex := 74, attributes := #[] }, { accessFlags := 2, nameIndex := 77, descriptorIndex := 74, attributes := #[] }, { accessFlags := 2, nameIndex := 86, descriptorIndex := 74, attributes := #[] }, { accessFlags := 2, nameIndex := 11, descriptorIndex := 12, attributes := #[] }, { accessFlags := 2, nameIndex := 89, descriptorIndex := 90, attributes := #[] }, { accessFlags := 2, nameIndex := 97, descriptorIndex := 74, attributes := #[] }, { accessFlags := 2, nameIndex := 100, descriptorIndex := 74, attributes := #[] }, { accessFlags := 2, nameIndex := 103, descriptorIndex := 74, attributes := #[] }, { accessFlags := 2, nameIndex := 106, descriptorIndex := 74, attributes := #[] }, { accessFlags := 2, nameIndex := 109, descriptorIndex := 74, attributes := #[] }, { accessFlags := 2, nameIndex := 15, descriptorIndex := 12, attributes := #[] }, { accessFlags := 2, nameIndex := 18, descriptorIndex := 12, attributes := #[] }, { accessFlags := 2, nameIndex := 21, descriptorIndex := 12, attributes := #[] }, { accessFlags := 2, nameIndex := 24, descriptorIndex := 12, attributes := #[] }, { accessFlags := 2, nameIndex := 80, descriptorIndex := 74, attributes := #[] }, { accessFlags := 2, nameIndex := 27, descriptorIndex := 12, attributes := #[] }, { accessFlags := 2, nameIndex := 30, descriptorIndex := 12, attributes := #[] }, { accessFlags := 2, nameIndex := 33, descriptorIndex := 12, attributes := #[] }, { accessFlags := 2, nameIndex := 36, descriptorIndex := 37, attributes := #[] }, { accessFlags := 2, nameIndex := 40, descriptorIndex := 12, attributes := #[] }, { accessFlags := 2, nameIndex := 43, descriptorIndex := 12, attributes := #[] }, { accessFlags := 2, nameIndex := 46, descriptorIndex := 12, attributes := #[] }, { accessFlags := 2, nameIndex := 49, descriptorIndex := 37, attributes := #[] }, { accessFlags := 2, nameIndex := 52, descriptorIndex := 12, attributes := #[] }, { accessFlags := 2, nameIndex := 55, descriptorIndex := 12, attributes := #[] }, { accessFlags := 2, nameIndex := 58, descriptorIndex := 12, attributes := #[] }, { accessFlags := 2, nameIndex := 61, descriptorIndex := 37, attributes := #[] }, { accessFlags := 2, nameIndex := 64, descriptorIndex := 12, attributes := #[] }, { accessFlags := 2, nameIndex := 67, descriptorIndex := 12, attributes := #[] }, { accessFlags := 2, nameIndex := 70, descriptorIndex := 12, attributes := #[] }, { accessFlags := 2, nameIndex := 175, descriptorIndex := 74, attributes := #[] }])
  fields := #[{ name := "OK", type := .int, accessFlags := 25, slot := 0, constantValue := 0 }, { name := "BAD_VAR", type := .int, accessFlags := 25, slot := 1, constantValue := 0 }, { name := "BAD_VALUE", type := .int, accessFlags := 25, slot := 2, constantValue := 0 }, { name := "PENDING", type := .int, accessFlags := 25, slot := 3, constantValue := 0 }, { name := "NO_PENDING", type := .int, accessFlags := 25, slot := 4, constantValue := 0 }, { name := "DUPLICATE", type := .int, accessFlags := 25, slot := 5, constantValue := 0 }, { name := "FULL", type := .int, accessFlags := 25, slot := 6, constantValue := 0 }, { name := "CONFLICT", type := .int, accessFlags := 25, slot := 7, constantValue := 0 }, { name := "ALREADY", type := .int, accessFlags := 25, slot := 8, constantValue := 0 }, { name := "NOT_CHOSEN", type := .int, accessFlags := 25, slot := 9, constantValue := 0 }, { name := "NO_TABLE", type := .int, accessFlags := 25, slot := 10, constantValue := 0 }, { name := "BAD_SCOPE", type := .int, accessFlags := 25, slot := 11, constantValue := 0 }, { name := "MAX_TABLES", type := .int, accessFlags := 25, slot := 12, constantValue := 0 }, { name := "MAX_TUPLES", type := .int, accessFlags := 25, slot := 13, constantValue := 0 }, { name := "n", type := .int, accessFlags := 2, slot := 0, constantValue := 0 }, { name := "d", type := .int, accessFlags := 2, slot := 1, constantValue := 0 }, { name := "depth", type := .int, accessFlags := 2, slot := 2, constantValue := 0 }, { name := "root", type := (.array .int), accessFlags := 2, slot := 3, constantValue := 0 }, { name := "pending", type := .boolean, accessFlags := 2, slot := 4, constantValue := 0 }, { name := "pendArity", type := .int, accessFlags := 2, slot := 5, constantValue := 0 }, { name := "pendA", type := .int, accessFlags := 2, slot := 6, constantValue := 0 }, { name := "pendB", type := .int, accessFlags := 2, slot := 7, constantValue := 0 }, { name := "pendC", type := .int, accessFlags := 2, slot := 8, constantValue := 0 }, { name := "pendCount", type := .int, accessFlags := 2, slot := 9, constantValue := 0 }, { name := "pendCode", type := (.array .int), accessFlags := 2, slot := 10, constantValue := 0 }, { name := "choice", type := (.array .int), accessFlags := 2, slot := 11, constantValue := 0 }, { name := "fix", type := (.array .int), accessFlags := 2, slot := 12, constantValue := 0 }, { name := "digit", type := (.array .int), accessFlags := 2, slot := 13, constantValue := 0 }, { name := "top", type := .int, accessFlags := 2, slot := 14, constantValue := 0 }, { name := "lvl", type := (.array .int), accessFlags := 2, slot := 15, constantValue := 0 }, { name := "kid", type := (.array .int), accessFlags := 2, slot := 16, constantValue := 0 }, { name := "uniq", type := (.array .int), accessFlags := 2, slot := 17, constantValue := 0 }, { name := "mark", type := (.array .boolean), accessFlags := 2, slot := 18, constantValue := 0 }, { name := "remap", type := (.array .int), accessFlags := 2, slot := 19, constantValue := 0 }, { name := "cnt", type := (.array .int), accessFlags := 2, slot := 20, constantValue := 0 }, { name := "buf", type := (.array .int), accessFlags := 2, slot := 21, constantValue := 0 }, { name := "allowT", type := (.array .boolean), accessFlags := 2, slot := 22, constantValue := 0 }, { name := "memoA", type := (.array .int), accessFlags := 2, slot := 23, constantValue := 0 }, { name := "memoB", type := (.array .int), accessFlags := 2, slot := 24, constantValue := 0 }, { name := "memoR", type := (.array .int), accessFlags := 2, slot := 25, constantValue := 0 }, { name := "memoUsed", type := (.array .boolean), accessFlags := 2, slot := 26, constantValue := 0 }, { name := "stU", type := (.array .int), accessFlags := 2, slot := 27, constantValue := 0 }, { name := "stV", type := (.array .int), accessFlags := 2, slot := 28, constantValue := 0 }, { name := "stPh", type := (.array .int), accessFlags := 2, slot := 29, constantValue := 0 }, { name := "sp", type := .int, accessFlags := 2, slot := 30, constantValue := 0 }]
  methods := #[k2m0, k2m1, k2m2, k2m3, k2m4, k2m5, k2m6, k2m7, k2m8, k2m9, k2m10, k2m11, k2m12]
  instanceTypes := #[.int, .int, .int, (.array .int), .boolean, .int, .int, .int, .int, .int, (.array .int), (.array .int), (.array .int), (.array .int), .int, (.array .int), (.array .int), (.array .int), (.array .boolean), (.array .int), (.array .int), (.array .int), (.array .boolean), (.array .int), (.array .int), (.array .int), (.array .boolean), (.array .int), (.array .int), (.array .int), .int]
  staticTypes := #[.int, .int, .int, .int, .int, .int, .int, .int, .int, .int, .int, .int, .int, .int]
  resolved := Array.replicate 270 none
  statics := none }

def pool3 : Array CpInfo := pool [(1, u "java/lang/Cloneable"), (0, .class_ 1), (0, u "java/lang/Object"), (0, .class_ 3)] 3

/-- java/lang/Cloneable -/
def k3 : Class := { plain "java/lang/Cloneable" (some 0) with
  accessFlags := 1537
  interfaces := #[]
  cf := some (fileOf pool3 2 #[] #[] 1537 4 #[] #[])
  fields := #[]
  methods := #[]
  instanceTypes := #[]
  staticTypes := #[]
  resolved := Array.replicate 8 none
  statics := none }

def pool4 : Array CpInfo := pool [(1, u "java/io/Serializable"), (0, .class_ 1), (0, u "java/lang/Object"), (0, .class_ 3)] 3

/-- java/io/Serializable -/
def k4 : Class := { plain "java/io/Serializable" (some 0) with
  accessFlags := 1537
  interfaces := #[]
  cf := some (fileOf pool4 2 #[] #[] 1537 4 #[] #[])
  fields := #[]
  methods := #[]
  instanceTypes := #[]
  staticTypes := #[]
  resolved := Array.replicate 8 none
  statics := none }

/-- the primitive boolean -/
def k5 : Class := { plain "boolean" none with kind := .primitive 'Z', accessFlags := 0x411 }
/-- [Z -/
def k6 : Class := { plain "[Z" (some 0) with kind := .array 5 .boolean, interfaces := #[3, 4], accessFlags := 1041 }

/-- the primitive byte -/
def k7 : Class := { plain "byte" none with kind := .primitive 'B', accessFlags := 0x411 }
/-- [B -/
def k8 : Class := { plain "[B" (some 0) with kind := .array 7 .byte, interfaces := #[3, 4], accessFlags := 1041 }

/-- the primitive int -/
def k9 : Class := { plain "int" none with kind := .primitive 'I', accessFlags := 0x411 }
/-- [I -/
def k10 : Class := { plain "[I" (some 0) with kind := .array 9 .int, interfaces := #[3, 4], accessFlags := 1041 }

def heap : Heap := #[]
def classes : Array Class := #[k0, k1, k2, k3, k4, k5, k6, k7, k8, k9, k10]
def interned : List (Array UInt16 × Addr) := []
def slotsUsed : Nat := 0
def theMethod : MethodId := ⟨1, 1⟩
def args0 : Array Value := #[.int 5, .int 5, .int 5, .int 5]
def aboutOver (below : List Frame) : State where
  vm := { classes := classes, interned := interned.toArray }
  heap := heap
  slotsUsed := slotsUsed
  threads := #[{ frames := .invoking theMethod args0 :: below }]
def below0 : List Frame := [.native { method := ⟨0, 0⟩, args := #[] }]
def about1 : State := aboutOver below0
def p0 : Program := .bare "" "" ""
def e0 : Env := launch0.env 0 0 0
theorem w_frames : about1.frames = Frame.invoking theMethod args0 :: below0 := rfl
set_option maxRecDepth 65536 in
theorem w_args : argsFit about1.vm theMethod args0 = true := by decide +kernel
set_option maxRecDepth 65536 in
theorem w_heap : heapFits about1 = true := by decide +kernel
set_option maxRecDepth 65536 in
theorem w_runnable : about1.curStatus? = some .runnable := by decide +kernel
set_option maxRecDepth 65536 in
theorem w_alone : about1.alone = true := by decide +kernel
set_option maxRecDepth 65536 in
theorem w_named : about1.methodNamed? x = some theMethod := by decide +kernel
set_option maxRecDepth 65536 in
theorem w_hears : about1.hears theMethod below0 = true := by decide +kernel
set_option maxRecDepth 65536 in
theorem w_ripe : about1.ripe theMethod args0 below0 = true := by decide +kernel
theorem w_running : about1.status = .running := rfl
set_option maxRecDepth 65536 in
theorem w_room : about1.hasRoom e0.platform room_1 = true :=
  launch0.hasRoom_least _ room_1 (by decide +kernel) (by decide +kernel) (by decide +kernel) (by decide +kernel) (by decide +kernel) (by decide +kernel)
theorem allAtoms_all (ts : List Jvm.Cond) (a : Array Jvm.Value) (st : Jvm.State) : (allAtoms ts).before a st = ts.all (fun c => c.before a st) := by
  induction ts with
  | nil => rfl
  | cons c t ih =>
    show (Jvm.Cond.and c (allAtoms t)).before a st = _
    rw [Jvm.Cond.before_and, ih, List.all_cons]
def words1 : List Jvm.Cond := Jvm.Cond.code x code maxLocals ret :: tables_1
/-- a 'code' word, met by the world's own term for the bytes: nothing is compared byte by byte -/
theorem code_word {y : MethodName} {bytes : ByteArray} {mx : Nat} {rt : Option FieldType} {a : Array Value} {s : State} {m : MethodId} {meth : Method} {c : Code} (h1 : s.methodNamed? y = some m) (h2 : s.vm.method? m = some meth) (h3 : meth.code = some c) (h4 : c.code = bytes)
    (h5 : (c.maxLocals == mx && c.exceptionTable.isEmpty && decide (c.maxStack ≤ mostOperands) && decide (meth.sig.returnType = rt) && !meth.locks && decide (parseMethodDescriptor y.desc = some meth.sig)) = true) : (Jvm.Cond.code y bytes mx rt).before a s = true := by
  simp only [Bool.and_eq_true, beq_iff_eq, Bool.not_eq_true', decide_eq_true_eq] at h5
  obtain ⟨⟨⟨⟨⟨g1, g2⟩, g3⟩, g4⟩, g5⟩, g6⟩ := h5
  simp [Cond.before, Cond.holds, Cond.value, h1, h2, h3, h4, g1, g2, g3, g4, g5, g6]
def isCode : Jvm.Cond → Bool
  | .code _ _ _ _ => true
  | _ => false
theorem all_split {L : List Jvm.Cond} {P : Jvm.Cond → Bool} (h1 : L.all (fun c => isCode c || P c) = true) (h2 : ∀ c ∈ L.filter isCode, P c = true) : L.all P = true := by
  refine List.all_eq_true.mpr fun c hc => ?_
  have h := List.all_eq_true.mp h1 c hc
  rcases Bool.eq_false_or_eq_true (isCode c) with hi | hi
  · exact h2 c (List.mem_filter.mpr ⟨hc, hi⟩)
  · simpa [hi] using h
set_option maxRecDepth 65536 in
theorem w_c0 : (Jvm.Cond.code x code maxLocals ret).before args0 about1 = true := code_word (m := ⟨1, 1⟩) (meth := k1m1) (c := k1c1) (by decide +kernel) rfl rfl rfl (by decide +kernel)
set_option maxRecDepth 65536 in
theorem w_c1 : (Jvm.Cond.code ({ cls := "MddConfigurator", name := "<init>", desc := "(II)V" } : Jvm.MethodName) prog_1_method_1_code (4 : Nat) (Option.none : Option Jvm.ClassFile.FieldType)).before args0 about1 = true := code_word (m := ⟨2, 0⟩) (meth := k2m0) (c := k2c0) (by decide +kernel) rfl rfl rfl (by decide +kernel)
set_option maxRecDepth 65536 in
theorem w_c2 : (Jvm.Cond.code ({ cls := "java/lang/Object", name := "<init>", desc := "()V" } : Jvm.MethodName) object_method_1_code (1 : Nat) (Option.none : Option Jvm.ClassFile.FieldType)).before args0 about1 = true := code_word (m := ⟨0, 0⟩) (meth := k0m0) (c := k0c0) (by decide +kernel) rfl rfl rfl (by decide +kernel)
set_option maxRecDepth 65536 in
theorem w_c3 : (Jvm.Cond.code ({ cls := "MddConfigurator", name := "clearUnique", desc := "()V" } : Jvm.MethodName) prog_1_method_21_code (2 : Nat) (Option.none : Option Jvm.ClassFile.FieldType)).before args0 about1 = true := code_word (m := ⟨2, 9⟩) (meth := k2m9) (c := k2c9) (by decide +kernel) rfl rfl rfl (by decide +kernel)
set_option maxRecDepth 65536 in
theorem w_c4 : (Jvm.Cond.code ({ cls := "MddConfigurator", name := "choose", desc := "(II)I" } : Jvm.MethodName) prog_1_method_9_code (3 : Nat) (Option.some Jvm.ClassFile.FieldType.int)).before args0 about1 = true := code_word (m := ⟨2, 1⟩) (meth := k2m1) (c := k2c1) (by decide +kernel) rfl rfl rfl (by decide +kernel)
set_option maxRecDepth 65536 in
theorem w_c5 : (Jvm.Cond.code ({ cls := "MddConfigurator", name := "validVar", desc := "(I)Z" } : Jvm.MethodName) prog_1_method_18_code (2 : Nat) (Option.some Jvm.ClassFile.FieldType.boolean)).before args0 about1 = true := code_word (m := ⟨2, 7⟩) (meth := k2m7) (c := k2c7) (by decide +kernel) rfl rfl rfl (by decide +kernel)
set_option maxRecDepth 65536 in
theorem w_c6 : (Jvm.Cond.code ({ cls := "MddConfigurator", name := "chosenValue", desc := "(I)I" } : Jvm.MethodName) prog_1_method_12_code (2 : Nat) (Option.some Jvm.ClassFile.FieldType.int)).before args0 about1 = true := code_word (m := ⟨2, 3⟩) (meth := k2m3) (c := k2c3) (by decide +kernel) rfl rfl rfl (by decide +kernel)
set_option maxRecDepth 65536 in
theorem w_c7 : (Jvm.Cond.code ({ cls := "MddConfigurator", name := "count", desc := "()I" } : Jvm.MethodName) prog_1_method_14_code (1 : Nat) (Option.some Jvm.ClassFile.FieldType.int)).before args0 about1 = true := code_word (m := ⟨2, 5⟩) (meth := k2m5) (c := k2c5) (by decide +kernel) rfl rfl rfl (by decide +kernel)
set_option maxRecDepth 65536 in
theorem w_c8 : (Jvm.Cond.code ({ cls := "MddConfigurator", name := "loadChoices", desc := "()V" } : Jvm.MethodName) prog_1_method_46_code (2 : Nat) (Option.none : Option Jvm.ClassFile.FieldType)).before args0 about1 = true := code_word (m := ⟨2, 10⟩) (meth := k2m10) (c := k2c10) (by decide +kernel) rfl rfl rfl (by decide +kernel)
set_option maxRecDepth 65536 in
theorem w_c9 : (Jvm.Cond.code ({ cls := "MddConfigurator", name := "countFixed", desc := "()I" } : Jvm.MethodName) prog_1_method_48_code (3 : Nat) (Option.some Jvm.ClassFile.FieldType.int)).before args0 about1 = true := code_word (m := ⟨2, 12⟩) (meth := k2m12) (c := k2c12) (by decide +kernel) rfl rfl rfl (by decide +kernel)
set_option maxRecDepth 65536 in
theorem w_c10 : (Jvm.Cond.code ({ cls := "MddConfigurator", name := "gap", desc := "(II)I" } : Jvm.MethodName) prog_1_method_47_code (5 : Nat) (Option.some Jvm.ClassFile.FieldType.int)).before args0 about1 = true := code_word (m := ⟨2, 11⟩) (meth := k2m11) (c := k2c11) (by decide +kernel) rfl rfl rfl (by decide +kernel)
set_option maxRecDepth 65536 in
theorem w_c11 : (Jvm.Cond.code ({ cls := "MddConfigurator", name := "offeredMask", desc := "(I)I" } : Jvm.MethodName) prog_1_method_13_code (4 : Nat) (Option.some Jvm.ClassFile.FieldType.int)).before args0 about1 = true := code_word (m := ⟨2, 4⟩) (meth := k2m4) (c := k2c4) (by decide +kernel) rfl rfl rfl (by decide +kernel)
set_option maxRecDepth 65536 in
theorem w_c12 : (Jvm.Cond.code ({ cls := "MddConfigurator", name := "retract", desc := "(I)I" } : Jvm.MethodName) prog_1_method_10_code (2 : Nat) (Option.some Jvm.ClassFile.FieldType.int)).before args0 about1 = true := code_word (m := ⟨2, 2⟩) (meth := k2m2) (c := k2c2) (by decide +kernel) rfl rfl rfl (by decide +kernel)
set_option maxRecDepth 65536 in
theorem w_c13 : (Jvm.Cond.code ({ cls := "MddConfigurator", name := "validValue", desc := "(I)Z" } : Jvm.MethodName) prog_1_method_19_code (2 : Nat) (Option.some Jvm.ClassFile.FieldType.boolean)).before args0 about1 = true := code_word (m := ⟨2, 8⟩) (meth := k2m8) (c := k2c8) (by decide +kernel) rfl rfl rfl (by decide +kernel)
set_option maxRecDepth 65536 in
theorem w_c14 : (Jvm.Cond.code ({ cls := "MddConfigurator", name := "countWith", desc := "(II)I" } : Jvm.MethodName) prog_1_method_15_code (3 : Nat) (Option.some Jvm.ClassFile.FieldType.int)).before args0 about1 = true := code_word (m := ⟨2, 6⟩) (meth := k2m6) (c := k2c6) (by decide +kernel) rfl rfl rfl (by decide +kernel)
def codes1 : List Jvm.Cond := [Jvm.Cond.code x code maxLocals ret, Jvm.Cond.code ({ cls := "MddConfigurator", name := "<init>", desc := "(II)V" } : Jvm.MethodName) prog_1_method_1_code (4 : Nat) (Option.none : Option Jvm.ClassFile.FieldType), Jvm.Cond.code ({ cls := "java/lang/Object", name := "<init>", desc := "()V" } : Jvm.MethodName) object_method_1_code (1 : Nat) (Option.none : Option Jvm.ClassFile.FieldType), Jvm.Cond.code ({ cls := "MddConfigurator", name := "clearUnique", desc := "()V" } : Jvm.MethodName) prog_1_method_21_code (2 : Nat) (Option.none : Option Jvm.ClassFile.FieldType), Jvm.Cond.code ({ cls := "MddConfigurator", name := "choose", desc := "(II)I" } : Jvm.MethodName) prog_1_method_9_code (3 : Nat) (Option.some Jvm.ClassFile.FieldType.int), Jvm.Cond.code ({ cls := "MddConfigurator", name := "validVar", desc := "(I)Z" } : Jvm.MethodName) prog_1_method_18_code (2 : Nat) (Option.some Jvm.ClassFile.FieldType.boolean), Jvm.Cond.code ({ cls := "MddConfigurator", name := "chosenValue", desc := "(I)I" } : Jvm.MethodName) prog_1_method_12_code (2 : Nat) (Option.some Jvm.ClassFile.FieldType.int), Jvm.Cond.code ({ cls := "MddConfigurator", name := "count", desc := "()I" } : Jvm.MethodName) prog_1_method_14_code (1 : Nat) (Option.some Jvm.ClassFile.FieldType.int), Jvm.Cond.code ({ cls := "MddConfigurator", name := "loadChoices", desc := "()V" } : Jvm.MethodName) prog_1_method_46_code (2 : Nat) (Option.none : Option Jvm.ClassFile.FieldType), Jvm.Cond.code ({ cls := "MddConfigurator", name := "countFixed", desc := "()I" } : Jvm.MethodName) prog_1_method_48_code (3 : Nat) (Option.some Jvm.ClassFile.FieldType.int), Jvm.Cond.code ({ cls := "MddConfigurator", name := "gap", desc := "(II)I" } : Jvm.MethodName) prog_1_method_47_code (5 : Nat) (Option.some Jvm.ClassFile.FieldType.int), Jvm.Cond.code ({ cls := "MddConfigurator", name := "offeredMask", desc := "(I)I" } : Jvm.MethodName) prog_1_method_13_code (4 : Nat) (Option.some Jvm.ClassFile.FieldType.int), Jvm.Cond.code ({ cls := "MddConfigurator", name := "retract", desc := "(I)I" } : Jvm.MethodName) prog_1_method_10_code (2 : Nat) (Option.some Jvm.ClassFile.FieldType.int), Jvm.Cond.code ({ cls := "MddConfigurator", name := "validValue", desc := "(I)Z" } : Jvm.MethodName) prog_1_method_19_code (2 : Nat) (Option.some Jvm.ClassFile.FieldType.boolean), Jvm.Cond.code ({ cls := "MddConfigurator", name := "countWith", desc := "(II)I" } : Jvm.MethodName) prog_1_method_15_code (3 : Nat) (Option.some Jvm.ClassFile.FieldType.int)]
set_option maxRecDepth 65536 in
theorem codes_eq : words1.filter isCode = codes1 := rfl
theorem w_codes : ∀ c ∈ words1.filter isCode, c.before args0 about1 = true := by
  rw [codes_eq]
  intro c hc
  simp only [codes1, List.mem_cons, List.not_mem_nil, or_false] at hc
  rcases hc with rfl | rfl | rfl | rfl | rfl | rfl | rfl | rfl | rfl | rfl | rfl | rfl | rfl | rfl | rfl
  · exact w_c0
  · exact w_c1
  · exact w_c2
  · exact w_c3
  · exact w_c4
  · exact w_c5
  · exact w_c6
  · exact w_c7
  · exact w_c8
  · exact w_c9
  · exact w_c10
  · exact w_c11
  · exact w_c12
  · exact w_c13
  · exact w_c14
set_option maxRecDepth 65536 in
theorem w_t1 : (words1.take 24).all (fun c => isCode c || c.before args0 about1) = true := by decide +kernel
set_option maxRecDepth 65536 in
theorem w_t2 : ((words1.drop 24).take 24).all (fun c => isCode c || c.before args0 about1) = true := by decide +kernel
set_option maxRecDepth 65536 in
theorem w_t3 : (((words1.drop 24).drop 24).take 24).all (fun c => isCode c || c.before args0 about1) = true := by decide +kernel
set_option maxRecDepth 65536 in
theorem w_t4 : ((((words1.drop 24).drop 24).drop 24).take 24).all (fun c => isCode c || c.before args0 about1) = true := by decide +kernel
set_option maxRecDepth 65536 in
theorem w_t5 : ((((words1.drop 24).drop 24).drop 24).drop 24).all (fun c => isCode c || c.before args0 about1) = true := by decide +kernel
theorem w_tables : (allAtoms (Jvm.Cond.code x code maxLocals ret :: tables_1)).before args0 about1 = true := by
  rw [allAtoms_all]
  show words1.all (fun c => c.before args0 about1) = true
  refine all_split ?_ w_codes
  rw [← List.take_append_drop 24 words1, List.all_append, w_t1, ← List.take_append_drop 24 (words1.drop 24), List.all_append, w_t2, ← List.take_append_drop 24 ((words1.drop 24).drop 24), List.all_append, w_t3, ← List.take_append_drop 24 (((words1.drop 24).drop 24).drop 24), List.all_append, w_t4, w_t5]
  rfl
set_option maxRecDepth 65536 in
theorem w_case : (Jvm.Cond.and given_1 narrow_1).before args0 about1 = true := by decide +kernel
theorem w_applies : (headSpec (Jvm.Cond.code x code maxLocals ret :: tables_1) room_1).applies x e0.platform about1 = true :=
  (Spec.applies_iff w_frames).mpr ⟨w_running, w_runnable, w_alone, w_named, w_hears, w_ripe, w_room, w_tables⟩
theorem atStart : AtStart classFile x code maxLocals ret World_1 tables_1 room_1 Calls_1 rest_1 Pre_1 launch0 p0 e0 about1 theMethod args0 below0 :=
  ⟨lists_1, trivial, launch0.admits_env _ _ _, launch0.least_env, fairChoices_fair.cas, fairChoices_fair.clock, w_frames, w_args, w_heap, w_applies, trivial, trivial, w_case⟩
end start1
theorem witness_1 : WitnessClaimed_1 := ⟨start1.p0, start1.e0, start1.about1, start1.theMethod, start1.args0, start1.below0, start1.atStart⟩
end Jvm.Pilot.@@N@@
