import JvmDerived
import JvmDerived.Pilot.@@N@@Statement
import JvmDerived.Pilot.@@N@@Code
set_option linter.unusedVariables false
set_option linter.unusedSimpArgs false
namespace Jvm.Own
open Sem ClassFile Op Lib Jvm.Stand Jvm.Free Jvm.LawKit Jvm.RoadKit
/-! ## 1. Small heaps: a list of cells: an object of the one class (its fields in order), or an array (of booleans, of ints) -/
abbrev MCell := List Value ⊕ (Bool × List Int32)
abbrev MHeap := List MCell
abbrev Fd := String × String × FieldType
/-- start, its arguments, launch, the script's place, the heap's first length, the class, its fields, its slots -/
abbrev Ctx := State × Array Value × Launch × Option Nat × Nat × String × List Fd × Nat
abbrev gZ (G : Ctx) : State := G.1
abbrev gA (G : Ctx) : Array Value := G.2.1
abbrev gL (G : Ctx) : Launch := G.2.2.1
abbrev gS (G : Ctx) : Option Nat := G.2.2.2.1
abbrev gN (G : Ctx) : Nat := G.2.2.2.2.1
abbrev gC (G : Ctx) : String := G.2.2.2.2.2.1
abbrev gF (G : Ctx) : List Fd := G.2.2.2.2.2.2.1
abbrev gK (G : Ctx) : Nat := G.2.2.2.2.2.2.2
/-- a method: name, bytes, locals, result, frames and words that it needs -/
abbrev Mi := MethodName × ByteArray × Nat × Option FieldType × Nat × Nat
abbrev mN (M : Mi) : MethodName := M.1
abbrev mB (M : Mi) : ByteArray := M.2.1
abbrev mL (M : Mi) : Nat := M.2.2.1
abbrev mR (M : Mi) : Option FieldType := M.2.2.2.1
abbrev mF (M : Mi) : Nat := M.2.2.2.2.1
abbrev mW (M : Mi) : Nat := M.2.2.2.2.2
def rhoA (sa : Option Nat) (n0 i : Nat) : Nat := match sa with
  | none => n0 + i
  | some a => match i with
    | 0 => a
    | j + 1 => n0 + j
def k0A (sa : Option Nat) : Nat := match sa with
  | none => 0
  | some _ => 1
def rho (G : Ctx) (i : Nat) : Nat := rhoA (gS G) (gN G) i
def k0 (G : Ctx) : Nat := k0A (gS G)
def tr (G : Ctx) : Value → Value
  | .ref i => .ref (rho G i)
  | v => v
def trS (G : Ctx) : Slot → Slot
  | .val v => .val (tr G v)
  | s => s
theorem tr_cat (G : Ctx) (v : Value) : (tr G v).category = v.category := by cases v <;> rfl
theorem tr_cats (G : Ctx) (S : List Value) : ((S.map (tr G)).map fun v => v.category).sum = (S.map fun v => v.category).sum := by
  rw [List.map_map]
  congr 1
  exact List.map_congr_left fun v _ => tr_cat G v
def kd : Bool → FieldType
  | true => .boolean
  | false => .int
def CellAt (G : Ctx) (hr : Heap) (a : Nat) : MCell → Prop
  | .inl fs => Exa (gZ G) hr a (gC G) ∧ fs.length = (gF G).length ∧ ∀ (j : Nat) (n d : String) (ty : FieldType) (v : Value), (gF G)[j]? = some (n, d, ty) → fs[j]? = some v → Fld (gZ G) hr a (gC G) n d (tr G v)
  | .inr bx => ∃ c : Cell, Arr (gZ G) hr a c (kd bx.1) ∧ c.slots = (bx.2.map Value.int).toArray
def Rel (G : Ctx) (hr : Heap) (h : MHeap) : Prop :=
  hr.size + k0 G = gN G + h.length ∧ k0 G ≤ h.length ∧ (∀ a, gS G = some a → a < gN G) ∧ ∀ i c, h[i]? = some c → CellAt G hr (rho G i) c
/-- what the sheet says of the class -/
def GOk (G : Ctx) : Prop :=
  (∀ (j : Nat) (n d : String) (ty : FieldType), (gF G)[j]? = some (n, d, ty) → Laid (gZ G) (gA G) (gC G) (gC G) n d ∧ parseFieldDescriptor d = some ty) ∧
  (∀ (j j' : Nat) (f f' : Fd), (gF G)[j]? = some f → (gF G)[j']? = some f' → j ≠ j' → f.1 ≠ f'.1) ∧
  (Cond.instantiable (gC G) (gK G)).before (gA G) (gZ G) = true ∧ (Cond.initialized (gC G)).before (gA G) (gZ G) = true
theorem rhoA_inj {sa : Option Nat} {n0 i j : Nat} (h : ∀ a, sa = some a → a < n0) (e : rhoA sa n0 i = rhoA sa n0 j) : i = j := by
  cases sa with
  | none => simp only [rhoA] at e; omega
  | some a =>
    have := h a rfl
    cases i <;> cases j <;> simp only [rhoA] at e <;> omega
theorem rho_inj {G : Ctx} {i j : Nat} (h : ∀ a, gS G = some a → a < gN G) (e : rho G i = rho G j) : i = j := rhoA_inj h e
theorem rhoA_new {sa : Option Nat} {n0 i : Nat} (h : k0A sa ≤ i) : rhoA sa n0 i = n0 + (i - k0A sa) := by
  cases sa with
  | none => simp only [rhoA, k0A]; omega
  | some a =>
    cases i with
    | zero => simp only [k0A] at h; omega
    | succ j => simp only [rhoA, k0A]; omega
theorem rho_new {G : Ctx} {i : Nat} (h : k0 G ≤ i) : rho G i = gN G + (i - k0 G) := rhoA_new h
theorem rho_ge {G : Ctx} {i : Nat} (h : k0 G ≤ i) : gN G ≤ rho G i := by rw [rho_new h]; omega
theorem CellAt.other {G : Ctx} {hr hr' : Heap} {a b : Nat} {sl : Nat} {v : Value} (W : Wr hr hr' a sl v) (hne : b ≠ a) : ∀ {c : MCell}, CellAt G hr b c → CellAt G hr' b c
  | .inl _, ⟨h1, h2, h3⟩ => ⟨h1.wr W, h2, fun j n d ty v hf hv => Fld.other W (h3 j n d ty v hf hv) (Or.inl hne)⟩
  | .inr _, ⟨c, h1, h2⟩ => ⟨c, h1.other W hne, h2⟩
theorem CellAt.ext {G : Ctx} {hr hr' : Heap} {b : Nat} (E : Ext hr hr') : ∀ {c : MCell}, CellAt G hr b c → CellAt G hr' b c
  | .inl _, ⟨h1, h2, h3⟩ => ⟨h1.ext E, h2, fun j n d ty v hf hv => Fld.ext E (h3 j n d ty v hf hv)⟩
  | .inr _, ⟨c, h1, h2⟩ => ⟨c, h1.ext E, h2⟩
theorem Rel.push {G : Ctx} {hr hr' : Heap} {h : MHeap} {c : MCell} (R : Rel G hr h) (E : Ext hr hr') (hs : hr'.size = hr.size + 1) (hc : CellAt G hr' hr.size c) : Rel G hr' (h ++ [c]) := by
  obtain ⟨h1, h2, h3, h4⟩ := R
  refine ⟨by rw [List.length_append, List.length_singleton]; omega, by rw [List.length_append]; omega, h3, fun i c' hi => ?_⟩
  rcases Nat.lt_or_ge i h.length with q | q
  · rw [List.getElem?_append_left q] at hi
    exact (h4 i c' hi).ext E
  · have hi2 := hi
    rw [List.getElem?_append_right q] at hi2
    have : i - h.length = 0 := by
      rcases Nat.eq_zero_or_pos (i - h.length) with z | z
      · exact z
      · rw [List.getElem?_eq_none (by simp; omega)] at hi2; cases hi2
    have e : i = h.length := by omega
    subst e
    rw [Nat.sub_self] at hi2
    cases hi2
    have : rho G h.length = hr.size := by rw [rho_new h2]; omega
    rw [this]; exact hc
theorem Rel.wrArr {G : Ctx} {hr hr' : Heap} {h : MHeap} {i j : Nat} {b : Bool} {xs : List Int32} {x : Int32} (R : Rel G hr h) (hi : h[i]? = some (.inr (b, xs))) (W : Wr hr hr' (rho G i) j (.int x)) : Rel G hr' (h.set i (.inr (b, xs.set j x))) := by
  obtain ⟨h1, h2, h3, h4⟩ := R
  refine ⟨by rw [W.size, List.length_set]; exact h1, by rw [List.length_set]; exact h2, h3, fun k c' hk => ?_⟩
  by_cases e : i = k
  · subst e
    rw [List.getElem?_set_self (List.getElem?_eq_some_iff.mp hi).1] at hk
    cases hk
    obtain ⟨c, A, hs⟩ := h4 i _ hi
    refine ⟨c.setSlot j (.int x), A.same W, ?_⟩
    show c.slots.setIfInBounds j (.int x) = _
    rw [hs]
    simp [List.map_set]
  · rw [List.getElem?_set_ne e] at hk
    exact (h4 k c' hk).other W fun q => e (rho_inj h3 q).symm
theorem Rel.wrFld {G : Ctx} {hr hr' : Heap} {h : MHeap} {i j : Nat} {fs : List Value} {n d : String} {ty : FieldType} {v : Value} (R : Rel G hr h) (K : GOk G) (hi : h[i]? = some (.inl fs)) (hF : (gF G)[j]? = some (n, d, ty)) (W : Wr hr hr' (rho G i) (Jvm.RoadKit.slotOf (gZ G) (gC G) n d) (tr G v)) : Rel G hr' (h.set i (.inl (fs.set j v))) := by
  obtain ⟨h1, h2, h3, h4⟩ := R
  refine ⟨by rw [W.size, List.length_set]; exact h1, by rw [List.length_set]; exact h2, h3, fun k c' hk => ?_⟩
  by_cases e : i = k
  · subst e
    rw [List.getElem?_set_self (List.getElem?_eq_some_iff.mp hi).1] at hk
    cases hk
    obtain ⟨e1, e2, e3⟩ := h4 i _ hi
    refine ⟨e1.wr W, by rw [List.length_set]; exact e2, fun j' n' d' ty' v' hf' hv' => ?_⟩
    by_cases q : j = j'
    · subst q
      cases hF.symm.trans hf'
      have hlt : j < fs.length := by rw [e2]; exact (List.getElem?_eq_some_iff.mp hF).1
      rw [List.getElem?_set_self hlt] at hv'
      cases hv'
      obtain ⟨w, hw⟩ : ∃ w, fs[j]? = some w := ⟨_, List.getElem?_eq_getElem hlt⟩
      exact Fld.same W (e3 j n d ty w hF hw)
    · rw [List.getElem?_set_ne q] at hv'
      refine Fld.other W (e3 j' n' d' ty' v' hf' hv') (Or.inr ?_)
      exact slot_ne (K.1 j' n' d' ty' hf').1 (K.1 j n d ty hF).1 (K.2.1 j' j _ _ hf' hF (Ne.symm q)) (K.1 j' n' d' ty' hf').2 (K.1 j n d ty hF).2
  · rw [List.getElem?_set_ne e] at hk
    exact (h4 k c' hk).other W fun q => e (rho_inj h3 q).symm
def csl (k : Nat) : MCell → Nat
  | .inl _ => k
  | .inr bx => bx.2.length
def hsl (k : Nat) (h : MHeap) : Nat := (h.map (csl k)).sum
theorem hsl_push (k : Nat) (h : MHeap) (c : MCell) : hsl k (h ++ [c]) = hsl k h + csl k c := by simp [hsl]
theorem hsl_set (k : Nat) : ∀ (h : MHeap) (i : Nat) (c c' : MCell), h[i]? = some c → csl k c' = csl k c → hsl k (h.set i c') = hsl k h
  | [], _, _, _, h, _ => by simp at h
  | a :: t, 0, c, c', h, e => by simp at h; subst h; simp [hsl, e]
  | a :: t, i + 1, c, c', h, e => by
    have := hsl_set k t i c c' (by simpa using h) e
    simp only [hsl, List.set_cons_succ, List.map_cons, List.sum_cons] at this ⊢
    omega
/-! ## 2. Storing a local variable, on lists -/
def lsetAt (l : List Slot) (i : Nat) (x : Slot) : Option (List Slot) := if i < l.length then some (l.set i x) else none
def lstoreSelf (l : List Slot) (i : Nat) (v : Value) : Option (List Slot) :=
  match lsetAt l i (.val v) with
  | none => none
  | some l => if v.category = 2 then
      (match l[i + 1]? with
      | none => none
      | some (.val old) => if old.category = 2 then (match lsetAt l (i + 2) .unset with | none => none | some l2 => lsetAt l2 (i + 1) .second) else lsetAt l (i + 1) .second
      | some _ => lsetAt l (i + 1) .second)
    else some l
def mst (l : List Slot) (i : Nat) (v : Value) : Option (List Slot) :=
  match l[i]? with
  | none => none
  | some .second => (match lsetAt l (i - 1) .unset with | none => none | some l2 => lstoreSelf l2 i v)
  | some (.val old) => if old.category = 2 then (match lsetAt l (i + 1) .unset with | none => none | some l2 => lstoreSelf l2 i v) else lstoreSelf l i v
  | some .unset => lstoreSelf l i v
def arL (G : Ctx) (l : List Slot) : Array Slot := (l.map (trS G)).toArray
theorem setAt_map (G : Ctx) (l : List Slot) (i : Nat) (x : Slot) : setAt (arL G l) i (trS G x) = (lsetAt l i x).map (arL G) := by
  unfold setAt lsetAt arL
  by_cases h : i < l.length <;> simp [h, List.map_set]
theorem arL_get (G : Ctx) (l : List Slot) (i : Nat) : (arL G l)[i]? = (l[i]?).map (trS G) := by simp [arL]
theorem storeSelf_map (G : Ctx) (l : List Slot) (i : Nat) (v : Value) : storeSelf (arL G l) i (tr G v) = (lstoreSelf l i v).map (arL G) := by
  unfold storeSelf lstoreSelf
  have e := setAt_map G l i (.val v)
  simp only [trS] at e
  rw [e]
  cases h1 : lsetAt l i (.val v) with
  | none => rfl
  | some l1 =>
    simp only [Option.map_some, Option.bind_eq_bind, Option.bind_some, tr_cat]
    by_cases hc : v.category = 2
    · simp only [hc, if_true, arL_get]
      cases h2 : l1[i + 1]? with
      | none => rfl
      | some sl =>
        simp only [Option.map_some, Option.bind_some]
        have u2 := setAt_map G l1 (i + 2) .unset
        have s1 := setAt_map G l1 (i + 1) .second
        simp only [trS] at u2 s1
        cases sl with
        | unset => exact s1
        | second => exact s1
        | val old =>
          simp only [trS, tr_cat]
          by_cases hq : old.category = 2
          · simp only [hq, if_true, u2]
            cases h3 : lsetAt l1 (i + 2) .unset with
            | none => rfl
            | some l2 =>
              have s2 := setAt_map G l2 (i + 1) .second
              simp only [trS] at s2
              exact s2
          · simp only [hq, if_false]
            exact s1
    · simp only [hc, if_false]
      rfl
theorem mst_map (G : Ctx) (l : List Slot) (i : Nat) (v : Value) : storeLocals (arL G l) i (tr G v) = (mst l i v).map (arL G) := by
  unfold storeLocals mst
  simp only [arL_get]
  cases h1 : l[i]? with
  | none => rfl
  | some sl =>
    simp only [Option.map_some, Option.bind_eq_bind, Option.bind_some]
    have u1 := setAt_map G l (i - 1) .unset
    have u2 := setAt_map G l (i + 1) .unset
    simp only [trS] at u1 u2
    cases sl with
    | unset => exact storeSelf_map G l i v
    | second =>
      simp only [trS, u1]
      cases h3 : lsetAt l (i - 1) .unset with
      | none => rfl
      | some l2 => exact storeSelf_map G l2 i v
    | val old =>
      simp only [trS, tr_cat]
      by_cases hq : old.category = 2
      · simp only [hq, if_true, u2]
        cases h3 : lsetAt l (i + 1) .unset with
        | none => rfl
        | some l2 => exact storeSelf_map G l2 i v
      · simp only [hq, if_false]
        exact storeSelf_map G l i v
theorem lsetAt_len {l l' : List Slot} {i : Nat} {x : Slot} (h : lsetAt l i x = some l') : l'.length = l.length := by
  unfold lsetAt at h; split at h
  · cases h; simp
  · cases h
theorem lstoreSelf_len {l l' : List Slot} {i : Nat} {v : Value} (h : lstoreSelf l i v = some l') : l'.length = l.length := by
  unfold lstoreSelf at h
  split at h
  · cases h
  · rename_i l1 h1
    have e1 := lsetAt_len h1
    split at h
    · split at h
      · cases h
      · split at h
        · split at h
          · cases h
          · rename_i h2; rw [lsetAt_len h, lsetAt_len h2, e1]
        · rw [lsetAt_len h, e1]
      · rw [lsetAt_len h, e1]
    · cases h; exact e1
theorem mst_len {l l' : List Slot} {i : Nat} {v : Value} (h : mst l i v = some l') : l'.length = l.length := by
  unfold mst at h
  split at h
  · cases h
  · split at h
    · cases h
    · rename_i h2; rw [lstoreSelf_len h, lsetAt_len h2]
  · split at h
    · split at h
      · cases h
      · rename_i h2; rw [lstoreSelf_len h, lsetAt_len h2]
    · exact lstoreSelf_len h
  · exact lstoreSelf_len h
theorem st_of {G : Ctx} {l l' : List Slot} {i : Nat} {v : Value} (h : mst l i v = some l') : storeLocals (arL G l) i (tr G v) = some (arL G l') := by rw [mst_map, h]; rfl
theorem ld_of {G : Ctx} {l : List Slot} {i : Nat} {s : Slot} (h : l[i]? = some s) : (arL G l)[i]? = some (trS G s) := by rw [arL_get, h]; rfl
/-! ## 3. What a run of a body from a point does -/
def Ev (G : Ctx) (M : Mi) (pc : Nat) (L : List Slot) (S : List Value) (h : MHeap) (r : Option Value × MHeap) : Prop :=
  (h.length ≤ r.2.length ∧ hsl (gK G) h ≤ hsl (gK G) r.2) ∧
  ∀ (p : Program) (e : Env) (R : Room) (s : State) (m : MethodId) (args : Array Value) (below : List Frame) (meth : Method) (c : Code) (T : State) (locs : List Loc) (cells slots : Nat),
    Stand p (gL G) e R s m args below meth c T locs cells slots → p.tables.exec = Jvm.exec → (gZ G).Warmed39 s.vm → s.vm.findClass (mN M).cls = some m.cls →
    c.code = mB M → c.maxLocals = mL M → meth.sig.returnType = mR M → meth.name = (mN M).name → L.length = mL M → mF M ≤ R.frames → mW M ≤ R.locals →
    s.heap.size + cells = T.heap.size → Rel G T.heap h → Fr (gN G) locs → cells + (r.2.length - h.length) ≤ R.cells → slots + (hsl (gK G) r.2 - hsl (gK G) h) ≤ R.slots →
    ∃ T' locs', Stand p (gL G) e R s m args below meth c T' locs' (cells + (r.2.length - h.length)) (slots + (hsl (gK G) r.2 - hsl (gK G) h)) ∧ Rel G T'.heap r.2 ∧ Fr (gN G) locs' ∧
      ∀ fs, (∀ (f : JFrame) (acts : List Action), f.method = m → f.locked = none → f.entered = [] → (doReturn e (T'.setTop f) acts (r.1.map (tr G))).1 = T'.setFrames fs) →
        Steps p.tables e below (T.setTop (mkF m pc (arL G L) (S.map (tr G)))) (T'.setFrames fs)
/-- a whole call -/
def EvC (G : Ctx) (y : Mi) (args : List Value) (h : MHeap) (r : Option Value × MHeap) : Prop :=
  (h.length ≤ r.2.length ∧ hsl (gK G) h ≤ hsl (gK G) r.2) ∧
  ∀ (ws : List Jvm.Cond) (R : Room) (hr : Heap), mF y ≤ R.frames → mW y ≤ R.locals → r.2.length - h.length ≤ R.cells → hsl (gK G) r.2 - hsl (gK G) h ≤ R.slots → Rel G hr h →
    MetFree (gL G) (mN y) (head1 (Jvm.Cond.code (mN y) (mB y) (mL y) (mR y) :: ws) R) (fun a U => a = (args.map (tr G)).toArray ∧ (gZ G).Warmed39 U.vm ∧ U.heap = hr) (fun _ _ _ _ _ => True)
      (fun _ U o U' => ∃ v L, o = .returned v ∧ (v = r.1.map (tr G) ∧ Fr (gN G) L ∧ Rel G U'.heap r.2) ∧ FrameEnd U o U' L (r.2.length - h.length) (hsl (gK G) r.2 - hsl (gK G) h))
section Rules
variable {G : Ctx} {M : Mi} {pc : Nat} {L : List Slot} {S : List Value} {h : MHeap} {r : Option Value × MHeap}
theorem Ev.gen {pc' : Nat} {L' : List Slot} {S' : List Value} {h' : MHeap} (hm1 : h.length ≤ h'.length) (hm2 : hsl (gK G) h ≤ hsl (gK G) h') (hL : L'.length = L.length) (hn : Ev G M pc' L' S' h' r)
    (st : ∀ {p : Program} {e : Env} {R : Room} {s : State} {m : MethodId} {args : Array Value} {below : List Frame} {meth : Method} {c : Code} {T : State} {locs : List Loc} {cells slots : Nat},
      Stand p (gL G) e R s m args below meth c T locs cells slots → p.tables.exec = Jvm.exec → (gZ G).Warmed39 s.vm → s.vm.findClass (mN M).cls = some m.cls →
      c.code = mB M → c.maxLocals = mL M → meth.name = (mN M).name → L.length = mL M → mF M ≤ R.frames → mW M ≤ R.locals →
      s.heap.size + cells = T.heap.size → Rel G T.heap h → Fr (gN G) locs → cells + (h'.length - h.length) ≤ R.cells → slots + (hsl (gK G) h' - hsl (gK G) h) ≤ R.slots →
      ∃ T' locs', Stand p (gL G) e R s m args below meth c T' locs' (cells + (h'.length - h.length)) (slots + (hsl (gK G) h' - hsl (gK G) h)) ∧ Rel G T'.heap h' ∧ Fr (gN G) locs' ∧
        ∀ target, Steps p.tables e below (T'.setTop (mkF m pc' (arL G L') (S'.map (tr G)))) target → Steps p.tables e below (T.setTop (mkF m pc (arL G L) (S.map (tr G)))) target) :
    Ev G M pc L S h r := by
  obtain ⟨⟨g1, g2⟩, hn⟩ := hn
  refine ⟨⟨Nat.le_trans hm1 g1, Nat.le_trans hm2 g2⟩, ?_⟩
  intro p e R s m args below meth c T locs cells slots X hx hZ hown hby hml hret hnm hLm hfr hlo hsz hR hF hc hs
  obtain ⟨T1, locs1, X1, R1, F1, st1⟩ := st X hx hZ hown hby hml hnm hLm hfr hlo hsz hR hF (by omega) (by omega)
  have hsz1 : s.heap.size + (cells + (h'.length - h.length)) = T1.heap.size := by
    have a1 := hR.1
    have a2 := R1.1
    omega
  obtain ⟨T2, locs2, X2, R2, F2, st2⟩ := hn p e R s m args below meth c T1 locs1 _ _ X1 hx hZ hown hby hml hret hnm (hL.trans hLm) hfr hlo hsz1 R1 F1 (by omega) (by omega)
  refine ⟨T2, locs2, ?_, R2, F2, fun fs hl => st1 _ (st2 fs hl)⟩
  have e1 : cells + (h'.length - h.length) + (r.2.length - h'.length) = cells + (r.2.length - h.length) := by omega
  have e2 : slots + (hsl (gK G) h' - hsl (gK G) h) + (hsl (gK G) r.2 - hsl (gK G) h') = slots + (hsl (gK G) r.2 - hsl (gK G) h) := by omega
  rw [e1, e2] at X2
  exact X2
/-- a step that leaves the heap -/
theorem Ev.same {pc' : Nat} {L' : List Slot} {S' : List Value} (hL : L'.length = L.length) (hn : Ev G M pc' L' S' h r)
    (st : ∀ {p : Program} {e : Env} {R : Room} {s : State} {m : MethodId} {args : Array Value} {below : List Frame} {meth : Method} {c : Code} {T : State} {locs : List Loc} {cells slots : Nat},
      Stand p (gL G) e R s m args below meth c T locs cells slots → p.tables.exec = Jvm.exec → (gZ G).Warmed39 s.vm → s.vm.findClass (mN M).cls = some m.cls →
      c.code = mB M → c.maxLocals = mL M → L.length = mL M → mF M ≤ R.frames → mW M ≤ R.locals → Rel G T.heap h →
      ∃ T', Stand p (gL G) e R s m args below meth c T' locs cells slots ∧ T'.heap = T.heap ∧
        ∀ target, Steps p.tables e below (T'.setTop (mkF m pc' (arL G L') (S'.map (tr G)))) target → Steps p.tables e below (T.setTop (mkF m pc (arL G L) (S.map (tr G)))) target) :
    Ev G M pc L S h r := by
  refine Ev.gen (Nat.le_refl _) (Nat.le_refl _) hL hn ?_
  intro p e R s m args below meth c T locs cells slots X hx hZ hown hby hml hnm hLm hfr hlo hsz hR hF hc hs
  obtain ⟨T', X', e', st'⟩ := st X hx hZ hown hby hml hLm hfr hlo hR
  refine ⟨T', locs, ?_, by rw [e']; exact hR, hF, st'⟩
  rw [Nat.sub_self, Nat.sub_self, Nat.add_zero, Nat.add_zero]
  exact X'
/-- a step that leaves all but the frame -/
theorem Ev.pure {pc' : Nat} {L' : List Slot} {S' : List Value} (hL : L'.length = L.length) (hn : Ev G M pc' L' S' h r)
    (st : ∀ {p : Program} {e : Env} {R : Room} {s : State} {m : MethodId} {args : Array Value} {below : List Frame} {meth : Method} {c : Code} {T : State} {locs : List Loc} {cells slots : Nat},
      Stand p (gL G) e R s m args below meth c T locs cells slots → p.tables.exec = Jvm.exec → (gZ G).Warmed39 s.vm → s.vm.findClass (mN M).cls = some m.cls →
      c.code = mB M → ∀ target, Steps p.tables e below (T.setTop (mkF m pc' (arL G L') (S'.map (tr G)))) target → Steps p.tables e below (T.setTop (mkF m pc (arL G L) (S.map (tr G)))) target) :
    Ev G M pc L S h r :=
  Ev.same hL hn fun {p e R s m args below meth c T locs cells slots} X hx hZ hown hby hml hLm hfr hlo hR => ⟨T, X, rfl, st X hx hZ hown hby⟩
/-! ### loads, stores, constants -/
theorem Ev.iload {k : Nat} {v : Int32} (hd : decode (mB M) pc = .ok (.iload k, 2)) (hl : L[k]? = some (.val (.int v))) (hn : Ev G M (pc + 2) L (.int v :: S) h r) : Ev G M pc L S h r :=
  Ev.pure rfl hn fun {_ _ _ _ m _ _ _ _ _ _ _ _} X hx hZ hown hby target q => XS.iload (g := mkF m pc (arL G L) (List.map (tr G) S)) X.here hx rfl (hb hby hd) (ld_of hl) q
theorem Ev.iloadN {k : Fin 4} {v : Int32} (hd : decode (mB M) pc = .ok (.iload_n k, 1)) (hl : L[k.val]? = some (.val (.int v))) (hn : Ev G M (pc + 1) L (.int v :: S) h r) : Ev G M pc L S h r :=
  Ev.pure rfl hn fun {_ _ _ _ m _ _ _ _ _ _ _ _} X hx hZ hown hby target q => XS.iloadN (g := mkF m pc (arL G L) (List.map (tr G) S)) X.here hx rfl (hb hby hd) (ld_of hl) q
theorem Ev.aload {k : Nat} {v : Nat} (hd : decode (mB M) pc = .ok (.aload k, 2)) (hl : L[k]? = some (.val (.ref v))) (hn : Ev G M (pc + 2) L (.ref v :: S) h r) : Ev G M pc L S h r :=
  Ev.pure rfl hn fun {_ _ _ _ m _ _ _ _ _ _ _ _} X hx hZ hown hby target q => XS.aload (g := mkF m pc (arL G L) (List.map (tr G) S)) X.here hx rfl (hb hby hd) (ld_of hl) rfl q
theorem Ev.aloadN {k : Fin 4} {v : Nat} (hd : decode (mB M) pc = .ok (.aload_n k, 1)) (hl : L[k.val]? = some (.val (.ref v))) (hn : Ev G M (pc + 1) L (.ref v :: S) h r) : Ev G M pc L S h r :=
  Ev.pure rfl hn fun {_ _ _ _ m _ _ _ _ _ _ _ _} X hx hZ hown hby target q => XS.aloadN (g := mkF m pc (arL G L) (List.map (tr G) S)) X.here hx rfl (hb hby hd) (ld_of hl) rfl q
theorem Ev.lload {k : Nat} {v : Int64} (hd : decode (mB M) pc = .ok (.lload k, 2)) (hl : L[k]? = some (.val (.long v))) (hn : Ev G M (pc + 2) L (.long v :: S) h r) : Ev G M pc L S h r :=
  Ev.pure rfl hn fun {_ _ _ _ m _ _ _ _ _ _ _ _} X hx hZ hown hby target q => XT.lload (g := mkF m pc (arL G L) (List.map (tr G) S)) X.here hx rfl (hb hby hd) (ld_of hl) q
theorem Ev.lloadN {k : Fin 4} {v : Int64} (hd : decode (mB M) pc = .ok (.lload_n k, 1)) (hl : L[k.val]? = some (.val (.long v))) (hn : Ev G M (pc + 1) L (.long v :: S) h r) : Ev G M pc L S h r :=
  Ev.pure rfl hn fun {_ _ _ _ m _ _ _ _ _ _ _ _} X hx hZ hown hby target q => XT.lloadN (g := mkF m pc (arL G L) (List.map (tr G) S)) X.here hx rfl (hb hby hd) (ld_of hl) q
theorem Ev.istore {k : Nat} {v : Int32} {L' : List Slot} (hd : decode (mB M) pc = .ok (.istore k, 2)) (hl : mst L k (.int v) = some L') (hn : Ev G M (pc + 2) L' S h r) : Ev G M pc L (.int v :: S) h r :=
  Ev.pure (mst_len hl) hn fun {_ _ _ _ m _ _ _ _ _ _ _ _} X hx hZ hown hby target q => XS.istore (g := mkF m pc (arL G L) (List.map (tr G) (Value.int v :: S))) X.here hx rfl (hb hby hd) rfl (st_of hl) q
theorem Ev.istoreN {k : Fin 4} {v : Int32} {L' : List Slot} (hd : decode (mB M) pc = .ok (.istore_n k, 1)) (hl : mst L k.val (.int v) = some L') (hn : Ev G M (pc + 1) L' S h r) : Ev G M pc L (.int v :: S) h r :=
  Ev.pure (mst_len hl) hn fun {_ _ _ _ m _ _ _ _ _ _ _ _} X hx hZ hown hby target q => XS.istoreN (g := mkF m pc (arL G L) (List.map (tr G) (Value.int v :: S))) X.here hx rfl (hb hby hd) rfl (st_of hl) q
theorem Ev.astore {k v : Nat} {L' : List Slot} (hd : decode (mB M) pc = .ok (.astore k, 2)) (hl : mst L k (.ref v) = some L') (hn : Ev G M (pc + 2) L' S h r) : Ev G M pc L (.ref v :: S) h r :=
  Ev.pure (mst_len hl) hn fun {_ _ _ _ m _ _ _ _ _ _ _ _} X hx hZ hown hby target q => XS.astore (g := mkF m pc (arL G L) (List.map (tr G) (Value.ref v :: S))) X.here hx rfl (hb hby hd) rfl rfl (st_of hl) q
theorem Ev.astoreN {k : Fin 4} {v : Nat} {L' : List Slot} (hd : decode (mB M) pc = .ok (.astore_n k, 1)) (hl : mst L k.val (.ref v) = some L') (hn : Ev G M (pc + 1) L' S h r) : Ev G M pc L (.ref v :: S) h r :=
  Ev.pure (mst_len hl) hn fun {_ _ _ _ m _ _ _ _ _ _ _ _} X hx hZ hown hby target q => XS.astoreN (g := mkF m pc (arL G L) (List.map (tr G) (Value.ref v :: S))) X.here hx rfl (hb hby hd) rfl rfl (st_of hl) q
theorem Ev.lstore {k : Nat} {v : Int64} {L' : List Slot} (hd : decode (mB M) pc = .ok (.lstore k, 2)) (hl : mst L k (.long v) = some L') (hn : Ev G M (pc + 2) L' S h r) : Ev G M pc L (.long v :: S) h r :=
  Ev.pure (mst_len hl) hn fun {_ _ _ _ m _ _ _ _ _ _ _ _} X hx hZ hown hby target q => XT.lstore (g := mkF m pc (arL G L) (List.map (tr G) (Value.long v :: S))) X.here hx rfl (hb hby hd) rfl (st_of hl) q
theorem Ev.lstoreN {k : Fin 4} {v : Int64} {L' : List Slot} (hd : decode (mB M) pc = .ok (.lstore_n k, 1)) (hl : mst L k.val (.long v) = some L') (hn : Ev G M (pc + 1) L' S h r) : Ev G M pc L (.long v :: S) h r :=
  Ev.pure (mst_len hl) hn fun {_ _ _ _ m _ _ _ _ _ _ _ _} X hx hZ hown hby target q => XT.lstoreN (g := mkF m pc (arL G L) (List.map (tr G) (Value.long v :: S))) X.here hx rfl (hb hby hd) rfl (st_of hl) q
theorem Ev.iconst {i : Int} {z : Int32} (hd : decode (mB M) pc = .ok (.iconst i, 1)) (hz : Int32.ofInt i = z) (hn : Ev G M (pc + 1) L (.int z :: S) h r) : Ev G M pc L S h r :=
  Ev.pure rfl (hz ▸ hn) fun {_ _ _ _ m _ _ _ _ _ _ _ _} X hx hZ hown hby target q => XS.iconst (g := mkF m pc (arL G L) (List.map (tr G) S)) X.here hx rfl (hb hby hd) q
theorem Ev.bipush {i : Int} {z : Int32} (hd : decode (mB M) pc = .ok (.bipush i, 2)) (hz : (Int8.ofInt i).toInt32 = z) (hn : Ev G M (pc + 2) L (.int z :: S) h r) : Ev G M pc L S h r :=
  Ev.pure rfl (hz ▸ hn) fun {_ _ _ _ m _ _ _ _ _ _ _ _} X hx hZ hown hby target q => XS.bipush (g := mkF m pc (arL G L) (List.map (tr G) S)) X.here hx rfl (hb hby hd) q
theorem Ev.sipush {i : Int} {z : Int32} (hd : decode (mB M) pc = .ok (.sipush i, 3)) (hz : (Int16.ofInt i).toInt32 = z) (hn : Ev G M (pc + 3) L (.int z :: S) h r) : Ev G M pc L S h r :=
  Ev.pure rfl (hz ▸ hn) fun {_ _ _ _ m _ _ _ _ _ _ _ _} X hx hZ hown hby target q => XS.sipush (g := mkF m pc (arL G L) (List.map (tr G) S)) X.here hx rfl (hb hby hd) q
theorem Ev.lconst {k : Fin 2} {z : Int64} (hd : decode (mB M) pc = .ok (.lconst k, 1)) (hz : Int64.ofNat k = z) (hn : Ev G M (pc + 1) L (.long z :: S) h r) : Ev G M pc L S h r :=
  Ev.pure rfl (hz ▸ hn) fun {_ _ _ _ m _ _ _ _ _ _ _ _} X hx hZ hown hby target q => XT.lconst (g := mkF m pc (arL G L) (List.map (tr G) S)) X.here hx rfl (hb hby hd) q
theorem Ev.ldc {k : Nat} {v : Int32} (w : (Jvm.Cond.constant (mN M).cls k v).before (gA G) (gZ G) = true) (hd : decode (mB M) pc = .ok (.ldc k, 2)) (hn : Ev G M (pc + 2) L (.int v :: S) h r) : Ev G M pc L S h r :=
  Ev.pure rfl hn fun {_ _ _ _ m _ _ _ _ _ _ _ _} X hx hZ hown hby target q => X.ldcInt hx hown (mvT hZ w) (g := mkF m pc (arL G L) (List.map (tr G) S)) rfl (hb hby hd) target q
theorem Ev.ldcW {k : Nat} {v : Int32} (w : (Jvm.Cond.constant (mN M).cls k v).before (gA G) (gZ G) = true) (hd : decode (mB M) pc = .ok (.ldc_w k, 3)) (hn : Ev G M (pc + 3) L (.int v :: S) h r) : Ev G M pc L S h r :=
  Ev.pure rfl hn fun {_ _ _ _ m _ _ _ _ _ _ _ _} X hx hZ hown hby target q => X.ldcwInt hx hown (mvT hZ w) (g := mkF m pc (arL G L) (List.map (tr G) S)) rfl (hb hby hd) target q
theorem Ev.ldcL {k : Nat} {v : Int64} (w : (Jvm.Cond.constantLong (mN M).cls k v).before (gA G) (gZ G) = true) (hd : decode (mB M) pc = .ok (.ldc2_w k, 3)) (hn : Ev G M (pc + 3) L (.long v :: S) h r) : Ev G M pc L S h r :=
  Ev.pure rfl hn fun {_ _ _ _ m _ _ _ _ _ _ _ _} X hx hZ hown hby target q => X.ldc2Long hx hown (mvT hZ w) (g := mkF m pc (arL G L) (List.map (tr G) S)) rfl (hb hby hd) target q
/-! ### reckoning -/
theorem Ev.iadd {x y : Int32} (hd : decode (mB M) pc = .ok (.iadd, 1)) (hn : Ev G M (pc + 1) L (.int (x + y) :: S) h r) : Ev G M pc L (.int y :: .int x :: S) h r :=
  Ev.pure rfl hn fun {_ _ _ _ m _ _ _ _ _ _ _ _} X hx hZ hown hby target q => XS.iadd (g := mkF m pc (arL G L) (List.map (tr G) (Value.int y :: Value.int x :: S))) X.here hx rfl (hb hby hd) rfl q
theorem Ev.isub {x y : Int32} (hd : decode (mB M) pc = .ok (.isub, 1)) (hn : Ev G M (pc + 1) L (.int (x - y) :: S) h r) : Ev G M pc L (.int y :: .int x :: S) h r :=
  Ev.pure rfl hn fun {_ _ _ _ m _ _ _ _ _ _ _ _} X hx hZ hown hby target q => XS.isub (g := mkF m pc (arL G L) (List.map (tr G) (Value.int y :: Value.int x :: S))) X.here hx rfl (hb hby hd) rfl q
theorem Ev.imul {x y : Int32} (hd : decode (mB M) pc = .ok (.imul, 1)) (hn : Ev G M (pc + 1) L (.int (x * y) :: S) h r) : Ev G M pc L (.int y :: .int x :: S) h r :=
  Ev.pure rfl hn fun {_ _ _ _ m _ _ _ _ _ _ _ _} X hx hZ hown hby target q => XS.imul (g := mkF m pc (arL G L) (List.map (tr G) (Value.int y :: Value.int x :: S))) X.here hx rfl (hb hby hd) rfl q
theorem Ev.idiv {x y : Int32} (hd : decode (mB M) pc = .ok (.idiv, 1)) (hy : y ≠ 0) (hn : Ev G M (pc + 1) L (.int (x / y) :: S) h r) : Ev G M pc L (.int y :: .int x :: S) h r :=
  Ev.pure rfl hn fun {_ _ _ _ m _ _ _ _ _ _ _ _} X hx hZ hown hby target q => XS.idiv (g := mkF m pc (arL G L) (List.map (tr G) (Value.int y :: Value.int x :: S))) X.here hx rfl (hb hby hd) rfl hy q
theorem Ev.irem {x y : Int32} (hd : decode (mB M) pc = .ok (.irem, 1)) (hy : y ≠ 0) (hn : Ev G M (pc + 1) L (.int (x % y) :: S) h r) : Ev G M pc L (.int y :: .int x :: S) h r :=
  Ev.pure rfl hn fun {_ _ _ _ m _ _ _ _ _ _ _ _} X hx hZ hown hby target q => iremM (g := mkF m pc (arL G L) (List.map (tr G) (Value.int y :: Value.int x :: S))) X hx rfl (hb hby hd) rfl hy q
theorem Ev.ineg {x : Int32} (hd : decode (mB M) pc = .ok (.ineg, 1)) (hn : Ev G M (pc + 1) L (.int (-x) :: S) h r) : Ev G M pc L (.int x :: S) h r :=
  Ev.pure rfl hn fun {_ _ _ _ m _ _ _ _ _ _ _ _} X hx hZ hown hby target q => XS.ineg (g := mkF m pc (arL G L) (List.map (tr G) (Value.int x :: S))) X.here hx rfl (hb hby hd) rfl q
theorem Ev.iand {x y : Int32} (hd : decode (mB M) pc = .ok (.iand, 1)) (hn : Ev G M (pc + 1) L (.int (x &&& y) :: S) h r) : Ev G M pc L (.int y :: .int x :: S) h r :=
  Ev.pure rfl hn fun {_ _ _ _ m _ _ _ _ _ _ _ _} X hx hZ hown hby target q => XS.iand (g := mkF m pc (arL G L) (List.map (tr G) (Value.int y :: Value.int x :: S))) X.here hx rfl (hb hby hd) rfl q
theorem Ev.ior {x y : Int32} (hd : decode (mB M) pc = .ok (.ior, 1)) (hn : Ev G M (pc + 1) L (.int (x ||| y) :: S) h r) : Ev G M pc L (.int y :: .int x :: S) h r :=
  Ev.pure rfl hn fun {_ _ _ _ m _ _ _ _ _ _ _ _} X hx hZ hown hby target q => XT.ior (g := mkF m pc (arL G L) (List.map (tr G) (Value.int y :: Value.int x :: S))) X.here hx rfl (hb hby hd) rfl q
theorem Ev.ixor {x y : Int32} (hd : decode (mB M) pc = .ok (.ixor, 1)) (hn : Ev G M (pc + 1) L (.int (x ^^^ y) :: S) h r) : Ev G M pc L (.int y :: .int x :: S) h r :=
  Ev.pure rfl hn fun {_ _ _ _ m _ _ _ _ _ _ _ _} X hx hZ hown hby target q => XT.ixor (g := mkF m pc (arL G L) (List.map (tr G) (Value.int y :: Value.int x :: S))) X.here hx rfl (hb hby hd) rfl q
theorem Ev.ishl {x y : Int32} (hd : decode (mB M) pc = .ok (.ishl, 1)) (hn : Ev G M (pc + 1) L (.int (x <<< (y &&& 31)) :: S) h r) : Ev G M pc L (.int y :: .int x :: S) h r :=
  Ev.pure rfl hn fun {_ _ _ _ m _ _ _ _ _ _ _ _} X hx hZ hown hby target q => XT.ishl (g := mkF m pc (arL G L) (List.map (tr G) (Value.int y :: Value.int x :: S))) X.here hx rfl (hb hby hd) rfl q
theorem Ev.ishr {x y : Int32} (hd : decode (mB M) pc = .ok (.ishr, 1)) (hn : Ev G M (pc + 1) L (.int (x >>> (y &&& 31)) :: S) h r) : Ev G M pc L (.int y :: .int x :: S) h r :=
  Ev.pure rfl hn fun {_ _ _ _ m _ _ _ _ _ _ _ _} X hx hZ hown hby target q => XT.ishr (g := mkF m pc (arL G L) (List.map (tr G) (Value.int y :: Value.int x :: S))) X.here hx rfl (hb hby hd) rfl q
theorem Ev.iushr {x y : Int32} (hd : decode (mB M) pc = .ok (.iushr, 1)) (hn : Ev G M (pc + 1) L (.int (XT.ushr x y) :: S) h r) : Ev G M pc L (.int y :: .int x :: S) h r :=
  Ev.pure rfl hn fun {_ _ _ _ m _ _ _ _ _ _ _ _} X hx hZ hown hby target q => XT.iushr (g := mkF m pc (arL G L) (List.map (tr G) (Value.int y :: Value.int x :: S))) X.here hx rfl (hb hby hd) rfl q
theorem Ev.ladd {x y : Int64} (hd : decode (mB M) pc = .ok (.ladd, 1)) (hn : Ev G M (pc + 1) L (.long (x + y) :: S) h r) : Ev G M pc L (.long y :: .long x :: S) h r :=
  Ev.pure rfl hn fun {_ _ _ _ m _ _ _ _ _ _ _ _} X hx hZ hown hby target q => XT.ladd (g := mkF m pc (arL G L) (List.map (tr G) (Value.long y :: Value.long x :: S))) X.here hx rfl (hb hby hd) rfl q
theorem Ev.lsub {x y : Int64} (hd : decode (mB M) pc = .ok (.lsub, 1)) (hn : Ev G M (pc + 1) L (.long (x - y) :: S) h r) : Ev G M pc L (.long y :: .long x :: S) h r :=
  Ev.pure rfl hn fun {_ _ _ _ m _ _ _ _ _ _ _ _} X hx hZ hown hby target q => XT.lsub (g := mkF m pc (arL G L) (List.map (tr G) (Value.long y :: Value.long x :: S))) X.here hx rfl (hb hby hd) rfl q
theorem Ev.lmul {x y : Int64} (hd : decode (mB M) pc = .ok (.lmul, 1)) (hn : Ev G M (pc + 1) L (.long (x * y) :: S) h r) : Ev G M pc L (.long y :: .long x :: S) h r :=
  Ev.pure rfl hn fun {_ _ _ _ m _ _ _ _ _ _ _ _} X hx hZ hown hby target q => XT.lmul (g := mkF m pc (arL G L) (List.map (tr G) (Value.long y :: Value.long x :: S))) X.here hx rfl (hb hby hd) rfl q
theorem Ev.ldiv {x y : Int64} (hd : decode (mB M) pc = .ok (.ldiv, 1)) (hy : y ≠ 0) (hn : Ev G M (pc + 1) L (.long (x / y) :: S) h r) : Ev G M pc L (.long y :: .long x :: S) h r :=
  Ev.pure rfl hn fun {_ _ _ _ m _ _ _ _ _ _ _ _} X hx hZ hown hby target q => XT.ldiv (g := mkF m pc (arL G L) (List.map (tr G) (Value.long y :: Value.long x :: S))) X.here hx rfl (hb hby hd) rfl hy q
theorem Ev.lneg {x : Int64} (hd : decode (mB M) pc = .ok (.lneg, 1)) (hn : Ev G M (pc + 1) L (.long (-x) :: S) h r) : Ev G M pc L (.long x :: S) h r :=
  Ev.pure rfl hn fun {_ _ _ _ m _ _ _ _ _ _ _ _} X hx hZ hown hby target q => XT.lneg (g := mkF m pc (arL G L) (List.map (tr G) (Value.long x :: S))) X.here hx rfl (hb hby hd) rfl q
theorem Ev.land {x y : Int64} (hd : decode (mB M) pc = .ok (.land, 1)) (hn : Ev G M (pc + 1) L (.long (x &&& y) :: S) h r) : Ev G M pc L (.long y :: .long x :: S) h r :=
  Ev.pure rfl hn fun {_ _ _ _ m _ _ _ _ _ _ _ _} X hx hZ hown hby target q => XT.land (g := mkF m pc (arL G L) (List.map (tr G) (Value.long y :: Value.long x :: S))) X.here hx rfl (hb hby hd) rfl q
theorem Ev.lor {x y : Int64} (hd : decode (mB M) pc = .ok (.lor, 1)) (hn : Ev G M (pc + 1) L (.long (x ||| y) :: S) h r) : Ev G M pc L (.long y :: .long x :: S) h r :=
  Ev.pure rfl hn fun {_ _ _ _ m _ _ _ _ _ _ _ _} X hx hZ hown hby target q => XT.lor (g := mkF m pc (arL G L) (List.map (tr G) (Value.long y :: Value.long x :: S))) X.here hx rfl (hb hby hd) rfl q
theorem Ev.lxor {x y : Int64} (hd : decode (mB M) pc = .ok (.lxor, 1)) (hn : Ev G M (pc + 1) L (.long (x ^^^ y) :: S) h r) : Ev G M pc L (.long y :: .long x :: S) h r :=
  Ev.pure rfl hn fun {_ _ _ _ m _ _ _ _ _ _ _ _} X hx hZ hown hby target q => XT.lxor (g := mkF m pc (arL G L) (List.map (tr G) (Value.long y :: Value.long x :: S))) X.here hx rfl (hb hby hd) rfl q
theorem Ev.lshl {x : Int64} {y : Int32} (hd : decode (mB M) pc = .ok (.lshl, 1)) (hn : Ev G M (pc + 1) L (.long (x <<< (y.toInt64 &&& 63)) :: S) h r) : Ev G M pc L (.int y :: .long x :: S) h r :=
  Ev.pure rfl hn fun {_ _ _ _ m _ _ _ _ _ _ _ _} X hx hZ hown hby target q => XT.lshl (g := mkF m pc (arL G L) (List.map (tr G) (Value.int y :: Value.long x :: S))) X.here hx rfl (hb hby hd) rfl q
theorem Ev.lushr {x : Int64} {y : Int32} (hd : decode (mB M) pc = .ok (.lushr, 1)) (hn : Ev G M (pc + 1) L (.long (XT.ushrL x y) :: S) h r) : Ev G M pc L (.int y :: .long x :: S) h r :=
  Ev.pure rfl hn fun {_ _ _ _ m _ _ _ _ _ _ _ _} X hx hZ hown hby target q => XT.lushr (g := mkF m pc (arL G L) (List.map (tr G) (Value.int y :: Value.long x :: S))) X.here hx rfl (hb hby hd) rfl q
theorem Ev.lcmp {x y : Int64} (hd : decode (mB M) pc = .ok (.lcmp, 1)) (hn : Ev G M (pc + 1) L (.int (XT.cmpL x y) :: S) h r) : Ev G M pc L (.long y :: .long x :: S) h r :=
  Ev.pure rfl hn fun {_ _ _ _ m _ _ _ _ _ _ _ _} X hx hZ hown hby target q => XT.lcmp (g := mkF m pc (arL G L) (List.map (tr G) (Value.long y :: Value.long x :: S))) X.here hx rfl (hb hby hd) rfl q
theorem Ev.i2l {x : Int32} (hd : decode (mB M) pc = .ok (.i2l, 1)) (hn : Ev G M (pc + 1) L (.long x.toInt64 :: S) h r) : Ev G M pc L (.int x :: S) h r :=
  Ev.pure rfl hn fun {_ _ _ _ m _ _ _ _ _ _ _ _} X hx hZ hown hby target q => XT.i2l (g := mkF m pc (arL G L) (List.map (tr G) (Value.int x :: S))) X.here hx rfl (hb hby hd) rfl q
theorem Ev.l2i {x : Int64} (hd : decode (mB M) pc = .ok (.l2i, 1)) (hn : Ev G M (pc + 1) L (.int x.toInt32 :: S) h r) : Ev G M pc L (.long x :: S) h r :=
  Ev.pure rfl hn fun {_ _ _ _ m _ _ _ _ _ _ _ _} X hx hZ hown hby target q => XT.l2i (g := mkF m pc (arL G L) (List.map (tr G) (Value.long x :: S))) X.here hx rfl (hb hby hd) rfl q
theorem Ev.i2b {x : Int32} (hd : decode (mB M) pc = .ok (.i2b, 1)) (hn : Ev G M (pc + 1) L (.int x.toInt8.toInt32 :: S) h r) : Ev G M pc L (.int x :: S) h r :=
  Ev.pure rfl hn fun {_ _ _ _ m _ _ _ _ _ _ _ _} X hx hZ hown hby target q => XT.i2b (g := mkF m pc (arL G L) (List.map (tr G) (Value.int x :: S))) X.here hx rfl (hb hby hd) rfl q
theorem Ev.iinc {k : Nat} {i : Int} {x z : Int32} {L' : List Slot} (hd : decode (mB M) pc = .ok (.iinc k i, 3)) (hl : L[k]? = some (.val (.int x))) (hz : Int32.ofInt i = z) (hl' : mst L k (.int (x + z)) = some L') (hn : Ev G M (pc + 3) L' S h r) : Ev G M pc L S h r :=
  Ev.pure (mst_len hl') hn fun {_ _ _ _ m _ _ _ _ _ _ _ _} X hx hZ hown hby target q => XS.iinc (g := mkF m pc (arL G L) (List.map (tr G) S)) X.here hx rfl (hb hby hd) (ld_of hl) (by rw [hz]; exact st_of hl') q
theorem iincW {tb : Tables} [Ours tb] {e : Env} {below : List Frame} {T target : State} {m : MethodId} {c : Code} {g : JFrame} (h : At T m c below) (hx : tb.exec = Jvm.exec) (hg : g.method = m) {k : Nat} {cst : Int} {x : Int32} {l' : Array Slot} (hd : decode c.code g.pc = .ok (.iinc k cst, 6)) (hl : g.locals[k]? = some (.val (.int x))) (hl' : storeLocals g.locals k (.int (x + Int32.ofInt cst)) = some l')
    (hr : Steps tb e below (T.setTop { g with pc := g.pc + 6, locals := l' }) target) : Steps tb e below (T.setTop g) target := by
  subst hg
  jvm_step h [h.top, hx, hd, hl, hl']
  exact hr
theorem Ev.iincW {k : Nat} {i : Int} {x z : Int32} {L' : List Slot} (hd : decode (mB M) pc = .ok (.iinc k i, 6)) (hl : L[k]? = some (.val (.int x))) (hz : Int32.ofInt i = z) (hl' : mst L k (.int (x + z)) = some L') (hn : Ev G M (pc + 6) L' S h r) : Ev G M pc L S h r :=
  Ev.pure (mst_len hl') hn fun {_ _ _ _ m _ _ _ _ _ _ _ _} X hx hZ hown hby target q => Own.iincW (g := mkF m pc (arL G L) (List.map (tr G) S)) X.here hx rfl (hb hby hd) (ld_of hl) (by rw [hz]; exact st_of hl') q
theorem Ev.dup {x : Value} (hd : decode (mB M) pc = .ok (.dup, 1)) (hc : x.category = 1) (hn : Ev G M (pc + 1) L (x :: x :: S) h r) : Ev G M pc L (x :: S) h r :=
  Ev.pure rfl hn fun {_ _ _ _ m _ _ _ _ _ _ _ _} X hx hZ hown hby target q => XS.dup (g := mkF m pc (arL G L) (List.map (tr G) (x :: S))) X.here hx rfl (hb hby hd) rfl ((tr_cat G x).trans hc) q
theorem Ev.dup2 {x y : Value} (hd : decode (mB M) pc = .ok (.dup2, 1)) (hc : x.category = 1) (hc' : y.category = 1) (hn : Ev G M (pc + 1) L (x :: y :: x :: y :: S) h r) : Ev G M pc L (x :: y :: S) h r :=
  Ev.pure rfl hn fun {_ _ _ _ m _ _ _ _ _ _ _ _} X hx hZ hown hby target q => XT.dup2 (g := mkF m pc (arL G L) (List.map (tr G) (x :: y :: S))) X.here hx rfl (hb hby hd) rfl ((tr_cat G x).trans hc) ((tr_cat G y).trans hc') q
theorem Ev.pop {x : Value} (hd : decode (mB M) pc = .ok (.pop, 1)) (hc : x.category = 1) (hn : Ev G M (pc + 1) L S h r) : Ev G M pc L (x :: S) h r :=
  Ev.pure rfl hn fun {_ _ _ _ m _ _ _ _ _ _ _ _} X hx hZ hown hby target q => XT.pop (g := mkF m pc (arL G L) (List.map (tr G) (x :: S))) X.here hx rfl (hb hby hd) rfl ((tr_cat G x).trans hc) q
/-! ### branches -/
theorem Ev.goto {o : Int} {t : Nat} (hd : decode (mB M) pc = .ok (.goto o, 3)) (hp : (pc : Int) + o = (t : Int)) (hn : Ev G M t L S h r) : Ev G M pc L S h r :=
  Ev.pure rfl hn fun {_ _ _ _ m _ _ _ _ _ _ _ _} X hx hZ hown hby target q => XS.goto (g := mkF m pc (arL G L) (List.map (tr G) S)) X.here hx rfl rfl (hb hby hd) (by rw [hp]; exact Int.natCast_nonneg t) (by rw [hp]; rfl) q
theorem Ev.ifc {cd : ClassFile.Cond} {x : Int32} {o : Int} {t : Nat} (hd : decode (mB M) pc = .ok (.ifCond cd o, 3)) (hp : (pc : Int) + o = (t : Int)) (h1 : ifCond.holds cd x = true → Ev G M t L S h r) (h2 : ifCond.holds cd x = false → Ev G M (pc + 3) L S h r) : Ev G M pc L (.int x :: S) h r := by
  cases hc : ifCond.holds cd x with
  | true => exact Ev.pure rfl (h1 hc) fun {_ _ _ _ m _ _ _ _ _ _ _ _} X hx hZ hown hby target q => XS.ifYes (g := mkF m pc (arL G L) (List.map (tr G) (Value.int x :: S))) X.here hx rfl rfl (hb hby hd) rfl hc (by rw [hp]; exact Int.natCast_nonneg t) (by rw [hp]; rfl) q
  | false => exact Ev.pure rfl (h2 hc) fun {_ _ _ _ m _ _ _ _ _ _ _ _} X hx hZ hown hby target q => XS.ifNo (g := mkF m pc (arL G L) (List.map (tr G) (Value.int x :: S))) X.here hx rfl (hb hby hd) rfl hc q
theorem Ev.icc {cd : ClassFile.Cond} {x y : Int32} {o : Int} {t : Nat} (hd : decode (mB M) pc = .ok (.if_icmp cd o, 3)) (hp : (pc : Int) + o = (t : Int)) (h1 : if_icmp.holds cd x y = true → Ev G M t L S h r) (h2 : if_icmp.holds cd x y = false → Ev G M (pc + 3) L S h r) : Ev G M pc L (.int y :: .int x :: S) h r := by
  cases hc : if_icmp.holds cd x y with
  | true => exact Ev.pure rfl (h1 hc) fun {_ _ _ _ m _ _ _ _ _ _ _ _} X hx hZ hown hby target q => XS.icmpYes (g := mkF m pc (arL G L) (List.map (tr G) (Value.int y :: Value.int x :: S))) X.here hx rfl rfl (hb hby hd) rfl hc (by rw [hp]; exact Int.natCast_nonneg t) (by rw [hp]; rfl) q
  | false => exact Ev.pure rfl (h2 hc) fun {_ _ _ _ m _ _ _ _ _ _ _ _} X hx hZ hown hby target q => XS.icmpNo (g := mkF m pc (arL G L) (List.map (tr G) (Value.int y :: Value.int x :: S))) X.here hx rfl (hb hby hd) rfl hc q
theorem Ev.iclt {x y : Int32} {o : Int} {t : Nat} (hd : decode (mB M) pc = .ok (.if_icmp .lt o, 3)) (hp : (pc : Int) + o = (t : Int)) (h1 : x < y → Ev G M t L S h r) (h2 : ¬ x < y → Ev G M (pc + 3) L S h r) : Ev G M pc L (.int y :: .int x :: S) h r :=
  Ev.icc hd hp (fun q => h1 (by simpa [if_icmp.holds] using q)) (fun q => h2 (by simpa [if_icmp.holds] using q))
theorem Ev.icge {x y : Int32} {o : Int} {t : Nat} (hd : decode (mB M) pc = .ok (.if_icmp .ge o, 3)) (hp : (pc : Int) + o = (t : Int)) (h1 : x < y → Ev G M (pc + 3) L S h r) (h2 : ¬ x < y → Ev G M t L S h r) : Ev G M pc L (.int y :: .int x :: S) h r :=
  Ev.icc hd hp (fun q => h2 (by simpa [if_icmp.holds] using q)) (fun q => h1 (by simpa [if_icmp.holds] using q))
theorem Ev.icgt {x y : Int32} {o : Int} {t : Nat} (hd : decode (mB M) pc = .ok (.if_icmp .gt o, 3)) (hp : (pc : Int) + o = (t : Int)) (h1 : y < x → Ev G M t L S h r) (h2 : ¬ y < x → Ev G M (pc + 3) L S h r) : Ev G M pc L (.int y :: .int x :: S) h r :=
  Ev.icc hd hp (fun q => h1 (by simpa [if_icmp.holds] using q)) (fun q => h2 (by simpa [if_icmp.holds] using q))
theorem Ev.icle {x y : Int32} {o : Int} {t : Nat} (hd : decode (mB M) pc = .ok (.if_icmp .le o, 3)) (hp : (pc : Int) + o = (t : Int)) (h1 : y < x → Ev G M (pc + 3) L S h r) (h2 : ¬ y < x → Ev G M t L S h r) : Ev G M pc L (.int y :: .int x :: S) h r :=
  Ev.icc hd hp (fun q => h2 (by simpa [if_icmp.holds] using q)) (fun q => h1 (by simpa [if_icmp.holds] using q))
theorem Ev.iceq {x y : Int32} {o : Int} {t : Nat} (hd : decode (mB M) pc = .ok (.if_icmp .eq o, 3)) (hp : (pc : Int) + o = (t : Int)) (h1 : x = y → Ev G M t L S h r) (h2 : ¬ x = y → Ev G M (pc + 3) L S h r) : Ev G M pc L (.int y :: .int x :: S) h r :=
  Ev.icc hd hp (fun q => h1 (by simpa [if_icmp.holds] using q)) (fun q => h2 (by simpa [if_icmp.holds] using q))
theorem Ev.icne {x y : Int32} {o : Int} {t : Nat} (hd : decode (mB M) pc = .ok (.if_icmp .ne o, 3)) (hp : (pc : Int) + o = (t : Int)) (h1 : x = y → Ev G M (pc + 3) L S h r) (h2 : ¬ x = y → Ev G M t L S h r) : Ev G M pc L (.int y :: .int x :: S) h r :=
  Ev.icc hd hp (fun q => h2 (by simpa [if_icmp.holds] using q)) (fun q => h1 (by simpa [if_icmp.holds] using q))
theorem Ev.iflt {x : Int32} {o : Int} {t : Nat} (hd : decode (mB M) pc = .ok (.ifCond .lt o, 3)) (hp : (pc : Int) + o = (t : Int)) (h1 : x < 0 → Ev G M t L S h r) (h2 : ¬ x < 0 → Ev G M (pc + 3) L S h r) : Ev G M pc L (.int x :: S) h r :=
  Ev.ifc hd hp (fun q => h1 (by simpa [ifCond.holds] using q)) (fun q => h2 (by simpa [ifCond.holds] using q))
theorem Ev.ifge {x : Int32} {o : Int} {t : Nat} (hd : decode (mB M) pc = .ok (.ifCond .ge o, 3)) (hp : (pc : Int) + o = (t : Int)) (h1 : x < 0 → Ev G M (pc + 3) L S h r) (h2 : ¬ x < 0 → Ev G M t L S h r) : Ev G M pc L (.int x :: S) h r :=
  Ev.ifc hd hp (fun q => h2 (by simpa [ifCond.holds] using q)) (fun q => h1 (by simpa [ifCond.holds] using q))
theorem Ev.ifgt {x : Int32} {o : Int} {t : Nat} (hd : decode (mB M) pc = .ok (.ifCond .gt o, 3)) (hp : (pc : Int) + o = (t : Int)) (h1 : 0 < x → Ev G M t L S h r) (h2 : ¬ 0 < x → Ev G M (pc + 3) L S h r) : Ev G M pc L (.int x :: S) h r :=
  Ev.ifc hd hp (fun q => h1 (by simpa [ifCond.holds] using q)) (fun q => h2 (by simpa [ifCond.holds] using q))
theorem Ev.ifle {x : Int32} {o : Int} {t : Nat} (hd : decode (mB M) pc = .ok (.ifCond .le o, 3)) (hp : (pc : Int) + o = (t : Int)) (h1 : 0 < x → Ev G M (pc + 3) L S h r) (h2 : ¬ 0 < x → Ev G M t L S h r) : Ev G M pc L (.int x :: S) h r :=
  Ev.ifc hd hp (fun q => h2 (by simpa [ifCond.holds] using q)) (fun q => h1 (by simpa [ifCond.holds] using q))
theorem Ev.ifeq {x : Int32} {o : Int} {t : Nat} (hd : decode (mB M) pc = .ok (.ifCond .eq o, 3)) (hp : (pc : Int) + o = (t : Int)) (h1 : x = 0 → Ev G M t L S h r) (h2 : ¬ x = 0 → Ev G M (pc + 3) L S h r) : Ev G M pc L (.int x :: S) h r :=
  Ev.ifc hd hp (fun q => h1 (by simpa [ifCond.holds] using q)) (fun q => h2 (by simpa [ifCond.holds] using q))
theorem Ev.ifne {x : Int32} {o : Int} {t : Nat} (hd : decode (mB M) pc = .ok (.ifCond .ne o, 3)) (hp : (pc : Int) + o = (t : Int)) (h1 : x = 0 → Ev G M (pc + 3) L S h r) (h2 : ¬ x = 0 → Ev G M t L S h r) : Ev G M pc L (.int x :: S) h r :=
  Ev.ifc hd hp (fun q => h2 (by simpa [ifCond.holds] using q)) (fun q => h1 (by simpa [ifCond.holds] using q))
theorem Ev.tswIn {x : Int32} {dflt low high : Int} {offs : Array Int} {len t : Nat} {o : Int} (hd : decode (mB M) pc = .ok (.tableswitch dflt low high offs, len)) (hin : ¬ (x.toInt < low ∨ x.toInt > high)) (ho : offs[(x.toInt - low).toNat]? = some o) (hp : (pc : Int) + o = (t : Int)) (hn : Ev G M t L S h r) : Ev G M pc L (.int x :: S) h r :=
  Ev.pure rfl hn fun {_ _ _ _ m _ _ _ _ _ _ _ _} X hx hZ hown hby target q => XS.tswIn (g := mkF m pc (arL G L) (List.map (tr G) (Value.int x :: S))) X.here hx rfl rfl (hb hby hd) rfl hin ho (by rw [hp]; exact Int.natCast_nonneg t) (by rw [hp]; rfl) q
theorem Ev.tswOut {x : Int32} {dflt low high : Int} {offs : Array Int} {len t : Nat} (hd : decode (mB M) pc = .ok (.tableswitch dflt low high offs, len)) (hout : x.toInt < low ∨ x.toInt > high) (hp : (pc : Int) + dflt = (t : Int)) (hn : Ev G M t L S h r) : Ev G M pc L (.int x :: S) h r :=
  Ev.pure rfl hn fun {_ _ _ _ m _ _ _ _ _ _ _ _} X hx hZ hown hby target q => XS.tswOut (g := mkF m pc (arL G L) (List.map (tr G) (Value.int x :: S))) X.here hx rfl rfl (hb hby hd) rfl hout (by rw [hp]; exact Int.natCast_nonneg t) (by rw [hp]; rfl) q
/-! ### fields -/
theorem Ev.getfield {idx j i : Nat} {n d : String} {ty : FieldType} {fs : List Value} {v : Value} (w : (Jvm.Cond.fieldLink (mN M).cls idx (gC G) n d).before (gA G) (gZ G) = true) (hd : decode (mB M) pc = .ok (.getfield idx, 3))
    (hF : (gF G)[j]? = some (n, d, ty)) (hi : h[i]? = some (.inl fs)) (hv : fs[j]? = some v) (hn : Ev G M (pc + 3) L (v :: S) h r) : Ev G M pc L (.ref i :: S) h r := by
  refine Ev.same rfl hn ?_
  intro p e R s m args below meth c T locs cells slots X hx hZ hown hby hml hLm hfr hlo hR
  obtain ⟨-, -, h3⟩ := hR.2.2.2 i _ hi
  obtain ⟨T', X', e', st⟩ := getF X hx hZ hown (host := "") (Or.inl w) Via.refl rfl (h3 j n d ty v hF hv) (g := mkF m pc (arL G L) ((Value.ref i :: S).map (tr G))) rfl rfl (hb hby hd)
  exact ⟨T', X', e', st⟩
def mput : FieldType → Value → Option Value
  | .int, .int z => some (.int z)
  | .boolean, .int z => some (.int (z &&& 1))
  | .array _, .ref a => some (.ref a)
  | _, _ => none
theorem mput_spec {G : Ctx} {ty : FieldType} {v v' : Value} (h : mput ty v = some v') : narrow ty (tr G v) = tr G v' ∧ fits ty (tr G v') = true := by
  unfold mput at h
  split at h
  · cases h; exact ⟨rfl, rfl⟩
  · cases h; exact ⟨rfl, fits_nar_bool _⟩
  · cases h; exact ⟨rfl, rfl⟩
  · cases h
theorem Ev.putfield {idx j i : Nat} {n d : String} {ty : FieldType} {fs : List Value} {v v' : Value} (K : GOk G) (w : (Jvm.Cond.fieldLink (mN M).cls idx (gC G) n d).before (gA G) (gZ G) = true)
    (wl : (Jvm.Cond.lays (gC G) (gC G) n d).before (gA G) (gZ G) = true ∨ ((Jvm.Cond.laysFinal (gC G) (gC G) n d).before (gA G) (gZ G) = true ∧ (mN M).cls = gC G ∧ (mN M).name = "<init>"))
    (hd : decode (mB M) pc = .ok (.putfield idx, 3)) (hF : (gF G)[j]? = some (n, d, ty)) (hk : k0 G ≤ i) (hi : h[i]? = some (.inl fs)) (hp : mput ty v = some v') (hn : Ev G M (pc + 3) L S (h.set i (.inl (fs.set j v'))) r) : Ev G M pc L (v :: .ref i :: S) h r := by
  have hs := hsl_set (gK G) h i (.inl fs) (.inl (fs.set j v')) hi rfl
  refine Ev.gen (by rw [List.length_set]; exact Nat.le_refl _) (by rw [hs]; exact Nat.le_refl _) rfl hn ?_
  intro p e R s m args below meth c T locs cells slots X hx hZ hown hby hml hnm hLm hfr hlo hsz hR hFr hc hsq
  obtain ⟨e1, e2, e3⟩ := hR.2.2.2 i _ hi
  obtain ⟨q1, q2⟩ := mput_spec (G := G) hp
  have hlt : j < fs.length := by rw [e2]; exact (List.getElem?_eq_some_iff.mp hF).1
  have F := e3 j n d ty _ hF (List.getElem?_eq_getElem hlt)
  obtain ⟨T', h', X', eT', W, st⟩ := putFN X hx hZ hown w Via.refl rfl F e1 (wl.imp id fun ⟨a, b, c⟩ => ⟨a, b, by rw [hnm]; exact c⟩) K.2.2.1 (K.1 j n d ty hF).2 q1 q2 (g := mkF m pc (arL G L) ((v :: Value.ref i :: S).map (tr G))) rfl rfl (hb hby hd)
  refine ⟨T', _, ?_, ?_, Fr.snoc X' hFr (rho_ge hk), st⟩
  · rw [hs, List.length_set, Nat.sub_self, Nat.sub_self, Nat.add_zero, Nat.add_zero]; exact X'
  · rw [eT']; exact hR.wrFld K hi hF W
/-! ### arrays -/
theorem get_arr {xs : List Int32} {c : Cell} (hs : c.slots = (xs.map Value.int).toArray) (k : Nat) : c.slots[k]? = (xs[k]?).map Value.int := by rw [hs]; simp
theorem arr_size {xs : List Int32} {c : Cell} (hs : c.slots = (xs.map Value.int).toArray) : c.slots.size = xs.length := by rw [hs]; simp
theorem Ev.arraylength {i : Nat} {b : Bool} {xs : List Int32} (hd : decode (mB M) pc = .ok (.arraylength, 1)) (hi : h[i]? = some (.inr (b, xs))) (hn : Ev G M (pc + 1) L (.int xs.length.toInt32 :: S) h r) : Ev G M pc L (.ref i :: S) h r := by
  refine Ev.same rfl hn ?_
  intro p e R s m args below meth c T locs cells slots X hx hZ hown hby hml hLm hfr hlo hR
  obtain ⟨cl, A, hs⟩ := hR.2.2.2 i _ hi
  refine ⟨T, X, rfl, fun target k => X.arraylength hx A.1 (State.isArrayOf_alike hZ.alike A.2.1) (g := mkF m pc (arL G L) ((Value.ref i :: S).map (tr G))) rfl rfl (hb hby hd) target ?_⟩
  rw [arr_size hs]; exact k
theorem Ev.iaload {i : Nat} {xs : List Int32} {j v : Int32} (hd : decode (mB M) pc = .ok (.iaload, 1)) (hi : h[i]? = some (.inr (false, xs))) (hj : ¬ j < 0) (hv : xs[j.toNatClampNeg]? = some v) (hn : Ev G M (pc + 1) L (.int v :: S) h r) : Ev G M pc L (.int j :: .ref i :: S) h r := by
  refine Ev.same rfl hn ?_
  intro p e R s m args below meth c T locs cells slots X hx hZ hown hby hml hLm hfr hlo hR
  obtain ⟨cl, A, hs⟩ := hR.2.2.2 i _ hi
  have hlt := (List.getElem?_eq_some_iff.mp hv).1
  exact ⟨T, X, rfl, fun target k => X.iaload hx A.1 (State.isArrayOf_alike hZ.alike A.2.1) A.2.2 (fun q => q.elim hj fun q => absurd (arr_size hs ▸ q) (Nat.not_le.mpr hlt)) (by rw [get_arr hs, hv]; rfl) (g := mkF m pc (arL G L) ((Value.int j :: Value.ref i :: S).map (tr G))) rfl rfl (hb hby hd) target k⟩
theorem Ev.baload {i : Nat} {xs : List Int32} {j v : Int32} (hd : decode (mB M) pc = .ok (.baload, 1)) (hi : h[i]? = some (.inr (true, xs))) (hj : ¬ j < 0) (hv : xs[j.toNatClampNeg]? = some v) (hn : Ev G M (pc + 1) L (.int v :: S) h r) : Ev G M pc L (.int j :: .ref i :: S) h r := by
  refine Ev.same rfl hn ?_
  intro p e R s m args below meth c T locs cells slots X hx hZ hown hby hml hLm hfr hlo hR
  obtain ⟨cl, A, hs⟩ := hR.2.2.2 i _ hi
  have hlt := (List.getElem?_eq_some_iff.mp hv).1
  exact ⟨T, X, rfl, fun target k => X.baloadBooleans hx A.1 (State.isArrayOf_alike hZ.alike A.2.1) A.2.2 (fun q => q.elim hj fun q => absurd (arr_size hs ▸ q) (Nat.not_le.mpr hlt)) (by rw [get_arr hs, hv]; rfl) (g := mkF m pc (arL G L) ((Value.int j :: Value.ref i :: S).map (tr G))) rfl rfl (hb hby hd) target k⟩
theorem Ev.iastore {i : Nat} {xs : List Int32} {j v : Int32} (hd : decode (mB M) pc = .ok (.iastore, 1)) (hk : k0 G ≤ i) (hi : h[i]? = some (.inr (false, xs))) (hj : ¬ j < 0) (hlt : j.toNatClampNeg < xs.length) (hn : Ev G M (pc + 1) L S (h.set i (.inr (false, xs.set j.toNatClampNeg v))) r) : Ev G M pc L (.int v :: .int j :: .ref i :: S) h r := by
  have hs := hsl_set (gK G) h i (.inr (false, xs)) (.inr (false, xs.set j.toNatClampNeg v)) hi (by simp [csl])
  refine Ev.gen (by rw [List.length_set]; exact Nat.le_refl _) (by rw [hs]; exact Nat.le_refl _) rfl hn ?_
  intro p e R s m args below meth c T locs cells slots X hx hZ hown hby hml hnm hLm hfr hlo hsz hR hFr hc hsq
  obtain ⟨cl, A, hsz'⟩ := hR.2.2.2 i _ hi
  obtain ⟨T', h', X', eT', W, st⟩ := stI X hx hZ rfl A (j := j) (x := v) (fun q => q.elim hj fun q => absurd (arr_size hsz' ▸ q) (Nat.not_le.mpr hlt)) (g := mkF m pc (arL G L) ((Value.int v :: Value.int j :: Value.ref i :: S).map (tr G))) rfl rfl (hb hby hd)
  refine ⟨T', _, ?_, ?_, Fr.snoc X' hFr (rho_ge hk), st⟩
  · rw [hs, List.length_set, Nat.sub_self, Nat.sub_self, Nat.add_zero, Nat.add_zero]; exact X'
  · rw [eT']; exact hR.wrArr hi W
theorem Ev.bastore {i : Nat} {xs : List Int32} {j v : Int32} (hd : decode (mB M) pc = .ok (.bastore, 1)) (hk : k0 G ≤ i) (hi : h[i]? = some (.inr (true, xs))) (hj : ¬ j < 0) (hlt : j.toNatClampNeg < xs.length) (hn : Ev G M (pc + 1) L S (h.set i (.inr (true, xs.set j.toNatClampNeg (v &&& 1)))) r) : Ev G M pc L (.int v :: .int j :: .ref i :: S) h r := by
  have hs := hsl_set (gK G) h i (.inr (true, xs)) (.inr (true, xs.set j.toNatClampNeg (v &&& 1))) hi (by simp [csl])
  refine Ev.gen (by rw [List.length_set]; exact Nat.le_refl _) (by rw [hs]; exact Nat.le_refl _) rfl hn ?_
  intro p e R s m args below meth c T locs cells slots X hx hZ hown hby hml hnm hLm hfr hlo hsz hR hFr hc hsq
  obtain ⟨cl, A, hsz'⟩ := hR.2.2.2 i _ hi
  obtain ⟨T', h', X', eT', W, st⟩ := stZ X hx hZ rfl A (j := j) (x := v) (fun q => q.elim hj fun q => absurd (arr_size hsz' ▸ q) (Nat.not_le.mpr hlt)) (g := mkF m pc (arL G L) ((Value.int v :: Value.int j :: Value.ref i :: S).map (tr G))) rfl rfl (hb hby hd)
  refine ⟨T', _, ?_, ?_, Fr.snoc X' hFr (rho_ge hk), st⟩
  · rw [hs, List.length_set, Nat.sub_self, Nat.sub_self, Nat.add_zero, Nat.add_zero]; exact X'
  · rw [eT']; exact hR.wrArr hi W
/-! ### making -/
theorem Ev.new {idx : Nat} {fs : List Value} (K : GOk G) (w : (Jvm.Cond.classLink (mN M).cls idx (gC G)).before (gA G) (gZ G) = true) (hd : decode (mB M) pc = .ok (.new idx, 3)) (hf : fs = (gF G).map fun f => defaultValue f.2.2)
    (hn : Ev G M (pc + 3) L (.ref h.length :: S) (h ++ [.inl fs]) r) : Ev G M pc L S h r := by
  subst hf
  have hs := hsl_push (gK G) h (.inl ((gF G).map fun f => defaultValue f.2.2))
  refine Ev.gen (by simp) (by rw [hs]; exact Nat.le_add_right _ _) rfl hn ?_
  intro p e R s m args below meth c T locs cells slots X hx hZ hown hby hml hnm hLm hfr hlo hsz hR hFr hc hsq
  have el : (h ++ [(.inl ((gF G).map fun f => defaultValue f.2.2) : MCell)]).length - h.length = 1 := by simp
  have es : hsl (gK G) (h ++ [.inl ((gF G).map fun f => defaultValue f.2.2)]) - hsl (gK G) h = gK G := by rw [hs]; simp [csl]
  rw [el] at hc
  rw [es] at hsq
  obtain ⟨T', h', X', eT', E, A, D, -, st⟩ := newO X hx hZ hown w K.2.2.1 K.2.2.2 rfl (g := mkF m pc (arL G L) (S.map (tr G))) rfl (hb hby hd) hc hsq
  rw [el, es]
  have hrho : rho G h.length = T.heap.size := by rw [rho_new hR.2.1]; have := hR.1; have := hR.2.1; omega
  refine ⟨T', _, X', ?_, hFr, fun target k => st target ?_⟩
  · rw [eT']
    refine hR.push E ?_ ⟨A, by simp, fun j n d ty v hf hv => ?_⟩
    · have h1 := X'.heapSize
      have h2 : T.heap.size < h'.size := A.lt
      rw [eT'] at h1
      omega
    · rw [List.getElem?_map, hf] at hv
      cases hv
      have := D (K.1 j n d ty hf).1 (K.1 j n d ty hf).2
      have e : tr G (defaultValue ty) = defaultValue ty := by cases ty <;> rfl
      rw [e]; exact this
  · rw [← hrho]; exact k
theorem Ev.newarray {aty : ArrayType} {b : Bool} {n : Int32} {k : Nat} (w : (Jvm.Cond.arrayClass (newarray.typeOf aty)).before (gA G) (gZ G) = true) (hb' : newarray.typeOf aty = kd b) (hd : decode (mB M) pc = .ok (.newarray aty, 2)) (hn0 : ¬ n < 0) (hk : n.toNatClampNeg = k) (hcap : k ≤ 67108864)
    (hn : Ev G M (pc + 2) L (.ref h.length :: S) (h ++ [.inr (b, List.replicate k 0)]) r) : Ev G M pc L (.int n :: S) h r := by
  subst hk
  have hs := hsl_push (gK G) h (.inr (b, List.replicate n.toNatClampNeg 0))
  refine Ev.gen (by simp) (by rw [hs]; exact Nat.le_add_right _ _) rfl hn ?_
  intro p e R s m args below meth c T locs cells slots X hx hZ hown hby hml hnm hLm hfr hlo hsz hR hFr hc hsq
  have el : (h ++ [(.inr (b, List.replicate n.toNatClampNeg 0) : MCell)]).length - h.length = 1 := by simp
  have es : hsl (gK G) (h ++ [.inr (b, List.replicate n.toNatClampNeg 0)]) - hsl (gK G) h = n.toNatClampNeg := by rw [hs]; simp [csl]
  rw [el] at hc
  rw [es] at hsq
  obtain ⟨T', h', cA, X', eT', E, A, st⟩ := newP X hx hZ w rfl (g := mkF m pc (arL G L) ((Value.int n :: S).map (tr G))) rfl (hb hby hd) rfl hn0 (cap := n.toNatClampNeg) (Nat.le_refl _) (by omega) hc hsq
  rw [el, es]
  have hrho : rho G h.length = T.heap.size := by rw [rho_new hR.2.1]; have := hR.1; have := hR.2.1; omega
  refine ⟨T', _, X', ?_, hFr, fun target k => st target ?_⟩
  · rw [eT']
    refine hR.push E ?_ ⟨_, hb' ▸ A, ?_⟩
    · have h1 := X'.heapSize
      have h2 : T.heap.size < h'.size := A.lt
      rw [eT'] at h1
      omega
    · have e0 : defaultValue (kd b) = .int 0 := by cases b <;> rfl
      show Array.replicate n.toNatClampNeg (defaultValue (kd b)) = _
      rw [e0]
      simp
  · rw [← hrho]; exact k
theorem Ev.initO {idx i : Nat} (w1 : (Jvm.Cond.methodLink (mN M).cls idx Lib.objectInit).before (gA G) (gZ G) = true) (w2 : (Jvm.Cond.instanceMethod Lib.objectInit).before (gA G) (gZ G) = true) (w3 : (Jvm.Cond.code Lib.objectInit ⟨#[0xb1]⟩ 1 none).before (gA G) (gZ G) = true)
    (hd : decode (mB M) pc = .ok (.invokespecial idx, 3)) (hf : 1 ≤ mF M) (hl : (S.map fun v => v.category).sum + 12 ≤ mW M) (hn : Ev G M (pc + 3) L S h r) : Ev G M pc L (.ref i :: S) h r := by
  refine Ev.same rfl hn ?_
  intro p e R s m args below meth c T locs cells slots X hx hZ hown hby hml hLm hfr hlo hR
  obtain ⟨T', X', e', st⟩ := RoadKit.initO X hx hZ hown w1 w2 w3 rfl (g := mkF m pc (arL G L) ((Value.ref i :: S).map (tr G))) rfl (by rw [hml, ← hLm]; simp [arL]) (a := rho G i) (rest := S.map (tr G)) rfl (hb hby hd) (Nat.le_trans hf hfr) (W := (S.map fun v => v.category).sum) (by rw [tr_cats]; show 2 * 0 + _ ≤ _; omega) (by omega)
  exact ⟨T', X', e', st⟩
/-! ### calls -/
def notMH (y : Mi) : Prop := (mN y).cls ≠ "java/lang/invoke/MethodHandle" ∧ (mN y).cls ≠ "java/lang/invoke/VarHandle"
theorem mapRev (G : Ctx) (args : List Value) : (args.reverse).map (tr G) = (args.map (tr G)).reverse := by simp
theorem vList (G : Ctx) (v : Option Value) (S : List Value) : (v.map (tr G)).toList ++ S.map (tr G) = (v.toList ++ S).map (tr G) := by cases v <;> simp
theorem back_of_evc {p : Program} {e : Env} {R : Room} {s : State} {args0 : Array Value} {below : List Frame} {y : Mi} {args : List Value} {r1 : Option Value × MHeap} {hr : Heap} {W : Nat} (hC : EvC G y args h r1) (hR : Rel G hr h) (hZ : (gZ G).Warmed39 s.vm)
    (wc : (Jvm.Cond.code (mN y) (mB y) (mL y) (mR y)).before (gA G) (gZ G) = true) (wz : (Jvm.Cond.initialized (mN y).cls).before (gA G) (gZ G) = true) (hf : mF y + 1 ≤ R.frames) (hl : W + (mL y + 11) + mW y ≤ R.locals) :
    Back (gL G) R p e below s args0 (mN y) 3 W (fun A a => a = (args.map (tr G)).toArray ∧ A.U.heap = hr ∧ A.cells + (r1.2.length - h.length) ≤ R.cells ∧ A.slots + (hsl (gK G) r1.2 - hsl (gK G) h) ≤ R.slots)
      (fun A _ v B => ∃ L, (v = r1.1.map (tr G) ∧ Fr (gN G) L ∧ Rel G B.U.heap r1.2) ∧ B.locs = A.locs ++ L ∧ B.cells = A.cells + (r1.2.length - h.length) ∧ B.slots = A.slots + (hsl (gK G) r1.2 - hsl (gK G) h)) :=
  backOf (Q := fun v hp L => v = r1.1.map (tr G) ∧ Fr (gN G) L ∧ Rel G hp r1.2) (rm := { frames := mF y, cells := r1.2.length - h.length, slots := hsl (gK G) r1.2 - hsl (gK G) h, locals := mW y })
    (hC.2 [] { frames := mF y, cells := r1.2.length - h.length, slots := hsl (gK G) r1.2 - hsl (gK G) h, locals := mW y } hr (Nat.le_refl _) (Nat.le_refl _) (Nat.le_refl _) (Nat.le_refl _) hR) hZ wc wz hf hl
/-- a private method of the class -/
theorem Ev.priv {y : Mi} {idx i : Nat} {args rest : List Value} {v : Option Value} {h1 : MHeap} {fs : List Value} (K : GOk G) (hcls : (mN y).cls = gC G) (hy : notMH y)
    (wl : (Jvm.Cond.methodLink (mN M).cls idx (mN y)).before (gA G) (gZ G) = true) (wi : (Jvm.Cond.instanceMethod (mN y)).before (gA G) (gZ G) = true) (wp : (Jvm.Cond.privateMethod (mN y)).before (gA G) (gZ G) = true)
    (wc : (Jvm.Cond.code (mN y) (mB y) (mL y) (mR y)).before (gA G) (gZ G) = true) (hlen : ∀ sig, parseMethodDescriptor (mN y).desc = some sig → args.length = sig.parameters.length)
    (hd : decode (mB M) pc = .ok (.invokevirtual idx, 3)) (hi : h[i]? = some (.inl fs)) (hC : EvC G y (.ref i :: args) h (v, h1)) (hfr : mF y + 1 ≤ mF M) (hlo : (rest.map fun v => v.category).sum + (mL y + 11) + mW y ≤ mW M)
    (hS : S = args.reverse ++ .ref i :: rest) (hn : Ev G M (pc + 3) L (v.toList ++ rest) h1 r) : Ev G M pc L S h r := by
  subst hS
  refine Ev.gen hC.1.1 hC.1.2 rfl hn ?_
  intro p e R s m args0 below meth c T locs cells slots X hx hZ hown hby hml hnm hLm hfr' hlo' hsz hR hFr hc hsq
  obtain ⟨e1, -, -⟩ := hR.2.2.2 i _ hi
  obtain ⟨cell, hcell, hobj⟩ := e1.cell
  have hwi : (Jvm.Cond.instanceMethod (mN y)).before args0 s = true := mvT hZ wi
  have hpr := Jvm.Cond.privateMethod_at (mvP hZ wp (args := #[]))
  have hsel : (Jvm.Cond.selects (mN y).cls (mN y) (mN y)).before args0 s = true := by
    obtain ⟨c0, k0', q1, q2, -, q4, -⟩ := Jvm.Cond.instantiable_spec (mvT hZ K.2.2.1 (args := #[]) (s := s))
    refine selects_self_of_private (c := c0) (k := k0') (by rw [hcls]; exact q1) q2 ?_ hpr hwi hy
    simp only [Bool.or_eq_false_iff] at q4
    exact q4.1
  obtain ⟨v', vm1, ⟨T', L', k', n'⟩, -, X', ⟨Lc, ⟨rfl, hF', hR'⟩, l1, l2, l3⟩, st⟩ := X.privateBack hx (y := mN y) hown (mvT hZ wl) hwi hsel hpr (mvT hZ wc) hy
    (back_of_evc (W := (rest.map fun v => v.category).sum) hC hR hZ wc (hcls ▸ K.2.2.2) (Nat.le_trans hfr hfr') (Nat.le_trans hlo hlo')) (g := mkF m pc (arL G L) ((args.reverse ++ Value.ref i :: rest).map (tr G))) rfl (by rw [hml, ← hLm]; simp [arL]) (Steps.refl _) hcell hobj
    (argsL := args.map (tr G)) (rest := rest.map (tr G)) (fun sig hsig => by rw [List.length_map]; exact hlen sig hsig) (by simp [tr]) (by rw [tr_cats]; show 2 * 0 + _ ≤ _; omega) (hb hby hd) (fun vm1 hW1 => ⟨rfl, rfl, hc, hsq⟩)
  dsimp only [Pt.U, Pt.locs, Pt.cells, Pt.slots] at X' l1 l2 l3 st hR'
  subst l1 l2 l3
  refine ⟨T', _, X', hR', hFr.app hF', fun target k => st.trans ?_⟩
  rw [vList]
  exact k
/-- a method of the class that no one overrides -/
theorem Ev.virt {y : Mi} {idx i : Nat} {args rest : List Value} {v : Option Value} {h1 : MHeap} {fs : List Value} (K : GOk G) (hcls : (mN y).cls = gC G) (hy : notMH y)
    (wl : (Jvm.Cond.methodLink (mN M).cls idx (mN y)).before (gA G) (gZ G) = true) (wd : (Jvm.Cond.declares (mN y)).before (gA G) (gZ G) = true) (wi : (Jvm.Cond.instanceMethod (mN y)).before (gA G) (gZ G) = true) (ws : (Jvm.Cond.selects (gC G) (mN y) (mN y)).before (gA G) (gZ G) = true)
    (wc : (Jvm.Cond.code (mN y) (mB y) (mL y) (mR y)).before (gA G) (gZ G) = true) (hlen : ∀ sig, parseMethodDescriptor (mN y).desc = some sig → args.length = sig.parameters.length)
    (hd : decode (mB M) pc = .ok (.invokevirtual idx, 3)) (hi : h[i]? = some (.inl fs)) (hC : EvC G y (.ref i :: args) h (v, h1)) (hfr : mF y + 1 ≤ mF M) (hlo : (rest.map fun v => v.category).sum + (mL y + 11) + mW y ≤ mW M)
    (hS : S = args.reverse ++ .ref i :: rest) (hn : Ev G M (pc + 3) L (v.toList ++ rest) h1 r) : Ev G M pc L S h r := by
  subst hS
  refine Ev.gen hC.1.1 hC.1.2 rfl hn ?_
  intro p e R s m args0 below meth c T locs cells slots X hx hZ hown hby hml hnm hLm hfr' hlo' hsz hR hFr hc hsq
  obtain ⟨e1, -, -⟩ := hR.2.2.2 i _ hi
  obtain ⟨cq, kq, qa, qb, qc⟩ := isOf (T := T) hZ rfl e1
  obtain ⟨v', vm1, ⟨T', L', k', n'⟩, -, X', ⟨Lc, ⟨rfl, hF', hR'⟩, l1, l2, l3⟩, st⟩ := X.virtualBack hx (y := mN y) (z := mN y) hown (mvT hZ wl) (mvT hZ wd) (notFace_of_selects (args := #[]) (mvT hZ ws)) (mvT hZ ws) (mvT hZ wi) hy
    (back_of_evc (W := (rest.map fun v => v.category).sum) hC hR hZ wc (hcls ▸ K.2.2.2) (Nat.le_trans hfr hfr') (Nat.le_trans hlo hlo')) qa qc (g := mkF m pc (arL G L) ((args.reverse ++ Value.ref i :: rest).map (tr G))) rfl (by rw [hml, ← hLm]; simp [arL]) (Steps.refl _)
    (argsL := args.map (tr G)) (rest := rest.map (tr G)) (fun sig hsig => by rw [List.length_map]; exact hlen sig hsig) (by simp [tr]) (by rw [tr_cats]; show 2 * 0 + _ ≤ _; omega) (hb hby hd) (fun vm1 hW1 => ⟨rfl, rfl, hc, hsq⟩)
  dsimp only [Pt.U, Pt.locs, Pt.cells, Pt.slots] at X' l1 l2 l3 st hR'
  subst l1 l2 l3
  refine ⟨T', _, X', hR', hFr.app hF', fun target k => st.trans ?_⟩
  rw [vList]
  exact k
/-- a constructor -/
theorem Ev.ctor {y : Mi} {idx i : Nat} {args rest : List Value} {v : Option Value} {h1 : MHeap} (hy1 : (mN y).name = "<init>") (hret : mR y = none) (hy : notMH y)
    (wl : (Jvm.Cond.methodLink (mN M).cls idx (mN y)).before (gA G) (gZ G) = true) (wi : (Jvm.Cond.instanceMethod (mN y)).before (gA G) (gZ G) = true)
    (wc : (Jvm.Cond.code (mN y) (mB y) (mL y) (mR y)).before (gA G) (gZ G) = true) (wz : (Jvm.Cond.initialized (mN y).cls).before (gA G) (gZ G) = true) (hlen : ∀ sig, parseMethodDescriptor (mN y).desc = some sig → args.length = sig.parameters.length)
    (hd : decode (mB M) pc = .ok (.invokespecial idx, 3)) (hC : EvC G y (.ref i :: args) h (v, h1)) (hfr : mF y + 1 ≤ mF M) (hlo : (rest.map fun v => v.category).sum + (mL y + 11) + mW y ≤ mW M)
    (hS : S = args.reverse ++ .ref i :: rest) (hn : Ev G M (pc + 3) L (v.toList ++ rest) h1 r) : Ev G M pc L S h r := by
  subst hS
  refine Ev.gen hC.1.1 hC.1.2 rfl hn ?_
  intro p e R s m args0 below meth c T locs cells slots X hx hZ hown hby hml hnm hLm hfr' hlo' hsz hR hFr hc hsq
  obtain ⟨v', vm1, ⟨T', L', k', n'⟩, -, X', ⟨Lc, ⟨rfl, hF', hR'⟩, l1, l2, l3⟩, st⟩ := X.specialBack hx (y := mN y) hy1 hown (mvT hZ wl) (mvT hZ wi) (mvT hZ (hret ▸ wc)) hy
    (back_of_evc (W := (rest.map fun v => v.category).sum) hC hR hZ wc wz (Nat.le_trans hfr hfr') (Nat.le_trans hlo hlo')) (g := mkF m pc (arL G L) ((args.reverse ++ Value.ref i :: rest).map (tr G))) rfl (by rw [hml, ← hLm]; simp [arL]) (Steps.refl _)
    (a := rho G i) (argsL := args.map (tr G)) (rest := rest.map (tr G)) (fun sig hsig => by rw [List.length_map]; exact hlen sig hsig) (by simp [tr]) (by rw [tr_cats]; show 2 * 0 + _ ≤ _; omega) (hb hby hd) (fun vm1 hW1 => ⟨rfl, rfl, hc, hsq⟩)
  dsimp only [Pt.U, Pt.locs, Pt.cells, Pt.slots] at X' l1 l2 l3 st hR'
  subst l1 l2 l3
  refine ⟨T', _, X', hR', hFr.app hF', fun target k => st.trans ?_⟩
  rw [vList]
  exact k
/-- a static method -/
theorem Ev.stat {y : Mi} {idx : Nat} {args rest : List Value} {v : Option Value} {h1 : MHeap} (hy : notMH y)
    (wl : (Jvm.Cond.methodLink (mN M).cls idx (mN y)).before (gA G) (gZ G) = true) (wst : (Jvm.Cond.static (mN y)).before (gA G) (gZ G) = true) (wz : (Jvm.Cond.initialized (mN y).cls).before (gA G) (gZ G) = true)
    (wc : (Jvm.Cond.code (mN y) (mB y) (mL y) (mR y)).before (gA G) (gZ G) = true) (hlen : ∀ sig, parseMethodDescriptor (mN y).desc = some sig → args.length = sig.parameters.length)
    (hd : decode (mB M) pc = .ok (.invokestatic idx, 3)) (hC : EvC G y args h (v, h1)) (hfr : mF y + 1 ≤ mF M) (hlo : (rest.map fun v => v.category).sum + (mL y + 11) + mW y ≤ mW M)
    (hS : S = args.reverse ++ rest) (hn : Ev G M (pc + 3) L (v.toList ++ rest) h1 r) : Ev G M pc L S h r := by
  subst hS
  refine Ev.gen hC.1.1 hC.1.2 rfl hn ?_
  intro p e R s m args0 below meth c T locs cells slots X hx hZ hown hby hml hnm hLm hfr' hlo' hsz hR hFr hc hsq
  obtain ⟨v', vm1, ⟨T', L', k', n'⟩, -, X', ⟨Lc, ⟨rfl, hF', hR'⟩, l1, l2, l3⟩, st⟩ := Jvm.LawKit.callS X hx (y := mN y) hown (mvT hZ wl) (mvT hZ wst) (mvT hZ wz) (mvT hZ wc) hy
    (back_of_evc (W := (rest.map fun v => v.category).sum) hC hR hZ wc wz (Nat.le_trans hfr hfr') (Nat.le_trans hlo hlo')) (g := mkF m pc (arL G L) ((args.reverse ++ rest).map (tr G))) rfl (by rw [hml, ← hLm]; simp [arL])
    (argsL := args.map (tr G)) (rest := rest.map (tr G)) (fun sig hsig => by rw [List.length_map]; exact hlen sig hsig) (by simp) (by rw [tr_cats]; show 2 * 0 + _ ≤ _; omega) (hb hby hd) (fun vm1 hW1 => ⟨rfl, rfl, hc, hsq⟩)
  dsimp only [Pt.U, Pt.locs, Pt.cells, Pt.slots] at X' l1 l2 l3 st hR'
  subst l1 l2 l3
  refine ⟨T', _, X', hR', hFr.app hF', fun target k => st target ?_⟩
  rw [vList]
  exact k
/-! ### returns -/
theorem Ev.ret {v : Option Value} (st : ∀ {p : Program} {e : Env} {R : Room} {s : State} {m : MethodId} {args : Array Value} {below : List Frame} {meth : Method} {c : Code} {T : State} {locs : List Loc} {cells slots : Nat},
      Stand p (gL G) e R s m args below meth c T locs cells slots → p.tables.exec = Jvm.exec → c.code = mB M → meth.sig.returnType = mR M → ∀ fs,
      (∀ (f : JFrame) (acts : List Action), f.method = m → f.locked = none → f.entered = [] → (doReturn e (T.setTop f) acts (v.map (tr G))).1 = T.setFrames fs) → Steps p.tables e below (T.setTop (mkF m pc (arL G L) (S.map (tr G)))) (T.setFrames fs)) :
    Ev G M pc L S h (v, h) := by
  refine ⟨⟨Nat.le_refl _, Nat.le_refl _⟩, ?_⟩
  intro p e R s m args below meth c T locs cells slots X hx hZ hown hby hml hret hnm hLm hfr hlo hsz hR hF hc hs
  refine ⟨T, locs, ?_, hR, hF, st X hx hby hret⟩
  rw [Nat.sub_self, Nat.sub_self, Nat.add_zero, Nat.add_zero]
  exact X
theorem Ev.ireturn {z : Int32} (hret : mR M = some .int) (hd : decode (mB M) pc = .ok (.ireturn, 1)) : Ev G M pc L (.int z :: S) h (some (.int z), h) :=
  Ev.ret fun X hx hby hr fs hl => retOut X hx (hr.trans hret) rfl (Or.inl ⟨rfl, Or.inl rfl, z, rfl⟩) (hb hby hd) hl
theorem Ev.zreturn {z : Int32} (hret : mR M = some .boolean) (hd : decode (mB M) pc = .ok (.ireturn, 1)) : Ev G M pc L (.int z :: S) h (some (.int (z &&& 1)), h) :=
  Ev.ret fun X hx hby hr fs hl => retN X hx (t := .boolean) (hr.trans hret) (Or.inl rfl) (hb hby hd) hl
theorem Ev.lreturn {z : Int64} (hret : mR M = some .long) (hd : decode (mB M) pc = .ok (.lreturn, 1)) : Ev G M pc L (.long z :: S) h (some (.long z), h) :=
  Ev.ret fun X hx hby hr fs hl => retOut X hx (hr.trans hret) rfl (Or.inr (Or.inl ⟨rfl, rfl, z, rfl⟩)) (hb hby hd) hl
theorem Ev.vreturn (hret : mR M = none) (hd : decode (mB M) pc = .ok (.return_, 1)) : Ev G M pc L [] h (none, h) :=
  Ev.ret fun X hx hby hr fs hl => X.returnOut hx (hr.trans hret) (hb hby hd) hl
/-! ### entering -/
def margs : List Value → List Slot
  | [] => []
  | v :: vs => if v.category = 2 then .val v :: .second :: margs vs else .val v :: margs vs
theorem margs_fold (vs : List Value) : ∀ acc : Array Slot, vs.foldl (init := acc) (fun acc v => if v.category = 2 then (acc.push (.val v)).push .second else acc.push (.val v)) = acc ++ (margs vs).toArray := by
  induction vs with
  | nil => intro acc; simp [margs]
  | cons v vs ih =>
    intro acc
    rw [List.foldl_cons, ih]
    by_cases h : v.category = 2
    · simp [margs, h]
    · simp [margs, h]
theorem margs_map (G : Ctx) : ∀ vs : List Value, margs (vs.map (tr G)) = (margs vs).map (trS G)
  | [] => rfl
  | v :: vs => by
    have ih := margs_map G vs
    by_cases h : v.category = 2
    · simp only [List.map_cons, margs, tr_cat, h, if_true, ih]; rfl
    · simp only [List.map_cons, margs, tr_cat, h, if_false, ih]; rfl
def ment (args : List Value) (k : Nat) : List Slot := margs args ++ List.replicate (k - (margs args).length) .unset
theorem entry_eq (G : Ctx) (m : MethodId) (args : List Value) (k : Nat) : entryFrame m (args.map (tr G)).toArray k = mkF m 0 (arL G (ment args k)) [] := by
  have e : argsToLocals (args.map (tr G)).toArray k = arL G (ment args k) := by
    unfold argsToLocals arL ment
    have q := margs_fold (args.map (tr G)) #[]
    rw [List.foldl_toArray']
    · rw [q, margs_map]
      simp [trS]
    · simp
  unfold entryFrame
  rw [e]
theorem EvC.enter {y : Mi} {args : List Value} {L0 : List Slot} (hp : plainFor (mN y) = true) (hv : mR y = none → r.1 = none) (hL : ment args (mL y) = L0) (hlen : L0.length = mL y) (hn : Ev G y 0 L0 [] h r) : EvC G y args h r := by
  subst hL
  refine ⟨hn.1, fun ws R hr hf hl hc hs hR => ?_⟩
  refine MetFree.of_bodySF hp hisR ?_
  intro p e s m args' below meth c s₁ Bd hml0 hP hK
  obtain ⟨rfl, hZ, hh⟩ := hP
  have X0 : Stand p (gL G) e R s m _ below meth c s₁ [] 0 0 := Stand.of_body Bd
  have e0 : s₁.heap = hr := by rw [← hh, Bd.state]; rfl
  obtain ⟨T', locs', X', R', F', st⟩ := hn.2 p e R s m _ below meth c s₁ [] 0 0 X0 Bd.exec hZ (findClass_of_methodNamed Bd.named) Bd.bytes hml0 Bd.returns (name_of_methodNamed Bd.named Bd.method).1 hlen hf hl (by rw [e0, hh]; rfl) (by rw [e0]; exact hR) (Fr.nil _) (by omega) (by omega)
  rw [Nat.zero_add, Nat.zero_add] at X'
  obtain ⟨fs, hret, hrun, hended, hW, hsame⟩ := X'.leave (v := r.1.map (tr G)) (fun q => by rw [hv (Bd.returns.symm.trans q)]; rfl)
  refine ⟨_, _, castTop (entry_eq G m args (mL y)) (st fs hret), hrun, hended, _, _, rfl, ⟨rfl, F', ?_⟩, ⟨_, rfl⟩, hW, hsame⟩
  exact R'
end Rules
end Jvm.Own
namespace Jvm.Own
open Sem ClassFile Op Lib Jvm.Stand Jvm.Free Jvm.LawKit Jvm.RoadKit
/-! ## 4. An object as two functions: its ints by the field's number, its arrays by the field's number and the place -/
abbrev St := (Nat → Int32) × (Nat → Nat → Int32)
def setI (s : St) (j : Nat) (z : Int32) : St := (fun k => if k = j then z else s.1 k, s.2)
def setA (s : St) (j i : Nat) (z : Int32) : St := (s.1, fun k x => if k = j ∧ x = i then z else s.2 k x)
def zeroS : St := (fun _ => 0, fun _ _ => 0)
theorem setI_1 (s : St) (j : Nat) (z : Int32) (k : Nat) : (setI s j z).1 k = if k = j then z else s.1 k := rfl
theorem setI_2 (s : St) (j : Nat) (z : Int32) : (setI s j z).2 = s.2 := rfl
theorem setA_1 (s : St) (j i : Nat) (z : Int32) : (setA s j i z).1 = s.1 := rfl
theorem setA_2 (s : St) (j i : Nat) (z : Int32) (k x : Nat) : (setA s j i z).2 k x = if k = j ∧ x = i then z else s.2 k x := rfl
def ix (j : Int32) : Nat := j.toNatClampNeg
/-- the place j lies in an array of n -/
def inb (j : Int32) (n : Nat) : Prop := ¬ j < 0 ∧ ix j < n
instance (j : Int32) (n : Nat) : Decidable (inb j n) := inferInstanceAs (Decidable (_ ∧ _))
def bnd {α β : Type} (x : α) (f : α → β) : β := f x
theorem bnd_eq {α β : Type} (x : α) (f : α → β) : bnd x f = f x := rfl
def tab (n : Nat) (f : Nat → Int32) : List Int32 := (List.range n).map f
theorem tab_len (n : Nat) (f : Nat → Int32) : (tab n f).length = n := by simp [tab]
theorem tab_get {n : Nat} {f : Nat → Int32} {i : Nat} (h : i < n) : (tab n f)[i]? = some (f i) := by simp [tab, h]
theorem tab_set {n : Nat} {f : Nat → Int32} {i : Nat} {z : Int32} : (tab n f).set i z = tab n (fun x => if x = i then z else f x) := by
  apply List.ext_getElem?
  intro k
  rw [List.getElem?_set]
  by_cases h : i = k
  · subst h
    by_cases q : i < n
    · simp [tab, q]
    · simp [tab, q]
  · by_cases q : k < n
    · simp [tab, q, h, Ne.symm h]
    · simp [tab, q, h]
theorem tab_zero (n : Nat) : tab n (fun _ => 0) = List.replicate n 0 := by
  apply List.ext_getElem?
  intro k
  by_cases q : k < n <;> simp [tab, q]
theorem tab_of (xs : List Int32) : xs = tab xs.length (fun i => xs.getD i 0) := by
  apply List.ext_getElem?
  intro k
  by_cases q : k < xs.length
  · simp [tab, q]
  · simp [tab, q]
def isA : FieldType → Bool
  | .array _ => true
  | _ => false
def isB : FieldType → Bool
  | .boolean => true
  | _ => false
def fv1 (r : Nat → Nat) (s : St) (j : Nat) (f : Fd) : Value := match f.2.2 with
  | .array _ => .ref (r j)
  | _ => .int (s.1 j)
def fvA (r : Nat → Nat) (s : St) : Nat → List Fd → List Value
  | _, [] => []
  | j, f :: fs => fv1 r s j f :: fvA r s (j + 1) fs
theorem fvA_get (r : Nat → Nat) (s : St) : ∀ (F : List Fd) (k j : Nat), (fvA r s k F)[j]? = (F[j]?).map (fv1 r s (k + j))
  | [], _, _ => by simp [fvA]
  | f :: fs, k, 0 => by simp [fvA]
  | f :: fs, k, j + 1 => by
    have := fvA_get r s fs (k + 1) j
    simp only [fvA, List.getElem?_cons_succ, this]
    rw [show k + 1 + j = k + (j + 1) by omega]
theorem fvA_len (r : Nat → Nat) (s : St) : ∀ (F : List Fd) (k : Nat), (fvA r s k F).length = F.length
  | [], _ => rfl
  | f :: fs, k => by simp [fvA, fvA_len r s fs (k + 1)]
theorem fvA_set {r : Nat → Nat} {s : St} {F : List Fd} {j : Nat} {f : Fd} {z : Int32} (hF : F[j]? = some f) (ht : isA f.2.2 = false) : (fvA r s 0 F).set j (.int z) = fvA r (setI s j z) 0 F := by
  apply List.ext_getElem?
  intro k
  rw [List.getElem?_set, fvA_get, fvA_get, Nat.zero_add]
  by_cases h : j = k
  · subst h
    simp only [if_true, fvA_len, (List.getElem?_eq_some_iff.mp hF).1, hF, Option.map_some]
    congr 1
    unfold fv1
    split
    · rename_i t e; rw [e] at ht; cases ht
    · simp [setI_1]
  · simp only [h, if_false]
    cases F[k]? with
    | none => rfl
    | some g =>
      simp only [Option.map_some]
      congr 1
      unfold fv1
      split
      · rfl
      · rw [setI_1, if_neg (Ne.symm h)]
theorem fvA_same (r : Nat → Nat) {s s' : St} (h : s.1 = s'.1) : ∀ (F : List Fd) (k : Nat), fvA r s k F = fvA r s' k F
  | [], _ => rfl
  | f :: fs, k => by
    simp only [fvA, fvA_same r h fs (k + 1)]
    congr 1
    unfold fv1
    split
    · rfl
    · rw [h]
/-- the heap K s shows the object at o, its arrays at r, as s tells -/
def View (G : Ctx) (Ln : Nat → Nat) (K : St → MHeap) (o : Nat) (r : Nat → Nat) : Prop :=
  k0 G ≤ o ∧ (∀ s, (K s)[o]? = some (.inl (fvA r s 0 (gF G)))) ∧
  (∀ s j f z, (gF G)[j]? = some f → isA f.2.2 = false → (K s).set o (.inl ((fvA r s 0 (gF G)).set j (.int z))) = K (setI s j z)) ∧
  (∀ j n d t, (gF G)[j]? = some (n, d, .array t) → k0 G ≤ r j ∧ (∀ s, (K s)[r j]? = some (.inr (isB t, tab (Ln j) (s.2 j)))) ∧ ∀ s i z, i < Ln j → (K s).set (r j) (.inr (isB t, (tab (Ln j) (s.2 j)).set i z)) = K (setA s j i z))
section ViewRules
variable {G : Ctx} {M : Mi} {pc : Nat} {L : List Slot} {S : List Value} {rr : Option Value × MHeap} {Ln : Nat → Nat} {K : St → MHeap} {o : Nat} {r : Nat → Nat} {s : St}
theorem Ev.gI {idx j : Nat} {n d : String} {ty : FieldType} (V : View G Ln K o r) (w : (Jvm.Cond.fieldLink (mN M).cls idx (gC G) n d).before (gA G) (gZ G) = true) (hd : decode (mB M) pc = .ok (.getfield idx, 3)) (hF : (gF G)[j]? = some (n, d, ty)) (ht : isA ty = false)
    (hn : Ev G M (pc + 3) L (.int (s.1 j) :: S) (K s) rr) : Ev G M pc L (.ref o :: S) (K s) rr :=
  Ev.getfield w hd hF (V.2.1 s) (v := .int (s.1 j)) (by rw [fvA_get, hF, Nat.zero_add]; simp only [Option.map_some, fv1]; cases ty <;> first | rfl | cases ht) hn
theorem Ev.gAr {idx j : Nat} {n d : String} {t : FieldType} (V : View G Ln K o r) (w : (Jvm.Cond.fieldLink (mN M).cls idx (gC G) n d).before (gA G) (gZ G) = true) (hd : decode (mB M) pc = .ok (.getfield idx, 3)) (hF : (gF G)[j]? = some (n, d, .array t))
    (hn : Ev G M (pc + 3) L (.ref (r j) :: S) (K s) rr) : Ev G M pc L (.ref o :: S) (K s) rr :=
  Ev.getfield w hd hF (V.2.1 s) (v := .ref (r j)) (by rw [fvA_get, hF, Nat.zero_add]; rfl) hn
theorem Ev.pI {idx j : Nat} {n d : String} {z : Int32} (V : View G Ln K o r) (Kk : GOk G) (w : (Jvm.Cond.fieldLink (mN M).cls idx (gC G) n d).before (gA G) (gZ G) = true)
    (wl : (Jvm.Cond.lays (gC G) (gC G) n d).before (gA G) (gZ G) = true ∨ ((Jvm.Cond.laysFinal (gC G) (gC G) n d).before (gA G) (gZ G) = true ∧ (mN M).cls = gC G ∧ (mN M).name = "<init>"))
    (hd : decode (mB M) pc = .ok (.putfield idx, 3)) (hF : (gF G)[j]? = some (n, d, .int)) (hn : Ev G M (pc + 3) L S (K (setI s j z)) rr) : Ev G M pc L (.int z :: .ref o :: S) (K s) rr := by
  refine Ev.putfield Kk w wl hd hF V.1 (V.2.1 s) (v' := .int z) rfl ?_
  rw [V.2.2.1 s j _ z hF rfl]; exact hn
theorem Ev.pZ {idx j : Nat} {n d : String} {z : Int32} (V : View G Ln K o r) (Kk : GOk G) (w : (Jvm.Cond.fieldLink (mN M).cls idx (gC G) n d).before (gA G) (gZ G) = true)
    (wl : (Jvm.Cond.lays (gC G) (gC G) n d).before (gA G) (gZ G) = true ∨ ((Jvm.Cond.laysFinal (gC G) (gC G) n d).before (gA G) (gZ G) = true ∧ (mN M).cls = gC G ∧ (mN M).name = "<init>"))
    (hd : decode (mB M) pc = .ok (.putfield idx, 3)) (hF : (gF G)[j]? = some (n, d, .boolean)) (hn : Ev G M (pc + 3) L S (K (setI s j (z &&& 1))) rr) : Ev G M pc L (.int z :: .ref o :: S) (K s) rr := by
  refine Ev.putfield Kk w wl hd hF V.1 (V.2.1 s) (v' := .int (z &&& 1)) rfl ?_
  rw [V.2.2.1 s j _ _ hF rfl]; exact hn
theorem Ev.ial {j : Nat} {n d : String} {i : Int32} {N : Nat} (V : View G Ln K o r) (hF : (gF G)[j]? = some (n, d, .array .int)) (hN : Ln j = N) (hd : decode (mB M) pc = .ok (.iaload, 1)) (hb : inb i N) (hn : Ev G M (pc + 1) L (.int (s.2 j (ix i)) :: S) (K s) rr) : Ev G M pc L (.int i :: .ref (r j) :: S) (K s) rr :=
  Ev.iaload hd ((V.2.2.2 j n d _ hF).2.1 s) hb.1 (tab_get (hN ▸ hb.2)) hn
theorem Ev.bal {j : Nat} {n d : String} {i : Int32} {N : Nat} (V : View G Ln K o r) (hF : (gF G)[j]? = some (n, d, .array .boolean)) (hN : Ln j = N) (hd : decode (mB M) pc = .ok (.baload, 1)) (hb : inb i N) (hn : Ev G M (pc + 1) L (.int (s.2 j (ix i)) :: S) (K s) rr) : Ev G M pc L (.int i :: .ref (r j) :: S) (K s) rr :=
  Ev.baload hd ((V.2.2.2 j n d _ hF).2.1 s) hb.1 (tab_get (hN ▸ hb.2)) hn
theorem Ev.ias {j : Nat} {n d : String} {i z : Int32} {N : Nat} (V : View G Ln K o r) (hF : (gF G)[j]? = some (n, d, .array .int)) (hN : Ln j = N) (hd : decode (mB M) pc = .ok (.iastore, 1)) (hb : inb i N) (hn : Ev G M (pc + 1) L S (K (setA s j (ix i) z)) rr) : Ev G M pc L (.int z :: .int i :: .ref (r j) :: S) (K s) rr := by
  obtain ⟨q1, q2, q3⟩ := V.2.2.2 j n d _ hF
  refine Ev.iastore hd q1 (q2 s) hb.1 (by rw [tab_len, hN]; exact hb.2) ?_
  have := q3 s (ix i) z (hN ▸ hb.2)
  exact this ▸ hn
theorem Ev.bas {j : Nat} {n d : String} {i z : Int32} {N : Nat} (V : View G Ln K o r) (hF : (gF G)[j]? = some (n, d, .array .boolean)) (hN : Ln j = N) (hd : decode (mB M) pc = .ok (.bastore, 1)) (hb : inb i N) (hn : Ev G M (pc + 1) L S (K (setA s j (ix i) (z &&& 1))) rr) : Ev G M pc L (.int z :: .int i :: .ref (r j) :: S) (K s) rr := by
  obtain ⟨q1, q2, q3⟩ := V.2.2.2 j n d _ hF
  refine Ev.bastore hd q1 (q2 s) hb.1 (by rw [tab_len, hN]; exact hb.2) ?_
  have := q3 s (ix i) (z &&& 1) (hN ▸ hb.2)
  exact this ▸ hn
theorem Ev.sal {h : MHeap} {i : Int32} {N k : Nat} {f : Nat → Int32} (hs : h[k]? = some (.inr (false, tab N f))) (hd : decode (mB M) pc = .ok (.iaload, 1)) (hb : inb i N) (hn : Ev G M (pc + 1) L (.int (f (ix i)) :: S) h rr) : Ev G M pc L (.int i :: .ref k :: S) h rr :=
  Ev.iaload hd hs hb.1 (tab_get hb.2) hn
theorem Ev.sln {h : MHeap} {N k : Nat} {f : Nat → Int32} (hs : h[k]? = some (.inr (false, tab N f))) (hd : decode (mB M) pc = .ok (.arraylength, 1)) (hn : Ev G M (pc + 1) L (.int N.toInt32 :: S) h rr) : Ev G M pc L (.ref k :: S) h rr :=
  Ev.arraylength hd hs (by rw [tab_len]; exact hn)
theorem Ev.zret1 {h : MHeap} (hret : mR M = some .boolean) (hd : decode (mB M) pc = .ok (.ireturn, 1)) : Ev G M pc L (.int 1 :: S) h (some (.int 1), h) := Ev.zreturn hret hd
theorem Ev.zret0 {h : MHeap} (hret : mR M = some .boolean) (hd : decode (mB M) pc = .ok (.ireturn, 1)) : Ev G M pc L (.int 0 :: S) h (some (.int 0), h) := Ev.zreturn hret hd
/-- a slot over which an int may be stored at once -/
def one1 : Slot → Bool
  | .unset => true
  | .val v => v.category == 1
  | .second => false
theorem mst_one {l : List Slot} {i : Nat} {v : Value} {o : Slot} (ho : l[i]? = some o) (h1 : one1 o = true) (hv : v.category = 1) : mst l i v = some (l.set i (.val v)) := by
  have hlt := (List.getElem?_eq_some_iff.mp ho).1
  have e : lstoreSelf l i v = some (l.set i (.val v)) := by simp [lstoreSelf, lsetAt, hlt, hv]
  unfold mst
  rw [ho]
  cases o with
  | unset => exact e
  | second => cases h1
  | val w =>
    have : w.category = 1 := by simpa [one1] using h1
    simp only [this]
    exact e
theorem Ev.istD {k : Nat} {v : Int32} {L' : List Slot} {o : Slot} {h : MHeap} (hd : decode (mB M) pc = .ok (.istore k, 2)) (ho : L[k]? = some o) (h1 : one1 o = true) (hl : L.set k (.val (.int v)) = L') (hn : Ev G M (pc + 2) L' S h rr) : Ev G M pc L (.int v :: S) h rr :=
  Ev.istore hd (by rw [mst_one ho h1 rfl, hl]) hn
theorem Ev.istDN {k : Fin 4} {v : Int32} {L' : List Slot} {o : Slot} {h : MHeap} (hd : decode (mB M) pc = .ok (.istore_n k, 1)) (ho : L[k.val]? = some o) (h1 : one1 o = true) (hl : L.set k.val (.val (.int v)) = L') (hn : Ev G M (pc + 1) L' S h rr) : Ev G M pc L (.int v :: S) h rr :=
  Ev.istoreN hd (by rw [mst_one ho h1 rfl, hl]) hn
/-- a pair of slots over which a long may be stored at once -/
def two2 (a b : Slot) : Prop := (one1 a = true ∧ one1 b = true) ∨ (∃ x, a = .val (.long x) ∧ b = .second)
theorem set_set2 {l : List Slot} {i : Nat} {a b c : Slot} : ((l.set (i + 1) a).set i b).set (i + 1) c = (l.set i b).set (i + 1) c := by
  rw [List.set_comm _ _ (by omega : i + 1 ≠ i), List.set_set]
theorem mst_two {l : List Slot} {i : Nat} {v : Int64} {o o' : Slot} (ho : l[i]? = some o) (ho' : l[i + 1]? = some o') (h2 : two2 o o') : mst l i (.long v) = some ((l.set i (.val (.long v))).set (i + 1) .second) := by
  have hlt := (List.getElem?_eq_some_iff.mp ho).1
  have hlt' := (List.getElem?_eq_some_iff.mp ho').1
  rcases h2 with ⟨h1, h1'⟩ | ⟨x, rfl, rfl⟩
  · have e : lstoreSelf l i (.long v) = some ((l.set i (.val (.long v))).set (i + 1) .second) := by
      have q : (l.set i (.val (.long v)))[i + 1]? = some o' := by rw [List.getElem?_set_ne (by omega)]; exact ho'
      have hcat : (Value.long v).category = 2 := rfl
      simp only [lstoreSelf, lsetAt, hlt, if_true, hcat, q]
      cases o' with
      | unset => simp [hlt']
      | second => cases h1'
      | val w =>
        have : w.category = 1 := by simpa [one1] using h1'
        simp [this, hlt']
    unfold mst
    rw [ho]
    cases o with
    | unset => exact e
    | second => cases h1
    | val w =>
      have : w.category = 1 := by simpa [one1] using h1
      simp only [this]
      exact e
  · unfold mst
    rw [ho]
    have q : ((l.set (i + 1) Slot.unset).set i (.val (.long v)))[i + 1]? = some .unset := by
      rw [List.getElem?_set_ne (by omega), List.getElem?_set_self hlt']
    simp only [Value.category, if_true, lsetAt, hlt', lstoreSelf, List.length_set, hlt, q, set_set2]
theorem Ev.lstD {k : Nat} {v : Int64} {L' : List Slot} {o o' : Slot} {h : MHeap} (hd : decode (mB M) pc = .ok (.lstore k, 2)) (ho : L[k]? = some o) (ho' : L[k + 1]? = some o') (h2 : two2 o o') (hl : (L.set k (.val (.long v))).set (k + 1) .second = L') (hn : Ev G M (pc + 2) L' S h rr) : Ev G M pc L (.long v :: S) h rr :=
  Ev.lstore hd (by rw [mst_two ho ho' h2, hl]) hn
theorem Ev.lstDN {k : Fin 4} {v : Int64} {L' : List Slot} {o o' : Slot} {h : MHeap} (hd : decode (mB M) pc = .ok (.lstore_n k, 1)) (ho : L[k.val]? = some o) (ho' : L[k.val + 1]? = some o') (h2 : two2 o o') (hl : (L.set k.val (.val (.long v))).set (k.val + 1) .second = L') (hn : Ev G M (pc + 1) L' S h rr) : Ev G M pc L (.long v :: S) h rr :=
  Ev.lstoreN hd (by rw [mst_two ho ho' h2, hl]) hn
end ViewRules
/-! ## 5. One object among others -/
/-- al: the array fields in the order in which the constructor makes them, each with 'of booleans' -/
def rA (o : Nat) (al : List (Nat × Bool)) (j : Nat) : Nat := o + 1 + al.findIdx (fun q => q.1 == j)
def arr1 (Ln : Nat → Nat) (s : St) (q : Nat × Bool) : MCell := .inr (q.2, tab (Ln q.1) (s.2 q.1))
def KO (F : List Fd) (al : List (Nat × Bool)) (Ln : Nat → Nat) (o : Nat) (s : St) : MHeap := .inl (fvA (rA o al) s 0 F) :: al.map (arr1 Ln s)
def KH (F : List Fd) (al : List (Nat × Bool)) (Ln : Nat → Nat) (pre post : MHeap) (s : St) : MHeap := pre ++ (KO F al Ln pre.length s ++ post)
def alOk (F : List Fd) (al : List (Nat × Bool)) : Bool := (List.range F.length).all (fun j => match F[j]? with
  | some (_, _, .array t) => al[al.findIdx (fun q => q.1 == j)]? == some (j, isB t)
  | _ => true)
theorem KO_len {F : List Fd} {al : List (Nat × Bool)} {Ln : Nat → Nat} {o : Nat} {s : St} : (KO F al Ln o s).length = al.length + 1 := by simp [KO]
theorem app_get (pre post l : MHeap) (k : Nat) (h : k < l.length) : (pre ++ (l ++ post))[pre.length + k]? = l[k]? := by
  rw [List.getElem?_append_right (by omega), Nat.add_sub_cancel_left, List.getElem?_append_left h]
theorem app_set (pre post l : MHeap) (k : Nat) (c : MCell) (h : k < l.length) : (pre ++ (l ++ post)).set (pre.length + k) c = pre ++ (l.set k c ++ post) := by
  rw [List.set_append_right _ _ (by omega), Nat.add_sub_cancel_left, List.set_append_left _ _ h]
theorem view_of {G : Ctx} {al : List (Nat × Bool)} {Ln : Nat → Nat} {pre post : MHeap} (hk : k0 G ≤ pre.length) (h1 : alOk (gF G) al = true) (h2 : (al.map (·.1)).Nodup) :
    View G Ln (KH (gF G) al Ln pre post) pre.length (rA pre.length al) := by
  refine ⟨hk, fun s => ?_, fun s j f z hF ht => ?_, fun j n d t hF => ?_⟩
  · have := app_get pre post (KO (gF G) al Ln pre.length s) 0 (by rw [KO_len]; omega)
    exact this
  · have := app_set pre post (KO (gF G) al Ln pre.length s) 0 (.inl ((fvA (rA pre.length al) s 0 (gF G)).set j (.int z))) (by rw [KO_len]; omega)
    refine Eq.trans this ?_
    show pre ++ ((.inl _ :: al.map (arr1 Ln s)) ++ post) = pre ++ ((.inl _ :: al.map (arr1 Ln (setI s j z))) ++ post)
    rw [fvA_set hF ht]
    rfl
  · have hj : j < (gF G).length := (List.getElem?_eq_some_iff.mp hF).1
    have hq := List.all_eq_true.mp h1 j (List.mem_range.mpr hj)
    simp only [hF, beq_iff_eq] at hq
    have hlt := (List.getElem?_eq_some_iff.mp hq).1
    have hlen : ∀ s, al.findIdx (fun q => q.1 == j) + 1 < (KO (gF G) al Ln pre.length s).length := fun s => by rw [KO_len]; omega
    have hr : rA pre.length al j = pre.length + (al.findIdx (fun q => q.1 == j) + 1) := by unfold rA; omega
    refine ⟨by rw [hr]; omega, fun s => ?_, fun s i z hi => ?_⟩
    · rw [hr]
      refine (app_get pre post _ _ (hlen s)).trans ?_
      show (al.map (arr1 Ln s))[al.findIdx fun q => q.1 == j]? = _
      rw [List.getElem?_map, hq]
      rfl
    · rw [hr]
      refine (app_set pre post _ _ _ (hlen s)).trans ?_
      show pre ++ ((.inl (fvA (rA pre.length al) s 0 (gF G)) :: (al.map (arr1 Ln s)).set (al.findIdx fun q => q.1 == j) (.inr (isB t, (tab (Ln j) (s.2 j)).set i z))) ++ post) = pre ++ ((.inl (fvA (rA pre.length al) (setA s j i z) 0 (gF G)) :: al.map (arr1 Ln (setA s j i z))) ++ post)
      rw [fvA_same (s := s) (s' := setA s j i z) _ rfl]
      congr 3
      apply List.ext_getElem?
      intro k
      rw [List.getElem?_set, List.getElem?_map, List.getElem?_map, List.length_map]
      by_cases e : al.findIdx (fun q => q.1 == j) = k
      · subst e
        simp only [if_true, hlt, hq, Option.map_some, arr1, tab_set]
        congr 4
        funext x
        rw [setA_2]
        simp
      · simp only [e, if_false]
        cases hk2 : al[k]? with
        | none => rfl
        | some q =>
          simp only [Option.map_some, arr1]
          have ne : q.1 ≠ j := fun hqj => by
            have a1 : (al.map (·.1))[al.findIdx (fun q => q.1 == j)]? = some j := by rw [List.getElem?_map, hq]; rfl
            have a2 : (al.map (·.1))[k]? = some j := by rw [List.getElem?_map, hk2]; simp [hqj]
            have := (List.getElem?_inj (by rw [List.length_map]; exact hlt) h2).mp (a1.trans a2.symm)
            exact e this
          congr 4
          funext x
          rw [setA_2]
          simp [ne]
/-! ### while the constructor makes the arrays -/
def cons (pre : MHeap) (fs : List Value) (as : List (Bool × List Int32)) : MHeap := pre ++ (.inl fs :: as.map .inr)
section ConsRules
variable {G : Ctx} {M : Mi} {pc : Nat} {L : List Slot} {S : List Value} {rr : Option Value × MHeap} {pre : MHeap} {fs fs' : List Value} {as : List (Bool × List Int32)}
theorem cons_get : (cons pre fs as)[pre.length]? = some (.inl fs) := by unfold cons; rw [List.getElem?_append_right (Nat.le_refl _), Nat.sub_self]; rfl
theorem cons_set (c : List Value) : (cons pre fs as).set pre.length (.inl c) = cons pre c as := by unfold cons; rw [List.set_append_right _ _ (Nat.le_refl _), Nat.sub_self]; rfl
theorem cons_len : (cons pre fs as).length = pre.length + 1 + as.length := by simp [cons]; omega
theorem cons_push (b : Bool) (xs : List Int32) : cons pre fs as ++ [.inr (b, xs)] = cons pre fs (as ++ [(b, xs)]) := by simp [cons]
theorem Ev.cput {idx j : Nat} {n d : String} {ty : FieldType} {v v' : Value} (K : GOk G) (hk : k0 G ≤ pre.length) (w : (Jvm.Cond.fieldLink (mN M).cls idx (gC G) n d).before (gA G) (gZ G) = true)
    (wl : (Jvm.Cond.lays (gC G) (gC G) n d).before (gA G) (gZ G) = true ∨ ((Jvm.Cond.laysFinal (gC G) (gC G) n d).before (gA G) (gZ G) = true ∧ (mN M).cls = gC G ∧ (mN M).name = "<init>"))
    (hd : decode (mB M) pc = .ok (.putfield idx, 3)) (hF : (gF G)[j]? = some (n, d, ty)) (hp : mput ty v = some v') (hs : fs.set j v' = fs') (hn : Ev G M (pc + 3) L S (cons pre fs' as) rr) : Ev G M pc L (v :: .ref pre.length :: S) (cons pre fs as) rr := by
  subst hs
  refine Ev.putfield K w wl hd hF hk cons_get hp ?_
  rw [cons_set]; exact hn
theorem Ev.cget {idx j : Nat} {n d : String} {ty : FieldType} {v : Value} (w : (Jvm.Cond.fieldLink (mN M).cls idx (gC G) n d).before (gA G) (gZ G) = true) (hd : decode (mB M) pc = .ok (.getfield idx, 3)) (hF : (gF G)[j]? = some (n, d, ty)) (hv : fs[j]? = some v)
    (hn : Ev G M (pc + 3) L (v :: S) (cons pre fs as) rr) : Ev G M pc L (.ref pre.length :: S) (cons pre fs as) rr := Ev.getfield w hd hF cons_get hv hn
theorem Ev.cnew {aty : ArrayType} {b : Bool} {n : Int32} {k q : Nat} {as' : List (Bool × List Int32)} (w : (Jvm.Cond.arrayClass (newarray.typeOf aty)).before (gA G) (gZ G) = true) (hb' : newarray.typeOf aty = kd b) (hd : decode (mB M) pc = .ok (.newarray aty, 2)) (hn0 : ¬ n < 0) (hk : n.toNatClampNeg = k) (hcap : k ≤ 67108864)
    (hq : as.length = q) (has : as ++ [(b, tab k (fun _ => 0))] = as') (hn : Ev G M (pc + 2) L (.ref (pre.length + 1 + q) :: S) (cons pre fs as') rr) : Ev G M pc L (.int n :: S) (cons pre fs as) rr := by
  subst hq has
  refine Ev.newarray w hb' hd hn0 hk hcap ?_
  rw [cons_push, cons_len, ← tab_zero]; exact hn
end ConsRules
theorem forall_get {P : Nat → Fd → Prop} : ∀ (F : List Fd) (k : Nat), (∀ j f, F[j]? = some f → P (k + j) f) → True := fun _ _ _ => trivial
def AllF (P : Fd → Prop) : List Fd → Prop
  | [] => True
  | f :: fs => P f ∧ AllF P fs
theorem AllF.mem {P : Fd → Prop} : ∀ {F : List Fd}, AllF P F → ∀ f ∈ F, P f
  | _ :: _, ⟨h1, h2⟩, f, hf => (List.mem_cons.mp hf).elim (fun e => e ▸ h1) (AllF.mem h2 f)
theorem gok_of {G : Ctx} (h1 : AllF (fun f => Laid (gZ G) (gA G) (gC G) (gC G) f.1 f.2.1 ∧ parseFieldDescriptor f.2.1 = some f.2.2) (gF G)) (h2 : ((gF G).map (·.1)).Nodup)
    (h3 : (Jvm.Cond.instantiable (gC G) (gK G)).before (gA G) (gZ G) = true) (h4 : (Jvm.Cond.initialized (gC G)).before (gA G) (gZ G) = true) : GOk G := by
  refine ⟨fun j n d ty hF => h1.mem _ (List.mem_of_getElem? hF), fun j j' f f' hF hF' ne e => ne ?_, h3, h4⟩
  have a1 : ((gF G).map (·.1))[j]? = some f.1 := by rw [List.getElem?_map, hF]; rfl
  have a2 : ((gF G).map (·.1))[j']? = some f.1 := by rw [List.getElem?_map, hF', e]; rfl
  exact (List.getElem?_inj (by rw [List.length_map]; exact (List.getElem?_eq_some_iff.mp hF).1) h2).mp (a1.trans a2.symm)
end Jvm.Own
namespace Jvm.Own
open Sem ClassFile Op Lib Jvm.Stand Jvm.Free Jvm.LawKit Jvm.RoadKit
def grd {α : Type} (c : Prop) [Decidable c] (x : Option α) : Option α := if c then x else none
theorem grd_some {α : Type} {c : Prop} [Decidable c] {x : Option α} {w : α} (h : grd c x = some w) : c ∧ x = some w := by
  unfold grd at h; split at h
  · exact ⟨by assumption, h⟩
  · cases h
theorem grd_pos {α : Type} {c : Prop} [Decidable c] {x : Option α} (h : c) : grd c x = x := if_pos h
theorem KH_len (F : List Fd) (al : List (Nat × Bool)) (Ln : Nat → Nat) (pre post : MHeap) (s : St) : (KH F al Ln pre post s).length = pre.length + (al.length + 1 + post.length) := by simp [KH, KO]; omega
theorem hsl_app (k : Nat) (a b : MHeap) : hsl k (a ++ b) = hsl k a + hsl k b := by simp [hsl]
theorem hsl_arr (k : Nat) (Ln : Nat → Nat) (s : St) : ∀ al : List (Nat × Bool), hsl k (al.map (arr1 Ln s)) = (al.map fun q => Ln q.1).sum
  | [] => rfl
  | q :: al => by
    have := hsl_arr k Ln s al
    simp only [hsl, List.map_cons, List.sum_cons] at this ⊢
    rw [this]
    simp [arr1, csl, tab_len]
theorem hsl_KH (k : Nat) (F : List Fd) (al : List (Nat × Bool)) (Ln : Nat → Nat) (pre post : MHeap) (s : St) : hsl k (KH F al Ln pre post s) = hsl k pre + (k + (al.map fun q => Ln q.1).sum + hsl k post) := by
  unfold KH
  rw [hsl_app, hsl_app]
  have : hsl k (KO F al Ln pre.length s) = k + (al.map fun q => Ln q.1).sum := by
    have := hsl_arr k Ln s al
    simp only [KO, hsl, List.map_cons, List.sum_cons, csl] at this ⊢
    rw [this]
  rw [this]
theorem ne_lit {x z : Int32} {k : Int} (h : ¬ x = z) (e : z.toInt = k) : x.toInt ≠ k := fun q => h (Int32.toInt_inj.mp (q.trans e.symm))
section
variable {G : Ctx} {M : Mi} {pc : Nat} {L : List Slot} {S : List Value} {rr : Option Value × MHeap}
theorem Ev.astD {k v : Nat} {L' : List Slot} {o : Slot} {h : MHeap} (hd : decode (mB M) pc = .ok (.astore k, 2)) (ho : L[k]? = some o) (h1 : one1 o = true) (hl : L.set k (.val (.ref v)) = L') (hn : Ev G M (pc + 2) L' S h rr) : Ev G M pc L (.ref v :: S) h rr :=
  Ev.astore hd (by rw [mst_one ho h1 rfl, hl]) hn
theorem Ev.astDN {k : Fin 4} {v : Nat} {L' : List Slot} {o : Slot} {h : MHeap} (hd : decode (mB M) pc = .ok (.astore_n k, 1)) (ho : L[k.val]? = some o) (h1 : one1 o = true) (hl : L.set k.val (.val (.ref v)) = L') (hn : Ev G M (pc + 1) L' S h rr) : Ev G M pc L (.ref v :: S) h rr :=
  Ev.astoreN hd (by rw [mst_one ho h1 rfl, hl]) hn
end
end Jvm.Own
namespace Jvm.Own
open Sem ClassFile Op Lib Jvm.Stand Jvm.Free Jvm.LawKit Jvm.RoadKit
section
variable {G : Ctx} {M : Mi} {pc : Nat} {L : List Slot} {S : List Value} {rr : Option Value × MHeap}
theorem mst_T {l : List Slot} {i : Nat} {v : Value} {o o' : Slot} (ho : l[i]? = some o) (ho' : l[i + 1]? = some o') (h2 : two2 o o') (hv : v.category = 1) : ∃ b, one1 b = true ∧ mst l i v = some ((l.set i (.val v)).set (i + 1) b) := by
  have hlt := (List.getElem?_eq_some_iff.mp ho).1
  have hlt' := (List.getElem?_eq_some_iff.mp ho').1
  rcases h2 with ⟨h1, h1'⟩ | ⟨x, rfl, rfl⟩
  · refine ⟨o', h1', ?_⟩
    rw [mst_one ho h1 hv]
    congr 1
    apply List.ext_getElem?
    intro k
    by_cases e : i + 1 = k
    · subst e
      rw [List.getElem?_set_self (by simpa using hlt'), List.getElem?_set_ne (by omega), ho']
    · rw [List.getElem?_set_ne e]
  · refine ⟨.unset, rfl, ?_⟩
    unfold mst
    rw [ho]
    have c2 : (Value.long x).category = 2 := rfl
    simp only [c2, if_true, lsetAt, hlt', lstoreSelf, List.length_set, hlt, hv]
    rw [List.set_comm _ _ (by omega : i + 1 ≠ i)]
    simp
theorem Ev.istT {k : Nat} {v : Int32} {L' : Slot → List Slot} {o o' : Slot} {h : MHeap} (hd : decode (mB M) pc = .ok (.istore k, 2)) (ho : L[k]? = some o) (ho' : L[k + 1]? = some o') (h2 : two2 o o') (hl : ∀ b, (L.set k (.val (.int v))).set (k + 1) b = L' b) (hn : ∀ b, one1 b = true → Ev G M (pc + 2) (L' b) S h rr) : Ev G M pc L (.int v :: S) h rr := by
  obtain ⟨b, h1, e⟩ := mst_T (v := .int v) ho ho' h2 rfl
  exact Ev.istore hd e (by rw [hl]; exact hn b h1)
theorem Ev.istTN {k : Fin 4} {v : Int32} {L' : Slot → List Slot} {o o' : Slot} {h : MHeap} (hd : decode (mB M) pc = .ok (.istore_n k, 1)) (ho : L[k.val]? = some o) (ho' : L[k.val + 1]? = some o') (h2 : two2 o o') (hl : ∀ b, (L.set k.val (.val (.int v))).set (k.val + 1) b = L' b) (hn : ∀ b, one1 b = true → Ev G M (pc + 1) (L' b) S h rr) : Ev G M pc L (.int v :: S) h rr := by
  obtain ⟨b, h1, e⟩ := mst_T (v := .int v) ho ho' h2 rfl
  exact Ev.istoreN hd e (by rw [hl]; exact hn b h1)
end
section
variable {G : Ctx} {Ln : Nat → Nat} {K : St → MHeap} {o len : Nat} {r : Nat → Nat} {F : List Fd} {al : List (Nat × Bool)}
theorem View.le (V : View G Ln K o r) (s : St) : k0 G ≤ (K s).length := Nat.le_trans V.1 (Nat.le_of_lt (List.getElem?_eq_some_iff.mp (V.2.1 s)).1)
theorem View.app (V : View G Ln K o r) (X : MHeap) : View G Ln (fun s => K s ++ X) o r := by
  refine ⟨V.1, fun s => ?_, fun s j f z hF ht => ?_, fun j n d t hF => ?_⟩
  · show (K s ++ X)[o]? = _
    rw [List.getElem?_append_left (List.getElem?_eq_some_iff.mp (V.2.1 s)).1]; exact V.2.1 s
  · show (K s ++ X).set o _ = _
    rw [List.set_append_left _ _ (List.getElem?_eq_some_iff.mp (V.2.1 s)).1, V.2.2.1 s j f z hF ht]
  · obtain ⟨q1, q2, q3⟩ := V.2.2.2 j n d t hF
    refine ⟨q1, fun s => ?_, fun s i z hi => ?_⟩
    · show (K s ++ X)[r j]? = _
      rw [List.getElem?_append_left (List.getElem?_eq_some_iff.mp (q2 s)).1]; exact q2 s
    · show (K s ++ X).set (r j) _ = _
      rw [List.set_append_left _ _ (List.getElem?_eq_some_iff.mp (q2 s)).1, q3 s i z hi]
theorem View.app2 (V : View G Ln K o r) (hl : ∀ s, (K s).length = len) (t : St) : View G Ln (fun s => KH F al Ln (K s) [] t) o r := by
  have e : (fun s => KH F al Ln (K s) [] t) = fun s => K s ++ (KO F al Ln len t ++ []) := by
    funext s; unfold KH; rw [hl]
  rw [e]
  exact V.app _
theorem app2_get (V : View G Ln K o r) {s t : St} {c : MCell} (h : (K s)[0]? = some c) : (KH F al Ln (K s) [] t)[0]? = some c := by
  unfold KH
  rw [List.getElem?_append_left (List.getElem?_eq_some_iff.mp h).1]; exact h
end
end Jvm.Own
namespace Jvm.Own
open Sem ClassFile Op Lib Jvm.Stand Jvm.Free Jvm.LawKit Jvm.RoadKit
def toI : Value → Int32
  | .int z => z
  | _ => 0
theorem script_rel {s : State} {a : Nat} {cl : Cell} {args : Array Value} {l : Launch} {C : String} {F : List Fd} {k : Nat} (hf : Fit s) (A : Arr s s.heap a cl .int) :
    ∃ xs : List Int32, xs.length = cl.slots.size ∧ Rel (s, args, l, some a, s.heap.size, C, F, k) s.heap [.inr (false, tab xs.length (fun i => xs.getD i 0))] := by
  have hl : (cl.slots.toList.map toI).length = cl.slots.size := by simp
  refine ⟨cl.slots.toList.map toI, hl, rfl, Nat.le_refl _, fun a' q => by cases q; exact A.lt, fun i c q => ?_⟩
  match i, q with
  | 0, q =>
    cases q
    refine ⟨cl, A, ?_⟩
    rw [← tab_of]
    apply Array.ext'
    apply List.ext_getElem?
    intro j
    simp only [List.map_map, List.getElem?_map]
    cases hj : cl.slots.toList[j]? with
    | none => rfl
    | some v =>
      have hj' : cl.slots[j]? = some v := by simpa using hj
      obtain ⟨hlt, hv⟩ := Array.getElem?_eq_some_iff.mp hj'
      have q := hf A.1 hlt
      obtain ⟨hs, kk, hk, comp, hkind⟩ := A.2.1
      have e : s.slotType? cl.cls cl.vm j = some .int := by
        cases hq : cl.vm <;> first | exact absurd hq (hs _) | simp [State.slotType?, hk, hkind]
      have q2 : fits .int v = true := by rw [hv] at q; simpa [State.fitsSlot, e] using q
      obtain ⟨z, rfl⟩ := fit_I q2 (Or.inl rfl)
      rfl
theorem script_len {s : State} {args : Array Value} {t : Term} {a : Nat} {cl : Cell} (A : Arr s s.heap a cl .int) (ea : t.eval args s none [] s = some (.ref a)) (h1 : (Jvm.Cond.isInt (.length t)).value args s none s [] = some true) (h2 : (Jvm.Cond.le (.length t) (.int 260)).value args s none s [] = some true) : cl.slots.size ≤ 260 := by
  obtain ⟨z, ez⟩ := is_v h1
  have ha := A.fin (Vm.Alike.refl s.vm)
  have hlen : cl.slots.size < 2 ^ 31 := by
    rcases Nat.lt_or_ge cl.slots.size (2 ^ 31) with q | q
    · exact q
    · simp [Term.eval, ea, ha, Nat.not_lt.mpr q] at ez
  have e1 := len_f ea ha hlen
  have q : cl.slots.size.toInt32 ≤ 260 := by
    have := Cond.le_ints e1 (Term.int_eval (260 : Int32)) (args := args) (first := s) (o := none) (s := s) (idx := [])
    exact gotT this h2
  have q2 := Int32.le_iff_toInt_le.mp q
  rw [len_toInt hlen] at q2
  have : (260 : Int32).toInt = 260 := by decide
  omega
end Jvm.Own
namespace Jvm.Own
open Sem ClassFile Op Lib Jvm.Stand Jvm.Free Jvm.LawKit Jvm.RoadKit
def decs (b : ByteArray) : List (Nat × Instr × Nat) → Bool
  | [] => true
  | q :: t => decide (decode b q.1 = .ok (q.2.1, q.2.2)) && decs b t
theorem dget {b : ByteArray} : ∀ {l : List (Nat × Instr × Nat)}, decs b l = true → ∀ {k p : Nat} {i : Instr} {n : Nat}, l[k]? = some (p, i, n) → decode b p = .ok (i, n)
  | [], _, k, _, _, _, hk => by simp at hk
  | q :: t, h, 0, p, i, n, hk => by
    simp only [decs, Bool.and_eq_true, decide_eq_true_eq] at h
    simp only [List.getElem?_cons_zero, Option.some.injEq] at hk
    subst hk
    exact h.1
  | q :: t, h, k + 1, p, i, n, hk => by
    simp only [decs, Bool.and_eq_true] at h
    exact dget h.2 (by simpa using hk)
end Jvm.Own
namespace Jvm.Own
/-! ## 6. Ints of 32 bits and naturals -/
theorem N_toInt {i : Nat} (h : i < 2147483648) : (Int32.ofNat i).toInt = i := Int32.toInt_ofNat_of_lt h
theorem N_lt {i j : Nat} (hi : i < 2147483648) (hj : j < 2147483648) : Int32.ofNat i < Int32.ofNat j ↔ i < j := by
  rw [Int32.lt_iff_toInt_lt, N_toInt hi, N_toInt hj]; omega
theorem N_inj {i j : Nat} (hi : i < 2147483648) (hj : j < 2147483648) : Int32.ofNat i = Int32.ofNat j ↔ i = j := by
  rw [← Int32.toInt_inj, N_toInt hi, N_toInt hj]; omega
theorem N_succ (i : Nat) : Int32.ofNat i + 1 = Int32.ofNat (i + 1) := (Int32.ofNat_add i 1).symm
theorem N_add (i j : Nat) : Int32.ofNat i + Int32.ofNat j = Int32.ofNat (i + j) := (Int32.ofNat_add i j).symm
theorem N_mul (i j : Nat) : Int32.ofNat i * Int32.ofNat j = Int32.ofNat (i * j) := (Int32.ofNat_mul i j).symm
theorem N_neg {i : Nat} (h : i < 2147483648) : ¬ Int32.ofNat i < 0 := by
  rw [Int32.lt_iff_toInt_lt, N_toInt h]; simp
theorem ix_N {i : Nat} (h : i < 2147483648) : ix (Int32.ofNat i) = i := by
  unfold ix Int32.toNatClampNeg; rw [N_toInt h]; simp
theorem inb_N {i n : Nat} (h : i < 2147483648) : inb (Int32.ofNat i) n ↔ i < n := by
  unfold inb; rw [ix_N h]; exact ⟨fun q => q.2, fun q => ⟨N_neg h, q⟩⟩
theorem ix_toInt {x : Int32} (h : ¬ x < 0) : (ix x : Int) = x.toInt := by
  unfold ix Int32.toNatClampNeg
  rw [Int32.lt_iff_toInt_lt] at h
  have : (0 : Int32).toInt = 0 := rfl
  omega
theorem ix_lt (x : Int32) : ix x < 2147483648 := by
  unfold ix Int32.toNatClampNeg
  have := Int32.toInt_lt x
  omega
theorem N_ix {x : Int32} (h : ¬ x < 0) : Int32.ofNat (ix x) = x := by
  rw [← Int32.toInt_inj, N_toInt (ix_lt x), ix_toInt h]
theorem ix_eq {x y : Int32} (hx : ¬ x < 0) (hy : ¬ y < 0) : ix x = ix y ↔ x = y := by
  refine ⟨fun e => ?_, fun e => e ▸ rfl⟩
  rw [← N_ix hx, ← N_ix hy, e]
theorem rng (x : Int32) : -2147483648 ≤ x.toInt ∧ x.toInt < 2147483648 := ⟨Int32.le_toInt x, Int32.toInt_lt x⟩
theorem lt_I {x y : Int32} : x < y ↔ x.toInt < y.toInt := Int32.lt_iff_toInt_lt
theorem le_I {x y : Int32} : x ≤ y ↔ x.toInt ≤ y.toInt := Int32.le_iff_toInt_le
theorem eq_I {x y : Int32} : x = y ↔ x.toInt = y.toInt := Int32.toInt_inj.symm
theorem bmod_eq {x : Int} (h1 : -2147483648 ≤ x) (h2 : x < 2147483648) : x.bmod (2 ^ 32) = x := by
  apply Int.bmod_eq_of_le <;> omega
theorem add_I {x y : Int32} (h1 : -2147483648 ≤ x.toInt + y.toInt) (h2 : x.toInt + y.toInt < 2147483648) : (x + y).toInt = x.toInt + y.toInt := by
  rw [Int32.toInt_add]; exact bmod_eq h1 h2
theorem sub_I {x y : Int32} (h1 : -2147483648 ≤ x.toInt - y.toInt) (h2 : x.toInt - y.toInt < 2147483648) : (x - y).toInt = x.toInt - y.toInt := by
  rw [Int32.toInt_sub]; exact bmod_eq h1 h2
theorem mul_I {x y : Int32} (h1 : -2147483648 ≤ x.toInt * y.toInt) (h2 : x.toInt * y.toInt < 2147483648) : (x * y).toInt = x.toInt * y.toInt := by
  rw [Int32.toInt_mul]; exact bmod_eq h1 h2
theorem inb_I {x : Int32} {n : Nat} (h1 : 0 ≤ x.toInt) (h2 : x.toInt < n) : inb x n := by
  have h : ¬ x < 0 := by rw [lt_I]; have : (0 : Int32).toInt = 0 := rfl; omega
  refine ⟨h, ?_⟩
  have := ix_toInt h
  omega
/-- an int between 0 and n is one of them -/
theorem cases_N {x : Int32} {n : Nat} (hn : n < 2147483648) (h0 : ¬ x < 0) (h1 : x < Int32.ofNat n) : ∃ i, i < n ∧ x = Int32.ofNat i := by
  refine ⟨ix x, ?_, (N_ix h0).symm⟩
  have a := ix_toInt h0
  rw [lt_I, N_toInt hn] at h1
  omega
/-! ## 7. Loops that count from i to N -/
def itr {α : Type} (f : Nat → α → α) : Nat → Nat → α → α
  | _, 0, s => s
  | i, m + 1, s => itr f (i + 1) m (f i s)
theorem loopN {α β : Type} {F : Nat → Int32 → α → Option β} {N : Nat} {f : Nat → α → α} {fin : α → Option β}
    (hF : ∀ k i s, i < N → F (k + 1) (Int32.ofNat i) s = F k (Int32.ofNat i + 1) (f i s)) (hE : ∀ k s, F (k + 1) (Int32.ofNat N) s = fin s) :
    ∀ m i k s, i + m = N → m < k → F k (Int32.ofNat i) s = fin (itr f i m s) := by
  intro m
  induction m with
  | zero =>
    intro i k s hi hk
    obtain ⟨k, rfl⟩ : ∃ k', k = k' + 1 := ⟨k - 1, by omega⟩
    have : i = N := by omega
    subst this
    exact hE k s
  | succ m ih =>
    intro i k s hi hk
    obtain ⟨k, rfl⟩ : ∃ k', k = k' + 1 := ⟨k - 1, by omega⟩
    rw [hF k i s (by omega), N_succ]
    exact ih (i + 1) k _ (by omega) (by omega)
theorem itr_ind {α : Type} {f : Nat → α → α} {P : Nat → α → Prop} {N : Nat} (h : ∀ i s, i < N → P i s → P (i + 1) (f i s)) : ∀ m i s, i + m = N → P i s → P N (itr f i m s) := by
  intro m
  induction m with
  | zero => intro i s hi hp; have : i = N := by omega
            subst this; exact hp
  | succ m ih => intro i s hi hp; exact ih (i + 1) _ (by omega) (h i s (by omega) hp)
theorem itr_pt {f : Nat → St → St} {u : Nat → Int32 → Int32} (h1 : ∀ i s, (f i s).1 = s.1) (h2 : ∀ i s k x, (f i s).2 k x = if x = i then u k (s.2 k x) else s.2 k x) :
    ∀ m i s, itr f i m s = (s.1, fun k x => if i ≤ x ∧ x < i + m then u k (s.2 k x) else s.2 k x) := by
  intro m
  induction m with
  | zero =>
    intro i s
    refine Prod.ext rfl ?_
    funext k x
    have : ¬ (i ≤ x ∧ x < i + 0) := by omega
    simp only [this, if_false]
    rfl
  | succ m ih =>
    intro i s
    show itr f (i + 1) m (f i s) = _
    rw [ih]
    refine Prod.ext (h1 i s) ?_
    funext k x
    simp only [h2]
    by_cases e : x = i
    · subst e
      have a : ¬ (x + 1 ≤ x ∧ x < x + 1 + m) := by omega
      have b : x ≤ x ∧ x < x + (m + 1) := by omega
      simp only [a, b, if_false, if_true, and_self]
    · have : (i + 1 ≤ x ∧ x < i + 1 + m) ↔ (i ≤ x ∧ x < i + (m + 1)) := by omega
      simp only [this, e, if_false]
theorem itr_fill (K : Nat) (z : Int32) (m : Nat) (s : St) : itr (fun i s => setA s K i z) 0 m s = (s.1, fun k x => if k = K ∧ x < m then z else s.2 k x) := by
  rw [itr_pt (f := fun i s => setA s K i z) (u := fun k v => if k = K then z else v) (fun _ _ => rfl) (fun i s j x => by
    simp only [setA_2]
    by_cases e : x = i <;> by_cases e1 : j = K <;> simp [e, e1])]
  refine Prod.ext rfl ?_
  funext k x
  have : (0 ≤ x ∧ x < 0 + m) ↔ x < m := by omega
  simp only [this]
  by_cases e : x < m <;> by_cases e1 : k = K <;> simp [e, e1]
theorem and_rng (x : Int32) {m : Nat} (hm : m < 2147483648) : 0 ≤ (x &&& Int32.ofNat m).toInt ∧ (x &&& Int32.ofNat m).toInt ≤ m := by
  have h1 : (x &&& Int32.ofNat m).toBitVec.toNat ≤ m := by
    rw [Int32.toBitVec_and, BitVec.toNat_and]
    refine Nat.le_trans Nat.and_le_right ?_
    show (BitVec.ofNat 32 m).toNat ≤ m
    rw [BitVec.toNat_ofNat]
    exact Nat.mod_le _ _
  have h2 : (x &&& Int32.ofNat m).toInt = ((x &&& Int32.ofNat m).toBitVec.toNat : Int) := by
    show (x &&& Int32.ofNat m).toBitVec.toInt = _
    exact BitVec.toInt_eq_toNat_of_lt (by omega)
  omega
theorem idx8 {o p : Int32} (h0 : ¬ o < 0) (h3 : ¬ 3 < o) : inb (o * 8 + (p &&& 7)) 32 := by
  have a := and_rng p (m := 7) (by omega)
  rw [show Int32.ofNat 7 = (7 : Int32) from rfl] at a
  rw [lt_I] at h0 h3
  have e0 : (0 : Int32).toInt = 0 := rfl
  have e3 : (3 : Int32).toInt = 3 := rfl
  have e8 : (8 : Int32).toInt = 8 := rfl
  have em : (o * 8).toInt = o.toInt * 8 := by rw [mul_I] <;> rw [e8] <;> omega
  have ea : (o * 8 + (p &&& 7)).toInt = o.toInt * 8 + (p &&& 7).toInt := by rw [add_I] <;> rw [em] <;> omega
  exact inb_I (by omega) (by omega)
theorem idx8' {o p : Int32} (h0 : ¬ o < 0) (h3 : ¬ 3 < o) (g0 : ¬ p < 0) (g7 : ¬ 7 < p) : inb (o * 8 + p) 32 ∧ (o * 8 + p).toInt = o.toInt * 8 + p.toInt := by
  rw [lt_I] at h0 h3 g0 g7
  have e0 : (0 : Int32).toInt = 0 := rfl
  have e3 : (3 : Int32).toInt = 3 := rfl
  have e7 : (7 : Int32).toInt = 7 := rfl
  have e8 : (8 : Int32).toInt = 8 := rfl
  have em : (o * 8).toInt = o.toInt * 8 := by rw [mul_I] <;> rw [e8] <;> omega
  have ea : (o * 8 + p).toInt = o.toInt * 8 + p.toInt := by rw [add_I] <;> rw [em] <;> omega
  exact ⟨inb_I (by omega) (by omega), ea⟩
theorem inb_le {x : Int32} {m : Int32} {n : Nat} (h0 : ¬ x < 0) (h1 : ¬ m < x) (hm : m.toInt < n) : inb x n := by
  rw [lt_I] at h0 h1
  have e0 : (0 : Int32).toInt = 0 := rfl
  exact inb_I (by omega) (by omega)
theorem inb_lt {x : Int32} {m : Int32} {n : Nat} (h0 : ¬ x < 0) (h1 : x < m) (hm : m.toInt ≤ n) : inb x n := by
  rw [lt_I] at h0 h1
  have e0 : (0 : Int32).toInt = 0 := rfl
  exact inb_I (by omega) (by omega)
theorem rem_N {a N : Nat} (ha : a < 2147483648) (hN : N < 2147483648) (h0 : 0 < N) : Int32.ofNat a % Int32.ofNat N = Int32.ofNat (a % N) := by
  have h1 : a % N < N := Nat.mod_lt _ h0
  rw [← Int32.toInt_inj, Int32.toInt_mod, N_toInt ha, N_toInt hN, N_toInt (by omega)]
  rw [Int.tmod_eq_emod_of_nonneg (by omega)]
  rfl
/-- the rule of a loop that counts from i to N: P before each turn; Q of what it gives -/
theorem loopP {α β : Type} {F : Nat → Int32 → α → Option β} {N : Nat} {P : Nat → α → Prop} {Q : β → Prop}
    (hF : ∀ k i s, i < N → P i s → (∃ s', F (k + 1) (Int32.ofNat i) s = F k (Int32.ofNat i + 1) s' ∧ P (i + 1) s') ∨ ∃ r, F (k + 1) (Int32.ofNat i) s = some r ∧ Q r)
    (hE : ∀ k s, P N s → ∃ r, F (k + 1) (Int32.ofNat N) s = some r ∧ Q r) :
    ∀ m i k s, i + m = N → m < k → P i s → ∃ r, F k (Int32.ofNat i) s = some r ∧ Q r := by
  intro m
  induction m with
  | zero =>
    intro i k s hi hk hp
    obtain ⟨k, rfl⟩ : ∃ k', k = k' + 1 := ⟨k - 1, by omega⟩
    have : i = N := by omega
    subst this
    exact hE k s hp
  | succ m ih =>
    intro i k s hi hk hp
    obtain ⟨k, rfl⟩ : ∃ k', k = k' + 1 := ⟨k - 1, by omega⟩
    rcases hF k i s (by omega) hp with ⟨s', e, hp'⟩ | h
    · rw [e, N_succ]
      exact ih (i + 1) k s' (by omega) (by omega) hp'
    · exact h
theorem ltN {i j : Nat} (h : i < j) (hj : j < 2147483648) : Int32.ofNat i < Int32.ofNat j := (N_lt (by omega) hj).mpr h
theorem ltZ {i : Nat} {z : Int32} (N : Nat) (hz : Int32.ofNat N = z) (h : i < N) (hN : N < 2147483648) : Int32.ofNat i < z := hz ▸ ltN h hN
theorem nltN {i : Nat} (hi : i < 2147483648) : ¬ Int32.ofNat i < Int32.ofNat i := fun q => by rw [N_lt hi hi] at q; omega
theorem inbN {i n : Nat} (h : i < n) (hi : i < 2147483648) : inb (Int32.ofNat i) n := (inb_N hi).mpr h
def own_cl (a lo hi : Int32) : Int32 := if a < lo then lo else if hi < a then hi else a
theorem own_cl_rng {a lo hi : Int32} (h : ¬ hi < lo) : lo.toInt ≤ (own_cl a lo hi).toInt ∧ (own_cl a lo hi).toInt ≤ hi.toInt := by
  unfold own_cl
  rw [lt_I] at h
  split
  · omega
  · rename_i q; rw [lt_I] at q
    split
    · omega
    · rename_i q2; rw [lt_I] at q2; omega
theorem own_nat {x : Int32} {lo hi : Nat} (h1 : (lo : Int) ≤ x.toInt) (h2 : x.toInt ≤ hi) : ∃ N : Nat, x = Int32.ofNat N ∧ lo ≤ N ∧ N ≤ hi := by
  have := rng x
  refine ⟨x.toInt.toNat, ?_, by omega, by omega⟩
  rw [← Int32.toInt_inj, N_toInt (by omega)]; omega
theorem own_clN (a : Int32) {lo hi : Nat} (h : lo ≤ hi) (hi' : hi < 2147483648) : ∃ N : Nat, own_cl a (Int32.ofNat lo) (Int32.ofNat hi) = Int32.ofNat N ∧ lo ≤ N ∧ N ≤ hi := by
  have q := own_cl_rng (a := a) (lo := Int32.ofNat lo) (hi := Int32.ofNat hi) (fun q => by rw [N_lt (by omega) (by omega)] at q; omega)
  rw [N_toInt (by omega), N_toInt (by omega)] at q
  exact own_nat q.1 q.2
end Jvm.Own
namespace Jvm.Pilot.@@N@@
open Jvm Jvm.ClassFile Sem Op Lib Jvm.Free Jvm.Stand Jvm.LawKit Jvm.RoadKit Bundle Jvm.Pilot.@@N@@.Jvm.D Jvm.Own
/-! ### the class and its words (printed by a program of this repo) -/
abbrev GT := State × Array Value × Launch × Option Addr × Nat
def flds : List Fd := [("root", "[I", FieldType.array FieldType.int), ("pendCode", "[I", FieldType.array FieldType.int), ("choice", "[I", FieldType.array FieldType.int), ("fix", "[I", FieldType.array FieldType.int), ("digit", "[I", FieldType.array FieldType.int), ("lvl", "[I", FieldType.array FieldType.int), ("kid", "[I", FieldType.array FieldType.int), ("uniq", "[I", FieldType.array FieldType.int), ("mark", "[Z", FieldType.array FieldType.boolean), ("remap", "[I", FieldType.array FieldType.int), ("cnt", "[I", FieldType.array FieldType.int), ("buf", "[I", FieldType.array FieldType.int), ("allowT", "[Z", FieldType.array FieldType.boolean), ("memoA", "[I", FieldType.array FieldType.int), ("memoB", "[I", FieldType.array FieldType.int), ("memoR", "[I", FieldType.array FieldType.int), ("memoUsed", "[Z", FieldType.array FieldType.boolean), ("stU", "[I", FieldType.array FieldType.int), ("stV", "[I", FieldType.array FieldType.int), ("stPh", "[I", FieldType.array FieldType.int), ("n", "I", FieldType.int), ("d", "I", FieldType.int), ("top", "I", FieldType.int), ("depth", "I", FieldType.int), ("pending", "Z", FieldType.boolean), ("pendArity", "I", FieldType.int), ("pendA", "I", FieldType.int), ("pendB", "I", FieldType.int), ("pendC", "I", FieldType.int), ("pendCount", "I", FieldType.int), ("sp", "I", FieldType.int)]
def GG (g : GT) : Ctx := (g.1, g.2.1, g.2.2.1, g.2.2.2.1, g.2.2.2.2, "MddConfigurator", flds, 31)
def HW (g : GT) : Prop := ∀ d ∈ tables_1, d.before g.2.1 g.1 = true
def al : List (Nat × Bool) := [(0, false), (1, false), (2, false), (3, false), (4, false), (5, false), (6, false), (7, false), (8, true), (9, false), (10, false), (11, false), (12, true), (13, false), (14, false), (15, false), (16, true), (17, false), (18, false), (19, false)]
def Ln (j : Nat) : Nat := [9, 16, 5, 5, 5, 2048, 8192, 4096, 2048, 2048, 2048, 1024, 64, 1024, 1024, 1024, 1024, 64, 64, 64, 0, 0, 0, 0, 0, 0, 0, 0, 0, 0, 0].getD j 0
def dfl : List Value := [.null, .null, .null, .null, .null, .null, .null, .null, .null, .null, .null, .null, .null, .null, .null, .null, .null, .null, .null, .null, .int 0, .int 0, .int 0, .int 0, .int 0, .int 0, .int 0, .int 0, .int 0, .int 0, .int 0]
theorem ww {g : GT} (hw : HW g) (k : Nat) {d : Jvm.Cond} (h : tables_1[k]? = some d) : d.before (gA (GG g)) (gZ (GG g)) = true := hw _ (List.mem_of_getElem? h)
theorem fld_nd : (flds.map (·.1)).Nodup := by decide +kernel
theorem al_ok : alOk flds al = true := by decide +kernel
theorem al_nd : (al.map (·.1)).Nodup := by decide +kernel
theorem gok {g : GT} (hw : HW g) : GOk (GG g) := gok_of ⟨⟨Or.inl (ww hw 11 rfl), by decide⟩, ⟨Or.inl (ww hw 13 rfl), by decide⟩, ⟨Or.inl (ww hw 15 rfl), by decide⟩, ⟨Or.inl (ww hw 17 rfl), by decide⟩, ⟨Or.inl (ww hw 19 rfl), by decide⟩, ⟨Or.inl (ww hw 21 rfl), by decide⟩, ⟨Or.inl (ww hw 23 rfl), by decide⟩, ⟨Or.inl (ww hw 25 rfl), by decide⟩, ⟨Or.inl (ww hw 28 rfl), by decide⟩, ⟨Or.inl (ww hw 30 rfl), by decide⟩, ⟨Or.inl (ww hw 32 rfl), by decide⟩, ⟨Or.inl (ww hw 34 rfl), by decide⟩, ⟨Or.inl (ww hw 36 rfl), by decide⟩, ⟨Or.inl (ww hw 38 rfl), by decide⟩, ⟨Or.inl (ww hw 40 rfl), by decide⟩, ⟨Or.inl (ww hw 42 rfl), by decide⟩, ⟨Or.inl (ww hw 44 rfl), by decide⟩, ⟨Or.inl (ww hw 46 rfl), by decide⟩, ⟨Or.inl (ww hw 48 rfl), by decide⟩, ⟨Or.inl (ww hw 50 rfl), by decide⟩, ⟨Or.inl (ww hw 52 rfl), by decide⟩, ⟨Or.inl (ww hw 54 rfl), by decide⟩, ⟨Or.inl (ww hw 56 rfl), by decide⟩, ⟨Or.inl (ww hw 62 rfl), by decide⟩, ⟨Or.inl (ww hw 64 rfl), by decide⟩, ⟨Or.inl (ww hw 79 rfl), by decide⟩, ⟨Or.inl (ww hw 81 rfl), by decide⟩, ⟨Or.inl (ww hw 83 rfl), by decide⟩, ⟨Or.inl (ww hw 85 rfl), by decide⟩, ⟨Or.inl (ww hw 87 rfl), by decide⟩, ⟨Or.inl (ww hw 145 rfl), by decide⟩, trivial⟩ fld_nd (ww hw 1 rfl) (ww hw 2 rfl)
theorem pcls : plainName "MddConfigurator" = true := by first | (simp [plainName, overriddenIn]; done) | decide +kernel
theorem pclsL : plainName "MddConfiguratorL3" = true := by first | (simp [plainName, overriddenIn]; done) | decide +kernel
theorem nmh : "MddConfigurator" ≠ "java/lang/invoke/MethodHandle" ∧ "MddConfigurator" ≠ "java/lang/invoke/VarHandle" := by decide
theorem nmhL : "MddConfiguratorL3" ≠ "java/lang/invoke/MethodHandle" ∧ "MddConfiguratorL3" ≠ "java/lang/invoke/VarHandle" := by decide
def M_clearUnique : Mi := ((⟨"MddConfigurator", "clearUnique", "()V"⟩ : MethodName), prog_1_method_21_code, 2, none, 0, 0)
theorem pl_clearUnique : plainFor (mN M_clearUnique) = true := plainFor_of_name pcls
theorem nm_clearUnique : notMH M_clearUnique := nmh
theorem pd_clearUnique : parseMethodDescriptor (mN M_clearUnique).desc = some ⟨[], none⟩ := by decide +kernel
def M_ctor : Mi := ((⟨"MddConfigurator", "<init>", "(II)V"⟩ : MethodName), prog_1_method_1_code, 4, none, 1, 13)
theorem pl_ctor : plainFor (mN M_ctor) = true := plainFor_of_name pcls
theorem nm_ctor : notMH M_ctor := nmh
theorem pd_ctor : parseMethodDescriptor (mN M_ctor).desc = some ⟨[.int, .int], none⟩ := by decide +kernel
def M_hin : Mi := ((⟨"MddConfiguratorL3", "in", "(I)Z"⟩ : MethodName), method_2_code, 1, (some .boolean), 0, 0)
theorem pl_hin : plainFor (mN M_hin) = true := plainFor_of_name pclsL
theorem nm_hin : notMH M_hin := nmhL
theorem pd_hin : parseMethodDescriptor (mN M_hin).desc = some ⟨[.int], some .boolean⟩ := by decide +kernel
def M_validVar : Mi := ((⟨"MddConfigurator", "validVar", "(I)Z"⟩ : MethodName), prog_1_method_18_code, 2, (some .boolean), 0, 0)
theorem pl_validVar : plainFor (mN M_validVar) = true := plainFor_of_name pcls
theorem nm_validVar : notMH M_validVar := nmh
theorem pd_validVar : parseMethodDescriptor (mN M_validVar).desc = some ⟨[.int], some .boolean⟩ := by decide +kernel
def M_beginTable : Mi := ((⟨"MddConfigurator", "beginTable", "(III)I"⟩ : MethodName), prog_1_method_4_code, 5, (some .int), 1, 13)
theorem pl_beginTable : plainFor (mN M_beginTable) = true := plainFor_of_name pcls
theorem nm_beginTable : notMH M_beginTable := nmh
theorem pd_beginTable : parseMethodDescriptor (mN M_beginTable).desc = some ⟨[.int, .int, .int], some .int⟩ := by decide +kernel
def M_validValue : Mi := ((⟨"MddConfigurator", "validValue", "(I)Z"⟩ : MethodName), prog_1_method_19_code, 2, (some .boolean), 0, 0)
theorem pl_validValue : plainFor (mN M_validValue) = true := plainFor_of_name pcls
theorem nm_validValue : notMH M_validValue := nmh
theorem pd_validValue : parseMethodDescriptor (mN M_validValue).desc = some ⟨[.int], some .boolean⟩ := by decide +kernel
def M_addTuple : Mi := ((⟨"MddConfigurator", "addTuple", "(III)I"⟩ : MethodName), prog_1_method_5_code, 6, (some .int), 1, 13)
theorem pl_addTuple : plainFor (mN M_addTuple) = true := plainFor_of_name pcls
theorem nm_addTuple : notMH M_addTuple := nmh
theorem pd_addTuple : parseMethodDescriptor (mN M_addTuple).desc = some ⟨[.int, .int, .int], some .int⟩ := by decide +kernel
def M_ensureRoom : Mi := ((⟨"MddConfigurator", "ensureRoom", "()V"⟩ : MethodName), prog_1_method_26_code, 1, none, 0, 0)
theorem pl_ensureRoom : plainFor (mN M_ensureRoom) = true := plainFor_of_name pcls
theorem nm_ensureRoom : notMH M_ensureRoom := nmh
theorem pd_ensureRoom : parseMethodDescriptor (mN M_ensureRoom).desc = some ⟨[], none⟩ := by decide +kernel
def M_pow : Mi := ((⟨"MddConfigurator", "pow", "(I)I"⟩ : MethodName), prog_1_method_20_code, 4, (some .int), 0, 0)
theorem pl_pow : plainFor (mN M_pow) = true := plainFor_of_name pcls
theorem nm_pow : notMH M_pow := nmh
theorem pd_pow : parseMethodDescriptor (mN M_pow).desc = some ⟨[.int], some .int⟩ := by decide +kernel
def M_decode : Mi := ((⟨"MddConfigurator", "decode", "(I)V"⟩ : MethodName), prog_1_method_31_code, 4, none, 0, 0)
theorem pl_decode : plainFor (mN M_decode) = true := plainFor_of_name pcls
theorem nm_decode : notMH M_decode := nmh
theorem pd_decode : parseMethodDescriptor (mN M_decode).desc = some ⟨[.int], none⟩ := by decide +kernel
def M_scopeCode : Mi := ((⟨"MddConfigurator", "scopeCode", "()I"⟩ : MethodName), prog_1_method_32_code, 2, (some .int), 0, 0)
theorem pl_scopeCode : plainFor (mN M_scopeCode) = true := plainFor_of_name pcls
theorem nm_scopeCode : notMH M_scopeCode := nmh
theorem pd_scopeCode : parseMethodDescriptor (mN M_scopeCode).desc = some ⟨[], some .int⟩ := by decide +kernel
def M_hashOf : Mi := ((⟨"MddConfigurator", "hashOf", "(IIIII)I"⟩ : MethodName), prog_1_method_22_code, 7, (some .int), 0, 0)
theorem pl_hashOf : plainFor (mN M_hashOf) = true := plainFor_of_name pcls
theorem nm_hashOf : notMH M_hashOf := nmh
theorem pd_hashOf : parseMethodDescriptor (mN M_hashOf).desc = some ⟨[.int, .int, .int, .int, .int], some .int⟩ := by decide +kernel
def M_newNode : Mi := ((⟨"MddConfigurator", "newNode", "(IIIIII)I"⟩ : MethodName), prog_1_method_25_code, 9, (some .int), 0, 0)
theorem pl_newNode : plainFor (mN M_newNode) = true := plainFor_of_name pcls
theorem nm_newNode : notMH M_newNode := nmh
theorem pd_newNode : parseMethodDescriptor (mN M_newNode).desc = some ⟨[.int, .int, .int, .int, .int, .int], some .int⟩ := by decide +kernel
def M_sameNode : Mi := ((⟨"MddConfigurator", "sameNode", "(IIIIII)Z"⟩ : MethodName), prog_1_method_23_code, 8, (some .boolean), 0, 0)
theorem pl_sameNode : plainFor (mN M_sameNode) = true := plainFor_of_name pcls
theorem nm_sameNode : notMH M_sameNode := nmh
theorem pd_sameNode : parseMethodDescriptor (mN M_sameNode).desc = some ⟨[.int, .int, .int, .int, .int, .int], some .boolean⟩ := by decide +kernel
def M_mk : Mi := ((⟨"MddConfigurator", "mk", "(IIIII)I"⟩ : MethodName), prog_1_method_24_code, 10, (some .int), 1, 20)
theorem pl_mk : plainFor (mN M_mk) = true := plainFor_of_name pcls
theorem nm_mk : notMH M_mk := nmh
theorem pd_mk : parseMethodDescriptor (mN M_mk).desc = some ⟨[.int, .int, .int, .int, .int], some .int⟩ := by decide +kernel
def M_reduceBuffer : Mi := ((⟨"MddConfigurator", "reduceBuffer", "()I"⟩ : MethodName), prog_1_method_33_code, 9, (some .int), 2, 43)
theorem pl_reduceBuffer : plainFor (mN M_reduceBuffer) = true := plainFor_of_name pcls
theorem nm_reduceBuffer : notMH M_reduceBuffer := nmh
theorem pd_reduceBuffer : parseMethodDescriptor (mN M_reduceBuffer).desc = some ⟨[], some .int⟩ := by decide +kernel
def M_compileTable : Mi := ((⟨"MddConfigurator", "compileTable", "()I"⟩ : MethodName), prog_1_method_30_code, 3, (some .int), 3, 63)
theorem pl_compileTable : plainFor (mN M_compileTable) = true := plainFor_of_name pcls
theorem nm_compileTable : notMH M_compileTable := nmh
theorem pd_compileTable : parseMethodDescriptor (mN M_compileTable).desc = some ⟨[], some .int⟩ := by decide +kernel
def M_push : Mi := ((⟨"MddConfigurator", "push", "(II)V"⟩ : MethodName), prog_1_method_35_code, 3, none, 0, 0)
theorem pl_push : plainFor (mN M_push) = true := plainFor_of_name pcls
theorem nm_push : notMH M_push := nmh
theorem pd_push : parseMethodDescriptor (mN M_push).desc = some ⟨[.int, .int], none⟩ := by decide +kernel
def M_memoSlot : Mi := ((⟨"MddConfigurator", "memoSlot", "(II)I"⟩ : MethodName), prog_1_method_43_code, 4, (some .int), 0, 0)
theorem pl_memoSlot : plainFor (mN M_memoSlot) = true := plainFor_of_name pcls
theorem nm_memoSlot : notMH M_memoSlot := nmh
theorem pd_memoSlot : parseMethodDescriptor (mN M_memoSlot).desc = some ⟨[.int, .int], some .int⟩ := by decide +kernel
def M_memoFind : Mi := ((⟨"MddConfigurator", "memoFind", "(II)I"⟩ : MethodName), prog_1_method_44_code, 7, (some .int), 1, 15)
theorem pl_memoFind : plainFor (mN M_memoFind) = true := plainFor_of_name pcls
theorem nm_memoFind : notMH M_memoFind := nmh
theorem pd_memoFind : parseMethodDescriptor (mN M_memoFind).desc = some ⟨[.int, .int], some .int⟩ := by decide +kernel
def M_resolve : Mi := ((⟨"MddConfigurator", "resolve", "(II)I"⟩ : MethodName), prog_1_method_42_code, 3, (some .int), 2, 33)
theorem pl_resolve : plainFor (mN M_resolve) = true := plainFor_of_name pcls
theorem nm_resolve : notMH M_resolve := nmh
theorem pd_resolve : parseMethodDescriptor (mN M_resolve).desc = some ⟨[.int, .int], some .int⟩ := by decide +kernel
def M_topLevel : Mi := ((⟨"MddConfigurator", "topLevel", "(II)I"⟩ : MethodName), prog_1_method_37_code, 3, (some .int), 0, 0)
theorem pl_topLevel : plainFor (mN M_topLevel) = true := plainFor_of_name pcls
theorem nm_topLevel : notMH M_topLevel := nmh
theorem pd_topLevel : parseMethodDescriptor (mN M_topLevel).desc = some ⟨[.int, .int], some .int⟩ := by decide +kernel
def M_cofactor : Mi := ((⟨"MddConfigurator", "cofactor", "(III)I"⟩ : MethodName), prog_1_method_38_code, 4, (some .int), 0, 0)
theorem pl_cofactor : plainFor (mN M_cofactor) = true := plainFor_of_name pcls
theorem nm_cofactor : notMH M_cofactor := nmh
theorem pd_cofactor : parseMethodDescriptor (mN M_cofactor).desc = some ⟨[.int, .int, .int], some .int⟩ := by decide +kernel
def M_pushChildren : Mi := ((⟨"MddConfigurator", "pushChildren", "(II)V"⟩ : MethodName), prog_1_method_39_code, 7, none, 3, 47)
theorem pl_pushChildren : plainFor (mN M_pushChildren) = true := plainFor_of_name pcls
theorem nm_pushChildren : notMH M_pushChildren := nmh
theorem pd_pushChildren : parseMethodDescriptor (mN M_pushChildren).desc = some ⟨[.int, .int], none⟩ := by decide +kernel
def M_childResult : Mi := ((⟨"MddConfigurator", "childResult", "(IIII)I"⟩ : MethodName), prog_1_method_40_code, 8, (some .int), 3, 47)
theorem pl_childResult : plainFor (mN M_childResult) = true := plainFor_of_name pcls
theorem nm_childResult : notMH M_childResult := nmh
theorem pd_childResult : parseMethodDescriptor (mN M_childResult).desc = some ⟨[.int, .int, .int, .int], some .int⟩ := by decide +kernel
def M_memoStore : Mi := ((⟨"MddConfigurator", "memoStore", "(III)V"⟩ : MethodName), prog_1_method_45_code, 8, none, 1, 15)
theorem pl_memoStore : plainFor (mN M_memoStore) = true := plainFor_of_name pcls
theorem nm_memoStore : notMH M_memoStore := nmh
theorem pd_memoStore : parseMethodDescriptor (mN M_memoStore).desc = some ⟨[.int, .int, .int], none⟩ := by decide +kernel
def M_finishPair : Mi := ((⟨"MddConfigurator", "finishPair", "(II)V"⟩ : MethodName), prog_1_method_41_code, 9, none, 4, 66)
theorem pl_finishPair : plainFor (mN M_finishPair) = true := plainFor_of_name pcls
theorem nm_finishPair : notMH M_finishPair := nmh
theorem pd_finishPair : parseMethodDescriptor (mN M_finishPair).desc = some ⟨[.int, .int], none⟩ := by decide +kernel
def M_step : Mi := ((⟨"MddConfigurator", "step", "()V"⟩ : MethodName), prog_1_method_36_code, 4, none, 5, 86)
theorem pl_step : plainFor (mN M_step) = true := plainFor_of_name pcls
theorem nm_step : notMH M_step := nmh
theorem pd_step : parseMethodDescriptor (mN M_step).desc = some ⟨[], none⟩ := by decide +kernel
def M_conjoin : Mi := ((⟨"MddConfigurator", "conjoin", "(II)I"⟩ : MethodName), prog_1_method_34_code, 4, (some .int), 6, 101)
theorem pl_conjoin : plainFor (mN M_conjoin) = true := plainFor_of_name pcls
theorem nm_conjoin : notMH M_conjoin := nmh
theorem pd_conjoin : parseMethodDescriptor (mN M_conjoin).desc = some ⟨[.int, .int], some .int⟩ := by decide +kernel
def M_commitTable : Mi := ((⟨"MddConfigurator", "commitTable", "()I"⟩ : MethodName), prog_1_method_6_code, 3, (some .int), 7, 116)
theorem pl_commitTable : plainFor (mN M_commitTable) = true := plainFor_of_name pcls
theorem nm_commitTable : notMH M_commitTable := nmh
theorem pd_commitTable : parseMethodDescriptor (mN M_commitTable).desc = some ⟨[], some .int⟩ := by decide +kernel
def M_loadChoices : Mi := ((⟨"MddConfigurator", "loadChoices", "()V"⟩ : MethodName), prog_1_method_46_code, 2, none, 0, 0)
theorem pl_loadChoices : plainFor (mN M_loadChoices) = true := plainFor_of_name pcls
theorem nm_loadChoices : notMH M_loadChoices := nmh
theorem pd_loadChoices : parseMethodDescriptor (mN M_loadChoices).desc = some ⟨[], none⟩ := by decide +kernel
def M_gap : Mi := ((⟨"MddConfigurator", "gap", "(II)I"⟩ : MethodName), prog_1_method_47_code, 5, (some .int), 0, 0)
theorem pl_gap : plainFor (mN M_gap) = true := plainFor_of_name pcls
theorem nm_gap : notMH M_gap := nmh
theorem pd_gap : parseMethodDescriptor (mN M_gap).desc = some ⟨[.int, .int], some .int⟩ := by decide +kernel
def M_nodeCount : Mi := ((⟨"MddConfigurator", "nodeCount", "(I)I"⟩ : MethodName), prog_1_method_49_code, 7, (some .int), 1, 16)
theorem pl_nodeCount : plainFor (mN M_nodeCount) = true := plainFor_of_name pcls
theorem nm_nodeCount : notMH M_nodeCount := nmh
theorem pd_nodeCount : parseMethodDescriptor (mN M_nodeCount).desc = some ⟨[.int], some .int⟩ := by decide +kernel
def M_countFixed : Mi := ((⟨"MddConfigurator", "countFixed", "()I"⟩ : MethodName), prog_1_method_48_code, 3, (some .int), 2, 36)
theorem pl_countFixed : plainFor (mN M_countFixed) = true := plainFor_of_name pcls
theorem nm_countFixed : notMH M_countFixed := nmh
theorem pd_countFixed : parseMethodDescriptor (mN M_countFixed).desc = some ⟨[], some .int⟩ := by decide +kernel
def M_count : Mi := ((⟨"MddConfigurator", "count", "()I"⟩ : MethodName), prog_1_method_14_code, 1, (some .int), 3, 50)
theorem pl_count : plainFor (mN M_count) = true := plainFor_of_name pcls
theorem nm_count : notMH M_count := nmh
theorem pd_count : parseMethodDescriptor (mN M_count).desc = some ⟨[], some .int⟩ := by decide +kernel
def M_countWith : Mi := ((⟨"MddConfigurator", "countWith", "(II)I"⟩ : MethodName), prog_1_method_15_code, 3, (some .int), 3, 50)
theorem pl_countWith : plainFor (mN M_countWith) = true := plainFor_of_name pcls
theorem nm_countWith : notMH M_countWith := nmh
theorem pd_countWith : parseMethodDescriptor (mN M_countWith).desc = some ⟨[.int, .int], some .int⟩ := by decide +kernel
def M_offeredMask : Mi := ((⟨"MddConfigurator", "offeredMask", "(I)I"⟩ : MethodName), prog_1_method_13_code, 4, (some .int), 4, 64)
theorem pl_offeredMask : plainFor (mN M_offeredMask) = true := plainFor_of_name pcls
theorem nm_offeredMask : notMH M_offeredMask := nmh
theorem pd_offeredMask : parseMethodDescriptor (mN M_offeredMask).desc = some ⟨[.int], some .int⟩ := by decide +kernel
def M_tableCount : Mi := ((⟨"MddConfigurator", "tableCount", "()I"⟩ : MethodName), prog_1_method_16_code, 1, (some .int), 0, 0)
theorem pl_tableCount : plainFor (mN M_tableCount) = true := plainFor_of_name pcls
theorem nm_tableCount : notMH M_tableCount := nmh
theorem pd_tableCount : parseMethodDescriptor (mN M_tableCount).desc = some ⟨[], some .int⟩ := by decide +kernel
def M_choose : Mi := ((⟨"MddConfigurator", "choose", "(II)I"⟩ : MethodName), prog_1_method_9_code, 3, (some .int), 4, 64)
theorem pl_choose : plainFor (mN M_choose) = true := plainFor_of_name pcls
theorem nm_choose : notMH M_choose := nmh
theorem pd_choose : parseMethodDescriptor (mN M_choose).desc = some ⟨[.int, .int], some .int⟩ := by decide +kernel
def M_dropLastTable : Mi := ((⟨"MddConfigurator", "dropLastTable", "()I"⟩ : MethodName), prog_1_method_8_code, 1, (some .int), 0, 0)
theorem pl_dropLastTable : plainFor (mN M_dropLastTable) = true := plainFor_of_name pcls
theorem nm_dropLastTable : notMH M_dropLastTable := nmh
theorem pd_dropLastTable : parseMethodDescriptor (mN M_dropLastTable).desc = some ⟨[], some .int⟩ := by decide +kernel
def M_law : Mi := (x, code, maxLocals, ret, 8, 130)
theorem pl_law : plainFor (mN M_law) = true := plainFor_of_name (by first | (simp [plainName, overriddenIn, x]; done) | decide +kernel)
def c2 : List (Nat × Instr × Nat) := [(0, .iconst 0, 1), (1, .istore_n 1, 1), (2, .iload_n 1, 1), (3, .sipush 4096, 3), (6, .if_icmp .ge 16, 3), (9, .aload_n 0, 1), (10, .getfield 31, 3), (13, .iload_n 1, 1), (14, .iconst 0, 1), (15, .iastore, 1), (16, .iinc 1 1, 3), (19, .goto (-17), 3), (22, .return_, 1)]
theorem D2 : decs prog_1_method_21_code c2 = true := by decide +kernel
theorem d2 (k : Nat) {p : Nat} {i : Instr} {n : Nat} (h : c2[k]? = some (p, i, n)) : decode prog_1_method_21_code p = .ok (i, n) := dget D2 h
def c0 : List (Nat × Instr × Nat) := [(0, .aload_n 0, 1), (1, .invokespecial 1, 3), (4, .aload_n 0, 1), (5, .bipush 9, 2), (7, .newarray .int, 2), (9, .putfield 7, 3), (12, .aload_n 0, 1), (13, .bipush 16, 2), (15, .newarray .int, 2), (17, .putfield 13, 3), (20, .aload_n 0, 1), (21, .iconst 5, 1), (22, .newarray .int, 2), (24, .putfield 16, 3), (27, .aload_n 0, 1), (28, .iconst 5, 1), (29, .newarray .int, 2), (31, .putfield 19, 3), (34, .aload_n 0, 1), (35, .iconst 5, 1), (36, .newarray .int, 2), (38, .putfield 22, 3), (41, .aload_n 0, 1), (42, .sipush 2048, 3), (45, .newarray .int, 2), (47, .putfield 25, 3), (50, .aload_n 0, 1), (51, .sipush 8192, 3), (54, .newarray .int, 2), (56, .putfield 28, 3), (59, .aload_n 0, 1), (60, .sipush 4096, 3), (63, .newarray .int, 2), (65, .putfield 31, 3), (68, .aload_n 0, 1), (69, .sipush 2048, 3), (72, .newarray .boolean, 2), (74, .putfield 34, 3), (77, .aload_n 0, 1), (78, .sipush 2048, 3), (81, .newarray .int, 2), (83, .putfield 38, 3), (86, .aload_n 0, 1), (87, .sipush 2048, 3), (90, .newarray .int, 2), (92, .putfield 41, 3), (95, .aload_n 0, 1), (96, .sipush 1024, 3), (99, .newarray .int, 2), (101, .putfield 44, 3), (104, .aload_n 0, 1), (105, .bipush 64, 2), (107, .newarray .boolean, 2), (109, .putfield 47, 3), (112, .aload_n 0, 1), (113, .sipush 1024, 3), (116, .newarray .int, 2), (118, .putfield 50, 3), (121, .aload_n 0, 1), (122, .sipush 1024, 3), (125, .newarray .int, 2), (127, .putfield 53, 3), (130, .aload_n 0, 1), (131, .sipush 1024, 3), (134, .newarray .int, 2), (136, .putfield 56, 3), (139, .aload_n 0, 1), (140, .sipush 1024, 3), (143, .newarray .boolean, 2), (145, .putfield 59, 3), (148, .aload_n 0, 1), (149, .bipush 64, 2), (151, .newarray .int, 2), (153, .putfield 62, 3), (156, .aload_n 0, 1), (157, .bipush 64, 2), (159, .newarray .int, 2), (161, .putfield 65, 3), (164, .aload_n 0, 1), (165, .bipush 64, 2), (167, .newarray .int, 2), (169, .putfield 68, 3), (172, .aload_n 0, 1), (173, .iload_n 1, 1), (174, .iconst 1, 1), (175, .if_icmp .ge 7, 3), (178, .iconst 1, 1), (179, .goto 13, 3), (182, .iload_n 1, 1), (183, .iconst 5, 1), (184, .if_icmp .le 7, 3), (187, .iconst 5, 1), (188, .goto 4, 3), (191, .iload_n 1, 1), (192, .putfield 71, 3), (195, .aload_n 0, 1), (196, .iload_n 2, 1), (197, .iconst 2, 1), (198, .if_icmp .ge 7, 3), (201, .iconst 2, 1), (202, .goto 13, 3), (205, .iload_n 2, 1), (206, .iconst 4, 1), (207, .if_icmp .le 7, 3), (210, .iconst 4, 1), (211, .goto 4, 3), (214, .iload_n 2, 1), (215, .putfield 75, 3), (218, .aload_n 0, 1), (219, .getfield 25, 3), (222, .iconst 0, 1), (223, .aload_n 0, 1), (224, .getfield 71, 3), (227, .iastore, 1), (228, .aload_n 0, 1), (229, .getfield 25, 3), (232, .iconst 1, 1), (233, .aload_n 0, 1), (234, .getfield 71, 3), (237, .iastore, 1), (238, .aload_n 0, 1), (239, .iconst 2, 1), (240, .putfield 78, 3), (243, .aload_n 0, 1), (244, .invokevirtual 81, 3), (247, .aload_n 0, 1), (248, .iconst 0, 1), (249, .putfield 84, 3), (252, .aload_n 0, 1), (253, .getfield 7, 3), (256, .iconst 0, 1), (257, .iconst 1, 1), (258, .iastore, 1), (259, .aload_n 0, 1), (260, .iconst 0, 1), (261, .putfield 87, 3), (264, .iconst 0, 1), (265, .istore_n 3, 1), (266, .iload_n 3, 1), (267, .iconst 5, 1), (268, .if_icmp .ge 16, 3), (271, .aload_n 0, 1), (272, .getfield 16, 3), (275, .iload_n 3, 1), (276, .iconst (-1), 1), (277, .iastore, 1), (278, .iinc 3 1, 3), (281, .goto (-15), 3), (284, .return_, 1)]
theorem D0 : decs prog_1_method_1_code c0 = true := by decide +kernel
theorem d0 (k : Nat) {p : Nat} {i : Instr} {n : Nat} (h : c0[k]? = some (p, i, n)) : decode prog_1_method_1_code p = .ok (i, n) := dget D0 h
def c3 : List (Nat × Instr × Nat) := [(0, .iload_n 0, 1), (1, .ifCond .lt 12, 3), (4, .iload_n 0, 1), (5, .iconst 3, 1), (6, .if_icmp .ge 7, 3), (9, .iconst 1, 1), (10, .goto 4, 3), (13, .iconst 0, 1), (14, .ireturn, 1)]
theorem D3 : decs method_2_code c3 = true := by decide +kernel
theorem d3 (k : Nat) {p : Nat} {i : Instr} {n : Nat} (h : c3[k]? = some (p, i, n)) : decode method_2_code p = .ok (i, n) := dget D3 h
def c5 : List (Nat × Instr × Nat) := [(0, .iload_n 1, 1), (1, .ifCond .lt 15, 3), (4, .iload_n 1, 1), (5, .aload_n 0, 1), (6, .getfield 71, 3), (9, .if_icmp .ge 7, 3), (12, .iconst 1, 1), (13, .goto 4, 3), (16, .iconst 0, 1), (17, .ireturn, 1)]
theorem D5 : decs prog_1_method_18_code c5 = true := by decide +kernel
theorem d5 (k : Nat) {p : Nat} {i : Instr} {n : Nat} (h : c5[k]? = some (p, i, n)) : decode prog_1_method_18_code p = .ok (i, n) := dget D5 h
def c4 : List (Nat × Instr × Nat) := [(0, .aload_n 0, 1), (1, .getfield 87, 3), (4, .ifCond .eq 6, 3), (7, .bipush (-3), 2), (9, .ireturn, 1), (10, .aload_n 0, 1), (11, .getfield 84, 3), (14, .bipush 8, 2), (16, .if_icmp .lt 6, 3), (19, .bipush (-6), 2), (21, .ireturn, 1), (22, .iload_n 2, 1), (23, .iconst (-1), 1), (24, .if_icmp .ne 11, 3), (27, .iload_n 3, 1), (28, .iconst (-1), 1), (29, .if_icmp .eq 6, 3), (32, .bipush (-11), 2), (34, .ireturn, 1), (35, .iload_n 2, 1), (36, .iconst (-1), 1), (37, .if_icmp .ne 7, 3), (40, .iconst 1, 1), (41, .goto 13, 3), (44, .iload_n 3, 1), (45, .iconst (-1), 1), (46, .if_icmp .ne 7, 3), (49, .iconst 2, 1), (50, .goto 4, 3), (53, .iconst 3, 1), (54, .istore 4, 2), (56, .aload_n 0, 1), (57, .iload_n 1, 1), (58, .invokevirtual 91, 3), (61, .ifCond .ne 5, 3), (64, .iconst (-1), 1), (65, .ireturn, 1), (66, .iload 4, 2), (68, .iconst 2, 1), (69, .if_icmp .lt 13, 3), (72, .aload_n 0, 1), (73, .iload_n 2, 1), (74, .invokevirtual 91, 3), (77, .ifCond .ne 5, 3), (80, .iconst (-1), 1), (81, .ireturn, 1), (82, .iload 4, 2), (84, .iconst 3, 1), (85, .if_icmp .ne 13, 3), (88, .aload_n 0, 1), (89, .iload_n 3, 1), (90, .invokevirtual 91, 3), (93, .ifCond .ne 5, 3), (96, .iconst (-1), 1), (97, .ireturn, 1), (98, .iload 4, 2), (100, .iconst 2, 1), (101, .if_icmp .lt 11, 3), (104, .iload_n 1, 1), (105, .iload_n 2, 1), (106, .if_icmp .ne 6, 3), (109, .bipush (-11), 2), (111, .ireturn, 1), (112, .iload 4, 2), (114, .iconst 3, 1), (115, .if_icmp .ne 16, 3), (118, .iload_n 1, 1), (119, .iload_n 3, 1), (120, .if_icmp .eq 8, 3), (123, .iload_n 2, 1), (124, .iload_n 3, 1), (125, .if_icmp .ne 6, 3), (128, .bipush (-11), 2), (130, .ireturn, 1), (131, .aload_n 0, 1), (132, .iconst 1, 1), (133, .putfield 87, 3), (136, .aload_n 0, 1), (137, .iload 4, 2), (139, .putfield 95, 3), (142, .aload_n 0, 1), (143, .iload_n 1, 1), (144, .putfield 98, 3), (147, .aload_n 0, 1), (148, .iload_n 2, 1), (149, .putfield 101, 3), (152, .aload_n 0, 1), (153, .iload_n 3, 1), (154, .putfield 104, 3), (157, .aload_n 0, 1), (158, .iconst 0, 1), (159, .putfield 107, 3), (162, .iconst 0, 1), (163, .ireturn, 1)]
theorem D4 : decs prog_1_method_4_code c4 = true := by decide +kernel
theorem d4 (k : Nat) {p : Nat} {i : Instr} {n : Nat} (h : c4[k]? = some (p, i, n)) : decode prog_1_method_4_code p = .ok (i, n) := dget D4 h
def c7 : List (Nat × Instr × Nat) := [(0, .iload_n 1, 1), (1, .ifCond .lt 15, 3), (4, .iload_n 1, 1), (5, .aload_n 0, 1), (6, .getfield 75, 3), (9, .if_icmp .ge 7, 3), (12, .iconst 1, 1), (13, .goto 4, 3), (16, .iconst 0, 1), (17, .ireturn, 1)]
theorem D7 : decs prog_1_method_19_code c7 = true := by decide +kernel
theorem d7 (k : Nat) {p : Nat} {i : Instr} {n : Nat} (h : c7[k]? = some (p, i, n)) : decode prog_1_method_19_code p = .ok (i, n) := dget D7 h
def c6 : List (Nat × Instr × Nat) := [(0, .aload_n 0, 1), (1, .getfield 87, 3), (4, .ifCond .ne 6, 3), (7, .bipush (-4), 2), (9, .ireturn, 1), (10, .aload_n 0, 1), (11, .iload_n 1, 1), (12, .invokevirtual 110, 3), (15, .ifCond .ne 6, 3), (18, .bipush (-2), 2), (20, .ireturn, 1), (21, .aload_n 0, 1), (22, .getfield 95, 3), (25, .iconst 2, 1), (26, .if_icmp .lt 14, 3), (29, .aload_n 0, 1), (30, .iload_n 2, 1), (31, .invokevirtual 110, 3), (34, .ifCond .ne 6, 3), (37, .bipush (-2), 2), (39, .ireturn, 1), (40, .aload_n 0, 1), (41, .getfield 95, 3), (44, .iconst 3, 1), (45, .if_icmp .ne 14, 3), (48, .aload_n 0, 1), (49, .iload_n 3, 1), (50, .invokevirtual 110, 3), (53, .ifCond .ne 6, 3), (56, .bipush (-2), 2), (58, .ireturn, 1), (59, .iload_n 1, 1), (60, .bipush 16, 2), (62, .imul, 1), (63, .istore 4, 2), (65, .aload_n 0, 1), (66, .getfield 95, 3), (69, .iconst 2, 1), (70, .if_icmp .lt 11, 3), (73, .iload 4, 2), (75, .iload_n 2, 1), (76, .iconst 4, 1), (77, .imul, 1), (78, .iadd, 1), (79, .istore 4, 2), (81, .aload_n 0, 1), (82, .getfield 95, 3), (85, .iconst 3, 1), (86, .if_icmp .ne 9, 3), (89, .iload 4, 2), (91, .iload_n 3, 1), (92, .iadd, 1), (93, .istore 4, 2), (95, .iconst 0, 1), (96, .istore 5, 2), (98, .iload 5, 2), (100, .aload_n 0, 1), (101, .getfield 107, 3), (104, .if_icmp .ge 31, 3), (107, .iload 5, 2), (109, .bipush 16, 2), (111, .if_icmp .ge 24, 3), (114, .aload_n 0, 1), (115, .getfield 13, 3), (118, .iload 5, 2), (120, .iaload, 1), (121, .iload 4, 2), (123, .if_icmp .ne 6, 3), (126, .bipush (-5), 2), (128, .ireturn, 1), (129, .iinc 5 1, 3), (132, .goto (-34), 3), (135, .aload_n 0, 1), (136, .getfield 107, 3), (139, .bipush 16, 2), (141, .if_icmp .lt 6, 3), (144, .bipush (-6), 2), (146, .ireturn, 1), (147, .aload_n 0, 1), (148, .getfield 13, 3), (151, .aload_n 0, 1), (152, .getfield 107, 3), (155, .iload 4, 2), (157, .iastore, 1), (158, .aload_n 0, 1), (159, .dup, 1), (160, .getfield 107, 3), (163, .iconst 1, 1), (164, .iadd, 1), (165, .putfield 107, 3), (168, .iconst 0, 1), (169, .ireturn, 1)]
theorem D6 : decs prog_1_method_5_code c6 = true := by decide +kernel
theorem d6 (k : Nat) {p : Nat} {i : Instr} {n : Nat} (h : c6[k]? = some (p, i, n)) : decode prog_1_method_5_code p = .ok (i, n) := dget D6 h
def c9 : List (Nat × Instr × Nat) := [(0, .aload_n 0, 1), (1, .getfield 78, 3), (4, .sipush 512, 3), (7, .iadd, 1), (8, .sipush 2048, 3), (11, .if_icmp .gt 4, 3), (14, .return_, 1), (15, .aload_n 0, 1), (16, .invokevirtual 147, 3), (19, .aload_n 0, 1), (20, .invokevirtual 150, 3), (23, .aload_n 0, 1), (24, .invokevirtual 153, 3), (27, .return_, 1)]
theorem D9 : decs prog_1_method_26_code c9 = true := by decide +kernel
theorem d9 (k : Nat) {p : Nat} {i : Instr} {n : Nat} (h : c9[k]? = some (p, i, n)) : decode prog_1_method_26_code p = .ok (i, n) := dget D9 h
def c11 : List (Nat × Instr × Nat) := [(0, .iconst 1, 1), (1, .istore_n 2, 1), (2, .iconst 0, 1), (3, .istore_n 3, 1), (4, .iload_n 3, 1), (5, .iload_n 1, 1), (6, .if_icmp .ge 21, 3), (9, .iload_n 3, 1), (10, .iconst 5, 1), (11, .if_icmp .ge 16, 3), (14, .iload_n 2, 1), (15, .aload_n 0, 1), (16, .getfield 75, 3), (19, .imul, 1), (20, .istore_n 2, 1), (21, .iinc 3 1, 3), (24, .goto (-20), 3), (27, .iload_n 2, 1), (28, .ireturn, 1)]
theorem D11 : decs prog_1_method_20_code c11 = true := by decide +kernel
theorem d11 (k : Nat) {p : Nat} {i : Instr} {n : Nat} (h : c11[k]? = some (p, i, n)) : decode prog_1_method_20_code p = .ok (i, n) := dget D11 h
def c12 : List (Nat × Instr × Nat) := [(0, .iload_n 1, 1), (1, .istore_n 2, 1), (2, .aload_n 0, 1), (3, .getfield 71, 3), (6, .iconst 1, 1), (7, .isub, 1), (8, .istore_n 3, 1), (9, .iload_n 3, 1), (10, .ifCond .lt 28, 3), (13, .aload_n 0, 1), (14, .getfield 22, 3), (17, .iload_n 3, 1), (18, .iload_n 2, 1), (19, .aload_n 0, 1), (20, .getfield 75, 3), (23, .irem, 1), (24, .iastore, 1), (25, .iload_n 2, 1), (26, .aload_n 0, 1), (27, .getfield 75, 3), (30, .idiv, 1), (31, .istore_n 2, 1), (32, .iinc 3 (-1), 3), (35, .goto (-26), 3), (38, .return_, 1)]
theorem D12 : decs prog_1_method_31_code c12 = true := by decide +kernel
theorem d12 (k : Nat) {p : Nat} {i : Instr} {n : Nat} (h : c12[k]? = some (p, i, n)) : decode prog_1_method_31_code p = .ok (i, n) := dget D12 h
def c13 : List (Nat × Instr × Nat) := [(0, .aload_n 0, 1), (1, .getfield 22, 3), (4, .aload_n 0, 1), (5, .getfield 98, 3), (8, .iaload, 1), (9, .bipush 16, 2), (11, .imul, 1), (12, .istore_n 1, 1), (13, .aload_n 0, 1), (14, .getfield 95, 3), (17, .iconst 2, 1), (18, .if_icmp .lt 17, 3), (21, .iload_n 1, 1), (22, .aload_n 0, 1), (23, .getfield 22, 3), (26, .aload_n 0, 1), (27, .getfield 101, 3), (30, .iaload, 1), (31, .iconst 4, 1), (32, .imul, 1), (33, .iadd, 1), (34, .istore_n 1, 1), (35, .aload_n 0, 1), (36, .getfield 95, 3), (39, .iconst 3, 1), (40, .if_icmp .ne 15, 3), (43, .iload_n 1, 1), (44, .aload_n 0, 1), (45, .getfield 22, 3), (48, .aload_n 0, 1), (49, .getfield 104, 3), (52, .iaload, 1), (53, .iadd, 1), (54, .istore_n 1, 1), (55, .iload_n 1, 1), (56, .ireturn, 1)]
theorem D13 : decs prog_1_method_32_code c13 = true := by decide +kernel
theorem d13 (k : Nat) {p : Nat} {i : Instr} {n : Nat} (h : c13[k]? = some (p, i, n)) : decode prog_1_method_32_code p = .ok (i, n) := dget D13 h
def c16 : List (Nat × Instr × Nat) := [(0, .iload_n 1, 1), (1, .bipush 31, 2), (3, .imul, 1), (4, .iload_n 2, 1), (5, .iadd, 1), (6, .istore 6, 2), (8, .iload 6, 2), (10, .ldc 133, 2), (12, .imul, 1), (13, .iload_n 3, 1), (14, .iadd, 1), (15, .istore 6, 2), (17, .iload 6, 2), (19, .ldc 133, 2), (21, .imul, 1), (22, .iload 4, 2), (24, .iadd, 1), (25, .istore 6, 2), (27, .iload 6, 2), (29, .ldc 133, 2), (31, .imul, 1), (32, .iload 5, 2), (34, .iadd, 1), (35, .istore 6, 2), (37, .iload 6, 2), (39, .iload 6, 2), (41, .bipush 13, 2), (43, .iushr, 1), (44, .ixor, 1), (45, .istore 6, 2), (47, .iload 6, 2), (49, .ldc 134, 2), (51, .imul, 1), (52, .istore 6, 2), (54, .iload 6, 2), (56, .iload 6, 2), (58, .bipush 15, 2), (60, .iushr, 1), (61, .ixor, 1), (62, .istore 6, 2), (64, .iload 6, 2), (66, .sipush 4095, 3), (69, .iand, 1), (70, .ireturn, 1)]
theorem D16 : decs prog_1_method_22_code c16 = true := by decide +kernel
theorem d16 (k : Nat) {p : Nat} {i : Instr} {n : Nat} (h : c16[k]? = some (p, i, n)) : decode prog_1_method_22_code p = .ok (i, n) := dget D16 h
def c17 : List (Nat × Instr × Nat) := [(0, .aload_n 0, 1), (1, .getfield 78, 3), (4, .sipush 2048, 3), (7, .if_icmp .lt 5, 3), (10, .iconst 0, 1), (11, .ireturn, 1), (12, .aload_n 0, 1), (13, .getfield 78, 3), (16, .istore 7, 2), (18, .aload_n 0, 1), (19, .dup, 1), (20, .getfield 78, 3), (23, .iconst 1, 1), (24, .iadd, 1), (25, .putfield 78, 3), (28, .aload_n 0, 1), (29, .getfield 25, 3), (32, .iload 7, 2), (34, .iload_n 2, 1), (35, .iastore, 1), (36, .iload 7, 2), (38, .iconst 4, 1), (39, .imul, 1), (40, .istore 8, 2), (42, .aload_n 0, 1), (43, .getfield 28, 3), (46, .iload 8, 2), (48, .iload_n 3, 1), (49, .iastore, 1), (50, .aload_n 0, 1), (51, .getfield 28, 3), (54, .iload 8, 2), (56, .iconst 1, 1), (57, .iadd, 1), (58, .iload 4, 2), (60, .iastore, 1), (61, .aload_n 0, 1), (62, .getfield 28, 3), (65, .iload 8, 2), (67, .iconst 2, 1), (68, .iadd, 1), (69, .iload 5, 2), (71, .iastore, 1), (72, .aload_n 0, 1), (73, .getfield 28, 3), (76, .iload 8, 2), (78, .iconst 3, 1), (79, .iadd, 1), (80, .iload 6, 2), (82, .iastore, 1), (83, .aload_n 0, 1), (84, .getfield 31, 3), (87, .iload_n 1, 1), (88, .iload 7, 2), (90, .iastore, 1), (91, .iload 7, 2), (93, .ireturn, 1)]
theorem D17 : decs prog_1_method_25_code c17 = true := by decide +kernel
theorem d17 (k : Nat) {p : Nat} {i : Instr} {n : Nat} (h : c17[k]? = some (p, i, n)) : decode prog_1_method_25_code p = .ok (i, n) := dget D17 h
def c32 : List (Nat × Instr × Nat) := [(0, .iload_n 1, 1), (1, .iconst 4, 1), (2, .imul, 1), (3, .istore 7, 2), (5, .aload_n 0, 1), (6, .getfield 25, 3), (9, .iload_n 1, 1), (10, .iaload, 1), (11, .iload_n 2, 1), (12, .if_icmp .ne 60, 3), (15, .aload_n 0, 1), (16, .getfield 28, 3), (19, .iload 7, 2), (21, .iaload, 1), (22, .iload_n 3, 1), (23, .if_icmp .ne 49, 3), (26, .aload_n 0, 1), (27, .getfield 28, 3), (30, .iload 7, 2), (32, .iconst 1, 1), (33, .iadd, 1), (34, .iaload, 1), (35, .iload 4, 2), (37, .if_icmp .ne 35, 3), (40, .aload_n 0, 1), (41, .getfield 28, 3), (44, .iload 7, 2), (46, .iconst 2, 1), (47, .iadd, 1), (48, .iaload, 1), (49, .iload 5, 2), (51, .if_icmp .ne 21, 3), (54, .aload_n 0, 1), (55, .getfield 28, 3), (58, .iload 7, 2), (60, .iconst 3, 1), (61, .iadd, 1), (62, .iaload, 1), (63, .iload 6, 2), (65, .if_icmp .ne 7, 3), (68, .iconst 1, 1), (69, .goto 4, 3), (72, .iconst 0, 1), (73, .ireturn, 1)]
theorem D32 : decs prog_1_method_23_code c32 = true := by decide +kernel
theorem d32 (k : Nat) {p : Nat} {i : Instr} {n : Nat} (h : c32[k]? = some (p, i, n)) : decode prog_1_method_23_code p = .ok (i, n) := dget D32 h
def c15 : List (Nat × Instr × Nat) := [(0, .iload_n 3, 1), (1, .iload_n 2, 1), (2, .if_icmp .ne 35, 3), (5, .aload_n 0, 1), (6, .getfield 75, 3), (9, .iconst 3, 1), (10, .if_icmp .lt 9, 3), (13, .iload 4, 2), (15, .iload_n 2, 1), (16, .if_icmp .ne 21, 3), (19, .aload_n 0, 1), (20, .getfield 75, 3), (23, .iconst 4, 1), (24, .if_icmp .lt 9, 3), (27, .iload 5, 2), (29, .iload_n 2, 1), (30, .if_icmp .ne 7, 3), (33, .iconst 1, 1), (34, .goto 4, 3), (37, .iconst 0, 1), (38, .istore 6, 2), (40, .iload 6, 2), (42, .ifCond .eq 5, 3), (45, .iload_n 2, 1), (46, .ireturn, 1), (47, .aload_n 0, 1), (48, .iload_n 1, 1), (49, .iload_n 2, 1), (50, .iload_n 3, 1), (51, .iload 4, 2), (53, .iload 5, 2), (55, .invokevirtual 135, 3), (58, .istore 7, 2), (60, .iconst 0, 1), (61, .istore 8, 2), (63, .iload 8, 2), (65, .sipush 4096, 3), (68, .if_icmp .ge 66, 3), (71, .aload_n 0, 1), (72, .getfield 31, 3), (75, .iload 7, 2), (77, .iaload, 1), (78, .istore 9, 2), (80, .iload 9, 2), (82, .ifCond .ne 17, 3), (85, .aload_n 0, 1), (86, .iload 7, 2), (88, .iload_n 1, 1), (89, .iload_n 2, 1), (90, .iload_n 3, 1), (91, .iload 4, 2), (93, .iload 5, 2), (95, .invokevirtual 139, 3), (98, .ireturn, 1), (99, .aload_n 0, 1), (100, .iload 9, 2), (102, .iload_n 1, 1), (103, .iload_n 2, 1), (104, .iload_n 3, 1), (105, .iload 4, 2), (107, .iload 5, 2), (109, .invokevirtual 143, 3), (112, .ifCond .eq 6, 3), (115, .iload 9, 2), (117, .ireturn, 1), (118, .iload 7, 2), (120, .iconst 1, 1), (121, .iadd, 1), (122, .sipush 4095, 3), (125, .iand, 1), (126, .istore 7, 2), (128, .iinc 8 1, 3), (131, .goto (-68), 3), (134, .iconst 0, 1), (135, .ireturn, 1)]
theorem D15 : decs prog_1_method_24_code c15 = true := by decide +kernel
theorem d15 (k : Nat) {p : Nat} {i : Instr} {n : Nat} (h : c15[k]? = some (p, i, n)) : decode prog_1_method_24_code p = .ok (i, n) := dget D15 h
def c14 : List (Nat × Instr × Nat) := [(0, .aload_n 0, 1), (1, .aload_n 0, 1), (2, .getfield 71, 3), (5, .invokevirtual 156, 3), (8, .istore_n 1, 1), (9, .aload_n 0, 1), (10, .getfield 71, 3), (13, .iconst 1, 1), (14, .isub, 1), (15, .istore_n 2, 1), (16, .iload_n 2, 1), (17, .ifCond .lt 122, 3), (20, .iload_n 1, 1), (21, .aload_n 0, 1), (22, .getfield 75, 3), (25, .idiv, 1), (26, .istore_n 1, 1), (27, .iconst 0, 1), (28, .istore_n 3, 1), (29, .iload_n 3, 1), (30, .iload_n 1, 1), (31, .if_icmp .ge 102, 3), (34, .iload_n 3, 1), (35, .aload_n 0, 1), (36, .getfield 75, 3), (39, .imul, 1), (40, .istore 4, 2), (42, .aload_n 0, 1), (43, .getfield 44, 3), (46, .iload 4, 2), (48, .iaload, 1), (49, .istore 5, 2), (51, .aload_n 0, 1), (52, .getfield 44, 3), (55, .iload 4, 2), (57, .iconst 1, 1), (58, .iadd, 1), (59, .iaload, 1), (60, .istore 6, 2), (62, .aload_n 0, 1), (63, .getfield 75, 3), (66, .iconst 2, 1), (67, .if_icmp .le 15, 3), (70, .aload_n 0, 1), (71, .getfield 44, 3), (74, .iload 4, 2), (76, .iconst 2, 1), (77, .iadd, 1), (78, .iaload, 1), (79, .goto 4, 3), (82, .iconst 0, 1), (83, .istore 7, 2), (85, .aload_n 0, 1), (86, .getfield 75, 3), (89, .iconst 3, 1), (90, .if_icmp .le 15, 3), (93, .aload_n 0, 1), (94, .getfield 44, 3), (97, .iload 4, 2), (99, .iconst 3, 1), (100, .iadd, 1), (101, .iaload, 1), (102, .goto 4, 3), (105, .iconst 0, 1), (106, .istore 8, 2), (108, .aload_n 0, 1), (109, .getfield 44, 3), (112, .iload_n 3, 1), (113, .aload_n 0, 1), (114, .iload_n 2, 1), (115, .iload 5, 2), (117, .iload 6, 2), (119, .iload 7, 2), (121, .iload 8, 2), (123, .invokevirtual 170, 3), (126, .iastore, 1), (127, .iinc 3 1, 3), (130, .goto (-101), 3), (133, .iinc 2 (-1), 3), (136, .goto (-120), 3), (139, .aload_n 0, 1), (140, .getfield 44, 3), (143, .iconst 0, 1), (144, .iaload, 1), (145, .ireturn, 1)]
theorem D14 : decs prog_1_method_33_code c14 = true := by decide +kernel
theorem d14 (k : Nat) {p : Nat} {i : Instr} {n : Nat} (h : c14[k]? = some (p, i, n)) : decode prog_1_method_33_code p = .ok (i, n) := dget D14 h
def c10 : List (Nat × Instr × Nat) := [(0, .iconst 0, 1), (1, .istore_n 1, 1), (2, .iload_n 1, 1), (3, .bipush 64, 2), (5, .if_icmp .ge 16, 3), (8, .aload_n 0, 1), (9, .getfield 47, 3), (12, .iload_n 1, 1), (13, .iconst 0, 1), (14, .bastore, 1), (15, .iinc 1 1, 3), (18, .goto (-16), 3), (21, .iconst 0, 1), (22, .istore_n 1, 1), (23, .iload_n 1, 1), (24, .aload_n 0, 1), (25, .getfield 107, 3), (28, .if_icmp .ge 39, 3), (31, .iload_n 1, 1), (32, .bipush 16, 2), (34, .if_icmp .ge 33, 3), (37, .aload_n 0, 1), (38, .getfield 13, 3), (41, .iload_n 1, 1), (42, .iaload, 1), (43, .istore_n 2, 1), (44, .iload_n 2, 1), (45, .ifCond .lt 16, 3), (48, .iload_n 2, 1), (49, .bipush 64, 2), (51, .if_icmp .ge 10, 3), (54, .aload_n 0, 1), (55, .getfield 47, 3), (58, .iload_n 2, 1), (59, .iconst 1, 1), (60, .bastore, 1), (61, .iinc 1 1, 3), (64, .goto (-41), 3), (67, .aload_n 0, 1), (68, .aload_n 0, 1), (69, .getfield 71, 3), (72, .invokevirtual 156, 3), (75, .istore_n 1, 1), (76, .iconst 0, 1), (77, .istore_n 2, 1), (78, .iload_n 2, 1), (79, .iload_n 1, 1), (80, .if_icmp .ge 44, 3), (83, .iload_n 2, 1), (84, .sipush 1024, 3), (87, .if_icmp .ge 37, 3), (90, .aload_n 0, 1), (91, .iload_n 2, 1), (92, .invokevirtual 160, 3), (95, .aload_n 0, 1), (96, .getfield 44, 3), (99, .iload_n 2, 1), (100, .aload_n 0, 1), (101, .getfield 47, 3), (104, .aload_n 0, 1), (105, .invokevirtual 164, 3), (108, .baload, 1), (109, .ifCond .eq 7, 3), (112, .iconst 1, 1), (113, .goto 4, 3), (116, .iconst 0, 1), (117, .iastore, 1), (118, .iinc 2 1, 3), (121, .goto (-43), 3), (124, .aload_n 0, 1), (125, .invokevirtual 167, 3), (128, .ireturn, 1)]
theorem D10 : decs prog_1_method_30_code c10 = true := by decide +kernel
theorem d10 (k : Nat) {p : Nat} {i : Instr} {n : Nat} (h : c10[k]? = some (p, i, n)) : decode prog_1_method_30_code p = .ok (i, n) := dget D10 h
def c19 : List (Nat × Instr × Nat) := [(0, .aload_n 0, 1), (1, .getfield 173, 3), (4, .bipush 64, 2), (6, .if_icmp .lt 4, 3), (9, .return_, 1), (10, .aload_n 0, 1), (11, .getfield 62, 3), (14, .aload_n 0, 1), (15, .getfield 173, 3), (18, .iload_n 1, 1), (19, .iastore, 1), (20, .aload_n 0, 1), (21, .getfield 65, 3), (24, .aload_n 0, 1), (25, .getfield 173, 3), (28, .iload_n 2, 1), (29, .iastore, 1), (30, .aload_n 0, 1), (31, .getfield 68, 3), (34, .aload_n 0, 1), (35, .getfield 173, 3), (38, .iconst 0, 1), (39, .iastore, 1), (40, .aload_n 0, 1), (41, .dup, 1), (42, .getfield 173, 3), (45, .iconst 1, 1), (46, .iadd, 1), (47, .putfield 173, 3), (50, .return_, 1)]
theorem D19 : decs prog_1_method_35_code c19 = true := by decide +kernel
theorem d19 (k : Nat) {p : Nat} {i : Instr} {n : Nat} (h : c19[k]? = some (p, i, n)) : decode prog_1_method_35_code p = .ok (i, n) := dget D19 h
def c34 : List (Nat × Instr × Nat) := [(0, .iload_n 1, 1), (1, .sipush 7919, 3), (4, .imul, 1), (5, .iload_n 2, 1), (6, .bipush 31, 2), (8, .imul, 1), (9, .iadd, 1), (10, .istore_n 3, 1), (11, .iload_n 3, 1), (12, .iload_n 3, 1), (13, .bipush 11, 2), (15, .iushr, 1), (16, .ixor, 1), (17, .istore_n 3, 1), (18, .iload_n 3, 1), (19, .sipush 1023, 3), (22, .iand, 1), (23, .ireturn, 1)]
theorem D34 : decs prog_1_method_43_code c34 = true := by decide +kernel
theorem d34 (k : Nat) {p : Nat} {i : Instr} {n : Nat} (h : c34[k]? = some (p, i, n)) : decode prog_1_method_43_code p = .ok (i, n) := dget D34 h
def c33 : List (Nat × Instr × Nat) := [(0, .iload_n 1, 1), (1, .iload_n 2, 1), (2, .if_icmp .ge 7, 3), (5, .iload_n 1, 1), (6, .goto 4, 3), (9, .iload_n 2, 1), (10, .istore_n 3, 1), (11, .iload_n 1, 1), (12, .iload_n 2, 1), (13, .if_icmp .ge 7, 3), (16, .iload_n 2, 1), (17, .goto 4, 3), (20, .iload_n 1, 1), (21, .istore 4, 2), (23, .aload_n 0, 1), (24, .iload_n 3, 1), (25, .iload 4, 2), (27, .invokevirtual 211, 3), (30, .istore 5, 2), (32, .iconst 0, 1), (33, .istore 6, 2), (35, .iload 6, 2), (37, .sipush 1024, 3), (40, .if_icmp .ge 60, 3), (43, .aload_n 0, 1), (44, .getfield 59, 3), (47, .iload 5, 2), (49, .baload, 1), (50, .ifCond .eq 50, 3), (53, .aload_n 0, 1), (54, .getfield 50, 3), (57, .iload 5, 2), (59, .iaload, 1), (60, .iload_n 3, 1), (61, .if_icmp .ne 23, 3), (64, .aload_n 0, 1), (65, .getfield 53, 3), (68, .iload 5, 2), (70, .iaload, 1), (71, .iload 4, 2), (73, .if_icmp .ne 11, 3), (76, .aload_n 0, 1), (77, .getfield 56, 3), (80, .iload 5, 2), (82, .iaload, 1), (83, .ireturn, 1), (84, .iload 5, 2), (86, .iconst 1, 1), (87, .iadd, 1), (88, .sipush 1023, 3), (91, .iand, 1), (92, .istore 5, 2), (94, .iinc 6 1, 3), (97, .goto (-62), 3), (100, .iconst (-1), 1), (101, .ireturn, 1)]
theorem D33 : decs prog_1_method_44_code c33 = true := by decide +kernel
theorem d33 (k : Nat) {p : Nat} {i : Instr} {n : Nat} (h : c33[k]? = some (p, i, n)) : decode prog_1_method_44_code p = .ok (i, n) := dget D33 h
def c21 : List (Nat × Instr × Nat) := [(0, .iload_n 1, 1), (1, .ifCond .eq 7, 3), (4, .iload_n 2, 1), (5, .ifCond .ne 5, 3), (8, .iconst 0, 1), (9, .ireturn, 1), (10, .iload_n 1, 1), (11, .iconst 1, 1), (12, .if_icmp .ne 5, 3), (15, .iload_n 2, 1), (16, .ireturn, 1), (17, .iload_n 2, 1), (18, .iconst 1, 1), (19, .if_icmp .eq 8, 3), (22, .iload_n 1, 1), (23, .iload_n 2, 1), (24, .if_icmp .ne 5, 3), (27, .iload_n 1, 1), (28, .ireturn, 1), (29, .aload_n 0, 1), (30, .iload_n 1, 1), (31, .iload_n 2, 1), (32, .invokevirtual 208, 3), (35, .ireturn, 1)]
theorem D21 : decs prog_1_method_42_code c21 = true := by decide +kernel
theorem d21 (k : Nat) {p : Nat} {i : Instr} {n : Nat} (h : c21[k]? = some (p, i, n)) : decode prog_1_method_42_code p = .ok (i, n) := dget D21 h
def c36 : List (Nat × Instr × Nat) := [(0, .aload_n 0, 1), (1, .getfield 25, 3), (4, .iload_n 1, 1), (5, .iaload, 1), (6, .aload_n 0, 1), (7, .getfield 25, 3), (10, .iload_n 2, 1), (11, .iaload, 1), (12, .if_icmp .ge 12, 3), (15, .aload_n 0, 1), (16, .getfield 25, 3), (19, .iload_n 1, 1), (20, .iaload, 1), (21, .goto 9, 3), (24, .aload_n 0, 1), (25, .getfield 25, 3), (28, .iload_n 2, 1), (29, .iaload, 1), (30, .ireturn, 1)]
theorem D36 : decs prog_1_method_37_code c36 = true := by decide +kernel
theorem d36 (k : Nat) {p : Nat} {i : Instr} {n : Nat} (h : c36[k]? = some (p, i, n)) : decode prog_1_method_37_code p = .ok (i, n) := dget D36 h
def c37 : List (Nat × Instr × Nat) := [(0, .aload_n 0, 1), (1, .getfield 25, 3), (4, .iload_n 1, 1), (5, .iaload, 1), (6, .iload_n 2, 1), (7, .if_icmp .ne 16, 3), (10, .aload_n 0, 1), (11, .getfield 28, 3), (14, .iload_n 1, 1), (15, .iconst 4, 1), (16, .imul, 1), (17, .iload_n 3, 1), (18, .iadd, 1), (19, .iaload, 1), (20, .goto 4, 3), (23, .iload_n 1, 1), (24, .ireturn, 1)]
theorem D37 : decs prog_1_method_38_code c37 = true := by decide +kernel
theorem d37 (k : Nat) {p : Nat} {i : Instr} {n : Nat} (h : c37[k]? = some (p, i, n)) : decode prog_1_method_38_code p = .ok (i, n) := dget D37 h
def c35 : List (Nat × Instr × Nat) := [(0, .aload_n 0, 1), (1, .iload_n 1, 1), (2, .iload_n 2, 1), (3, .invokevirtual 193, 3), (6, .istore_n 3, 1), (7, .iconst 0, 1), (8, .istore 4, 2), (10, .iload 4, 2), (12, .aload_n 0, 1), (13, .getfield 75, 3), (16, .if_icmp .ge 48, 3), (19, .aload_n 0, 1), (20, .iload_n 1, 1), (21, .iload_n 3, 1), (22, .iload 4, 2), (24, .invokevirtual 196, 3), (27, .istore 5, 2), (29, .aload_n 0, 1), (30, .iload_n 2, 1), (31, .iload_n 3, 1), (32, .iload 4, 2), (34, .invokevirtual 196, 3), (37, .istore 6, 2), (39, .aload_n 0, 1), (40, .iload 5, 2), (42, .iload 6, 2), (44, .invokevirtual 184, 3), (47, .ifCond .ge 11, 3), (50, .aload_n 0, 1), (51, .iload 5, 2), (53, .iload 6, 2), (55, .invokevirtual 176, 3), (58, .iinc 4 1, 3), (61, .goto (-51), 3), (64, .return_, 1)]
theorem D35 : decs prog_1_method_39_code c35 = true := by decide +kernel
theorem d35 (k : Nat) {p : Nat} {i : Instr} {n : Nat} (h : c35[k]? = some (p, i, n)) : decode prog_1_method_39_code p = .ok (i, n) := dget D35 h
def c39 : List (Nat × Instr × Nat) := [(0, .iload 4, 2), (2, .aload_n 0, 1), (3, .getfield 75, 3), (6, .if_icmp .lt 5, 3), (9, .iconst 0, 1), (10, .ireturn, 1), (11, .aload_n 0, 1), (12, .iload_n 1, 1), (13, .iload_n 3, 1), (14, .iload 4, 2), (16, .invokevirtual 196, 3), (19, .istore 5, 2), (21, .aload_n 0, 1), (22, .iload_n 2, 1), (23, .iload_n 3, 1), (24, .iload 4, 2), (26, .invokevirtual 196, 3), (29, .istore 6, 2), (31, .aload_n 0, 1), (32, .iload 5, 2), (34, .iload 6, 2), (36, .invokevirtual 184, 3), (39, .istore 7, 2), (41, .iload 7, 2), (43, .ifCond .ge 7, 3), (46, .iconst 0, 1), (47, .goto 5, 3), (50, .iload 7, 2), (52, .ireturn, 1)]
theorem D39 : decs prog_1_method_40_code c39 = true := by decide +kernel
theorem d39 (k : Nat) {p : Nat} {i : Instr} {n : Nat} (h : c39[k]? = some (p, i, n)) : decode prog_1_method_40_code p = .ok (i, n) := dget D39 h
def c40 : List (Nat × Instr × Nat) := [(0, .iload_n 1, 1), (1, .iload_n 2, 1), (2, .if_icmp .ge 7, 3), (5, .iload_n 1, 1), (6, .goto 4, 3), (9, .iload_n 2, 1), (10, .istore 4, 2), (12, .iload_n 1, 1), (13, .iload_n 2, 1), (14, .if_icmp .ge 7, 3), (17, .iload_n 2, 1), (18, .goto 4, 3), (21, .iload_n 1, 1), (22, .istore 5, 2), (24, .aload_n 0, 1), (25, .iload 4, 2), (27, .iload 5, 2), (29, .invokevirtual 211, 3), (32, .istore 6, 2), (34, .iconst 0, 1), (35, .istore 7, 2), (37, .iload 7, 2), (39, .sipush 1024, 3), (42, .if_icmp .ge 64, 3), (45, .aload_n 0, 1), (46, .getfield 59, 3), (49, .iload 6, 2), (51, .baload, 1), (52, .ifCond .ne 38, 3), (55, .aload_n 0, 1), (56, .getfield 59, 3), (59, .iload 6, 2), (61, .iconst 1, 1), (62, .bastore, 1), (63, .aload_n 0, 1), (64, .getfield 50, 3), (67, .iload 6, 2), (69, .iload 4, 2), (71, .iastore, 1), (72, .aload_n 0, 1), (73, .getfield 53, 3), (76, .iload 6, 2), (78, .iload 5, 2), (80, .iastore, 1), (81, .aload_n 0, 1), (82, .getfield 56, 3), (85, .iload 6, 2), (87, .iload_n 3, 1), (88, .iastore, 1), (89, .return_, 1), (90, .iload 6, 2), (92, .iconst 1, 1), (93, .iadd, 1), (94, .sipush 1023, 3), (97, .iand, 1), (98, .istore 6, 2), (100, .iinc 7 1, 3), (103, .goto (-66), 3), (106, .return_, 1)]
theorem D40 : decs prog_1_method_45_code c40 = true := by decide +kernel
theorem d40 (k : Nat) {p : Nat} {i : Instr} {n : Nat} (h : c40[k]? = some (p, i, n)) : decode prog_1_method_45_code p = .ok (i, n) := dget D40 h
def c38 : List (Nat × Instr × Nat) := [(0, .aload_n 0, 1), (1, .iload_n 1, 1), (2, .iload_n 2, 1), (3, .invokevirtual 193, 3), (6, .istore_n 3, 1), (7, .aload_n 0, 1), (8, .iload_n 1, 1), (9, .iload_n 2, 1), (10, .iload_n 3, 1), (11, .iconst 0, 1), (12, .invokevirtual 200, 3), (15, .istore 4, 2), (17, .aload_n 0, 1), (18, .iload_n 1, 1), (19, .iload_n 2, 1), (20, .iload_n 3, 1), (21, .iconst 1, 1), (22, .invokevirtual 200, 3), (25, .istore 5, 2), (27, .aload_n 0, 1), (28, .iload_n 1, 1), (29, .iload_n 2, 1), (30, .iload_n 3, 1), (31, .iconst 2, 1), (32, .invokevirtual 200, 3), (35, .istore 6, 2), (37, .aload_n 0, 1), (38, .iload_n 1, 1), (39, .iload_n 2, 1), (40, .iload_n 3, 1), (41, .iconst 3, 1), (42, .invokevirtual 200, 3), (45, .istore 7, 2), (47, .aload_n 0, 1), (48, .iload_n 3, 1), (49, .iload 4, 2), (51, .iload 5, 2), (53, .iload 6, 2), (55, .iload 7, 2), (57, .invokevirtual 170, 3), (60, .istore 8, 2), (62, .aload_n 0, 1), (63, .iload_n 1, 1), (64, .iload_n 2, 1), (65, .iload 8, 2), (67, .invokevirtual 204, 3), (70, .return_, 1)]
theorem D38 : decs prog_1_method_41_code c38 = true := by decide +kernel
theorem d38 (k : Nat) {p : Nat} {i : Instr} {n : Nat} (h : c38[k]? = some (p, i, n)) : decode prog_1_method_41_code p = .ok (i, n) := dget D38 h
def c20 : List (Nat × Instr × Nat) := [(0, .aload_n 0, 1), (1, .getfield 173, 3), (4, .iconst 1, 1), (5, .isub, 1), (6, .istore_n 1, 1), (7, .aload_n 0, 1), (8, .getfield 62, 3), (11, .iload_n 1, 1), (12, .iaload, 1), (13, .istore_n 2, 1), (14, .aload_n 0, 1), (15, .getfield 65, 3), (18, .iload_n 1, 1), (19, .iaload, 1), (20, .istore_n 3, 1), (21, .aload_n 0, 1), (22, .getfield 68, 3), (25, .iload_n 1, 1), (26, .iaload, 1), (27, .ifCond .ne 39, 3), (30, .aload_n 0, 1), (31, .iload_n 2, 1), (32, .iload_n 3, 1), (33, .invokevirtual 184, 3), (36, .ifCond .lt 14, 3), (39, .aload_n 0, 1), (40, .dup, 1), (41, .getfield 173, 3), (44, .iconst 1, 1), (45, .isub, 1), (46, .putfield 173, 3), (49, .return_, 1), (50, .aload_n 0, 1), (51, .getfield 68, 3), (54, .iload_n 1, 1), (55, .iconst 1, 1), (56, .iastore, 1), (57, .aload_n 0, 1), (58, .iload_n 2, 1), (59, .iload_n 3, 1), (60, .invokevirtual 187, 3), (63, .goto 19, 3), (66, .aload_n 0, 1), (67, .dup, 1), (68, .getfield 173, 3), (71, .iconst 1, 1), (72, .isub, 1), (73, .putfield 173, 3), (76, .aload_n 0, 1), (77, .iload_n 2, 1), (78, .iload_n 3, 1), (79, .invokevirtual 190, 3), (82, .return_, 1)]
theorem D20 : decs prog_1_method_36_code c20 = true := by decide +kernel
theorem d20 (k : Nat) {p : Nat} {i : Instr} {n : Nat} (h : c20[k]? = some (p, i, n)) : decode prog_1_method_36_code p = .ok (i, n) := dget D20 h
def c18 : List (Nat × Instr × Nat) := [(0, .iconst 0, 1), (1, .istore_n 3, 1), (2, .iload_n 3, 1), (3, .sipush 1024, 3), (6, .if_icmp .ge 16, 3), (9, .aload_n 0, 1), (10, .getfield 59, 3), (13, .iload_n 3, 1), (14, .iconst 0, 1), (15, .bastore, 1), (16, .iinc 3 1, 3), (19, .goto (-17), 3), (22, .aload_n 0, 1), (23, .iconst 0, 1), (24, .putfield 173, 3), (27, .aload_n 0, 1), (28, .iload_n 1, 1), (29, .iload_n 2, 1), (30, .invokevirtual 176, 3), (33, .iconst 0, 1), (34, .istore_n 3, 1), (35, .iload_n 3, 1), (36, .ldc 180, 2), (38, .if_icmp .ge 20, 3), (41, .aload_n 0, 1), (42, .getfield 173, 3), (45, .ifCond .le 13, 3), (48, .aload_n 0, 1), (49, .invokevirtual 181, 3), (52, .iinc 3 1, 3), (55, .goto (-20), 3), (58, .aload_n 0, 1), (59, .iload_n 1, 1), (60, .iload_n 2, 1), (61, .invokevirtual 184, 3), (64, .istore_n 3, 1), (65, .iload_n 3, 1), (66, .ifCond .ge 7, 3), (69, .iconst 0, 1), (70, .goto 4, 3), (73, .iload_n 3, 1), (74, .ireturn, 1)]
theorem D18 : decs prog_1_method_34_code c18 = true := by decide +kernel
theorem d18 (k : Nat) {p : Nat} {i : Instr} {n : Nat} (h : c18[k]? = some (p, i, n)) : decode prog_1_method_34_code p = .ok (i, n) := dget D18 h
def c8 : List (Nat × Instr × Nat) := [(0, .aload_n 0, 1), (1, .getfield 87, 3), (4, .ifCond .ne 6, 3), (7, .bipush (-4), 2), (9, .ireturn, 1), (10, .aload_n 0, 1), (11, .getfield 84, 3), (14, .bipush 8, 2), (16, .if_icmp .ge 47, 3), (19, .aload_n 0, 1), (20, .invokevirtual 113, 3), (23, .aload_n 0, 1), (24, .invokevirtual 116, 3), (27, .istore_n 1, 1), (28, .aload_n 0, 1), (29, .aload_n 0, 1), (30, .getfield 7, 3), (33, .aload_n 0, 1), (34, .getfield 84, 3), (37, .iaload, 1), (38, .iload_n 1, 1), (39, .invokevirtual 120, 3), (42, .istore_n 2, 1), (43, .aload_n 0, 1), (44, .dup, 1), (45, .getfield 84, 3), (48, .iconst 1, 1), (49, .iadd, 1), (50, .putfield 84, 3), (53, .aload_n 0, 1), (54, .getfield 7, 3), (57, .aload_n 0, 1), (58, .getfield 84, 3), (61, .iload_n 2, 1), (62, .iastore, 1), (63, .aload_n 0, 1), (64, .iconst 0, 1), (65, .putfield 87, 3), (68, .aload_n 0, 1), (69, .iconst 0, 1), (70, .putfield 107, 3), (73, .iconst 0, 1), (74, .ireturn, 1)]
theorem D8 : decs prog_1_method_6_code c8 = true := by decide +kernel
theorem d8 (k : Nat) {p : Nat} {i : Instr} {n : Nat} (h : c8[k]? = some (p, i, n)) : decode prog_1_method_6_code p = .ok (i, n) := dget D8 h
def c23 : List (Nat × Instr × Nat) := [(0, .iconst 0, 1), (1, .istore_n 1, 1), (2, .iload_n 1, 1), (3, .iconst 5, 1), (4, .if_icmp .ge 21, 3), (7, .aload_n 0, 1), (8, .getfield 19, 3), (11, .iload_n 1, 1), (12, .aload_n 0, 1), (13, .getfield 16, 3), (16, .iload_n 1, 1), (17, .iaload, 1), (18, .iastore, 1), (19, .iinc 1 1, 3), (22, .goto (-20), 3), (25, .return_, 1)]
theorem D23 : decs prog_1_method_46_code c23 = true := by decide +kernel
theorem d23 (k : Nat) {p : Nat} {i : Instr} {n : Nat} (h : c23[k]? = some (p, i, n)) : decode prog_1_method_46_code p = .ok (i, n) := dget D23 h
def c25 : List (Nat × Instr × Nat) := [(0, .iconst 1, 1), (1, .istore_n 3, 1), (2, .iload_n 1, 1), (3, .istore 4, 2), (5, .iload 4, 2), (7, .iload_n 2, 1), (8, .if_icmp .ge 32, 3), (11, .iload 4, 2), (13, .iconst 5, 1), (14, .if_icmp .ge 26, 3), (17, .aload_n 0, 1), (18, .getfield 19, 3), (21, .iload 4, 2), (23, .iaload, 1), (24, .ifCond .ge 10, 3), (27, .iload_n 3, 1), (28, .aload_n 0, 1), (29, .getfield 75, 3), (32, .imul, 1), (33, .istore_n 3, 1), (34, .iinc 4 1, 3), (37, .goto (-32), 3), (40, .iload_n 3, 1), (41, .ireturn, 1)]
theorem D25 : decs prog_1_method_47_code c25 = true := by decide +kernel
theorem d25 (k : Nat) {p : Nat} {i : Instr} {n : Nat} (h : c25[k]? = some (p, i, n)) : decode prog_1_method_47_code p = .ok (i, n) := dget D25 h
def c31 : List (Nat × Instr × Nat) := [(0, .aload_n 0, 1), (1, .getfield 25, 3), (4, .iload_n 1, 1), (5, .iaload, 1), (6, .istore_n 2, 1), (7, .iload_n 2, 1), (8, .ifCond .lt 8, 3), (11, .iload_n 2, 1), (12, .iconst 5, 1), (13, .if_icmp .lt 5, 3), (16, .iconst 0, 1), (17, .ireturn, 1), (18, .iconst 0, 1), (19, .istore_n 3, 1), (20, .iconst 0, 1), (21, .istore 4, 2), (23, .iload 4, 2), (25, .aload_n 0, 1), (26, .getfield 75, 3), (29, .if_icmp .ge 88, 3), (32, .aload_n 0, 1), (33, .getfield 19, 3), (36, .iload_n 2, 1), (37, .iaload, 1), (38, .ifCond .lt 17, 3), (41, .aload_n 0, 1), (42, .getfield 19, 3), (45, .iload_n 2, 1), (46, .iaload, 1), (47, .iload 4, 2), (49, .if_icmp .eq 6, 3), (52, .goto 59, 3), (55, .aload_n 0, 1), (56, .getfield 28, 3), (59, .iload_n 1, 1), (60, .iconst 4, 1), (61, .imul, 1), (62, .iload 4, 2), (64, .iadd, 1), (65, .iaload, 1), (66, .istore 5, 2), (68, .iload 5, 2), (70, .ifCond .lt 41, 3), (73, .iload 5, 2), (75, .iload_n 1, 1), (76, .if_icmp .lt 6, 3), (79, .goto 32, 3), (82, .aload_n 0, 1), (83, .iload_n 2, 1), (84, .iconst 1, 1), (85, .iadd, 1), (86, .aload_n 0, 1), (87, .getfield 25, 3), (90, .iload 5, 2), (92, .iaload, 1), (93, .invokevirtual 217, 3), (96, .istore 6, 2), (98, .iload_n 3, 1), (99, .aload_n 0, 1), (100, .getfield 41, 3), (103, .iload 5, 2), (105, .iaload, 1), (106, .iload 6, 2), (108, .imul, 1), (109, .iadd, 1), (110, .istore_n 3, 1), (111, .iinc 4 1, 3), (114, .goto (-91), 3), (117, .iload_n 3, 1), (118, .ireturn, 1)]
theorem D31 : decs prog_1_method_49_code c31 = true := by decide +kernel
theorem d31 (k : Nat) {p : Nat} {i : Instr} {n : Nat} (h : c31[k]? = some (p, i, n)) : decode prog_1_method_49_code p = .ok (i, n) := dget D31 h
def c24 : List (Nat × Instr × Nat) := [(0, .aload_n 0, 1), (1, .getfield 7, 3), (4, .aload_n 0, 1), (5, .getfield 84, 3), (8, .iaload, 1), (9, .istore_n 1, 1), (10, .aload_n 0, 1), (11, .getfield 41, 3), (14, .iconst 0, 1), (15, .iconst 0, 1), (16, .iastore, 1), (17, .aload_n 0, 1), (18, .getfield 41, 3), (21, .iconst 1, 1), (22, .iconst 1, 1), (23, .iastore, 1), (24, .iconst 2, 1), (25, .istore_n 2, 1), (26, .iload_n 2, 1), (27, .iload_n 1, 1), (28, .if_icmp .gt 27, 3), (31, .iload_n 2, 1), (32, .sipush 2048, 3), (35, .if_icmp .ge 20, 3), (38, .aload_n 0, 1), (39, .getfield 41, 3), (42, .iload_n 2, 1), (43, .aload_n 0, 1), (44, .iload_n 2, 1), (45, .invokevirtual 214, 3), (48, .iastore, 1), (49, .iinc 2 1, 3), (52, .goto (-26), 3), (55, .aload_n 0, 1), (56, .iconst 0, 1), (57, .aload_n 0, 1), (58, .getfield 25, 3), (61, .iload_n 1, 1), (62, .iaload, 1), (63, .invokevirtual 217, 3), (66, .istore_n 2, 1), (67, .aload_n 0, 1), (68, .getfield 41, 3), (71, .iload_n 1, 1), (72, .iaload, 1), (73, .iload_n 2, 1), (74, .imul, 1), (75, .ireturn, 1)]
theorem D24 : decs prog_1_method_48_code c24 = true := by decide +kernel
theorem d24 (k : Nat) {p : Nat} {i : Instr} {n : Nat} (h : c24[k]? = some (p, i, n)) : decode prog_1_method_48_code p = .ok (i, n) := dget D24 h
def c22 : List (Nat × Instr × Nat) := [(0, .aload_n 0, 1), (1, .invokevirtual 127, 3), (4, .aload_n 0, 1), (5, .invokevirtual 130, 3), (8, .ireturn, 1)]
theorem D22 : decs prog_1_method_14_code c22 = true := by decide +kernel
theorem d22 (k : Nat) {p : Nat} {i : Instr} {n : Nat} (h : c22[k]? = some (p, i, n)) : decode prog_1_method_14_code p = .ok (i, n) := dget D22 h
def c27 : List (Nat × Instr × Nat) := [(0, .aload_n 0, 1), (1, .iload_n 1, 1), (2, .invokevirtual 91, 3), (5, .ifCond .ne 5, 3), (8, .iconst (-1), 1), (9, .ireturn, 1), (10, .aload_n 0, 1), (11, .iload_n 2, 1), (12, .invokevirtual 110, 3), (15, .ifCond .ne 6, 3), (18, .bipush (-2), 2), (20, .ireturn, 1), (21, .aload_n 0, 1), (22, .invokevirtual 127, 3), (25, .aload_n 0, 1), (26, .getfield 19, 3), (29, .iload_n 1, 1), (30, .iload_n 2, 1), (31, .iastore, 1), (32, .aload_n 0, 1), (33, .invokevirtual 130, 3), (36, .ireturn, 1)]
theorem D27 : decs prog_1_method_15_code c27 = true := by decide +kernel
theorem d27 (k : Nat) {p : Nat} {i : Instr} {n : Nat} (h : c27[k]? = some (p, i, n)) : decode prog_1_method_15_code p = .ok (i, n) := dget D27 h
def c26 : List (Nat × Instr × Nat) := [(0, .aload_n 0, 1), (1, .iload_n 1, 1), (2, .invokevirtual 91, 3), (5, .ifCond .ne 5, 3), (8, .iconst (-1), 1), (9, .ireturn, 1), (10, .iconst 0, 1), (11, .istore_n 2, 1), (12, .iconst 0, 1), (13, .istore_n 3, 1), (14, .iload_n 3, 1), (15, .aload_n 0, 1), (16, .getfield 75, 3), (19, .if_icmp .ge 24, 3), (22, .aload_n 0, 1), (23, .iload_n 1, 1), (24, .iload_n 3, 1), (25, .invokevirtual 124, 3), (28, .ifCond .le 9, 3), (31, .iload_n 2, 1), (32, .iconst 1, 1), (33, .iload_n 3, 1), (34, .ishl, 1), (35, .ior, 1), (36, .istore_n 2, 1), (37, .iinc 3 1, 3), (40, .goto (-26), 3), (43, .iload_n 2, 1), (44, .ireturn, 1)]
theorem D26 : decs prog_1_method_13_code c26 = true := by decide +kernel
theorem d26 (k : Nat) {p : Nat} {i : Instr} {n : Nat} (h : c26[k]? = some (p, i, n)) : decode prog_1_method_13_code p = .ok (i, n) := dget D26 h
def c28 : List (Nat × Instr × Nat) := [(0, .aload_n 0, 1), (1, .getfield 84, 3), (4, .ireturn, 1)]
theorem D28 : decs prog_1_method_16_code c28 = true := by decide +kernel
theorem d28 (k : Nat) {p : Nat} {i : Instr} {n : Nat} (h : c28[k]? = some (p, i, n)) : decode prog_1_method_16_code p = .ok (i, n) := dget D28 h
def c29 : List (Nat × Instr × Nat) := [(0, .aload_n 0, 1), (1, .iload_n 1, 1), (2, .invokevirtual 91, 3), (5, .ifCond .ne 5, 3), (8, .iconst (-1), 1), (9, .ireturn, 1), (10, .aload_n 0, 1), (11, .iload_n 2, 1), (12, .invokevirtual 110, 3), (15, .ifCond .ne 6, 3), (18, .bipush (-2), 2), (20, .ireturn, 1), (21, .aload_n 0, 1), (22, .getfield 16, 3), (25, .iload_n 1, 1), (26, .iaload, 1), (27, .ifCond .lt 6, 3), (30, .bipush (-8), 2), (32, .ireturn, 1), (33, .aload_n 0, 1), (34, .iload_n 1, 1), (35, .iload_n 2, 1), (36, .invokevirtual 124, 3), (39, .ifCond .ne 6, 3), (42, .bipush (-7), 2), (44, .ireturn, 1), (45, .aload_n 0, 1), (46, .getfield 16, 3), (49, .iload_n 1, 1), (50, .iload_n 2, 1), (51, .iastore, 1), (52, .iconst 0, 1), (53, .ireturn, 1)]
theorem D29 : decs prog_1_method_9_code c29 = true := by decide +kernel
theorem d29 (k : Nat) {p : Nat} {i : Instr} {n : Nat} (h : c29[k]? = some (p, i, n)) : decode prog_1_method_9_code p = .ok (i, n) := dget D29 h
def c30 : List (Nat × Instr × Nat) := [(0, .aload_n 0, 1), (1, .getfield 84, 3), (4, .ifCond .gt 6, 3), (7, .bipush (-10), 2), (9, .ireturn, 1), (10, .aload_n 0, 1), (11, .dup, 1), (12, .getfield 84, 3), (15, .iconst 1, 1), (16, .isub, 1), (17, .putfield 84, 3), (20, .iconst 0, 1), (21, .ireturn, 1)]
theorem D30 : decs prog_1_method_8_code c30 = true := by decide +kernel
theorem d30 (k : Nat) {p : Nat} {i : Instr} {n : Nat} (h : c30[k]? = some (p, i, n)) : decode prog_1_method_8_code p = .ok (i, n) := dget D30 h
def H0 : MHeap := []
def KL (s : St) : MHeap := KH flds al Ln H0 [] s
def f_clearUnique_2 (n : Nat) : Nat → Int32 → St → Option (St)
  | 0 => fun _ _ => none
  | k + 1 => fun x1 s =>
    if x1 < (4096 : Int32) then
      grd (inb x1 4096) <|
      bnd (setA s 7 (ix x1) (0 : Int32)) fun s3 =>
      f_clearUnique_2 n k (x1 + (1 : Int32)) s3
    else
      some s
set_option maxRecDepth 100000 in
theorem e_clearUnique_2 {g : GT} {n : Nat} (hw : HW g) {K : St → MHeap} {o : Nat} {r : Nat → Nat} (V : View (GG g) Ln K o r) (k : Nat) : ∀ (x1 : Int32) (s : St) (w : St), f_clearUnique_2 n k x1 s = some w → Ev (GG g) M_clearUnique 2 [.val (.ref o), .val (.int x1)] [] (K s) (none, (K w)) := by
  induction k with
  | zero => intro x1 s w hr; rw [f_clearUnique_2] at hr; cases hr
  | succ k ih =>
    intro x1 s w hr
    rw [f_clearUnique_2] at hr
    refine Ev.iloadN (d2 2 rfl) rfl ?_
    refine Ev.sipush (z := 4096) (d2 3 rfl) rfl ?_
    refine Ev.icge (t := 22) (d2 4 rfl) rfl (fun c1 => ?_) (fun c1 => ?_)
    · replace hr := (if_pos c1).symm.trans hr
      refine Ev.aloadN (d2 5 rfl) rfl ?_
      refine Ev.gAr V (ww hw 24 rfl) (d2 6 rfl) (j := 7) rfl ?_
      refine Ev.iloadN (d2 7 rfl) rfl ?_
      refine Ev.iconst (z := 0) (d2 8 rfl) rfl ?_
      obtain ⟨b2, hr⟩ := grd_some hr
      refine Ev.ias V (j := 7) rfl rfl (d2 9 rfl) b2 ?_
      revert hr
      generalize setA s 7 (ix x1) (0 : Int32) = s3
      intro hr
      replace hr := (bnd_eq _ _).symm.trans hr
      refine Ev.iinc (z := 1) (L' := [.val (.ref o), .val (.int (x1 + (1 : Int32)))]) (d2 10 rfl) rfl rfl rfl ?_
      refine Ev.goto (t := 2) (d2 11 rfl) rfl ?_
      exact ih (x1 + (1 : Int32)) s3  _ hr
    · replace hr := (if_neg c1).symm.trans hr
      cases hr
      exact Ev.vreturn rfl (d2 12 rfl)
def f_clearUnique (n : Nat) (s : St) : Option (St) :=
  f_clearUnique_2 n n (0 : Int32) s
set_option maxRecDepth 100000 in
theorem e_clearUnique {g : GT} {n : Nat} {s : St} {w : St} (hw : HW g) {K : St → MHeap} {o : Nat} {r : Nat → Nat} (V : View (GG g) Ln K o r) (hr : f_clearUnique n s = some w) : EvC (GG g) M_clearUnique [.ref o] (K s) (none, (K w)) := by
  refine EvC.enter (L0 := [.val (.ref o), .unset]) pl_clearUnique (fun _ => rfl) rfl rfl ?_
  unfold f_clearUnique at hr
  refine Ev.iconst (z := 0) (d2 0 rfl) rfl ?_
  refine Ev.istDN (L' := [.val (.ref o), .val (.int (0 : Int32))]) (d2 1 rfl) rfl rfl rfl ?_
  exact e_clearUnique_2 hw V  n (0 : Int32) s  _ hr
def f_ctor_266 (n : Nat) : Nat → Int32 → St → Option (St)
  | 0 => fun _ _ => none
  | k + 1 => fun x3 s =>
    if x3 < (5 : Int32) then
      grd (inb x3 5) <|
      bnd (setA s 2 (ix x3) (-1 : Int32)) fun s3 =>
      f_ctor_266 n k (x3 + (1 : Int32)) s3
    else
      some s
set_option maxRecDepth 100000 in
theorem e_ctor_266 {g : GT} {n : Nat} (hw : HW g) {K : St → MHeap} {o : Nat} {r : Nat → Nat} (V : View (GG g) Ln K o r) (k : Nat) : ∀ (x3 : Int32) (s : St) (y1 : Slot) (hy1 : one1 y1 = true) (y2 : Slot) (hy2 : one1 y2 = true) (w : St), f_ctor_266 n k x3 s = some w → Ev (GG g) M_ctor 266 [.val (.ref o), y1, y2, .val (.int x3)] [] (K s) (none, (K w)) := by
  induction k with
  | zero => intro x3 s y1 hy1 y2 hy2 w hr; rw [f_ctor_266] at hr; cases hr
  | succ k ih =>
    intro x3 s y1 hy1 y2 hy2 w hr
    rw [f_ctor_266] at hr
    refine Ev.iloadN (d0 138 rfl) rfl ?_
    refine Ev.iconst (z := 5) (d0 139 rfl) rfl ?_
    refine Ev.icge (t := 284) (d0 140 rfl) rfl (fun c1 => ?_) (fun c1 => ?_)
    · replace hr := (if_pos c1).symm.trans hr
      refine Ev.aloadN (d0 141 rfl) rfl ?_
      refine Ev.gAr V (ww hw 14 rfl) (d0 142 rfl) (j := 2) rfl ?_
      refine Ev.iloadN (d0 143 rfl) rfl ?_
      refine Ev.iconst (z := -1) (d0 144 rfl) rfl ?_
      obtain ⟨b2, hr⟩ := grd_some hr
      refine Ev.ias V (j := 2) rfl rfl (d0 145 rfl) b2 ?_
      revert hr
      generalize setA s 2 (ix x3) (-1 : Int32) = s3
      intro hr
      replace hr := (bnd_eq _ _).symm.trans hr
      refine Ev.iinc (z := 1) (L' := [.val (.ref o), y1, y2, .val (.int (x3 + (1 : Int32)))]) (d0 146 rfl) rfl rfl rfl ?_
      refine Ev.goto (t := 266) (d0 147 rfl) rfl ?_
      exact ih (x3 + (1 : Int32)) s3 y1 hy1 y2 hy2 _ hr
    · replace hr := (if_neg c1).symm.trans hr
      cases hr
      exact Ev.vreturn rfl (d0 148 rfl)
def f_ctor_215 (n : Nat) (z0 : Int32) (s : St) : Option (St) :=
  bnd (setI s 21 z0) fun s1 =>
  bnd (setA s1 5 (ix (0 : Int32)) (s1.1 20)) fun s2 =>
  bnd (setA s2 5 (ix (1 : Int32)) (s2.1 20)) fun s3 =>
  bnd (setI s3 22 (2 : Int32)) fun s4 =>
  (f_clearUnique n s4).bind fun q5 =>
  bnd (setI q5 23 (0 : Int32)) fun s7 =>
  bnd (setA s7 0 (ix (0 : Int32)) (1 : Int32)) fun s8 =>
  bnd (setI s8 24 ((0 : Int32) &&& 1)) fun s9 =>
  f_ctor_266 n n (0 : Int32) s9
set_option maxRecDepth 100000 in
theorem e_ctor_215 {g : GT} {n : Nat} (hw : HW g) {K : St → MHeap} {o : Nat} {r : Nat → Nat} (V : View (GG g) Ln K o r) (z0 : Int32) (s : St) (y1 : Slot) (hy1 : one1 y1 = true) (y2 : Slot) (hy2 : one1 y2 = true) (y3 : Slot) (hy3 : one1 y3 = true) (w : St) (hr : f_ctor_215 n z0 s = some w) : Ev (GG g) M_ctor 215 [.val (.ref o), y1, y2, y3] [.int z0, .ref o] (K s) (none, (K w)) := by
  unfold f_ctor_215 at hr
  refine Ev.pI V (gok hw) (ww hw 53 rfl) (Or.inl (ww hw 54 rfl)) (d0 107 rfl) (j := 21) rfl ?_
  revert hr
  generalize setI s 21 z0 = s1
  intro hr
  replace hr := (bnd_eq _ _).symm.trans hr
  refine Ev.aloadN (d0 108 rfl) rfl ?_
  refine Ev.gAr V (ww hw 20 rfl) (d0 109 rfl) (j := 5) rfl ?_
  refine Ev.iconst (z := 0) (d0 110 rfl) rfl ?_
  refine Ev.aloadN (d0 111 rfl) rfl ?_
  refine Ev.gI V (ww hw 51 rfl) (d0 112 rfl) (j := 20) rfl rfl ?_
  refine Ev.ias V (j := 5) rfl rfl (d0 113 rfl) ⟨by decide, by decide⟩ ?_
  revert hr
  generalize setA s1 5 (ix (0 : Int32)) (s1.1 20) = s2
  intro hr
  replace hr := (bnd_eq _ _).symm.trans hr
  refine Ev.aloadN (d0 114 rfl) rfl ?_
  refine Ev.gAr V (ww hw 20 rfl) (d0 115 rfl) (j := 5) rfl ?_
  refine Ev.iconst (z := 1) (d0 116 rfl) rfl ?_
  refine Ev.aloadN (d0 117 rfl) rfl ?_
  refine Ev.gI V (ww hw 51 rfl) (d0 118 rfl) (j := 20) rfl rfl ?_
  refine Ev.ias V (j := 5) rfl rfl (d0 119 rfl) ⟨by decide, by decide⟩ ?_
  revert hr
  generalize setA s2 5 (ix (1 : Int32)) (s2.1 20) = s3
  intro hr
  replace hr := (bnd_eq _ _).symm.trans hr
  refine Ev.aloadN (d0 120 rfl) rfl ?_
  refine Ev.iconst (z := 2) (d0 121 rfl) rfl ?_
  refine Ev.pI V (gok hw) (ww hw 55 rfl) (Or.inl (ww hw 56 rfl)) (d0 122 rfl) (j := 22) rfl ?_
  revert hr
  generalize setI s3 22 (2 : Int32) = s4
  intro hr
  replace hr := (bnd_eq _ _).symm.trans hr
  refine Ev.aloadN (d0 123 rfl) rfl ?_
  obtain ⟨q5, hq6, hr⟩ := Option.bind_eq_some_iff.mp hr
  refine Ev.priv (y := M_clearUnique) (args := []) (rest := []) (gok hw) rfl nm_clearUnique (ww hw 57 rfl) (ww hw 58 rfl) (ww hw 59 rfl) (ww hw 60 rfl) (lenOf pd_clearUnique rfl) (d0 124 rfl) (V.2.1 s4) (e_clearUnique hw V hq6) (by decide) (Nat.le_of_ble_eq_true rfl) rfl ?_
  refine Ev.aloadN (d0 125 rfl) rfl ?_
  refine Ev.iconst (z := 0) (d0 126 rfl) rfl ?_
  refine Ev.pI V (gok hw) (ww hw 61 rfl) (Or.inl (ww hw 62 rfl)) (d0 127 rfl) (j := 23) rfl ?_
  revert hr
  generalize setI q5 23 (0 : Int32) = s7
  intro hr
  replace hr := (bnd_eq _ _).symm.trans hr
  refine Ev.aloadN (d0 128 rfl) rfl ?_
  refine Ev.gAr V (ww hw 10 rfl) (d0 129 rfl) (j := 0) rfl ?_
  refine Ev.iconst (z := 0) (d0 130 rfl) rfl ?_
  refine Ev.iconst (z := 1) (d0 131 rfl) rfl ?_
  refine Ev.ias V (j := 0) rfl rfl (d0 132 rfl) ⟨by decide, by decide⟩ ?_
  revert hr
  generalize setA s7 0 (ix (0 : Int32)) (1 : Int32) = s8
  intro hr
  replace hr := (bnd_eq _ _).symm.trans hr
  refine Ev.aloadN (d0 133 rfl) rfl ?_
  refine Ev.iconst (z := 0) (d0 134 rfl) rfl ?_
  refine Ev.pZ V (gok hw) (ww hw 63 rfl) (Or.inl (ww hw 64 rfl)) (d0 135 rfl) (j := 24) rfl ?_
  revert hr
  generalize setI s8 24 ((0 : Int32) &&& 1) = s9
  intro hr
  replace hr := (bnd_eq _ _).symm.trans hr
  refine Ev.iconst (z := 0) (d0 136 rfl) rfl ?_
  refine Ev.istDN (L' := [.val (.ref o), y1, y2, .val (.int (0 : Int32))]) (d0 137 rfl) rfl hy3 rfl ?_
  exact e_ctor_266 hw V  n (0 : Int32) s9 y1 hy1 y2 hy2 _ hr
def f_ctor_192 (n : Nat) (x2 : Int32) (z0 : Int32) (s : St) : Option (St) :=
  bnd (setI s 20 z0) fun s1 =>
  if x2 < (2 : Int32) then
    f_ctor_215 n (2 : Int32) s1
  else
    if (4 : Int32) < x2 then
      f_ctor_215 n (4 : Int32) s1
    else
      f_ctor_215 n x2 s1
set_option maxRecDepth 100000 in
theorem e_ctor_192 {g : GT} {n : Nat} (hw : HW g) {K : St → MHeap} {o : Nat} {r : Nat → Nat} (V : View (GG g) Ln K o r) (x2 : Int32) (z0 : Int32) (s : St) (y1 : Slot) (hy1 : one1 y1 = true) (y3 : Slot) (hy3 : one1 y3 = true) (w : St) (hr : f_ctor_192 n x2 z0 s = some w) : Ev (GG g) M_ctor 192 [.val (.ref o), y1, .val (.int x2), y3] [.int z0, .ref o] (K s) (none, (K w)) := by
  unfold f_ctor_192 at hr
  refine Ev.pI V (gok hw) (ww hw 51 rfl) (Or.inl (ww hw 52 rfl)) (d0 94 rfl) (j := 20) rfl ?_
  revert hr
  generalize setI s 20 z0 = s1
  intro hr
  replace hr := (bnd_eq _ _).symm.trans hr
  refine Ev.aloadN (d0 95 rfl) rfl ?_
  refine Ev.iloadN (d0 96 rfl) rfl ?_
  refine Ev.iconst (z := 2) (d0 97 rfl) rfl ?_
  refine Ev.icge (t := 205) (d0 98 rfl) rfl (fun c2 => ?_) (fun c2 => ?_)
  · replace hr := (if_pos c2).symm.trans hr
    refine Ev.iconst (z := 2) (d0 99 rfl) rfl ?_
    refine Ev.goto (t := 215) (d0 100 rfl) rfl ?_
    exact e_ctor_215 hw V  (2 : Int32) s1 y1 hy1 (.val (.int x2)) rfl y3 hy3 _ hr
  · replace hr := (if_neg c2).symm.trans hr
    refine Ev.iloadN (d0 101 rfl) rfl ?_
    refine Ev.iconst (z := 4) (d0 102 rfl) rfl ?_
    refine Ev.icle (t := 214) (d0 103 rfl) rfl (fun c3 => ?_) (fun c3 => ?_)
    · replace hr := (if_pos c3).symm.trans hr
      refine Ev.iconst (z := 4) (d0 104 rfl) rfl ?_
      refine Ev.goto (t := 215) (d0 105 rfl) rfl ?_
      exact e_ctor_215 hw V  (4 : Int32) s1 y1 hy1 (.val (.int x2)) rfl y3 hy3 _ hr
    · replace hr := (if_neg c3).symm.trans hr
      refine Ev.iloadN (d0 106 rfl) rfl ?_
      exact e_ctor_215 hw V  x2 s1 y1 hy1 (.val (.int x2)) rfl y3 hy3 _ hr
def f_ctor_172 (n : Nat) (x1 : Int32) (x2 : Int32) (s : St) : Option (St) :=
  if x1 < (1 : Int32) then
    f_ctor_192 n x2 (1 : Int32) s
  else
    if (5 : Int32) < x1 then
      f_ctor_192 n x2 (5 : Int32) s
    else
      f_ctor_192 n x2 x1 s
set_option maxRecDepth 100000 in
theorem e_ctor_172 {g : GT} {n : Nat} (hw : HW g) {K : St → MHeap} {o : Nat} {r : Nat → Nat} (V : View (GG g) Ln K o r) (x1 : Int32) (x2 : Int32) (s : St) (y3 : Slot) (hy3 : one1 y3 = true) (w : St) (hr : f_ctor_172 n x1 x2 s = some w) : Ev (GG g) M_ctor 172 [.val (.ref o), .val (.int x1), .val (.int x2), y3] [] (K s) (none, (K w)) := by
  unfold f_ctor_172 at hr
  refine Ev.aloadN (d0 82 rfl) rfl ?_
  refine Ev.iloadN (d0 83 rfl) rfl ?_
  refine Ev.iconst (z := 1) (d0 84 rfl) rfl ?_
  refine Ev.icge (t := 182) (d0 85 rfl) rfl (fun c1 => ?_) (fun c1 => ?_)
  · replace hr := (if_pos c1).symm.trans hr
    refine Ev.iconst (z := 1) (d0 86 rfl) rfl ?_
    refine Ev.goto (t := 192) (d0 87 rfl) rfl ?_
    exact e_ctor_192 hw V  x2 (1 : Int32) s (.val (.int x1)) rfl y3 hy3 _ hr
  · replace hr := (if_neg c1).symm.trans hr
    refine Ev.iloadN (d0 88 rfl) rfl ?_
    refine Ev.iconst (z := 5) (d0 89 rfl) rfl ?_
    refine Ev.icle (t := 191) (d0 90 rfl) rfl (fun c2 => ?_) (fun c2 => ?_)
    · replace hr := (if_pos c2).symm.trans hr
      refine Ev.iconst (z := 5) (d0 91 rfl) rfl ?_
      refine Ev.goto (t := 192) (d0 92 rfl) rfl ?_
      exact e_ctor_192 hw V  x2 (5 : Int32) s (.val (.int x1)) rfl y3 hy3 _ hr
    · replace hr := (if_neg c2).symm.trans hr
      refine Ev.iloadN (d0 93 rfl) rfl ?_
      exact e_ctor_192 hw V  x2 x1 s (.val (.int x1)) rfl y3 hy3 _ hr
def f_ctor (n : Nat) (a0 : Int32) (a1 : Int32) : Option (St) :=
  f_ctor_172 n a0 a1 zeroS
set_option maxRecDepth 100000 in
theorem e_ctor {g : GT} {n : Nat} {a0 : Int32} {a1 : Int32} {w : St} (hw : HW g) {pre : MHeap} (hk : k0 (GG g) ≤ pre.length) (hr : f_ctor n a0 a1 = some w) : EvC (GG g) M_ctor [.ref pre.length, .int a0, .int a1] (pre ++ [.inl dfl]) (none, KH flds al Ln pre [] w) := by
  refine EvC.enter (L0 := [.val (.ref pre.length), .val (.int a0), .val (.int a1), .unset]) pl_ctor (fun _ => rfl) rfl rfl ?_
  unfold f_ctor at hr
  refine Ev.aloadN (d0 0 rfl) rfl ?_
  refine Ev.initO (ww hw 6 rfl) (ww hw 7 rfl) (ww hw 8 rfl) (d0 1 rfl) (by decide) (Nat.le_of_ble_eq_true rfl) ?_
  show Ev (GG g) M_ctor 4 _ _ (cons pre dfl []) _
  refine Ev.aloadN (d0 2 rfl) rfl ?_
  refine Ev.bipush (z := 9) (d0 3 rfl) rfl ?_
  refine Ev.cnew (aty := .int) (b := false) (k := 9) (q := 0) (as' := [(false, tab 9 (fun _ => 0))]) (ww hw 9 rfl) rfl (d0 4 rfl) (by decide) rfl (by decide) rfl rfl ?_
  refine Ev.cput (v' := .ref (pre.length + 1 + 0)) (fs' := [.ref (pre.length + 1 + 0), .null, .null, .null, .null, .null, .null, .null, .null, .null, .null, .null, .null, .null, .null, .null, .null, .null, .null, .null, .int 0, .int 0, .int 0, .int 0, .int 0, .int 0, .int 0, .int 0, .int 0, .int 0, .int 0]) (gok hw) hk (ww hw 10 rfl) (Or.inl (ww hw 11 rfl)) (d0 5 rfl) (j := 0) rfl rfl rfl ?_
  refine Ev.aloadN (d0 6 rfl) rfl ?_
  refine Ev.bipush (z := 16) (d0 7 rfl) rfl ?_
  refine Ev.cnew (aty := .int) (b := false) (k := 16) (q := 1) (as' := [(false, tab 9 (fun _ => 0)), (false, tab 16 (fun _ => 0))]) (ww hw 9 rfl) rfl (d0 8 rfl) (by decide) rfl (by decide) rfl rfl ?_
  refine Ev.cput (v' := .ref (pre.length + 1 + 1)) (fs' := [.ref (pre.length + 1 + 0), .ref (pre.length + 1 + 1), .null, .null, .null, .null, .null, .null, .null, .null, .null, .null, .null, .null, .null, .null, .null, .null, .null, .null, .int 0, .int 0, .int 0, .int 0, .int 0, .int 0, .int 0, .int 0, .int 0, .int 0, .int 0]) (gok hw) hk (ww hw 12 rfl) (Or.inl (ww hw 13 rfl)) (d0 9 rfl) (j := 1) rfl rfl rfl ?_
  refine Ev.aloadN (d0 10 rfl) rfl ?_
  refine Ev.iconst (z := 5) (d0 11 rfl) rfl ?_
  refine Ev.cnew (aty := .int) (b := false) (k := 5) (q := 2) (as' := [(false, tab 9 (fun _ => 0)), (false, tab 16 (fun _ => 0)), (false, tab 5 (fun _ => 0))]) (ww hw 9 rfl) rfl (d0 12 rfl) (by decide) rfl (by decide) rfl rfl ?_
  refine Ev.cput (v' := .ref (pre.length + 1 + 2)) (fs' := [.ref (pre.length + 1 + 0), .ref (pre.length + 1 + 1), .ref (pre.length + 1 + 2), .null, .null, .null, .null, .null, .null, .null, .null, .null, .null, .null, .null, .null, .null, .null, .null, .null, .int 0, .int 0, .int 0, .int 0, .int 0, .int 0, .int 0, .int 0, .int 0, .int 0, .int 0]) (gok hw) hk (ww hw 14 rfl) (Or.inl (ww hw 15 rfl)) (d0 13 rfl) (j := 2) rfl rfl rfl ?_
  refine Ev.aloadN (d0 14 rfl) rfl ?_
  refine Ev.iconst (z := 5) (d0 15 rfl) rfl ?_
  refine Ev.cnew (aty := .int) (b := false) (k := 5) (q := 3) (as' := [(false, tab 9 (fun _ => 0)), (false, tab 16 (fun _ => 0)), (false, tab 5 (fun _ => 0)), (false, tab 5 (fun _ => 0))]) (ww hw 9 rfl) rfl (d0 16 rfl) (by decide) rfl (by decide) rfl rfl ?_
  refine Ev.cput (v' := .ref (pre.length + 1 + 3)) (fs' := [.ref (pre.length + 1 + 0), .ref (pre.length + 1 + 1), .ref (pre.length + 1 + 2), .ref (pre.length + 1 + 3), .null, .null, .null, .null, .null, .null, .null, .null, .null, .null, .null, .null, .null, .null, .null, .null, .int 0, .int 0, .int 0, .int 0, .int 0, .int 0, .int 0, .int 0, .int 0, .int 0, .int 0]) (gok hw) hk (ww hw 16 rfl) (Or.inl (ww hw 17 rfl)) (d0 17 rfl) (j := 3) rfl rfl rfl ?_
  refine Ev.aloadN (d0 18 rfl) rfl ?_
  refine Ev.iconst (z := 5) (d0 19 rfl) rfl ?_
  refine Ev.cnew (aty := .int) (b := false) (k := 5) (q := 4) (as' := [(false, tab 9 (fun _ => 0)), (false, tab 16 (fun _ => 0)), (false, tab 5 (fun _ => 0)), (false, tab 5 (fun _ => 0)), (false, tab 5 (fun _ => 0))]) (ww hw 9 rfl) rfl (d0 20 rfl) (by decide) rfl (by decide) rfl rfl ?_
  refine Ev.cput (v' := .ref (pre.length + 1 + 4)) (fs' := [.ref (pre.length + 1 + 0), .ref (pre.length + 1 + 1), .ref (pre.length + 1 + 2), .ref (pre.length + 1 + 3), .ref (pre.length + 1 + 4), .null, .null, .null, .null, .null, .null, .null, .null, .null, .null, .null, .null, .null, .null, .null, .int 0, .int 0, .int 0, .int 0, .int 0, .int 0, .int 0, .int 0, .int 0, .int 0, .int 0]) (gok hw) hk (ww hw 18 rfl) (Or.inl (ww hw 19 rfl)) (d0 21 rfl) (j := 4) rfl rfl rfl ?_
  refine Ev.aloadN (d0 22 rfl) rfl ?_
  refine Ev.sipush (z := 2048) (d0 23 rfl) rfl ?_
  refine Ev.cnew (aty := .int) (b := false) (k := 2048) (q := 5) (as' := [(false, tab 9 (fun _ => 0)), (false, tab 16 (fun _ => 0)), (false, tab 5 (fun _ => 0)), (false, tab 5 (fun _ => 0)), (false, tab 5 (fun _ => 0)), (false, tab 2048 (fun _ => 0))]) (ww hw 9 rfl) rfl (d0 24 rfl) (by decide) rfl (by decide) rfl rfl ?_
  refine Ev.cput (v' := .ref (pre.length + 1 + 5)) (fs' := [.ref (pre.length + 1 + 0), .ref (pre.length + 1 + 1), .ref (pre.length + 1 + 2), .ref (pre.length + 1 + 3), .ref (pre.length + 1 + 4), .ref (pre.length + 1 + 5), .null, .null, .null, .null, .null, .null, .null, .null, .null, .null, .null, .null, .null, .null, .int 0, .int 0, .int 0, .int 0, .int 0, .int 0, .int 0, .int 0, .int 0, .int 0, .int 0]) (gok hw) hk (ww hw 20 rfl) (Or.inl (ww hw 21 rfl)) (d0 25 rfl) (j := 5) rfl rfl rfl ?_
  refine Ev.aloadN (d0 26 rfl) rfl ?_
  refine Ev.sipush (z := 8192) (d0 27 rfl) rfl ?_
  refine Ev.cnew (aty := .int) (b := false) (k := 8192) (q := 6) (as' := [(false, tab 9 (fun _ => 0)), (false, tab 16 (fun _ => 0)), (false, tab 5 (fun _ => 0)), (false, tab 5 (fun _ => 0)), (false, tab 5 (fun _ => 0)), (false, tab 2048 (fun _ => 0)), (false, tab 8192 (fun _ => 0))]) (ww hw 9 rfl) rfl (d0 28 rfl) (by decide) rfl (by decide) rfl rfl ?_
  refine Ev.cput (v' := .ref (pre.length + 1 + 6)) (fs' := [.ref (pre.length + 1 + 0), .ref (pre.length + 1 + 1), .ref (pre.length + 1 + 2), .ref (pre.length + 1 + 3), .ref (pre.length + 1 + 4), .ref (pre.length + 1 + 5), .ref (pre.length + 1 + 6), .null, .null, .null, .null, .null, .null, .null, .null, .null, .null, .null, .null, .null, .int 0, .int 0, .int 0, .int 0, .int 0, .int 0, .int 0, .int 0, .int 0, .int 0, .int 0]) (gok hw) hk (ww hw 22 rfl) (Or.inl (ww hw 23 rfl)) (d0 29 rfl) (j := 6) rfl rfl rfl ?_
  refine Ev.aloadN (d0 30 rfl) rfl ?_
  refine Ev.sipush (z := 4096) (d0 31 rfl) rfl ?_
  refine Ev.cnew (aty := .int) (b := false) (k := 4096) (q := 7) (as' := [(false, tab 9 (fun _ => 0)), (false, tab 16 (fun _ => 0)), (false, tab 5 (fun _ => 0)), (false, tab 5 (fun _ => 0)), (false, tab 5 (fun _ => 0)), (false, tab 2048 (fun _ => 0)), (false, tab 8192 (fun _ => 0)), (false, tab 4096 (fun _ => 0))]) (ww hw 9 rfl) rfl (d0 32 rfl) (by decide) rfl (by decide) rfl rfl ?_
  refine Ev.cput (v' := .ref (pre.length + 1 + 7)) (fs' := [.ref (pre.length + 1 + 0), .ref (pre.length + 1 + 1), .ref (pre.length + 1 + 2), .ref (pre.length + 1 + 3), .ref (pre.length + 1 + 4), .ref (pre.length + 1 + 5), .ref (pre.length + 1 + 6), .ref (pre.length + 1 + 7), .null, .null, .null, .null, .null, .null, .null, .null, .null, .null, .null, .null, .int 0, .int 0, .int 0, .int 0, .int 0, .int 0, .int 0, .int 0, .int 0, .int 0, .int 0]) (gok hw) hk (ww hw 24 rfl) (Or.inl (ww hw 25 rfl)) (d0 33 rfl) (j := 7) rfl rfl rfl ?_
  refine Ev.aloadN (d0 34 rfl) rfl ?_
  refine Ev.sipush (z := 2048) (d0 35 rfl) rfl ?_
  refine Ev.cnew (aty := .boolean) (b := true) (k := 2048) (q := 8) (as' := [(false, tab 9 (fun _ => 0)), (false, tab 16 (fun _ => 0)), (false, tab 5 (fun _ => 0)), (false, tab 5 (fun _ => 0)), (false, tab 5 (fun _ => 0)), (false, tab 2048 (fun _ => 0)), (false, tab 8192 (fun _ => 0)), (false, tab 4096 (fun _ => 0)), (true, tab 2048 (fun _ => 0))]) (ww hw 26 rfl) rfl (d0 36 rfl) (by decide) rfl (by decide) rfl rfl ?_
  refine Ev.cput (v' := .ref (pre.length + 1 + 8)) (fs' := [.ref (pre.length + 1 + 0), .ref (pre.length + 1 + 1), .ref (pre.length + 1 + 2), .ref (pre.length + 1 + 3), .ref (pre.length + 1 + 4), .ref (pre.length + 1 + 5), .ref (pre.length + 1 + 6), .ref (pre.length + 1 + 7), .ref (pre.length + 1 + 8), .null, .null, .null, .null, .null, .null, .null, .null, .null, .null, .null, .int 0, .int 0, .int 0, .int 0, .int 0, .int 0, .int 0, .int 0, .int 0, .int 0, .int 0]) (gok hw) hk (ww hw 27 rfl) (Or.inl (ww hw 28 rfl)) (d0 37 rfl) (j := 8) rfl rfl rfl ?_
  refine Ev.aloadN (d0 38 rfl) rfl ?_
  refine Ev.sipush (z := 2048) (d0 39 rfl) rfl ?_
  refine Ev.cnew (aty := .int) (b := false) (k := 2048) (q := 9) (as' := [(false, tab 9 (fun _ => 0)), (false, tab 16 (fun _ => 0)), (false, tab 5 (fun _ => 0)), (false, tab 5 (fun _ => 0)), (false, tab 5 (fun _ => 0)), (false, tab 2048 (fun _ => 0)), (false, tab 8192 (fun _ => 0)), (false, tab 4096 (fun _ => 0)), (true, tab 2048 (fun _ => 0)), (false, tab 2048 (fun _ => 0))]) (ww hw 9 rfl) rfl (d0 40 rfl) (by decide) rfl (by decide) rfl rfl ?_
  refine Ev.cput (v' := .ref (pre.length + 1 + 9)) (fs' := [.ref (pre.length + 1 + 0), .ref (pre.length + 1 + 1), .ref (pre.length + 1 + 2), .ref (pre.length + 1 + 3), .ref (pre.length + 1 + 4), .ref (pre.length + 1 + 5), .ref (pre.length + 1 + 6), .ref (pre.length + 1 + 7), .ref (pre.length + 1 + 8), .ref (pre.length + 1 + 9), .null, .null, .null, .null, .null, .null, .null, .null, .null, .null, .int 0, .int 0, .int 0, .int 0, .int 0, .int 0, .int 0, .int 0, .int 0, .int 0, .int 0]) (gok hw) hk (ww hw 29 rfl) (Or.inl (ww hw 30 rfl)) (d0 41 rfl) (j := 9) rfl rfl rfl ?_
  refine Ev.aloadN (d0 42 rfl) rfl ?_
  refine Ev.sipush (z := 2048) (d0 43 rfl) rfl ?_
  refine Ev.cnew (aty := .int) (b := false) (k := 2048) (q := 10) (as' := [(false, tab 9 (fun _ => 0)), (false, tab 16 (fun _ => 0)), (false, tab 5 (fun _ => 0)), (false, tab 5 (fun _ => 0)), (false, tab 5 (fun _ => 0)), (false, tab 2048 (fun _ => 0)), (false, tab 8192 (fun _ => 0)), (false, tab 4096 (fun _ => 0)), (true, tab 2048 (fun _ => 0)), (false, tab 2048 (fun _ => 0)), (false, tab 2048 (fun _ => 0))]) (ww hw 9 rfl) rfl (d0 44 rfl) (by decide) rfl (by decide) rfl rfl ?_
  refine Ev.cput (v' := .ref (pre.length + 1 + 10)) (fs' := [.ref (pre.length + 1 + 0), .ref (pre.length + 1 + 1), .ref (pre.length + 1 + 2), .ref (pre.length + 1 + 3), .ref (pre.length + 1 + 4), .ref (pre.length + 1 + 5), .ref (pre.length + 1 + 6), .ref (pre.length + 1 + 7), .ref (pre.length + 1 + 8), .ref (pre.length + 1 + 9), .ref (pre.length + 1 + 10), .null, .null, .null, .null, .null, .null, .null, .null, .null, .int 0, .int 0, .int 0, .int 0, .int 0, .int 0, .int 0, .int 0, .int 0, .int 0, .int 0]) (gok hw) hk (ww hw 31 rfl) (Or.inl (ww hw 32 rfl)) (d0 45 rfl) (j := 10) rfl rfl rfl ?_
  refine Ev.aloadN (d0 46 rfl) rfl ?_
  refine Ev.sipush (z := 1024) (d0 47 rfl) rfl ?_
  refine Ev.cnew (aty := .int) (b := false) (k := 1024) (q := 11) (as' := [(false, tab 9 (fun _ => 0)), (false, tab 16 (fun _ => 0)), (false, tab 5 (fun _ => 0)), (false, tab 5 (fun _ => 0)), (false, tab 5 (fun _ => 0)), (false, tab 2048 (fun _ => 0)), (false, tab 8192 (fun _ => 0)), (false, tab 4096 (fun _ => 0)), (true, tab 2048 (fun _ => 0)), (false, tab 2048 (fun _ => 0)), (false, tab 2048 (fun _ => 0)), (false, tab 1024 (fun _ => 0))]) (ww hw 9 rfl) rfl (d0 48 rfl) (by decide) rfl (by decide) rfl rfl ?_
  refine Ev.cput (v' := .ref (pre.length + 1 + 11)) (fs' := [.ref (pre.length + 1 + 0), .ref (pre.length + 1 + 1), .ref (pre.length + 1 + 2), .ref (pre.length + 1 + 3), .ref (pre.length + 1 + 4), .ref (pre.length + 1 + 5), .ref (pre.length + 1 + 6), .ref (pre.length + 1 + 7), .ref (pre.length + 1 + 8), .ref (pre.length + 1 + 9), .ref (pre.length + 1 + 10), .ref (pre.length + 1 + 11), .null, .null, .null, .null, .null, .null, .null, .null, .int 0, .int 0, .int 0, .int 0, .int 0, .int 0, .int 0, .int 0, .int 0, .int 0, .int 0]) (gok hw) hk (ww hw 33 rfl) (Or.inl (ww hw 34 rfl)) (d0 49 rfl) (j := 11) rfl rfl rfl ?_
  refine Ev.aloadN (d0 50 rfl) rfl ?_
  refine Ev.bipush (z := 64) (d0 51 rfl) rfl ?_
  refine Ev.cnew (aty := .boolean) (b := true) (k := 64) (q := 12) (as' := [(false, tab 9 (fun _ => 0)), (false, tab 16 (fun _ => 0)), (false, tab 5 (fun _ => 0)), (false, tab 5 (fun _ => 0)), (false, tab 5 (fun _ => 0)), (false, tab 2048 (fun _ => 0)), (false, tab 8192 (fun _ => 0)), (false, tab 4096 (fun _ => 0)), (true, tab 2048 (fun _ => 0)), (false, tab 2048 (fun _ => 0)), (false, tab 2048 (fun _ => 0)), (false, tab 1024 (fun _ => 0)), (true, tab 64 (fun _ => 0))]) (ww hw 26 rfl) rfl (d0 52 rfl) (by decide) rfl (by decide) rfl rfl ?_
  refine Ev.cput (v' := .ref (pre.length + 1 + 12)) (fs' := [.ref (pre.length + 1 + 0), .ref (pre.length + 1 + 1), .ref (pre.length + 1 + 2), .ref (pre.length + 1 + 3), .ref (pre.length + 1 + 4), .ref (pre.length + 1 + 5), .ref (pre.length + 1 + 6), .ref (pre.length + 1 + 7), .ref (pre.length + 1 + 8), .ref (pre.length + 1 + 9), .ref (pre.length + 1 + 10), .ref (pre.length + 1 + 11), .ref (pre.length + 1 + 12), .null, .null, .null, .null, .null, .null, .null, .int 0, .int 0, .int 0, .int 0, .int 0, .int 0, .int 0, .int 0, .int 0, .int 0, .int 0]) (gok hw) hk (ww hw 35 rfl) (Or.inl (ww hw 36 rfl)) (d0 53 rfl) (j := 12) rfl rfl rfl ?_
  refine Ev.aloadN (d0 54 rfl) rfl ?_
  refine Ev.sipush (z := 1024) (d0 55 rfl) rfl ?_
  refine Ev.cnew (aty := .int) (b := false) (k := 1024) (q := 13) (as' := [(false, tab 9 (fun _ => 0)), (false, tab 16 (fun _ => 0)), (false, tab 5 (fun _ => 0)), (false, tab 5 (fun _ => 0)), (false, tab 5 (fun _ => 0)), (false, tab 2048 (fun _ => 0)), (false, tab 8192 (fun _ => 0)), (false, tab 4096 (fun _ => 0)), (true, tab 2048 (fun _ => 0)), (false, tab 2048 (fun _ => 0)), (false, tab 2048 (fun _ => 0)), (false, tab 1024 (fun _ => 0)), (true, tab 64 (fun _ => 0)), (false, tab 1024 (fun _ => 0))]) (ww hw 9 rfl) rfl (d0 56 rfl) (by decide) rfl (by decide) rfl rfl ?_
  refine Ev.cput (v' := .ref (pre.length + 1 + 13)) (fs' := [.ref (pre.length + 1 + 0), .ref (pre.length + 1 + 1), .ref (pre.length + 1 + 2), .ref (pre.length + 1 + 3), .ref (pre.length + 1 + 4), .ref (pre.length + 1 + 5), .ref (pre.length + 1 + 6), .ref (pre.length + 1 + 7), .ref (pre.length + 1 + 8), .ref (pre.length + 1 + 9), .ref (pre.length + 1 + 10), .ref (pre.length + 1 + 11), .ref (pre.length + 1 + 12), .ref (pre.length + 1 + 13), .null, .null, .null, .null, .null, .null, .int 0, .int 0, .int 0, .int 0, .int 0, .int 0, .int 0, .int 0, .int 0, .int 0, .int 0]) (gok hw) hk (ww hw 37 rfl) (Or.inl (ww hw 38 rfl)) (d0 57 rfl) (j := 13) rfl rfl rfl ?_
  refine Ev.aloadN (d0 58 rfl) rfl ?_
  refine Ev.sipush (z := 1024) (d0 59 rfl) rfl ?_
  refine Ev.cnew (aty := .int) (b := false) (k := 1024) (q := 14) (as' := [(false, tab 9 (fun _ => 0)), (false, tab 16 (fun _ => 0)), (false, tab 5 (fun _ => 0)), (false, tab 5 (fun _ => 0)), (false, tab 5 (fun _ => 0)), (false, tab 2048 (fun _ => 0)), (false, tab 8192 (fun _ => 0)), (false, tab 4096 (fun _ => 0)), (true, tab 2048 (fun _ => 0)), (false, tab 2048 (fun _ => 0)), (false, tab 2048 (fun _ => 0)), (false, tab 1024 (fun _ => 0)), (true, tab 64 (fun _ => 0)), (false, tab 1024 (fun _ => 0)), (false, tab 1024 (fun _ => 0))]) (ww hw 9 rfl) rfl (d0 60 rfl) (by decide) rfl (by decide) rfl rfl ?_
  refine Ev.cput (v' := .ref (pre.length + 1 + 14)) (fs' := [.ref (pre.length + 1 + 0), .ref (pre.length + 1 + 1), .ref (pre.length + 1 + 2), .ref (pre.length + 1 + 3), .ref (pre.length + 1 + 4), .ref (pre.length + 1 + 5), .ref (pre.length + 1 + 6), .ref (pre.length + 1 + 7), .ref (pre.length + 1 + 8), .ref (pre.length + 1 + 9), .ref (pre.length + 1 + 10), .ref (pre.length + 1 + 11), .ref (pre.length + 1 + 12), .ref (pre.length + 1 + 13), .ref (pre.length + 1 + 14), .null, .null, .null, .null, .null, .int 0, .int 0, .int 0, .int 0, .int 0, .int 0, .int 0, .int 0, .int 0, .int 0, .int 0]) (gok hw) hk (ww hw 39 rfl) (Or.inl (ww hw 40 rfl)) (d0 61 rfl) (j := 14) rfl rfl rfl ?_
  refine Ev.aloadN (d0 62 rfl) rfl ?_
  refine Ev.sipush (z := 1024) (d0 63 rfl) rfl ?_
  refine Ev.cnew (aty := .int) (b := false) (k := 1024) (q := 15) (as' := [(false, tab 9 (fun _ => 0)), (false, tab 16 (fun _ => 0)), (false, tab 5 (fun _ => 0)), (false, tab 5 (fun _ => 0)), (false, tab 5 (fun _ => 0)), (false, tab 2048 (fun _ => 0)), (false, tab 8192 (fun _ => 0)), (false, tab 4096 (fun _ => 0)), (true, tab 2048 (fun _ => 0)), (false, tab 2048 (fun _ => 0)), (false, tab 2048 (fun _ => 0)), (false, tab 1024 (fun _ => 0)), (true, tab 64 (fun _ => 0)), (false, tab 1024 (fun _ => 0)), (false, tab 1024 (fun _ => 0)), (false, tab 1024 (fun _ => 0))]) (ww hw 9 rfl) rfl (d0 64 rfl) (by decide) rfl (by decide) rfl rfl ?_
  refine Ev.cput (v' := .ref (pre.length + 1 + 15)) (fs' := [.ref (pre.length + 1 + 0), .ref (pre.length + 1 + 1), .ref (pre.length + 1 + 2), .ref (pre.length + 1 + 3), .ref (pre.length + 1 + 4), .ref (pre.length + 1 + 5), .ref (pre.length + 1 + 6), .ref (pre.length + 1 + 7), .ref (pre.length + 1 + 8), .ref (pre.length + 1 + 9), .ref (pre.length + 1 + 10), .ref (pre.length + 1 + 11), .ref (pre.length + 1 + 12), .ref (pre.length + 1 + 13), .ref (pre.length + 1 + 14), .ref (pre.length + 1 + 15), .null, .null, .null, .null, .int 0, .int 0, .int 0, .int 0, .int 0, .int 0, .int 0, .int 0, .int 0, .int 0, .int 0]) (gok hw) hk (ww hw 41 rfl) (Or.inl (ww hw 42 rfl)) (d0 65 rfl) (j := 15) rfl rfl rfl ?_
  refine Ev.aloadN (d0 66 rfl) rfl ?_
  refine Ev.sipush (z := 1024) (d0 67 rfl) rfl ?_
  refine Ev.cnew (aty := .boolean) (b := true) (k := 1024) (q := 16) (as' := [(false, tab 9 (fun _ => 0)), (false, tab 16 (fun _ => 0)), (false, tab 5 (fun _ => 0)), (false, tab 5 (fun _ => 0)), (false, tab 5 (fun _ => 0)), (false, tab 2048 (fun _ => 0)), (false, tab 8192 (fun _ => 0)), (false, tab 4096 (fun _ => 0)), (true, tab 2048 (fun _ => 0)), (false, tab 2048 (fun _ => 0)), (false, tab 2048 (fun _ => 0)), (false, tab 1024 (fun _ => 0)), (true, tab 64 (fun _ => 0)), (false, tab 1024 (fun _ => 0)), (false, tab 1024 (fun _ => 0)), (false, tab 1024 (fun _ => 0)), (true, tab 1024 (fun _ => 0))]) (ww hw 26 rfl) rfl (d0 68 rfl) (by decide) rfl (by decide) rfl rfl ?_
  refine Ev.cput (v' := .ref (pre.length + 1 + 16)) (fs' := [.ref (pre.length + 1 + 0), .ref (pre.length + 1 + 1), .ref (pre.length + 1 + 2), .ref (pre.length + 1 + 3), .ref (pre.length + 1 + 4), .ref (pre.length + 1 + 5), .ref (pre.length + 1 + 6), .ref (pre.length + 1 + 7), .ref (pre.length + 1 + 8), .ref (pre.length + 1 + 9), .ref (pre.length + 1 + 10), .ref (pre.length + 1 + 11), .ref (pre.length + 1 + 12), .ref (pre.length + 1 + 13), .ref (pre.length + 1 + 14), .ref (pre.length + 1 + 15), .ref (pre.length + 1 + 16), .null, .null, .null, .int 0, .int 0, .int 0, .int 0, .int 0, .int 0, .int 0, .int 0, .int 0, .int 0, .int 0]) (gok hw) hk (ww hw 43 rfl) (Or.inl (ww hw 44 rfl)) (d0 69 rfl) (j := 16) rfl rfl rfl ?_
  refine Ev.aloadN (d0 70 rfl) rfl ?_
  refine Ev.bipush (z := 64) (d0 71 rfl) rfl ?_
  refine Ev.cnew (aty := .int) (b := false) (k := 64) (q := 17) (as' := [(false, tab 9 (fun _ => 0)), (false, tab 16 (fun _ => 0)), (false, tab 5 (fun _ => 0)), (false, tab 5 (fun _ => 0)), (false, tab 5 (fun _ => 0)), (false, tab 2048 (fun _ => 0)), (false, tab 8192 (fun _ => 0)), (false, tab 4096 (fun _ => 0)), (true, tab 2048 (fun _ => 0)), (false, tab 2048 (fun _ => 0)), (false, tab 2048 (fun _ => 0)), (false, tab 1024 (fun _ => 0)), (true, tab 64 (fun _ => 0)), (false, tab 1024 (fun _ => 0)), (false, tab 1024 (fun _ => 0)), (false, tab 1024 (fun _ => 0)), (true, tab 1024 (fun _ => 0)), (false, tab 64 (fun _ => 0))]) (ww hw 9 rfl) rfl (d0 72 rfl) (by decide) rfl (by decide) rfl rfl ?_
  refine Ev.cput (v' := .ref (pre.length + 1 + 17)) (fs' := [.ref (pre.length + 1 + 0), .ref (pre.length + 1 + 1), .ref (pre.length + 1 + 2), .ref (pre.length + 1 + 3), .ref (pre.length + 1 + 4), .ref (pre.length + 1 + 5), .ref (pre.length + 1 + 6), .ref (pre.length + 1 + 7), .ref (pre.length + 1 + 8), .ref (pre.length + 1 + 9), .ref (pre.length + 1 + 10), .ref (pre.length + 1 + 11), .ref (pre.length + 1 + 12), .ref (pre.length + 1 + 13), .ref (pre.length + 1 + 14), .ref (pre.length + 1 + 15), .ref (pre.length + 1 + 16), .ref (pre.length + 1 + 17), .null, .null, .int 0, .int 0, .int 0, .int 0, .int 0, .int 0, .int 0, .int 0, .int 0, .int 0, .int 0]) (gok hw) hk (ww hw 45 rfl) (Or.inl (ww hw 46 rfl)) (d0 73 rfl) (j := 17) rfl rfl rfl ?_
  refine Ev.aloadN (d0 74 rfl) rfl ?_
  refine Ev.bipush (z := 64) (d0 75 rfl) rfl ?_
  refine Ev.cnew (aty := .int) (b := false) (k := 64) (q := 18) (as' := [(false, tab 9 (fun _ => 0)), (false, tab 16 (fun _ => 0)), (false, tab 5 (fun _ => 0)), (false, tab 5 (fun _ => 0)), (false, tab 5 (fun _ => 0)), (false, tab 2048 (fun _ => 0)), (false, tab 8192 (fun _ => 0)), (false, tab 4096 (fun _ => 0)), (true, tab 2048 (fun _ => 0)), (false, tab 2048 (fun _ => 0)), (false, tab 2048 (fun _ => 0)), (false, tab 1024 (fun _ => 0)), (true, tab 64 (fun _ => 0)), (false, tab 1024 (fun _ => 0)), (false, tab 1024 (fun _ => 0)), (false, tab 1024 (fun _ => 0)), (true, tab 1024 (fun _ => 0)), (false, tab 64 (fun _ => 0)), (false, tab 64 (fun _ => 0))]) (ww hw 9 rfl) rfl (d0 76 rfl) (by decide) rfl (by decide) rfl rfl ?_
  refine Ev.cput (v' := .ref (pre.length + 1 + 18)) (fs' := [.ref (pre.length + 1 + 0), .ref (pre.length + 1 + 1), .ref (pre.length + 1 + 2), .ref (pre.length + 1 + 3), .ref (pre.length + 1 + 4), .ref (pre.length + 1 + 5), .ref (pre.length + 1 + 6), .ref (pre.length + 1 + 7), .ref (pre.length + 1 + 8), .ref (pre.length + 1 + 9), .ref (pre.length + 1 + 10), .ref (pre.length + 1 + 11), .ref (pre.length + 1 + 12), .ref (pre.length + 1 + 13), .ref (pre.length + 1 + 14), .ref (pre.length + 1 + 15), .ref (pre.length + 1 + 16), .ref (pre.length + 1 + 17), .ref (pre.length + 1 + 18), .null, .int 0, .int 0, .int 0, .int 0, .int 0, .int 0, .int 0, .int 0, .int 0, .int 0, .int 0]) (gok hw) hk (ww hw 47 rfl) (Or.inl (ww hw 48 rfl)) (d0 77 rfl) (j := 18) rfl rfl rfl ?_
  refine Ev.aloadN (d0 78 rfl) rfl ?_
  refine Ev.bipush (z := 64) (d0 79 rfl) rfl ?_
  refine Ev.cnew (aty := .int) (b := false) (k := 64) (q := 19) (as' := [(false, tab 9 (fun _ => 0)), (false, tab 16 (fun _ => 0)), (false, tab 5 (fun _ => 0)), (false, tab 5 (fun _ => 0)), (false, tab 5 (fun _ => 0)), (false, tab 2048 (fun _ => 0)), (false, tab 8192 (fun _ => 0)), (false, tab 4096 (fun _ => 0)), (true, tab 2048 (fun _ => 0)), (false, tab 2048 (fun _ => 0)), (false, tab 2048 (fun _ => 0)), (false, tab 1024 (fun _ => 0)), (true, tab 64 (fun _ => 0)), (false, tab 1024 (fun _ => 0)), (false, tab 1024 (fun _ => 0)), (false, tab 1024 (fun _ => 0)), (true, tab 1024 (fun _ => 0)), (false, tab 64 (fun _ => 0)), (false, tab 64 (fun _ => 0)), (false, tab 64 (fun _ => 0))]) (ww hw 9 rfl) rfl (d0 80 rfl) (by decide) rfl (by decide) rfl rfl ?_
  refine Ev.cput (v' := .ref (pre.length + 1 + 19)) (fs' := [.ref (pre.length + 1 + 0), .ref (pre.length + 1 + 1), .ref (pre.length + 1 + 2), .ref (pre.length + 1 + 3), .ref (pre.length + 1 + 4), .ref (pre.length + 1 + 5), .ref (pre.length + 1 + 6), .ref (pre.length + 1 + 7), .ref (pre.length + 1 + 8), .ref (pre.length + 1 + 9), .ref (pre.length + 1 + 10), .ref (pre.length + 1 + 11), .ref (pre.length + 1 + 12), .ref (pre.length + 1 + 13), .ref (pre.length + 1 + 14), .ref (pre.length + 1 + 15), .ref (pre.length + 1 + 16), .ref (pre.length + 1 + 17), .ref (pre.length + 1 + 18), .ref (pre.length + 1 + 19), .int 0, .int 0, .int 0, .int 0, .int 0, .int 0, .int 0, .int 0, .int 0, .int 0, .int 0]) (gok hw) hk (ww hw 49 rfl) (Or.inl (ww hw 50 rfl)) (d0 81 rfl) (j := 19) rfl rfl rfl ?_
  show Ev (GG g) M_ctor 172 [.val (.ref pre.length), .val (.int a0), .val (.int a1), .unset] [] (KH flds al Ln pre [] zeroS) _
  exact e_ctor_172 hw (K := KH flds al Ln pre []) (o := pre.length) (r := rA pre.length al) (view_of hk al_ok al_nd) a0 a1 zeroS .unset rfl _ hr
def f_hin (a0 : Int32) : Option (Int32) :=
  if a0 < 0 then
    some (0 : Int32)
  else
    if a0 < (3 : Int32) then
      some (1 : Int32)
    else
      some (0 : Int32)
set_option maxRecDepth 100000 in
theorem e_hin {g : GT} {a0 : Int32} {w : Int32} (hw : HW g) {h : MHeap} (hr : f_hin a0 = some w) : EvC (GG g) M_hin [.int a0] h ((some (.int w)), h) := by
  refine EvC.enter (L0 := [.val (.int a0)]) pl_hin (fun h => nomatch h) rfl rfl ?_
  unfold f_hin at hr
  refine Ev.iloadN (d3 0 rfl) rfl ?_
  refine Ev.iflt (t := 13) (d3 1 rfl) rfl (fun c1 => ?_) (fun c1 => ?_)
  · replace hr := (if_pos c1).symm.trans hr
    refine Ev.iconst (z := 0) (d3 7 rfl) rfl ?_
    cases hr
    exact Ev.zret0 rfl (d3 8 rfl)
  · replace hr := (if_neg c1).symm.trans hr
    refine Ev.iloadN (d3 2 rfl) rfl ?_
    refine Ev.iconst (z := 3) (d3 3 rfl) rfl ?_
    refine Ev.icge (t := 13) (d3 4 rfl) rfl (fun c2 => ?_) (fun c2 => ?_)
    · replace hr := (if_pos c2).symm.trans hr
      refine Ev.iconst (z := 1) (d3 5 rfl) rfl ?_
      refine Ev.goto (t := 14) (d3 6 rfl) rfl ?_
      cases hr
      exact Ev.zret1 rfl (d3 8 rfl)
    · replace hr := (if_neg c2).symm.trans hr
      refine Ev.iconst (z := 0) (d3 7 rfl) rfl ?_
      cases hr
      exact Ev.zret0 rfl (d3 8 rfl)
def f_validVar (s : St) (a0 : Int32) : Option (Int32) :=
  if a0 < 0 then
    some (0 : Int32)
  else
    if a0 < (s.1 20) then
      some (1 : Int32)
    else
      some (0 : Int32)
set_option maxRecDepth 100000 in
theorem e_validVar {g : GT} {s : St} {a0 : Int32} {w : Int32} (hw : HW g) {K : St → MHeap} {o : Nat} {r : Nat → Nat} (V : View (GG g) Ln K o r) (hr : f_validVar s a0 = some w) : EvC (GG g) M_validVar [.ref o, .int a0] (K s) ((some (.int w)), (K s)) := by
  refine EvC.enter (L0 := [.val (.ref o), .val (.int a0)]) pl_validVar (fun h => nomatch h) rfl rfl ?_
  unfold f_validVar at hr
  refine Ev.iloadN (d5 0 rfl) rfl ?_
  refine Ev.iflt (t := 16) (d5 1 rfl) rfl (fun c1 => ?_) (fun c1 => ?_)
  · replace hr := (if_pos c1).symm.trans hr
    refine Ev.iconst (z := 0) (d5 8 rfl) rfl ?_
    cases hr
    exact Ev.zret0 rfl (d5 9 rfl)
  · replace hr := (if_neg c1).symm.trans hr
    refine Ev.iloadN (d5 2 rfl) rfl ?_
    refine Ev.aloadN (d5 3 rfl) rfl ?_
    refine Ev.gI V (ww hw 51 rfl) (d5 4 rfl) (j := 20) rfl rfl ?_
    refine Ev.icge (t := 16) (d5 5 rfl) rfl (fun c2 => ?_) (fun c2 => ?_)
    · replace hr := (if_pos c2).symm.trans hr
      refine Ev.iconst (z := 1) (d5 6 rfl) rfl ?_
      refine Ev.goto (t := 17) (d5 7 rfl) rfl ?_
      cases hr
      exact Ev.zret1 rfl (d5 9 rfl)
    · replace hr := (if_neg c2).symm.trans hr
      refine Ev.iconst (z := 0) (d5 8 rfl) rfl ?_
      cases hr
      exact Ev.zret0 rfl (d5 9 rfl)
def f_beginTable_131 (x1 : Int32) (x2 : Int32) (x3 : Int32) (x4 : Int32) (s : St) : Option (Int32 × St) :=
  bnd (setI s 24 ((1 : Int32) &&& 1)) fun s1 =>
  bnd (setI s1 25 x4) fun s2 =>
  bnd (setI s2 26 x1) fun s3 =>
  bnd (setI s3 27 x2) fun s4 =>
  bnd (setI s4 28 x3) fun s5 =>
  bnd (setI s5 29 (0 : Int32)) fun s6 =>
  some ((0 : Int32), s6)
set_option maxRecDepth 100000 in
theorem e_beginTable_131 {g : GT} (hw : HW g) {K : St → MHeap} {o : Nat} {r : Nat → Nat} (V : View (GG g) Ln K o r) (x1 : Int32) (x2 : Int32) (x3 : Int32) (x4 : Int32) (s : St) (w : Int32 × St) (hr : f_beginTable_131 x1 x2 x3 x4 s = some w) : Ev (GG g) M_beginTable 131 [.val (.ref o), .val (.int x1), .val (.int x2), .val (.int x3), .val (.int x4)] [] (K s) ((some (.int w.1)), (K w.2)) := by
  unfold f_beginTable_131 at hr
  refine Ev.aloadN (d4 74 rfl) rfl ?_
  refine Ev.iconst (z := 1) (d4 75 rfl) rfl ?_
  refine Ev.pZ V (gok hw) (ww hw 63 rfl) (Or.inl (ww hw 64 rfl)) (d4 76 rfl) (j := 24) rfl ?_
  revert hr
  generalize setI s 24 ((1 : Int32) &&& 1) = s1
  intro hr
  replace hr := (bnd_eq _ _).symm.trans hr
  refine Ev.aloadN (d4 77 rfl) rfl ?_
  refine Ev.iload (d4 78 rfl) rfl ?_
  refine Ev.pI V (gok hw) (ww hw 78 rfl) (Or.inl (ww hw 79 rfl)) (d4 79 rfl) (j := 25) rfl ?_
  revert hr
  generalize setI s1 25 x4 = s2
  intro hr
  replace hr := (bnd_eq _ _).symm.trans hr
  refine Ev.aloadN (d4 80 rfl) rfl ?_
  refine Ev.iloadN (d4 81 rfl) rfl ?_
  refine Ev.pI V (gok hw) (ww hw 80 rfl) (Or.inl (ww hw 81 rfl)) (d4 82 rfl) (j := 26) rfl ?_
  revert hr
  generalize setI s2 26 x1 = s3
  intro hr
  replace hr := (bnd_eq _ _).symm.trans hr
  refine Ev.aloadN (d4 83 rfl) rfl ?_
  refine Ev.iloadN (d4 84 rfl) rfl ?_
  refine Ev.pI V (gok hw) (ww hw 82 rfl) (Or.inl (ww hw 83 rfl)) (d4 85 rfl) (j := 27) rfl ?_
  revert hr
  generalize setI s3 27 x2 = s4
  intro hr
  replace hr := (bnd_eq _ _).symm.trans hr
  refine Ev.aloadN (d4 86 rfl) rfl ?_
  refine Ev.iloadN (d4 87 rfl) rfl ?_
  refine Ev.pI V (gok hw) (ww hw 84 rfl) (Or.inl (ww hw 85 rfl)) (d4 88 rfl) (j := 28) rfl ?_
  revert hr
  generalize setI s4 28 x3 = s5
  intro hr
  replace hr := (bnd_eq _ _).symm.trans hr
  refine Ev.aloadN (d4 89 rfl) rfl ?_
  refine Ev.iconst (z := 0) (d4 90 rfl) rfl ?_
  refine Ev.pI V (gok hw) (ww hw 86 rfl) (Or.inl (ww hw 87 rfl)) (d4 91 rfl) (j := 29) rfl ?_
  revert hr
  generalize setI s5 29 (0 : Int32) = s6
  intro hr
  replace hr := (bnd_eq _ _).symm.trans hr
  refine Ev.iconst (z := 0) (d4 92 rfl) rfl ?_
  cases hr
  exact Ev.ireturn rfl (d4 93 rfl)
def f_beginTable_112 (x1 : Int32) (x2 : Int32) (x3 : Int32) (x4 : Int32) (s : St) : Option (Int32 × St) :=
  if x4 = (3 : Int32) then
    if x1 = x3 then
      some ((-11 : Int32), s)
    else
      if x2 = x3 then
        some ((-11 : Int32), s)
      else
        f_beginTable_131 x1 x2 x3 x4 s
  else
    f_beginTable_131 x1 x2 x3 x4 s
set_option maxRecDepth 100000 in
theorem e_beginTable_112 {g : GT} (hw : HW g) {K : St → MHeap} {o : Nat} {r : Nat → Nat} (V : View (GG g) Ln K o r) (x1 : Int32) (x2 : Int32) (x3 : Int32) (x4 : Int32) (s : St) (w : Int32 × St) (hr : f_beginTable_112 x1 x2 x3 x4 s = some w) : Ev (GG g) M_beginTable 112 [.val (.ref o), .val (.int x1), .val (.int x2), .val (.int x3), .val (.int x4)] [] (K s) ((some (.int w.1)), (K w.2)) := by
  unfold f_beginTable_112 at hr
  refine Ev.iload (d4 63 rfl) rfl ?_
  refine Ev.iconst (z := 3) (d4 64 rfl) rfl ?_
  refine Ev.icne (t := 131) (d4 65 rfl) rfl (fun c1 => ?_) (fun c1 => ?_)
  · replace hr := (if_pos c1).symm.trans hr
    refine Ev.iloadN (d4 66 rfl) rfl ?_
    refine Ev.iloadN (d4 67 rfl) rfl ?_
    refine Ev.iceq (t := 128) (d4 68 rfl) rfl (fun c2 => ?_) (fun c2 => ?_)
    · replace hr := (if_pos c2).symm.trans hr
      refine Ev.bipush (z := -11) (d4 72 rfl) rfl ?_
      cases hr
      exact Ev.ireturn rfl (d4 73 rfl)
    · replace hr := (if_neg c2).symm.trans hr
      refine Ev.iloadN (d4 69 rfl) rfl ?_
      refine Ev.iloadN (d4 70 rfl) rfl ?_
      refine Ev.icne (t := 131) (d4 71 rfl) rfl (fun c3 => ?_) (fun c3 => ?_)
      · replace hr := (if_pos c3).symm.trans hr
        refine Ev.bipush (z := -11) (d4 72 rfl) rfl ?_
        cases hr
        exact Ev.ireturn rfl (d4 73 rfl)
      · replace hr := (if_neg c3).symm.trans hr
        exact e_beginTable_131 hw V  x1 x2 x3 x4 s  _ hr
  · replace hr := (if_neg c1).symm.trans hr
    exact e_beginTable_131 hw V  x1 x2 x3 x4 s  _ hr
def f_beginTable_98 (x1 : Int32) (x2 : Int32) (x3 : Int32) (x4 : Int32) (s : St) : Option (Int32 × St) :=
  if x4 < (2 : Int32) then
    f_beginTable_112 x1 x2 x3 x4 s
  else
    if x1 = x2 then
      some ((-11 : Int32), s)
    else
      f_beginTable_112 x1 x2 x3 x4 s
set_option maxRecDepth 100000 in
theorem e_beginTable_98 {g : GT} (hw : HW g) {K : St → MHeap} {o : Nat} {r : Nat → Nat} (V : View (GG g) Ln K o r) (x1 : Int32) (x2 : Int32) (x3 : Int32) (x4 : Int32) (s : St) (w : Int32 × St) (hr : f_beginTable_98 x1 x2 x3 x4 s = some w) : Ev (GG g) M_beginTable 98 [.val (.ref o), .val (.int x1), .val (.int x2), .val (.int x3), .val (.int x4)] [] (K s) ((some (.int w.1)), (K w.2)) := by
  unfold f_beginTable_98 at hr
  refine Ev.iload (d4 55 rfl) rfl ?_
  refine Ev.iconst (z := 2) (d4 56 rfl) rfl ?_
  refine Ev.iclt (t := 112) (d4 57 rfl) rfl (fun c1 => ?_) (fun c1 => ?_)
  · replace hr := (if_pos c1).symm.trans hr
    exact e_beginTable_112 hw V  x1 x2 x3 x4 s  _ hr
  · replace hr := (if_neg c1).symm.trans hr
    refine Ev.iloadN (d4 58 rfl) rfl ?_
    refine Ev.iloadN (d4 59 rfl) rfl ?_
    refine Ev.icne (t := 112) (d4 60 rfl) rfl (fun c2 => ?_) (fun c2 => ?_)
    · replace hr := (if_pos c2).symm.trans hr
      refine Ev.bipush (z := -11) (d4 61 rfl) rfl ?_
      cases hr
      exact Ev.ireturn rfl (d4 62 rfl)
    · replace hr := (if_neg c2).symm.trans hr
      exact e_beginTable_112 hw V  x1 x2 x3 x4 s  _ hr
def f_beginTable_82 (x1 : Int32) (x2 : Int32) (x3 : Int32) (x4 : Int32) (s : St) : Option (Int32 × St) :=
  if x4 = (3 : Int32) then
    (f_validVar s x3).bind fun q2 =>
    if q2 = 0 then
      some ((-1 : Int32), s)
    else
      f_beginTable_98 x1 x2 x3 x4 s
  else
    f_beginTable_98 x1 x2 x3 x4 s
set_option maxRecDepth 100000 in
theorem e_beginTable_82 {g : GT} (hw : HW g) {K : St → MHeap} {o : Nat} {r : Nat → Nat} (V : View (GG g) Ln K o r) (x1 : Int32) (x2 : Int32) (x3 : Int32) (x4 : Int32) (s : St) (w : Int32 × St) (hr : f_beginTable_82 x1 x2 x3 x4 s = some w) : Ev (GG g) M_beginTable 82 [.val (.ref o), .val (.int x1), .val (.int x2), .val (.int x3), .val (.int x4)] [] (K s) ((some (.int w.1)), (K w.2)) := by
  unfold f_beginTable_82 at hr
  refine Ev.iload (d4 46 rfl) rfl ?_
  refine Ev.iconst (z := 3) (d4 47 rfl) rfl ?_
  refine Ev.icne (t := 98) (d4 48 rfl) rfl (fun c1 => ?_) (fun c1 => ?_)
  · replace hr := (if_pos c1).symm.trans hr
    refine Ev.aloadN (d4 49 rfl) rfl ?_
    refine Ev.iloadN (d4 50 rfl) rfl ?_
    obtain ⟨q2, hq3, hr⟩ := Option.bind_eq_some_iff.mp hr
    refine Ev.priv (y := M_validVar) (args := [.int x3]) (rest := []) (gok hw) rfl nm_validVar (ww hw 74 rfl) (ww hw 75 rfl) (ww hw 76 rfl) (ww hw 77 rfl) (lenOf pd_validVar rfl) (d4 51 rfl) (V.2.1 s) (e_validVar hw V hq3) (by decide) (Nat.le_of_ble_eq_true rfl) rfl ?_
    refine Ev.ifne (t := 98) (d4 52 rfl) rfl (fun c4 => ?_) (fun c4 => ?_)
    · replace hr := (if_pos c4).symm.trans hr
      refine Ev.iconst (z := -1) (d4 53 rfl) rfl ?_
      cases hr
      exact Ev.ireturn rfl (d4 54 rfl)
    · replace hr := (if_neg c4).symm.trans hr
      exact e_beginTable_98 hw V  x1 x2 x3 x4 s  _ hr
  · replace hr := (if_neg c1).symm.trans hr
    exact e_beginTable_98 hw V  x1 x2 x3 x4 s  _ hr
def f_beginTable_54 (x1 : Int32) (x2 : Int32) (x3 : Int32) (z0 : Int32) (s : St) : Option (Int32 × St) :=
  (f_validVar s x1).bind fun q1 =>
  if q1 = 0 then
    some ((-1 : Int32), s)
  else
    if z0 < (2 : Int32) then
      f_beginTable_82 x1 x2 x3 z0 s
    else
      (f_validVar s x2).bind fun q5 =>
      if q5 = 0 then
        some ((-1 : Int32), s)
      else
        f_beginTable_82 x1 x2 x3 z0 s
set_option maxRecDepth 100000 in
theorem e_beginTable_54 {g : GT} (hw : HW g) {K : St → MHeap} {o : Nat} {r : Nat → Nat} (V : View (GG g) Ln K o r) (x1 : Int32) (x2 : Int32) (x3 : Int32) (z0 : Int32) (s : St) (y4 : Slot) (hy4 : one1 y4 = true) (w : Int32 × St) (hr : f_beginTable_54 x1 x2 x3 z0 s = some w) : Ev (GG g) M_beginTable 54 [.val (.ref o), .val (.int x1), .val (.int x2), .val (.int x3), y4] [.int z0] (K s) ((some (.int w.1)), (K w.2)) := by
  unfold f_beginTable_54 at hr
  refine Ev.istD (L' := [.val (.ref o), .val (.int x1), .val (.int x2), .val (.int x3), .val (.int z0)]) (d4 30 rfl) rfl hy4 rfl ?_
  refine Ev.aloadN (d4 31 rfl) rfl ?_
  refine Ev.iloadN (d4 32 rfl) rfl ?_
  obtain ⟨q1, hq2, hr⟩ := Option.bind_eq_some_iff.mp hr
  refine Ev.priv (y := M_validVar) (args := [.int x1]) (rest := []) (gok hw) rfl nm_validVar (ww hw 74 rfl) (ww hw 75 rfl) (ww hw 76 rfl) (ww hw 77 rfl) (lenOf pd_validVar rfl) (d4 33 rfl) (V.2.1 s) (e_validVar hw V hq2) (by decide) (Nat.le_of_ble_eq_true rfl) rfl ?_
  refine Ev.ifne (t := 66) (d4 34 rfl) rfl (fun c3 => ?_) (fun c3 => ?_)
  · replace hr := (if_pos c3).symm.trans hr
    refine Ev.iconst (z := -1) (d4 35 rfl) rfl ?_
    cases hr
    exact Ev.ireturn rfl (d4 36 rfl)
  · replace hr := (if_neg c3).symm.trans hr
    refine Ev.iload (d4 37 rfl) rfl ?_
    refine Ev.iconst (z := 2) (d4 38 rfl) rfl ?_
    refine Ev.iclt (t := 82) (d4 39 rfl) rfl (fun c4 => ?_) (fun c4 => ?_)
    · replace hr := (if_pos c4).symm.trans hr
      exact e_beginTable_82 hw V  x1 x2 x3 z0 s  _ hr
    · replace hr := (if_neg c4).symm.trans hr
      refine Ev.aloadN (d4 40 rfl) rfl ?_
      refine Ev.iloadN (d4 41 rfl) rfl ?_
      obtain ⟨q5, hq6, hr⟩ := Option.bind_eq_some_iff.mp hr
      refine Ev.priv (y := M_validVar) (args := [.int x2]) (rest := []) (gok hw) rfl nm_validVar (ww hw 74 rfl) (ww hw 75 rfl) (ww hw 76 rfl) (ww hw 77 rfl) (lenOf pd_validVar rfl) (d4 42 rfl) (V.2.1 s) (e_validVar hw V hq6) (by decide) (Nat.le_of_ble_eq_true rfl) rfl ?_
      refine Ev.ifne (t := 82) (d4 43 rfl) rfl (fun c7 => ?_) (fun c7 => ?_)
      · replace hr := (if_pos c7).symm.trans hr
        refine Ev.iconst (z := -1) (d4 44 rfl) rfl ?_
        cases hr
        exact Ev.ireturn rfl (d4 45 rfl)
      · replace hr := (if_neg c7).symm.trans hr
        exact e_beginTable_82 hw V  x1 x2 x3 z0 s  _ hr
def f_beginTable_35 (x1 : Int32) (x2 : Int32) (x3 : Int32) (s : St) : Option (Int32 × St) :=
  if x2 = (-1 : Int32) then
    f_beginTable_54 x1 x2 x3 (1 : Int32) s
  else
    if x3 = (-1 : Int32) then
      f_beginTable_54 x1 x2 x3 (2 : Int32) s
    else
      f_beginTable_54 x1 x2 x3 (3 : Int32) s
set_option maxRecDepth 100000 in
theorem e_beginTable_35 {g : GT} (hw : HW g) {K : St → MHeap} {o : Nat} {r : Nat → Nat} (V : View (GG g) Ln K o r) (x1 : Int32) (x2 : Int32) (x3 : Int32) (s : St) (y4 : Slot) (hy4 : one1 y4 = true) (w : Int32 × St) (hr : f_beginTable_35 x1 x2 x3 s = some w) : Ev (GG g) M_beginTable 35 [.val (.ref o), .val (.int x1), .val (.int x2), .val (.int x3), y4] [] (K s) ((some (.int w.1)), (K w.2)) := by
  unfold f_beginTable_35 at hr
  refine Ev.iloadN (d4 19 rfl) rfl ?_
  refine Ev.iconst (z := -1) (d4 20 rfl) rfl ?_
  refine Ev.icne (t := 44) (d4 21 rfl) rfl (fun c1 => ?_) (fun c1 => ?_)
  · replace hr := (if_pos c1).symm.trans hr
    refine Ev.iconst (z := 1) (d4 22 rfl) rfl ?_
    refine Ev.goto (t := 54) (d4 23 rfl) rfl ?_
    exact e_beginTable_54 hw V  x1 x2 x3 (1 : Int32) s y4 hy4 _ hr
  · replace hr := (if_neg c1).symm.trans hr
    refine Ev.iloadN (d4 24 rfl) rfl ?_
    refine Ev.iconst (z := -1) (d4 25 rfl) rfl ?_
    refine Ev.icne (t := 53) (d4 26 rfl) rfl (fun c2 => ?_) (fun c2 => ?_)
    · replace hr := (if_pos c2).symm.trans hr
      refine Ev.iconst (z := 2) (d4 27 rfl) rfl ?_
      refine Ev.goto (t := 54) (d4 28 rfl) rfl ?_
      exact e_beginTable_54 hw V  x1 x2 x3 (2 : Int32) s y4 hy4 _ hr
    · replace hr := (if_neg c2).symm.trans hr
      refine Ev.iconst (z := 3) (d4 29 rfl) rfl ?_
      exact e_beginTable_54 hw V  x1 x2 x3 (3 : Int32) s y4 hy4 _ hr
def f_beginTable (a0 : Int32) (a1 : Int32) (a2 : Int32) (s : St) : Option (Int32 × St) :=
  if (s.1 24) = 0 then
    if (s.1 23) < (8 : Int32) then
      if a1 = (-1 : Int32) then
        if a2 = (-1 : Int32) then
          f_beginTable_35 a0 a1 a2 s
        else
          some ((-11 : Int32), s)
      else
        f_beginTable_35 a0 a1 a2 s
    else
      some ((-6 : Int32), s)
  else
    some ((-3 : Int32), s)
set_option maxRecDepth 100000 in
theorem e_beginTable {g : GT} {a0 : Int32} {a1 : Int32} {a2 : Int32} {s : St} {w : Int32 × St} (hw : HW g) {K : St → MHeap} {o : Nat} {r : Nat → Nat} (V : View (GG g) Ln K o r) (hr : f_beginTable a0 a1 a2 s = some w) : EvC (GG g) M_beginTable [.ref o, .int a0, .int a1, .int a2] (K s) ((some (.int w.1)), (K w.2)) := by
  refine EvC.enter (L0 := [.val (.ref o), .val (.int a0), .val (.int a1), .val (.int a2), .unset]) pl_beginTable (fun h => nomatch h) rfl rfl ?_
  unfold f_beginTable at hr
  refine Ev.aloadN (d4 0 rfl) rfl ?_
  refine Ev.gI V (ww hw 63 rfl) (d4 1 rfl) (j := 24) rfl rfl ?_
  refine Ev.ifeq (t := 10) (d4 2 rfl) rfl (fun c1 => ?_) (fun c1 => ?_)
  · replace hr := (if_pos c1).symm.trans hr
    refine Ev.aloadN (d4 5 rfl) rfl ?_
    refine Ev.gI V (ww hw 61 rfl) (d4 6 rfl) (j := 23) rfl rfl ?_
    refine Ev.bipush (z := 8) (d4 7 rfl) rfl ?_
    refine Ev.iclt (t := 22) (d4 8 rfl) rfl (fun c2 => ?_) (fun c2 => ?_)
    · replace hr := (if_pos c2).symm.trans hr
      refine Ev.iloadN (d4 11 rfl) rfl ?_
      refine Ev.iconst (z := -1) (d4 12 rfl) rfl ?_
      refine Ev.icne (t := 35) (d4 13 rfl) rfl (fun c3 => ?_) (fun c3 => ?_)
      · replace hr := (if_pos c3).symm.trans hr
        refine Ev.iloadN (d4 14 rfl) rfl ?_
        refine Ev.iconst (z := -1) (d4 15 rfl) rfl ?_
        refine Ev.iceq (t := 35) (d4 16 rfl) rfl (fun c4 => ?_) (fun c4 => ?_)
        · replace hr := (if_pos c4).symm.trans hr
          exact e_beginTable_35 hw V  a0 a1 a2 s .unset rfl _ hr
        · replace hr := (if_neg c4).symm.trans hr
          refine Ev.bipush (z := -11) (d4 17 rfl) rfl ?_
          cases hr
          exact Ev.ireturn rfl (d4 18 rfl)
      · replace hr := (if_neg c3).symm.trans hr
        exact e_beginTable_35 hw V  a0 a1 a2 s .unset rfl _ hr
    · replace hr := (if_neg c2).symm.trans hr
      refine Ev.bipush (z := -6) (d4 9 rfl) rfl ?_
      cases hr
      exact Ev.ireturn rfl (d4 10 rfl)
  · replace hr := (if_neg c1).symm.trans hr
    refine Ev.bipush (z := -3) (d4 3 rfl) rfl ?_
    cases hr
    exact Ev.ireturn rfl (d4 4 rfl)
def f_validValue (s : St) (a0 : Int32) : Option (Int32) :=
  if a0 < 0 then
    some (0 : Int32)
  else
    if a0 < (s.1 21) then
      some (1 : Int32)
    else
      some (0 : Int32)
set_option maxRecDepth 100000 in
theorem e_validValue {g : GT} {s : St} {a0 : Int32} {w : Int32} (hw : HW g) {K : St → MHeap} {o : Nat} {r : Nat → Nat} (V : View (GG g) Ln K o r) (hr : f_validValue s a0 = some w) : EvC (GG g) M_validValue [.ref o, .int a0] (K s) ((some (.int w)), (K s)) := by
  refine EvC.enter (L0 := [.val (.ref o), .val (.int a0)]) pl_validValue (fun h => nomatch h) rfl rfl ?_
  unfold f_validValue at hr
  refine Ev.iloadN (d7 0 rfl) rfl ?_
  refine Ev.iflt (t := 16) (d7 1 rfl) rfl (fun c1 => ?_) (fun c1 => ?_)
  · replace hr := (if_pos c1).symm.trans hr
    refine Ev.iconst (z := 0) (d7 8 rfl) rfl ?_
    cases hr
    exact Ev.zret0 rfl (d7 9 rfl)
  · replace hr := (if_neg c1).symm.trans hr
    refine Ev.iloadN (d7 2 rfl) rfl ?_
    refine Ev.aloadN (d7 3 rfl) rfl ?_
    refine Ev.gI V (ww hw 53 rfl) (d7 4 rfl) (j := 21) rfl rfl ?_
    refine Ev.icge (t := 16) (d7 5 rfl) rfl (fun c2 => ?_) (fun c2 => ?_)
    · replace hr := (if_pos c2).symm.trans hr
      refine Ev.iconst (z := 1) (d7 6 rfl) rfl ?_
      refine Ev.goto (t := 17) (d7 7 rfl) rfl ?_
      cases hr
      exact Ev.zret1 rfl (d7 9 rfl)
    · replace hr := (if_neg c2).symm.trans hr
      refine Ev.iconst (z := 0) (d7 8 rfl) rfl ?_
      cases hr
      exact Ev.zret0 rfl (d7 9 rfl)
def f_addTuple_135 (n : Nat) (x4 : Int32) (s : St) : Option (Int32 × St) :=
  if (s.1 29) < (16 : Int32) then
    grd (inb (s.1 29) 16) <|
    bnd (setA s 1 (ix (s.1 29)) x4) fun s3 =>
    bnd (setI s3 29 ((s3.1 29) + (1 : Int32))) fun s4 =>
    some ((0 : Int32), s4)
  else
    some ((-6 : Int32), s)
set_option maxRecDepth 100000 in
theorem e_addTuple_135 {g : GT} {n : Nat} (hw : HW g) {K : St → MHeap} {o : Nat} {r : Nat → Nat} (V : View (GG g) Ln K o r) (x4 : Int32) (s : St) (y1 : Slot) (hy1 : one1 y1 = true) (y2 : Slot) (hy2 : one1 y2 = true) (y3 : Slot) (hy3 : one1 y3 = true) (y5 : Slot) (hy5 : one1 y5 = true) (w : Int32 × St) (hr : f_addTuple_135 n x4 s = some w) : Ev (GG g) M_addTuple 135 [.val (.ref o), y1, y2, y3, .val (.int x4), y5] [] (K s) ((some (.int w.1)), (K w.2)) := by
  unfold f_addTuple_135 at hr
  refine Ev.aloadN (d6 72 rfl) rfl ?_
  refine Ev.gI V (ww hw 86 rfl) (d6 73 rfl) (j := 29) rfl rfl ?_
  refine Ev.bipush (z := 16) (d6 74 rfl) rfl ?_
  refine Ev.iclt (t := 147) (d6 75 rfl) rfl (fun c1 => ?_) (fun c1 => ?_)
  · replace hr := (if_pos c1).symm.trans hr
    refine Ev.aloadN (d6 78 rfl) rfl ?_
    refine Ev.gAr V (ww hw 12 rfl) (d6 79 rfl) (j := 1) rfl ?_
    refine Ev.aloadN (d6 80 rfl) rfl ?_
    refine Ev.gI V (ww hw 86 rfl) (d6 81 rfl) (j := 29) rfl rfl ?_
    refine Ev.iload (d6 82 rfl) rfl ?_
    obtain ⟨b2, hr⟩ := grd_some hr
    refine Ev.ias V (j := 1) rfl rfl (d6 83 rfl) b2 ?_
    revert hr
    generalize setA s 1 (ix (s.1 29)) x4 = s3
    intro hr
    replace hr := (bnd_eq _ _).symm.trans hr
    refine Ev.aloadN (d6 84 rfl) rfl ?_
    refine Ev.dup (d6 85 rfl) rfl ?_
    refine Ev.gI V (ww hw 86 rfl) (d6 86 rfl) (j := 29) rfl rfl ?_
    refine Ev.iconst (z := 1) (d6 87 rfl) rfl ?_
    refine Ev.iadd (d6 88 rfl) ?_
    refine Ev.pI V (gok hw) (ww hw 86 rfl) (Or.inl (ww hw 87 rfl)) (d6 89 rfl) (j := 29) rfl ?_
    revert hr
    generalize setI s3 29 ((s3.1 29) + (1 : Int32)) = s4
    intro hr
    replace hr := (bnd_eq _ _).symm.trans hr
    refine Ev.iconst (z := 0) (d6 90 rfl) rfl ?_
    cases hr
    exact Ev.ireturn rfl (d6 91 rfl)
  · replace hr := (if_neg c1).symm.trans hr
    refine Ev.bipush (z := -6) (d6 76 rfl) rfl ?_
    cases hr
    exact Ev.ireturn rfl (d6 77 rfl)
def f_addTuple_98 (n : Nat) : Nat → Int32 → Int32 → St → Option (Int32 × St)
  | 0 => fun _ _ _ => none
  | k + 1 => fun x4 x5 s =>
    if x5 < (s.1 29) then
      if x5 < (16 : Int32) then
        grd (inb x5 16) <|
        if (s.2 1 (ix x5)) = x4 then
          some ((-5 : Int32), s)
        else
          f_addTuple_98 n k x4 (x5 + (1 : Int32)) s
      else
        f_addTuple_135 n x4 s
    else
      f_addTuple_135 n x4 s
set_option maxRecDepth 100000 in
theorem e_addTuple_98 {g : GT} {n : Nat} (hw : HW g) {K : St → MHeap} {o : Nat} {r : Nat → Nat} (V : View (GG g) Ln K o r) (k : Nat) : ∀ (x4 : Int32) (x5 : Int32) (s : St) (y1 : Slot) (hy1 : one1 y1 = true) (y2 : Slot) (hy2 : one1 y2 = true) (y3 : Slot) (hy3 : one1 y3 = true) (w : Int32 × St), f_addTuple_98 n k x4 x5 s = some w → Ev (GG g) M_addTuple 98 [.val (.ref o), y1, y2, y3, .val (.int x4), .val (.int x5)] [] (K s) ((some (.int w.1)), (K w.2)) := by
  induction k with
  | zero => intro x4 x5 s y1 hy1 y2 hy2 y3 hy3 w hr; rw [f_addTuple_98] at hr; cases hr
  | succ k ih =>
    intro x4 x5 s y1 hy1 y2 hy2 y3 hy3 w hr
    rw [f_addTuple_98] at hr
    refine Ev.iload (d6 55 rfl) rfl ?_
    refine Ev.aloadN (d6 56 rfl) rfl ?_
    refine Ev.gI V (ww hw 86 rfl) (d6 57 rfl) (j := 29) rfl rfl ?_
    refine Ev.icge (t := 135) (d6 58 rfl) rfl (fun c1 => ?_) (fun c1 => ?_)
    · replace hr := (if_pos c1).symm.trans hr
      refine Ev.iload (d6 59 rfl) rfl ?_
      refine Ev.bipush (z := 16) (d6 60 rfl) rfl ?_
      refine Ev.icge (t := 135) (d6 61 rfl) rfl (fun c2 => ?_) (fun c2 => ?_)
      · replace hr := (if_pos c2).symm.trans hr
        refine Ev.aloadN (d6 62 rfl) rfl ?_
        refine Ev.gAr V (ww hw 12 rfl) (d6 63 rfl) (j := 1) rfl ?_
        refine Ev.iload (d6 64 rfl) rfl ?_
        obtain ⟨b3, hr⟩ := grd_some hr
        refine Ev.ial V (j := 1) rfl rfl (d6 65 rfl) b3 ?_
        refine Ev.iload (d6 66 rfl) rfl ?_
        refine Ev.icne (t := 129) (d6 67 rfl) rfl (fun c4 => ?_) (fun c4 => ?_)
        · replace hr := (if_pos c4).symm.trans hr
          refine Ev.bipush (z := -5) (d6 68 rfl) rfl ?_
          cases hr
          exact Ev.ireturn rfl (d6 69 rfl)
        · replace hr := (if_neg c4).symm.trans hr
          refine Ev.iinc (z := 1) (L' := [.val (.ref o), y1, y2, y3, .val (.int x4), .val (.int (x5 + (1 : Int32)))]) (d6 70 rfl) rfl rfl rfl ?_
          refine Ev.goto (t := 98) (d6 71 rfl) rfl ?_
          exact ih x4 (x5 + (1 : Int32)) s y1 hy1 y2 hy2 y3 hy3 _ hr
      · replace hr := (if_neg c2).symm.trans hr
        exact e_addTuple_135 hw V  x4 s y1 hy1 y2 hy2 y3 hy3 (.val (.int x5)) rfl _ hr
    · replace hr := (if_neg c1).symm.trans hr
      exact e_addTuple_135 hw V  x4 s y1 hy1 y2 hy2 y3 hy3 (.val (.int x5)) rfl _ hr
def f_addTuple_95 (n : Nat) (x4 : Int32) (s : St) : Option (Int32 × St) :=
  f_addTuple_98 n n x4 (0 : Int32) s
set_option maxRecDepth 100000 in
theorem e_addTuple_95 {g : GT} {n : Nat} (hw : HW g) {K : St → MHeap} {o : Nat} {r : Nat → Nat} (V : View (GG g) Ln K o r) (x4 : Int32) (s : St) (y1 : Slot) (hy1 : one1 y1 = true) (y2 : Slot) (hy2 : one1 y2 = true) (y3 : Slot) (hy3 : one1 y3 = true) (y5 : Slot) (hy5 : one1 y5 = true) (w : Int32 × St) (hr : f_addTuple_95 n x4 s = some w) : Ev (GG g) M_addTuple 95 [.val (.ref o), y1, y2, y3, .val (.int x4), y5] [] (K s) ((some (.int w.1)), (K w.2)) := by
  unfold f_addTuple_95 at hr
  refine Ev.iconst (z := 0) (d6 53 rfl) rfl ?_
  refine Ev.istD (L' := [.val (.ref o), y1, y2, y3, .val (.int x4), .val (.int (0 : Int32))]) (d6 54 rfl) rfl hy5 rfl ?_
  exact e_addTuple_98 hw V  n x4 (0 : Int32) s y1 hy1 y2 hy2 y3 hy3 _ hr
def f_addTuple_81 (n : Nat) (x3 : Int32) (x4 : Int32) (s : St) : Option (Int32 × St) :=
  if (s.1 25) = (3 : Int32) then
    f_addTuple_95 n (x4 + x3) s
  else
    f_addTuple_95 n x4 s
set_option maxRecDepth 100000 in
theorem e_addTuple_81 {g : GT} {n : Nat} (hw : HW g) {K : St → MHeap} {o : Nat} {r : Nat → Nat} (V : View (GG g) Ln K o r) (x3 : Int32) (x4 : Int32) (s : St) (y1 : Slot) (hy1 : one1 y1 = true) (y2 : Slot) (hy2 : one1 y2 = true) (y5 : Slot) (hy5 : one1 y5 = true) (w : Int32 × St) (hr : f_addTuple_81 n x3 x4 s = some w) : Ev (GG g) M_addTuple 81 [.val (.ref o), y1, y2, .val (.int x3), .val (.int x4), y5] [] (K s) ((some (.int w.1)), (K w.2)) := by
  unfold f_addTuple_81 at hr
  refine Ev.aloadN (d6 45 rfl) rfl ?_
  refine Ev.gI V (ww hw 78 rfl) (d6 46 rfl) (j := 25) rfl rfl ?_
  refine Ev.iconst (z := 3) (d6 47 rfl) rfl ?_
  refine Ev.icne (t := 95) (d6 48 rfl) rfl (fun c1 => ?_) (fun c1 => ?_)
  · replace hr := (if_pos c1).symm.trans hr
    refine Ev.iload (d6 49 rfl) rfl ?_
    refine Ev.iloadN (d6 50 rfl) rfl ?_
    refine Ev.iadd (d6 51 rfl) ?_
    refine Ev.istD (L' := [.val (.ref o), y1, y2, .val (.int x3), .val (.int (x4 + x3)), y5]) (d6 52 rfl) rfl rfl rfl ?_
    exact e_addTuple_95 hw V  (x4 + x3) s y1 hy1 y2 hy2 (.val (.int x3)) rfl y5 hy5 _ hr
  · replace hr := (if_neg c1).symm.trans hr
    exact e_addTuple_95 hw V  x4 s y1 hy1 y2 hy2 (.val (.int x3)) rfl y5 hy5 _ hr
def f_addTuple_59 (n : Nat) (x1 : Int32) (x2 : Int32) (x3 : Int32) (s : St) : Option (Int32 × St) :=
  if (s.1 25) < (2 : Int32) then
    f_addTuple_81 n x3 (x1 * (16 : Int32)) s
  else
    bnd ((x1 * (16 : Int32)) + (x2 * (4 : Int32))) fun v2 =>
    f_addTuple_81 n x3 v2 s
set_option maxRecDepth 100000 in
theorem e_addTuple_59 {g : GT} {n : Nat} (hw : HW g) {K : St → MHeap} {o : Nat} {r : Nat → Nat} (V : View (GG g) Ln K o r) (x1 : Int32) (x2 : Int32) (x3 : Int32) (s : St) (y4 : Slot) (hy4 : one1 y4 = true) (y5 : Slot) (hy5 : one1 y5 = true) (w : Int32 × St) (hr : f_addTuple_59 n x1 x2 x3 s = some w) : Ev (GG g) M_addTuple 59 [.val (.ref o), .val (.int x1), .val (.int x2), .val (.int x3), y4, y5] [] (K s) ((some (.int w.1)), (K w.2)) := by
  unfold f_addTuple_59 at hr
  refine Ev.iloadN (d6 31 rfl) rfl ?_
  refine Ev.bipush (z := 16) (d6 32 rfl) rfl ?_
  refine Ev.imul (d6 33 rfl) ?_
  refine Ev.istD (L' := [.val (.ref o), .val (.int x1), .val (.int x2), .val (.int x3), .val (.int (x1 * (16 : Int32))), y5]) (d6 34 rfl) rfl hy4 rfl ?_
  refine Ev.aloadN (d6 35 rfl) rfl ?_
  refine Ev.gI V (ww hw 78 rfl) (d6 36 rfl) (j := 25) rfl rfl ?_
  refine Ev.iconst (z := 2) (d6 37 rfl) rfl ?_
  refine Ev.iclt (t := 81) (d6 38 rfl) rfl (fun c1 => ?_) (fun c1 => ?_)
  · replace hr := (if_pos c1).symm.trans hr
    exact e_addTuple_81 hw V  x3 (x1 * (16 : Int32)) s (.val (.int x1)) rfl (.val (.int x2)) rfl y5 hy5 _ hr
  · replace hr := (if_neg c1).symm.trans hr
    refine Ev.iload (d6 39 rfl) rfl ?_
    refine Ev.iloadN (d6 40 rfl) rfl ?_
    refine Ev.iconst (z := 4) (d6 41 rfl) rfl ?_
    refine Ev.imul (d6 42 rfl) ?_
    refine Ev.iadd (d6 43 rfl) ?_
    revert hr
    generalize ((x1 * (16 : Int32)) + (x2 * (4 : Int32))) = v2
    intro hr
    replace hr := (bnd_eq _ _).symm.trans hr
    refine Ev.istD (L' := [.val (.ref o), .val (.int x1), .val (.int x2), .val (.int x3), .val (.int v2), y5]) (d6 44 rfl) rfl rfl rfl ?_
    exact e_addTuple_81 hw V  x3 v2 s (.val (.int x1)) rfl (.val (.int x2)) rfl y5 hy5 _ hr
def f_addTuple_40 (n : Nat) (x1 : Int32) (x2 : Int32) (x3 : Int32) (s : St) : Option (Int32 × St) :=
  if (s.1 25) = (3 : Int32) then
    (f_validValue s x3).bind fun q2 =>
    if q2 = 0 then
      some ((-2 : Int32), s)
    else
      f_addTuple_59 n x1 x2 x3 s
  else
    f_addTuple_59 n x1 x2 x3 s
set_option maxRecDepth 100000 in
theorem e_addTuple_40 {g : GT} {n : Nat} (hw : HW g) {K : St → MHeap} {o : Nat} {r : Nat → Nat} (V : View (GG g) Ln K o r) (x1 : Int32) (x2 : Int32) (x3 : Int32) (s : St) (y4 : Slot) (hy4 : one1 y4 = true) (y5 : Slot) (hy5 : one1 y5 = true) (w : Int32 × St) (hr : f_addTuple_40 n x1 x2 x3 s = some w) : Ev (GG g) M_addTuple 40 [.val (.ref o), .val (.int x1), .val (.int x2), .val (.int x3), y4, y5] [] (K s) ((some (.int w.1)), (K w.2)) := by
  unfold f_addTuple_40 at hr
  refine Ev.aloadN (d6 21 rfl) rfl ?_
  refine Ev.gI V (ww hw 78 rfl) (d6 22 rfl) (j := 25) rfl rfl ?_
  refine Ev.iconst (z := 3) (d6 23 rfl) rfl ?_
  refine Ev.icne (t := 59) (d6 24 rfl) rfl (fun c1 => ?_) (fun c1 => ?_)
  · replace hr := (if_pos c1).symm.trans hr
    refine Ev.aloadN (d6 25 rfl) rfl ?_
    refine Ev.iloadN (d6 26 rfl) rfl ?_
    obtain ⟨q2, hq3, hr⟩ := Option.bind_eq_some_iff.mp hr
    refine Ev.priv (y := M_validValue) (args := [.int x3]) (rest := []) (gok hw) rfl nm_validValue (ww hw 93 rfl) (ww hw 94 rfl) (ww hw 95 rfl) (ww hw 96 rfl) (lenOf pd_validValue rfl) (d6 27 rfl) (V.2.1 s) (e_validValue hw V hq3) (by decide) (Nat.le_of_ble_eq_true rfl) rfl ?_
    refine Ev.ifne (t := 59) (d6 28 rfl) rfl (fun c4 => ?_) (fun c4 => ?_)
    · replace hr := (if_pos c4).symm.trans hr
      refine Ev.bipush (z := -2) (d6 29 rfl) rfl ?_
      cases hr
      exact Ev.ireturn rfl (d6 30 rfl)
    · replace hr := (if_neg c4).symm.trans hr
      exact e_addTuple_59 hw V  x1 x2 x3 s y4 hy4 y5 hy5 _ hr
  · replace hr := (if_neg c1).symm.trans hr
    exact e_addTuple_59 hw V  x1 x2 x3 s y4 hy4 y5 hy5 _ hr
def f_addTuple (n : Nat) (a0 : Int32) (a1 : Int32) (a2 : Int32) (s : St) : Option (Int32 × St) :=
  if (s.1 24) = 0 then
    some ((-4 : Int32), s)
  else
    (f_validValue s a0).bind fun q2 =>
    if q2 = 0 then
      some ((-2 : Int32), s)
    else
      if (s.1 25) < (2 : Int32) then
        f_addTuple_40 n a0 a1 a2 s
      else
        (f_validValue s a1).bind fun q6 =>
        if q6 = 0 then
          some ((-2 : Int32), s)
        else
          f_addTuple_40 n a0 a1 a2 s
set_option maxRecDepth 100000 in
theorem e_addTuple {g : GT} {n : Nat} {a0 : Int32} {a1 : Int32} {a2 : Int32} {s : St} {w : Int32 × St} (hw : HW g) {K : St → MHeap} {o : Nat} {r : Nat → Nat} (V : View (GG g) Ln K o r) (hr : f_addTuple n a0 a1 a2 s = some w) : EvC (GG g) M_addTuple [.ref o, .int a0, .int a1, .int a2] (K s) ((some (.int w.1)), (K w.2)) := by
  refine EvC.enter (L0 := [.val (.ref o), .val (.int a0), .val (.int a1), .val (.int a2), .unset, .unset]) pl_addTuple (fun h => nomatch h) rfl rfl ?_
  unfold f_addTuple at hr
  refine Ev.aloadN (d6 0 rfl) rfl ?_
  refine Ev.gI V (ww hw 63 rfl) (d6 1 rfl) (j := 24) rfl rfl ?_
  refine Ev.ifne (t := 10) (d6 2 rfl) rfl (fun c1 => ?_) (fun c1 => ?_)
  · replace hr := (if_pos c1).symm.trans hr
    refine Ev.bipush (z := -4) (d6 3 rfl) rfl ?_
    cases hr
    exact Ev.ireturn rfl (d6 4 rfl)
  · replace hr := (if_neg c1).symm.trans hr
    refine Ev.aloadN (d6 5 rfl) rfl ?_
    refine Ev.iloadN (d6 6 rfl) rfl ?_
    obtain ⟨q2, hq3, hr⟩ := Option.bind_eq_some_iff.mp hr
    refine Ev.priv (y := M_validValue) (args := [.int a0]) (rest := []) (gok hw) rfl nm_validValue (ww hw 93 rfl) (ww hw 94 rfl) (ww hw 95 rfl) (ww hw 96 rfl) (lenOf pd_validValue rfl) (d6 7 rfl) (V.2.1 s) (e_validValue hw V hq3) (by decide) (Nat.le_of_ble_eq_true rfl) rfl ?_
    refine Ev.ifne (t := 21) (d6 8 rfl) rfl (fun c4 => ?_) (fun c4 => ?_)
    · replace hr := (if_pos c4).symm.trans hr
      refine Ev.bipush (z := -2) (d6 9 rfl) rfl ?_
      cases hr
      exact Ev.ireturn rfl (d6 10 rfl)
    · replace hr := (if_neg c4).symm.trans hr
      refine Ev.aloadN (d6 11 rfl) rfl ?_
      refine Ev.gI V (ww hw 78 rfl) (d6 12 rfl) (j := 25) rfl rfl ?_
      refine Ev.iconst (z := 2) (d6 13 rfl) rfl ?_
      refine Ev.iclt (t := 40) (d6 14 rfl) rfl (fun c5 => ?_) (fun c5 => ?_)
      · replace hr := (if_pos c5).symm.trans hr
        exact e_addTuple_40 hw V  a0 a1 a2 s .unset rfl .unset rfl _ hr
      · replace hr := (if_neg c5).symm.trans hr
        refine Ev.aloadN (d6 15 rfl) rfl ?_
        refine Ev.iloadN (d6 16 rfl) rfl ?_
        obtain ⟨q6, hq7, hr⟩ := Option.bind_eq_some_iff.mp hr
        refine Ev.priv (y := M_validValue) (args := [.int a1]) (rest := []) (gok hw) rfl nm_validValue (ww hw 93 rfl) (ww hw 94 rfl) (ww hw 95 rfl) (ww hw 96 rfl) (lenOf pd_validValue rfl) (d6 17 rfl) (V.2.1 s) (e_validValue hw V hq7) (by decide) (Nat.le_of_ble_eq_true rfl) rfl ?_
        refine Ev.ifne (t := 40) (d6 18 rfl) rfl (fun c8 => ?_) (fun c8 => ?_)
        · replace hr := (if_pos c8).symm.trans hr
          refine Ev.bipush (z := -2) (d6 19 rfl) rfl ?_
          cases hr
          exact Ev.ireturn rfl (d6 20 rfl)
        · replace hr := (if_neg c8).symm.trans hr
          exact e_addTuple_40 hw V  a0 a1 a2 s .unset rfl .unset rfl _ hr
def f_ensureRoom (s : St) : Option (Unit) :=
  if (2048 : Int32) < ((s.1 22) + (512 : Int32)) then
    none
  else
    some ()
set_option maxRecDepth 100000 in
theorem e_ensureRoom {g : GT} {s : St} {w : Unit} (hw : HW g) {K : St → MHeap} {o : Nat} {r : Nat → Nat} (V : View (GG g) Ln K o r) (hr : f_ensureRoom s = some w) : EvC (GG g) M_ensureRoom [.ref o] (K s) (none, (K s)) := by
  refine EvC.enter (L0 := [.val (.ref o)]) pl_ensureRoom (fun _ => rfl) rfl rfl ?_
  unfold f_ensureRoom at hr
  refine Ev.aloadN (d9 0 rfl) rfl ?_
  refine Ev.gI V (ww hw 55 rfl) (d9 1 rfl) (j := 22) rfl rfl ?_
  refine Ev.sipush (z := 512) (d9 2 rfl) rfl ?_
  refine Ev.iadd (d9 3 rfl) ?_
  refine Ev.sipush (z := 2048) (d9 4 rfl) rfl ?_
  refine Ev.icgt (t := 15) (d9 5 rfl) rfl (fun c1 => ?_) (fun c1 => ?_)
  · replace hr := (if_pos c1).symm.trans hr
    refine Ev.aloadN (d9 7 rfl) rfl ?_
    cases hr
  · replace hr := (if_neg c1).symm.trans hr
    cases hr
    exact Ev.vreturn rfl (d9 6 rfl)
def f_pow_4 (n : Nat) (s : St) : Nat → Int32 → Int32 → Int32 → Option (Int32)
  | 0 => fun _ _ _ => none
  | k + 1 => fun x1 x2 x3 =>
    if x3 < x1 then
      if x3 < (5 : Int32) then
        f_pow_4 n s k x1 (x2 * (s.1 21)) (x3 + (1 : Int32))
      else
        some x2
    else
      some x2
set_option maxRecDepth 100000 in
theorem e_pow_4 {g : GT} {n : Nat} {s : St} (hw : HW g) {K : St → MHeap} {o : Nat} {r : Nat → Nat} (V : View (GG g) Ln K o r) (k : Nat) : ∀ (x1 : Int32) (x2 : Int32) (x3 : Int32) (w : Int32), f_pow_4 n s k x1 x2 x3 = some w → Ev (GG g) M_pow 4 [.val (.ref o), .val (.int x1), .val (.int x2), .val (.int x3)] [] (K s) ((some (.int w)), (K s)) := by
  induction k with
  | zero => intro x1 x2 x3 w hr; rw [f_pow_4] at hr; cases hr
  | succ k ih =>
    intro x1 x2 x3 w hr
    rw [f_pow_4] at hr
    refine Ev.iloadN (d11 4 rfl) rfl ?_
    refine Ev.iloadN (d11 5 rfl) rfl ?_
    refine Ev.icge (t := 27) (d11 6 rfl) rfl (fun c1 => ?_) (fun c1 => ?_)
    · replace hr := (if_pos c1).symm.trans hr
      refine Ev.iloadN (d11 7 rfl) rfl ?_
      refine Ev.iconst (z := 5) (d11 8 rfl) rfl ?_
      refine Ev.icge (t := 27) (d11 9 rfl) rfl (fun c2 => ?_) (fun c2 => ?_)
      · replace hr := (if_pos c2).symm.trans hr
        refine Ev.iloadN (d11 10 rfl) rfl ?_
        refine Ev.aloadN (d11 11 rfl) rfl ?_
        refine Ev.gI V (ww hw 53 rfl) (d11 12 rfl) (j := 21) rfl rfl ?_
        refine Ev.imul (d11 13 rfl) ?_
        refine Ev.istDN (L' := [.val (.ref o), .val (.int x1), .val (.int (x2 * (s.1 21))), .val (.int x3)]) (d11 14 rfl) rfl rfl rfl ?_
        refine Ev.iinc (z := 1) (L' := [.val (.ref o), .val (.int x1), .val (.int (x2 * (s.1 21))), .val (.int (x3 + (1 : Int32)))]) (d11 15 rfl) rfl rfl rfl ?_
        refine Ev.goto (t := 4) (d11 16 rfl) rfl ?_
        exact ih x1 (x2 * (s.1 21)) (x3 + (1 : Int32))  _ hr
      · replace hr := (if_neg c2).symm.trans hr
        refine Ev.iloadN (d11 17 rfl) rfl ?_
        cases hr
        exact Ev.ireturn rfl (d11 18 rfl)
    · replace hr := (if_neg c1).symm.trans hr
      refine Ev.iloadN (d11 17 rfl) rfl ?_
      cases hr
      exact Ev.ireturn rfl (d11 18 rfl)
def f_pow (n : Nat) (s : St) (a0 : Int32) : Option (Int32) :=
  f_pow_4 n s n a0 (1 : Int32) (0 : Int32)
set_option maxRecDepth 100000 in
theorem e_pow {g : GT} {n : Nat} {s : St} {a0 : Int32} {w : Int32} (hw : HW g) {K : St → MHeap} {o : Nat} {r : Nat → Nat} (V : View (GG g) Ln K o r) (hr : f_pow n s a0 = some w) : EvC (GG g) M_pow [.ref o, .int a0] (K s) ((some (.int w)), (K s)) := by
  refine EvC.enter (L0 := [.val (.ref o), .val (.int a0), .unset, .unset]) pl_pow (fun h => nomatch h) rfl rfl ?_
  unfold f_pow at hr
  refine Ev.iconst (z := 1) (d11 0 rfl) rfl ?_
  refine Ev.istDN (L' := [.val (.ref o), .val (.int a0), .val (.int (1 : Int32)), .unset]) (d11 1 rfl) rfl rfl rfl ?_
  refine Ev.iconst (z := 0) (d11 2 rfl) rfl ?_
  refine Ev.istDN (L' := [.val (.ref o), .val (.int a0), .val (.int (1 : Int32)), .val (.int (0 : Int32))]) (d11 3 rfl) rfl rfl rfl ?_
  exact e_pow_4 hw V  n a0 (1 : Int32) (0 : Int32)  _ hr
def f_decode_9 (n : Nat) : Nat → Int32 → Int32 → St → Option (St)
  | 0 => fun _ _ _ => none
  | k + 1 => fun x2 x3 s =>
    if x3 < 0 then
      some s
    else
      grd ((s.1 21) ≠ 0) <|
      grd (inb x3 5) <|
      bnd (setA s 4 (ix x3) (x2 % (s.1 21))) fun s4 =>
      grd ((s4.1 21) ≠ 0) <|
      f_decode_9 n k (x2 / (s4.1 21)) (x3 + (-1 : Int32)) s4
set_option maxRecDepth 100000 in
theorem e_decode_9 {g : GT} {n : Nat} (hw : HW g) {K : St → MHeap} {o : Nat} {r : Nat → Nat} (V : View (GG g) Ln K o r) (k : Nat) : ∀ (x2 : Int32) (x3 : Int32) (s : St) (y1 : Slot) (hy1 : one1 y1 = true) (w : St), f_decode_9 n k x2 x3 s = some w → Ev (GG g) M_decode 9 [.val (.ref o), y1, .val (.int x2), .val (.int x3)] [] (K s) (none, (K w)) := by
  induction k with
  | zero => intro x2 x3 s y1 hy1 w hr; rw [f_decode_9] at hr; cases hr
  | succ k ih =>
    intro x2 x3 s y1 hy1 w hr
    rw [f_decode_9] at hr
    refine Ev.iloadN (d12 7 rfl) rfl ?_
    refine Ev.iflt (t := 38) (d12 8 rfl) rfl (fun c1 => ?_) (fun c1 => ?_)
    · replace hr := (if_pos c1).symm.trans hr
      cases hr
      exact Ev.vreturn rfl (d12 24 rfl)
    · replace hr := (if_neg c1).symm.trans hr
      refine Ev.aloadN (d12 9 rfl) rfl ?_
      refine Ev.gAr V (ww hw 18 rfl) (d12 10 rfl) (j := 4) rfl ?_
      refine Ev.iloadN (d12 11 rfl) rfl ?_
      refine Ev.iloadN (d12 12 rfl) rfl ?_
      refine Ev.aloadN (d12 13 rfl) rfl ?_
      refine Ev.gI V (ww hw 53 rfl) (d12 14 rfl) (j := 21) rfl rfl ?_
      obtain ⟨c2, hr⟩ := grd_some hr
      refine Ev.irem (d12 15 rfl) c2 ?_
      obtain ⟨b3, hr⟩ := grd_some hr
      refine Ev.ias V (j := 4) rfl rfl (d12 16 rfl) b3 ?_
      revert hr
      generalize setA s 4 (ix x3) (x2 % (s.1 21)) = s4
      intro hr
      replace hr := (bnd_eq _ _).symm.trans hr
      refine Ev.iloadN (d12 17 rfl) rfl ?_
      refine Ev.aloadN (d12 18 rfl) rfl ?_
      refine Ev.gI V (ww hw 53 rfl) (d12 19 rfl) (j := 21) rfl rfl ?_
      obtain ⟨c5, hr⟩ := grd_some hr
      refine Ev.idiv (d12 20 rfl) c5 ?_
      refine Ev.istDN (L' := [.val (.ref o), y1, .val (.int (x2 / (s4.1 21))), .val (.int x3)]) (d12 21 rfl) rfl rfl rfl ?_
      refine Ev.iinc (z := -1) (L' := [.val (.ref o), y1, .val (.int (x2 / (s4.1 21))), .val (.int (x3 + (-1 : Int32)))]) (d12 22 rfl) rfl rfl rfl ?_
      refine Ev.goto (t := 9) (d12 23 rfl) rfl ?_
      exact ih (x2 / (s4.1 21)) (x3 + (-1 : Int32)) s4 y1 hy1 _ hr
def f_decode (n : Nat) (a0 : Int32) (s : St) : Option (St) :=
  f_decode_9 n n a0 ((s.1 20) - (1 : Int32)) s
set_option maxRecDepth 100000 in
theorem e_decode {g : GT} {n : Nat} {a0 : Int32} {s : St} {w : St} (hw : HW g) {K : St → MHeap} {o : Nat} {r : Nat → Nat} (V : View (GG g) Ln K o r) (hr : f_decode n a0 s = some w) : EvC (GG g) M_decode [.ref o, .int a0] (K s) (none, (K w)) := by
  refine EvC.enter (L0 := [.val (.ref o), .val (.int a0), .unset, .unset]) pl_decode (fun _ => rfl) rfl rfl ?_
  unfold f_decode at hr
  refine Ev.iloadN (d12 0 rfl) rfl ?_
  refine Ev.istDN (L' := [.val (.ref o), .val (.int a0), .val (.int a0), .unset]) (d12 1 rfl) rfl rfl rfl ?_
  refine Ev.aloadN (d12 2 rfl) rfl ?_
  refine Ev.gI V (ww hw 51 rfl) (d12 3 rfl) (j := 20) rfl rfl ?_
  refine Ev.iconst (z := 1) (d12 4 rfl) rfl ?_
  refine Ev.isub (d12 5 rfl) ?_
  refine Ev.istDN (L' := [.val (.ref o), .val (.int a0), .val (.int a0), .val (.int ((s.1 20) - (1 : Int32)))]) (d12 6 rfl) rfl rfl rfl ?_
  exact e_decode_9 hw V  n a0 ((s.1 20) - (1 : Int32)) s (.val (.int a0)) rfl _ hr
def f_scopeCode_35 (s : St) (x1 : Int32) : Option (Int32) :=
  if (s.1 25) = (3 : Int32) then
    grd (inb (s.1 28) 5) <|
    some (x1 + (s.2 4 (ix (s.1 28))))
  else
    some x1
set_option maxRecDepth 100000 in
theorem e_scopeCode_35 {g : GT} {s : St} (hw : HW g) {K : St → MHeap} {o : Nat} {r : Nat → Nat} (V : View (GG g) Ln K o r) (x1 : Int32) (w : Int32) (hr : f_scopeCode_35 s x1 = some w) : Ev (GG g) M_scopeCode 35 [.val (.ref o), .val (.int x1)] [] (K s) ((some (.int w)), (K s)) := by
  unfold f_scopeCode_35 at hr
  refine Ev.aloadN (d13 22 rfl) rfl ?_
  refine Ev.gI V (ww hw 78 rfl) (d13 23 rfl) (j := 25) rfl rfl ?_
  refine Ev.iconst (z := 3) (d13 24 rfl) rfl ?_
  refine Ev.icne (t := 55) (d13 25 rfl) rfl (fun c1 => ?_) (fun c1 => ?_)
  · replace hr := (if_pos c1).symm.trans hr
    refine Ev.iloadN (d13 26 rfl) rfl ?_
    refine Ev.aloadN (d13 27 rfl) rfl ?_
    refine Ev.gAr V (ww hw 18 rfl) (d13 28 rfl) (j := 4) rfl ?_
    refine Ev.aloadN (d13 29 rfl) rfl ?_
    refine Ev.gI V (ww hw 84 rfl) (d13 30 rfl) (j := 28) rfl rfl ?_
    obtain ⟨b2, hr⟩ := grd_some hr
    refine Ev.ial V (j := 4) rfl rfl (d13 31 rfl) b2 ?_
    refine Ev.iadd (d13 32 rfl) ?_
    refine Ev.istDN (L' := [.val (.ref o), .val (.int (x1 + (s.2 4 (ix (s.1 28)))))]) (d13 33 rfl) rfl rfl rfl ?_
    refine Ev.iloadN (d13 34 rfl) rfl ?_
    cases hr
    exact Ev.ireturn rfl (d13 35 rfl)
  · replace hr := (if_neg c1).symm.trans hr
    refine Ev.iloadN (d13 34 rfl) rfl ?_
    cases hr
    exact Ev.ireturn rfl (d13 35 rfl)
def f_scopeCode (s : St) : Option (Int32) :=
  grd (inb (s.1 26) 5) <|
  if (s.1 25) < (2 : Int32) then
    f_scopeCode_35 s ((s.2 4 (ix (s.1 26))) * (16 : Int32))
  else
    grd (inb (s.1 27) 5) <|
    bnd (((s.2 4 (ix (s.1 26))) * (16 : Int32)) + ((s.2 4 (ix (s.1 27))) * (4 : Int32))) fun v4 =>
    f_scopeCode_35 s v4
set_option maxRecDepth 100000 in
theorem e_scopeCode {g : GT} {s : St} {w : Int32} (hw : HW g) {K : St → MHeap} {o : Nat} {r : Nat → Nat} (V : View (GG g) Ln K o r) (hr : f_scopeCode s = some w) : EvC (GG g) M_scopeCode [.ref o] (K s) ((some (.int w)), (K s)) := by
  refine EvC.enter (L0 := [.val (.ref o), .unset]) pl_scopeCode (fun h => nomatch h) rfl rfl ?_
  unfold f_scopeCode at hr
  refine Ev.aloadN (d13 0 rfl) rfl ?_
  refine Ev.gAr V (ww hw 18 rfl) (d13 1 rfl) (j := 4) rfl ?_
  refine Ev.aloadN (d13 2 rfl) rfl ?_
  refine Ev.gI V (ww hw 80 rfl) (d13 3 rfl) (j := 26) rfl rfl ?_
  obtain ⟨b1, hr⟩ := grd_some hr
  refine Ev.ial V (j := 4) rfl rfl (d13 4 rfl) b1 ?_
  refine Ev.bipush (z := 16) (d13 5 rfl) rfl ?_
  refine Ev.imul (d13 6 rfl) ?_
  refine Ev.istDN (L' := [.val (.ref o), .val (.int ((s.2 4 (ix (s.1 26))) * (16 : Int32)))]) (d13 7 rfl) rfl rfl rfl ?_
  refine Ev.aloadN (d13 8 rfl) rfl ?_
  refine Ev.gI V (ww hw 78 rfl) (d13 9 rfl) (j := 25) rfl rfl ?_
  refine Ev.iconst (z := 2) (d13 10 rfl) rfl ?_
  refine Ev.iclt (t := 35) (d13 11 rfl) rfl (fun c2 => ?_) (fun c2 => ?_)
  · replace hr := (if_pos c2).symm.trans hr
    exact e_scopeCode_35 hw V  ((s.2 4 (ix (s.1 26))) * (16 : Int32))  _ hr
  · replace hr := (if_neg c2).symm.trans hr
    refine Ev.iloadN (d13 12 rfl) rfl ?_
    refine Ev.aloadN (d13 13 rfl) rfl ?_
    refine Ev.gAr V (ww hw 18 rfl) (d13 14 rfl) (j := 4) rfl ?_
    refine Ev.aloadN (d13 15 rfl) rfl ?_
    refine Ev.gI V (ww hw 82 rfl) (d13 16 rfl) (j := 27) rfl rfl ?_
    obtain ⟨b3, hr⟩ := grd_some hr
    refine Ev.ial V (j := 4) rfl rfl (d13 17 rfl) b3 ?_
    refine Ev.iconst (z := 4) (d13 18 rfl) rfl ?_
    refine Ev.imul (d13 19 rfl) ?_
    refine Ev.iadd (d13 20 rfl) ?_
    revert hr
    generalize (((s.2 4 (ix (s.1 26))) * (16 : Int32)) + ((s.2 4 (ix (s.1 27))) * (4 : Int32))) = v4
    intro hr
    replace hr := (bnd_eq _ _).symm.trans hr
    refine Ev.istDN (L' := [.val (.ref o), .val (.int v4)]) (d13 21 rfl) rfl rfl rfl ?_
    exact e_scopeCode_35 hw V  v4  _ hr
def f_hashOf (s : St) (a0 : Int32) (a1 : Int32) (a2 : Int32) (a3 : Int32) (a4 : Int32) : Option (Int32) :=
  bnd ((((a0 * (31 : Int32)) + a1) * (1000003 : Int32)) + a2) fun v1 =>
  bnd ((((v1 * (1000003 : Int32)) + a3) * (1000003 : Int32)) + a4) fun v2 =>
  bnd ((v2 ^^^ (XT.ushr v2 (13 : Int32))) * (668265261 : Int32)) fun v3 =>
  some ((v3 ^^^ (XT.ushr v3 (15 : Int32))) &&& (4095 : Int32))
set_option maxRecDepth 100000 in
theorem e_hashOf {g : GT} {s : St} {a0 : Int32} {a1 : Int32} {a2 : Int32} {a3 : Int32} {a4 : Int32} {w : Int32} (hw : HW g) {K : St → MHeap} {o : Nat} {r : Nat → Nat} (V : View (GG g) Ln K o r) (hr : f_hashOf s a0 a1 a2 a3 a4 = some w) : EvC (GG g) M_hashOf [.ref o, .int a0, .int a1, .int a2, .int a3, .int a4] (K s) ((some (.int w)), (K s)) := by
  refine EvC.enter (L0 := [.val (.ref o), .val (.int a0), .val (.int a1), .val (.int a2), .val (.int a3), .val (.int a4), .unset]) pl_hashOf (fun h => nomatch h) rfl rfl ?_
  unfold f_hashOf at hr
  refine Ev.iloadN (d16 0 rfl) rfl ?_
  refine Ev.bipush (z := 31) (d16 1 rfl) rfl ?_
  refine Ev.imul (d16 2 rfl) ?_
  refine Ev.iloadN (d16 3 rfl) rfl ?_
  refine Ev.iadd (d16 4 rfl) ?_
  refine Ev.istD (L' := [.val (.ref o), .val (.int a0), .val (.int a1), .val (.int a2), .val (.int a3), .val (.int a4), .val (.int ((a0 * (31 : Int32)) + a1))]) (d16 5 rfl) rfl rfl rfl ?_
  refine Ev.iload (d16 6 rfl) rfl ?_
  refine Ev.ldc (ww hw 134 rfl) (d16 7 rfl) ?_
  refine Ev.imul (d16 8 rfl) ?_
  refine Ev.iloadN (d16 9 rfl) rfl ?_
  refine Ev.iadd (d16 10 rfl) ?_
  revert hr
  generalize ((((a0 * (31 : Int32)) + a1) * (1000003 : Int32)) + a2) = v1
  intro hr
  replace hr := (bnd_eq _ _).symm.trans hr
  refine Ev.istD (L' := [.val (.ref o), .val (.int a0), .val (.int a1), .val (.int a2), .val (.int a3), .val (.int a4), .val (.int v1)]) (d16 11 rfl) rfl rfl rfl ?_
  refine Ev.iload (d16 12 rfl) rfl ?_
  refine Ev.ldc (ww hw 134 rfl) (d16 13 rfl) ?_
  refine Ev.imul (d16 14 rfl) ?_
  refine Ev.iload (d16 15 rfl) rfl ?_
  refine Ev.iadd (d16 16 rfl) ?_
  refine Ev.istD (L' := [.val (.ref o), .val (.int a0), .val (.int a1), .val (.int a2), .val (.int a3), .val (.int a4), .val (.int ((v1 * (1000003 : Int32)) + a3))]) (d16 17 rfl) rfl rfl rfl ?_
  refine Ev.iload (d16 18 rfl) rfl ?_
  refine Ev.ldc (ww hw 134 rfl) (d16 19 rfl) ?_
  refine Ev.imul (d16 20 rfl) ?_
  refine Ev.iload (d16 21 rfl) rfl ?_
  refine Ev.iadd (d16 22 rfl) ?_
  revert hr
  generalize ((((v1 * (1000003 : Int32)) + a3) * (1000003 : Int32)) + a4) = v2
  intro hr
  replace hr := (bnd_eq _ _).symm.trans hr
  refine Ev.istD (L' := [.val (.ref o), .val (.int a0), .val (.int a1), .val (.int a2), .val (.int a3), .val (.int a4), .val (.int v2)]) (d16 23 rfl) rfl rfl rfl ?_
  refine Ev.iload (d16 24 rfl) rfl ?_
  refine Ev.iload (d16 25 rfl) rfl ?_
  refine Ev.bipush (z := 13) (d16 26 rfl) rfl ?_
  refine Ev.iushr (d16 27 rfl) ?_
  refine Ev.ixor (d16 28 rfl) ?_
  refine Ev.istD (L' := [.val (.ref o), .val (.int a0), .val (.int a1), .val (.int a2), .val (.int a3), .val (.int a4), .val (.int (v2 ^^^ (XT.ushr v2 (13 : Int32))))]) (d16 29 rfl) rfl rfl rfl ?_
  refine Ev.iload (d16 30 rfl) rfl ?_
  refine Ev.ldc (ww hw 135 rfl) (d16 31 rfl) ?_
  refine Ev.imul (d16 32 rfl) ?_
  revert hr
  generalize ((v2 ^^^ (XT.ushr v2 (13 : Int32))) * (668265261 : Int32)) = v3
  intro hr
  replace hr := (bnd_eq _ _).symm.trans hr
  refine Ev.istD (L' := [.val (.ref o), .val (.int a0), .val (.int a1), .val (.int a2), .val (.int a3), .val (.int a4), .val (.int v3)]) (d16 33 rfl) rfl rfl rfl ?_
  refine Ev.iload (d16 34 rfl) rfl ?_
  refine Ev.iload (d16 35 rfl) rfl ?_
  refine Ev.bipush (z := 15) (d16 36 rfl) rfl ?_
  refine Ev.iushr (d16 37 rfl) ?_
  refine Ev.ixor (d16 38 rfl) ?_
  refine Ev.istD (L' := [.val (.ref o), .val (.int a0), .val (.int a1), .val (.int a2), .val (.int a3), .val (.int a4), .val (.int (v3 ^^^ (XT.ushr v3 (15 : Int32))))]) (d16 39 rfl) rfl rfl rfl ?_
  refine Ev.iload (d16 40 rfl) rfl ?_
  refine Ev.sipush (z := 4095) (d16 41 rfl) rfl ?_
  refine Ev.iand (d16 42 rfl) ?_
  cases hr
  exact Ev.ireturn rfl (d16 43 rfl)
def f_newNode (a0 : Int32) (a1 : Int32) (a2 : Int32) (a3 : Int32) (a4 : Int32) (a5 : Int32) (s : St) : Option (Int32 × St) :=
  if (s.1 22) < (2048 : Int32) then
    bnd (setI s 22 ((s.1 22) + (1 : Int32))) fun s2 =>
    grd (inb (s.1 22) 2048) <|
    bnd (setA s2 5 (ix (s.1 22)) a1) fun s4 =>
    grd (inb ((s.1 22) * (4 : Int32)) 8192) <|
    bnd (setA s4 6 (ix ((s.1 22) * (4 : Int32))) a2) fun s6 =>
    grd (inb (((s.1 22) * (4 : Int32)) + (1 : Int32)) 8192) <|
    bnd (setA s6 6 (ix (((s.1 22) * (4 : Int32)) + (1 : Int32))) a3) fun s8 =>
    grd (inb (((s.1 22) * (4 : Int32)) + (2 : Int32)) 8192) <|
    bnd (setA s8 6 (ix (((s.1 22) * (4 : Int32)) + (2 : Int32))) a4) fun s10 =>
    grd (inb (((s.1 22) * (4 : Int32)) + (3 : Int32)) 8192) <|
    bnd (setA s10 6 (ix (((s.1 22) * (4 : Int32)) + (3 : Int32))) a5) fun s12 =>
    grd (inb a0 4096) <|
    bnd (setA s12 7 (ix a0) (s.1 22)) fun s14 =>
    some ((s.1 22), s14)
  else
    some ((0 : Int32), s)
set_option maxRecDepth 100000 in
theorem e_newNode {g : GT} {a0 : Int32} {a1 : Int32} {a2 : Int32} {a3 : Int32} {a4 : Int32} {a5 : Int32} {s : St} {w : Int32 × St} (hw : HW g) {K : St → MHeap} {o : Nat} {r : Nat → Nat} (V : View (GG g) Ln K o r) (hr : f_newNode a0 a1 a2 a3 a4 a5 s = some w) : EvC (GG g) M_newNode [.ref o, .int a0, .int a1, .int a2, .int a3, .int a4, .int a5] (K s) ((some (.int w.1)), (K w.2)) := by
  refine EvC.enter (L0 := [.val (.ref o), .val (.int a0), .val (.int a1), .val (.int a2), .val (.int a3), .val (.int a4), .val (.int a5), .unset, .unset]) pl_newNode (fun h => nomatch h) rfl rfl ?_
  unfold f_newNode at hr
  refine Ev.aloadN (d17 0 rfl) rfl ?_
  refine Ev.gI V (ww hw 55 rfl) (d17 1 rfl) (j := 22) rfl rfl ?_
  refine Ev.sipush (z := 2048) (d17 2 rfl) rfl ?_
  refine Ev.iclt (t := 12) (d17 3 rfl) rfl (fun c1 => ?_) (fun c1 => ?_)
  · replace hr := (if_pos c1).symm.trans hr
    refine Ev.aloadN (d17 6 rfl) rfl ?_
    refine Ev.gI V (ww hw 55 rfl) (d17 7 rfl) (j := 22) rfl rfl ?_
    refine Ev.istD (L' := [.val (.ref o), .val (.int a0), .val (.int a1), .val (.int a2), .val (.int a3), .val (.int a4), .val (.int a5), .val (.int (s.1 22)), .unset]) (d17 8 rfl) rfl rfl rfl ?_
    refine Ev.aloadN (d17 9 rfl) rfl ?_
    refine Ev.dup (d17 10 rfl) rfl ?_
    refine Ev.gI V (ww hw 55 rfl) (d17 11 rfl) (j := 22) rfl rfl ?_
    refine Ev.iconst (z := 1) (d17 12 rfl) rfl ?_
    refine Ev.iadd (d17 13 rfl) ?_
    refine Ev.pI V (gok hw) (ww hw 55 rfl) (Or.inl (ww hw 56 rfl)) (d17 14 rfl) (j := 22) rfl ?_
    revert hr
    generalize setI s 22 ((s.1 22) + (1 : Int32)) = s2
    intro hr
    replace hr := (bnd_eq _ _).symm.trans hr
    refine Ev.aloadN (d17 15 rfl) rfl ?_
    refine Ev.gAr V (ww hw 20 rfl) (d17 16 rfl) (j := 5) rfl ?_
    refine Ev.iload (d17 17 rfl) rfl ?_
    refine Ev.iloadN (d17 18 rfl) rfl ?_
    obtain ⟨b3, hr⟩ := grd_some hr
    refine Ev.ias V (j := 5) rfl rfl (d17 19 rfl) b3 ?_
    revert hr
    generalize setA s2 5 (ix (s.1 22)) a1 = s4
    intro hr
    replace hr := (bnd_eq _ _).symm.trans hr
    refine Ev.iload (d17 20 rfl) rfl ?_
    refine Ev.iconst (z := 4) (d17 21 rfl) rfl ?_
    refine Ev.imul (d17 22 rfl) ?_
    refine Ev.istD (L' := [.val (.ref o), .val (.int a0), .val (.int a1), .val (.int a2), .val (.int a3), .val (.int a4), .val (.int a5), .val (.int (s.1 22)), .val (.int ((s.1 22) * (4 : Int32)))]) (d17 23 rfl) rfl rfl rfl ?_
    refine Ev.aloadN (d17 24 rfl) rfl ?_
    refine Ev.gAr V (ww hw 22 rfl) (d17 25 rfl) (j := 6) rfl ?_
    refine Ev.iload (d17 26 rfl) rfl ?_
    refine Ev.iloadN (d17 27 rfl) rfl ?_
    obtain ⟨b5, hr⟩ := grd_some hr
    refine Ev.ias V (j := 6) rfl rfl (d17 28 rfl) b5 ?_
    revert hr
    generalize setA s4 6 (ix ((s.1 22) * (4 : Int32))) a2 = s6
    intro hr
    replace hr := (bnd_eq _ _).symm.trans hr
    refine Ev.aloadN (d17 29 rfl) rfl ?_
    refine Ev.gAr V (ww hw 22 rfl) (d17 30 rfl) (j := 6) rfl ?_
    refine Ev.iload (d17 31 rfl) rfl ?_
    refine Ev.iconst (z := 1) (d17 32 rfl) rfl ?_
    refine Ev.iadd (d17 33 rfl) ?_
    refine Ev.iload (d17 34 rfl) rfl ?_
    obtain ⟨b7, hr⟩ := grd_some hr
    refine Ev.ias V (j := 6) rfl rfl (d17 35 rfl) b7 ?_
    revert hr
    generalize setA s6 6 (ix (((s.1 22) * (4 : Int32)) + (1 : Int32))) a3 = s8
    intro hr
    replace hr := (bnd_eq _ _).symm.trans hr
    refine Ev.aloadN (d17 36 rfl) rfl ?_
    refine Ev.gAr V (ww hw 22 rfl) (d17 37 rfl) (j := 6) rfl ?_
    refine Ev.iload (d17 38 rfl) rfl ?_
    refine Ev.iconst (z := 2) (d17 39 rfl) rfl ?_
    refine Ev.iadd (d17 40 rfl) ?_
    refine Ev.iload (d17 41 rfl) rfl ?_
    obtain ⟨b9, hr⟩ := grd_some hr
    refine Ev.ias V (j := 6) rfl rfl (d17 42 rfl) b9 ?_
    revert hr
    generalize setA s8 6 (ix (((s.1 22) * (4 : Int32)) + (2 : Int32))) a4 = s10
    intro hr
    replace hr := (bnd_eq _ _).symm.trans hr
    refine Ev.aloadN (d17 43 rfl) rfl ?_
    refine Ev.gAr V (ww hw 22 rfl) (d17 44 rfl) (j := 6) rfl ?_
    refine Ev.iload (d17 45 rfl) rfl ?_
    refine Ev.iconst (z := 3) (d17 46 rfl) rfl ?_
    refine Ev.iadd (d17 47 rfl) ?_
    refine Ev.iload (d17 48 rfl) rfl ?_
    obtain ⟨b11, hr⟩ := grd_some hr
    refine Ev.ias V (j := 6) rfl rfl (d17 49 rfl) b11 ?_
    revert hr
    generalize setA s10 6 (ix (((s.1 22) * (4 : Int32)) + (3 : Int32))) a5 = s12
    intro hr
    replace hr := (bnd_eq _ _).symm.trans hr
    refine Ev.aloadN (d17 50 rfl) rfl ?_
    refine Ev.gAr V (ww hw 24 rfl) (d17 51 rfl) (j := 7) rfl ?_
    refine Ev.iloadN (d17 52 rfl) rfl ?_
    refine Ev.iload (d17 53 rfl) rfl ?_
    obtain ⟨b13, hr⟩ := grd_some hr
    refine Ev.ias V (j := 7) rfl rfl (d17 54 rfl) b13 ?_
    revert hr
    generalize setA s12 7 (ix a0) (s.1 22) = s14
    intro hr
    replace hr := (bnd_eq _ _).symm.trans hr
    refine Ev.iload (d17 55 rfl) rfl ?_
    cases hr
    exact Ev.ireturn rfl (d17 56 rfl)
  · replace hr := (if_neg c1).symm.trans hr
    refine Ev.iconst (z := 0) (d17 4 rfl) rfl ?_
    cases hr
    exact Ev.ireturn rfl (d17 5 rfl)
def f_sameNode (s : St) (a0 : Int32) (a1 : Int32) (a2 : Int32) (a3 : Int32) (a4 : Int32) (a5 : Int32) : Option (Int32) :=
  grd (inb a0 2048) <|
  if (s.2 5 (ix a0)) = a1 then
    grd (inb (a0 * (4 : Int32)) 8192) <|
    if (s.2 6 (ix (a0 * (4 : Int32)))) = a2 then
      grd (inb ((a0 * (4 : Int32)) + (1 : Int32)) 8192) <|
      if (s.2 6 (ix ((a0 * (4 : Int32)) + (1 : Int32)))) = a3 then
        grd (inb ((a0 * (4 : Int32)) + (2 : Int32)) 8192) <|
        if (s.2 6 (ix ((a0 * (4 : Int32)) + (2 : Int32)))) = a4 then
          grd (inb ((a0 * (4 : Int32)) + (3 : Int32)) 8192) <|
          if (s.2 6 (ix ((a0 * (4 : Int32)) + (3 : Int32)))) = a5 then
            some (1 : Int32)
          else
            some (0 : Int32)
        else
          some (0 : Int32)
      else
        some (0 : Int32)
    else
      some (0 : Int32)
  else
    some (0 : Int32)
set_option maxRecDepth 100000 in
theorem e_sameNode {g : GT} {s : St} {a0 : Int32} {a1 : Int32} {a2 : Int32} {a3 : Int32} {a4 : Int32} {a5 : Int32} {w : Int32} (hw : HW g) {K : St → MHeap} {o : Nat} {r : Nat → Nat} (V : View (GG g) Ln K o r) (hr : f_sameNode s a0 a1 a2 a3 a4 a5 = some w) : EvC (GG g) M_sameNode [.ref o, .int a0, .int a1, .int a2, .int a3, .int a4, .int a5] (K s) ((some (.int w)), (K s)) := by
  refine EvC.enter (L0 := [.val (.ref o), .val (.int a0), .val (.int a1), .val (.int a2), .val (.int a3), .val (.int a4), .val (.int a5), .unset]) pl_sameNode (fun h => nomatch h) rfl rfl ?_
  unfold f_sameNode at hr
  refine Ev.iloadN (d32 0 rfl) rfl ?_
  refine Ev.iconst (z := 4) (d32 1 rfl) rfl ?_
  refine Ev.imul (d32 2 rfl) ?_
  refine Ev.istD (L' := [.val (.ref o), .val (.int a0), .val (.int a1), .val (.int a2), .val (.int a3), .val (.int a4), .val (.int a5), .val (.int (a0 * (4 : Int32)))]) (d32 3 rfl) rfl rfl rfl ?_
  refine Ev.aloadN (d32 4 rfl) rfl ?_
  refine Ev.gAr V (ww hw 20 rfl) (d32 5 rfl) (j := 5) rfl ?_
  refine Ev.iloadN (d32 6 rfl) rfl ?_
  obtain ⟨b1, hr⟩ := grd_some hr
  refine Ev.ial V (j := 5) rfl rfl (d32 7 rfl) b1 ?_
  refine Ev.iloadN (d32 8 rfl) rfl ?_
  refine Ev.icne (t := 72) (d32 9 rfl) rfl (fun c2 => ?_) (fun c2 => ?_)
  · replace hr := (if_pos c2).symm.trans hr
    refine Ev.aloadN (d32 10 rfl) rfl ?_
    refine Ev.gAr V (ww hw 22 rfl) (d32 11 rfl) (j := 6) rfl ?_
    refine Ev.iload (d32 12 rfl) rfl ?_
    obtain ⟨b3, hr⟩ := grd_some hr
    refine Ev.ial V (j := 6) rfl rfl (d32 13 rfl) b3 ?_
    refine Ev.iloadN (d32 14 rfl) rfl ?_
    refine Ev.icne (t := 72) (d32 15 rfl) rfl (fun c4 => ?_) (fun c4 => ?_)
    · replace hr := (if_pos c4).symm.trans hr
      refine Ev.aloadN (d32 16 rfl) rfl ?_
      refine Ev.gAr V (ww hw 22 rfl) (d32 17 rfl) (j := 6) rfl ?_
      refine Ev.iload (d32 18 rfl) rfl ?_
      refine Ev.iconst (z := 1) (d32 19 rfl) rfl ?_
      refine Ev.iadd (d32 20 rfl) ?_
      obtain ⟨b5, hr⟩ := grd_some hr
      refine Ev.ial V (j := 6) rfl rfl (d32 21 rfl) b5 ?_
      refine Ev.iload (d32 22 rfl) rfl ?_
      refine Ev.icne (t := 72) (d32 23 rfl) rfl (fun c6 => ?_) (fun c6 => ?_)
      · replace hr := (if_pos c6).symm.trans hr
        refine Ev.aloadN (d32 24 rfl) rfl ?_
        refine Ev.gAr V (ww hw 22 rfl) (d32 25 rfl) (j := 6) rfl ?_
        refine Ev.iload (d32 26 rfl) rfl ?_
        refine Ev.iconst (z := 2) (d32 27 rfl) rfl ?_
        refine Ev.iadd (d32 28 rfl) ?_
        obtain ⟨b7, hr⟩ := grd_some hr
        refine Ev.ial V (j := 6) rfl rfl (d32 29 rfl) b7 ?_
        refine Ev.iload (d32 30 rfl) rfl ?_
        refine Ev.icne (t := 72) (d32 31 rfl) rfl (fun c8 => ?_) (fun c8 => ?_)
        · replace hr := (if_pos c8).symm.trans hr
          refine Ev.aloadN (d32 32 rfl) rfl ?_
          refine Ev.gAr V (ww hw 22 rfl) (d32 33 rfl) (j := 6) rfl ?_
          refine Ev.iload (d32 34 rfl) rfl ?_
          refine Ev.iconst (z := 3) (d32 35 rfl) rfl ?_
          refine Ev.iadd (d32 36 rfl) ?_
          obtain ⟨b9, hr⟩ := grd_some hr
          refine Ev.ial V (j := 6) rfl rfl (d32 37 rfl) b9 ?_
          refine Ev.iload (d32 38 rfl) rfl ?_
          refine Ev.icne (t := 72) (d32 39 rfl) rfl (fun c10 => ?_) (fun c10 => ?_)
          · replace hr := (if_pos c10).symm.trans hr
            refine Ev.iconst (z := 1) (d32 40 rfl) rfl ?_
            refine Ev.goto (t := 73) (d32 41 rfl) rfl ?_
            cases hr
            exact Ev.zret1 rfl (d32 43 rfl)
          · replace hr := (if_neg c10).symm.trans hr
            refine Ev.iconst (z := 0) (d32 42 rfl) rfl ?_
            cases hr
            exact Ev.zret0 rfl (d32 43 rfl)
        · replace hr := (if_neg c8).symm.trans hr
          refine Ev.iconst (z := 0) (d32 42 rfl) rfl ?_
          cases hr
          exact Ev.zret0 rfl (d32 43 rfl)
      · replace hr := (if_neg c6).symm.trans hr
        refine Ev.iconst (z := 0) (d32 42 rfl) rfl ?_
        cases hr
        exact Ev.zret0 rfl (d32 43 rfl)
    · replace hr := (if_neg c4).symm.trans hr
      refine Ev.iconst (z := 0) (d32 42 rfl) rfl ?_
      cases hr
      exact Ev.zret0 rfl (d32 43 rfl)
  · replace hr := (if_neg c2).symm.trans hr
    refine Ev.iconst (z := 0) (d32 42 rfl) rfl ?_
    cases hr
    exact Ev.zret0 rfl (d32 43 rfl)
def f_mk_63 (n : Nat) : Nat → Int32 → Int32 → Int32 → Int32 → Int32 → Int32 → Int32 → St → Option (Int32 × St)
  | 0 => fun _ _ _ _ _ _ _ _ => none
  | k + 1 => fun x1 x2 x3 x4 x5 x7 x8 s =>
    if x8 < (4096 : Int32) then
      grd (inb x7 4096) <|
      if (s.2 7 (ix x7)) = 0 then
        (f_newNode x7 x1 x2 x3 x4 x5 s).bind fun q4 =>
        some (q4.1, q4.2)
      else
        (f_sameNode s (s.2 7 (ix x7)) x1 x2 x3 x4 x5).bind fun q6 =>
        if q6 = 0 then
          f_mk_63 n k x1 x2 x3 x4 x5 ((x7 + (1 : Int32)) &&& (4095 : Int32)) (x8 + (1 : Int32)) s
        else
          some ((s.2 7 (ix x7)), s)
    else
      some ((0 : Int32), s)
set_option maxRecDepth 100000 in
theorem e_mk_63 {g : GT} {n : Nat} (hw : HW g) {K : St → MHeap} {o : Nat} {r : Nat → Nat} (V : View (GG g) Ln K o r) (k : Nat) : ∀ (x1 : Int32) (x2 : Int32) (x3 : Int32) (x4 : Int32) (x5 : Int32) (x7 : Int32) (x8 : Int32) (s : St) (y6 : Slot) (hy6 : one1 y6 = true) (y9 : Slot) (hy9 : one1 y9 = true) (w : Int32 × St), f_mk_63 n k x1 x2 x3 x4 x5 x7 x8 s = some w → Ev (GG g) M_mk 63 [.val (.ref o), .val (.int x1), .val (.int x2), .val (.int x3), .val (.int x4), .val (.int x5), y6, .val (.int x7), .val (.int x8), y9] [] (K s) ((some (.int w.1)), (K w.2)) := by
  induction k with
  | zero => intro x1 x2 x3 x4 x5 x7 x8 s y6 hy6 y9 hy9 w hr; rw [f_mk_63] at hr; cases hr
  | succ k ih =>
    intro x1 x2 x3 x4 x5 x7 x8 s y6 hy6 y9 hy9 w hr
    rw [f_mk_63] at hr
    refine Ev.iload (d15 35 rfl) rfl ?_
    refine Ev.sipush (z := 4096) (d15 36 rfl) rfl ?_
    refine Ev.icge (t := 134) (d15 37 rfl) rfl (fun c1 => ?_) (fun c1 => ?_)
    · replace hr := (if_pos c1).symm.trans hr
      refine Ev.aloadN (d15 38 rfl) rfl ?_
      refine Ev.gAr V (ww hw 24 rfl) (d15 39 rfl) (j := 7) rfl ?_
      refine Ev.iload (d15 40 rfl) rfl ?_
      obtain ⟨b2, hr⟩ := grd_some hr
      refine Ev.ial V (j := 7) rfl rfl (d15 41 rfl) b2 ?_
      refine Ev.istD (L' := [.val (.ref o), .val (.int x1), .val (.int x2), .val (.int x3), .val (.int x4), .val (.int x5), y6, .val (.int x7), .val (.int x8), .val (.int (s.2 7 (ix x7)))]) (d15 42 rfl) rfl hy9 rfl ?_
      refine Ev.iload (d15 43 rfl) rfl ?_
      refine Ev.ifne (t := 99) (d15 44 rfl) rfl (fun c3 => ?_) (fun c3 => ?_)
      · replace hr := (if_pos c3).symm.trans hr
        refine Ev.aloadN (d15 45 rfl) rfl ?_
        refine Ev.iload (d15 46 rfl) rfl ?_
        refine Ev.iloadN (d15 47 rfl) rfl ?_
        refine Ev.iloadN (d15 48 rfl) rfl ?_
        refine Ev.iloadN (d15 49 rfl) rfl ?_
        refine Ev.iload (d15 50 rfl) rfl ?_
        refine Ev.iload (d15 51 rfl) rfl ?_
        obtain ⟨q4, hq5, hr⟩ := Option.bind_eq_some_iff.mp hr
        refine Ev.priv (y := M_newNode) (args := [.int x7, .int x1, .int x2, .int x3, .int x4, .int x5]) (rest := []) (gok hw) rfl nm_newNode (ww hw 136 rfl) (ww hw 137 rfl) (ww hw 138 rfl) (ww hw 139 rfl) (lenOf pd_newNode rfl) (d15 52 rfl) (V.2.1 s) (e_newNode hw V hq5) (by decide) (Nat.le_of_ble_eq_true rfl) rfl ?_
        cases hr
        exact Ev.ireturn rfl (d15 53 rfl)
      · replace hr := (if_neg c3).symm.trans hr
        refine Ev.aloadN (d15 54 rfl) rfl ?_
        refine Ev.iload (d15 55 rfl) rfl ?_
        refine Ev.iloadN (d15 56 rfl) rfl ?_
        refine Ev.iloadN (d15 57 rfl) rfl ?_
        refine Ev.iloadN (d15 58 rfl) rfl ?_
        refine Ev.iload (d15 59 rfl) rfl ?_
        refine Ev.iload (d15 60 rfl) rfl ?_
        obtain ⟨q6, hq7, hr⟩ := Option.bind_eq_some_iff.mp hr
        refine Ev.priv (y := M_sameNode) (args := [.int (s.2 7 (ix x7)), .int x1, .int x2, .int x3, .int x4, .int x5]) (rest := []) (gok hw) rfl nm_sameNode (ww hw 205 rfl) (ww hw 206 rfl) (ww hw 207 rfl) (ww hw 208 rfl) (lenOf pd_sameNode rfl) (d15 61 rfl) (V.2.1 s) (e_sameNode hw V hq7) (by decide) (Nat.le_of_ble_eq_true rfl) rfl ?_
        refine Ev.ifeq (t := 118) (d15 62 rfl) rfl (fun c8 => ?_) (fun c8 => ?_)
        · replace hr := (if_pos c8).symm.trans hr
          refine Ev.iload (d15 65 rfl) rfl ?_
          refine Ev.iconst (z := 1) (d15 66 rfl) rfl ?_
          refine Ev.iadd (d15 67 rfl) ?_
          refine Ev.sipush (z := 4095) (d15 68 rfl) rfl ?_
          refine Ev.iand (d15 69 rfl) ?_
          refine Ev.istD (L' := [.val (.ref o), .val (.int x1), .val (.int x2), .val (.int x3), .val (.int x4), .val (.int x5), y6, .val (.int ((x7 + (1 : Int32)) &&& (4095 : Int32))), .val (.int x8), .val (.int (s.2 7 (ix x7)))]) (d15 70 rfl) rfl rfl rfl ?_
          refine Ev.iinc (z := 1) (L' := [.val (.ref o), .val (.int x1), .val (.int x2), .val (.int x3), .val (.int x4), .val (.int x5), y6, .val (.int ((x7 + (1 : Int32)) &&& (4095 : Int32))), .val (.int (x8 + (1 : Int32))), .val (.int (s.2 7 (ix x7)))]) (d15 71 rfl) rfl rfl rfl ?_
          refine Ev.goto (t := 63) (d15 72 rfl) rfl ?_
          exact ih x1 x2 x3 x4 x5 ((x7 + (1 : Int32)) &&& (4095 : Int32)) (x8 + (1 : Int32)) s y6 hy6 (.val (.int (s.2 7 (ix x7)))) rfl _ hr
        · replace hr := (if_neg c8).symm.trans hr
          refine Ev.iload (d15 63 rfl) rfl ?_
          cases hr
          exact Ev.ireturn rfl (d15 64 rfl)
    · replace hr := (if_neg c1).symm.trans hr
      refine Ev.iconst (z := 0) (d15 73 rfl) rfl ?_
      cases hr
      exact Ev.ireturn rfl (d15 74 rfl)
def f_mk_38 (n : Nat) (x1 : Int32) (x2 : Int32) (x3 : Int32) (x4 : Int32) (x5 : Int32) (z0 : Int32) (s : St) : Option (Int32 × St) :=
  if z0 = 0 then
    (f_hashOf s x1 x2 x3 x4 x5).bind fun q2 =>
    f_mk_63 n n x1 x2 x3 x4 x5 q2 (0 : Int32) s
  else
    some (x2, s)
set_option maxRecDepth 100000 in
theorem e_mk_38 {g : GT} {n : Nat} (hw : HW g) {K : St → MHeap} {o : Nat} {r : Nat → Nat} (V : View (GG g) Ln K o r) (x1 : Int32) (x2 : Int32) (x3 : Int32) (x4 : Int32) (x5 : Int32) (z0 : Int32) (s : St) (y6 : Slot) (hy6 : one1 y6 = true) (y7 : Slot) (hy7 : one1 y7 = true) (y8 : Slot) (hy8 : one1 y8 = true) (y9 : Slot) (hy9 : one1 y9 = true) (w : Int32 × St) (hr : f_mk_38 n x1 x2 x3 x4 x5 z0 s = some w) : Ev (GG g) M_mk 38 [.val (.ref o), .val (.int x1), .val (.int x2), .val (.int x3), .val (.int x4), .val (.int x5), y6, y7, y8, y9] [.int z0] (K s) ((some (.int w.1)), (K w.2)) := by
  unfold f_mk_38 at hr
  refine Ev.istD (L' := [.val (.ref o), .val (.int x1), .val (.int x2), .val (.int x3), .val (.int x4), .val (.int x5), .val (.int z0), y7, y8, y9]) (d15 20 rfl) rfl hy6 rfl ?_
  refine Ev.iload (d15 21 rfl) rfl ?_
  refine Ev.ifeq (t := 47) (d15 22 rfl) rfl (fun c1 => ?_) (fun c1 => ?_)
  · replace hr := (if_pos c1).symm.trans hr
    refine Ev.aloadN (d15 25 rfl) rfl ?_
    refine Ev.iloadN (d15 26 rfl) rfl ?_
    refine Ev.iloadN (d15 27 rfl) rfl ?_
    refine Ev.iloadN (d15 28 rfl) rfl ?_
    refine Ev.iload (d15 29 rfl) rfl ?_
    refine Ev.iload (d15 30 rfl) rfl ?_
    obtain ⟨q2, hq3, hr⟩ := Option.bind_eq_some_iff.mp hr
    refine Ev.priv (y := M_hashOf) (args := [.int x1, .int x2, .int x3, .int x4, .int x5]) (rest := []) (gok hw) rfl nm_hashOf (ww hw 130 rfl) (ww hw 131 rfl) (ww hw 132 rfl) (ww hw 133 rfl) (lenOf pd_hashOf rfl) (d15 31 rfl) (V.2.1 s) (e_hashOf hw V hq3) (by decide) (Nat.le_of_ble_eq_true rfl) rfl ?_
    refine Ev.istD (L' := [.val (.ref o), .val (.int x1), .val (.int x2), .val (.int x3), .val (.int x4), .val (.int x5), .val (.int z0), .val (.int q2), y8, y9]) (d15 32 rfl) rfl hy7 rfl ?_
    refine Ev.iconst (z := 0) (d15 33 rfl) rfl ?_
    refine Ev.istD (L' := [.val (.ref o), .val (.int x1), .val (.int x2), .val (.int x3), .val (.int x4), .val (.int x5), .val (.int z0), .val (.int q2), .val (.int (0 : Int32)), y9]) (d15 34 rfl) rfl hy8 rfl ?_
    exact e_mk_63 hw V  n x1 x2 x3 x4 x5 q2 (0 : Int32) s (.val (.int z0)) rfl y9 hy9 _ hr
  · replace hr := (if_neg c1).symm.trans hr
    refine Ev.iloadN (d15 23 rfl) rfl ?_
    cases hr
    exact Ev.ireturn rfl (d15 24 rfl)
def f_mk_19 (n : Nat) (x1 : Int32) (x2 : Int32) (x3 : Int32) (x4 : Int32) (x5 : Int32) (s : St) : Option (Int32 × St) :=
  if (s.1 21) < (4 : Int32) then
    f_mk_38 n x1 x2 x3 x4 x5 (1 : Int32) s
  else
    if x5 = x2 then
      f_mk_38 n x1 x2 x3 x4 x5 (1 : Int32) s
    else
      f_mk_38 n x1 x2 x3 x4 x5 (0 : Int32) s
set_option maxRecDepth 100000 in
theorem e_mk_19 {g : GT} {n : Nat} (hw : HW g) {K : St → MHeap} {o : Nat} {r : Nat → Nat} (V : View (GG g) Ln K o r) (x1 : Int32) (x2 : Int32) (x3 : Int32) (x4 : Int32) (x5 : Int32) (s : St) (y6 : Slot) (hy6 : one1 y6 = true) (y7 : Slot) (hy7 : one1 y7 = true) (y8 : Slot) (hy8 : one1 y8 = true) (y9 : Slot) (hy9 : one1 y9 = true) (w : Int32 × St) (hr : f_mk_19 n x1 x2 x3 x4 x5 s = some w) : Ev (GG g) M_mk 19 [.val (.ref o), .val (.int x1), .val (.int x2), .val (.int x3), .val (.int x4), .val (.int x5), y6, y7, y8, y9] [] (K s) ((some (.int w.1)), (K w.2)) := by
  unfold f_mk_19 at hr
  refine Ev.aloadN (d15 10 rfl) rfl ?_
  refine Ev.gI V (ww hw 53 rfl) (d15 11 rfl) (j := 21) rfl rfl ?_
  refine Ev.iconst (z := 4) (d15 12 rfl) rfl ?_
  refine Ev.iclt (t := 33) (d15 13 rfl) rfl (fun c1 => ?_) (fun c1 => ?_)
  · replace hr := (if_pos c1).symm.trans hr
    refine Ev.iconst (z := 1) (d15 17 rfl) rfl ?_
    refine Ev.goto (t := 38) (d15 18 rfl) rfl ?_
    exact e_mk_38 hw V  x1 x2 x3 x4 x5 (1 : Int32) s y6 hy6 y7 hy7 y8 hy8 y9 hy9 _ hr
  · replace hr := (if_neg c1).symm.trans hr
    refine Ev.iload (d15 14 rfl) rfl ?_
    refine Ev.iloadN (d15 15 rfl) rfl ?_
    refine Ev.icne (t := 37) (d15 16 rfl) rfl (fun c2 => ?_) (fun c2 => ?_)
    · replace hr := (if_pos c2).symm.trans hr
      refine Ev.iconst (z := 1) (d15 17 rfl) rfl ?_
      refine Ev.goto (t := 38) (d15 18 rfl) rfl ?_
      exact e_mk_38 hw V  x1 x2 x3 x4 x5 (1 : Int32) s y6 hy6 y7 hy7 y8 hy8 y9 hy9 _ hr
    · replace hr := (if_neg c2).symm.trans hr
      refine Ev.iconst (z := 0) (d15 19 rfl) rfl ?_
      exact e_mk_38 hw V  x1 x2 x3 x4 x5 (0 : Int32) s y6 hy6 y7 hy7 y8 hy8 y9 hy9 _ hr
def f_mk (n : Nat) (a0 : Int32) (a1 : Int32) (a2 : Int32) (a3 : Int32) (a4 : Int32) (s : St) : Option (Int32 × St) :=
  if a2 = a1 then
    if (s.1 21) < (3 : Int32) then
      f_mk_19 n a0 a1 a2 a3 a4 s
    else
      if a3 = a1 then
        f_mk_19 n a0 a1 a2 a3 a4 s
      else
        f_mk_38 n a0 a1 a2 a3 a4 (0 : Int32) s
  else
    f_mk_38 n a0 a1 a2 a3 a4 (0 : Int32) s
set_option maxRecDepth 100000 in
theorem e_mk {g : GT} {n : Nat} {a0 : Int32} {a1 : Int32} {a2 : Int32} {a3 : Int32} {a4 : Int32} {s : St} {w : Int32 × St} (hw : HW g) {K : St → MHeap} {o : Nat} {r : Nat → Nat} (V : View (GG g) Ln K o r) (hr : f_mk n a0 a1 a2 a3 a4 s = some w) : EvC (GG g) M_mk [.ref o, .int a0, .int a1, .int a2, .int a3, .int a4] (K s) ((some (.int w.1)), (K w.2)) := by
  refine EvC.enter (L0 := [.val (.ref o), .val (.int a0), .val (.int a1), .val (.int a2), .val (.int a3), .val (.int a4), .unset, .unset, .unset, .unset]) pl_mk (fun h => nomatch h) rfl rfl ?_
  unfold f_mk at hr
  refine Ev.iloadN (d15 0 rfl) rfl ?_
  refine Ev.iloadN (d15 1 rfl) rfl ?_
  refine Ev.icne (t := 37) (d15 2 rfl) rfl (fun c1 => ?_) (fun c1 => ?_)
  · replace hr := (if_pos c1).symm.trans hr
    refine Ev.aloadN (d15 3 rfl) rfl ?_
    refine Ev.gI V (ww hw 53 rfl) (d15 4 rfl) (j := 21) rfl rfl ?_
    refine Ev.iconst (z := 3) (d15 5 rfl) rfl ?_
    refine Ev.iclt (t := 19) (d15 6 rfl) rfl (fun c2 => ?_) (fun c2 => ?_)
    · replace hr := (if_pos c2).symm.trans hr
      exact e_mk_19 hw V  a0 a1 a2 a3 a4 s .unset rfl .unset rfl .unset rfl .unset rfl _ hr
    · replace hr := (if_neg c2).symm.trans hr
      refine Ev.iload (d15 7 rfl) rfl ?_
      refine Ev.iloadN (d15 8 rfl) rfl ?_
      refine Ev.icne (t := 37) (d15 9 rfl) rfl (fun c3 => ?_) (fun c3 => ?_)
      · replace hr := (if_pos c3).symm.trans hr
        exact e_mk_19 hw V  a0 a1 a2 a3 a4 s .unset rfl .unset rfl .unset rfl .unset rfl _ hr
      · replace hr := (if_neg c3).symm.trans hr
        refine Ev.iconst (z := 0) (d15 19 rfl) rfl ?_
        exact e_mk_38 hw V  a0 a1 a2 a3 a4 (0 : Int32) s .unset rfl .unset rfl .unset rfl .unset rfl _ hr
  · replace hr := (if_neg c1).symm.trans hr
    refine Ev.iconst (z := 0) (d15 19 rfl) rfl ?_
    exact e_mk_38 hw V  a0 a1 a2 a3 a4 (0 : Int32) s .unset rfl .unset rfl .unset rfl .unset rfl _ hr
def f_reduceBuffer_106 (n : Nat) (k16 : Int32 → Int32 → St → Option (Int32 × St)) (k29 : Int32 → Int32 → Int32 → St → Option (Int32 × St)) (x1 : Int32) (x2 : Int32) (x3 : Int32) (x5 : Int32) (x6 : Int32) (x7 : Int32) (z0 : Int32) (s : St) : Option (Int32 × St) :=
  (f_mk n x2 x5 x6 x7 z0 s).bind fun q1 =>
  grd (inb x3 1024) <|
  bnd (setA q1.2 11 (ix x3) q1.1) fun s4 =>
  k29 x1 x2 (x3 + (1 : Int32)) s4
set_option maxRecDepth 100000 in
theorem e_reduceBuffer_106 {g : GT} {n : Nat} (hw : HW g) {K : St → MHeap} {o : Nat} {r : Nat → Nat} (V : View (GG g) Ln K o r) {k16 : Int32 → Int32 → St → Option (Int32 × St)} (hk16 : ∀ (x1 : Int32) (x2 : Int32) (s : St) (y3 : Slot) (hy3 : one1 y3 = true) (y4 : Slot) (hy4 : one1 y4 = true) (y5 : Slot) (hy5 : one1 y5 = true) (y6 : Slot) (hy6 : one1 y6 = true) (y7 : Slot) (hy7 : one1 y7 = true) (y8 : Slot) (hy8 : one1 y8 = true) (w : Int32 × St), k16 x1 x2 s = some w → Ev (GG g) M_reduceBuffer 16 [.val (.ref o), .val (.int x1), .val (.int x2), y3, y4, y5, y6, y7, y8] [] (K s) ((some (.int w.1)), (K w.2))) {k29 : Int32 → Int32 → Int32 → St → Option (Int32 × St)} (hk29 : ∀ (x1 : Int32) (x2 : Int32) (x3 : Int32) (s : St) (y4 : Slot) (hy4 : one1 y4 = true) (y5 : Slot) (hy5 : one1 y5 = true) (y6 : Slot) (hy6 : one1 y6 = true) (y7 : Slot) (hy7 : one1 y7 = true) (y8 : Slot) (hy8 : one1 y8 = true) (w : Int32 × St), k29 x1 x2 x3 s = some w → Ev (GG g) M_reduceBuffer 29 [.val (.ref o), .val (.int x1), .val (.int x2), .val (.int x3), y4, y5, y6, y7, y8] [] (K s) ((some (.int w.1)), (K w.2))) (x1 : Int32) (x2 : Int32) (x3 : Int32) (x5 : Int32) (x6 : Int32) (x7 : Int32) (z0 : Int32) (s : St) (y4 : Slot) (hy4 : one1 y4 = true) (y8 : Slot) (hy8 : one1 y8 = true) (w : Int32 × St) (hr : f_reduceBuffer_106 n k16 k29 x1 x2 x3 x5 x6 x7 z0 s = some w) : Ev (GG g) M_reduceBuffer 106 [.val (.ref o), .val (.int x1), .val (.int x2), .val (.int x3), y4, .val (.int x5), .val (.int x6), .val (.int x7), y8] [.int z0] (K s) ((some (.int w.1)), (K w.2)) := by
  unfold f_reduceBuffer_106 at hr
  refine Ev.istD (L' := [.val (.ref o), .val (.int x1), .val (.int x2), .val (.int x3), y4, .val (.int x5), .val (.int x6), .val (.int x7), .val (.int z0)]) (d14 64 rfl) rfl hy8 rfl ?_
  refine Ev.aloadN (d14 65 rfl) rfl ?_
  refine Ev.gAr V (ww hw 33 rfl) (d14 66 rfl) (j := 11) rfl ?_
  refine Ev.iloadN (d14 67 rfl) rfl ?_
  refine Ev.aloadN (d14 68 rfl) rfl ?_
  refine Ev.iloadN (d14 69 rfl) rfl ?_
  refine Ev.iload (d14 70 rfl) rfl ?_
  refine Ev.iload (d14 71 rfl) rfl ?_
  refine Ev.iload (d14 72 rfl) rfl ?_
  refine Ev.iload (d14 73 rfl) rfl ?_
  obtain ⟨q1, hq2, hr⟩ := Option.bind_eq_some_iff.mp hr
  refine Ev.priv (y := M_mk) (args := [.int x2, .int x5, .int x6, .int x7, .int z0]) (rest := [.int x3, .ref (r 11)]) (gok hw) rfl nm_mk (ww hw 126 rfl) (ww hw 127 rfl) (ww hw 128 rfl) (ww hw 129 rfl) (lenOf pd_mk rfl) (d14 74 rfl) (V.2.1 s) (e_mk hw V hq2) (by decide) (Nat.le_of_ble_eq_true rfl) rfl ?_
  obtain ⟨b3, hr⟩ := grd_some hr
  refine Ev.ias V (j := 11) rfl rfl (d14 75 rfl) b3 ?_
  revert hr
  generalize setA q1.2 11 (ix x3) q1.1 = s4
  intro hr
  replace hr := (bnd_eq _ _).symm.trans hr
  refine Ev.iinc (z := 1) (L' := [.val (.ref o), .val (.int x1), .val (.int x2), .val (.int (x3 + (1 : Int32))), y4, .val (.int x5), .val (.int x6), .val (.int x7), .val (.int z0)]) (d14 76 rfl) rfl rfl rfl ?_
  refine Ev.goto (t := 29) (d14 77 rfl) rfl ?_
  exact hk29 x1 x2 (x3 + (1 : Int32)) s4 y4 hy4 (.val (.int x5)) rfl (.val (.int x6)) rfl (.val (.int x7)) rfl (.val (.int z0)) rfl _ hr
def f_reduceBuffer_83 (n : Nat) (k16 : Int32 → Int32 → St → Option (Int32 × St)) (k29 : Int32 → Int32 → Int32 → St → Option (Int32 × St)) (x1 : Int32) (x2 : Int32) (x3 : Int32) (x4 : Int32) (x5 : Int32) (x6 : Int32) (z0 : Int32) (s : St) : Option (Int32 × St) :=
  if (3 : Int32) < (s.1 21) then
    grd (inb (x4 + (3 : Int32)) 1024) <|
    f_reduceBuffer_106 n k16 k29 x1 x2 x3 x5 x6 z0 (s.2 11 (ix (x4 + (3 : Int32)))) s
  else
    f_reduceBuffer_106 n k16 k29 x1 x2 x3 x5 x6 z0 (0 : Int32) s
set_option maxRecDepth 100000 in
theorem e_reduceBuffer_83 {g : GT} {n : Nat} (hw : HW g) {K : St → MHeap} {o : Nat} {r : Nat → Nat} (V : View (GG g) Ln K o r) {k16 : Int32 → Int32 → St → Option (Int32 × St)} (hk16 : ∀ (x1 : Int32) (x2 : Int32) (s : St) (y3 : Slot) (hy3 : one1 y3 = true) (y4 : Slot) (hy4 : one1 y4 = true) (y5 : Slot) (hy5 : one1 y5 = true) (y6 : Slot) (hy6 : one1 y6 = true) (y7 : Slot) (hy7 : one1 y7 = true) (y8 : Slot) (hy8 : one1 y8 = true) (w : Int32 × St), k16 x1 x2 s = some w → Ev (GG g) M_reduceBuffer 16 [.val (.ref o), .val (.int x1), .val (.int x2), y3, y4, y5, y6, y7, y8] [] (K s) ((some (.int w.1)), (K w.2))) {k29 : Int32 → Int32 → Int32 → St → Option (Int32 × St)} (hk29 : ∀ (x1 : Int32) (x2 : Int32) (x3 : Int32) (s : St) (y4 : Slot) (hy4 : one1 y4 = true) (y5 : Slot) (hy5 : one1 y5 = true) (y6 : Slot) (hy6 : one1 y6 = true) (y7 : Slot) (hy7 : one1 y7 = true) (y8 : Slot) (hy8 : one1 y8 = true) (w : Int32 × St), k29 x1 x2 x3 s = some w → Ev (GG g) M_reduceBuffer 29 [.val (.ref o), .val (.int x1), .val (.int x2), .val (.int x3), y4, y5, y6, y7, y8] [] (K s) ((some (.int w.1)), (K w.2))) (x1 : Int32) (x2 : Int32) (x3 : Int32) (x4 : Int32) (x5 : Int32) (x6 : Int32) (z0 : Int32) (s : St) (y7 : Slot) (hy7 : one1 y7 = true) (y8 : Slot) (hy8 : one1 y8 = true) (w : Int32 × St) (hr : f_reduceBuffer_83 n k16 k29 x1 x2 x3 x4 x5 x6 z0 s = some w) : Ev (GG g) M_reduceBuffer 83 [.val (.ref o), .val (.int x1), .val (.int x2), .val (.int x3), .val (.int x4), .val (.int x5), .val (.int x6), y7, y8] [.int z0] (K s) ((some (.int w.1)), (K w.2)) := by
  unfold f_reduceBuffer_83 at hr
  refine Ev.istD (L' := [.val (.ref o), .val (.int x1), .val (.int x2), .val (.int x3), .val (.int x4), .val (.int x5), .val (.int x6), .val (.int z0), y8]) (d14 51 rfl) rfl hy7 rfl ?_
  refine Ev.aloadN (d14 52 rfl) rfl ?_
  refine Ev.gI V (ww hw 53 rfl) (d14 53 rfl) (j := 21) rfl rfl ?_
  refine Ev.iconst (z := 3) (d14 54 rfl) rfl ?_
  refine Ev.icle (t := 105) (d14 55 rfl) rfl (fun c1 => ?_) (fun c1 => ?_)
  · replace hr := (if_pos c1).symm.trans hr
    refine Ev.aloadN (d14 56 rfl) rfl ?_
    refine Ev.gAr V (ww hw 33 rfl) (d14 57 rfl) (j := 11) rfl ?_
    refine Ev.iload (d14 58 rfl) rfl ?_
    refine Ev.iconst (z := 3) (d14 59 rfl) rfl ?_
    refine Ev.iadd (d14 60 rfl) ?_
    obtain ⟨b2, hr⟩ := grd_some hr
    refine Ev.ial V (j := 11) rfl rfl (d14 61 rfl) b2 ?_
    refine Ev.goto (t := 106) (d14 62 rfl) rfl ?_
    exact e_reduceBuffer_106 hw V hk16 hk29 x1 x2 x3 x5 x6 z0 (s.2 11 (ix (x4 + (3 : Int32)))) s (.val (.int x4)) rfl y8 hy8 _ hr
  · replace hr := (if_neg c1).symm.trans hr
    refine Ev.iconst (z := 0) (d14 63 rfl) rfl ?_
    exact e_reduceBuffer_106 hw V hk16 hk29 x1 x2 x3 x5 x6 z0 (0 : Int32) s (.val (.int x4)) rfl y8 hy8 _ hr
def f_reduceBuffer_29 (n : Nat) (k16 : Int32 → Int32 → St → Option (Int32 × St)) : Nat → Int32 → Int32 → Int32 → St → Option (Int32 × St)
  | 0 => fun _ _ _ _ => none
  | k + 1 => fun x1 x2 x3 s =>
    if x3 < x1 then
      grd (inb (x3 * (s.1 21)) 1024) <|
      grd (inb ((x3 * (s.1 21)) + (1 : Int32)) 1024) <|
      bnd (s.2 11 (ix ((x3 * (s.1 21)) + (1 : Int32)))) fun v4 =>
      if (2 : Int32) < (s.1 21) then
        grd (inb ((x3 * (s.1 21)) + (2 : Int32)) 1024) <|
        f_reduceBuffer_83 n k16 (f_reduceBuffer_29 n k16 k) x1 x2 x3 (x3 * (s.1 21)) (s.2 11 (ix (x3 * (s.1 21)))) v4 (s.2 11 (ix ((x3 * (s.1 21)) + (2 : Int32)))) s
      else
        f_reduceBuffer_83 n k16 (f_reduceBuffer_29 n k16 k) x1 x2 x3 (x3 * (s.1 21)) (s.2 11 (ix (x3 * (s.1 21)))) v4 (0 : Int32) s
    else
      k16 x1 (x2 + (-1 : Int32)) s
set_option maxRecDepth 100000 in
theorem e_reduceBuffer_29 {g : GT} {n : Nat} (hw : HW g) {K : St → MHeap} {o : Nat} {r : Nat → Nat} (V : View (GG g) Ln K o r) {k16 : Int32 → Int32 → St → Option (Int32 × St)} (hk16 : ∀ (x1 : Int32) (x2 : Int32) (s : St) (y3 : Slot) (hy3 : one1 y3 = true) (y4 : Slot) (hy4 : one1 y4 = true) (y5 : Slot) (hy5 : one1 y5 = true) (y6 : Slot) (hy6 : one1 y6 = true) (y7 : Slot) (hy7 : one1 y7 = true) (y8 : Slot) (hy8 : one1 y8 = true) (w : Int32 × St), k16 x1 x2 s = some w → Ev (GG g) M_reduceBuffer 16 [.val (.ref o), .val (.int x1), .val (.int x2), y3, y4, y5, y6, y7, y8] [] (K s) ((some (.int w.1)), (K w.2))) (k : Nat) : ∀ (x1 : Int32) (x2 : Int32) (x3 : Int32) (s : St) (y4 : Slot) (hy4 : one1 y4 = true) (y5 : Slot) (hy5 : one1 y5 = true) (y6 : Slot) (hy6 : one1 y6 = true) (y7 : Slot) (hy7 : one1 y7 = true) (y8 : Slot) (hy8 : one1 y8 = true) (w : Int32 × St), f_reduceBuffer_29 n k16 k x1 x2 x3 s = some w → Ev (GG g) M_reduceBuffer 29 [.val (.ref o), .val (.int x1), .val (.int x2), .val (.int x3), y4, y5, y6, y7, y8] [] (K s) ((some (.int w.1)), (K w.2)) := by
  induction k with
  | zero => intro x1 x2 x3 s y4 hy4 y5 hy5 y6 hy6 y7 hy7 y8 hy8 w hr; rw [f_reduceBuffer_29] at hr; cases hr
  | succ k ih =>
    intro x1 x2 x3 s y4 hy4 y5 hy5 y6 hy6 y7 hy7 y8 hy8 w hr
    rw [f_reduceBuffer_29] at hr
    refine Ev.iloadN (d14 19 rfl) rfl ?_
    refine Ev.iloadN (d14 20 rfl) rfl ?_
    refine Ev.icge (t := 133) (d14 21 rfl) rfl (fun c1 => ?_) (fun c1 => ?_)
    · replace hr := (if_pos c1).symm.trans hr
      refine Ev.iloadN (d14 22 rfl) rfl ?_
      refine Ev.aloadN (d14 23 rfl) rfl ?_
      refine Ev.gI V (ww hw 53 rfl) (d14 24 rfl) (j := 21) rfl rfl ?_
      refine Ev.imul (d14 25 rfl) ?_
      refine Ev.istD (L' := [.val (.ref o), .val (.int x1), .val (.int x2), .val (.int x3), .val (.int (x3 * (s.1 21))), y5, y6, y7, y8]) (d14 26 rfl) rfl hy4 rfl ?_
      refine Ev.aloadN (d14 27 rfl) rfl ?_
      refine Ev.gAr V (ww hw 33 rfl) (d14 28 rfl) (j := 11) rfl ?_
      refine Ev.iload (d14 29 rfl) rfl ?_
      obtain ⟨b2, hr⟩ := grd_some hr
      refine Ev.ial V (j := 11) rfl rfl (d14 30 rfl) b2 ?_
      refine Ev.istD (L' := [.val (.ref o), .val (.int x1), .val (.int x2), .val (.int x3), .val (.int (x3 * (s.1 21))), .val (.int (s.2 11 (ix (x3 * (s.1 21))))), y6, y7, y8]) (d14 31 rfl) rfl hy5 rfl ?_
      refine Ev.aloadN (d14 32 rfl) rfl ?_
      refine Ev.gAr V (ww hw 33 rfl) (d14 33 rfl) (j := 11) rfl ?_
      refine Ev.iload (d14 34 rfl) rfl ?_
      refine Ev.iconst (z := 1) (d14 35 rfl) rfl ?_
      refine Ev.iadd (d14 36 rfl) ?_
      obtain ⟨b3, hr⟩ := grd_some hr
      refine Ev.ial V (j := 11) rfl rfl (d14 37 rfl) b3 ?_
      revert hr
      generalize (s.2 11 (ix ((x3 * (s.1 21)) + (1 : Int32)))) = v4
      intro hr
      replace hr := (bnd_eq _ _).symm.trans hr
      refine Ev.istD (L' := [.val (.ref o), .val (.int x1), .val (.int x2), .val (.int x3), .val (.int (x3 * (s.1 21))), .val (.int (s.2 11 (ix (x3 * (s.1 21))))), .val (.int v4), y7, y8]) (d14 38 rfl) rfl hy6 rfl ?_
      refine Ev.aloadN (d14 39 rfl) rfl ?_
      refine Ev.gI V (ww hw 53 rfl) (d14 40 rfl) (j := 21) rfl rfl ?_
      refine Ev.iconst (z := 2) (d14 41 rfl) rfl ?_
      refine Ev.icle (t := 82) (d14 42 rfl) rfl (fun c5 => ?_) (fun c5 => ?_)
      · replace hr := (if_pos c5).symm.trans hr
        refine Ev.aloadN (d14 43 rfl) rfl ?_
        refine Ev.gAr V (ww hw 33 rfl) (d14 44 rfl) (j := 11) rfl ?_
        refine Ev.iload (d14 45 rfl) rfl ?_
        refine Ev.iconst (z := 2) (d14 46 rfl) rfl ?_
        refine Ev.iadd (d14 47 rfl) ?_
        obtain ⟨b6, hr⟩ := grd_some hr
        refine Ev.ial V (j := 11) rfl rfl (d14 48 rfl) b6 ?_
        refine Ev.goto (t := 83) (d14 49 rfl) rfl ?_
        exact e_reduceBuffer_83 hw V hk16 ih x1 x2 x3 (x3 * (s.1 21)) (s.2 11 (ix (x3 * (s.1 21)))) v4 (s.2 11 (ix ((x3 * (s.1 21)) + (2 : Int32)))) s y7 hy7 y8 hy8 _ hr
      · replace hr := (if_neg c5).symm.trans hr
        refine Ev.iconst (z := 0) (d14 50 rfl) rfl ?_
        exact e_reduceBuffer_83 hw V hk16 ih x1 x2 x3 (x3 * (s.1 21)) (s.2 11 (ix (x3 * (s.1 21)))) v4 (0 : Int32) s y7 hy7 y8 hy8 _ hr
    · replace hr := (if_neg c1).symm.trans hr
      refine Ev.iinc (z := -1) (L' := [.val (.ref o), .val (.int x1), .val (.int (x2 + (-1 : Int32))), .val (.int x3), y4, y5, y6, y7, y8]) (d14 78 rfl) rfl rfl rfl ?_
      refine Ev.goto (t := 16) (d14 79 rfl) rfl ?_
      exact hk16 x1 (x2 + (-1 : Int32)) s (.val (.int x3)) rfl y4 hy4 y5 hy5 y6 hy6 y7 hy7 y8 hy8 _ hr
def f_reduceBuffer_16 (n : Nat) : Nat → Int32 → Int32 → St → Option (Int32 × St)
  | 0 => fun _ _ _ => none
  | k + 1 => fun x1 x2 s =>
    if x2 < 0 then
      some ((s.2 11 (ix (0 : Int32))), s)
    else
      grd ((s.1 21) ≠ 0) <|
      f_reduceBuffer_29 n (f_reduceBuffer_16 n k) n (x1 / (s.1 21)) x2 (0 : Int32) s
set_option maxRecDepth 100000 in
theorem e_reduceBuffer_16 {g : GT} {n : Nat} (hw : HW g) {K : St → MHeap} {o : Nat} {r : Nat → Nat} (V : View (GG g) Ln K o r) (k : Nat) : ∀ (x1 : Int32) (x2 : Int32) (s : St) (y3 : Slot) (hy3 : one1 y3 = true) (y4 : Slot) (hy4 : one1 y4 = true) (y5 : Slot) (hy5 : one1 y5 = true) (y6 : Slot) (hy6 : one1 y6 = true) (y7 : Slot) (hy7 : one1 y7 = true) (y8 : Slot) (hy8 : one1 y8 = true) (w : Int32 × St), f_reduceBuffer_16 n k x1 x2 s = some w → Ev (GG g) M_reduceBuffer 16 [.val (.ref o), .val (.int x1), .val (.int x2), y3, y4, y5, y6, y7, y8] [] (K s) ((some (.int w.1)), (K w.2)) := by
  induction k with
  | zero => intro x1 x2 s y3 hy3 y4 hy4 y5 hy5 y6 hy6 y7 hy7 y8 hy8 w hr; rw [f_reduceBuffer_16] at hr; cases hr
  | succ k ih =>
    intro x1 x2 s y3 hy3 y4 hy4 y5 hy5 y6 hy6 y7 hy7 y8 hy8 w hr
    rw [f_reduceBuffer_16] at hr
    refine Ev.iloadN (d14 10 rfl) rfl ?_
    refine Ev.iflt (t := 139) (d14 11 rfl) rfl (fun c1 => ?_) (fun c1 => ?_)
    · replace hr := (if_pos c1).symm.trans hr
      refine Ev.aloadN (d14 80 rfl) rfl ?_
      refine Ev.gAr V (ww hw 33 rfl) (d14 81 rfl) (j := 11) rfl ?_
      refine Ev.iconst (z := 0) (d14 82 rfl) rfl ?_
      refine Ev.ial V (j := 11) rfl rfl (d14 83 rfl) ⟨by decide, by decide⟩ ?_
      cases hr
      exact Ev.ireturn rfl (d14 84 rfl)
    · replace hr := (if_neg c1).symm.trans hr
      refine Ev.iloadN (d14 12 rfl) rfl ?_
      refine Ev.aloadN (d14 13 rfl) rfl ?_
      refine Ev.gI V (ww hw 53 rfl) (d14 14 rfl) (j := 21) rfl rfl ?_
      obtain ⟨c2, hr⟩ := grd_some hr
      refine Ev.idiv (d14 15 rfl) c2 ?_
      refine Ev.istDN (L' := [.val (.ref o), .val (.int (x1 / (s.1 21))), .val (.int x2), y3, y4, y5, y6, y7, y8]) (d14 16 rfl) rfl rfl rfl ?_
      refine Ev.iconst (z := 0) (d14 17 rfl) rfl ?_
      refine Ev.istDN (L' := [.val (.ref o), .val (.int (x1 / (s.1 21))), .val (.int x2), .val (.int (0 : Int32)), y4, y5, y6, y7, y8]) (d14 18 rfl) rfl hy3 rfl ?_
      exact e_reduceBuffer_29 hw V ih n (x1 / (s.1 21)) x2 (0 : Int32) s y4 hy4 y5 hy5 y6 hy6 y7 hy7 y8 hy8 _ hr
def f_reduceBuffer (n : Nat) (s : St) : Option (Int32 × St) :=
  (f_pow n s (s.1 20)).bind fun q1 =>
  f_reduceBuffer_16 n n q1 ((s.1 20) - (1 : Int32)) s
set_option maxRecDepth 100000 in
theorem e_reduceBuffer {g : GT} {n : Nat} {s : St} {w : Int32 × St} (hw : HW g) {K : St → MHeap} {o : Nat} {r : Nat → Nat} (V : View (GG g) Ln K o r) (hr : f_reduceBuffer n s = some w) : EvC (GG g) M_reduceBuffer [.ref o] (K s) ((some (.int w.1)), (K w.2)) := by
  refine EvC.enter (L0 := [.val (.ref o), .unset, .unset, .unset, .unset, .unset, .unset, .unset, .unset]) pl_reduceBuffer (fun h => nomatch h) rfl rfl ?_
  unfold f_reduceBuffer at hr
  refine Ev.aloadN (d14 0 rfl) rfl ?_
  refine Ev.aloadN (d14 1 rfl) rfl ?_
  refine Ev.gI V (ww hw 51 rfl) (d14 2 rfl) (j := 20) rfl rfl ?_
  obtain ⟨q1, hq2, hr⟩ := Option.bind_eq_some_iff.mp hr
  refine Ev.priv (y := M_pow) (args := [.int (s.1 20)]) (rest := []) (gok hw) rfl nm_pow (ww hw 110 rfl) (ww hw 111 rfl) (ww hw 112 rfl) (ww hw 113 rfl) (lenOf pd_pow rfl) (d14 3 rfl) (V.2.1 s) (e_pow hw V hq2) (by decide) (Nat.le_of_ble_eq_true rfl) rfl ?_
  refine Ev.istDN (L' := [.val (.ref o), .val (.int q1), .unset, .unset, .unset, .unset, .unset, .unset, .unset]) (d14 4 rfl) rfl rfl rfl ?_
  refine Ev.aloadN (d14 5 rfl) rfl ?_
  refine Ev.gI V (ww hw 51 rfl) (d14 6 rfl) (j := 20) rfl rfl ?_
  refine Ev.iconst (z := 1) (d14 7 rfl) rfl ?_
  refine Ev.isub (d14 8 rfl) ?_
  refine Ev.istDN (L' := [.val (.ref o), .val (.int q1), .val (.int ((s.1 20) - (1 : Int32))), .unset, .unset, .unset, .unset, .unset, .unset]) (d14 9 rfl) rfl rfl rfl ?_
  exact e_reduceBuffer_16 hw V  n q1 ((s.1 20) - (1 : Int32)) s .unset rfl .unset rfl .unset rfl .unset rfl .unset rfl .unset rfl _ hr
def f_compileTable_117 (n : Nat) (k78 : Int32 → Int32 → St → Option (Int32 × St)) (x1 : Int32) (x2 : Int32) (z0 : Int32) (z1 : Int32) (s : St) : Option (Int32 × St) :=
  grd (inb z1 1024) <|
  bnd (setA s 11 (ix z1) z0) fun s2 =>
  k78 x1 (x2 + (1 : Int32)) s2
set_option maxRecDepth 100000 in
theorem e_compileTable_117 {g : GT} {n : Nat} (hw : HW g) {K : St → MHeap} {o : Nat} {r : Nat → Nat} (V : View (GG g) Ln K o r) {k78 : Int32 → Int32 → St → Option (Int32 × St)} (hk78 : ∀ (x1 : Int32) (x2 : Int32) (s : St) (w : Int32 × St), k78 x1 x2 s = some w → Ev (GG g) M_compileTable 78 [.val (.ref o), .val (.int x1), .val (.int x2)] [] (K s) ((some (.int w.1)), (K w.2))) (x1 : Int32) (x2 : Int32) (z0 : Int32) (z1 : Int32) (s : St) (w : Int32 × St) (hr : f_compileTable_117 n k78 x1 x2 z0 z1 s = some w) : Ev (GG g) M_compileTable 117 [.val (.ref o), .val (.int x1), .val (.int x2)] [.int z0, .int z1, .ref (r 11)] (K s) ((some (.int w.1)), (K w.2)) := by
  unfold f_compileTable_117 at hr
  obtain ⟨b1, hr⟩ := grd_some hr
  refine Ev.ias V (j := 11) rfl rfl (d10 66 rfl) b1 ?_
  revert hr
  generalize setA s 11 (ix z1) z0 = s2
  intro hr
  replace hr := (bnd_eq _ _).symm.trans hr
  refine Ev.iinc (z := 1) (L' := [.val (.ref o), .val (.int x1), .val (.int (x2 + (1 : Int32)))]) (d10 67 rfl) rfl rfl rfl ?_
  refine Ev.goto (t := 78) (d10 68 rfl) rfl ?_
  exact hk78 x1 (x2 + (1 : Int32)) s2  _ hr
def f_compileTable_124 (n : Nat) (s : St) : Option (Int32 × St) :=
  (f_reduceBuffer n s).bind fun q1 =>
  some (q1.1, q1.2)
set_option maxRecDepth 100000 in
theorem e_compileTable_124 {g : GT} {n : Nat} (hw : HW g) {K : St → MHeap} {o : Nat} {r : Nat → Nat} (V : View (GG g) Ln K o r) (s : St) (y1 : Slot) (hy1 : one1 y1 = true) (y2 : Slot) (hy2 : one1 y2 = true) (w : Int32 × St) (hr : f_compileTable_124 n s = some w) : Ev (GG g) M_compileTable 124 [.val (.ref o), y1, y2] [] (K s) ((some (.int w.1)), (K w.2)) := by
  unfold f_compileTable_124 at hr
  refine Ev.aloadN (d10 69 rfl) rfl ?_
  obtain ⟨q1, hq2, hr⟩ := Option.bind_eq_some_iff.mp hr
  refine Ev.priv (y := M_reduceBuffer) (args := []) (rest := []) (gok hw) rfl nm_reduceBuffer (ww hw 122 rfl) (ww hw 123 rfl) (ww hw 124 rfl) (ww hw 125 rfl) (lenOf pd_reduceBuffer rfl) (d10 70 rfl) (V.2.1 s) (e_reduceBuffer hw V hq2) (by decide) (Nat.le_of_ble_eq_true rfl) rfl ?_
  cases hr
  exact Ev.ireturn rfl (d10 71 rfl)
def f_compileTable_78 (n : Nat) : Nat → Int32 → Int32 → St → Option (Int32 × St)
  | 0 => fun _ _ _ => none
  | k + 1 => fun x1 x2 s =>
    if x2 < x1 then
      if x2 < (1024 : Int32) then
        (f_decode n x2 s).bind fun q3 =>
        (f_scopeCode q3).bind fun q5 =>
        grd (inb q5 64) <|
        if (q3.2 12 (ix q5)) = 0 then
          f_compileTable_117 n (f_compileTable_78 n k) x1 x2 (0 : Int32) x2 q3
        else
          f_compileTable_117 n (f_compileTable_78 n k) x1 x2 (1 : Int32) x2 q3
      else
        f_compileTable_124 n s
    else
      f_compileTable_124 n s
set_option maxRecDepth 100000 in
theorem e_compileTable_78 {g : GT} {n : Nat} (hw : HW g) {K : St → MHeap} {o : Nat} {r : Nat → Nat} (V : View (GG g) Ln K o r) (k : Nat) : ∀ (x1 : Int32) (x2 : Int32) (s : St) (w : Int32 × St), f_compileTable_78 n k x1 x2 s = some w → Ev (GG g) M_compileTable 78 [.val (.ref o), .val (.int x1), .val (.int x2)] [] (K s) ((some (.int w.1)), (K w.2)) := by
  induction k with
  | zero => intro x1 x2 s w hr; rw [f_compileTable_78] at hr; cases hr
  | succ k ih =>
    intro x1 x2 s w hr
    rw [f_compileTable_78] at hr
    refine Ev.iloadN (d10 45 rfl) rfl ?_
    refine Ev.iloadN (d10 46 rfl) rfl ?_
    refine Ev.icge (t := 124) (d10 47 rfl) rfl (fun c1 => ?_) (fun c1 => ?_)
    · replace hr := (if_pos c1).symm.trans hr
      refine Ev.iloadN (d10 48 rfl) rfl ?_
      refine Ev.sipush (z := 1024) (d10 49 rfl) rfl ?_
      refine Ev.icge (t := 124) (d10 50 rfl) rfl (fun c2 => ?_) (fun c2 => ?_)
      · replace hr := (if_pos c2).symm.trans hr
        refine Ev.aloadN (d10 51 rfl) rfl ?_
        refine Ev.iloadN (d10 52 rfl) rfl ?_
        obtain ⟨q3, hq4, hr⟩ := Option.bind_eq_some_iff.mp hr
        refine Ev.priv (y := M_decode) (args := [.int x2]) (rest := []) (gok hw) rfl nm_decode (ww hw 114 rfl) (ww hw 115 rfl) (ww hw 116 rfl) (ww hw 117 rfl) (lenOf pd_decode rfl) (d10 53 rfl) (V.2.1 s) (e_decode hw V hq4) (by decide) (Nat.le_of_ble_eq_true rfl) rfl ?_
        refine Ev.aloadN (d10 54 rfl) rfl ?_
        refine Ev.gAr V (ww hw 33 rfl) (d10 55 rfl) (j := 11) rfl ?_
        refine Ev.iloadN (d10 56 rfl) rfl ?_
        refine Ev.aloadN (d10 57 rfl) rfl ?_
        refine Ev.gAr V (ww hw 35 rfl) (d10 58 rfl) (j := 12) rfl ?_
        refine Ev.aloadN (d10 59 rfl) rfl ?_
        obtain ⟨q5, hq6, hr⟩ := Option.bind_eq_some_iff.mp hr
        refine Ev.priv (y := M_scopeCode) (args := []) (rest := [.ref (r 12), .int x2, .ref (r 11)]) (gok hw) rfl nm_scopeCode (ww hw 118 rfl) (ww hw 119 rfl) (ww hw 120 rfl) (ww hw 121 rfl) (lenOf pd_scopeCode rfl) (d10 60 rfl) (V.2.1 q3) (e_scopeCode hw V hq6) (by decide) (Nat.le_of_ble_eq_true rfl) rfl ?_
        obtain ⟨b7, hr⟩ := grd_some hr
        refine Ev.bal V (j := 12) rfl rfl (d10 61 rfl) b7 ?_
        refine Ev.ifeq (t := 116) (d10 62 rfl) rfl (fun c8 => ?_) (fun c8 => ?_)
        · replace hr := (if_pos c8).symm.trans hr
          refine Ev.iconst (z := 0) (d10 65 rfl) rfl ?_
          exact e_compileTable_117 hw V ih x1 x2 (0 : Int32) x2 q3  _ hr
        · replace hr := (if_neg c8).symm.trans hr
          refine Ev.iconst (z := 1) (d10 63 rfl) rfl ?_
          refine Ev.goto (t := 117) (d10 64 rfl) rfl ?_
          exact e_compileTable_117 hw V ih x1 x2 (1 : Int32) x2 q3  _ hr
      · replace hr := (if_neg c2).symm.trans hr
        exact e_compileTable_124 hw V  s (.val (.int x1)) rfl (.val (.int x2)) rfl _ hr
    · replace hr := (if_neg c1).symm.trans hr
      exact e_compileTable_124 hw V  s (.val (.int x1)) rfl (.val (.int x2)) rfl _ hr
def f_compileTable_67 (n : Nat) (s : St) : Option (Int32 × St) :=
  (f_pow n s (s.1 20)).bind fun q1 =>
  f_compileTable_78 n n q1 (0 : Int32) s
set_option maxRecDepth 100000 in
theorem e_compileTable_67 {g : GT} {n : Nat} (hw : HW g) {K : St → MHeap} {o : Nat} {r : Nat → Nat} (V : View (GG g) Ln K o r) (s : St) (y1 : Slot) (hy1 : one1 y1 = true) (y2 : Slot) (hy2 : one1 y2 = true) (w : Int32 × St) (hr : f_compileTable_67 n s = some w) : Ev (GG g) M_compileTable 67 [.val (.ref o), y1, y2] [] (K s) ((some (.int w.1)), (K w.2)) := by
  unfold f_compileTable_67 at hr
  refine Ev.aloadN (d10 38 rfl) rfl ?_
  refine Ev.aloadN (d10 39 rfl) rfl ?_
  refine Ev.gI V (ww hw 51 rfl) (d10 40 rfl) (j := 20) rfl rfl ?_
  obtain ⟨q1, hq2, hr⟩ := Option.bind_eq_some_iff.mp hr
  refine Ev.priv (y := M_pow) (args := [.int (s.1 20)]) (rest := []) (gok hw) rfl nm_pow (ww hw 110 rfl) (ww hw 111 rfl) (ww hw 112 rfl) (ww hw 113 rfl) (lenOf pd_pow rfl) (d10 41 rfl) (V.2.1 s) (e_pow hw V hq2) (by decide) (Nat.le_of_ble_eq_true rfl) rfl ?_
  refine Ev.istDN (L' := [.val (.ref o), .val (.int q1), y2]) (d10 42 rfl) rfl hy1 rfl ?_
  refine Ev.iconst (z := 0) (d10 43 rfl) rfl ?_
  refine Ev.istDN (L' := [.val (.ref o), .val (.int q1), .val (.int (0 : Int32))]) (d10 44 rfl) rfl hy2 rfl ?_
  exact e_compileTable_78 hw V  n q1 (0 : Int32) s  _ hr
def f_compileTable_23 (n : Nat) : Nat → Int32 → St → Option (Int32 × St)
  | 0 => fun _ _ => none
  | k + 1 => fun x1 s =>
    if x1 < (s.1 29) then
      if x1 < (16 : Int32) then
        grd (inb x1 16) <|
        if (s.2 1 (ix x1)) < 0 then
          f_compileTable_23 n k (x1 + (1 : Int32)) s
        else
          if (s.2 1 (ix x1)) < (64 : Int32) then
            grd (inb (s.2 1 (ix x1)) 64) <|
            bnd (setA s 12 (ix (s.2 1 (ix x1))) ((1 : Int32) &&& 1)) fun s7 =>
            f_compileTable_23 n k (x1 + (1 : Int32)) s7
          else
            f_compileTable_23 n k (x1 + (1 : Int32)) s
      else
        f_compileTable_67 n s
    else
      f_compileTable_67 n s
set_option maxRecDepth 100000 in
theorem e_compileTable_23 {g : GT} {n : Nat} (hw : HW g) {K : St → MHeap} {o : Nat} {r : Nat → Nat} (V : View (GG g) Ln K o r) (k : Nat) : ∀ (x1 : Int32) (s : St) (y2 : Slot) (hy2 : one1 y2 = true) (w : Int32 × St), f_compileTable_23 n k x1 s = some w → Ev (GG g) M_compileTable 23 [.val (.ref o), .val (.int x1), y2] [] (K s) ((some (.int w.1)), (K w.2)) := by
  induction k with
  | zero => intro x1 s y2 hy2 w hr; rw [f_compileTable_23] at hr; cases hr
  | succ k ih =>
    intro x1 s y2 hy2 w hr
    rw [f_compileTable_23] at hr
    refine Ev.iloadN (d10 14 rfl) rfl ?_
    refine Ev.aloadN (d10 15 rfl) rfl ?_
    refine Ev.gI V (ww hw 86 rfl) (d10 16 rfl) (j := 29) rfl rfl ?_
    refine Ev.icge (t := 67) (d10 17 rfl) rfl (fun c1 => ?_) (fun c1 => ?_)
    · replace hr := (if_pos c1).symm.trans hr
      refine Ev.iloadN (d10 18 rfl) rfl ?_
      refine Ev.bipush (z := 16) (d10 19 rfl) rfl ?_
      refine Ev.icge (t := 67) (d10 20 rfl) rfl (fun c2 => ?_) (fun c2 => ?_)
      · replace hr := (if_pos c2).symm.trans hr
        refine Ev.aloadN (d10 21 rfl) rfl ?_
        refine Ev.gAr V (ww hw 12 rfl) (d10 22 rfl) (j := 1) rfl ?_
        refine Ev.iloadN (d10 23 rfl) rfl ?_
        obtain ⟨b3, hr⟩ := grd_some hr
        refine Ev.ial V (j := 1) rfl rfl (d10 24 rfl) b3 ?_
        refine Ev.istDN (L' := [.val (.ref o), .val (.int x1), .val (.int (s.2 1 (ix x1)))]) (d10 25 rfl) rfl hy2 rfl ?_
        refine Ev.iloadN (d10 26 rfl) rfl ?_
        refine Ev.iflt (t := 61) (d10 27 rfl) rfl (fun c4 => ?_) (fun c4 => ?_)
        · replace hr := (if_pos c4).symm.trans hr
          refine Ev.iinc (z := 1) (L' := [.val (.ref o), .val (.int (x1 + (1 : Int32))), .val (.int (s.2 1 (ix x1)))]) (d10 36 rfl) rfl rfl rfl ?_
          refine Ev.goto (t := 23) (d10 37 rfl) rfl ?_
          exact ih (x1 + (1 : Int32)) s (.val (.int (s.2 1 (ix x1)))) rfl _ hr
        · replace hr := (if_neg c4).symm.trans hr
          refine Ev.iloadN (d10 28 rfl) rfl ?_
          refine Ev.bipush (z := 64) (d10 29 rfl) rfl ?_
          refine Ev.icge (t := 61) (d10 30 rfl) rfl (fun c5 => ?_) (fun c5 => ?_)
          · replace hr := (if_pos c5).symm.trans hr
            refine Ev.aloadN (d10 31 rfl) rfl ?_
            refine Ev.gAr V (ww hw 35 rfl) (d10 32 rfl) (j := 12) rfl ?_
            refine Ev.iloadN (d10 33 rfl) rfl ?_
            refine Ev.iconst (z := 1) (d10 34 rfl) rfl ?_
            obtain ⟨b6, hr⟩ := grd_some hr
            refine Ev.bas V (j := 12) rfl rfl (d10 35 rfl) b6 ?_
            revert hr
            generalize setA s 12 (ix (s.2 1 (ix x1))) ((1 : Int32) &&& 1) = s7
            intro hr
            replace hr := (bnd_eq _ _).symm.trans hr
            refine Ev.iinc (z := 1) (L' := [.val (.ref o), .val (.int (x1 + (1 : Int32))), .val (.int (s.2 1 (ix x1)))]) (d10 36 rfl) rfl rfl rfl ?_
            refine Ev.goto (t := 23) (d10 37 rfl) rfl ?_
            exact ih (x1 + (1 : Int32)) s7 (.val (.int (s.2 1 (ix x1)))) rfl _ hr
          · replace hr := (if_neg c5).symm.trans hr
            refine Ev.iinc (z := 1) (L' := [.val (.ref o), .val (.int (x1 + (1 : Int32))), .val (.int (s.2 1 (ix x1)))]) (d10 36 rfl) rfl rfl rfl ?_
            refine Ev.goto (t := 23) (d10 37 rfl) rfl ?_
            exact ih (x1 + (1 : Int32)) s (.val (.int (s.2 1 (ix x1)))) rfl _ hr
      · replace hr := (if_neg c2).symm.trans hr
        exact e_compileTable_67 hw V  s (.val (.int x1)) rfl y2 hy2 _ hr
    · replace hr := (if_neg c1).symm.trans hr
      exact e_compileTable_67 hw V  s (.val (.int x1)) rfl y2 hy2 _ hr
def f_compileTable_2 (n : Nat) : Nat → Int32 → St → Option (Int32 × St)
  | 0 => fun _ _ => none
  | k + 1 => fun x1 s =>
    if x1 < (64 : Int32) then
      grd (inb x1 64) <|
      bnd (setA s 12 (ix x1) ((0 : Int32) &&& 1)) fun s3 =>
      f_compileTable_2 n k (x1 + (1 : Int32)) s3
    else
      f_compileTable_23 n n (0 : Int32) s
set_option maxRecDepth 100000 in
theorem e_compileTable_2 {g : GT} {n : Nat} (hw : HW g) {K : St → MHeap} {o : Nat} {r : Nat → Nat} (V : View (GG g) Ln K o r) (k : Nat) : ∀ (x1 : Int32) (s : St) (y2 : Slot) (hy2 : one1 y2 = true) (w : Int32 × St), f_compileTable_2 n k x1 s = some w → Ev (GG g) M_compileTable 2 [.val (.ref o), .val (.int x1), y2] [] (K s) ((some (.int w.1)), (K w.2)) := by
  induction k with
  | zero => intro x1 s y2 hy2 w hr; rw [f_compileTable_2] at hr; cases hr
  | succ k ih =>
    intro x1 s y2 hy2 w hr
    rw [f_compileTable_2] at hr
    refine Ev.iloadN (d10 2 rfl) rfl ?_
    refine Ev.bipush (z := 64) (d10 3 rfl) rfl ?_
    refine Ev.icge (t := 21) (d10 4 rfl) rfl (fun c1 => ?_) (fun c1 => ?_)
    · replace hr := (if_pos c1).symm.trans hr
      refine Ev.aloadN (d10 5 rfl) rfl ?_
      refine Ev.gAr V (ww hw 35 rfl) (d10 6 rfl) (j := 12) rfl ?_
      refine Ev.iloadN (d10 7 rfl) rfl ?_
      refine Ev.iconst (z := 0) (d10 8 rfl) rfl ?_
      obtain ⟨b2, hr⟩ := grd_some hr
      refine Ev.bas V (j := 12) rfl rfl (d10 9 rfl) b2 ?_
      revert hr
      generalize setA s 12 (ix x1) ((0 : Int32) &&& 1) = s3
      intro hr
      replace hr := (bnd_eq _ _).symm.trans hr
      refine Ev.iinc (z := 1) (L' := [.val (.ref o), .val (.int (x1 + (1 : Int32))), y2]) (d10 10 rfl) rfl rfl rfl ?_
      refine Ev.goto (t := 2) (d10 11 rfl) rfl ?_
      exact ih (x1 + (1 : Int32)) s3 y2 hy2 _ hr
    · replace hr := (if_neg c1).symm.trans hr
      refine Ev.iconst (z := 0) (d10 12 rfl) rfl ?_
      refine Ev.istDN (L' := [.val (.ref o), .val (.int (0 : Int32)), y2]) (d10 13 rfl) rfl rfl rfl ?_
      exact e_compileTable_23 hw V  n (0 : Int32) s y2 hy2 _ hr
def f_compileTable (n : Nat) (s : St) : Option (Int32 × St) :=
  f_compileTable_2 n n (0 : Int32) s
set_option maxRecDepth 100000 in
theorem e_compileTable {g : GT} {n : Nat} {s : St} {w : Int32 × St} (hw : HW g) {K : St → MHeap} {o : Nat} {r : Nat → Nat} (V : View (GG g) Ln K o r) (hr : f_compileTable n s = some w) : EvC (GG g) M_compileTable [.ref o] (K s) ((some (.int w.1)), (K w.2)) := by
  refine EvC.enter (L0 := [.val (.ref o), .unset, .unset]) pl_compileTable (fun h => nomatch h) rfl rfl ?_
  unfold f_compileTable at hr
  refine Ev.iconst (z := 0) (d10 0 rfl) rfl ?_
  refine Ev.istDN (L' := [.val (.ref o), .val (.int (0 : Int32)), .unset]) (d10 1 rfl) rfl rfl rfl ?_
  exact e_compileTable_2 hw V  n (0 : Int32) s .unset rfl _ hr
def f_push (a0 : Int32) (a1 : Int32) (s : St) : Option (St) :=
  if (s.1 30) < (64 : Int32) then
    grd (inb (s.1 30) 64) <|
    bnd (setA s 17 (ix (s.1 30)) a0) fun s3 =>
    grd (inb (s3.1 30) 64) <|
    bnd (setA s3 18 (ix (s3.1 30)) a1) fun s5 =>
    grd (inb (s5.1 30) 64) <|
    bnd (setA s5 19 (ix (s5.1 30)) (0 : Int32)) fun s7 =>
    bnd (setI s7 30 ((s7.1 30) + (1 : Int32))) fun s8 =>
    some s8
  else
    some s
set_option maxRecDepth 100000 in
theorem e_push {g : GT} {a0 : Int32} {a1 : Int32} {s : St} {w : St} (hw : HW g) {K : St → MHeap} {o : Nat} {r : Nat → Nat} (V : View (GG g) Ln K o r) (hr : f_push a0 a1 s = some w) : EvC (GG g) M_push [.ref o, .int a0, .int a1] (K s) (none, (K w)) := by
  refine EvC.enter (L0 := [.val (.ref o), .val (.int a0), .val (.int a1)]) pl_push (fun _ => rfl) rfl rfl ?_
  unfold f_push at hr
  refine Ev.aloadN (d19 0 rfl) rfl ?_
  refine Ev.gI V (ww hw 144 rfl) (d19 1 rfl) (j := 30) rfl rfl ?_
  refine Ev.bipush (z := 64) (d19 2 rfl) rfl ?_
  refine Ev.iclt (t := 10) (d19 3 rfl) rfl (fun c1 => ?_) (fun c1 => ?_)
  · replace hr := (if_pos c1).symm.trans hr
    refine Ev.aloadN (d19 5 rfl) rfl ?_
    refine Ev.gAr V (ww hw 45 rfl) (d19 6 rfl) (j := 17) rfl ?_
    refine Ev.aloadN (d19 7 rfl) rfl ?_
    refine Ev.gI V (ww hw 144 rfl) (d19 8 rfl) (j := 30) rfl rfl ?_
    refine Ev.iloadN (d19 9 rfl) rfl ?_
    obtain ⟨b2, hr⟩ := grd_some hr
    refine Ev.ias V (j := 17) rfl rfl (d19 10 rfl) b2 ?_
    revert hr
    generalize setA s 17 (ix (s.1 30)) a0 = s3
    intro hr
    replace hr := (bnd_eq _ _).symm.trans hr
    refine Ev.aloadN (d19 11 rfl) rfl ?_
    refine Ev.gAr V (ww hw 47 rfl) (d19 12 rfl) (j := 18) rfl ?_
    refine Ev.aloadN (d19 13 rfl) rfl ?_
    refine Ev.gI V (ww hw 144 rfl) (d19 14 rfl) (j := 30) rfl rfl ?_
    refine Ev.iloadN (d19 15 rfl) rfl ?_
    obtain ⟨b4, hr⟩ := grd_some hr
    refine Ev.ias V (j := 18) rfl rfl (d19 16 rfl) b4 ?_
    revert hr
    generalize setA s3 18 (ix (s3.1 30)) a1 = s5
    intro hr
    replace hr := (bnd_eq _ _).symm.trans hr
    refine Ev.aloadN (d19 17 rfl) rfl ?_
    refine Ev.gAr V (ww hw 49 rfl) (d19 18 rfl) (j := 19) rfl ?_
    refine Ev.aloadN (d19 19 rfl) rfl ?_
    refine Ev.gI V (ww hw 144 rfl) (d19 20 rfl) (j := 30) rfl rfl ?_
    refine Ev.iconst (z := 0) (d19 21 rfl) rfl ?_
    obtain ⟨b6, hr⟩ := grd_some hr
    refine Ev.ias V (j := 19) rfl rfl (d19 22 rfl) b6 ?_
    revert hr
    generalize setA s5 19 (ix (s5.1 30)) (0 : Int32) = s7
    intro hr
    replace hr := (bnd_eq _ _).symm.trans hr
    refine Ev.aloadN (d19 23 rfl) rfl ?_
    refine Ev.dup (d19 24 rfl) rfl ?_
    refine Ev.gI V (ww hw 144 rfl) (d19 25 rfl) (j := 30) rfl rfl ?_
    refine Ev.iconst (z := 1) (d19 26 rfl) rfl ?_
    refine Ev.iadd (d19 27 rfl) ?_
    refine Ev.pI V (gok hw) (ww hw 144 rfl) (Or.inl (ww hw 145 rfl)) (d19 28 rfl) (j := 30) rfl ?_
    revert hr
    generalize setI s7 30 ((s7.1 30) + (1 : Int32)) = s8
    intro hr
    replace hr := (bnd_eq _ _).symm.trans hr
    cases hr
    exact Ev.vreturn rfl (d19 29 rfl)
  · replace hr := (if_neg c1).symm.trans hr
    cases hr
    exact Ev.vreturn rfl (d19 4 rfl)
def f_memoSlot (s : St) (a0 : Int32) (a1 : Int32) : Option (Int32) :=
  bnd ((a0 * (7919 : Int32)) + (a1 * (31 : Int32))) fun v1 =>
  some ((v1 ^^^ (XT.ushr v1 (11 : Int32))) &&& (1023 : Int32))
set_option maxRecDepth 100000 in
theorem e_memoSlot {g : GT} {s : St} {a0 : Int32} {a1 : Int32} {w : Int32} (hw : HW g) {K : St → MHeap} {o : Nat} {r : Nat → Nat} (V : View (GG g) Ln K o r) (hr : f_memoSlot s a0 a1 = some w) : EvC (GG g) M_memoSlot [.ref o, .int a0, .int a1] (K s) ((some (.int w)), (K s)) := by
  refine EvC.enter (L0 := [.val (.ref o), .val (.int a0), .val (.int a1), .unset]) pl_memoSlot (fun h => nomatch h) rfl rfl ?_
  unfold f_memoSlot at hr
  refine Ev.iloadN (d34 0 rfl) rfl ?_
  refine Ev.sipush (z := 7919) (d34 1 rfl) rfl ?_
  refine Ev.imul (d34 2 rfl) ?_
  refine Ev.iloadN (d34 3 rfl) rfl ?_
  refine Ev.bipush (z := 31) (d34 4 rfl) rfl ?_
  refine Ev.imul (d34 5 rfl) ?_
  refine Ev.iadd (d34 6 rfl) ?_
  revert hr
  generalize ((a0 * (7919 : Int32)) + (a1 * (31 : Int32))) = v1
  intro hr
  replace hr := (bnd_eq _ _).symm.trans hr
  refine Ev.istDN (L' := [.val (.ref o), .val (.int a0), .val (.int a1), .val (.int v1)]) (d34 7 rfl) rfl rfl rfl ?_
  refine Ev.iloadN (d34 8 rfl) rfl ?_
  refine Ev.iloadN (d34 9 rfl) rfl ?_
  refine Ev.bipush (z := 11) (d34 10 rfl) rfl ?_
  refine Ev.iushr (d34 11 rfl) ?_
  refine Ev.ixor (d34 12 rfl) ?_
  refine Ev.istDN (L' := [.val (.ref o), .val (.int a0), .val (.int a1), .val (.int (v1 ^^^ (XT.ushr v1 (11 : Int32))))]) (d34 13 rfl) rfl rfl rfl ?_
  refine Ev.iloadN (d34 14 rfl) rfl ?_
  refine Ev.sipush (z := 1023) (d34 15 rfl) rfl ?_
  refine Ev.iand (d34 16 rfl) ?_
  cases hr
  exact Ev.ireturn rfl (d34 17 rfl)
def f_memoFind_84 (n : Nat) (s : St) (k35 : Int32 → Int32 → Int32 → Int32 → Option (Int32)) (x3 : Int32) (x4 : Int32) (x5 : Int32) (x6 : Int32) : Option (Int32) :=
  k35 x3 x4 ((x5 + (1 : Int32)) &&& (1023 : Int32)) (x6 + (1 : Int32))
set_option maxRecDepth 100000 in
theorem e_memoFind_84 {g : GT} {n : Nat} {s : St} (hw : HW g) {K : St → MHeap} {o : Nat} {r : Nat → Nat} (V : View (GG g) Ln K o r) {k35 : Int32 → Int32 → Int32 → Int32 → Option (Int32)} (hk35 : ∀ (x3 : Int32) (x4 : Int32) (x5 : Int32) (x6 : Int32) (y1 : Slot) (hy1 : one1 y1 = true) (y2 : Slot) (hy2 : one1 y2 = true) (w : Int32), k35 x3 x4 x5 x6 = some w → Ev (GG g) M_memoFind 35 [.val (.ref o), y1, y2, .val (.int x3), .val (.int x4), .val (.int x5), .val (.int x6)] [] (K s) ((some (.int w)), (K s))) (x3 : Int32) (x4 : Int32) (x5 : Int32) (x6 : Int32) (y1 : Slot) (hy1 : one1 y1 = true) (y2 : Slot) (hy2 : one1 y2 = true) (w : Int32) (hr : f_memoFind_84 n s k35 x3 x4 x5 x6 = some w) : Ev (GG g) M_memoFind 84 [.val (.ref o), y1, y2, .val (.int x3), .val (.int x4), .val (.int x5), .val (.int x6)] [] (K s) ((some (.int w)), (K s)) := by
  unfold f_memoFind_84 at hr
  refine Ev.iload (d33 46 rfl) rfl ?_
  refine Ev.iconst (z := 1) (d33 47 rfl) rfl ?_
  refine Ev.iadd (d33 48 rfl) ?_
  refine Ev.sipush (z := 1023) (d33 49 rfl) rfl ?_
  refine Ev.iand (d33 50 rfl) ?_
  refine Ev.istD (L' := [.val (.ref o), y1, y2, .val (.int x3), .val (.int x4), .val (.int ((x5 + (1 : Int32)) &&& (1023 : Int32))), .val (.int x6)]) (d33 51 rfl) rfl rfl rfl ?_
  refine Ev.iinc (z := 1) (L' := [.val (.ref o), y1, y2, .val (.int x3), .val (.int x4), .val (.int ((x5 + (1 : Int32)) &&& (1023 : Int32))), .val (.int (x6 + (1 : Int32)))]) (d33 52 rfl) rfl rfl rfl ?_
  refine Ev.goto (t := 35) (d33 53 rfl) rfl ?_
  exact hk35 x3 x4 ((x5 + (1 : Int32)) &&& (1023 : Int32)) (x6 + (1 : Int32)) y1 hy1 y2 hy2 _ hr
def f_memoFind_35 (n : Nat) (s : St) : Nat → Int32 → Int32 → Int32 → Int32 → Option (Int32)
  | 0 => fun _ _ _ _ => none
  | k + 1 => fun x3 x4 x5 x6 =>
    if x6 < (1024 : Int32) then
      grd (inb x5 1024) <|
      if (s.2 16 (ix x5)) = 0 then
        some (-1 : Int32)
      else
        if (s.2 13 (ix x5)) = x3 then
          if (s.2 14 (ix x5)) = x4 then
            some (s.2 15 (ix x5))
          else
            f_memoFind_84 n s (f_memoFind_35 n s k) x3 x4 x5 x6
        else
          f_memoFind_84 n s (f_memoFind_35 n s k) x3 x4 x5 x6
    else
      some (-1 : Int32)
set_option maxRecDepth 100000 in
theorem e_memoFind_35 {g : GT} {n : Nat} {s : St} (hw : HW g) {K : St → MHeap} {o : Nat} {r : Nat → Nat} (V : View (GG g) Ln K o r) (k : Nat) : ∀ (x3 : Int32) (x4 : Int32) (x5 : Int32) (x6 : Int32) (y1 : Slot) (hy1 : one1 y1 = true) (y2 : Slot) (hy2 : one1 y2 = true) (w : Int32), f_memoFind_35 n s k x3 x4 x5 x6 = some w → Ev (GG g) M_memoFind 35 [.val (.ref o), y1, y2, .val (.int x3), .val (.int x4), .val (.int x5), .val (.int x6)] [] (K s) ((some (.int w)), (K s)) := by
  induction k with
  | zero => intro x3 x4 x5 x6 y1 hy1 y2 hy2 w hr; rw [f_memoFind_35] at hr; cases hr
  | succ k ih =>
    intro x3 x4 x5 x6 y1 hy1 y2 hy2 w hr
    rw [f_memoFind_35] at hr
    refine Ev.iload (d33 21 rfl) rfl ?_
    refine Ev.sipush (z := 1024) (d33 22 rfl) rfl ?_
    refine Ev.icge (t := 100) (d33 23 rfl) rfl (fun c1 => ?_) (fun c1 => ?_)
    · replace hr := (if_pos c1).symm.trans hr
      refine Ev.aloadN (d33 24 rfl) rfl ?_
      refine Ev.gAr V (ww hw 43 rfl) (d33 25 rfl) (j := 16) rfl ?_
      refine Ev.iload (d33 26 rfl) rfl ?_
      obtain ⟨b2, hr⟩ := grd_some hr
      refine Ev.bal V (j := 16) rfl rfl (d33 27 rfl) b2 ?_
      refine Ev.ifeq (t := 100) (d33 28 rfl) rfl (fun c3 => ?_) (fun c3 => ?_)
      · replace hr := (if_pos c3).symm.trans hr
        refine Ev.iconst (z := -1) (d33 54 rfl) rfl ?_
        cases hr
        exact Ev.ireturn rfl (d33 55 rfl)
      · replace hr := (if_neg c3).symm.trans hr
        refine Ev.aloadN (d33 29 rfl) rfl ?_
        refine Ev.gAr V (ww hw 37 rfl) (d33 30 rfl) (j := 13) rfl ?_
        refine Ev.iload (d33 31 rfl) rfl ?_
        refine Ev.ial V (j := 13) rfl rfl (d33 32 rfl) b2 ?_
        refine Ev.iloadN (d33 33 rfl) rfl ?_
        refine Ev.icne (t := 84) (d33 34 rfl) rfl (fun c4 => ?_) (fun c4 => ?_)
        · replace hr := (if_pos c4).symm.trans hr
          refine Ev.aloadN (d33 35 rfl) rfl ?_
          refine Ev.gAr V (ww hw 39 rfl) (d33 36 rfl) (j := 14) rfl ?_
          refine Ev.iload (d33 37 rfl) rfl ?_
          refine Ev.ial V (j := 14) rfl rfl (d33 38 rfl) b2 ?_
          refine Ev.iload (d33 39 rfl) rfl ?_
          refine Ev.icne (t := 84) (d33 40 rfl) rfl (fun c5 => ?_) (fun c5 => ?_)
          · replace hr := (if_pos c5).symm.trans hr
            refine Ev.aloadN (d33 41 rfl) rfl ?_
            refine Ev.gAr V (ww hw 41 rfl) (d33 42 rfl) (j := 15) rfl ?_
            refine Ev.iload (d33 43 rfl) rfl ?_
            refine Ev.ial V (j := 15) rfl rfl (d33 44 rfl) b2 ?_
            cases hr
            exact Ev.ireturn rfl (d33 45 rfl)
          · replace hr := (if_neg c5).symm.trans hr
            exact e_memoFind_84 hw V ih x3 x4 x5 x6 y1 hy1 y2 hy2 _ hr
        · replace hr := (if_neg c4).symm.trans hr
          exact e_memoFind_84 hw V ih x3 x4 x5 x6 y1 hy1 y2 hy2 _ hr
    · replace hr := (if_neg c1).symm.trans hr
      refine Ev.iconst (z := -1) (d33 54 rfl) rfl ?_
      cases hr
      exact Ev.ireturn rfl (d33 55 rfl)
def f_memoFind_21 (n : Nat) (s : St) (x3 : Int32) (z0 : Int32) : Option (Int32) :=
  (f_memoSlot s x3 z0).bind fun q1 =>
  f_memoFind_35 n s n x3 z0 q1 (0 : Int32)
set_option maxRecDepth 100000 in
theorem e_memoFind_21 {g : GT} {n : Nat} {s : St} (hw : HW g) {K : St → MHeap} {o : Nat} {r : Nat → Nat} (V : View (GG g) Ln K o r) (x3 : Int32) (z0 : Int32) (y1 : Slot) (hy1 : one1 y1 = true) (y2 : Slot) (hy2 : one1 y2 = true) (y4 : Slot) (hy4 : one1 y4 = true) (y5 : Slot) (hy5 : one1 y5 = true) (y6 : Slot) (hy6 : one1 y6 = true) (w : Int32) (hr : f_memoFind_21 n s x3 z0 = some w) : Ev (GG g) M_memoFind 21 [.val (.ref o), y1, y2, .val (.int x3), y4, y5, y6] [.int z0] (K s) ((some (.int w)), (K s)) := by
  unfold f_memoFind_21 at hr
  refine Ev.istD (L' := [.val (.ref o), y1, y2, .val (.int x3), .val (.int z0), y5, y6]) (d33 13 rfl) rfl hy4 rfl ?_
  refine Ev.aloadN (d33 14 rfl) rfl ?_
  refine Ev.iloadN (d33 15 rfl) rfl ?_
  refine Ev.iload (d33 16 rfl) rfl ?_
  obtain ⟨q1, hq2, hr⟩ := Option.bind_eq_some_iff.mp hr
  refine Ev.priv (y := M_memoSlot) (args := [.int x3, .int z0]) (rest := []) (gok hw) rfl nm_memoSlot (ww hw 213 rfl) (ww hw 214 rfl) (ww hw 215 rfl) (ww hw 216 rfl) (lenOf pd_memoSlot rfl) (d33 17 rfl) (V.2.1 s) (e_memoSlot hw V hq2) (by decide) (Nat.le_of_ble_eq_true rfl) rfl ?_
  refine Ev.istD (L' := [.val (.ref o), y1, y2, .val (.int x3), .val (.int z0), .val (.int q1), y6]) (d33 18 rfl) rfl hy5 rfl ?_
  refine Ev.iconst (z := 0) (d33 19 rfl) rfl ?_
  refine Ev.istD (L' := [.val (.ref o), y1, y2, .val (.int x3), .val (.int z0), .val (.int q1), .val (.int (0 : Int32))]) (d33 20 rfl) rfl hy6 rfl ?_
  exact e_memoFind_35 hw V  n x3 z0 q1 (0 : Int32) y1 hy1 y2 hy2 _ hr
def f_memoFind_10 (n : Nat) (s : St) (x1 : Int32) (x2 : Int32) (z0 : Int32) : Option (Int32) :=
  if x1 < x2 then
    f_memoFind_21 n s z0 x2
  else
    f_memoFind_21 n s z0 x1
set_option maxRecDepth 100000 in
theorem e_memoFind_10 {g : GT} {n : Nat} {s : St} (hw : HW g) {K : St → MHeap} {o : Nat} {r : Nat → Nat} (V : View (GG g) Ln K o r) (x1 : Int32) (x2 : Int32) (z0 : Int32) (y3 : Slot) (hy3 : one1 y3 = true) (y4 : Slot) (hy4 : one1 y4 = true) (y5 : Slot) (hy5 : one1 y5 = true) (y6 : Slot) (hy6 : one1 y6 = true) (w : Int32) (hr : f_memoFind_10 n s x1 x2 z0 = some w) : Ev (GG g) M_memoFind 10 [.val (.ref o), .val (.int x1), .val (.int x2), y3, y4, y5, y6] [.int z0] (K s) ((some (.int w)), (K s)) := by
  unfold f_memoFind_10 at hr
  refine Ev.istDN (L' := [.val (.ref o), .val (.int x1), .val (.int x2), .val (.int z0), y4, y5, y6]) (d33 6 rfl) rfl hy3 rfl ?_
  refine Ev.iloadN (d33 7 rfl) rfl ?_
  refine Ev.iloadN (d33 8 rfl) rfl ?_
  refine Ev.icge (t := 20) (d33 9 rfl) rfl (fun c1 => ?_) (fun c1 => ?_)
  · replace hr := (if_pos c1).symm.trans hr
    refine Ev.iloadN (d33 10 rfl) rfl ?_
    refine Ev.goto (t := 21) (d33 11 rfl) rfl ?_
    exact e_memoFind_21 hw V  z0 x2 (.val (.int x1)) rfl (.val (.int x2)) rfl y4 hy4 y5 hy5 y6 hy6 _ hr
  · replace hr := (if_neg c1).symm.trans hr
    refine Ev.iloadN (d33 12 rfl) rfl ?_
    exact e_memoFind_21 hw V  z0 x1 (.val (.int x1)) rfl (.val (.int x2)) rfl y4 hy4 y5 hy5 y6 hy6 _ hr
def f_memoFind (n : Nat) (s : St) (a0 : Int32) (a1 : Int32) : Option (Int32) :=
  if a0 < a1 then
    f_memoFind_10 n s a0 a1 a0
  else
    f_memoFind_10 n s a0 a1 a1
set_option maxRecDepth 100000 in
theorem e_memoFind {g : GT} {n : Nat} {s : St} {a0 : Int32} {a1 : Int32} {w : Int32} (hw : HW g) {K : St → MHeap} {o : Nat} {r : Nat → Nat} (V : View (GG g) Ln K o r) (hr : f_memoFind n s a0 a1 = some w) : EvC (GG g) M_memoFind [.ref o, .int a0, .int a1] (K s) ((some (.int w)), (K s)) := by
  refine EvC.enter (L0 := [.val (.ref o), .val (.int a0), .val (.int a1), .unset, .unset, .unset, .unset]) pl_memoFind (fun h => nomatch h) rfl rfl ?_
  unfold f_memoFind at hr
  refine Ev.iloadN (d33 0 rfl) rfl ?_
  refine Ev.iloadN (d33 1 rfl) rfl ?_
  refine Ev.icge (t := 9) (d33 2 rfl) rfl (fun c1 => ?_) (fun c1 => ?_)
  · replace hr := (if_pos c1).symm.trans hr
    refine Ev.iloadN (d33 3 rfl) rfl ?_
    refine Ev.goto (t := 10) (d33 4 rfl) rfl ?_
    exact e_memoFind_10 hw V  a0 a1 a0 .unset rfl .unset rfl .unset rfl .unset rfl _ hr
  · replace hr := (if_neg c1).symm.trans hr
    refine Ev.iloadN (d33 5 rfl) rfl ?_
    exact e_memoFind_10 hw V  a0 a1 a1 .unset rfl .unset rfl .unset rfl .unset rfl _ hr
def f_resolve (n : Nat) (s : St) (a0 : Int32) (a1 : Int32) : Option (Int32) :=
  if a0 = 0 then
    some (0 : Int32)
  else
    if a1 = 0 then
      some (0 : Int32)
    else
      if a0 = (1 : Int32) then
        some a1
      else
        if a1 = (1 : Int32) then
          some a0
        else
          if a0 = a1 then
            some a0
          else
            (f_memoFind n s a0 a1).bind fun q6 =>
            some q6
set_option maxRecDepth 100000 in
theorem e_resolve {g : GT} {n : Nat} {s : St} {a0 : Int32} {a1 : Int32} {w : Int32} (hw : HW g) {K : St → MHeap} {o : Nat} {r : Nat → Nat} (V : View (GG g) Ln K o r) (hr : f_resolve n s a0 a1 = some w) : EvC (GG g) M_resolve [.ref o, .int a0, .int a1] (K s) ((some (.int w)), (K s)) := by
  refine EvC.enter (L0 := [.val (.ref o), .val (.int a0), .val (.int a1)]) pl_resolve (fun h => nomatch h) rfl rfl ?_
  unfold f_resolve at hr
  refine Ev.iloadN (d21 0 rfl) rfl ?_
  refine Ev.ifeq (t := 8) (d21 1 rfl) rfl (fun c1 => ?_) (fun c1 => ?_)
  · replace hr := (if_pos c1).symm.trans hr
    refine Ev.iconst (z := 0) (d21 4 rfl) rfl ?_
    cases hr
    exact Ev.ireturn rfl (d21 5 rfl)
  · replace hr := (if_neg c1).symm.trans hr
    refine Ev.iloadN (d21 2 rfl) rfl ?_
    refine Ev.ifne (t := 10) (d21 3 rfl) rfl (fun c2 => ?_) (fun c2 => ?_)
    · replace hr := (if_pos c2).symm.trans hr
      refine Ev.iconst (z := 0) (d21 4 rfl) rfl ?_
      cases hr
      exact Ev.ireturn rfl (d21 5 rfl)
    · replace hr := (if_neg c2).symm.trans hr
      refine Ev.iloadN (d21 6 rfl) rfl ?_
      refine Ev.iconst (z := 1) (d21 7 rfl) rfl ?_
      refine Ev.icne (t := 17) (d21 8 rfl) rfl (fun c3 => ?_) (fun c3 => ?_)
      · replace hr := (if_pos c3).symm.trans hr
        refine Ev.iloadN (d21 9 rfl) rfl ?_
        cases hr
        exact Ev.ireturn rfl (d21 10 rfl)
      · replace hr := (if_neg c3).symm.trans hr
        refine Ev.iloadN (d21 11 rfl) rfl ?_
        refine Ev.iconst (z := 1) (d21 12 rfl) rfl ?_
        refine Ev.iceq (t := 27) (d21 13 rfl) rfl (fun c4 => ?_) (fun c4 => ?_)
        · replace hr := (if_pos c4).symm.trans hr
          refine Ev.iloadN (d21 17 rfl) rfl ?_
          cases hr
          exact Ev.ireturn rfl (d21 18 rfl)
        · replace hr := (if_neg c4).symm.trans hr
          refine Ev.iloadN (d21 14 rfl) rfl ?_
          refine Ev.iloadN (d21 15 rfl) rfl ?_
          refine Ev.icne (t := 29) (d21 16 rfl) rfl (fun c5 => ?_) (fun c5 => ?_)
          · replace hr := (if_pos c5).symm.trans hr
            refine Ev.iloadN (d21 17 rfl) rfl ?_
            cases hr
            exact Ev.ireturn rfl (d21 18 rfl)
          · replace hr := (if_neg c5).symm.trans hr
            refine Ev.aloadN (d21 19 rfl) rfl ?_
            refine Ev.iloadN (d21 20 rfl) rfl ?_
            refine Ev.iloadN (d21 21 rfl) rfl ?_
            obtain ⟨q6, hq7, hr⟩ := Option.bind_eq_some_iff.mp hr
            refine Ev.priv (y := M_memoFind) (args := [.int a0, .int a1]) (rest := []) (gok hw) rfl nm_memoFind (ww hw 209 rfl) (ww hw 210 rfl) (ww hw 211 rfl) (ww hw 212 rfl) (lenOf pd_memoFind rfl) (d21 22 rfl) (V.2.1 s) (e_memoFind hw V hq7) (by decide) (Nat.le_of_ble_eq_true rfl) rfl ?_
            cases hr
            exact Ev.ireturn rfl (d21 23 rfl)
def f_topLevel (s : St) (a0 : Int32) (a1 : Int32) : Option (Int32) :=
  grd (inb a0 2048) <|
  grd (inb a1 2048) <|
  if (s.2 5 (ix a0)) < (s.2 5 (ix a1)) then
    some (s.2 5 (ix a0))
  else
    some (s.2 5 (ix a1))
set_option maxRecDepth 100000 in
theorem e_topLevel {g : GT} {s : St} {a0 : Int32} {a1 : Int32} {w : Int32} (hw : HW g) {K : St → MHeap} {o : Nat} {r : Nat → Nat} (V : View (GG g) Ln K o r) (hr : f_topLevel s a0 a1 = some w) : EvC (GG g) M_topLevel [.ref o, .int a0, .int a1] (K s) ((some (.int w)), (K s)) := by
  refine EvC.enter (L0 := [.val (.ref o), .val (.int a0), .val (.int a1)]) pl_topLevel (fun h => nomatch h) rfl rfl ?_
  unfold f_topLevel at hr
  refine Ev.aloadN (d36 0 rfl) rfl ?_
  refine Ev.gAr V (ww hw 20 rfl) (d36 1 rfl) (j := 5) rfl ?_
  refine Ev.iloadN (d36 2 rfl) rfl ?_
  obtain ⟨b1, hr⟩ := grd_some hr
  refine Ev.ial V (j := 5) rfl rfl (d36 3 rfl) b1 ?_
  refine Ev.aloadN (d36 4 rfl) rfl ?_
  refine Ev.gAr V (ww hw 20 rfl) (d36 5 rfl) (j := 5) rfl ?_
  refine Ev.iloadN (d36 6 rfl) rfl ?_
  obtain ⟨b2, hr⟩ := grd_some hr
  refine Ev.ial V (j := 5) rfl rfl (d36 7 rfl) b2 ?_
  refine Ev.icge (t := 24) (d36 8 rfl) rfl (fun c3 => ?_) (fun c3 => ?_)
  · replace hr := (if_pos c3).symm.trans hr
    refine Ev.aloadN (d36 9 rfl) rfl ?_
    refine Ev.gAr V (ww hw 20 rfl) (d36 10 rfl) (j := 5) rfl ?_
    refine Ev.iloadN (d36 11 rfl) rfl ?_
    refine Ev.ial V (j := 5) rfl rfl (d36 12 rfl) b1 ?_
    refine Ev.goto (t := 30) (d36 13 rfl) rfl ?_
    cases hr
    exact Ev.ireturn rfl (d36 18 rfl)
  · replace hr := (if_neg c3).symm.trans hr
    refine Ev.aloadN (d36 14 rfl) rfl ?_
    refine Ev.gAr V (ww hw 20 rfl) (d36 15 rfl) (j := 5) rfl ?_
    refine Ev.iloadN (d36 16 rfl) rfl ?_
    refine Ev.ial V (j := 5) rfl rfl (d36 17 rfl) b2 ?_
    cases hr
    exact Ev.ireturn rfl (d36 18 rfl)
def f_cofactor (s : St) (a0 : Int32) (a1 : Int32) (a2 : Int32) : Option (Int32) :=
  grd (inb a0 2048) <|
  if (s.2 5 (ix a0)) = a1 then
    grd (inb ((a0 * (4 : Int32)) + a2) 8192) <|
    some (s.2 6 (ix ((a0 * (4 : Int32)) + a2)))
  else
    some a0
set_option maxRecDepth 100000 in
theorem e_cofactor {g : GT} {s : St} {a0 : Int32} {a1 : Int32} {a2 : Int32} {w : Int32} (hw : HW g) {K : St → MHeap} {o : Nat} {r : Nat → Nat} (V : View (GG g) Ln K o r) (hr : f_cofactor s a0 a1 a2 = some w) : EvC (GG g) M_cofactor [.ref o, .int a0, .int a1, .int a2] (K s) ((some (.int w)), (K s)) := by
  refine EvC.enter (L0 := [.val (.ref o), .val (.int a0), .val (.int a1), .val (.int a2)]) pl_cofactor (fun h => nomatch h) rfl rfl ?_
  unfold f_cofactor at hr
  refine Ev.aloadN (d37 0 rfl) rfl ?_
  refine Ev.gAr V (ww hw 20 rfl) (d37 1 rfl) (j := 5) rfl ?_
  refine Ev.iloadN (d37 2 rfl) rfl ?_
  obtain ⟨b1, hr⟩ := grd_some hr
  refine Ev.ial V (j := 5) rfl rfl (d37 3 rfl) b1 ?_
  refine Ev.iloadN (d37 4 rfl) rfl ?_
  refine Ev.icne (t := 23) (d37 5 rfl) rfl (fun c2 => ?_) (fun c2 => ?_)
  · replace hr := (if_pos c2).symm.trans hr
    refine Ev.aloadN (d37 6 rfl) rfl ?_
    refine Ev.gAr V (ww hw 22 rfl) (d37 7 rfl) (j := 6) rfl ?_
    refine Ev.iloadN (d37 8 rfl) rfl ?_
    refine Ev.iconst (z := 4) (d37 9 rfl) rfl ?_
    refine Ev.imul (d37 10 rfl) ?_
    refine Ev.iloadN (d37 11 rfl) rfl ?_
    refine Ev.iadd (d37 12 rfl) ?_
    obtain ⟨b3, hr⟩ := grd_some hr
    refine Ev.ial V (j := 6) rfl rfl (d37 13 rfl) b3 ?_
    refine Ev.goto (t := 24) (d37 14 rfl) rfl ?_
    cases hr
    exact Ev.ireturn rfl (d37 16 rfl)
  · replace hr := (if_neg c2).symm.trans hr
    refine Ev.iloadN (d37 15 rfl) rfl ?_
    cases hr
    exact Ev.ireturn rfl (d37 16 rfl)
def f_pushChildren_10 (n : Nat) : Nat → Int32 → Int32 → Int32 → Int32 → St → Option (St)
  | 0 => fun _ _ _ _ _ => none
  | k + 1 => fun x1 x2 x3 x4 s =>
    if x4 < (s.1 21) then
      (f_cofactor s x1 x3 x4).bind fun q2 =>
      (f_cofactor s x2 x3 x4).bind fun q4 =>
      (f_resolve n s q2 q4).bind fun q6 =>
      if q6 < 0 then
        (f_push q2 q4 s).bind fun q9 =>
        f_pushChildren_10 n k x1 x2 x3 (x4 + (1 : Int32)) q9
      else
        f_pushChildren_10 n k x1 x2 x3 (x4 + (1 : Int32)) s
    else
      some s
set_option maxRecDepth 100000 in
theorem e_pushChildren_10 {g : GT} {n : Nat} (hw : HW g) {K : St → MHeap} {o : Nat} {r : Nat → Nat} (V : View (GG g) Ln K o r) (k : Nat) : ∀ (x1 : Int32) (x2 : Int32) (x3 : Int32) (x4 : Int32) (s : St) (y5 : Slot) (hy5 : one1 y5 = true) (y6 : Slot) (hy6 : one1 y6 = true) (w : St), f_pushChildren_10 n k x1 x2 x3 x4 s = some w → Ev (GG g) M_pushChildren 10 [.val (.ref o), .val (.int x1), .val (.int x2), .val (.int x3), .val (.int x4), y5, y6] [] (K s) (none, (K w)) := by
  induction k with
  | zero => intro x1 x2 x3 x4 s y5 hy5 y6 hy6 w hr; rw [f_pushChildren_10] at hr; cases hr
  | succ k ih =>
    intro x1 x2 x3 x4 s y5 hy5 y6 hy6 w hr
    rw [f_pushChildren_10] at hr
    refine Ev.iload (d35 7 rfl) rfl ?_
    refine Ev.aloadN (d35 8 rfl) rfl ?_
    refine Ev.gI V (ww hw 53 rfl) (d35 9 rfl) (j := 21) rfl rfl ?_
    refine Ev.icge (t := 64) (d35 10 rfl) rfl (fun c1 => ?_) (fun c1 => ?_)
    · replace hr := (if_pos c1).symm.trans hr
      refine Ev.aloadN (d35 11 rfl) rfl ?_
      refine Ev.iloadN (d35 12 rfl) rfl ?_
      refine Ev.iloadN (d35 13 rfl) rfl ?_
      refine Ev.iload (d35 14 rfl) rfl ?_
      obtain ⟨q2, hq3, hr⟩ := Option.bind_eq_some_iff.mp hr
      refine Ev.priv (y := M_cofactor) (args := [.int x1, .int x3, .int x4]) (rest := []) (gok hw) rfl nm_cofactor (ww hw 225 rfl) (ww hw 226 rfl) (ww hw 227 rfl) (ww hw 228 rfl) (lenOf pd_cofactor rfl) (d35 15 rfl) (V.2.1 s) (e_cofactor hw V hq3) (by decide) (Nat.le_of_ble_eq_true rfl) rfl ?_
      refine Ev.istD (L' := [.val (.ref o), .val (.int x1), .val (.int x2), .val (.int x3), .val (.int x4), .val (.int q2), y6]) (d35 16 rfl) rfl hy5 rfl ?_
      refine Ev.aloadN (d35 17 rfl) rfl ?_
      refine Ev.iloadN (d35 18 rfl) rfl ?_
      refine Ev.iloadN (d35 19 rfl) rfl ?_
      refine Ev.iload (d35 20 rfl) rfl ?_
      obtain ⟨q4, hq5, hr⟩ := Option.bind_eq_some_iff.mp hr
      refine Ev.priv (y := M_cofactor) (args := [.int x2, .int x3, .int x4]) (rest := []) (gok hw) rfl nm_cofactor (ww hw 225 rfl) (ww hw 226 rfl) (ww hw 227 rfl) (ww hw 228 rfl) (lenOf pd_cofactor rfl) (d35 21 rfl) (V.2.1 s) (e_cofactor hw V hq5) (by decide) (Nat.le_of_ble_eq_true rfl) rfl ?_
      refine Ev.istD (L' := [.val (.ref o), .val (.int x1), .val (.int x2), .val (.int x3), .val (.int x4), .val (.int q2), .val (.int q4)]) (d35 22 rfl) rfl hy6 rfl ?_
      refine Ev.aloadN (d35 23 rfl) rfl ?_
      refine Ev.iload (d35 24 rfl) rfl ?_
      refine Ev.iload (d35 25 rfl) rfl ?_
      obtain ⟨q6, hq7, hr⟩ := Option.bind_eq_some_iff.mp hr
      refine Ev.priv (y := M_resolve) (args := [.int q2, .int q4]) (rest := []) (gok hw) rfl nm_resolve (ww hw 155 rfl) (ww hw 156 rfl) (ww hw 157 rfl) (ww hw 158 rfl) (lenOf pd_resolve rfl) (d35 26 rfl) (V.2.1 s) (e_resolve hw V hq7) (by decide) (Nat.le_of_ble_eq_true rfl) rfl ?_
      refine Ev.ifge (t := 58) (d35 27 rfl) rfl (fun c8 => ?_) (fun c8 => ?_)
      · replace hr := (if_pos c8).symm.trans hr
        refine Ev.aloadN (d35 28 rfl) rfl ?_
        refine Ev.iload (d35 29 rfl) rfl ?_
        refine Ev.iload (d35 30 rfl) rfl ?_
        obtain ⟨q9, hq10, hr⟩ := Option.bind_eq_some_iff.mp hr
        refine Ev.priv (y := M_push) (args := [.int q2, .int q4]) (rest := []) (gok hw) rfl nm_push (ww hw 146 rfl) (ww hw 147 rfl) (ww hw 148 rfl) (ww hw 149 rfl) (lenOf pd_push rfl) (d35 31 rfl) (V.2.1 s) (e_push hw V hq10) (by decide) (Nat.le_of_ble_eq_true rfl) rfl ?_
        refine Ev.iinc (z := 1) (L' := [.val (.ref o), .val (.int x1), .val (.int x2), .val (.int x3), .val (.int (x4 + (1 : Int32))), .val (.int q2), .val (.int q4)]) (d35 32 rfl) rfl rfl rfl ?_
        refine Ev.goto (t := 10) (d35 33 rfl) rfl ?_
        exact ih x1 x2 x3 (x4 + (1 : Int32)) q9 (.val (.int q2)) rfl (.val (.int q4)) rfl _ hr
      · replace hr := (if_neg c8).symm.trans hr
        refine Ev.iinc (z := 1) (L' := [.val (.ref o), .val (.int x1), .val (.int x2), .val (.int x3), .val (.int (x4 + (1 : Int32))), .val (.int q2), .val (.int q4)]) (d35 32 rfl) rfl rfl rfl ?_
        refine Ev.goto (t := 10) (d35 33 rfl) rfl ?_
        exact ih x1 x2 x3 (x4 + (1 : Int32)) s (.val (.int q2)) rfl (.val (.int q4)) rfl _ hr
    · replace hr := (if_neg c1).symm.trans hr
      cases hr
      exact Ev.vreturn rfl (d35 34 rfl)
def f_pushChildren (n : Nat) (a0 : Int32) (a1 : Int32) (s : St) : Option (St) :=
  (f_topLevel s a0 a1).bind fun q1 =>
  f_pushChildren_10 n n a0 a1 q1 (0 : Int32) s
set_option maxRecDepth 100000 in
theorem e_pushChildren {g : GT} {n : Nat} {a0 : Int32} {a1 : Int32} {s : St} {w : St} (hw : HW g) {K : St → MHeap} {o : Nat} {r : Nat → Nat} (V : View (GG g) Ln K o r) (hr : f_pushChildren n a0 a1 s = some w) : EvC (GG g) M_pushChildren [.ref o, .int a0, .int a1] (K s) (none, (K w)) := by
  refine EvC.enter (L0 := [.val (.ref o), .val (.int a0), .val (.int a1), .unset, .unset, .unset, .unset]) pl_pushChildren (fun _ => rfl) rfl rfl ?_
  unfold f_pushChildren at hr
  refine Ev.aloadN (d35 0 rfl) rfl ?_
  refine Ev.iloadN (d35 1 rfl) rfl ?_
  refine Ev.iloadN (d35 2 rfl) rfl ?_
  obtain ⟨q1, hq2, hr⟩ := Option.bind_eq_some_iff.mp hr
  refine Ev.priv (y := M_topLevel) (args := [.int a0, .int a1]) (rest := []) (gok hw) rfl nm_topLevel (ww hw 221 rfl) (ww hw 222 rfl) (ww hw 223 rfl) (ww hw 224 rfl) (lenOf pd_topLevel rfl) (d35 3 rfl) (V.2.1 s) (e_topLevel hw V hq2) (by decide) (Nat.le_of_ble_eq_true rfl) rfl ?_
  refine Ev.istDN (L' := [.val (.ref o), .val (.int a0), .val (.int a1), .val (.int q1), .unset, .unset, .unset]) (d35 4 rfl) rfl rfl rfl ?_
  refine Ev.iconst (z := 0) (d35 5 rfl) rfl ?_
  refine Ev.istD (L' := [.val (.ref o), .val (.int a0), .val (.int a1), .val (.int q1), .val (.int (0 : Int32)), .unset, .unset]) (d35 6 rfl) rfl rfl rfl ?_
  exact e_pushChildren_10 hw V  n a0 a1 q1 (0 : Int32) s .unset rfl .unset rfl _ hr
def f_childResult (n : Nat) (s : St) (a0 : Int32) (a1 : Int32) (a2 : Int32) (a3 : Int32) : Option (Int32) :=
  if a3 < (s.1 21) then
    (f_cofactor s a0 a2 a3).bind fun q2 =>
    (f_cofactor s a1 a2 a3).bind fun q4 =>
    (f_resolve n s q2 q4).bind fun q6 =>
    if q6 < 0 then
      some (0 : Int32)
    else
      some q6
  else
    some (0 : Int32)
set_option maxRecDepth 100000 in
theorem e_childResult {g : GT} {n : Nat} {s : St} {a0 : Int32} {a1 : Int32} {a2 : Int32} {a3 : Int32} {w : Int32} (hw : HW g) {K : St → MHeap} {o : Nat} {r : Nat → Nat} (V : View (GG g) Ln K o r) (hr : f_childResult n s a0 a1 a2 a3 = some w) : EvC (GG g) M_childResult [.ref o, .int a0, .int a1, .int a2, .int a3] (K s) ((some (.int w)), (K s)) := by
  refine EvC.enter (L0 := [.val (.ref o), .val (.int a0), .val (.int a1), .val (.int a2), .val (.int a3), .unset, .unset, .unset]) pl_childResult (fun h => nomatch h) rfl rfl ?_
  unfold f_childResult at hr
  refine Ev.iload (d39 0 rfl) rfl ?_
  refine Ev.aloadN (d39 1 rfl) rfl ?_
  refine Ev.gI V (ww hw 53 rfl) (d39 2 rfl) (j := 21) rfl rfl ?_
  refine Ev.iclt (t := 11) (d39 3 rfl) rfl (fun c1 => ?_) (fun c1 => ?_)
  · replace hr := (if_pos c1).symm.trans hr
    refine Ev.aloadN (d39 6 rfl) rfl ?_
    refine Ev.iloadN (d39 7 rfl) rfl ?_
    refine Ev.iloadN (d39 8 rfl) rfl ?_
    refine Ev.iload (d39 9 rfl) rfl ?_
    obtain ⟨q2, hq3, hr⟩ := Option.bind_eq_some_iff.mp hr
    refine Ev.priv (y := M_cofactor) (args := [.int a0, .int a2, .int a3]) (rest := []) (gok hw) rfl nm_cofactor (ww hw 225 rfl) (ww hw 226 rfl) (ww hw 227 rfl) (ww hw 228 rfl) (lenOf pd_cofactor rfl) (d39 10 rfl) (V.2.1 s) (e_cofactor hw V hq3) (by decide) (Nat.le_of_ble_eq_true rfl) rfl ?_
    refine Ev.istD (L' := [.val (.ref o), .val (.int a0), .val (.int a1), .val (.int a2), .val (.int a3), .val (.int q2), .unset, .unset]) (d39 11 rfl) rfl rfl rfl ?_
    refine Ev.aloadN (d39 12 rfl) rfl ?_
    refine Ev.iloadN (d39 13 rfl) rfl ?_
    refine Ev.iloadN (d39 14 rfl) rfl ?_
    refine Ev.iload (d39 15 rfl) rfl ?_
    obtain ⟨q4, hq5, hr⟩ := Option.bind_eq_some_iff.mp hr
    refine Ev.priv (y := M_cofactor) (args := [.int a1, .int a2, .int a3]) (rest := []) (gok hw) rfl nm_cofactor (ww hw 225 rfl) (ww hw 226 rfl) (ww hw 227 rfl) (ww hw 228 rfl) (lenOf pd_cofactor rfl) (d39 16 rfl) (V.2.1 s) (e_cofactor hw V hq5) (by decide) (Nat.le_of_ble_eq_true rfl) rfl ?_
    refine Ev.istD (L' := [.val (.ref o), .val (.int a0), .val (.int a1), .val (.int a2), .val (.int a3), .val (.int q2), .val (.int q4), .unset]) (d39 17 rfl) rfl rfl rfl ?_
    refine Ev.aloadN (d39 18 rfl) rfl ?_
    refine Ev.iload (d39 19 rfl) rfl ?_
    refine Ev.iload (d39 20 rfl) rfl ?_
    obtain ⟨q6, hq7, hr⟩ := Option.bind_eq_some_iff.mp hr
    refine Ev.priv (y := M_resolve) (args := [.int q2, .int q4]) (rest := []) (gok hw) rfl nm_resolve (ww hw 155 rfl) (ww hw 156 rfl) (ww hw 157 rfl) (ww hw 158 rfl) (lenOf pd_resolve rfl) (d39 21 rfl) (V.2.1 s) (e_resolve hw V hq7) (by decide) (Nat.le_of_ble_eq_true rfl) rfl ?_
    refine Ev.istD (L' := [.val (.ref o), .val (.int a0), .val (.int a1), .val (.int a2), .val (.int a3), .val (.int q2), .val (.int q4), .val (.int q6)]) (d39 22 rfl) rfl rfl rfl ?_
    refine Ev.iload (d39 23 rfl) rfl ?_
    refine Ev.ifge (t := 50) (d39 24 rfl) rfl (fun c8 => ?_) (fun c8 => ?_)
    · replace hr := (if_pos c8).symm.trans hr
      refine Ev.iconst (z := 0) (d39 25 rfl) rfl ?_
      refine Ev.goto (t := 52) (d39 26 rfl) rfl ?_
      cases hr
      exact Ev.ireturn rfl (d39 28 rfl)
    · replace hr := (if_neg c8).symm.trans hr
      refine Ev.iload (d39 27 rfl) rfl ?_
      cases hr
      exact Ev.ireturn rfl (d39 28 rfl)
  · replace hr := (if_neg c1).symm.trans hr
    refine Ev.iconst (z := 0) (d39 4 rfl) rfl ?_
    cases hr
    exact Ev.ireturn rfl (d39 5 rfl)
def f_memoStore_37 (n : Nat) : Nat → Int32 → Int32 → Int32 → Int32 → Int32 → St → Option (St)
  | 0 => fun _ _ _ _ _ _ => none
  | k + 1 => fun x3 x4 x5 x6 x7 s =>
    if x7 < (1024 : Int32) then
      grd (inb x6 1024) <|
      if (s.2 16 (ix x6)) = 0 then
        bnd (setA s 16 (ix x6) ((1 : Int32) &&& 1)) fun s4 =>
        bnd (setA s4 13 (ix x6) x4) fun s5 =>
        bnd (setA s5 14 (ix x6) x5) fun s6 =>
        bnd (setA s6 15 (ix x6) x3) fun s7 =>
        some s7
      else
        f_memoStore_37 n k x3 x4 x5 ((x6 + (1 : Int32)) &&& (1023 : Int32)) (x7 + (1 : Int32)) s
    else
      some s
set_option maxRecDepth 100000 in
theorem e_memoStore_37 {g : GT} {n : Nat} (hw : HW g) {K : St → MHeap} {o : Nat} {r : Nat → Nat} (V : View (GG g) Ln K o r) (k : Nat) : ∀ (x3 : Int32) (x4 : Int32) (x5 : Int32) (x6 : Int32) (x7 : Int32) (s : St) (y1 : Slot) (hy1 : one1 y1 = true) (y2 : Slot) (hy2 : one1 y2 = true) (w : St), f_memoStore_37 n k x3 x4 x5 x6 x7 s = some w → Ev (GG g) M_memoStore 37 [.val (.ref o), y1, y2, .val (.int x3), .val (.int x4), .val (.int x5), .val (.int x6), .val (.int x7)] [] (K s) (none, (K w)) := by
  induction k with
  | zero => intro x3 x4 x5 x6 x7 s y1 hy1 y2 hy2 w hr; rw [f_memoStore_37] at hr; cases hr
  | succ k ih =>
    intro x3 x4 x5 x6 x7 s y1 hy1 y2 hy2 w hr
    rw [f_memoStore_37] at hr
    refine Ev.iload (d40 21 rfl) rfl ?_
    refine Ev.sipush (z := 1024) (d40 22 rfl) rfl ?_
    refine Ev.icge (t := 106) (d40 23 rfl) rfl (fun c1 => ?_) (fun c1 => ?_)
    · replace hr := (if_pos c1).symm.trans hr
      refine Ev.aloadN (d40 24 rfl) rfl ?_
      refine Ev.gAr V (ww hw 43 rfl) (d40 25 rfl) (j := 16) rfl ?_
      refine Ev.iload (d40 26 rfl) rfl ?_
      obtain ⟨b2, hr⟩ := grd_some hr
      refine Ev.bal V (j := 16) rfl rfl (d40 27 rfl) b2 ?_
      refine Ev.ifne (t := 90) (d40 28 rfl) rfl (fun c3 => ?_) (fun c3 => ?_)
      · replace hr := (if_pos c3).symm.trans hr
        refine Ev.aloadN (d40 29 rfl) rfl ?_
        refine Ev.gAr V (ww hw 43 rfl) (d40 30 rfl) (j := 16) rfl ?_
        refine Ev.iload (d40 31 rfl) rfl ?_
        refine Ev.iconst (z := 1) (d40 32 rfl) rfl ?_
        refine Ev.bas V (j := 16) rfl rfl (d40 33 rfl) b2 ?_
        revert hr
        generalize setA s 16 (ix x6) ((1 : Int32) &&& 1) = s4
        intro hr
        replace hr := (bnd_eq _ _).symm.trans hr
        refine Ev.aloadN (d40 34 rfl) rfl ?_
        refine Ev.gAr V (ww hw 37 rfl) (d40 35 rfl) (j := 13) rfl ?_
        refine Ev.iload (d40 36 rfl) rfl ?_
        refine Ev.iload (d40 37 rfl) rfl ?_
        refine Ev.ias V (j := 13) rfl rfl (d40 38 rfl) b2 ?_
        revert hr
        generalize setA s4 13 (ix x6) x4 = s5
        intro hr
        replace hr := (bnd_eq _ _).symm.trans hr
        refine Ev.aloadN (d40 39 rfl) rfl ?_
        refine Ev.gAr V (ww hw 39 rfl) (d40 40 rfl) (j := 14) rfl ?_
        refine Ev.iload (d40 41 rfl) rfl ?_
        refine Ev.iload (d40 42 rfl) rfl ?_
        refine Ev.ias V (j := 14) rfl rfl (d40 43 rfl) b2 ?_
        revert hr
        generalize setA s5 14 (ix x6) x5 = s6
        intro hr
        replace hr := (bnd_eq _ _).symm.trans hr
        refine Ev.aloadN (d40 44 rfl) rfl ?_
        refine Ev.gAr V (ww hw 41 rfl) (d40 45 rfl) (j := 15) rfl ?_
        refine Ev.iload (d40 46 rfl) rfl ?_
        refine Ev.iloadN (d40 47 rfl) rfl ?_
        refine Ev.ias V (j := 15) rfl rfl (d40 48 rfl) b2 ?_
        revert hr
        generalize setA s6 15 (ix x6) x3 = s7
        intro hr
        replace hr := (bnd_eq _ _).symm.trans hr
        cases hr
        exact Ev.vreturn rfl (d40 49 rfl)
      · replace hr := (if_neg c3).symm.trans hr
        refine Ev.iload (d40 50 rfl) rfl ?_
        refine Ev.iconst (z := 1) (d40 51 rfl) rfl ?_
        refine Ev.iadd (d40 52 rfl) ?_
        refine Ev.sipush (z := 1023) (d40 53 rfl) rfl ?_
        refine Ev.iand (d40 54 rfl) ?_
        refine Ev.istD (L' := [.val (.ref o), y1, y2, .val (.int x3), .val (.int x4), .val (.int x5), .val (.int ((x6 + (1 : Int32)) &&& (1023 : Int32))), .val (.int x7)]) (d40 55 rfl) rfl rfl rfl ?_
        refine Ev.iinc (z := 1) (L' := [.val (.ref o), y1, y2, .val (.int x3), .val (.int x4), .val (.int x5), .val (.int ((x6 + (1 : Int32)) &&& (1023 : Int32))), .val (.int (x7 + (1 : Int32)))]) (d40 56 rfl) rfl rfl rfl ?_
        refine Ev.goto (t := 37) (d40 57 rfl) rfl ?_
        exact ih x3 x4 x5 ((x6 + (1 : Int32)) &&& (1023 : Int32)) (x7 + (1 : Int32)) s y1 hy1 y2 hy2 _ hr
    · replace hr := (if_neg c1).symm.trans hr
      cases hr
      exact Ev.vreturn rfl (d40 58 rfl)
def f_memoStore_22 (n : Nat) (x3 : Int32) (x4 : Int32) (z0 : Int32) (s : St) : Option (St) :=
  (f_memoSlot s x4 z0).bind fun q1 =>
  f_memoStore_37 n n x3 x4 z0 q1 (0 : Int32) s
set_option maxRecDepth 100000 in
theorem e_memoStore_22 {g : GT} {n : Nat} (hw : HW g) {K : St → MHeap} {o : Nat} {r : Nat → Nat} (V : View (GG g) Ln K o r) (x3 : Int32) (x4 : Int32) (z0 : Int32) (s : St) (y1 : Slot) (hy1 : one1 y1 = true) (y2 : Slot) (hy2 : one1 y2 = true) (y5 : Slot) (hy5 : one1 y5 = true) (y6 : Slot) (hy6 : one1 y6 = true) (y7 : Slot) (hy7 : one1 y7 = true) (w : St) (hr : f_memoStore_22 n x3 x4 z0 s = some w) : Ev (GG g) M_memoStore 22 [.val (.ref o), y1, y2, .val (.int x3), .val (.int x4), y5, y6, y7] [.int z0] (K s) (none, (K w)) := by
  unfold f_memoStore_22 at hr
  refine Ev.istD (L' := [.val (.ref o), y1, y2, .val (.int x3), .val (.int x4), .val (.int z0), y6, y7]) (d40 13 rfl) rfl hy5 rfl ?_
  refine Ev.aloadN (d40 14 rfl) rfl ?_
  refine Ev.iload (d40 15 rfl) rfl ?_
  refine Ev.iload (d40 16 rfl) rfl ?_
  obtain ⟨q1, hq2, hr⟩ := Option.bind_eq_some_iff.mp hr
  refine Ev.priv (y := M_memoSlot) (args := [.int x4, .int z0]) (rest := []) (gok hw) rfl nm_memoSlot (ww hw 213 rfl) (ww hw 214 rfl) (ww hw 215 rfl) (ww hw 216 rfl) (lenOf pd_memoSlot rfl) (d40 17 rfl) (V.2.1 s) (e_memoSlot hw V hq2) (by decide) (Nat.le_of_ble_eq_true rfl) rfl ?_
  refine Ev.istD (L' := [.val (.ref o), y1, y2, .val (.int x3), .val (.int x4), .val (.int z0), .val (.int q1), y7]) (d40 18 rfl) rfl hy6 rfl ?_
  refine Ev.iconst (z := 0) (d40 19 rfl) rfl ?_
  refine Ev.istD (L' := [.val (.ref o), y1, y2, .val (.int x3), .val (.int x4), .val (.int z0), .val (.int q1), .val (.int (0 : Int32))]) (d40 20 rfl) rfl hy7 rfl ?_
  exact e_memoStore_37 hw V  n x3 x4 z0 q1 (0 : Int32) s y1 hy1 y2 hy2 _ hr
def f_memoStore_10 (n : Nat) (x1 : Int32) (x2 : Int32) (x3 : Int32) (z0 : Int32) (s : St) : Option (St) :=
  if x1 < x2 then
    f_memoStore_22 n x3 z0 x2 s
  else
    f_memoStore_22 n x3 z0 x1 s
set_option maxRecDepth 100000 in
theorem e_memoStore_10 {g : GT} {n : Nat} (hw : HW g) {K : St → MHeap} {o : Nat} {r : Nat → Nat} (V : View (GG g) Ln K o r) (x1 : Int32) (x2 : Int32) (x3 : Int32) (z0 : Int32) (s : St) (y4 : Slot) (hy4 : one1 y4 = true) (y5 : Slot) (hy5 : one1 y5 = true) (y6 : Slot) (hy6 : one1 y6 = true) (y7 : Slot) (hy7 : one1 y7 = true) (w : St) (hr : f_memoStore_10 n x1 x2 x3 z0 s = some w) : Ev (GG g) M_memoStore 10 [.val (.ref o), .val (.int x1), .val (.int x2), .val (.int x3), y4, y5, y6, y7] [.int z0] (K s) (none, (K w)) := by
  unfold f_memoStore_10 at hr
  refine Ev.istD (L' := [.val (.ref o), .val (.int x1), .val (.int x2), .val (.int x3), .val (.int z0), y5, y6, y7]) (d40 6 rfl) rfl hy4 rfl ?_
  refine Ev.iloadN (d40 7 rfl) rfl ?_
  refine Ev.iloadN (d40 8 rfl) rfl ?_
  refine Ev.icge (t := 21) (d40 9 rfl) rfl (fun c1 => ?_) (fun c1 => ?_)
  · replace hr := (if_pos c1).symm.trans hr
    refine Ev.iloadN (d40 10 rfl) rfl ?_
    refine Ev.goto (t := 22) (d40 11 rfl) rfl ?_
    exact e_memoStore_22 hw V  x3 z0 x2 s (.val (.int x1)) rfl (.val (.int x2)) rfl y5 hy5 y6 hy6 y7 hy7 _ hr
  · replace hr := (if_neg c1).symm.trans hr
    refine Ev.iloadN (d40 12 rfl) rfl ?_
    exact e_memoStore_22 hw V  x3 z0 x1 s (.val (.int x1)) rfl (.val (.int x2)) rfl y5 hy5 y6 hy6 y7 hy7 _ hr
def f_memoStore (n : Nat) (a0 : Int32) (a1 : Int32) (a2 : Int32) (s : St) : Option (St) :=
  if a0 < a1 then
    f_memoStore_10 n a0 a1 a2 a0 s
  else
    f_memoStore_10 n a0 a1 a2 a1 s
set_option maxRecDepth 100000 in
theorem e_memoStore {g : GT} {n : Nat} {a0 : Int32} {a1 : Int32} {a2 : Int32} {s : St} {w : St} (hw : HW g) {K : St → MHeap} {o : Nat} {r : Nat → Nat} (V : View (GG g) Ln K o r) (hr : f_memoStore n a0 a1 a2 s = some w) : EvC (GG g) M_memoStore [.ref o, .int a0, .int a1, .int a2] (K s) (none, (K w)) := by
  refine EvC.enter (L0 := [.val (.ref o), .val (.int a0), .val (.int a1), .val (.int a2), .unset, .unset, .unset, .unset]) pl_memoStore (fun _ => rfl) rfl rfl ?_
  unfold f_memoStore at hr
  refine Ev.iloadN (d40 0 rfl) rfl ?_
  refine Ev.iloadN (d40 1 rfl) rfl ?_
  refine Ev.icge (t := 9) (d40 2 rfl) rfl (fun c1 => ?_) (fun c1 => ?_)
  · replace hr := (if_pos c1).symm.trans hr
    refine Ev.iloadN (d40 3 rfl) rfl ?_
    refine Ev.goto (t := 10) (d40 4 rfl) rfl ?_
    exact e_memoStore_10 hw V  a0 a1 a2 a0 s .unset rfl .unset rfl .unset rfl .unset rfl _ hr
  · replace hr := (if_neg c1).symm.trans hr
    refine Ev.iloadN (d40 5 rfl) rfl ?_
    exact e_memoStore_10 hw V  a0 a1 a2 a1 s .unset rfl .unset rfl .unset rfl .unset rfl _ hr
def f_finishPair (n : Nat) (a0 : Int32) (a1 : Int32) (s : St) : Option (St) :=
  (f_topLevel s a0 a1).bind fun q1 =>
  (f_childResult n s a0 a1 q1 (0 : Int32)).bind fun q3 =>
  (f_childResult n s a0 a1 q1 (1 : Int32)).bind fun q5 =>
  (f_childResult n s a0 a1 q1 (2 : Int32)).bind fun q7 =>
  (f_childResult n s a0 a1 q1 (3 : Int32)).bind fun q9 =>
  (f_mk n q1 q3 q5 q7 q9 s).bind fun q11 =>
  (f_memoStore n a0 a1 q11.1 q11.2).bind fun q13 =>
  some q13
set_option maxRecDepth 100000 in
theorem e_finishPair {g : GT} {n : Nat} {a0 : Int32} {a1 : Int32} {s : St} {w : St} (hw : HW g) {K : St → MHeap} {o : Nat} {r : Nat → Nat} (V : View (GG g) Ln K o r) (hr : f_finishPair n a0 a1 s = some w) : EvC (GG g) M_finishPair [.ref o, .int a0, .int a1] (K s) (none, (K w)) := by
  refine EvC.enter (L0 := [.val (.ref o), .val (.int a0), .val (.int a1), .unset, .unset, .unset, .unset, .unset, .unset]) pl_finishPair (fun _ => rfl) rfl rfl ?_
  unfold f_finishPair at hr
  refine Ev.aloadN (d38 0 rfl) rfl ?_
  refine Ev.iloadN (d38 1 rfl) rfl ?_
  refine Ev.iloadN (d38 2 rfl) rfl ?_
  obtain ⟨q1, hq2, hr⟩ := Option.bind_eq_some_iff.mp hr
  refine Ev.priv (y := M_topLevel) (args := [.int a0, .int a1]) (rest := []) (gok hw) rfl nm_topLevel (ww hw 221 rfl) (ww hw 222 rfl) (ww hw 223 rfl) (ww hw 224 rfl) (lenOf pd_topLevel rfl) (d38 3 rfl) (V.2.1 s) (e_topLevel hw V hq2) (by decide) (Nat.le_of_ble_eq_true rfl) rfl ?_
  refine Ev.istDN (L' := [.val (.ref o), .val (.int a0), .val (.int a1), .val (.int q1), .unset, .unset, .unset, .unset, .unset]) (d38 4 rfl) rfl rfl rfl ?_
  refine Ev.aloadN (d38 5 rfl) rfl ?_
  refine Ev.iloadN (d38 6 rfl) rfl ?_
  refine Ev.iloadN (d38 7 rfl) rfl ?_
  refine Ev.iloadN (d38 8 rfl) rfl ?_
  refine Ev.iconst (z := 0) (d38 9 rfl) rfl ?_
  obtain ⟨q3, hq4, hr⟩ := Option.bind_eq_some_iff.mp hr
  refine Ev.priv (y := M_childResult) (args := [.int a0, .int a1, .int q1, .int (0 : Int32)]) (rest := []) (gok hw) rfl nm_childResult (ww hw 233 rfl) (ww hw 234 rfl) (ww hw 235 rfl) (ww hw 236 rfl) (lenOf pd_childResult rfl) (d38 10 rfl) (V.2.1 s) (e_childResult hw V hq4) (by decide) (Nat.le_of_ble_eq_true rfl) rfl ?_
  refine Ev.istD (L' := [.val (.ref o), .val (.int a0), .val (.int a1), .val (.int q1), .val (.int q3), .unset, .unset, .unset, .unset]) (d38 11 rfl) rfl rfl rfl ?_
  refine Ev.aloadN (d38 12 rfl) rfl ?_
  refine Ev.iloadN (d38 13 rfl) rfl ?_
  refine Ev.iloadN (d38 14 rfl) rfl ?_
  refine Ev.iloadN (d38 15 rfl) rfl ?_
  refine Ev.iconst (z := 1) (d38 16 rfl) rfl ?_
  obtain ⟨q5, hq6, hr⟩ := Option.bind_eq_some_iff.mp hr
  refine Ev.priv (y := M_childResult) (args := [.int a0, .int a1, .int q1, .int (1 : Int32)]) (rest := []) (gok hw) rfl nm_childResult (ww hw 233 rfl) (ww hw 234 rfl) (ww hw 235 rfl) (ww hw 236 rfl) (lenOf pd_childResult rfl) (d38 17 rfl) (V.2.1 s) (e_childResult hw V hq6) (by decide) (Nat.le_of_ble_eq_true rfl) rfl ?_
  refine Ev.istD (L' := [.val (.ref o), .val (.int a0), .val (.int a1), .val (.int q1), .val (.int q3), .val (.int q5), .unset, .unset, .unset]) (d38 18 rfl) rfl rfl rfl ?_
  refine Ev.aloadN (d38 19 rfl) rfl ?_
  refine Ev.iloadN (d38 20 rfl) rfl ?_
  refine Ev.iloadN (d38 21 rfl) rfl ?_
  refine Ev.iloadN (d38 22 rfl) rfl ?_
  refine Ev.iconst (z := 2) (d38 23 rfl) rfl ?_
  obtain ⟨q7, hq8, hr⟩ := Option.bind_eq_some_iff.mp hr
  refine Ev.priv (y := M_childResult) (args := [.int a0, .int a1, .int q1, .int (2 : Int32)]) (rest := []) (gok hw) rfl nm_childResult (ww hw 233 rfl) (ww hw 234 rfl) (ww hw 235 rfl) (ww hw 236 rfl) (lenOf pd_childResult rfl) (d38 24 rfl) (V.2.1 s) (e_childResult hw V hq8) (by decide) (Nat.le_of_ble_eq_true rfl) rfl ?_
  refine Ev.istD (L' := [.val (.ref o), .val (.int a0), .val (.int a1), .val (.int q1), .val (.int q3), .val (.int q5), .val (.int q7), .unset, .unset]) (d38 25 rfl) rfl rfl rfl ?_
  refine Ev.aloadN (d38 26 rfl) rfl ?_
  refine Ev.iloadN (d38 27 rfl) rfl ?_
  refine Ev.iloadN (d38 28 rfl) rfl ?_
  refine Ev.iloadN (d38 29 rfl) rfl ?_
  refine Ev.iconst (z := 3) (d38 30 rfl) rfl ?_
  obtain ⟨q9, hq10, hr⟩ := Option.bind_eq_some_iff.mp hr
  refine Ev.priv (y := M_childResult) (args := [.int a0, .int a1, .int q1, .int (3 : Int32)]) (rest := []) (gok hw) rfl nm_childResult (ww hw 233 rfl) (ww hw 234 rfl) (ww hw 235 rfl) (ww hw 236 rfl) (lenOf pd_childResult rfl) (d38 31 rfl) (V.2.1 s) (e_childResult hw V hq10) (by decide) (Nat.le_of_ble_eq_true rfl) rfl ?_
  refine Ev.istD (L' := [.val (.ref o), .val (.int a0), .val (.int a1), .val (.int q1), .val (.int q3), .val (.int q5), .val (.int q7), .val (.int q9), .unset]) (d38 32 rfl) rfl rfl rfl ?_
  refine Ev.aloadN (d38 33 rfl) rfl ?_
  refine Ev.iloadN (d38 34 rfl) rfl ?_
  refine Ev.iload (d38 35 rfl) rfl ?_
  refine Ev.iload (d38 36 rfl) rfl ?_
  refine Ev.iload (d38 37 rfl) rfl ?_
  refine Ev.iload (d38 38 rfl) rfl ?_
  obtain ⟨q11, hq12, hr⟩ := Option.bind_eq_some_iff.mp hr
  refine Ev.priv (y := M_mk) (args := [.int q1, .int q3, .int q5, .int q7, .int q9]) (rest := []) (gok hw) rfl nm_mk (ww hw 126 rfl) (ww hw 127 rfl) (ww hw 128 rfl) (ww hw 129 rfl) (lenOf pd_mk rfl) (d38 39 rfl) (V.2.1 s) (e_mk hw V hq12) (by decide) (Nat.le_of_ble_eq_true rfl) rfl ?_
  refine Ev.istD (L' := [.val (.ref o), .val (.int a0), .val (.int a1), .val (.int q1), .val (.int q3), .val (.int q5), .val (.int q7), .val (.int q9), .val (.int q11.1)]) (d38 40 rfl) rfl rfl rfl ?_
  refine Ev.aloadN (d38 41 rfl) rfl ?_
  refine Ev.iloadN (d38 42 rfl) rfl ?_
  refine Ev.iloadN (d38 43 rfl) rfl ?_
  refine Ev.iload (d38 44 rfl) rfl ?_
  obtain ⟨q13, hq14, hr⟩ := Option.bind_eq_some_iff.mp hr
  refine Ev.priv (y := M_memoStore) (args := [.int a0, .int a1, .int q11.1]) (rest := []) (gok hw) rfl nm_memoStore (ww hw 237 rfl) (ww hw 238 rfl) (ww hw 239 rfl) (ww hw 240 rfl) (lenOf pd_memoStore rfl) (d38 45 rfl) (V.2.1 q11.2) (e_memoStore hw V hq14) (by decide) (Nat.le_of_ble_eq_true rfl) rfl ?_
  cases hr
  exact Ev.vreturn rfl (d38 46 rfl)
def f_step (n : Nat) (s : St) : Option (St) :=
  grd (inb ((s.1 30) - (1 : Int32)) 64) <|
  if (s.2 19 (ix ((s.1 30) - (1 : Int32)))) = 0 then
    (f_resolve n s (s.2 17 (ix ((s.1 30) - (1 : Int32)))) (s.2 18 (ix ((s.1 30) - (1 : Int32))))).bind fun q3 =>
    if q3 < 0 then
      bnd (setA s 19 (ix ((s.1 30) - (1 : Int32))) (1 : Int32)) fun s6 =>
      (f_pushChildren n (s.2 17 (ix ((s.1 30) - (1 : Int32)))) (s.2 18 (ix ((s.1 30) - (1 : Int32)))) s6).bind fun q7 =>
      some q7
    else
      bnd (setI s 30 ((s.1 30) - (1 : Int32))) fun s9 =>
      some s9
  else
    bnd (setI s 30 ((s.1 30) - (1 : Int32))) fun s10 =>
    (f_finishPair n (s.2 17 (ix ((s.1 30) - (1 : Int32)))) (s.2 18 (ix ((s.1 30) - (1 : Int32)))) s10).bind fun q11 =>
    some q11
set_option maxRecDepth 100000 in
theorem e_step {g : GT} {n : Nat} {s : St} {w : St} (hw : HW g) {K : St → MHeap} {o : Nat} {r : Nat → Nat} (V : View (GG g) Ln K o r) (hr : f_step n s = some w) : EvC (GG g) M_step [.ref o] (K s) (none, (K w)) := by
  refine EvC.enter (L0 := [.val (.ref o), .unset, .unset, .unset]) pl_step (fun _ => rfl) rfl rfl ?_
  unfold f_step at hr
  refine Ev.aloadN (d20 0 rfl) rfl ?_
  refine Ev.gI V (ww hw 144 rfl) (d20 1 rfl) (j := 30) rfl rfl ?_
  refine Ev.iconst (z := 1) (d20 2 rfl) rfl ?_
  refine Ev.isub (d20 3 rfl) ?_
  refine Ev.istDN (L' := [.val (.ref o), .val (.int ((s.1 30) - (1 : Int32))), .unset, .unset]) (d20 4 rfl) rfl rfl rfl ?_
  refine Ev.aloadN (d20 5 rfl) rfl ?_
  refine Ev.gAr V (ww hw 45 rfl) (d20 6 rfl) (j := 17) rfl ?_
  refine Ev.iloadN (d20 7 rfl) rfl ?_
  obtain ⟨b1, hr⟩ := grd_some hr
  refine Ev.ial V (j := 17) rfl rfl (d20 8 rfl) b1 ?_
  refine Ev.istDN (L' := [.val (.ref o), .val (.int ((s.1 30) - (1 : Int32))), .val (.int (s.2 17 (ix ((s.1 30) - (1 : Int32))))), .unset]) (d20 9 rfl) rfl rfl rfl ?_
  refine Ev.aloadN (d20 10 rfl) rfl ?_
  refine Ev.gAr V (ww hw 47 rfl) (d20 11 rfl) (j := 18) rfl ?_
  refine Ev.iloadN (d20 12 rfl) rfl ?_
  refine Ev.ial V (j := 18) rfl rfl (d20 13 rfl) b1 ?_
  refine Ev.istDN (L' := [.val (.ref o), .val (.int ((s.1 30) - (1 : Int32))), .val (.int (s.2 17 (ix ((s.1 30) - (1 : Int32))))), .val (.int (s.2 18 (ix ((s.1 30) - (1 : Int32)))))]) (d20 14 rfl) rfl rfl rfl ?_
  refine Ev.aloadN (d20 15 rfl) rfl ?_
  refine Ev.gAr V (ww hw 49 rfl) (d20 16 rfl) (j := 19) rfl ?_
  refine Ev.iloadN (d20 17 rfl) rfl ?_
  refine Ev.ial V (j := 19) rfl rfl (d20 18 rfl) b1 ?_
  refine Ev.ifne (t := 66) (d20 19 rfl) rfl (fun c2 => ?_) (fun c2 => ?_)
  · replace hr := (if_pos c2).symm.trans hr
    refine Ev.aloadN (d20 20 rfl) rfl ?_
    refine Ev.iloadN (d20 21 rfl) rfl ?_
    refine Ev.iloadN (d20 22 rfl) rfl ?_
    obtain ⟨q3, hq4, hr⟩ := Option.bind_eq_some_iff.mp hr
    refine Ev.priv (y := M_resolve) (args := [.int (s.2 17 (ix ((s.1 30) - (1 : Int32)))), .int (s.2 18 (ix ((s.1 30) - (1 : Int32))))]) (rest := []) (gok hw) rfl nm_resolve (ww hw 155 rfl) (ww hw 156 rfl) (ww hw 157 rfl) (ww hw 158 rfl) (lenOf pd_resolve rfl) (d20 23 rfl) (V.2.1 s) (e_resolve hw V hq4) (by decide) (Nat.le_of_ble_eq_true rfl) rfl ?_
    refine Ev.iflt (t := 50) (d20 24 rfl) rfl (fun c5 => ?_) (fun c5 => ?_)
    · replace hr := (if_pos c5).symm.trans hr
      refine Ev.aloadN (d20 32 rfl) rfl ?_
      refine Ev.gAr V (ww hw 49 rfl) (d20 33 rfl) (j := 19) rfl ?_
      refine Ev.iloadN (d20 34 rfl) rfl ?_
      refine Ev.iconst (z := 1) (d20 35 rfl) rfl ?_
      refine Ev.ias V (j := 19) rfl rfl (d20 36 rfl) b1 ?_
      revert hr
      generalize setA s 19 (ix ((s.1 30) - (1 : Int32))) (1 : Int32) = s6
      intro hr
      replace hr := (bnd_eq _ _).symm.trans hr
      refine Ev.aloadN (d20 37 rfl) rfl ?_
      refine Ev.iloadN (d20 38 rfl) rfl ?_
      refine Ev.iloadN (d20 39 rfl) rfl ?_
      obtain ⟨q7, hq8, hr⟩ := Option.bind_eq_some_iff.mp hr
      refine Ev.priv (y := M_pushChildren) (args := [.int (s.2 17 (ix ((s.1 30) - (1 : Int32)))), .int (s.2 18 (ix ((s.1 30) - (1 : Int32))))]) (rest := []) (gok hw) rfl nm_pushChildren (ww hw 217 rfl) (ww hw 218 rfl) (ww hw 219 rfl) (ww hw 220 rfl) (lenOf pd_pushChildren rfl) (d20 40 rfl) (V.2.1 s6) (e_pushChildren hw V hq8) (by decide) (Nat.le_of_ble_eq_true rfl) rfl ?_
      refine Ev.goto (t := 82) (d20 41 rfl) rfl ?_
      cases hr
      exact Ev.vreturn rfl (d20 52 rfl)
    · replace hr := (if_neg c5).symm.trans hr
      refine Ev.aloadN (d20 25 rfl) rfl ?_
      refine Ev.dup (d20 26 rfl) rfl ?_
      refine Ev.gI V (ww hw 144 rfl) (d20 27 rfl) (j := 30) rfl rfl ?_
      refine Ev.iconst (z := 1) (d20 28 rfl) rfl ?_
      refine Ev.isub (d20 29 rfl) ?_
      refine Ev.pI V (gok hw) (ww hw 144 rfl) (Or.inl (ww hw 145 rfl)) (d20 30 rfl) (j := 30) rfl ?_
      revert hr
      generalize setI s 30 ((s.1 30) - (1 : Int32)) = s9
      intro hr
      replace hr := (bnd_eq _ _).symm.trans hr
      cases hr
      exact Ev.vreturn rfl (d20 31 rfl)
  · replace hr := (if_neg c2).symm.trans hr
    refine Ev.aloadN (d20 42 rfl) rfl ?_
    refine Ev.dup (d20 43 rfl) rfl ?_
    refine Ev.gI V (ww hw 144 rfl) (d20 44 rfl) (j := 30) rfl rfl ?_
    refine Ev.iconst (z := 1) (d20 45 rfl) rfl ?_
    refine Ev.isub (d20 46 rfl) ?_
    refine Ev.pI V (gok hw) (ww hw 144 rfl) (Or.inl (ww hw 145 rfl)) (d20 47 rfl) (j := 30) rfl ?_
    revert hr
    generalize setI s 30 ((s.1 30) - (1 : Int32)) = s10
    intro hr
    replace hr := (bnd_eq _ _).symm.trans hr
    refine Ev.aloadN (d20 48 rfl) rfl ?_
    refine Ev.iloadN (d20 49 rfl) rfl ?_
    refine Ev.iloadN (d20 50 rfl) rfl ?_
    obtain ⟨q11, hq12, hr⟩ := Option.bind_eq_some_iff.mp hr
    refine Ev.priv (y := M_finishPair) (args := [.int (s.2 17 (ix ((s.1 30) - (1 : Int32)))), .int (s.2 18 (ix ((s.1 30) - (1 : Int32))))]) (rest := []) (gok hw) rfl nm_finishPair (ww hw 229 rfl) (ww hw 230 rfl) (ww hw 231 rfl) (ww hw 232 rfl) (lenOf pd_finishPair rfl) (d20 51 rfl) (V.2.1 s10) (e_finishPair hw V hq12) (by decide) (Nat.le_of_ble_eq_true rfl) rfl ?_
    cases hr
    exact Ev.vreturn rfl (d20 52 rfl)
def f_conjoin_58 (n : Nat) (x1 : Int32) (x2 : Int32) (s : St) : Option (Int32 × St) :=
  (f_resolve n s x1 x2).bind fun q1 =>
  if q1 < 0 then
    some ((0 : Int32), s)
  else
    some (q1, s)
set_option maxRecDepth 100000 in
theorem e_conjoin_58 {g : GT} {n : Nat} (hw : HW g) {K : St → MHeap} {o : Nat} {r : Nat → Nat} (V : View (GG g) Ln K o r) (x1 : Int32) (x2 : Int32) (s : St) (y3 : Slot) (hy3 : one1 y3 = true) (w : Int32 × St) (hr : f_conjoin_58 n x1 x2 s = some w) : Ev (GG g) M_conjoin 58 [.val (.ref o), .val (.int x1), .val (.int x2), y3] [] (K s) ((some (.int w.1)), (K w.2)) := by
  unfold f_conjoin_58 at hr
  refine Ev.aloadN (d18 31 rfl) rfl ?_
  refine Ev.iloadN (d18 32 rfl) rfl ?_
  refine Ev.iloadN (d18 33 rfl) rfl ?_
  obtain ⟨q1, hq2, hr⟩ := Option.bind_eq_some_iff.mp hr
  refine Ev.priv (y := M_resolve) (args := [.int x1, .int x2]) (rest := []) (gok hw) rfl nm_resolve (ww hw 155 rfl) (ww hw 156 rfl) (ww hw 157 rfl) (ww hw 158 rfl) (lenOf pd_resolve rfl) (d18 34 rfl) (V.2.1 s) (e_resolve hw V hq2) (by decide) (Nat.le_of_ble_eq_true rfl) rfl ?_
  refine Ev.istDN (L' := [.val (.ref o), .val (.int x1), .val (.int x2), .val (.int q1)]) (d18 35 rfl) rfl hy3 rfl ?_
  refine Ev.iloadN (d18 36 rfl) rfl ?_
  refine Ev.ifge (t := 73) (d18 37 rfl) rfl (fun c3 => ?_) (fun c3 => ?_)
  · replace hr := (if_pos c3).symm.trans hr
    refine Ev.iconst (z := 0) (d18 38 rfl) rfl ?_
    refine Ev.goto (t := 74) (d18 39 rfl) rfl ?_
    cases hr
    exact Ev.ireturn rfl (d18 41 rfl)
  · replace hr := (if_neg c3).symm.trans hr
    refine Ev.iloadN (d18 40 rfl) rfl ?_
    cases hr
    exact Ev.ireturn rfl (d18 41 rfl)
def f_conjoin_35 (n : Nat) : Nat → Int32 → Int32 → Int32 → St → Option (Int32 × St)
  | 0 => fun _ _ _ _ => none
  | k + 1 => fun x1 x2 x3 s =>
    if x3 < (200000 : Int32) then
      if 0 < (s.1 30) then
        (f_step n s).bind fun q3 =>
        f_conjoin_35 n k x1 x2 (x3 + (1 : Int32)) q3
      else
        f_conjoin_58 n x1 x2 s
    else
      f_conjoin_58 n x1 x2 s
set_option maxRecDepth 100000 in
theorem e_conjoin_35 {g : GT} {n : Nat} (hw : HW g) {K : St → MHeap} {o : Nat} {r : Nat → Nat} (V : View (GG g) Ln K o r) (k : Nat) : ∀ (x1 : Int32) (x2 : Int32) (x3 : Int32) (s : St) (w : Int32 × St), f_conjoin_35 n k x1 x2 x3 s = some w → Ev (GG g) M_conjoin 35 [.val (.ref o), .val (.int x1), .val (.int x2), .val (.int x3)] [] (K s) ((some (.int w.1)), (K w.2)) := by
  induction k with
  | zero => intro x1 x2 x3 s w hr; rw [f_conjoin_35] at hr; cases hr
  | succ k ih =>
    intro x1 x2 x3 s w hr
    rw [f_conjoin_35] at hr
    refine Ev.iloadN (d18 21 rfl) rfl ?_
    refine Ev.ldc (ww hw 150 rfl) (d18 22 rfl) ?_
    refine Ev.icge (t := 58) (d18 23 rfl) rfl (fun c1 => ?_) (fun c1 => ?_)
    · replace hr := (if_pos c1).symm.trans hr
      refine Ev.aloadN (d18 24 rfl) rfl ?_
      refine Ev.gI V (ww hw 144 rfl) (d18 25 rfl) (j := 30) rfl rfl ?_
      refine Ev.ifle (t := 58) (d18 26 rfl) rfl (fun c2 => ?_) (fun c2 => ?_)
      · replace hr := (if_pos c2).symm.trans hr
        refine Ev.aloadN (d18 27 rfl) rfl ?_
        obtain ⟨q3, hq4, hr⟩ := Option.bind_eq_some_iff.mp hr
        refine Ev.priv (y := M_step) (args := []) (rest := []) (gok hw) rfl nm_step (ww hw 151 rfl) (ww hw 152 rfl) (ww hw 153 rfl) (ww hw 154 rfl) (lenOf pd_step rfl) (d18 28 rfl) (V.2.1 s) (e_step hw V hq4) (by decide) (Nat.le_of_ble_eq_true rfl) rfl ?_
        refine Ev.iinc (z := 1) (L' := [.val (.ref o), .val (.int x1), .val (.int x2), .val (.int (x3 + (1 : Int32)))]) (d18 29 rfl) rfl rfl rfl ?_
        refine Ev.goto (t := 35) (d18 30 rfl) rfl ?_
        exact ih x1 x2 (x3 + (1 : Int32)) q3  _ hr
      · replace hr := (if_neg c2).symm.trans hr
        exact e_conjoin_58 hw V  x1 x2 s (.val (.int x3)) rfl _ hr
    · replace hr := (if_neg c1).symm.trans hr
      exact e_conjoin_58 hw V  x1 x2 s (.val (.int x3)) rfl _ hr
def f_conjoin_2 (n : Nat) : Nat → Int32 → Int32 → Int32 → St → Option (Int32 × St)
  | 0 => fun _ _ _ _ => none
  | k + 1 => fun x1 x2 x3 s =>
    if x3 < (1024 : Int32) then
      grd (inb x3 1024) <|
      bnd (setA s 16 (ix x3) ((0 : Int32) &&& 1)) fun s3 =>
      f_conjoin_2 n k x1 x2 (x3 + (1 : Int32)) s3
    else
      bnd (setI s 30 (0 : Int32)) fun s4 =>
      (f_push x1 x2 s4).bind fun q5 =>
      f_conjoin_35 n n x1 x2 (0 : Int32) q5
set_option maxRecDepth 100000 in
theorem e_conjoin_2 {g : GT} {n : Nat} (hw : HW g) {K : St → MHeap} {o : Nat} {r : Nat → Nat} (V : View (GG g) Ln K o r) (k : Nat) : ∀ (x1 : Int32) (x2 : Int32) (x3 : Int32) (s : St) (w : Int32 × St), f_conjoin_2 n k x1 x2 x3 s = some w → Ev (GG g) M_conjoin 2 [.val (.ref o), .val (.int x1), .val (.int x2), .val (.int x3)] [] (K s) ((some (.int w.1)), (K w.2)) := by
  induction k with
  | zero => intro x1 x2 x3 s w hr; rw [f_conjoin_2] at hr; cases hr
  | succ k ih =>
    intro x1 x2 x3 s w hr
    rw [f_conjoin_2] at hr
    refine Ev.iloadN (d18 2 rfl) rfl ?_
    refine Ev.sipush (z := 1024) (d18 3 rfl) rfl ?_
    refine Ev.icge (t := 22) (d18 4 rfl) rfl (fun c1 => ?_) (fun c1 => ?_)
    · replace hr := (if_pos c1).symm.trans hr
      refine Ev.aloadN (d18 5 rfl) rfl ?_
      refine Ev.gAr V (ww hw 43 rfl) (d18 6 rfl) (j := 16) rfl ?_
      refine Ev.iloadN (d18 7 rfl) rfl ?_
      refine Ev.iconst (z := 0) (d18 8 rfl) rfl ?_
      obtain ⟨b2, hr⟩ := grd_some hr
      refine Ev.bas V (j := 16) rfl rfl (d18 9 rfl) b2 ?_
      revert hr
      generalize setA s 16 (ix x3) ((0 : Int32) &&& 1) = s3
      intro hr
      replace hr := (bnd_eq _ _).symm.trans hr
      refine Ev.iinc (z := 1) (L' := [.val (.ref o), .val (.int x1), .val (.int x2), .val (.int (x3 + (1 : Int32)))]) (d18 10 rfl) rfl rfl rfl ?_
      refine Ev.goto (t := 2) (d18 11 rfl) rfl ?_
      exact ih x1 x2 (x3 + (1 : Int32)) s3  _ hr
    · replace hr := (if_neg c1).symm.trans hr
      refine Ev.aloadN (d18 12 rfl) rfl ?_
      refine Ev.iconst (z := 0) (d18 13 rfl) rfl ?_
      refine Ev.pI V (gok hw) (ww hw 144 rfl) (Or.inl (ww hw 145 rfl)) (d18 14 rfl) (j := 30) rfl ?_
      revert hr
      generalize setI s 30 (0 : Int32) = s4
      intro hr
      replace hr := (bnd_eq _ _).symm.trans hr
      refine Ev.aloadN (d18 15 rfl) rfl ?_
      refine Ev.iloadN (d18 16 rfl) rfl ?_
      refine Ev.iloadN (d18 17 rfl) rfl ?_
      obtain ⟨q5, hq6, hr⟩ := Option.bind_eq_some_iff.mp hr
      refine Ev.priv (y := M_push) (args := [.int x1, .int x2]) (rest := []) (gok hw) rfl nm_push (ww hw 146 rfl) (ww hw 147 rfl) (ww hw 148 rfl) (ww hw 149 rfl) (lenOf pd_push rfl) (d18 18 rfl) (V.2.1 s4) (e_push hw V hq6) (by decide) (Nat.le_of_ble_eq_true rfl) rfl ?_
      refine Ev.iconst (z := 0) (d18 19 rfl) rfl ?_
      refine Ev.istDN (L' := [.val (.ref o), .val (.int x1), .val (.int x2), .val (.int (0 : Int32))]) (d18 20 rfl) rfl rfl rfl ?_
      exact e_conjoin_35 hw V  n x1 x2 (0 : Int32) q5  _ hr
def f_conjoin (n : Nat) (a0 : Int32) (a1 : Int32) (s : St) : Option (Int32 × St) :=
  f_conjoin_2 n n a0 a1 (0 : Int32) s
set_option maxRecDepth 100000 in
theorem e_conjoin {g : GT} {n : Nat} {a0 : Int32} {a1 : Int32} {s : St} {w : Int32 × St} (hw : HW g) {K : St → MHeap} {o : Nat} {r : Nat → Nat} (V : View (GG g) Ln K o r) (hr : f_conjoin n a0 a1 s = some w) : EvC (GG g) M_conjoin [.ref o, .int a0, .int a1] (K s) ((some (.int w.1)), (K w.2)) := by
  refine EvC.enter (L0 := [.val (.ref o), .val (.int a0), .val (.int a1), .unset]) pl_conjoin (fun h => nomatch h) rfl rfl ?_
  unfold f_conjoin at hr
  refine Ev.iconst (z := 0) (d18 0 rfl) rfl ?_
  refine Ev.istDN (L' := [.val (.ref o), .val (.int a0), .val (.int a1), .val (.int (0 : Int32))]) (d18 1 rfl) rfl rfl rfl ?_
  exact e_conjoin_2 hw V  n a0 a1 (0 : Int32) s  _ hr
def f_commitTable_63 (n : Nat) (s : St) : Option (Int32 × St) :=
  bnd (setI s 24 ((0 : Int32) &&& 1)) fun s1 =>
  bnd (setI s1 29 (0 : Int32)) fun s2 =>
  some ((0 : Int32), s2)
set_option maxRecDepth 100000 in
theorem e_commitTable_63 {g : GT} {n : Nat} (hw : HW g) {K : St → MHeap} {o : Nat} {r : Nat → Nat} (V : View (GG g) Ln K o r) (s : St) (y1 : Slot) (hy1 : one1 y1 = true) (y2 : Slot) (hy2 : one1 y2 = true) (w : Int32 × St) (hr : f_commitTable_63 n s = some w) : Ev (GG g) M_commitTable 63 [.val (.ref o), y1, y2] [] (K s) ((some (.int w.1)), (K w.2)) := by
  unfold f_commitTable_63 at hr
  refine Ev.aloadN (d8 35 rfl) rfl ?_
  refine Ev.iconst (z := 0) (d8 36 rfl) rfl ?_
  refine Ev.pZ V (gok hw) (ww hw 63 rfl) (Or.inl (ww hw 64 rfl)) (d8 37 rfl) (j := 24) rfl ?_
  revert hr
  generalize setI s 24 ((0 : Int32) &&& 1) = s1
  intro hr
  replace hr := (bnd_eq _ _).symm.trans hr
  refine Ev.aloadN (d8 38 rfl) rfl ?_
  refine Ev.iconst (z := 0) (d8 39 rfl) rfl ?_
  refine Ev.pI V (gok hw) (ww hw 86 rfl) (Or.inl (ww hw 87 rfl)) (d8 40 rfl) (j := 29) rfl ?_
  revert hr
  generalize setI s1 29 (0 : Int32) = s2
  intro hr
  replace hr := (bnd_eq _ _).symm.trans hr
  refine Ev.iconst (z := 0) (d8 41 rfl) rfl ?_
  cases hr
  exact Ev.ireturn rfl (d8 42 rfl)
def f_commitTable (n : Nat) (s : St) : Option (Int32 × St) :=
  if (s.1 24) = 0 then
    some ((-4 : Int32), s)
  else
    if (s.1 23) < (8 : Int32) then
      (f_ensureRoom s).bind fun q3 =>
      (f_compileTable n s).bind fun q5 =>
      grd (inb (q5.2.1 23) 9) <|
      (f_conjoin n (q5.2.2 0 (ix (q5.2.1 23))) q5.1 q5.2).bind fun q8 =>
      bnd (setI q8.2 23 ((q8.2.1 23) + (1 : Int32))) fun s10 =>
      grd (inb (s10.1 23) 9) <|
      bnd (setA s10 0 (ix (s10.1 23)) q8.1) fun s12 =>
      f_commitTable_63 n s12
    else
      f_commitTable_63 n s
set_option maxRecDepth 100000 in
theorem e_commitTable {g : GT} {n : Nat} {s : St} {w : Int32 × St} (hw : HW g) {K : St → MHeap} {o : Nat} {r : Nat → Nat} (V : View (GG g) Ln K o r) (hr : f_commitTable n s = some w) : EvC (GG g) M_commitTable [.ref o] (K s) ((some (.int w.1)), (K w.2)) := by
  refine EvC.enter (L0 := [.val (.ref o), .unset, .unset]) pl_commitTable (fun h => nomatch h) rfl rfl ?_
  unfold f_commitTable at hr
  refine Ev.aloadN (d8 0 rfl) rfl ?_
  refine Ev.gI V (ww hw 63 rfl) (d8 1 rfl) (j := 24) rfl rfl ?_
  refine Ev.ifne (t := 10) (d8 2 rfl) rfl (fun c1 => ?_) (fun c1 => ?_)
  · replace hr := (if_pos c1).symm.trans hr
    refine Ev.bipush (z := -4) (d8 3 rfl) rfl ?_
    cases hr
    exact Ev.ireturn rfl (d8 4 rfl)
  · replace hr := (if_neg c1).symm.trans hr
    refine Ev.aloadN (d8 5 rfl) rfl ?_
    refine Ev.gI V (ww hw 61 rfl) (d8 6 rfl) (j := 23) rfl rfl ?_
    refine Ev.bipush (z := 8) (d8 7 rfl) rfl ?_
    refine Ev.icge (t := 63) (d8 8 rfl) rfl (fun c2 => ?_) (fun c2 => ?_)
    · replace hr := (if_pos c2).symm.trans hr
      refine Ev.aloadN (d8 9 rfl) rfl ?_
      obtain ⟨q3, hq4, hr⟩ := Option.bind_eq_some_iff.mp hr
      refine Ev.priv (y := M_ensureRoom) (args := []) (rest := []) (gok hw) rfl nm_ensureRoom (ww hw 102 rfl) (ww hw 103 rfl) (ww hw 104 rfl) (ww hw 105 rfl) (lenOf pd_ensureRoom rfl) (d8 10 rfl) (V.2.1 s) (e_ensureRoom hw V hq4) (by decide) (Nat.le_of_ble_eq_true rfl) rfl ?_
      refine Ev.aloadN (d8 11 rfl) rfl ?_
      obtain ⟨q5, hq6, hr⟩ := Option.bind_eq_some_iff.mp hr
      refine Ev.priv (y := M_compileTable) (args := []) (rest := []) (gok hw) rfl nm_compileTable (ww hw 106 rfl) (ww hw 107 rfl) (ww hw 108 rfl) (ww hw 109 rfl) (lenOf pd_compileTable rfl) (d8 12 rfl) (V.2.1 s) (e_compileTable hw V hq6) (by decide) (Nat.le_of_ble_eq_true rfl) rfl ?_
      refine Ev.istDN (L' := [.val (.ref o), .val (.int q5.1), .unset]) (d8 13 rfl) rfl rfl rfl ?_
      refine Ev.aloadN (d8 14 rfl) rfl ?_
      refine Ev.aloadN (d8 15 rfl) rfl ?_
      refine Ev.gAr V (ww hw 10 rfl) (d8 16 rfl) (j := 0) rfl ?_
      refine Ev.aloadN (d8 17 rfl) rfl ?_
      refine Ev.gI V (ww hw 61 rfl) (d8 18 rfl) (j := 23) rfl rfl ?_
      obtain ⟨b7, hr⟩ := grd_some hr
      refine Ev.ial V (j := 0) rfl rfl (d8 19 rfl) b7 ?_
      refine Ev.iloadN (d8 20 rfl) rfl ?_
      obtain ⟨q8, hq9, hr⟩ := Option.bind_eq_some_iff.mp hr
      refine Ev.priv (y := M_conjoin) (args := [.int (q5.2.2 0 (ix (q5.2.1 23))), .int q5.1]) (rest := []) (gok hw) rfl nm_conjoin (ww hw 140 rfl) (ww hw 141 rfl) (ww hw 142 rfl) (ww hw 143 rfl) (lenOf pd_conjoin rfl) (d8 21 rfl) (V.2.1 q5.2) (e_conjoin hw V hq9) (by decide) (Nat.le_of_ble_eq_true rfl) rfl ?_
      refine Ev.istDN (L' := [.val (.ref o), .val (.int q5.1), .val (.int q8.1)]) (d8 22 rfl) rfl rfl rfl ?_
      refine Ev.aloadN (d8 23 rfl) rfl ?_
      refine Ev.dup (d8 24 rfl) rfl ?_
      refine Ev.gI V (ww hw 61 rfl) (d8 25 rfl) (j := 23) rfl rfl ?_
      refine Ev.iconst (z := 1) (d8 26 rfl) rfl ?_
      refine Ev.iadd (d8 27 rfl) ?_
      refine Ev.pI V (gok hw) (ww hw 61 rfl) (Or.inl (ww hw 62 rfl)) (d8 28 rfl) (j := 23) rfl ?_
      revert hr
      generalize setI q8.2 23 ((q8.2.1 23) + (1 : Int32)) = s10
      intro hr
      replace hr := (bnd_eq _ _).symm.trans hr
      refine Ev.aloadN (d8 29 rfl) rfl ?_
      refine Ev.gAr V (ww hw 10 rfl) (d8 30 rfl) (j := 0) rfl ?_
      refine Ev.aloadN (d8 31 rfl) rfl ?_
      refine Ev.gI V (ww hw 61 rfl) (d8 32 rfl) (j := 23) rfl rfl ?_
      refine Ev.iloadN (d8 33 rfl) rfl ?_
      obtain ⟨b11, hr⟩ := grd_some hr
      refine Ev.ias V (j := 0) rfl rfl (d8 34 rfl) b11 ?_
      revert hr
      generalize setA s10 0 (ix (s10.1 23)) q8.1 = s12
      intro hr
      replace hr := (bnd_eq _ _).symm.trans hr
      exact e_commitTable_63 hw V  s12 (.val (.int q5.1)) rfl (.val (.int q8.1)) rfl _ hr
    · replace hr := (if_neg c2).symm.trans hr
      exact e_commitTable_63 hw V  s .unset rfl .unset rfl _ hr
def f_loadChoices_2 (n : Nat) : Nat → Int32 → St → Option (St)
  | 0 => fun _ _ => none
  | k + 1 => fun x1 s =>
    if x1 < (5 : Int32) then
      grd (inb x1 5) <|
      bnd (setA s 3 (ix x1) (s.2 2 (ix x1))) fun s3 =>
      f_loadChoices_2 n k (x1 + (1 : Int32)) s3
    else
      some s
set_option maxRecDepth 100000 in
theorem e_loadChoices_2 {g : GT} {n : Nat} (hw : HW g) {K : St → MHeap} {o : Nat} {r : Nat → Nat} (V : View (GG g) Ln K o r) (k : Nat) : ∀ (x1 : Int32) (s : St) (w : St), f_loadChoices_2 n k x1 s = some w → Ev (GG g) M_loadChoices 2 [.val (.ref o), .val (.int x1)] [] (K s) (none, (K w)) := by
  induction k with
  | zero => intro x1 s w hr; rw [f_loadChoices_2] at hr; cases hr
  | succ k ih =>
    intro x1 s w hr
    rw [f_loadChoices_2] at hr
    refine Ev.iloadN (d23 2 rfl) rfl ?_
    refine Ev.iconst (z := 5) (d23 3 rfl) rfl ?_
    refine Ev.icge (t := 25) (d23 4 rfl) rfl (fun c1 => ?_) (fun c1 => ?_)
    · replace hr := (if_pos c1).symm.trans hr
      refine Ev.aloadN (d23 5 rfl) rfl ?_
      refine Ev.gAr V (ww hw 16 rfl) (d23 6 rfl) (j := 3) rfl ?_
      refine Ev.iloadN (d23 7 rfl) rfl ?_
      refine Ev.aloadN (d23 8 rfl) rfl ?_
      refine Ev.gAr V (ww hw 14 rfl) (d23 9 rfl) (j := 2) rfl ?_
      refine Ev.iloadN (d23 10 rfl) rfl ?_
      obtain ⟨b2, hr⟩ := grd_some hr
      refine Ev.ial V (j := 2) rfl rfl (d23 11 rfl) b2 ?_
      refine Ev.ias V (j := 3) rfl rfl (d23 12 rfl) b2 ?_
      revert hr
      generalize setA s 3 (ix x1) (s.2 2 (ix x1)) = s3
      intro hr
      replace hr := (bnd_eq _ _).symm.trans hr
      refine Ev.iinc (z := 1) (L' := [.val (.ref o), .val (.int (x1 + (1 : Int32)))]) (d23 13 rfl) rfl rfl rfl ?_
      refine Ev.goto (t := 2) (d23 14 rfl) rfl ?_
      exact ih (x1 + (1 : Int32)) s3  _ hr
    · replace hr := (if_neg c1).symm.trans hr
      cases hr
      exact Ev.vreturn rfl (d23 15 rfl)
def f_loadChoices (n : Nat) (s : St) : Option (St) :=
  f_loadChoices_2 n n (0 : Int32) s
set_option maxRecDepth 100000 in
theorem e_loadChoices {g : GT} {n : Nat} {s : St} {w : St} (hw : HW g) {K : St → MHeap} {o : Nat} {r : Nat → Nat} (V : View (GG g) Ln K o r) (hr : f_loadChoices n s = some w) : EvC (GG g) M_loadChoices [.ref o] (K s) (none, (K w)) := by
  refine EvC.enter (L0 := [.val (.ref o), .unset]) pl_loadChoices (fun _ => rfl) rfl rfl ?_
  unfold f_loadChoices at hr
  refine Ev.iconst (z := 0) (d23 0 rfl) rfl ?_
  refine Ev.istDN (L' := [.val (.ref o), .val (.int (0 : Int32))]) (d23 1 rfl) rfl rfl rfl ?_
  exact e_loadChoices_2 hw V  n (0 : Int32) s  _ hr
def f_gap_5 (n : Nat) (s : St) : Nat → Int32 → Int32 → Int32 → Option (Int32)
  | 0 => fun _ _ _ => none
  | k + 1 => fun x2 x3 x4 =>
    if x4 < x2 then
      if x4 < (5 : Int32) then
        grd (inb x4 5) <|
        if (s.2 3 (ix x4)) < 0 then
          f_gap_5 n s k x2 (x3 * (s.1 21)) (x4 + (1 : Int32))
        else
          f_gap_5 n s k x2 x3 (x4 + (1 : Int32))
      else
        some x3
    else
      some x3
set_option maxRecDepth 100000 in
theorem e_gap_5 {g : GT} {n : Nat} {s : St} (hw : HW g) {K : St → MHeap} {o : Nat} {r : Nat → Nat} (V : View (GG g) Ln K o r) (k : Nat) : ∀ (x2 : Int32) (x3 : Int32) (x4 : Int32) (y1 : Slot) (hy1 : one1 y1 = true) (w : Int32), f_gap_5 n s k x2 x3 x4 = some w → Ev (GG g) M_gap 5 [.val (.ref o), y1, .val (.int x2), .val (.int x3), .val (.int x4)] [] (K s) ((some (.int w)), (K s)) := by
  induction k with
  | zero => intro x2 x3 x4 y1 hy1 w hr; rw [f_gap_5] at hr; cases hr
  | succ k ih =>
    intro x2 x3 x4 y1 hy1 w hr
    rw [f_gap_5] at hr
    refine Ev.iload (d25 4 rfl) rfl ?_
    refine Ev.iloadN (d25 5 rfl) rfl ?_
    refine Ev.icge (t := 40) (d25 6 rfl) rfl (fun c1 => ?_) (fun c1 => ?_)
    · replace hr := (if_pos c1).symm.trans hr
      refine Ev.iload (d25 7 rfl) rfl ?_
      refine Ev.iconst (z := 5) (d25 8 rfl) rfl ?_
      refine Ev.icge (t := 40) (d25 9 rfl) rfl (fun c2 => ?_) (fun c2 => ?_)
      · replace hr := (if_pos c2).symm.trans hr
        refine Ev.aloadN (d25 10 rfl) rfl ?_
        refine Ev.gAr V (ww hw 16 rfl) (d25 11 rfl) (j := 3) rfl ?_
        refine Ev.iload (d25 12 rfl) rfl ?_
        obtain ⟨b3, hr⟩ := grd_some hr
        refine Ev.ial V (j := 3) rfl rfl (d25 13 rfl) b3 ?_
        refine Ev.ifge (t := 34) (d25 14 rfl) rfl (fun c4 => ?_) (fun c4 => ?_)
        · replace hr := (if_pos c4).symm.trans hr
          refine Ev.iloadN (d25 15 rfl) rfl ?_
          refine Ev.aloadN (d25 16 rfl) rfl ?_
          refine Ev.gI V (ww hw 53 rfl) (d25 17 rfl) (j := 21) rfl rfl ?_
          refine Ev.imul (d25 18 rfl) ?_
          refine Ev.istDN (L' := [.val (.ref o), y1, .val (.int x2), .val (.int (x3 * (s.1 21))), .val (.int x4)]) (d25 19 rfl) rfl rfl rfl ?_
          refine Ev.iinc (z := 1) (L' := [.val (.ref o), y1, .val (.int x2), .val (.int (x3 * (s.1 21))), .val (.int (x4 + (1 : Int32)))]) (d25 20 rfl) rfl rfl rfl ?_
          refine Ev.goto (t := 5) (d25 21 rfl) rfl ?_
          exact ih x2 (x3 * (s.1 21)) (x4 + (1 : Int32)) y1 hy1 _ hr
        · replace hr := (if_neg c4).symm.trans hr
          refine Ev.iinc (z := 1) (L' := [.val (.ref o), y1, .val (.int x2), .val (.int x3), .val (.int (x4 + (1 : Int32)))]) (d25 20 rfl) rfl rfl rfl ?_
          refine Ev.goto (t := 5) (d25 21 rfl) rfl ?_
          exact ih x2 x3 (x4 + (1 : Int32)) y1 hy1 _ hr
      · replace hr := (if_neg c2).symm.trans hr
        refine Ev.iloadN (d25 22 rfl) rfl ?_
        cases hr
        exact Ev.ireturn rfl (d25 23 rfl)
    · replace hr := (if_neg c1).symm.trans hr
      refine Ev.iloadN (d25 22 rfl) rfl ?_
      cases hr
      exact Ev.ireturn rfl (d25 23 rfl)
def f_gap (n : Nat) (s : St) (a0 : Int32) (a1 : Int32) : Option (Int32) :=
  f_gap_5 n s n a1 (1 : Int32) a0
set_option maxRecDepth 100000 in
theorem e_gap {g : GT} {n : Nat} {s : St} {a0 : Int32} {a1 : Int32} {w : Int32} (hw : HW g) {K : St → MHeap} {o : Nat} {r : Nat → Nat} (V : View (GG g) Ln K o r) (hr : f_gap n s a0 a1 = some w) : EvC (GG g) M_gap [.ref o, .int a0, .int a1] (K s) ((some (.int w)), (K s)) := by
  refine EvC.enter (L0 := [.val (.ref o), .val (.int a0), .val (.int a1), .unset, .unset]) pl_gap (fun h => nomatch h) rfl rfl ?_
  unfold f_gap at hr
  refine Ev.iconst (z := 1) (d25 0 rfl) rfl ?_
  refine Ev.istDN (L' := [.val (.ref o), .val (.int a0), .val (.int a1), .val (.int (1 : Int32)), .unset]) (d25 1 rfl) rfl rfl rfl ?_
  refine Ev.iloadN (d25 2 rfl) rfl ?_
  refine Ev.istD (L' := [.val (.ref o), .val (.int a0), .val (.int a1), .val (.int (1 : Int32)), .val (.int a0)]) (d25 3 rfl) rfl rfl rfl ?_
  exact e_gap_5 hw V  n a1 (1 : Int32) a0 (.val (.int a0)) rfl _ hr
def f_nodeCount_55 (n : Nat) (s : St) (k23 : Int32 → Int32 → Int32 → Int32 → Option (Int32)) (x1 : Int32) (x2 : Int32) (x3 : Int32) (x4 : Int32) : Option (Int32) :=
  grd (inb ((x1 * (4 : Int32)) + x4) 8192) <|
  bnd (s.2 6 (ix ((x1 * (4 : Int32)) + x4))) fun v2 =>
  if v2 < 0 then
    k23 x1 x2 x3 (x4 + (1 : Int32))
  else
    if v2 < x1 then
      grd (inb v2 2048) <|
      (f_gap n s (x2 + (1 : Int32)) (s.2 5 (ix v2))).bind fun q6 =>
      bnd (x3 + ((s.2 10 (ix v2)) * q6)) fun v8 =>
      k23 x1 x2 v8 (x4 + (1 : Int32))
    else
      k23 x1 x2 x3 (x4 + (1 : Int32))
set_option maxRecDepth 100000 in
theorem e_nodeCount_55 {g : GT} {n : Nat} {s : St} (hw : HW g) {K : St → MHeap} {o : Nat} {r : Nat → Nat} (V : View (GG g) Ln K o r) {k23 : Int32 → Int32 → Int32 → Int32 → Option (Int32)} (hk23 : ∀ (x1 : Int32) (x2 : Int32) (x3 : Int32) (x4 : Int32) (y5 : Slot) (hy5 : one1 y5 = true) (y6 : Slot) (hy6 : one1 y6 = true) (w : Int32), k23 x1 x2 x3 x4 = some w → Ev (GG g) M_nodeCount 23 [.val (.ref o), .val (.int x1), .val (.int x2), .val (.int x3), .val (.int x4), y5, y6] [] (K s) ((some (.int w)), (K s))) (x1 : Int32) (x2 : Int32) (x3 : Int32) (x4 : Int32) (y5 : Slot) (hy5 : one1 y5 = true) (y6 : Slot) (hy6 : one1 y6 = true) (w : Int32) (hr : f_nodeCount_55 n s k23 x1 x2 x3 x4 = some w) : Ev (GG g) M_nodeCount 55 [.val (.ref o), .val (.int x1), .val (.int x2), .val (.int x3), .val (.int x4), y5, y6] [] (K s) ((some (.int w)), (K s)) := by
  unfold f_nodeCount_55 at hr
  refine Ev.aloadN (d31 32 rfl) rfl ?_
  refine Ev.gAr V (ww hw 22 rfl) (d31 33 rfl) (j := 6) rfl ?_
  refine Ev.iloadN (d31 34 rfl) rfl ?_
  refine Ev.iconst (z := 4) (d31 35 rfl) rfl ?_
  refine Ev.imul (d31 36 rfl) ?_
  refine Ev.iload (d31 37 rfl) rfl ?_
  refine Ev.iadd (d31 38 rfl) ?_
  obtain ⟨b1, hr⟩ := grd_some hr
  refine Ev.ial V (j := 6) rfl rfl (d31 39 rfl) b1 ?_
  revert hr
  generalize (s.2 6 (ix ((x1 * (4 : Int32)) + x4))) = v2
  intro hr
  replace hr := (bnd_eq _ _).symm.trans hr
  refine Ev.istD (L' := [.val (.ref o), .val (.int x1), .val (.int x2), .val (.int x3), .val (.int x4), .val (.int v2), y6]) (d31 40 rfl) rfl hy5 rfl ?_
  refine Ev.iload (d31 41 rfl) rfl ?_
  refine Ev.iflt (t := 111) (d31 42 rfl) rfl (fun c3 => ?_) (fun c3 => ?_)
  · replace hr := (if_pos c3).symm.trans hr
    refine Ev.iinc (z := 1) (L' := [.val (.ref o), .val (.int x1), .val (.int x2), .val (.int x3), .val (.int (x4 + (1 : Int32))), .val (.int v2), y6]) (d31 66 rfl) rfl rfl rfl ?_
    refine Ev.goto (t := 23) (d31 67 rfl) rfl ?_
    exact hk23 x1 x2 x3 (x4 + (1 : Int32)) (.val (.int v2)) rfl y6 hy6 _ hr
  · replace hr := (if_neg c3).symm.trans hr
    refine Ev.iload (d31 43 rfl) rfl ?_
    refine Ev.iloadN (d31 44 rfl) rfl ?_
    refine Ev.iclt (t := 82) (d31 45 rfl) rfl (fun c4 => ?_) (fun c4 => ?_)
    · replace hr := (if_pos c4).symm.trans hr
      refine Ev.aloadN (d31 47 rfl) rfl ?_
      refine Ev.iloadN (d31 48 rfl) rfl ?_
      refine Ev.iconst (z := 1) (d31 49 rfl) rfl ?_
      refine Ev.iadd (d31 50 rfl) ?_
      refine Ev.aloadN (d31 51 rfl) rfl ?_
      refine Ev.gAr V (ww hw 20 rfl) (d31 52 rfl) (j := 5) rfl ?_
      refine Ev.iload (d31 53 rfl) rfl ?_
      obtain ⟨b5, hr⟩ := grd_some hr
      refine Ev.ial V (j := 5) rfl rfl (d31 54 rfl) b5 ?_
      obtain ⟨q6, hq7, hr⟩ := Option.bind_eq_some_iff.mp hr
      refine Ev.priv (y := M_gap) (args := [.int (x2 + (1 : Int32)), .int (s.2 5 (ix v2))]) (rest := []) (gok hw) rfl nm_gap (ww hw 172 rfl) (ww hw 173 rfl) (ww hw 174 rfl) (ww hw 175 rfl) (lenOf pd_gap rfl) (d31 55 rfl) (V.2.1 s) (e_gap hw V hq7) (by decide) (Nat.le_of_ble_eq_true rfl) rfl ?_
      refine Ev.istD (L' := [.val (.ref o), .val (.int x1), .val (.int x2), .val (.int x3), .val (.int x4), .val (.int v2), .val (.int q6)]) (d31 56 rfl) rfl hy6 rfl ?_
      refine Ev.iloadN (d31 57 rfl) rfl ?_
      refine Ev.aloadN (d31 58 rfl) rfl ?_
      refine Ev.gAr V (ww hw 31 rfl) (d31 59 rfl) (j := 10) rfl ?_
      refine Ev.iload (d31 60 rfl) rfl ?_
      refine Ev.ial V (j := 10) rfl rfl (d31 61 rfl) b5 ?_
      refine Ev.iload (d31 62 rfl) rfl ?_
      refine Ev.imul (d31 63 rfl) ?_
      refine Ev.iadd (d31 64 rfl) ?_
      revert hr
      generalize (x3 + ((s.2 10 (ix v2)) * q6)) = v8
      intro hr
      replace hr := (bnd_eq _ _).symm.trans hr
      refine Ev.istDN (L' := [.val (.ref o), .val (.int x1), .val (.int x2), .val (.int v8), .val (.int x4), .val (.int v2), .val (.int q6)]) (d31 65 rfl) rfl rfl rfl ?_
      refine Ev.iinc (z := 1) (L' := [.val (.ref o), .val (.int x1), .val (.int x2), .val (.int v8), .val (.int (x4 + (1 : Int32))), .val (.int v2), .val (.int q6)]) (d31 66 rfl) rfl rfl rfl ?_
      refine Ev.goto (t := 23) (d31 67 rfl) rfl ?_
      exact hk23 x1 x2 v8 (x4 + (1 : Int32)) (.val (.int v2)) rfl (.val (.int q6)) rfl _ hr
    · replace hr := (if_neg c4).symm.trans hr
      refine Ev.goto (t := 111) (d31 46 rfl) rfl ?_
      refine Ev.iinc (z := 1) (L' := [.val (.ref o), .val (.int x1), .val (.int x2), .val (.int x3), .val (.int (x4 + (1 : Int32))), .val (.int v2), y6]) (d31 66 rfl) rfl rfl rfl ?_
      refine Ev.goto (t := 23) (d31 67 rfl) rfl ?_
      exact hk23 x1 x2 x3 (x4 + (1 : Int32)) (.val (.int v2)) rfl y6 hy6 _ hr
def f_nodeCount_23 (n : Nat) (s : St) : Nat → Int32 → Int32 → Int32 → Int32 → Option (Int32)
  | 0 => fun _ _ _ _ => none
  | k + 1 => fun x1 x2 x3 x4 =>
    if x4 < (s.1 21) then
      grd (inb x2 5) <|
      if (s.2 3 (ix x2)) < 0 then
        f_nodeCount_55 n s (f_nodeCount_23 n s k) x1 x2 x3 x4
      else
        if (s.2 3 (ix x2)) = x4 then
          f_nodeCount_55 n s (f_nodeCount_23 n s k) x1 x2 x3 x4
        else
          f_nodeCount_23 n s k x1 x2 x3 (x4 + (1 : Int32))
    else
      some x3
set_option maxRecDepth 100000 in
theorem e_nodeCount_23 {g : GT} {n : Nat} {s : St} (hw : HW g) {K : St → MHeap} {o : Nat} {r : Nat → Nat} (V : View (GG g) Ln K o r) (k : Nat) : ∀ (x1 : Int32) (x2 : Int32) (x3 : Int32) (x4 : Int32) (y5 : Slot) (hy5 : one1 y5 = true) (y6 : Slot) (hy6 : one1 y6 = true) (w : Int32), f_nodeCount_23 n s k x1 x2 x3 x4 = some w → Ev (GG g) M_nodeCount 23 [.val (.ref o), .val (.int x1), .val (.int x2), .val (.int x3), .val (.int x4), y5, y6] [] (K s) ((some (.int w)), (K s)) := by
  induction k with
  | zero => intro x1 x2 x3 x4 y5 hy5 y6 hy6 w hr; rw [f_nodeCount_23] at hr; cases hr
  | succ k ih =>
    intro x1 x2 x3 x4 y5 hy5 y6 hy6 w hr
    rw [f_nodeCount_23] at hr
    refine Ev.iload (d31 16 rfl) rfl ?_
    refine Ev.aloadN (d31 17 rfl) rfl ?_
    refine Ev.gI V (ww hw 53 rfl) (d31 18 rfl) (j := 21) rfl rfl ?_
    refine Ev.icge (t := 117) (d31 19 rfl) rfl (fun c1 => ?_) (fun c1 => ?_)
    · replace hr := (if_pos c1).symm.trans hr
      refine Ev.aloadN (d31 20 rfl) rfl ?_
      refine Ev.gAr V (ww hw 16 rfl) (d31 21 rfl) (j := 3) rfl ?_
      refine Ev.iloadN (d31 22 rfl) rfl ?_
      obtain ⟨b2, hr⟩ := grd_some hr
      refine Ev.ial V (j := 3) rfl rfl (d31 23 rfl) b2 ?_
      refine Ev.iflt (t := 55) (d31 24 rfl) rfl (fun c3 => ?_) (fun c3 => ?_)
      · replace hr := (if_pos c3).symm.trans hr
        exact e_nodeCount_55 hw V ih x1 x2 x3 x4 y5 hy5 y6 hy6 _ hr
      · replace hr := (if_neg c3).symm.trans hr
        refine Ev.aloadN (d31 25 rfl) rfl ?_
        refine Ev.gAr V (ww hw 16 rfl) (d31 26 rfl) (j := 3) rfl ?_
        refine Ev.iloadN (d31 27 rfl) rfl ?_
        refine Ev.ial V (j := 3) rfl rfl (d31 28 rfl) b2 ?_
        refine Ev.iload (d31 29 rfl) rfl ?_
        refine Ev.iceq (t := 55) (d31 30 rfl) rfl (fun c4 => ?_) (fun c4 => ?_)
        · replace hr := (if_pos c4).symm.trans hr
          exact e_nodeCount_55 hw V ih x1 x2 x3 x4 y5 hy5 y6 hy6 _ hr
        · replace hr := (if_neg c4).symm.trans hr
          refine Ev.goto (t := 111) (d31 31 rfl) rfl ?_
          refine Ev.iinc (z := 1) (L' := [.val (.ref o), .val (.int x1), .val (.int x2), .val (.int x3), .val (.int (x4 + (1 : Int32))), y5, y6]) (d31 66 rfl) rfl rfl rfl ?_
          refine Ev.goto (t := 23) (d31 67 rfl) rfl ?_
          exact ih x1 x2 x3 (x4 + (1 : Int32)) y5 hy5 y6 hy6 _ hr
    · replace hr := (if_neg c1).symm.trans hr
      refine Ev.iloadN (d31 68 rfl) rfl ?_
      cases hr
      exact Ev.ireturn rfl (d31 69 rfl)
def f_nodeCount (n : Nat) (s : St) (a0 : Int32) : Option (Int32) :=
  grd (inb a0 2048) <|
  if (s.2 5 (ix a0)) < 0 then
    some (0 : Int32)
  else
    if (s.2 5 (ix a0)) < (5 : Int32) then
      f_nodeCount_23 n s n a0 (s.2 5 (ix a0)) (0 : Int32) (0 : Int32)
    else
      some (0 : Int32)
set_option maxRecDepth 100000 in
theorem e_nodeCount {g : GT} {n : Nat} {s : St} {a0 : Int32} {w : Int32} (hw : HW g) {K : St → MHeap} {o : Nat} {r : Nat → Nat} (V : View (GG g) Ln K o r) (hr : f_nodeCount n s a0 = some w) : EvC (GG g) M_nodeCount [.ref o, .int a0] (K s) ((some (.int w)), (K s)) := by
  refine EvC.enter (L0 := [.val (.ref o), .val (.int a0), .unset, .unset, .unset, .unset, .unset]) pl_nodeCount (fun h => nomatch h) rfl rfl ?_
  unfold f_nodeCount at hr
  refine Ev.aloadN (d31 0 rfl) rfl ?_
  refine Ev.gAr V (ww hw 20 rfl) (d31 1 rfl) (j := 5) rfl ?_
  refine Ev.iloadN (d31 2 rfl) rfl ?_
  obtain ⟨b1, hr⟩ := grd_some hr
  refine Ev.ial V (j := 5) rfl rfl (d31 3 rfl) b1 ?_
  refine Ev.istDN (L' := [.val (.ref o), .val (.int a0), .val (.int (s.2 5 (ix a0))), .unset, .unset, .unset, .unset]) (d31 4 rfl) rfl rfl rfl ?_
  refine Ev.iloadN (d31 5 rfl) rfl ?_
  refine Ev.iflt (t := 16) (d31 6 rfl) rfl (fun c2 => ?_) (fun c2 => ?_)
  · replace hr := (if_pos c2).symm.trans hr
    refine Ev.iconst (z := 0) (d31 10 rfl) rfl ?_
    cases hr
    exact Ev.ireturn rfl (d31 11 rfl)
  · replace hr := (if_neg c2).symm.trans hr
    refine Ev.iloadN (d31 7 rfl) rfl ?_
    refine Ev.iconst (z := 5) (d31 8 rfl) rfl ?_
    refine Ev.iclt (t := 18) (d31 9 rfl) rfl (fun c3 => ?_) (fun c3 => ?_)
    · replace hr := (if_pos c3).symm.trans hr
      refine Ev.iconst (z := 0) (d31 12 rfl) rfl ?_
      refine Ev.istDN (L' := [.val (.ref o), .val (.int a0), .val (.int (s.2 5 (ix a0))), .val (.int (0 : Int32)), .unset, .unset, .unset]) (d31 13 rfl) rfl rfl rfl ?_
      refine Ev.iconst (z := 0) (d31 14 rfl) rfl ?_
      refine Ev.istD (L' := [.val (.ref o), .val (.int a0), .val (.int (s.2 5 (ix a0))), .val (.int (0 : Int32)), .val (.int (0 : Int32)), .unset, .unset]) (d31 15 rfl) rfl rfl rfl ?_
      exact e_nodeCount_23 hw V  n a0 (s.2 5 (ix a0)) (0 : Int32) (0 : Int32) .unset rfl .unset rfl _ hr
    · replace hr := (if_neg c3).symm.trans hr
      refine Ev.iconst (z := 0) (d31 10 rfl) rfl ?_
      cases hr
      exact Ev.ireturn rfl (d31 11 rfl)
def f_countFixed_55 (n : Nat) (x1 : Int32) (s : St) : Option (Int32 × St) :=
  grd (inb x1 2048) <|
  (f_gap n s (0 : Int32) (s.2 5 (ix x1))).bind fun q2 =>
  some (((s.2 10 (ix x1)) * q2), s)
set_option maxRecDepth 100000 in
theorem e_countFixed_55 {g : GT} {n : Nat} (hw : HW g) {K : St → MHeap} {o : Nat} {r : Nat → Nat} (V : View (GG g) Ln K o r) (x1 : Int32) (s : St) (y2 : Slot) (hy2 : one1 y2 = true) (w : Int32 × St) (hr : f_countFixed_55 n x1 s = some w) : Ev (GG g) M_countFixed 55 [.val (.ref o), .val (.int x1), y2] [] (K s) ((some (.int w.1)), (K w.2)) := by
  unfold f_countFixed_55 at hr
  refine Ev.aloadN (d24 33 rfl) rfl ?_
  refine Ev.iconst (z := 0) (d24 34 rfl) rfl ?_
  refine Ev.aloadN (d24 35 rfl) rfl ?_
  refine Ev.gAr V (ww hw 20 rfl) (d24 36 rfl) (j := 5) rfl ?_
  refine Ev.iloadN (d24 37 rfl) rfl ?_
  obtain ⟨b1, hr⟩ := grd_some hr
  refine Ev.ial V (j := 5) rfl rfl (d24 38 rfl) b1 ?_
  obtain ⟨q2, hq3, hr⟩ := Option.bind_eq_some_iff.mp hr
  refine Ev.priv (y := M_gap) (args := [.int (0 : Int32), .int (s.2 5 (ix x1))]) (rest := []) (gok hw) rfl nm_gap (ww hw 172 rfl) (ww hw 173 rfl) (ww hw 174 rfl) (ww hw 175 rfl) (lenOf pd_gap rfl) (d24 39 rfl) (V.2.1 s) (e_gap hw V hq3) (by decide) (Nat.le_of_ble_eq_true rfl) rfl ?_
  refine Ev.istDN (L' := [.val (.ref o), .val (.int x1), .val (.int q2)]) (d24 40 rfl) rfl hy2 rfl ?_
  refine Ev.aloadN (d24 41 rfl) rfl ?_
  refine Ev.gAr V (ww hw 31 rfl) (d24 42 rfl) (j := 10) rfl ?_
  refine Ev.iloadN (d24 43 rfl) rfl ?_
  refine Ev.ial V (j := 10) rfl rfl (d24 44 rfl) b1 ?_
  refine Ev.iloadN (d24 45 rfl) rfl ?_
  refine Ev.imul (d24 46 rfl) ?_
  cases hr
  exact Ev.ireturn rfl (d24 47 rfl)
def f_countFixed_26 (n : Nat) : Nat → Int32 → Int32 → St → Option (Int32 × St)
  | 0 => fun _ _ _ => none
  | k + 1 => fun x1 x2 s =>
    if x1 < x2 then
      f_countFixed_55 n x1 s
    else
      if x2 < (2048 : Int32) then
        (f_nodeCount n s x2).bind fun q3 =>
        grd (inb x2 2048) <|
        bnd (setA s 10 (ix x2) q3) fun s6 =>
        f_countFixed_26 n k x1 (x2 + (1 : Int32)) s6
      else
        f_countFixed_55 n x1 s
set_option maxRecDepth 100000 in
theorem e_countFixed_26 {g : GT} {n : Nat} (hw : HW g) {K : St → MHeap} {o : Nat} {r : Nat → Nat} (V : View (GG g) Ln K o r) (k : Nat) : ∀ (x1 : Int32) (x2 : Int32) (s : St) (w : Int32 × St), f_countFixed_26 n k x1 x2 s = some w → Ev (GG g) M_countFixed 26 [.val (.ref o), .val (.int x1), .val (.int x2)] [] (K s) ((some (.int w.1)), (K w.2)) := by
  induction k with
  | zero => intro x1 x2 s w hr; rw [f_countFixed_26] at hr; cases hr
  | succ k ih =>
    intro x1 x2 s w hr
    rw [f_countFixed_26] at hr
    refine Ev.iloadN (d24 18 rfl) rfl ?_
    refine Ev.iloadN (d24 19 rfl) rfl ?_
    refine Ev.icgt (t := 55) (d24 20 rfl) rfl (fun c1 => ?_) (fun c1 => ?_)
    · replace hr := (if_pos c1).symm.trans hr
      exact e_countFixed_55 hw V  x1 s (.val (.int x2)) rfl _ hr
    · replace hr := (if_neg c1).symm.trans hr
      refine Ev.iloadN (d24 21 rfl) rfl ?_
      refine Ev.sipush (z := 2048) (d24 22 rfl) rfl ?_
      refine Ev.icge (t := 55) (d24 23 rfl) rfl (fun c2 => ?_) (fun c2 => ?_)
      · replace hr := (if_pos c2).symm.trans hr
        refine Ev.aloadN (d24 24 rfl) rfl ?_
        refine Ev.gAr V (ww hw 31 rfl) (d24 25 rfl) (j := 10) rfl ?_
        refine Ev.iloadN (d24 26 rfl) rfl ?_
        refine Ev.aloadN (d24 27 rfl) rfl ?_
        refine Ev.iloadN (d24 28 rfl) rfl ?_
        obtain ⟨q3, hq4, hr⟩ := Option.bind_eq_some_iff.mp hr
        refine Ev.priv (y := M_nodeCount) (args := [.int x2]) (rest := [.int x2, .ref (r 10)]) (gok hw) rfl nm_nodeCount (ww hw 201 rfl) (ww hw 202 rfl) (ww hw 203 rfl) (ww hw 204 rfl) (lenOf pd_nodeCount rfl) (d24 29 rfl) (V.2.1 s) (e_nodeCount hw V hq4) (by decide) (Nat.le_of_ble_eq_true rfl) rfl ?_
        obtain ⟨b5, hr⟩ := grd_some hr
        refine Ev.ias V (j := 10) rfl rfl (d24 30 rfl) b5 ?_
        revert hr
        generalize setA s 10 (ix x2) q3 = s6
        intro hr
        replace hr := (bnd_eq _ _).symm.trans hr
        refine Ev.iinc (z := 1) (L' := [.val (.ref o), .val (.int x1), .val (.int (x2 + (1 : Int32)))]) (d24 31 rfl) rfl rfl rfl ?_
        refine Ev.goto (t := 26) (d24 32 rfl) rfl ?_
        exact ih x1 (x2 + (1 : Int32)) s6  _ hr
      · replace hr := (if_neg c2).symm.trans hr
        exact e_countFixed_55 hw V  x1 s (.val (.int x2)) rfl _ hr
def f_countFixed (n : Nat) (s : St) : Option (Int32 × St) :=
  grd (inb (s.1 23) 9) <|
  bnd (setA s 10 (ix (0 : Int32)) (0 : Int32)) fun s2 =>
  bnd (setA s2 10 (ix (1 : Int32)) (1 : Int32)) fun s3 =>
  f_countFixed_26 n n (s.2 0 (ix (s.1 23))) (2 : Int32) s3
set_option maxRecDepth 100000 in
theorem e_countFixed {g : GT} {n : Nat} {s : St} {w : Int32 × St} (hw : HW g) {K : St → MHeap} {o : Nat} {r : Nat → Nat} (V : View (GG g) Ln K o r) (hr : f_countFixed n s = some w) : EvC (GG g) M_countFixed [.ref o] (K s) ((some (.int w.1)), (K w.2)) := by
  refine EvC.enter (L0 := [.val (.ref o), .unset, .unset]) pl_countFixed (fun h => nomatch h) rfl rfl ?_
  unfold f_countFixed at hr
  refine Ev.aloadN (d24 0 rfl) rfl ?_
  refine Ev.gAr V (ww hw 10 rfl) (d24 1 rfl) (j := 0) rfl ?_
  refine Ev.aloadN (d24 2 rfl) rfl ?_
  refine Ev.gI V (ww hw 61 rfl) (d24 3 rfl) (j := 23) rfl rfl ?_
  obtain ⟨b1, hr⟩ := grd_some hr
  refine Ev.ial V (j := 0) rfl rfl (d24 4 rfl) b1 ?_
  refine Ev.istDN (L' := [.val (.ref o), .val (.int (s.2 0 (ix (s.1 23)))), .unset]) (d24 5 rfl) rfl rfl rfl ?_
  refine Ev.aloadN (d24 6 rfl) rfl ?_
  refine Ev.gAr V (ww hw 31 rfl) (d24 7 rfl) (j := 10) rfl ?_
  refine Ev.iconst (z := 0) (d24 8 rfl) rfl ?_
  refine Ev.iconst (z := 0) (d24 9 rfl) rfl ?_
  refine Ev.ias V (j := 10) rfl rfl (d24 10 rfl) ⟨by decide, by decide⟩ ?_
  revert hr
  generalize setA s 10 (ix (0 : Int32)) (0 : Int32) = s2
  intro hr
  replace hr := (bnd_eq _ _).symm.trans hr
  refine Ev.aloadN (d24 11 rfl) rfl ?_
  refine Ev.gAr V (ww hw 31 rfl) (d24 12 rfl) (j := 10) rfl ?_
  refine Ev.iconst (z := 1) (d24 13 rfl) rfl ?_
  refine Ev.iconst (z := 1) (d24 14 rfl) rfl ?_
  refine Ev.ias V (j := 10) rfl rfl (d24 15 rfl) ⟨by decide, by decide⟩ ?_
  revert hr
  generalize setA s2 10 (ix (1 : Int32)) (1 : Int32) = s3
  intro hr
  replace hr := (bnd_eq _ _).symm.trans hr
  refine Ev.iconst (z := 2) (d24 16 rfl) rfl ?_
  refine Ev.istDN (L' := [.val (.ref o), .val (.int (s.2 0 (ix (s.1 23)))), .val (.int (2 : Int32))]) (d24 17 rfl) rfl rfl rfl ?_
  exact e_countFixed_26 hw V  n (s.2 0 (ix (s.1 23))) (2 : Int32) s3  _ hr
def f_count (n : Nat) (s : St) : Option (Int32 × St) :=
  (f_loadChoices n s).bind fun q1 =>
  (f_countFixed n q1).bind fun q3 =>
  some (q3.1, q3.2)
set_option maxRecDepth 100000 in
theorem e_count {g : GT} {n : Nat} {s : St} {w : Int32 × St} (hw : HW g) {K : St → MHeap} {o : Nat} {r : Nat → Nat} (V : View (GG g) Ln K o r) (hr : f_count n s = some w) : EvC (GG g) M_count [.ref o] (K s) ((some (.int w.1)), (K w.2)) := by
  refine EvC.enter (L0 := [.val (.ref o)]) pl_count (fun h => nomatch h) rfl rfl ?_
  unfold f_count at hr
  refine Ev.aloadN (d22 0 rfl) rfl ?_
  obtain ⟨q1, hq2, hr⟩ := Option.bind_eq_some_iff.mp hr
  refine Ev.priv (y := M_loadChoices) (args := []) (rest := []) (gok hw) rfl nm_loadChoices (ww hw 164 rfl) (ww hw 165 rfl) (ww hw 166 rfl) (ww hw 167 rfl) (lenOf pd_loadChoices rfl) (d22 1 rfl) (V.2.1 s) (e_loadChoices hw V hq2) (by decide) (Nat.le_of_ble_eq_true rfl) rfl ?_
  refine Ev.aloadN (d22 2 rfl) rfl ?_
  obtain ⟨q3, hq4, hr⟩ := Option.bind_eq_some_iff.mp hr
  refine Ev.priv (y := M_countFixed) (args := []) (rest := []) (gok hw) rfl nm_countFixed (ww hw 168 rfl) (ww hw 169 rfl) (ww hw 170 rfl) (ww hw 171 rfl) (lenOf pd_countFixed rfl) (d22 3 rfl) (V.2.1 q1) (e_countFixed hw V hq4) (by decide) (Nat.le_of_ble_eq_true rfl) rfl ?_
  cases hr
  exact Ev.ireturn rfl (d22 4 rfl)
def f_countWith (n : Nat) (a0 : Int32) (a1 : Int32) (s : St) : Option (Int32 × St) :=
  (f_validVar s a0).bind fun q1 =>
  if q1 = 0 then
    some ((-1 : Int32), s)
  else
    (f_validValue s a1).bind fun q4 =>
    if q4 = 0 then
      some ((-2 : Int32), s)
    else
      (f_loadChoices n s).bind fun q7 =>
      grd (inb a0 5) <|
      bnd (setA q7 3 (ix a0) a1) fun s10 =>
      (f_countFixed n s10).bind fun q11 =>
      some (q11.1, q11.2)
set_option maxRecDepth 100000 in
theorem e_countWith {g : GT} {n : Nat} {a0 : Int32} {a1 : Int32} {s : St} {w : Int32 × St} (hw : HW g) {K : St → MHeap} {o : Nat} {r : Nat → Nat} (V : View (GG g) Ln K o r) (hr : f_countWith n a0 a1 s = some w) : EvC (GG g) M_countWith [.ref o, .int a0, .int a1] (K s) ((some (.int w.1)), (K w.2)) := by
  refine EvC.enter (L0 := [.val (.ref o), .val (.int a0), .val (.int a1)]) pl_countWith (fun h => nomatch h) rfl rfl ?_
  unfold f_countWith at hr
  refine Ev.aloadN (d27 0 rfl) rfl ?_
  refine Ev.iloadN (d27 1 rfl) rfl ?_
  obtain ⟨q1, hq2, hr⟩ := Option.bind_eq_some_iff.mp hr
  refine Ev.priv (y := M_validVar) (args := [.int a0]) (rest := []) (gok hw) rfl nm_validVar (ww hw 74 rfl) (ww hw 75 rfl) (ww hw 76 rfl) (ww hw 77 rfl) (lenOf pd_validVar rfl) (d27 2 rfl) (V.2.1 s) (e_validVar hw V hq2) (by decide) (Nat.le_of_ble_eq_true rfl) rfl ?_
  refine Ev.ifne (t := 10) (d27 3 rfl) rfl (fun c3 => ?_) (fun c3 => ?_)
  · replace hr := (if_pos c3).symm.trans hr
    refine Ev.iconst (z := -1) (d27 4 rfl) rfl ?_
    cases hr
    exact Ev.ireturn rfl (d27 5 rfl)
  · replace hr := (if_neg c3).symm.trans hr
    refine Ev.aloadN (d27 6 rfl) rfl ?_
    refine Ev.iloadN (d27 7 rfl) rfl ?_
    obtain ⟨q4, hq5, hr⟩ := Option.bind_eq_some_iff.mp hr
    refine Ev.priv (y := M_validValue) (args := [.int a1]) (rest := []) (gok hw) rfl nm_validValue (ww hw 93 rfl) (ww hw 94 rfl) (ww hw 95 rfl) (ww hw 96 rfl) (lenOf pd_validValue rfl) (d27 8 rfl) (V.2.1 s) (e_validValue hw V hq5) (by decide) (Nat.le_of_ble_eq_true rfl) rfl ?_
    refine Ev.ifne (t := 21) (d27 9 rfl) rfl (fun c6 => ?_) (fun c6 => ?_)
    · replace hr := (if_pos c6).symm.trans hr
      refine Ev.bipush (z := -2) (d27 10 rfl) rfl ?_
      cases hr
      exact Ev.ireturn rfl (d27 11 rfl)
    · replace hr := (if_neg c6).symm.trans hr
      refine Ev.aloadN (d27 12 rfl) rfl ?_
      obtain ⟨q7, hq8, hr⟩ := Option.bind_eq_some_iff.mp hr
      refine Ev.priv (y := M_loadChoices) (args := []) (rest := []) (gok hw) rfl nm_loadChoices (ww hw 164 rfl) (ww hw 165 rfl) (ww hw 166 rfl) (ww hw 167 rfl) (lenOf pd_loadChoices rfl) (d27 13 rfl) (V.2.1 s) (e_loadChoices hw V hq8) (by decide) (Nat.le_of_ble_eq_true rfl) rfl ?_
      refine Ev.aloadN (d27 14 rfl) rfl ?_
      refine Ev.gAr V (ww hw 16 rfl) (d27 15 rfl) (j := 3) rfl ?_
      refine Ev.iloadN (d27 16 rfl) rfl ?_
      refine Ev.iloadN (d27 17 rfl) rfl ?_
      obtain ⟨b9, hr⟩ := grd_some hr
      refine Ev.ias V (j := 3) rfl rfl (d27 18 rfl) b9 ?_
      revert hr
      generalize setA q7 3 (ix a0) a1 = s10
      intro hr
      replace hr := (bnd_eq _ _).symm.trans hr
      refine Ev.aloadN (d27 19 rfl) rfl ?_
      obtain ⟨q11, hq12, hr⟩ := Option.bind_eq_some_iff.mp hr
      refine Ev.priv (y := M_countFixed) (args := []) (rest := []) (gok hw) rfl nm_countFixed (ww hw 168 rfl) (ww hw 169 rfl) (ww hw 170 rfl) (ww hw 171 rfl) (lenOf pd_countFixed rfl) (d27 20 rfl) (V.2.1 s10) (e_countFixed hw V hq12) (by decide) (Nat.le_of_ble_eq_true rfl) rfl ?_
      cases hr
      exact Ev.ireturn rfl (d27 21 rfl)
def f_offeredMask_14 (n : Nat) : Nat → Int32 → Int32 → Int32 → St → Option (Int32 × St)
  | 0 => fun _ _ _ _ => none
  | k + 1 => fun x1 x2 x3 s =>
    if x3 < (s.1 21) then
      (f_countWith n x1 x3 s).bind fun q2 =>
      if 0 < q2.1 then
        f_offeredMask_14 n k x1 (x2 ||| ((1 : Int32) <<< (x3 &&& 31))) (x3 + (1 : Int32)) q2.2
      else
        f_offeredMask_14 n k x1 x2 (x3 + (1 : Int32)) q2.2
    else
      some (x2, s)
set_option maxRecDepth 100000 in
theorem e_offeredMask_14 {g : GT} {n : Nat} (hw : HW g) {K : St → MHeap} {o : Nat} {r : Nat → Nat} (V : View (GG g) Ln K o r) (k : Nat) : ∀ (x1 : Int32) (x2 : Int32) (x3 : Int32) (s : St) (w : Int32 × St), f_offeredMask_14 n k x1 x2 x3 s = some w → Ev (GG g) M_offeredMask 14 [.val (.ref o), .val (.int x1), .val (.int x2), .val (.int x3)] [] (K s) ((some (.int w.1)), (K w.2)) := by
  induction k with
  | zero => intro x1 x2 x3 s w hr; rw [f_offeredMask_14] at hr; cases hr
  | succ k ih =>
    intro x1 x2 x3 s w hr
    rw [f_offeredMask_14] at hr
    refine Ev.iloadN (d26 10 rfl) rfl ?_
    refine Ev.aloadN (d26 11 rfl) rfl ?_
    refine Ev.gI V (ww hw 53 rfl) (d26 12 rfl) (j := 21) rfl rfl ?_
    refine Ev.icge (t := 43) (d26 13 rfl) rfl (fun c1 => ?_) (fun c1 => ?_)
    · replace hr := (if_pos c1).symm.trans hr
      refine Ev.aloadN (d26 14 rfl) rfl ?_
      refine Ev.iloadN (d26 15 rfl) rfl ?_
      refine Ev.iloadN (d26 16 rfl) rfl ?_
      obtain ⟨q2, hq3, hr⟩ := Option.bind_eq_some_iff.mp hr
      refine Ev.virt (y := M_countWith) (args := [.int x1, .int x3]) (rest := []) (gok hw) rfl nm_countWith (ww hw 181 rfl) (ww hw 182 rfl) (ww hw 183 rfl) (ww hw 184 rfl) (ww hw 185 rfl) (lenOf pd_countWith rfl) (d26 17 rfl) (V.2.1 s) (e_countWith hw V hq3) (by decide) (Nat.le_of_ble_eq_true rfl) rfl ?_
      refine Ev.ifle (t := 37) (d26 18 rfl) rfl (fun c4 => ?_) (fun c4 => ?_)
      · replace hr := (if_pos c4).symm.trans hr
        refine Ev.iloadN (d26 19 rfl) rfl ?_
        refine Ev.iconst (z := 1) (d26 20 rfl) rfl ?_
        refine Ev.iloadN (d26 21 rfl) rfl ?_
        refine Ev.ishl (d26 22 rfl) ?_
        refine Ev.ior (d26 23 rfl) ?_
        refine Ev.istDN (L' := [.val (.ref o), .val (.int x1), .val (.int (x2 ||| ((1 : Int32) <<< (x3 &&& 31)))), .val (.int x3)]) (d26 24 rfl) rfl rfl rfl ?_
        refine Ev.iinc (z := 1) (L' := [.val (.ref o), .val (.int x1), .val (.int (x2 ||| ((1 : Int32) <<< (x3 &&& 31)))), .val (.int (x3 + (1 : Int32)))]) (d26 25 rfl) rfl rfl rfl ?_
        refine Ev.goto (t := 14) (d26 26 rfl) rfl ?_
        exact ih x1 (x2 ||| ((1 : Int32) <<< (x3 &&& 31))) (x3 + (1 : Int32)) q2.2  _ hr
      · replace hr := (if_neg c4).symm.trans hr
        refine Ev.iinc (z := 1) (L' := [.val (.ref o), .val (.int x1), .val (.int x2), .val (.int (x3 + (1 : Int32)))]) (d26 25 rfl) rfl rfl rfl ?_
        refine Ev.goto (t := 14) (d26 26 rfl) rfl ?_
        exact ih x1 x2 (x3 + (1 : Int32)) q2.2  _ hr
    · replace hr := (if_neg c1).symm.trans hr
      refine Ev.iloadN (d26 27 rfl) rfl ?_
      cases hr
      exact Ev.ireturn rfl (d26 28 rfl)
def f_offeredMask (n : Nat) (a0 : Int32) (s : St) : Option (Int32 × St) :=
  (f_validVar s a0).bind fun q1 =>
  if q1 = 0 then
    some ((-1 : Int32), s)
  else
    f_offeredMask_14 n n a0 (0 : Int32) (0 : Int32) s
set_option maxRecDepth 100000 in
theorem e_offeredMask {g : GT} {n : Nat} {a0 : Int32} {s : St} {w : Int32 × St} (hw : HW g) {K : St → MHeap} {o : Nat} {r : Nat → Nat} (V : View (GG g) Ln K o r) (hr : f_offeredMask n a0 s = some w) : EvC (GG g) M_offeredMask [.ref o, .int a0] (K s) ((some (.int w.1)), (K w.2)) := by
  refine EvC.enter (L0 := [.val (.ref o), .val (.int a0), .unset, .unset]) pl_offeredMask (fun h => nomatch h) rfl rfl ?_
  unfold f_offeredMask at hr
  refine Ev.aloadN (d26 0 rfl) rfl ?_
  refine Ev.iloadN (d26 1 rfl) rfl ?_
  obtain ⟨q1, hq2, hr⟩ := Option.bind_eq_some_iff.mp hr
  refine Ev.priv (y := M_validVar) (args := [.int a0]) (rest := []) (gok hw) rfl nm_validVar (ww hw 74 rfl) (ww hw 75 rfl) (ww hw 76 rfl) (ww hw 77 rfl) (lenOf pd_validVar rfl) (d26 2 rfl) (V.2.1 s) (e_validVar hw V hq2) (by decide) (Nat.le_of_ble_eq_true rfl) rfl ?_
  refine Ev.ifne (t := 10) (d26 3 rfl) rfl (fun c3 => ?_) (fun c3 => ?_)
  · replace hr := (if_pos c3).symm.trans hr
    refine Ev.iconst (z := -1) (d26 4 rfl) rfl ?_
    cases hr
    exact Ev.ireturn rfl (d26 5 rfl)
  · replace hr := (if_neg c3).symm.trans hr
    refine Ev.iconst (z := 0) (d26 6 rfl) rfl ?_
    refine Ev.istDN (L' := [.val (.ref o), .val (.int a0), .val (.int (0 : Int32)), .unset]) (d26 7 rfl) rfl rfl rfl ?_
    refine Ev.iconst (z := 0) (d26 8 rfl) rfl ?_
    refine Ev.istDN (L' := [.val (.ref o), .val (.int a0), .val (.int (0 : Int32)), .val (.int (0 : Int32))]) (d26 9 rfl) rfl rfl rfl ?_
    exact e_offeredMask_14 hw V  n a0 (0 : Int32) (0 : Int32) s  _ hr
def f_tableCount (s : St) : Option (Int32) :=
  some (s.1 23)
set_option maxRecDepth 100000 in
theorem e_tableCount {g : GT} {s : St} {w : Int32} (hw : HW g) {K : St → MHeap} {o : Nat} {r : Nat → Nat} (V : View (GG g) Ln K o r) (hr : f_tableCount s = some w) : EvC (GG g) M_tableCount [.ref o] (K s) ((some (.int w)), (K s)) := by
  refine EvC.enter (L0 := [.val (.ref o)]) pl_tableCount (fun h => nomatch h) rfl rfl ?_
  unfold f_tableCount at hr
  refine Ev.aloadN (d28 0 rfl) rfl ?_
  refine Ev.gI V (ww hw 61 rfl) (d28 1 rfl) (j := 23) rfl rfl ?_
  cases hr
  exact Ev.ireturn rfl (d28 2 rfl)
def f_choose (n : Nat) (a0 : Int32) (a1 : Int32) (s : St) : Option (Int32 × St) :=
  (f_validVar s a0).bind fun q1 =>
  if q1 = 0 then
    some ((-1 : Int32), s)
  else
    (f_validValue s a1).bind fun q4 =>
    if q4 = 0 then
      some ((-2 : Int32), s)
    else
      grd (inb a0 5) <|
      if (s.2 2 (ix a0)) < 0 then
        (f_countWith n a0 a1 s).bind fun q9 =>
        if q9.1 = 0 then
          some ((-7 : Int32), q9.2)
        else
          bnd (setA q9.2 2 (ix a0) a1) fun s12 =>
          some ((0 : Int32), s12)
      else
        some ((-8 : Int32), s)
set_option maxRecDepth 100000 in
theorem e_choose {g : GT} {n : Nat} {a0 : Int32} {a1 : Int32} {s : St} {w : Int32 × St} (hw : HW g) {K : St → MHeap} {o : Nat} {r : Nat → Nat} (V : View (GG g) Ln K o r) (hr : f_choose n a0 a1 s = some w) : EvC (GG g) M_choose [.ref o, .int a0, .int a1] (K s) ((some (.int w.1)), (K w.2)) := by
  refine EvC.enter (L0 := [.val (.ref o), .val (.int a0), .val (.int a1)]) pl_choose (fun h => nomatch h) rfl rfl ?_
  unfold f_choose at hr
  refine Ev.aloadN (d29 0 rfl) rfl ?_
  refine Ev.iloadN (d29 1 rfl) rfl ?_
  obtain ⟨q1, hq2, hr⟩ := Option.bind_eq_some_iff.mp hr
  refine Ev.priv (y := M_validVar) (args := [.int a0]) (rest := []) (gok hw) rfl nm_validVar (ww hw 74 rfl) (ww hw 75 rfl) (ww hw 76 rfl) (ww hw 77 rfl) (lenOf pd_validVar rfl) (d29 2 rfl) (V.2.1 s) (e_validVar hw V hq2) (by decide) (Nat.le_of_ble_eq_true rfl) rfl ?_
  refine Ev.ifne (t := 10) (d29 3 rfl) rfl (fun c3 => ?_) (fun c3 => ?_)
  · replace hr := (if_pos c3).symm.trans hr
    refine Ev.iconst (z := -1) (d29 4 rfl) rfl ?_
    cases hr
    exact Ev.ireturn rfl (d29 5 rfl)
  · replace hr := (if_neg c3).symm.trans hr
    refine Ev.aloadN (d29 6 rfl) rfl ?_
    refine Ev.iloadN (d29 7 rfl) rfl ?_
    obtain ⟨q4, hq5, hr⟩ := Option.bind_eq_some_iff.mp hr
    refine Ev.priv (y := M_validValue) (args := [.int a1]) (rest := []) (gok hw) rfl nm_validValue (ww hw 93 rfl) (ww hw 94 rfl) (ww hw 95 rfl) (ww hw 96 rfl) (lenOf pd_validValue rfl) (d29 8 rfl) (V.2.1 s) (e_validValue hw V hq5) (by decide) (Nat.le_of_ble_eq_true rfl) rfl ?_
    refine Ev.ifne (t := 21) (d29 9 rfl) rfl (fun c6 => ?_) (fun c6 => ?_)
    · replace hr := (if_pos c6).symm.trans hr
      refine Ev.bipush (z := -2) (d29 10 rfl) rfl ?_
      cases hr
      exact Ev.ireturn rfl (d29 11 rfl)
    · replace hr := (if_neg c6).symm.trans hr
      refine Ev.aloadN (d29 12 rfl) rfl ?_
      refine Ev.gAr V (ww hw 14 rfl) (d29 13 rfl) (j := 2) rfl ?_
      refine Ev.iloadN (d29 14 rfl) rfl ?_
      obtain ⟨b7, hr⟩ := grd_some hr
      refine Ev.ial V (j := 2) rfl rfl (d29 15 rfl) b7 ?_
      refine Ev.iflt (t := 33) (d29 16 rfl) rfl (fun c8 => ?_) (fun c8 => ?_)
      · replace hr := (if_pos c8).symm.trans hr
        refine Ev.aloadN (d29 19 rfl) rfl ?_
        refine Ev.iloadN (d29 20 rfl) rfl ?_
        refine Ev.iloadN (d29 21 rfl) rfl ?_
        obtain ⟨q9, hq10, hr⟩ := Option.bind_eq_some_iff.mp hr
        refine Ev.virt (y := M_countWith) (args := [.int a0, .int a1]) (rest := []) (gok hw) rfl nm_countWith (ww hw 181 rfl) (ww hw 182 rfl) (ww hw 183 rfl) (ww hw 184 rfl) (ww hw 185 rfl) (lenOf pd_countWith rfl) (d29 22 rfl) (V.2.1 s) (e_countWith hw V hq10) (by decide) (Nat.le_of_ble_eq_true rfl) rfl ?_
        refine Ev.ifne (t := 45) (d29 23 rfl) rfl (fun c11 => ?_) (fun c11 => ?_)
        · replace hr := (if_pos c11).symm.trans hr
          refine Ev.bipush (z := -7) (d29 24 rfl) rfl ?_
          cases hr
          exact Ev.ireturn rfl (d29 25 rfl)
        · replace hr := (if_neg c11).symm.trans hr
          refine Ev.aloadN (d29 26 rfl) rfl ?_
          refine Ev.gAr V (ww hw 14 rfl) (d29 27 rfl) (j := 2) rfl ?_
          refine Ev.iloadN (d29 28 rfl) rfl ?_
          refine Ev.iloadN (d29 29 rfl) rfl ?_
          refine Ev.ias V (j := 2) rfl rfl (d29 30 rfl) b7 ?_
          revert hr
          generalize setA q9.2 2 (ix a0) a1 = s12
          intro hr
          replace hr := (bnd_eq _ _).symm.trans hr
          refine Ev.iconst (z := 0) (d29 31 rfl) rfl ?_
          cases hr
          exact Ev.ireturn rfl (d29 32 rfl)
      · replace hr := (if_neg c8).symm.trans hr
        refine Ev.bipush (z := -8) (d29 17 rfl) rfl ?_
        cases hr
        exact Ev.ireturn rfl (d29 18 rfl)
def f_dropLastTable (s : St) : Option (Int32 × St) :=
  if 0 < (s.1 23) then
    bnd (setI s 23 ((s.1 23) - (1 : Int32))) fun s2 =>
    some ((0 : Int32), s2)
  else
    some ((-10 : Int32), s)
set_option maxRecDepth 100000 in
theorem e_dropLastTable {g : GT} {s : St} {w : Int32 × St} (hw : HW g) {K : St → MHeap} {o : Nat} {r : Nat → Nat} (V : View (GG g) Ln K o r) (hr : f_dropLastTable s = some w) : EvC (GG g) M_dropLastTable [.ref o] (K s) ((some (.int w.1)), (K w.2)) := by
  refine EvC.enter (L0 := [.val (.ref o)]) pl_dropLastTable (fun h => nomatch h) rfl rfl ?_
  unfold f_dropLastTable at hr
  refine Ev.aloadN (d30 0 rfl) rfl ?_
  refine Ev.gI V (ww hw 61 rfl) (d30 1 rfl) (j := 23) rfl rfl ?_
  refine Ev.ifgt (t := 10) (d30 2 rfl) rfl (fun c1 => ?_) (fun c1 => ?_)
  · replace hr := (if_pos c1).symm.trans hr
    refine Ev.aloadN (d30 5 rfl) rfl ?_
    refine Ev.dup (d30 6 rfl) rfl ?_
    refine Ev.gI V (ww hw 61 rfl) (d30 7 rfl) (j := 23) rfl rfl ?_
    refine Ev.iconst (z := 1) (d30 8 rfl) rfl ?_
    refine Ev.isub (d30 9 rfl) ?_
    refine Ev.pI V (gok hw) (ww hw 61 rfl) (Or.inl (ww hw 62 rfl)) (d30 10 rfl) (j := 23) rfl ?_
    revert hr
    generalize setI s 23 ((s.1 23) - (1 : Int32)) = s2
    intro hr
    replace hr := (bnd_eq _ _).symm.trans hr
    refine Ev.iconst (z := 0) (d30 11 rfl) rfl ?_
    cases hr
    exact Ev.ireturn rfl (d30 12 rfl)
  · replace hr := (if_neg c1).symm.trans hr
    refine Ev.bipush (z := -10) (d30 3 rfl) rfl ?_
    cases hr
    exact Ev.ireturn rfl (d30 4 rfl)
def f_law_356 (n : Nat) (x0 : Int32) (x1 : Int32) (x2 : Int32) (x3 : Int32) (x4 : Int32) (x5 : Int32) (x14 : Int32) (x15 : Int32) (x16 : Int32) (x17 : Int32) (x19 : Int32) (x20 : Int32) (x21 : Int32) (x22 : Int32) (z0 : Int32) (z1 : Int32) (s : St) : Option (Int32 × St) :=
  (f_beginTable (0 : Int32) (1 : Int32) (-1 : Int32) s).bind fun q1 =>
  (f_addTuple n x0 x1 x5 q1.2).bind fun q3 =>
  (f_addTuple n x2 x3 x4 q3.2).bind fun q5 =>
  (f_commitTable n q5.2).bind fun q7 =>
  (f_beginTable (1 : Int32) (2 : Int32) (-1 : Int32) q7.2).bind fun q9 =>
  (f_addTuple n x4 x5 x0 q9.2).bind fun q11 =>
  (f_commitTable n q11.2).bind fun q13 =>
  (f_count n q13.2).bind fun q15 =>
  (f_offeredMask n (0 : Int32) q15.2).bind fun q17 =>
  (f_offeredMask n (1 : Int32) q17.2).bind fun q19 =>
  (f_offeredMask n (2 : Int32) q19.2).bind fun q21 =>
  (f_tableCount q21.2).bind fun q23 =>
  (f_choose n (2 : Int32) x5 q21.2).bind fun q25 =>
  (f_dropLastTable q25.2).bind fun q27 =>
  (f_count n q27.2).bind fun q29 =>
  if q1.1 = 0 then
    if q3.1 = x19 then
      if q5.1 = x20 then
        if q7.1 = 0 then
          if q9.1 = 0 then
            if q11.1 = x21 then
              if q13.1 = 0 then
                if q15.1 = x14 then
                  if q17.1 = x15 then
                    if q19.1 = x16 then
                      if q21.1 = x17 then
                        if q23 = (2 : Int32) then
                          if q25.1 = x22 then
                            if q27.1 = 0 then
                              if q29.1 = (z1 * z0) then
                                some ((1 : Int32), q29.2)
                              else
                                some ((0 : Int32), q29.2)
                            else
                              some ((0 : Int32), q29.2)
                          else
                            some ((0 : Int32), q29.2)
                        else
                          some ((0 : Int32), q29.2)
                      else
                        some ((0 : Int32), q29.2)
                    else
                      some ((0 : Int32), q29.2)
                  else
                    some ((0 : Int32), q29.2)
                else
                  some ((0 : Int32), q29.2)
              else
                some ((0 : Int32), q29.2)
            else
              some ((0 : Int32), q29.2)
          else
            some ((0 : Int32), q29.2)
        else
          some ((0 : Int32), q29.2)
      else
        some ((0 : Int32), q29.2)
    else
      some ((0 : Int32), q29.2)
  else
    some ((0 : Int32), q29.2)
set_option maxRecDepth 100000 in
theorem e_law_356 {g : GT} {n : Nat} (hw : HW g) {K : St → MHeap} {o : Nat} {r : Nat → Nat} (V : View (GG g) Ln K o r) (x0 : Int32) (x1 : Int32) (x2 : Int32) (x3 : Int32) (x4 : Int32) (x5 : Int32) (x14 : Int32) (x15 : Int32) (x16 : Int32) (x17 : Int32) (x19 : Int32) (x20 : Int32) (x21 : Int32) (x22 : Int32) (z0 : Int32) (z1 : Int32) (s : St) (y7 : Slot) (hy7 : one1 y7 = true) (y8 : Slot) (hy8 : one1 y8 = true) (y9 : Slot) (hy9 : one1 y9 = true) (y10 : Slot) (hy10 : one1 y10 = true) (y11 : Slot) (hy11 : one1 y11 = true) (y12 : Slot) (hy12 : one1 y12 = true) (y13 : Slot) (hy13 : one1 y13 = true) (y18 : Slot) (hy18 : one1 y18 = true) (y23 : Slot) (hy23 : one1 y23 = true) (y24 : Slot) (hy24 : one1 y24 = true) (y25 : Slot) (hy25 : one1 y25 = true) (y26 : Slot) (hy26 : one1 y26 = true) (y27 : Slot) (hy27 : one1 y27 = true) (y28 : Slot) (hy28 : one1 y28 = true) (y29 : Slot) (hy29 : one1 y29 = true) (y30 : Slot) (hy30 : one1 y30 = true) (y31 : Slot) (hy31 : one1 y31 = true) (y32 : Slot) (hy32 : one1 y32 = true) (y33 : Slot) (hy33 : one1 y33 = true) (y34 : Slot) (hy34 : one1 y34 = true) (y35 : Slot) (hy35 : one1 y35 = true) (y36 : Slot) (hy36 : one1 y36 = true) (y37 : Slot) (hy37 : one1 y37 = true) (y38 : Slot) (hy38 : one1 y38 = true) (w : Int32 × St) (hr : f_law_356 n x0 x1 x2 x3 x4 x5 x14 x15 x16 x17 x19 x20 x21 x22 z0 z1 s = some w) : Ev (GG g) M_law 356 [.val (.int x0), .val (.int x1), .val (.int x2), .val (.int x3), .val (.int x4), .val (.int x5), .val (.ref o), y7, y8, y9, y10, y11, y12, y13, .val (.int x14), .val (.int x15), .val (.int x16), .val (.int x17), y18, .val (.int x19), .val (.int x20), .val (.int x21), .val (.int x22), y23, y24, y25, y26, y27, y28, y29, y30, y31, y32, y33, y34, y35, y36, y37, y38] [.int z0, .int z1] (K s) ((some (.int w.1)), (K w.2)) := by
  unfold f_law_356 at hr
  refine Ev.imul at_356 ?_
  refine Ev.istD (L' := [.val (.int x0), .val (.int x1), .val (.int x2), .val (.int x3), .val (.int x4), .val (.int x5), .val (.ref o), y7, y8, y9, y10, y11, y12, y13, .val (.int x14), .val (.int x15), .val (.int x16), .val (.int x17), y18, .val (.int x19), .val (.int x20), .val (.int x21), .val (.int x22), .val (.int (z1 * z0)), y24, y25, y26, y27, y28, y29, y30, y31, y32, y33, y34, y35, y36, y37, y38]) at_357 rfl hy23 rfl ?_
  refine Ev.aload at_359 rfl ?_
  refine Ev.iconst (z := 0) at_361 rfl ?_
  refine Ev.iconst (z := 1) at_362 rfl ?_
  refine Ev.iconst (z := -1) at_363 rfl ?_
  obtain ⟨q1, hq2, hr⟩ := Option.bind_eq_some_iff.mp hr
  refine Ev.virt (y := M_beginTable) (args := [.int (0 : Int32), .int (1 : Int32), .int (-1 : Int32)]) (rest := []) (gok hw) rfl nm_beginTable (ww hw 69 rfl) (ww hw 70 rfl) (ww hw 71 rfl) (ww hw 72 rfl) (ww hw 73 rfl) (lenOf pd_beginTable rfl) at_364 (V.2.1 s) (e_beginTable hw V hq2) (by decide) (Nat.le_of_ble_eq_true rfl) rfl ?_
  refine Ev.istD (L' := [.val (.int x0), .val (.int x1), .val (.int x2), .val (.int x3), .val (.int x4), .val (.int x5), .val (.ref o), y7, y8, y9, y10, y11, y12, y13, .val (.int x14), .val (.int x15), .val (.int x16), .val (.int x17), y18, .val (.int x19), .val (.int x20), .val (.int x21), .val (.int x22), .val (.int (z1 * z0)), .val (.int q1.1), y25, y26, y27, y28, y29, y30, y31, y32, y33, y34, y35, y36, y37, y38]) at_367 rfl hy24 rfl ?_
  refine Ev.aload at_369 rfl ?_
  refine Ev.iloadN at_371 rfl ?_
  refine Ev.iloadN at_372 rfl ?_
  refine Ev.iload at_373 rfl ?_
  obtain ⟨q3, hq4, hr⟩ := Option.bind_eq_some_iff.mp hr
  refine Ev.virt (y := M_addTuple) (args := [.int x0, .int x1, .int x5]) (rest := []) (gok hw) rfl nm_addTuple (ww hw 88 rfl) (ww hw 89 rfl) (ww hw 90 rfl) (ww hw 91 rfl) (ww hw 92 rfl) (lenOf pd_addTuple rfl) at_375 (V.2.1 q1.2) (e_addTuple hw V hq4) (by decide) (Nat.le_of_ble_eq_true rfl) rfl ?_
  refine Ev.istD (L' := [.val (.int x0), .val (.int x1), .val (.int x2), .val (.int x3), .val (.int x4), .val (.int x5), .val (.ref o), y7, y8, y9, y10, y11, y12, y13, .val (.int x14), .val (.int x15), .val (.int x16), .val (.int x17), y18, .val (.int x19), .val (.int x20), .val (.int x21), .val (.int x22), .val (.int (z1 * z0)), .val (.int q1.1), .val (.int q3.1), y26, y27, y28, y29, y30, y31, y32, y33, y34, y35, y36, y37, y38]) at_378 rfl hy25 rfl ?_
  refine Ev.aload at_380 rfl ?_
  refine Ev.iloadN at_382 rfl ?_
  refine Ev.iloadN at_383 rfl ?_
  refine Ev.iload at_384 rfl ?_
  obtain ⟨q5, hq6, hr⟩ := Option.bind_eq_some_iff.mp hr
  refine Ev.virt (y := M_addTuple) (args := [.int x2, .int x3, .int x4]) (rest := []) (gok hw) rfl nm_addTuple (ww hw 88 rfl) (ww hw 89 rfl) (ww hw 90 rfl) (ww hw 91 rfl) (ww hw 92 rfl) (lenOf pd_addTuple rfl) at_386 (V.2.1 q3.2) (e_addTuple hw V hq6) (by decide) (Nat.le_of_ble_eq_true rfl) rfl ?_
  refine Ev.istD (L' := [.val (.int x0), .val (.int x1), .val (.int x2), .val (.int x3), .val (.int x4), .val (.int x5), .val (.ref o), y7, y8, y9, y10, y11, y12, y13, .val (.int x14), .val (.int x15), .val (.int x16), .val (.int x17), y18, .val (.int x19), .val (.int x20), .val (.int x21), .val (.int x22), .val (.int (z1 * z0)), .val (.int q1.1), .val (.int q3.1), .val (.int q5.1), y27, y28, y29, y30, y31, y32, y33, y34, y35, y36, y37, y38]) at_389 rfl hy26 rfl ?_
  refine Ev.aload at_391 rfl ?_
  obtain ⟨q7, hq8, hr⟩ := Option.bind_eq_some_iff.mp hr
  refine Ev.virt (y := M_commitTable) (args := []) (rest := []) (gok hw) rfl nm_commitTable (ww hw 97 rfl) (ww hw 98 rfl) (ww hw 99 rfl) (ww hw 100 rfl) (ww hw 101 rfl) (lenOf pd_commitTable rfl) at_393 (V.2.1 q5.2) (e_commitTable hw V hq8) (by decide) (Nat.le_of_ble_eq_true rfl) rfl ?_
  refine Ev.istD (L' := [.val (.int x0), .val (.int x1), .val (.int x2), .val (.int x3), .val (.int x4), .val (.int x5), .val (.ref o), y7, y8, y9, y10, y11, y12, y13, .val (.int x14), .val (.int x15), .val (.int x16), .val (.int x17), y18, .val (.int x19), .val (.int x20), .val (.int x21), .val (.int x22), .val (.int (z1 * z0)), .val (.int q1.1), .val (.int q3.1), .val (.int q5.1), .val (.int q7.1), y28, y29, y30, y31, y32, y33, y34, y35, y36, y37, y38]) at_396 rfl hy27 rfl ?_
  refine Ev.aload at_398 rfl ?_
  refine Ev.iconst (z := 1) at_400 rfl ?_
  refine Ev.iconst (z := 2) at_401 rfl ?_
  refine Ev.iconst (z := -1) at_402 rfl ?_
  obtain ⟨q9, hq10, hr⟩ := Option.bind_eq_some_iff.mp hr
  refine Ev.virt (y := M_beginTable) (args := [.int (1 : Int32), .int (2 : Int32), .int (-1 : Int32)]) (rest := []) (gok hw) rfl nm_beginTable (ww hw 69 rfl) (ww hw 70 rfl) (ww hw 71 rfl) (ww hw 72 rfl) (ww hw 73 rfl) (lenOf pd_beginTable rfl) at_403 (V.2.1 q7.2) (e_beginTable hw V hq10) (by decide) (Nat.le_of_ble_eq_true rfl) rfl ?_
  refine Ev.istD (L' := [.val (.int x0), .val (.int x1), .val (.int x2), .val (.int x3), .val (.int x4), .val (.int x5), .val (.ref o), y7, y8, y9, y10, y11, y12, y13, .val (.int x14), .val (.int x15), .val (.int x16), .val (.int x17), y18, .val (.int x19), .val (.int x20), .val (.int x21), .val (.int x22), .val (.int (z1 * z0)), .val (.int q1.1), .val (.int q3.1), .val (.int q5.1), .val (.int q7.1), .val (.int q9.1), y29, y30, y31, y32, y33, y34, y35, y36, y37, y38]) at_406 rfl hy28 rfl ?_
  refine Ev.aload at_408 rfl ?_
  refine Ev.iload at_410 rfl ?_
  refine Ev.iload at_412 rfl ?_
  refine Ev.iloadN at_414 rfl ?_
  obtain ⟨q11, hq12, hr⟩ := Option.bind_eq_some_iff.mp hr
  refine Ev.virt (y := M_addTuple) (args := [.int x4, .int x5, .int x0]) (rest := []) (gok hw) rfl nm_addTuple (ww hw 88 rfl) (ww hw 89 rfl) (ww hw 90 rfl) (ww hw 91 rfl) (ww hw 92 rfl) (lenOf pd_addTuple rfl) at_415 (V.2.1 q9.2) (e_addTuple hw V hq12) (by decide) (Nat.le_of_ble_eq_true rfl) rfl ?_
  refine Ev.istD (L' := [.val (.int x0), .val (.int x1), .val (.int x2), .val (.int x3), .val (.int x4), .val (.int x5), .val (.ref o), y7, y8, y9, y10, y11, y12, y13, .val (.int x14), .val (.int x15), .val (.int x16), .val (.int x17), y18, .val (.int x19), .val (.int x20), .val (.int x21), .val (.int x22), .val (.int (z1 * z0)), .val (.int q1.1), .val (.int q3.1), .val (.int q5.1), .val (.int q7.1), .val (.int q9.1), .val (.int q11.1), y30, y31, y32, y33, y34, y35, y36, y37, y38]) at_418 rfl hy29 rfl ?_
  refine Ev.aload at_420 rfl ?_
  obtain ⟨q13, hq14, hr⟩ := Option.bind_eq_some_iff.mp hr
  refine Ev.virt (y := M_commitTable) (args := []) (rest := []) (gok hw) rfl nm_commitTable (ww hw 97 rfl) (ww hw 98 rfl) (ww hw 99 rfl) (ww hw 100 rfl) (ww hw 101 rfl) (lenOf pd_commitTable rfl) at_422 (V.2.1 q11.2) (e_commitTable hw V hq14) (by decide) (Nat.le_of_ble_eq_true rfl) rfl ?_
  refine Ev.istD (L' := [.val (.int x0), .val (.int x1), .val (.int x2), .val (.int x3), .val (.int x4), .val (.int x5), .val (.ref o), y7, y8, y9, y10, y11, y12, y13, .val (.int x14), .val (.int x15), .val (.int x16), .val (.int x17), y18, .val (.int x19), .val (.int x20), .val (.int x21), .val (.int x22), .val (.int (z1 * z0)), .val (.int q1.1), .val (.int q3.1), .val (.int q5.1), .val (.int q7.1), .val (.int q9.1), .val (.int q11.1), .val (.int q13.1), y31, y32, y33, y34, y35, y36, y37, y38]) at_425 rfl hy30 rfl ?_
  refine Ev.aload at_427 rfl ?_
  obtain ⟨q15, hq16, hr⟩ := Option.bind_eq_some_iff.mp hr
  refine Ev.virt (y := M_count) (args := []) (rest := []) (gok hw) rfl nm_count (ww hw 159 rfl) (ww hw 160 rfl) (ww hw 161 rfl) (ww hw 162 rfl) (ww hw 163 rfl) (lenOf pd_count rfl) at_429 (V.2.1 q13.2) (e_count hw V hq16) (by decide) (Nat.le_of_ble_eq_true rfl) rfl ?_
  refine Ev.istD (L' := [.val (.int x0), .val (.int x1), .val (.int x2), .val (.int x3), .val (.int x4), .val (.int x5), .val (.ref o), y7, y8, y9, y10, y11, y12, y13, .val (.int x14), .val (.int x15), .val (.int x16), .val (.int x17), y18, .val (.int x19), .val (.int x20), .val (.int x21), .val (.int x22), .val (.int (z1 * z0)), .val (.int q1.1), .val (.int q3.1), .val (.int q5.1), .val (.int q7.1), .val (.int q9.1), .val (.int q11.1), .val (.int q13.1), .val (.int q15.1), y32, y33, y34, y35, y36, y37, y38]) at_432 rfl hy31 rfl ?_
  refine Ev.aload at_434 rfl ?_
  refine Ev.iconst (z := 0) at_436 rfl ?_
  obtain ⟨q17, hq18, hr⟩ := Option.bind_eq_some_iff.mp hr
  refine Ev.virt (y := M_offeredMask) (args := [.int (0 : Int32)]) (rest := []) (gok hw) rfl nm_offeredMask (ww hw 176 rfl) (ww hw 177 rfl) (ww hw 178 rfl) (ww hw 179 rfl) (ww hw 180 rfl) (lenOf pd_offeredMask rfl) at_437 (V.2.1 q15.2) (e_offeredMask hw V hq18) (by decide) (Nat.le_of_ble_eq_true rfl) rfl ?_
  refine Ev.istD (L' := [.val (.int x0), .val (.int x1), .val (.int x2), .val (.int x3), .val (.int x4), .val (.int x5), .val (.ref o), y7, y8, y9, y10, y11, y12, y13, .val (.int x14), .val (.int x15), .val (.int x16), .val (.int x17), y18, .val (.int x19), .val (.int x20), .val (.int x21), .val (.int x22), .val (.int (z1 * z0)), .val (.int q1.1), .val (.int q3.1), .val (.int q5.1), .val (.int q7.1), .val (.int q9.1), .val (.int q11.1), .val (.int q13.1), .val (.int q15.1), .val (.int q17.1), y33, y34, y35, y36, y37, y38]) at_440 rfl hy32 rfl ?_
  refine Ev.aload at_442 rfl ?_
  refine Ev.iconst (z := 1) at_444 rfl ?_
  obtain ⟨q19, hq20, hr⟩ := Option.bind_eq_some_iff.mp hr
  refine Ev.virt (y := M_offeredMask) (args := [.int (1 : Int32)]) (rest := []) (gok hw) rfl nm_offeredMask (ww hw 176 rfl) (ww hw 177 rfl) (ww hw 178 rfl) (ww hw 179 rfl) (ww hw 180 rfl) (lenOf pd_offeredMask rfl) at_445 (V.2.1 q17.2) (e_offeredMask hw V hq20) (by decide) (Nat.le_of_ble_eq_true rfl) rfl ?_
  refine Ev.istD (L' := [.val (.int x0), .val (.int x1), .val (.int x2), .val (.int x3), .val (.int x4), .val (.int x5), .val (.ref o), y7, y8, y9, y10, y11, y12, y13, .val (.int x14), .val (.int x15), .val (.int x16), .val (.int x17), y18, .val (.int x19), .val (.int x20), .val (.int x21), .val (.int x22), .val (.int (z1 * z0)), .val (.int q1.1), .val (.int q3.1), .val (.int q5.1), .val (.int q7.1), .val (.int q9.1), .val (.int q11.1), .val (.int q13.1), .val (.int q15.1), .val (.int q17.1), .val (.int q19.1), y34, y35, y36, y37, y38]) at_448 rfl hy33 rfl ?_
  refine Ev.aload at_450 rfl ?_
  refine Ev.iconst (z := 2) at_452 rfl ?_
  obtain ⟨q21, hq22, hr⟩ := Option.bind_eq_some_iff.mp hr
  refine Ev.virt (y := M_offeredMask) (args := [.int (2 : Int32)]) (rest := []) (gok hw) rfl nm_offeredMask (ww hw 176 rfl) (ww hw 177 rfl) (ww hw 178 rfl) (ww hw 179 rfl) (ww hw 180 rfl) (lenOf pd_offeredMask rfl) at_453 (V.2.1 q19.2) (e_offeredMask hw V hq22) (by decide) (Nat.le_of_ble_eq_true rfl) rfl ?_
  refine Ev.istD (L' := [.val (.int x0), .val (.int x1), .val (.int x2), .val (.int x3), .val (.int x4), .val (.int x5), .val (.ref o), y7, y8, y9, y10, y11, y12, y13, .val (.int x14), .val (.int x15), .val (.int x16), .val (.int x17), y18, .val (.int x19), .val (.int x20), .val (.int x21), .val (.int x22), .val (.int (z1 * z0)), .val (.int q1.1), .val (.int q3.1), .val (.int q5.1), .val (.int q7.1), .val (.int q9.1), .val (.int q11.1), .val (.int q13.1), .val (.int q15.1), .val (.int q17.1), .val (.int q19.1), .val (.int q21.1), y35, y36, y37, y38]) at_456 rfl hy34 rfl ?_
  refine Ev.aload at_458 rfl ?_
  obtain ⟨q23, hq24, hr⟩ := Option.bind_eq_some_iff.mp hr
  refine Ev.virt (y := M_tableCount) (args := []) (rest := []) (gok hw) rfl nm_tableCount (ww hw 186 rfl) (ww hw 187 rfl) (ww hw 188 rfl) (ww hw 189 rfl) (ww hw 190 rfl) (lenOf pd_tableCount rfl) at_460 (V.2.1 q21.2) (e_tableCount hw V hq24) (by decide) (Nat.le_of_ble_eq_true rfl) rfl ?_
  refine Ev.istD (L' := [.val (.int x0), .val (.int x1), .val (.int x2), .val (.int x3), .val (.int x4), .val (.int x5), .val (.ref o), y7, y8, y9, y10, y11, y12, y13, .val (.int x14), .val (.int x15), .val (.int x16), .val (.int x17), y18, .val (.int x19), .val (.int x20), .val (.int x21), .val (.int x22), .val (.int (z1 * z0)), .val (.int q1.1), .val (.int q3.1), .val (.int q5.1), .val (.int q7.1), .val (.int q9.1), .val (.int q11.1), .val (.int q13.1), .val (.int q15.1), .val (.int q17.1), .val (.int q19.1), .val (.int q21.1), .val (.int q23), y36, y37, y38]) at_463 rfl hy35 rfl ?_
  refine Ev.aload at_465 rfl ?_
  refine Ev.iconst (z := 2) at_467 rfl ?_
  refine Ev.iload at_468 rfl ?_
  obtain ⟨q25, hq26, hr⟩ := Option.bind_eq_some_iff.mp hr
  refine Ev.virt (y := M_choose) (args := [.int (2 : Int32), .int x5]) (rest := []) (gok hw) rfl nm_choose (ww hw 191 rfl) (ww hw 192 rfl) (ww hw 193 rfl) (ww hw 194 rfl) (ww hw 195 rfl) (lenOf pd_choose rfl) at_470 (V.2.1 q21.2) (e_choose hw V hq26) (by decide) (Nat.le_of_ble_eq_true rfl) rfl ?_
  refine Ev.istD (L' := [.val (.int x0), .val (.int x1), .val (.int x2), .val (.int x3), .val (.int x4), .val (.int x5), .val (.ref o), y7, y8, y9, y10, y11, y12, y13, .val (.int x14), .val (.int x15), .val (.int x16), .val (.int x17), y18, .val (.int x19), .val (.int x20), .val (.int x21), .val (.int x22), .val (.int (z1 * z0)), .val (.int q1.1), .val (.int q3.1), .val (.int q5.1), .val (.int q7.1), .val (.int q9.1), .val (.int q11.1), .val (.int q13.1), .val (.int q15.1), .val (.int q17.1), .val (.int q19.1), .val (.int q21.1), .val (.int q23), .val (.int q25.1), y37, y38]) at_473 rfl hy36 rfl ?_
  refine Ev.aload at_475 rfl ?_
  obtain ⟨q27, hq28, hr⟩ := Option.bind_eq_some_iff.mp hr
  refine Ev.virt (y := M_dropLastTable) (args := []) (rest := []) (gok hw) rfl nm_dropLastTable (ww hw 196 rfl) (ww hw 197 rfl) (ww hw 198 rfl) (ww hw 199 rfl) (ww hw 200 rfl) (lenOf pd_dropLastTable rfl) at_477 (V.2.1 q25.2) (e_dropLastTable hw V hq28) (by decide) (Nat.le_of_ble_eq_true rfl) rfl ?_
  refine Ev.istD (L' := [.val (.int x0), .val (.int x1), .val (.int x2), .val (.int x3), .val (.int x4), .val (.int x5), .val (.ref o), y7, y8, y9, y10, y11, y12, y13, .val (.int x14), .val (.int x15), .val (.int x16), .val (.int x17), y18, .val (.int x19), .val (.int x20), .val (.int x21), .val (.int x22), .val (.int (z1 * z0)), .val (.int q1.1), .val (.int q3.1), .val (.int q5.1), .val (.int q7.1), .val (.int q9.1), .val (.int q11.1), .val (.int q13.1), .val (.int q15.1), .val (.int q17.1), .val (.int q19.1), .val (.int q21.1), .val (.int q23), .val (.int q25.1), .val (.int q27.1), y38]) at_480 rfl hy37 rfl ?_
  refine Ev.aload at_482 rfl ?_
  obtain ⟨q29, hq30, hr⟩ := Option.bind_eq_some_iff.mp hr
  refine Ev.virt (y := M_count) (args := []) (rest := []) (gok hw) rfl nm_count (ww hw 159 rfl) (ww hw 160 rfl) (ww hw 161 rfl) (ww hw 162 rfl) (ww hw 163 rfl) (lenOf pd_count rfl) at_484 (V.2.1 q27.2) (e_count hw V hq30) (by decide) (Nat.le_of_ble_eq_true rfl) rfl ?_
  refine Ev.istD (L' := [.val (.int x0), .val (.int x1), .val (.int x2), .val (.int x3), .val (.int x4), .val (.int x5), .val (.ref o), y7, y8, y9, y10, y11, y12, y13, .val (.int x14), .val (.int x15), .val (.int x16), .val (.int x17), y18, .val (.int x19), .val (.int x20), .val (.int x21), .val (.int x22), .val (.int (z1 * z0)), .val (.int q1.1), .val (.int q3.1), .val (.int q5.1), .val (.int q7.1), .val (.int q9.1), .val (.int q11.1), .val (.int q13.1), .val (.int q15.1), .val (.int q17.1), .val (.int q19.1), .val (.int q21.1), .val (.int q23), .val (.int q25.1), .val (.int q27.1), .val (.int q29.1)]) at_487 rfl hy38 rfl ?_
  refine Ev.iload at_489 rfl ?_
  refine Ev.ifne (t := 587) at_491 rfl (fun c31 => ?_) (fun c31 => ?_)
  · replace hr := (if_pos c31).symm.trans hr
    refine Ev.iload at_494 rfl ?_
    refine Ev.iload at_496 rfl ?_
    refine Ev.icne (t := 587) at_498 rfl (fun c32 => ?_) (fun c32 => ?_)
    · replace hr := (if_pos c32).symm.trans hr
      refine Ev.iload at_501 rfl ?_
      refine Ev.iload at_503 rfl ?_
      refine Ev.icne (t := 587) at_505 rfl (fun c33 => ?_) (fun c33 => ?_)
      · replace hr := (if_pos c33).symm.trans hr
        refine Ev.iload at_508 rfl ?_
        refine Ev.ifne (t := 587) at_510 rfl (fun c34 => ?_) (fun c34 => ?_)
        · replace hr := (if_pos c34).symm.trans hr
          refine Ev.iload at_513 rfl ?_
          refine Ev.ifne (t := 587) at_515 rfl (fun c35 => ?_) (fun c35 => ?_)
          · replace hr := (if_pos c35).symm.trans hr
            refine Ev.iload at_518 rfl ?_
            refine Ev.iload at_520 rfl ?_
            refine Ev.icne (t := 587) at_522 rfl (fun c36 => ?_) (fun c36 => ?_)
            · replace hr := (if_pos c36).symm.trans hr
              refine Ev.iload at_525 rfl ?_
              refine Ev.ifne (t := 587) at_527 rfl (fun c37 => ?_) (fun c37 => ?_)
              · replace hr := (if_pos c37).symm.trans hr
                refine Ev.iload at_530 rfl ?_
                refine Ev.iload at_532 rfl ?_
                refine Ev.icne (t := 587) at_534 rfl (fun c38 => ?_) (fun c38 => ?_)
                · replace hr := (if_pos c38).symm.trans hr
                  refine Ev.iload at_537 rfl ?_
                  refine Ev.iload at_539 rfl ?_
                  refine Ev.icne (t := 587) at_541 rfl (fun c39 => ?_) (fun c39 => ?_)
                  · replace hr := (if_pos c39).symm.trans hr
                    refine Ev.iload at_544 rfl ?_
                    refine Ev.iload at_546 rfl ?_
                    refine Ev.icne (t := 587) at_548 rfl (fun c40 => ?_) (fun c40 => ?_)
                    · replace hr := (if_pos c40).symm.trans hr
                      refine Ev.iload at_551 rfl ?_
                      refine Ev.iload at_553 rfl ?_
                      refine Ev.icne (t := 587) at_555 rfl (fun c41 => ?_) (fun c41 => ?_)
                      · replace hr := (if_pos c41).symm.trans hr
                        refine Ev.iload at_558 rfl ?_
                        refine Ev.iconst (z := 2) at_560 rfl ?_
                        refine Ev.icne (t := 587) at_561 rfl (fun c42 => ?_) (fun c42 => ?_)
                        · replace hr := (if_pos c42).symm.trans hr
                          refine Ev.iload at_564 rfl ?_
                          refine Ev.iload at_566 rfl ?_
                          refine Ev.icne (t := 587) at_568 rfl (fun c43 => ?_) (fun c43 => ?_)
                          · replace hr := (if_pos c43).symm.trans hr
                            refine Ev.iload at_571 rfl ?_
                            refine Ev.ifne (t := 587) at_573 rfl (fun c44 => ?_) (fun c44 => ?_)
                            · replace hr := (if_pos c44).symm.trans hr
                              refine Ev.iload at_576 rfl ?_
                              refine Ev.iload at_578 rfl ?_
                              refine Ev.icne (t := 587) at_580 rfl (fun c45 => ?_) (fun c45 => ?_)
                              · replace hr := (if_pos c45).symm.trans hr
                                refine Ev.iconst (z := 1) at_583 rfl ?_
                                refine Ev.goto (t := 588) at_584 rfl ?_
                                cases hr
                                exact Ev.zret1 rfl at_588
                              · replace hr := (if_neg c45).symm.trans hr
                                refine Ev.iconst (z := 0) at_587 rfl ?_
                                cases hr
                                exact Ev.zret0 rfl at_588
                            · replace hr := (if_neg c44).symm.trans hr
                              refine Ev.iconst (z := 0) at_587 rfl ?_
                              cases hr
                              exact Ev.zret0 rfl at_588
                          · replace hr := (if_neg c43).symm.trans hr
                            refine Ev.iconst (z := 0) at_587 rfl ?_
                            cases hr
                            exact Ev.zret0 rfl at_588
                        · replace hr := (if_neg c42).symm.trans hr
                          refine Ev.iconst (z := 0) at_587 rfl ?_
                          cases hr
                          exact Ev.zret0 rfl at_588
                      · replace hr := (if_neg c41).symm.trans hr
                        refine Ev.iconst (z := 0) at_587 rfl ?_
                        cases hr
                        exact Ev.zret0 rfl at_588
                    · replace hr := (if_neg c40).symm.trans hr
                      refine Ev.iconst (z := 0) at_587 rfl ?_
                      cases hr
                      exact Ev.zret0 rfl at_588
                  · replace hr := (if_neg c39).symm.trans hr
                    refine Ev.iconst (z := 0) at_587 rfl ?_
                    cases hr
                    exact Ev.zret0 rfl at_588
                · replace hr := (if_neg c38).symm.trans hr
                  refine Ev.iconst (z := 0) at_587 rfl ?_
                  cases hr
                  exact Ev.zret0 rfl at_588
              · replace hr := (if_neg c37).symm.trans hr
                refine Ev.iconst (z := 0) at_587 rfl ?_
                cases hr
                exact Ev.zret0 rfl at_588
            · replace hr := (if_neg c36).symm.trans hr
              refine Ev.iconst (z := 0) at_587 rfl ?_
              cases hr
              exact Ev.zret0 rfl at_588
          · replace hr := (if_neg c35).symm.trans hr
            refine Ev.iconst (z := 0) at_587 rfl ?_
            cases hr
            exact Ev.zret0 rfl at_588
        · replace hr := (if_neg c34).symm.trans hr
          refine Ev.iconst (z := 0) at_587 rfl ?_
          cases hr
          exact Ev.zret0 rfl at_588
      · replace hr := (if_neg c33).symm.trans hr
        refine Ev.iconst (z := 0) at_587 rfl ?_
        cases hr
        exact Ev.zret0 rfl at_588
    · replace hr := (if_neg c32).symm.trans hr
      refine Ev.iconst (z := 0) at_587 rfl ?_
      cases hr
      exact Ev.zret0 rfl at_588
  · replace hr := (if_neg c31).symm.trans hr
    refine Ev.iconst (z := 0) at_587 rfl ?_
    cases hr
    exact Ev.zret0 rfl at_588
def f_law_342 (n : Nat) (x0 : Int32) (x1 : Int32) (x2 : Int32) (x3 : Int32) (x4 : Int32) (x5 : Int32) (x14 : Int32) (x15 : Int32) (x16 : Int32) (x17 : Int32) (x18 : Int32) (x19 : Int32) (x20 : Int32) (x21 : Int32) (z0 : Int32) (s : St) : Option (Int32 × St) :=
  if z0 = 0 then
    f_law_356 n x0 x1 x2 x3 x4 x5 x14 x15 x16 x17 x19 x20 x21 z0 (1 : Int32) x18 s
  else
    f_law_356 n x0 x1 x2 x3 x4 x5 x14 x15 x16 x17 x19 x20 x21 z0 (3 : Int32) x18 s
set_option maxRecDepth 100000 in
theorem e_law_342 {g : GT} {n : Nat} (hw : HW g) {K : St → MHeap} {o : Nat} {r : Nat → Nat} (V : View (GG g) Ln K o r) (x0 : Int32) (x1 : Int32) (x2 : Int32) (x3 : Int32) (x4 : Int32) (x5 : Int32) (x14 : Int32) (x15 : Int32) (x16 : Int32) (x17 : Int32) (x18 : Int32) (x19 : Int32) (x20 : Int32) (x21 : Int32) (z0 : Int32) (s : St) (y7 : Slot) (hy7 : one1 y7 = true) (y8 : Slot) (hy8 : one1 y8 = true) (y9 : Slot) (hy9 : one1 y9 = true) (y10 : Slot) (hy10 : one1 y10 = true) (y11 : Slot) (hy11 : one1 y11 = true) (y12 : Slot) (hy12 : one1 y12 = true) (y13 : Slot) (hy13 : one1 y13 = true) (y22 : Slot) (hy22 : one1 y22 = true) (y23 : Slot) (hy23 : one1 y23 = true) (y24 : Slot) (hy24 : one1 y24 = true) (y25 : Slot) (hy25 : one1 y25 = true) (y26 : Slot) (hy26 : one1 y26 = true) (y27 : Slot) (hy27 : one1 y27 = true) (y28 : Slot) (hy28 : one1 y28 = true) (y29 : Slot) (hy29 : one1 y29 = true) (y30 : Slot) (hy30 : one1 y30 = true) (y31 : Slot) (hy31 : one1 y31 = true) (y32 : Slot) (hy32 : one1 y32 = true) (y33 : Slot) (hy33 : one1 y33 = true) (y34 : Slot) (hy34 : one1 y34 = true) (y35 : Slot) (hy35 : one1 y35 = true) (y36 : Slot) (hy36 : one1 y36 = true) (y37 : Slot) (hy37 : one1 y37 = true) (y38 : Slot) (hy38 : one1 y38 = true) (w : Int32 × St) (hr : f_law_342 n x0 x1 x2 x3 x4 x5 x14 x15 x16 x17 x18 x19 x20 x21 z0 s = some w) : Ev (GG g) M_law 342 [.val (.int x0), .val (.int x1), .val (.int x2), .val (.int x3), .val (.int x4), .val (.int x5), .val (.ref o), y7, y8, y9, y10, y11, y12, y13, .val (.int x14), .val (.int x15), .val (.int x16), .val (.int x17), .val (.int x18), .val (.int x19), .val (.int x20), .val (.int x21), y22, y23, y24, y25, y26, y27, y28, y29, y30, y31, y32, y33, y34, y35, y36, y37, y38] [.int z0] (K s) ((some (.int w.1)), (K w.2)) := by
  unfold f_law_342 at hr
  refine Ev.istD (L' := [.val (.int x0), .val (.int x1), .val (.int x2), .val (.int x3), .val (.int x4), .val (.int x5), .val (.ref o), y7, y8, y9, y10, y11, y12, y13, .val (.int x14), .val (.int x15), .val (.int x16), .val (.int x17), .val (.int x18), .val (.int x19), .val (.int x20), .val (.int x21), .val (.int z0), y23, y24, y25, y26, y27, y28, y29, y30, y31, y32, y33, y34, y35, y36, y37, y38]) at_342 rfl hy22 rfl ?_
  refine Ev.iload at_344 rfl ?_
  refine Ev.iload at_346 rfl ?_
  refine Ev.ifne (t := 355) at_348 rfl (fun c1 => ?_) (fun c1 => ?_)
  · replace hr := (if_pos c1).symm.trans hr
    refine Ev.iconst (z := 1) at_351 rfl ?_
    refine Ev.goto (t := 356) at_352 rfl ?_
    exact e_law_356 hw V  x0 x1 x2 x3 x4 x5 x14 x15 x16 x17 x19 x20 x21 z0 (1 : Int32) x18 s y7 hy7 y8 hy8 y9 hy9 y10 hy10 y11 hy11 y12 hy12 y13 hy13 (.val (.int x18)) rfl y23 hy23 y24 hy24 y25 hy25 y26 hy26 y27 hy27 y28 hy28 y29 hy29 y30 hy30 y31 hy31 y32 hy32 y33 hy33 y34 hy34 y35 hy35 y36 hy36 y37 hy37 y38 hy38 _ hr
  · replace hr := (if_neg c1).symm.trans hr
    refine Ev.iconst (z := 3) at_355 rfl ?_
    exact e_law_356 hw V  x0 x1 x2 x3 x4 x5 x14 x15 x16 x17 x19 x20 x21 z0 (3 : Int32) x18 s y7 hy7 y8 hy8 y9 hy9 y10 hy10 y11 hy11 y12 hy12 y13 hy13 (.val (.int x18)) rfl y23 hy23 y24 hy24 y25 hy25 y26 hy26 y27 hy27 y28 hy28 y29 hy29 y30 hy30 y31 hy31 y32 hy32 y33 hy33 y34 hy34 y35 hy35 y36 hy36 y37 hy37 y38 hy38 _ hr
def f_law_316 (n : Nat) (x0 : Int32) (x1 : Int32) (x2 : Int32) (x3 : Int32) (x4 : Int32) (x5 : Int32) (x14 : Int32) (x15 : Int32) (x16 : Int32) (x17 : Int32) (x18 : Int32) (x19 : Int32) (x20 : Int32) (z0 : Int32) (s : St) : Option (Int32 × St) :=
  (f_hin x5).bind fun q1 =>
  if q1 = 0 then
    f_law_342 n x0 x1 x2 x3 x4 x5 x14 x15 x16 x17 x18 x19 x20 z0 (-2 : Int32) s
  else
    if 0 < x14 then
      f_law_342 n x0 x1 x2 x3 x4 x5 x14 x15 x16 x17 x18 x19 x20 z0 (0 : Int32) s
    else
      f_law_342 n x0 x1 x2 x3 x4 x5 x14 x15 x16 x17 x18 x19 x20 z0 (-7 : Int32) s
set_option maxRecDepth 100000 in
theorem e_law_316 {g : GT} {n : Nat} (hw : HW g) {K : St → MHeap} {o : Nat} {r : Nat → Nat} (V : View (GG g) Ln K o r) (x0 : Int32) (x1 : Int32) (x2 : Int32) (x3 : Int32) (x4 : Int32) (x5 : Int32) (x14 : Int32) (x15 : Int32) (x16 : Int32) (x17 : Int32) (x18 : Int32) (x19 : Int32) (x20 : Int32) (z0 : Int32) (s : St) (y7 : Slot) (hy7 : one1 y7 = true) (y8 : Slot) (hy8 : one1 y8 = true) (y9 : Slot) (hy9 : one1 y9 = true) (y10 : Slot) (hy10 : one1 y10 = true) (y11 : Slot) (hy11 : one1 y11 = true) (y12 : Slot) (hy12 : one1 y12 = true) (y13 : Slot) (hy13 : one1 y13 = true) (y21 : Slot) (hy21 : one1 y21 = true) (y22 : Slot) (hy22 : one1 y22 = true) (y23 : Slot) (hy23 : one1 y23 = true) (y24 : Slot) (hy24 : one1 y24 = true) (y25 : Slot) (hy25 : one1 y25 = true) (y26 : Slot) (hy26 : one1 y26 = true) (y27 : Slot) (hy27 : one1 y27 = true) (y28 : Slot) (hy28 : one1 y28 = true) (y29 : Slot) (hy29 : one1 y29 = true) (y30 : Slot) (hy30 : one1 y30 = true) (y31 : Slot) (hy31 : one1 y31 = true) (y32 : Slot) (hy32 : one1 y32 = true) (y33 : Slot) (hy33 : one1 y33 = true) (y34 : Slot) (hy34 : one1 y34 = true) (y35 : Slot) (hy35 : one1 y35 = true) (y36 : Slot) (hy36 : one1 y36 = true) (y37 : Slot) (hy37 : one1 y37 = true) (y38 : Slot) (hy38 : one1 y38 = true) (w : Int32 × St) (hr : f_law_316 n x0 x1 x2 x3 x4 x5 x14 x15 x16 x17 x18 x19 x20 z0 s = some w) : Ev (GG g) M_law 316 [.val (.int x0), .val (.int x1), .val (.int x2), .val (.int x3), .val (.int x4), .val (.int x5), .val (.ref o), y7, y8, y9, y10, y11, y12, y13, .val (.int x14), .val (.int x15), .val (.int x16), .val (.int x17), .val (.int x18), .val (.int x19), .val (.int x20), y21, y22, y23, y24, y25, y26, y27, y28, y29, y30, y31, y32, y33, y34, y35, y36, y37, y38] [.int z0] (K s) ((some (.int w.1)), (K w.2)) := by
  unfold f_law_316 at hr
  refine Ev.istD (L' := [.val (.int x0), .val (.int x1), .val (.int x2), .val (.int x3), .val (.int x4), .val (.int x5), .val (.ref o), y7, y8, y9, y10, y11, y12, y13, .val (.int x14), .val (.int x15), .val (.int x16), .val (.int x17), .val (.int x18), .val (.int x19), .val (.int x20), .val (.int z0), y22, y23, y24, y25, y26, y27, y28, y29, y30, y31, y32, y33, y34, y35, y36, y37, y38]) at_316 rfl hy21 rfl ?_
  refine Ev.iload at_318 rfl ?_
  obtain ⟨q1, hq2, hr⟩ := Option.bind_eq_some_iff.mp hr
  refine Ev.stat (y := M_hin) (args := [.int x5]) (rest := []) nm_hin (ww hw 65 rfl) (ww hw 66 rfl) (ww hw 67 rfl) (ww hw 68 rfl) (lenOf pd_hin rfl) at_320 (e_hin hw hq2) (by decide) (Nat.le_of_ble_eq_true rfl) rfl ?_
  refine Ev.ifne (t := 331) at_323 rfl (fun c3 => ?_) (fun c3 => ?_)
  · replace hr := (if_pos c3).symm.trans hr
    refine Ev.bipush (z := -2) at_326 rfl ?_
    refine Ev.goto (t := 342) at_328 rfl ?_
    exact e_law_342 hw V  x0 x1 x2 x3 x4 x5 x14 x15 x16 x17 x18 x19 x20 z0 (-2 : Int32) s y7 hy7 y8 hy8 y9 hy9 y10 hy10 y11 hy11 y12 hy12 y13 hy13 y22 hy22 y23 hy23 y24 hy24 y25 hy25 y26 hy26 y27 hy27 y28 hy28 y29 hy29 y30 hy30 y31 hy31 y32 hy32 y33 hy33 y34 hy34 y35 hy35 y36 hy36 y37 hy37 y38 hy38 _ hr
  · replace hr := (if_neg c3).symm.trans hr
    refine Ev.iload at_331 rfl ?_
    refine Ev.ifle (t := 340) at_333 rfl (fun c4 => ?_) (fun c4 => ?_)
    · replace hr := (if_pos c4).symm.trans hr
      refine Ev.iconst (z := 0) at_336 rfl ?_
      refine Ev.goto (t := 342) at_337 rfl ?_
      exact e_law_342 hw V  x0 x1 x2 x3 x4 x5 x14 x15 x16 x17 x18 x19 x20 z0 (0 : Int32) s y7 hy7 y8 hy8 y9 hy9 y10 hy10 y11 hy11 y12 hy12 y13 hy13 y22 hy22 y23 hy23 y24 hy24 y25 hy25 y26 hy26 y27 hy27 y28 hy28 y29 hy29 y30 hy30 y31 hy31 y32 hy32 y33 hy33 y34 hy34 y35 hy35 y36 hy36 y37 hy37 y38 hy38 _ hr
    · replace hr := (if_neg c4).symm.trans hr
      refine Ev.bipush (z := -7) at_340 rfl ?_
      exact e_law_342 hw V  x0 x1 x2 x3 x4 x5 x14 x15 x16 x17 x18 x19 x20 z0 (-7 : Int32) s y7 hy7 y8 hy8 y9 hy9 y10 hy10 y11 hy11 y12 hy12 y13 hy13 y22 hy22 y23 hy23 y24 hy24 y25 hy25 y26 hy26 y27 hy27 y28 hy28 y29 hy29 y30 hy30 y31 hy31 y32 hy32 y33 hy33 y34 hy34 y35 hy35 y36 hy36 y37 hy37 y38 hy38 _ hr
def f_law_303 (n : Nat) (x0 : Int32) (x1 : Int32) (x2 : Int32) (x3 : Int32) (x4 : Int32) (x5 : Int32) (x11 : Int32) (x14 : Int32) (x15 : Int32) (x16 : Int32) (x17 : Int32) (x18 : Int32) (x19 : Int32) (z0 : Int32) (s : St) : Option (Int32 × St) :=
  if x11 = 0 then
    f_law_316 n x0 x1 x2 x3 x4 x5 x14 x15 x16 x17 x18 x19 z0 (-2 : Int32) s
  else
    f_law_316 n x0 x1 x2 x3 x4 x5 x14 x15 x16 x17 x18 x19 z0 (0 : Int32) s
set_option maxRecDepth 100000 in
theorem e_law_303 {g : GT} {n : Nat} (hw : HW g) {K : St → MHeap} {o : Nat} {r : Nat → Nat} (V : View (GG g) Ln K o r) (x0 : Int32) (x1 : Int32) (x2 : Int32) (x3 : Int32) (x4 : Int32) (x5 : Int32) (x11 : Int32) (x14 : Int32) (x15 : Int32) (x16 : Int32) (x17 : Int32) (x18 : Int32) (x19 : Int32) (z0 : Int32) (s : St) (y7 : Slot) (hy7 : one1 y7 = true) (y8 : Slot) (hy8 : one1 y8 = true) (y9 : Slot) (hy9 : one1 y9 = true) (y10 : Slot) (hy10 : one1 y10 = true) (y12 : Slot) (hy12 : one1 y12 = true) (y13 : Slot) (hy13 : one1 y13 = true) (y20 : Slot) (hy20 : one1 y20 = true) (y21 : Slot) (hy21 : one1 y21 = true) (y22 : Slot) (hy22 : one1 y22 = true) (y23 : Slot) (hy23 : one1 y23 = true) (y24 : Slot) (hy24 : one1 y24 = true) (y25 : Slot) (hy25 : one1 y25 = true) (y26 : Slot) (hy26 : one1 y26 = true) (y27 : Slot) (hy27 : one1 y27 = true) (y28 : Slot) (hy28 : one1 y28 = true) (y29 : Slot) (hy29 : one1 y29 = true) (y30 : Slot) (hy30 : one1 y30 = true) (y31 : Slot) (hy31 : one1 y31 = true) (y32 : Slot) (hy32 : one1 y32 = true) (y33 : Slot) (hy33 : one1 y33 = true) (y34 : Slot) (hy34 : one1 y34 = true) (y35 : Slot) (hy35 : one1 y35 = true) (y36 : Slot) (hy36 : one1 y36 = true) (y37 : Slot) (hy37 : one1 y37 = true) (y38 : Slot) (hy38 : one1 y38 = true) (w : Int32 × St) (hr : f_law_303 n x0 x1 x2 x3 x4 x5 x11 x14 x15 x16 x17 x18 x19 z0 s = some w) : Ev (GG g) M_law 303 [.val (.int x0), .val (.int x1), .val (.int x2), .val (.int x3), .val (.int x4), .val (.int x5), .val (.ref o), y7, y8, y9, y10, .val (.int x11), y12, y13, .val (.int x14), .val (.int x15), .val (.int x16), .val (.int x17), .val (.int x18), .val (.int x19), y20, y21, y22, y23, y24, y25, y26, y27, y28, y29, y30, y31, y32, y33, y34, y35, y36, y37, y38] [.int z0] (K s) ((some (.int w.1)), (K w.2)) := by
  unfold f_law_303 at hr
  refine Ev.istD (L' := [.val (.int x0), .val (.int x1), .val (.int x2), .val (.int x3), .val (.int x4), .val (.int x5), .val (.ref o), y7, y8, y9, y10, .val (.int x11), y12, y13, .val (.int x14), .val (.int x15), .val (.int x16), .val (.int x17), .val (.int x18), .val (.int x19), .val (.int z0), y21, y22, y23, y24, y25, y26, y27, y28, y29, y30, y31, y32, y33, y34, y35, y36, y37, y38]) at_303 rfl hy20 rfl ?_
  refine Ev.iload at_305 rfl ?_
  refine Ev.ifeq (t := 314) at_307 rfl (fun c1 => ?_) (fun c1 => ?_)
  · replace hr := (if_pos c1).symm.trans hr
    refine Ev.bipush (z := -2) at_314 rfl ?_
    exact e_law_316 hw V  x0 x1 x2 x3 x4 x5 x14 x15 x16 x17 x18 x19 z0 (-2 : Int32) s y7 hy7 y8 hy8 y9 hy9 y10 hy10 (.val (.int x11)) rfl y12 hy12 y13 hy13 y21 hy21 y22 hy22 y23 hy23 y24 hy24 y25 hy25 y26 hy26 y27 hy27 y28 hy28 y29 hy29 y30 hy30 y31 hy31 y32 hy32 y33 hy33 y34 hy34 y35 hy35 y36 hy36 y37 hy37 y38 hy38 _ hr
  · replace hr := (if_neg c1).symm.trans hr
    refine Ev.iconst (z := 0) at_310 rfl ?_
    refine Ev.goto (t := 316) at_311 rfl ?_
    exact e_law_316 hw V  x0 x1 x2 x3 x4 x5 x14 x15 x16 x17 x18 x19 z0 (0 : Int32) s y7 hy7 y8 hy8 y9 hy9 y10 hy10 (.val (.int x11)) rfl y12 hy12 y13 hy13 y21 hy21 y22 hy22 y23 hy23 y24 hy24 y25 hy25 y26 hy26 y27 hy27 y28 hy28 y29 hy29 y30 hy30 y31 hy31 y32 hy32 y33 hy33 y34 hy34 y35 hy35 y36 hy36 y37 hy37 y38 hy38 _ hr
def f_law_280 (n : Nat) (x0 : Int32) (x1 : Int32) (x2 : Int32) (x3 : Int32) (x4 : Int32) (x5 : Int32) (x8 : Int32) (x9 : Int32) (x11 : Int32) (x14 : Int32) (x15 : Int32) (x16 : Int32) (x17 : Int32) (x18 : Int32) (z0 : Int32) (s : St) : Option (Int32 × St) :=
  if x8 = 0 then
    f_law_303 n x0 x1 x2 x3 x4 x5 x11 x14 x15 x16 x17 x18 z0 (-2 : Int32) s
  else
    if x9 = 0 then
      f_law_303 n x0 x1 x2 x3 x4 x5 x11 x14 x15 x16 x17 x18 z0 (0 : Int32) s
    else
      f_law_303 n x0 x1 x2 x3 x4 x5 x11 x14 x15 x16 x17 x18 z0 (-5 : Int32) s
set_option maxRecDepth 100000 in
theorem e_law_280 {g : GT} {n : Nat} (hw : HW g) {K : St → MHeap} {o : Nat} {r : Nat → Nat} (V : View (GG g) Ln K o r) (x0 : Int32) (x1 : Int32) (x2 : Int32) (x3 : Int32) (x4 : Int32) (x5 : Int32) (x8 : Int32) (x9 : Int32) (x11 : Int32) (x14 : Int32) (x15 : Int32) (x16 : Int32) (x17 : Int32) (x18 : Int32) (z0 : Int32) (s : St) (y7 : Slot) (hy7 : one1 y7 = true) (y10 : Slot) (hy10 : one1 y10 = true) (y12 : Slot) (hy12 : one1 y12 = true) (y13 : Slot) (hy13 : one1 y13 = true) (y19 : Slot) (hy19 : one1 y19 = true) (y20 : Slot) (hy20 : one1 y20 = true) (y21 : Slot) (hy21 : one1 y21 = true) (y22 : Slot) (hy22 : one1 y22 = true) (y23 : Slot) (hy23 : one1 y23 = true) (y24 : Slot) (hy24 : one1 y24 = true) (y25 : Slot) (hy25 : one1 y25 = true) (y26 : Slot) (hy26 : one1 y26 = true) (y27 : Slot) (hy27 : one1 y27 = true) (y28 : Slot) (hy28 : one1 y28 = true) (y29 : Slot) (hy29 : one1 y29 = true) (y30 : Slot) (hy30 : one1 y30 = true) (y31 : Slot) (hy31 : one1 y31 = true) (y32 : Slot) (hy32 : one1 y32 = true) (y33 : Slot) (hy33 : one1 y33 = true) (y34 : Slot) (hy34 : one1 y34 = true) (y35 : Slot) (hy35 : one1 y35 = true) (y36 : Slot) (hy36 : one1 y36 = true) (y37 : Slot) (hy37 : one1 y37 = true) (y38 : Slot) (hy38 : one1 y38 = true) (w : Int32 × St) (hr : f_law_280 n x0 x1 x2 x3 x4 x5 x8 x9 x11 x14 x15 x16 x17 x18 z0 s = some w) : Ev (GG g) M_law 280 [.val (.int x0), .val (.int x1), .val (.int x2), .val (.int x3), .val (.int x4), .val (.int x5), .val (.ref o), y7, .val (.int x8), .val (.int x9), y10, .val (.int x11), y12, y13, .val (.int x14), .val (.int x15), .val (.int x16), .val (.int x17), .val (.int x18), y19, y20, y21, y22, y23, y24, y25, y26, y27, y28, y29, y30, y31, y32, y33, y34, y35, y36, y37, y38] [.int z0] (K s) ((some (.int w.1)), (K w.2)) := by
  unfold f_law_280 at hr
  refine Ev.istD (L' := [.val (.int x0), .val (.int x1), .val (.int x2), .val (.int x3), .val (.int x4), .val (.int x5), .val (.ref o), y7, .val (.int x8), .val (.int x9), y10, .val (.int x11), y12, y13, .val (.int x14), .val (.int x15), .val (.int x16), .val (.int x17), .val (.int x18), .val (.int z0), y20, y21, y22, y23, y24, y25, y26, y27, y28, y29, y30, y31, y32, y33, y34, y35, y36, y37, y38]) at_280 rfl hy19 rfl ?_
  refine Ev.iload at_282 rfl ?_
  refine Ev.ifne (t := 292) at_284 rfl (fun c1 => ?_) (fun c1 => ?_)
  · replace hr := (if_pos c1).symm.trans hr
    refine Ev.bipush (z := -2) at_287 rfl ?_
    refine Ev.goto (t := 303) at_289 rfl ?_
    exact e_law_303 hw V  x0 x1 x2 x3 x4 x5 x11 x14 x15 x16 x17 x18 z0 (-2 : Int32) s y7 hy7 (.val (.int x8)) rfl (.val (.int x9)) rfl y10 hy10 y12 hy12 y13 hy13 y20 hy20 y21 hy21 y22 hy22 y23 hy23 y24 hy24 y25 hy25 y26 hy26 y27 hy27 y28 hy28 y29 hy29 y30 hy30 y31 hy31 y32 hy32 y33 hy33 y34 hy34 y35 hy35 y36 hy36 y37 hy37 y38 hy38 _ hr
  · replace hr := (if_neg c1).symm.trans hr
    refine Ev.iload at_292 rfl ?_
    refine Ev.ifeq (t := 302) at_294 rfl (fun c2 => ?_) (fun c2 => ?_)
    · replace hr := (if_pos c2).symm.trans hr
      refine Ev.iconst (z := 0) at_302 rfl ?_
      exact e_law_303 hw V  x0 x1 x2 x3 x4 x5 x11 x14 x15 x16 x17 x18 z0 (0 : Int32) s y7 hy7 (.val (.int x8)) rfl (.val (.int x9)) rfl y10 hy10 y12 hy12 y13 hy13 y20 hy20 y21 hy21 y22 hy22 y23 hy23 y24 hy24 y25 hy25 y26 hy26 y27 hy27 y28 hy28 y29 hy29 y30 hy30 y31 hy31 y32 hy32 y33 hy33 y34 hy34 y35 hy35 y36 hy36 y37 hy37 y38 hy38 _ hr
    · replace hr := (if_neg c2).symm.trans hr
      refine Ev.bipush (z := -5) at_297 rfl ?_
      refine Ev.goto (t := 303) at_299 rfl ?_
      exact e_law_303 hw V  x0 x1 x2 x3 x4 x5 x11 x14 x15 x16 x17 x18 z0 (-5 : Int32) s y7 hy7 (.val (.int x8)) rfl (.val (.int x9)) rfl y10 hy10 y12 hy12 y13 hy13 y20 hy20 y21 hy21 y22 hy22 y23 hy23 y24 hy24 y25 hy25 y26 hy26 y27 hy27 y28 hy28 y29 hy29 y30 hy30 y31 hy31 y32 hy32 y33 hy33 y34 hy34 y35 hy35 y36 hy36 y37 hy37 y38 hy38 _ hr
def f_law_266 (n : Nat) (x0 : Int32) (x1 : Int32) (x2 : Int32) (x3 : Int32) (x4 : Int32) (x5 : Int32) (x7 : Int32) (x8 : Int32) (x9 : Int32) (x11 : Int32) (x14 : Int32) (x15 : Int32) (x16 : Int32) (x17 : Int32) (z0 : Int32) (z1 : Int32) (s : St) : Option (Int32 × St) :=
  if x7 = 0 then
    f_law_280 n x0 x1 x2 x3 x4 x5 x8 x9 x11 x14 x15 x16 x17 (z1 + z0) (-2 : Int32) s
  else
    f_law_280 n x0 x1 x2 x3 x4 x5 x8 x9 x11 x14 x15 x16 x17 (z1 + z0) (0 : Int32) s
set_option maxRecDepth 100000 in
theorem e_law_266 {g : GT} {n : Nat} (hw : HW g) {K : St → MHeap} {o : Nat} {r : Nat → Nat} (V : View (GG g) Ln K o r) (x0 : Int32) (x1 : Int32) (x2 : Int32) (x3 : Int32) (x4 : Int32) (x5 : Int32) (x7 : Int32) (x8 : Int32) (x9 : Int32) (x11 : Int32) (x14 : Int32) (x15 : Int32) (x16 : Int32) (x17 : Int32) (z0 : Int32) (z1 : Int32) (s : St) (y10 : Slot) (hy10 : one1 y10 = true) (y12 : Slot) (hy12 : one1 y12 = true) (y13 : Slot) (hy13 : one1 y13 = true) (y18 : Slot) (hy18 : one1 y18 = true) (y19 : Slot) (hy19 : one1 y19 = true) (y20 : Slot) (hy20 : one1 y20 = true) (y21 : Slot) (hy21 : one1 y21 = true) (y22 : Slot) (hy22 : one1 y22 = true) (y23 : Slot) (hy23 : one1 y23 = true) (y24 : Slot) (hy24 : one1 y24 = true) (y25 : Slot) (hy25 : one1 y25 = true) (y26 : Slot) (hy26 : one1 y26 = true) (y27 : Slot) (hy27 : one1 y27 = true) (y28 : Slot) (hy28 : one1 y28 = true) (y29 : Slot) (hy29 : one1 y29 = true) (y30 : Slot) (hy30 : one1 y30 = true) (y31 : Slot) (hy31 : one1 y31 = true) (y32 : Slot) (hy32 : one1 y32 = true) (y33 : Slot) (hy33 : one1 y33 = true) (y34 : Slot) (hy34 : one1 y34 = true) (y35 : Slot) (hy35 : one1 y35 = true) (y36 : Slot) (hy36 : one1 y36 = true) (y37 : Slot) (hy37 : one1 y37 = true) (y38 : Slot) (hy38 : one1 y38 = true) (w : Int32 × St) (hr : f_law_266 n x0 x1 x2 x3 x4 x5 x7 x8 x9 x11 x14 x15 x16 x17 z0 z1 s = some w) : Ev (GG g) M_law 266 [.val (.int x0), .val (.int x1), .val (.int x2), .val (.int x3), .val (.int x4), .val (.int x5), .val (.ref o), .val (.int x7), .val (.int x8), .val (.int x9), y10, .val (.int x11), y12, y13, .val (.int x14), .val (.int x15), .val (.int x16), .val (.int x17), y18, y19, y20, y21, y22, y23, y24, y25, y26, y27, y28, y29, y30, y31, y32, y33, y34, y35, y36, y37, y38] [.int z0, .int z1] (K s) ((some (.int w.1)), (K w.2)) := by
  unfold f_law_266 at hr
  refine Ev.iadd at_266 ?_
  refine Ev.istD (L' := [.val (.int x0), .val (.int x1), .val (.int x2), .val (.int x3), .val (.int x4), .val (.int x5), .val (.ref o), .val (.int x7), .val (.int x8), .val (.int x9), y10, .val (.int x11), y12, y13, .val (.int x14), .val (.int x15), .val (.int x16), .val (.int x17), .val (.int (z1 + z0)), y19, y20, y21, y22, y23, y24, y25, y26, y27, y28, y29, y30, y31, y32, y33, y34, y35, y36, y37, y38]) at_267 rfl hy18 rfl ?_
  refine Ev.iload at_269 rfl ?_
  refine Ev.ifeq (t := 278) at_271 rfl (fun c1 => ?_) (fun c1 => ?_)
  · replace hr := (if_pos c1).symm.trans hr
    refine Ev.bipush (z := -2) at_278 rfl ?_
    exact e_law_280 hw V  x0 x1 x2 x3 x4 x5 x8 x9 x11 x14 x15 x16 x17 (z1 + z0) (-2 : Int32) s (.val (.int x7)) rfl y10 hy10 y12 hy12 y13 hy13 y19 hy19 y20 hy20 y21 hy21 y22 hy22 y23 hy23 y24 hy24 y25 hy25 y26 hy26 y27 hy27 y28 hy28 y29 hy29 y30 hy30 y31 hy31 y32 hy32 y33 hy33 y34 hy34 y35 hy35 y36 hy36 y37 hy37 y38 hy38 _ hr
  · replace hr := (if_neg c1).symm.trans hr
    refine Ev.iconst (z := 0) at_274 rfl ?_
    refine Ev.goto (t := 280) at_275 rfl ?_
    exact e_law_280 hw V  x0 x1 x2 x3 x4 x5 x8 x9 x11 x14 x15 x16 x17 (z1 + z0) (0 : Int32) s (.val (.int x7)) rfl y10 hy10 y12 hy12 y13 hy13 y19 hy19 y20 hy20 y21 hy21 y22 hy22 y23 hy23 y24 hy24 y25 hy25 y26 hy26 y27 hy27 y28 hy28 y29 hy29 y30 hy30 y31 hy31 y32 hy32 y33 hy33 y34 hy34 y35 hy35 y36 hy36 y37 hy37 y38 hy38 _ hr
def f_law_256 (n : Nat) (x0 : Int32) (x1 : Int32) (x2 : Int32) (x3 : Int32) (x4 : Int32) (x5 : Int32) (x7 : Int32) (x8 : Int32) (x9 : Int32) (x10 : Int32) (x11 : Int32) (x14 : Int32) (x15 : Int32) (x16 : Int32) (x17 : Int32) (z0 : Int32) (s : St) : Option (Int32 × St) :=
  if x10 = 0 then
    f_law_266 n x0 x1 x2 x3 x4 x5 x7 x8 x9 x11 x14 x15 x16 x17 (0 : Int32) z0 s
  else
    f_law_266 n x0 x1 x2 x3 x4 x5 x7 x8 x9 x11 x14 x15 x16 x17 (1 : Int32) z0 s
set_option maxRecDepth 100000 in
theorem e_law_256 {g : GT} {n : Nat} (hw : HW g) {K : St → MHeap} {o : Nat} {r : Nat → Nat} (V : View (GG g) Ln K o r) (x0 : Int32) (x1 : Int32) (x2 : Int32) (x3 : Int32) (x4 : Int32) (x5 : Int32) (x7 : Int32) (x8 : Int32) (x9 : Int32) (x10 : Int32) (x11 : Int32) (x14 : Int32) (x15 : Int32) (x16 : Int32) (x17 : Int32) (z0 : Int32) (s : St) (y12 : Slot) (hy12 : one1 y12 = true) (y13 : Slot) (hy13 : one1 y13 = true) (y18 : Slot) (hy18 : one1 y18 = true) (y19 : Slot) (hy19 : one1 y19 = true) (y20 : Slot) (hy20 : one1 y20 = true) (y21 : Slot) (hy21 : one1 y21 = true) (y22 : Slot) (hy22 : one1 y22 = true) (y23 : Slot) (hy23 : one1 y23 = true) (y24 : Slot) (hy24 : one1 y24 = true) (y25 : Slot) (hy25 : one1 y25 = true) (y26 : Slot) (hy26 : one1 y26 = true) (y27 : Slot) (hy27 : one1 y27 = true) (y28 : Slot) (hy28 : one1 y28 = true) (y29 : Slot) (hy29 : one1 y29 = true) (y30 : Slot) (hy30 : one1 y30 = true) (y31 : Slot) (hy31 : one1 y31 = true) (y32 : Slot) (hy32 : one1 y32 = true) (y33 : Slot) (hy33 : one1 y33 = true) (y34 : Slot) (hy34 : one1 y34 = true) (y35 : Slot) (hy35 : one1 y35 = true) (y36 : Slot) (hy36 : one1 y36 = true) (y37 : Slot) (hy37 : one1 y37 = true) (y38 : Slot) (hy38 : one1 y38 = true) (w : Int32 × St) (hr : f_law_256 n x0 x1 x2 x3 x4 x5 x7 x8 x9 x10 x11 x14 x15 x16 x17 z0 s = some w) : Ev (GG g) M_law 256 [.val (.int x0), .val (.int x1), .val (.int x2), .val (.int x3), .val (.int x4), .val (.int x5), .val (.ref o), .val (.int x7), .val (.int x8), .val (.int x9), .val (.int x10), .val (.int x11), y12, y13, .val (.int x14), .val (.int x15), .val (.int x16), .val (.int x17), y18, y19, y20, y21, y22, y23, y24, y25, y26, y27, y28, y29, y30, y31, y32, y33, y34, y35, y36, y37, y38] [.int z0] (K s) ((some (.int w.1)), (K w.2)) := by
  unfold f_law_256 at hr
  refine Ev.iload at_256 rfl ?_
  refine Ev.ifeq (t := 265) at_258 rfl (fun c1 => ?_) (fun c1 => ?_)
  · replace hr := (if_pos c1).symm.trans hr
    refine Ev.iconst (z := 0) at_265 rfl ?_
    exact e_law_266 hw V  x0 x1 x2 x3 x4 x5 x7 x8 x9 x11 x14 x15 x16 x17 (0 : Int32) z0 s (.val (.int x10)) rfl y12 hy12 y13 hy13 y18 hy18 y19 hy19 y20 hy20 y21 hy21 y22 hy22 y23 hy23 y24 hy24 y25 hy25 y26 hy26 y27 hy27 y28 hy28 y29 hy29 y30 hy30 y31 hy31 y32 hy32 y33 hy33 y34 hy34 y35 hy35 y36 hy36 y37 hy37 y38 hy38 _ hr
  · replace hr := (if_neg c1).symm.trans hr
    refine Ev.iconst (z := 1) at_261 rfl ?_
    refine Ev.goto (t := 266) at_262 rfl ?_
    exact e_law_266 hw V  x0 x1 x2 x3 x4 x5 x7 x8 x9 x11 x14 x15 x16 x17 (1 : Int32) z0 s (.val (.int x10)) rfl y12 hy12 y13 hy13 y18 hy18 y19 hy19 y20 hy20 y21 hy21 y22 hy22 y23 hy23 y24 hy24 y25 hy25 y26 hy26 y27 hy27 y28 hy28 y29 hy29 y30 hy30 y31 hy31 y32 hy32 y33 hy33 y34 hy34 y35 hy35 y36 hy36 y37 hy37 y38 hy38 _ hr
def f_law_244 (n : Nat) (x0 : Int32) (x1 : Int32) (x2 : Int32) (x3 : Int32) (x4 : Int32) (x5 : Int32) (x7 : Int32) (x8 : Int32) (x9 : Int32) (x10 : Int32) (x11 : Int32) (x14 : Int32) (x15 : Int32) (x16 : Int32) (z0 : Int32) (s : St) : Option (Int32 × St) :=
  if x7 = 0 then
    f_law_256 n x0 x1 x2 x3 x4 x5 x7 x8 x9 x10 x11 x14 x15 x16 z0 (0 : Int32) s
  else
    f_law_256 n x0 x1 x2 x3 x4 x5 x7 x8 x9 x10 x11 x14 x15 x16 z0 (1 : Int32) s
set_option maxRecDepth 100000 in
theorem e_law_244 {g : GT} {n : Nat} (hw : HW g) {K : St → MHeap} {o : Nat} {r : Nat → Nat} (V : View (GG g) Ln K o r) (x0 : Int32) (x1 : Int32) (x2 : Int32) (x3 : Int32) (x4 : Int32) (x5 : Int32) (x7 : Int32) (x8 : Int32) (x9 : Int32) (x10 : Int32) (x11 : Int32) (x14 : Int32) (x15 : Int32) (x16 : Int32) (z0 : Int32) (s : St) (y12 : Slot) (hy12 : one1 y12 = true) (y13 : Slot) (hy13 : one1 y13 = true) (y17 : Slot) (hy17 : one1 y17 = true) (y18 : Slot) (hy18 : one1 y18 = true) (y19 : Slot) (hy19 : one1 y19 = true) (y20 : Slot) (hy20 : one1 y20 = true) (y21 : Slot) (hy21 : one1 y21 = true) (y22 : Slot) (hy22 : one1 y22 = true) (y23 : Slot) (hy23 : one1 y23 = true) (y24 : Slot) (hy24 : one1 y24 = true) (y25 : Slot) (hy25 : one1 y25 = true) (y26 : Slot) (hy26 : one1 y26 = true) (y27 : Slot) (hy27 : one1 y27 = true) (y28 : Slot) (hy28 : one1 y28 = true) (y29 : Slot) (hy29 : one1 y29 = true) (y30 : Slot) (hy30 : one1 y30 = true) (y31 : Slot) (hy31 : one1 y31 = true) (y32 : Slot) (hy32 : one1 y32 = true) (y33 : Slot) (hy33 : one1 y33 = true) (y34 : Slot) (hy34 : one1 y34 = true) (y35 : Slot) (hy35 : one1 y35 = true) (y36 : Slot) (hy36 : one1 y36 = true) (y37 : Slot) (hy37 : one1 y37 = true) (y38 : Slot) (hy38 : one1 y38 = true) (w : Int32 × St) (hr : f_law_244 n x0 x1 x2 x3 x4 x5 x7 x8 x9 x10 x11 x14 x15 x16 z0 s = some w) : Ev (GG g) M_law 244 [.val (.int x0), .val (.int x1), .val (.int x2), .val (.int x3), .val (.int x4), .val (.int x5), .val (.ref o), .val (.int x7), .val (.int x8), .val (.int x9), .val (.int x10), .val (.int x11), y12, y13, .val (.int x14), .val (.int x15), .val (.int x16), y17, y18, y19, y20, y21, y22, y23, y24, y25, y26, y27, y28, y29, y30, y31, y32, y33, y34, y35, y36, y37, y38] [.int z0] (K s) ((some (.int w.1)), (K w.2)) := by
  unfold f_law_244 at hr
  refine Ev.istD (L' := [.val (.int x0), .val (.int x1), .val (.int x2), .val (.int x3), .val (.int x4), .val (.int x5), .val (.ref o), .val (.int x7), .val (.int x8), .val (.int x9), .val (.int x10), .val (.int x11), y12, y13, .val (.int x14), .val (.int x15), .val (.int x16), .val (.int z0), y18, y19, y20, y21, y22, y23, y24, y25, y26, y27, y28, y29, y30, y31, y32, y33, y34, y35, y36, y37, y38]) at_244 rfl hy17 rfl ?_
  refine Ev.iload at_246 rfl ?_
  refine Ev.ifeq (t := 255) at_248 rfl (fun c1 => ?_) (fun c1 => ?_)
  · replace hr := (if_pos c1).symm.trans hr
    refine Ev.iconst (z := 0) at_255 rfl ?_
    exact e_law_256 hw V  x0 x1 x2 x3 x4 x5 x7 x8 x9 x10 x11 x14 x15 x16 z0 (0 : Int32) s y12 hy12 y13 hy13 y18 hy18 y19 hy19 y20 hy20 y21 hy21 y22 hy22 y23 hy23 y24 hy24 y25 hy25 y26 hy26 y27 hy27 y28 hy28 y29 hy29 y30 hy30 y31 hy31 y32 hy32 y33 hy33 y34 hy34 y35 hy35 y36 hy36 y37 hy37 y38 hy38 _ hr
  · replace hr := (if_neg c1).symm.trans hr
    refine Ev.iconst (z := 1) at_251 rfl ?_
    refine Ev.goto (t := 256) at_252 rfl ?_
    exact e_law_256 hw V  x0 x1 x2 x3 x4 x5 x7 x8 x9 x10 x11 x14 x15 x16 z0 (1 : Int32) s y12 hy12 y13 hy13 y18 hy18 y19 hy19 y20 hy20 y21 hy21 y22 hy22 y23 hy23 y24 hy24 y25 hy25 y26 hy26 y27 hy27 y28 hy28 y29 hy29 y30 hy30 y31 hy31 y32 hy32 y33 hy33 y34 hy34 y35 hy35 y36 hy36 y37 hy37 y38 hy38 _ hr
def f_law_229 (n : Nat) (x0 : Int32) (x1 : Int32) (x2 : Int32) (x3 : Int32) (x4 : Int32) (x5 : Int32) (x7 : Int32) (x8 : Int32) (x9 : Int32) (x10 : Int32) (x11 : Int32) (x14 : Int32) (x15 : Int32) (z0 : Int32) (s : St) : Option (Int32 × St) :=
  if 0 < x14 then
    f_law_244 n x0 x1 x2 x3 x4 x5 x7 x8 x9 x10 x11 x14 x15 z0 ((1 : Int32) <<< (x5 &&& 31)) s
  else
    f_law_244 n x0 x1 x2 x3 x4 x5 x7 x8 x9 x10 x11 x14 x15 z0 (0 : Int32) s
set_option maxRecDepth 100000 in
theorem e_law_229 {g : GT} {n : Nat} (hw : HW g) {K : St → MHeap} {o : Nat} {r : Nat → Nat} (V : View (GG g) Ln K o r) (x0 : Int32) (x1 : Int32) (x2 : Int32) (x3 : Int32) (x4 : Int32) (x5 : Int32) (x7 : Int32) (x8 : Int32) (x9 : Int32) (x10 : Int32) (x11 : Int32) (x14 : Int32) (x15 : Int32) (z0 : Int32) (s : St) (y12 : Slot) (hy12 : one1 y12 = true) (y13 : Slot) (hy13 : one1 y13 = true) (y16 : Slot) (hy16 : one1 y16 = true) (y17 : Slot) (hy17 : one1 y17 = true) (y18 : Slot) (hy18 : one1 y18 = true) (y19 : Slot) (hy19 : one1 y19 = true) (y20 : Slot) (hy20 : one1 y20 = true) (y21 : Slot) (hy21 : one1 y21 = true) (y22 : Slot) (hy22 : one1 y22 = true) (y23 : Slot) (hy23 : one1 y23 = true) (y24 : Slot) (hy24 : one1 y24 = true) (y25 : Slot) (hy25 : one1 y25 = true) (y26 : Slot) (hy26 : one1 y26 = true) (y27 : Slot) (hy27 : one1 y27 = true) (y28 : Slot) (hy28 : one1 y28 = true) (y29 : Slot) (hy29 : one1 y29 = true) (y30 : Slot) (hy30 : one1 y30 = true) (y31 : Slot) (hy31 : one1 y31 = true) (y32 : Slot) (hy32 : one1 y32 = true) (y33 : Slot) (hy33 : one1 y33 = true) (y34 : Slot) (hy34 : one1 y34 = true) (y35 : Slot) (hy35 : one1 y35 = true) (y36 : Slot) (hy36 : one1 y36 = true) (y37 : Slot) (hy37 : one1 y37 = true) (y38 : Slot) (hy38 : one1 y38 = true) (w : Int32 × St) (hr : f_law_229 n x0 x1 x2 x3 x4 x5 x7 x8 x9 x10 x11 x14 x15 z0 s = some w) : Ev (GG g) M_law 229 [.val (.int x0), .val (.int x1), .val (.int x2), .val (.int x3), .val (.int x4), .val (.int x5), .val (.ref o), .val (.int x7), .val (.int x8), .val (.int x9), .val (.int x10), .val (.int x11), y12, y13, .val (.int x14), .val (.int x15), y16, y17, y18, y19, y20, y21, y22, y23, y24, y25, y26, y27, y28, y29, y30, y31, y32, y33, y34, y35, y36, y37, y38] [.int z0] (K s) ((some (.int w.1)), (K w.2)) := by
  unfold f_law_229 at hr
  refine Ev.istD (L' := [.val (.int x0), .val (.int x1), .val (.int x2), .val (.int x3), .val (.int x4), .val (.int x5), .val (.ref o), .val (.int x7), .val (.int x8), .val (.int x9), .val (.int x10), .val (.int x11), y12, y13, .val (.int x14), .val (.int x15), .val (.int z0), y17, y18, y19, y20, y21, y22, y23, y24, y25, y26, y27, y28, y29, y30, y31, y32, y33, y34, y35, y36, y37, y38]) at_229 rfl hy16 rfl ?_
  refine Ev.iload at_231 rfl ?_
  refine Ev.ifle (t := 243) at_233 rfl (fun c1 => ?_) (fun c1 => ?_)
  · replace hr := (if_pos c1).symm.trans hr
    refine Ev.iconst (z := 1) at_236 rfl ?_
    refine Ev.iload at_237 rfl ?_
    refine Ev.ishl at_239 ?_
    refine Ev.goto (t := 244) at_240 rfl ?_
    exact e_law_244 hw V  x0 x1 x2 x3 x4 x5 x7 x8 x9 x10 x11 x14 x15 z0 ((1 : Int32) <<< (x5 &&& 31)) s y12 hy12 y13 hy13 y17 hy17 y18 hy18 y19 hy19 y20 hy20 y21 hy21 y22 hy22 y23 hy23 y24 hy24 y25 hy25 y26 hy26 y27 hy27 y28 hy28 y29 hy29 y30 hy30 y31 hy31 y32 hy32 y33 hy33 y34 hy34 y35 hy35 y36 hy36 y37 hy37 y38 hy38 _ hr
  · replace hr := (if_neg c1).symm.trans hr
    refine Ev.iconst (z := 0) at_243 rfl ?_
    exact e_law_244 hw V  x0 x1 x2 x3 x4 x5 x7 x8 x9 x10 x11 x14 x15 z0 (0 : Int32) s y12 hy12 y13 hy13 y17 hy17 y18 hy18 y19 hy19 y20 hy20 y21 hy21 y22 hy22 y23 hy23 y24 hy24 y25 hy25 y26 hy26 y27 hy27 y28 hy28 y29 hy29 y30 hy30 y31 hy31 y32 hy32 y33 hy33 y34 hy34 y35 hy35 y36 hy36 y37 hy37 y38 hy38 _ hr
def f_law_213 (n : Nat) (x0 : Int32) (x1 : Int32) (x2 : Int32) (x3 : Int32) (x4 : Int32) (x5 : Int32) (x7 : Int32) (x8 : Int32) (x9 : Int32) (x10 : Int32) (x11 : Int32) (x14 : Int32) (z0 : Int32) (z1 : Int32) (s : St) : Option (Int32 × St) :=
  if 0 < x14 then
    f_law_229 n x0 x1 x2 x3 x4 x5 x7 x8 x9 x10 x11 x14 (z1 ||| z0) ((1 : Int32) <<< (x4 &&& 31)) s
  else
    f_law_229 n x0 x1 x2 x3 x4 x5 x7 x8 x9 x10 x11 x14 (z1 ||| z0) (0 : Int32) s
set_option maxRecDepth 100000 in
theorem e_law_213 {g : GT} {n : Nat} (hw : HW g) {K : St → MHeap} {o : Nat} {r : Nat → Nat} (V : View (GG g) Ln K o r) (x0 : Int32) (x1 : Int32) (x2 : Int32) (x3 : Int32) (x4 : Int32) (x5 : Int32) (x7 : Int32) (x8 : Int32) (x9 : Int32) (x10 : Int32) (x11 : Int32) (x14 : Int32) (z0 : Int32) (z1 : Int32) (s : St) (y12 : Slot) (hy12 : one1 y12 = true) (y13 : Slot) (hy13 : one1 y13 = true) (y15 : Slot) (hy15 : one1 y15 = true) (y16 : Slot) (hy16 : one1 y16 = true) (y17 : Slot) (hy17 : one1 y17 = true) (y18 : Slot) (hy18 : one1 y18 = true) (y19 : Slot) (hy19 : one1 y19 = true) (y20 : Slot) (hy20 : one1 y20 = true) (y21 : Slot) (hy21 : one1 y21 = true) (y22 : Slot) (hy22 : one1 y22 = true) (y23 : Slot) (hy23 : one1 y23 = true) (y24 : Slot) (hy24 : one1 y24 = true) (y25 : Slot) (hy25 : one1 y25 = true) (y26 : Slot) (hy26 : one1 y26 = true) (y27 : Slot) (hy27 : one1 y27 = true) (y28 : Slot) (hy28 : one1 y28 = true) (y29 : Slot) (hy29 : one1 y29 = true) (y30 : Slot) (hy30 : one1 y30 = true) (y31 : Slot) (hy31 : one1 y31 = true) (y32 : Slot) (hy32 : one1 y32 = true) (y33 : Slot) (hy33 : one1 y33 = true) (y34 : Slot) (hy34 : one1 y34 = true) (y35 : Slot) (hy35 : one1 y35 = true) (y36 : Slot) (hy36 : one1 y36 = true) (y37 : Slot) (hy37 : one1 y37 = true) (y38 : Slot) (hy38 : one1 y38 = true) (w : Int32 × St) (hr : f_law_213 n x0 x1 x2 x3 x4 x5 x7 x8 x9 x10 x11 x14 z0 z1 s = some w) : Ev (GG g) M_law 213 [.val (.int x0), .val (.int x1), .val (.int x2), .val (.int x3), .val (.int x4), .val (.int x5), .val (.ref o), .val (.int x7), .val (.int x8), .val (.int x9), .val (.int x10), .val (.int x11), y12, y13, .val (.int x14), y15, y16, y17, y18, y19, y20, y21, y22, y23, y24, y25, y26, y27, y28, y29, y30, y31, y32, y33, y34, y35, y36, y37, y38] [.int z0, .int z1] (K s) ((some (.int w.1)), (K w.2)) := by
  unfold f_law_213 at hr
  refine Ev.ior at_213 ?_
  refine Ev.istD (L' := [.val (.int x0), .val (.int x1), .val (.int x2), .val (.int x3), .val (.int x4), .val (.int x5), .val (.ref o), .val (.int x7), .val (.int x8), .val (.int x9), .val (.int x10), .val (.int x11), y12, y13, .val (.int x14), .val (.int (z1 ||| z0)), y16, y17, y18, y19, y20, y21, y22, y23, y24, y25, y26, y27, y28, y29, y30, y31, y32, y33, y34, y35, y36, y37, y38]) at_214 rfl hy15 rfl ?_
  refine Ev.iload at_216 rfl ?_
  refine Ev.ifle (t := 228) at_218 rfl (fun c1 => ?_) (fun c1 => ?_)
  · replace hr := (if_pos c1).symm.trans hr
    refine Ev.iconst (z := 1) at_221 rfl ?_
    refine Ev.iload at_222 rfl ?_
    refine Ev.ishl at_224 ?_
    refine Ev.goto (t := 229) at_225 rfl ?_
    exact e_law_229 hw V  x0 x1 x2 x3 x4 x5 x7 x8 x9 x10 x11 x14 (z1 ||| z0) ((1 : Int32) <<< (x4 &&& 31)) s y12 hy12 y13 hy13 y16 hy16 y17 hy17 y18 hy18 y19 hy19 y20 hy20 y21 hy21 y22 hy22 y23 hy23 y24 hy24 y25 hy25 y26 hy26 y27 hy27 y28 hy28 y29 hy29 y30 hy30 y31 hy31 y32 hy32 y33 hy33 y34 hy34 y35 hy35 y36 hy36 y37 hy37 y38 hy38 _ hr
  · replace hr := (if_neg c1).symm.trans hr
    refine Ev.iconst (z := 0) at_228 rfl ?_
    exact e_law_229 hw V  x0 x1 x2 x3 x4 x5 x7 x8 x9 x10 x11 x14 (z1 ||| z0) (0 : Int32) s y12 hy12 y13 hy13 y16 hy16 y17 hy17 y18 hy18 y19 hy19 y20 hy20 y21 hy21 y22 hy22 y23 hy23 y24 hy24 y25 hy25 y26 hy26 y27 hy27 y28 hy28 y29 hy29 y30 hy30 y31 hy31 y32 hy32 y33 hy33 y34 hy34 y35 hy35 y36 hy36 y37 hy37 y38 hy38 _ hr
def f_law_201 (n : Nat) (x0 : Int32) (x1 : Int32) (x2 : Int32) (x3 : Int32) (x4 : Int32) (x5 : Int32) (x7 : Int32) (x8 : Int32) (x9 : Int32) (x10 : Int32) (x11 : Int32) (x13 : Int32) (x14 : Int32) (z0 : Int32) (s : St) : Option (Int32 × St) :=
  if x13 = 0 then
    f_law_213 n x0 x1 x2 x3 x4 x5 x7 x8 x9 x10 x11 x14 (0 : Int32) z0 s
  else
    f_law_213 n x0 x1 x2 x3 x4 x5 x7 x8 x9 x10 x11 x14 ((1 : Int32) <<< (x2 &&& 31)) z0 s
set_option maxRecDepth 100000 in
theorem e_law_201 {g : GT} {n : Nat} (hw : HW g) {K : St → MHeap} {o : Nat} {r : Nat → Nat} (V : View (GG g) Ln K o r) (x0 : Int32) (x1 : Int32) (x2 : Int32) (x3 : Int32) (x4 : Int32) (x5 : Int32) (x7 : Int32) (x8 : Int32) (x9 : Int32) (x10 : Int32) (x11 : Int32) (x13 : Int32) (x14 : Int32) (z0 : Int32) (s : St) (y12 : Slot) (hy12 : one1 y12 = true) (y15 : Slot) (hy15 : one1 y15 = true) (y16 : Slot) (hy16 : one1 y16 = true) (y17 : Slot) (hy17 : one1 y17 = true) (y18 : Slot) (hy18 : one1 y18 = true) (y19 : Slot) (hy19 : one1 y19 = true) (y20 : Slot) (hy20 : one1 y20 = true) (y21 : Slot) (hy21 : one1 y21 = true) (y22 : Slot) (hy22 : one1 y22 = true) (y23 : Slot) (hy23 : one1 y23 = true) (y24 : Slot) (hy24 : one1 y24 = true) (y25 : Slot) (hy25 : one1 y25 = true) (y26 : Slot) (hy26 : one1 y26 = true) (y27 : Slot) (hy27 : one1 y27 = true) (y28 : Slot) (hy28 : one1 y28 = true) (y29 : Slot) (hy29 : one1 y29 = true) (y30 : Slot) (hy30 : one1 y30 = true) (y31 : Slot) (hy31 : one1 y31 = true) (y32 : Slot) (hy32 : one1 y32 = true) (y33 : Slot) (hy33 : one1 y33 = true) (y34 : Slot) (hy34 : one1 y34 = true) (y35 : Slot) (hy35 : one1 y35 = true) (y36 : Slot) (hy36 : one1 y36 = true) (y37 : Slot) (hy37 : one1 y37 = true) (y38 : Slot) (hy38 : one1 y38 = true) (w : Int32 × St) (hr : f_law_201 n x0 x1 x2 x3 x4 x5 x7 x8 x9 x10 x11 x13 x14 z0 s = some w) : Ev (GG g) M_law 201 [.val (.int x0), .val (.int x1), .val (.int x2), .val (.int x3), .val (.int x4), .val (.int x5), .val (.ref o), .val (.int x7), .val (.int x8), .val (.int x9), .val (.int x10), .val (.int x11), y12, .val (.int x13), .val (.int x14), y15, y16, y17, y18, y19, y20, y21, y22, y23, y24, y25, y26, y27, y28, y29, y30, y31, y32, y33, y34, y35, y36, y37, y38] [.int z0] (K s) ((some (.int w.1)), (K w.2)) := by
  unfold f_law_201 at hr
  refine Ev.iload at_201 rfl ?_
  refine Ev.ifeq (t := 212) at_203 rfl (fun c1 => ?_) (fun c1 => ?_)
  · replace hr := (if_pos c1).symm.trans hr
    refine Ev.iconst (z := 0) at_212 rfl ?_
    exact e_law_213 hw V  x0 x1 x2 x3 x4 x5 x7 x8 x9 x10 x11 x14 (0 : Int32) z0 s y12 hy12 (.val (.int x13)) rfl y15 hy15 y16 hy16 y17 hy17 y18 hy18 y19 hy19 y20 hy20 y21 hy21 y22 hy22 y23 hy23 y24 hy24 y25 hy25 y26 hy26 y27 hy27 y28 hy28 y29 hy29 y30 hy30 y31 hy31 y32 hy32 y33 hy33 y34 hy34 y35 hy35 y36 hy36 y37 hy37 y38 hy38 _ hr
  · replace hr := (if_neg c1).symm.trans hr
    refine Ev.iconst (z := 1) at_206 rfl ?_
    refine Ev.iloadN at_207 rfl ?_
    refine Ev.ishl at_208 ?_
    refine Ev.goto (t := 213) at_209 rfl ?_
    exact e_law_213 hw V  x0 x1 x2 x3 x4 x5 x7 x8 x9 x10 x11 x14 ((1 : Int32) <<< (x2 &&& 31)) z0 s y12 hy12 (.val (.int x13)) rfl y15 hy15 y16 hy16 y17 hy17 y18 hy18 y19 hy19 y20 hy20 y21 hy21 y22 hy22 y23 hy23 y24 hy24 y25 hy25 y26 hy26 y27 hy27 y28 hy28 y29 hy29 y30 hy30 y31 hy31 y32 hy32 y33 hy33 y34 hy34 y35 hy35 y36 hy36 y37 hy37 y38 hy38 _ hr
def f_law_186 (n : Nat) (x0 : Int32) (x1 : Int32) (x2 : Int32) (x3 : Int32) (x4 : Int32) (x5 : Int32) (x7 : Int32) (x8 : Int32) (x9 : Int32) (x10 : Int32) (x11 : Int32) (x12 : Int32) (x13 : Int32) (z0 : Int32) (z1 : Int32) (s : St) : Option (Int32 × St) :=
  if x12 = 0 then
    f_law_201 n x0 x1 x2 x3 x4 x5 x7 x8 x9 x10 x11 x13 (z1 + z0) (0 : Int32) s
  else
    f_law_201 n x0 x1 x2 x3 x4 x5 x7 x8 x9 x10 x11 x13 (z1 + z0) ((1 : Int32) <<< (x0 &&& 31)) s
set_option maxRecDepth 100000 in
theorem e_law_186 {g : GT} {n : Nat} (hw : HW g) {K : St → MHeap} {o : Nat} {r : Nat → Nat} (V : View (GG g) Ln K o r) (x0 : Int32) (x1 : Int32) (x2 : Int32) (x3 : Int32) (x4 : Int32) (x5 : Int32) (x7 : Int32) (x8 : Int32) (x9 : Int32) (x10 : Int32) (x11 : Int32) (x12 : Int32) (x13 : Int32) (z0 : Int32) (z1 : Int32) (s : St) (y14 : Slot) (hy14 : one1 y14 = true) (y15 : Slot) (hy15 : one1 y15 = true) (y16 : Slot) (hy16 : one1 y16 = true) (y17 : Slot) (hy17 : one1 y17 = true) (y18 : Slot) (hy18 : one1 y18 = true) (y19 : Slot) (hy19 : one1 y19 = true) (y20 : Slot) (hy20 : one1 y20 = true) (y21 : Slot) (hy21 : one1 y21 = true) (y22 : Slot) (hy22 : one1 y22 = true) (y23 : Slot) (hy23 : one1 y23 = true) (y24 : Slot) (hy24 : one1 y24 = true) (y25 : Slot) (hy25 : one1 y25 = true) (y26 : Slot) (hy26 : one1 y26 = true) (y27 : Slot) (hy27 : one1 y27 = true) (y28 : Slot) (hy28 : one1 y28 = true) (y29 : Slot) (hy29 : one1 y29 = true) (y30 : Slot) (hy30 : one1 y30 = true) (y31 : Slot) (hy31 : one1 y31 = true) (y32 : Slot) (hy32 : one1 y32 = true) (y33 : Slot) (hy33 : one1 y33 = true) (y34 : Slot) (hy34 : one1 y34 = true) (y35 : Slot) (hy35 : one1 y35 = true) (y36 : Slot) (hy36 : one1 y36 = true) (y37 : Slot) (hy37 : one1 y37 = true) (y38 : Slot) (hy38 : one1 y38 = true) (w : Int32 × St) (hr : f_law_186 n x0 x1 x2 x3 x4 x5 x7 x8 x9 x10 x11 x12 x13 z0 z1 s = some w) : Ev (GG g) M_law 186 [.val (.int x0), .val (.int x1), .val (.int x2), .val (.int x3), .val (.int x4), .val (.int x5), .val (.ref o), .val (.int x7), .val (.int x8), .val (.int x9), .val (.int x10), .val (.int x11), .val (.int x12), .val (.int x13), y14, y15, y16, y17, y18, y19, y20, y21, y22, y23, y24, y25, y26, y27, y28, y29, y30, y31, y32, y33, y34, y35, y36, y37, y38] [.int z0, .int z1] (K s) ((some (.int w.1)), (K w.2)) := by
  unfold f_law_186 at hr
  refine Ev.iadd at_186 ?_
  refine Ev.istD (L' := [.val (.int x0), .val (.int x1), .val (.int x2), .val (.int x3), .val (.int x4), .val (.int x5), .val (.ref o), .val (.int x7), .val (.int x8), .val (.int x9), .val (.int x10), .val (.int x11), .val (.int x12), .val (.int x13), .val (.int (z1 + z0)), y15, y16, y17, y18, y19, y20, y21, y22, y23, y24, y25, y26, y27, y28, y29, y30, y31, y32, y33, y34, y35, y36, y37, y38]) at_187 rfl hy14 rfl ?_
  refine Ev.iload at_189 rfl ?_
  refine Ev.ifeq (t := 200) at_191 rfl (fun c1 => ?_) (fun c1 => ?_)
  · replace hr := (if_pos c1).symm.trans hr
    refine Ev.iconst (z := 0) at_200 rfl ?_
    exact e_law_201 hw V  x0 x1 x2 x3 x4 x5 x7 x8 x9 x10 x11 x13 (z1 + z0) (0 : Int32) s (.val (.int x12)) rfl y15 hy15 y16 hy16 y17 hy17 y18 hy18 y19 hy19 y20 hy20 y21 hy21 y22 hy22 y23 hy23 y24 hy24 y25 hy25 y26 hy26 y27 hy27 y28 hy28 y29 hy29 y30 hy30 y31 hy31 y32 hy32 y33 hy33 y34 hy34 y35 hy35 y36 hy36 y37 hy37 y38 hy38 _ hr
  · replace hr := (if_neg c1).symm.trans hr
    refine Ev.iconst (z := 1) at_194 rfl ?_
    refine Ev.iloadN at_195 rfl ?_
    refine Ev.ishl at_196 ?_
    refine Ev.goto (t := 201) at_197 rfl ?_
    exact e_law_201 hw V  x0 x1 x2 x3 x4 x5 x7 x8 x9 x10 x11 x13 (z1 + z0) ((1 : Int32) <<< (x0 &&& 31)) s (.val (.int x12)) rfl y15 hy15 y16 hy16 y17 hy17 y18 hy18 y19 hy19 y20 hy20 y21 hy21 y22 hy22 y23 hy23 y24 hy24 y25 hy25 y26 hy26 y27 hy27 y28 hy28 y29 hy29 y30 hy30 y31 hy31 y32 hy32 y33 hy33 y34 hy34 y35 hy35 y36 hy36 y37 hy37 y38 hy38 _ hr
def f_law_176 (n : Nat) (x0 : Int32) (x1 : Int32) (x2 : Int32) (x3 : Int32) (x4 : Int32) (x5 : Int32) (x7 : Int32) (x8 : Int32) (x9 : Int32) (x10 : Int32) (x11 : Int32) (x12 : Int32) (x13 : Int32) (z0 : Int32) (s : St) : Option (Int32 × St) :=
  if x13 = 0 then
    f_law_186 n x0 x1 x2 x3 x4 x5 x7 x8 x9 x10 x11 x12 x13 (0 : Int32) z0 s
  else
    f_law_186 n x0 x1 x2 x3 x4 x5 x7 x8 x9 x10 x11 x12 x13 (1 : Int32) z0 s
set_option maxRecDepth 100000 in
theorem e_law_176 {g : GT} {n : Nat} (hw : HW g) {K : St → MHeap} {o : Nat} {r : Nat → Nat} (V : View (GG g) Ln K o r) (x0 : Int32) (x1 : Int32) (x2 : Int32) (x3 : Int32) (x4 : Int32) (x5 : Int32) (x7 : Int32) (x8 : Int32) (x9 : Int32) (x10 : Int32) (x11 : Int32) (x12 : Int32) (x13 : Int32) (z0 : Int32) (s : St) (y14 : Slot) (hy14 : one1 y14 = true) (y15 : Slot) (hy15 : one1 y15 = true) (y16 : Slot) (hy16 : one1 y16 = true) (y17 : Slot) (hy17 : one1 y17 = true) (y18 : Slot) (hy18 : one1 y18 = true) (y19 : Slot) (hy19 : one1 y19 = true) (y20 : Slot) (hy20 : one1 y20 = true) (y21 : Slot) (hy21 : one1 y21 = true) (y22 : Slot) (hy22 : one1 y22 = true) (y23 : Slot) (hy23 : one1 y23 = true) (y24 : Slot) (hy24 : one1 y24 = true) (y25 : Slot) (hy25 : one1 y25 = true) (y26 : Slot) (hy26 : one1 y26 = true) (y27 : Slot) (hy27 : one1 y27 = true) (y28 : Slot) (hy28 : one1 y28 = true) (y29 : Slot) (hy29 : one1 y29 = true) (y30 : Slot) (hy30 : one1 y30 = true) (y31 : Slot) (hy31 : one1 y31 = true) (y32 : Slot) (hy32 : one1 y32 = true) (y33 : Slot) (hy33 : one1 y33 = true) (y34 : Slot) (hy34 : one1 y34 = true) (y35 : Slot) (hy35 : one1 y35 = true) (y36 : Slot) (hy36 : one1 y36 = true) (y37 : Slot) (hy37 : one1 y37 = true) (y38 : Slot) (hy38 : one1 y38 = true) (w : Int32 × St) (hr : f_law_176 n x0 x1 x2 x3 x4 x5 x7 x8 x9 x10 x11 x12 x13 z0 s = some w) : Ev (GG g) M_law 176 [.val (.int x0), .val (.int x1), .val (.int x2), .val (.int x3), .val (.int x4), .val (.int x5), .val (.ref o), .val (.int x7), .val (.int x8), .val (.int x9), .val (.int x10), .val (.int x11), .val (.int x12), .val (.int x13), y14, y15, y16, y17, y18, y19, y20, y21, y22, y23, y24, y25, y26, y27, y28, y29, y30, y31, y32, y33, y34, y35, y36, y37, y38] [.int z0] (K s) ((some (.int w.1)), (K w.2)) := by
  unfold f_law_176 at hr
  refine Ev.iload at_176 rfl ?_
  refine Ev.ifeq (t := 185) at_178 rfl (fun c1 => ?_) (fun c1 => ?_)
  · replace hr := (if_pos c1).symm.trans hr
    refine Ev.iconst (z := 0) at_185 rfl ?_
    exact e_law_186 hw V  x0 x1 x2 x3 x4 x5 x7 x8 x9 x10 x11 x12 x13 (0 : Int32) z0 s y14 hy14 y15 hy15 y16 hy16 y17 hy17 y18 hy18 y19 hy19 y20 hy20 y21 hy21 y22 hy22 y23 hy23 y24 hy24 y25 hy25 y26 hy26 y27 hy27 y28 hy28 y29 hy29 y30 hy30 y31 hy31 y32 hy32 y33 hy33 y34 hy34 y35 hy35 y36 hy36 y37 hy37 y38 hy38 _ hr
  · replace hr := (if_neg c1).symm.trans hr
    refine Ev.iconst (z := 1) at_181 rfl ?_
    refine Ev.goto (t := 186) at_182 rfl ?_
    exact e_law_186 hw V  x0 x1 x2 x3 x4 x5 x7 x8 x9 x10 x11 x12 x13 (1 : Int32) z0 s y14 hy14 y15 hy15 y16 hy16 y17 hy17 y18 hy18 y19 hy19 y20 hy20 y21 hy21 y22 hy22 y23 hy23 y24 hy24 y25 hy25 y26 hy26 y27 hy27 y28 hy28 y29 hy29 y30 hy30 y31 hy31 y32 hy32 y33 hy33 y34 hy34 y35 hy35 y36 hy36 y37 hy37 y38 hy38 _ hr
def f_law_164 (n : Nat) (x0 : Int32) (x1 : Int32) (x2 : Int32) (x3 : Int32) (x4 : Int32) (x5 : Int32) (x7 : Int32) (x8 : Int32) (x9 : Int32) (x10 : Int32) (x11 : Int32) (x12 : Int32) (z0 : Int32) (s : St) : Option (Int32 × St) :=
  if x12 = 0 then
    f_law_176 n x0 x1 x2 x3 x4 x5 x7 x8 x9 x10 x11 x12 z0 (0 : Int32) s
  else
    f_law_176 n x0 x1 x2 x3 x4 x5 x7 x8 x9 x10 x11 x12 z0 (1 : Int32) s
set_option maxRecDepth 100000 in
theorem e_law_164 {g : GT} {n : Nat} (hw : HW g) {K : St → MHeap} {o : Nat} {r : Nat → Nat} (V : View (GG g) Ln K o r) (x0 : Int32) (x1 : Int32) (x2 : Int32) (x3 : Int32) (x4 : Int32) (x5 : Int32) (x7 : Int32) (x8 : Int32) (x9 : Int32) (x10 : Int32) (x11 : Int32) (x12 : Int32) (z0 : Int32) (s : St) (y13 : Slot) (hy13 : one1 y13 = true) (y14 : Slot) (hy14 : one1 y14 = true) (y15 : Slot) (hy15 : one1 y15 = true) (y16 : Slot) (hy16 : one1 y16 = true) (y17 : Slot) (hy17 : one1 y17 = true) (y18 : Slot) (hy18 : one1 y18 = true) (y19 : Slot) (hy19 : one1 y19 = true) (y20 : Slot) (hy20 : one1 y20 = true) (y21 : Slot) (hy21 : one1 y21 = true) (y22 : Slot) (hy22 : one1 y22 = true) (y23 : Slot) (hy23 : one1 y23 = true) (y24 : Slot) (hy24 : one1 y24 = true) (y25 : Slot) (hy25 : one1 y25 = true) (y26 : Slot) (hy26 : one1 y26 = true) (y27 : Slot) (hy27 : one1 y27 = true) (y28 : Slot) (hy28 : one1 y28 = true) (y29 : Slot) (hy29 : one1 y29 = true) (y30 : Slot) (hy30 : one1 y30 = true) (y31 : Slot) (hy31 : one1 y31 = true) (y32 : Slot) (hy32 : one1 y32 = true) (y33 : Slot) (hy33 : one1 y33 = true) (y34 : Slot) (hy34 : one1 y34 = true) (y35 : Slot) (hy35 : one1 y35 = true) (y36 : Slot) (hy36 : one1 y36 = true) (y37 : Slot) (hy37 : one1 y37 = true) (y38 : Slot) (hy38 : one1 y38 = true) (w : Int32 × St) (hr : f_law_164 n x0 x1 x2 x3 x4 x5 x7 x8 x9 x10 x11 x12 z0 s = some w) : Ev (GG g) M_law 164 [.val (.int x0), .val (.int x1), .val (.int x2), .val (.int x3), .val (.int x4), .val (.int x5), .val (.ref o), .val (.int x7), .val (.int x8), .val (.int x9), .val (.int x10), .val (.int x11), .val (.int x12), y13, y14, y15, y16, y17, y18, y19, y20, y21, y22, y23, y24, y25, y26, y27, y28, y29, y30, y31, y32, y33, y34, y35, y36, y37, y38] [.int z0] (K s) ((some (.int w.1)), (K w.2)) := by
  unfold f_law_164 at hr
  refine Ev.istD (L' := [.val (.int x0), .val (.int x1), .val (.int x2), .val (.int x3), .val (.int x4), .val (.int x5), .val (.ref o), .val (.int x7), .val (.int x8), .val (.int x9), .val (.int x10), .val (.int x11), .val (.int x12), .val (.int z0), y14, y15, y16, y17, y18, y19, y20, y21, y22, y23, y24, y25, y26, y27, y28, y29, y30, y31, y32, y33, y34, y35, y36, y37, y38]) at_164 rfl hy13 rfl ?_
  refine Ev.iload at_166 rfl ?_
  refine Ev.ifeq (t := 175) at_168 rfl (fun c1 => ?_) (fun c1 => ?_)
  · replace hr := (if_pos c1).symm.trans hr
    refine Ev.iconst (z := 0) at_175 rfl ?_
    exact e_law_176 hw V  x0 x1 x2 x3 x4 x5 x7 x8 x9 x10 x11 x12 z0 (0 : Int32) s y14 hy14 y15 hy15 y16 hy16 y17 hy17 y18 hy18 y19 hy19 y20 hy20 y21 hy21 y22 hy22 y23 hy23 y24 hy24 y25 hy25 y26 hy26 y27 hy27 y28 hy28 y29 hy29 y30 hy30 y31 hy31 y32 hy32 y33 hy33 y34 hy34 y35 hy35 y36 hy36 y37 hy37 y38 hy38 _ hr
  · replace hr := (if_neg c1).symm.trans hr
    refine Ev.iconst (z := 1) at_171 rfl ?_
    refine Ev.goto (t := 176) at_172 rfl ?_
    exact e_law_176 hw V  x0 x1 x2 x3 x4 x5 x7 x8 x9 x10 x11 x12 z0 (1 : Int32) s y14 hy14 y15 hy15 y16 hy16 y17 hy17 y18 hy18 y19 hy19 y20 hy20 y21 hy21 y22 hy22 y23 hy23 y24 hy24 y25 hy25 y26 hy26 y27 hy27 y28 hy28 y29 hy29 y30 hy30 y31 hy31 y32 hy32 y33 hy33 y34 hy34 y35 hy35 y36 hy36 y37 hy37 y38 hy38 _ hr
def f_law_141 (n : Nat) (x0 : Int32) (x1 : Int32) (x2 : Int32) (x3 : Int32) (x4 : Int32) (x5 : Int32) (x7 : Int32) (x8 : Int32) (x9 : Int32) (x10 : Int32) (x11 : Int32) (z0 : Int32) (s : St) : Option (Int32 × St) :=
  if x10 = 0 then
    f_law_164 n x0 x1 x2 x3 x4 x5 x7 x8 x9 x10 x11 z0 (0 : Int32) s
  else
    if x11 = 0 then
      f_law_164 n x0 x1 x2 x3 x4 x5 x7 x8 x9 x10 x11 z0 (0 : Int32) s
    else
      if x3 = x4 then
        f_law_164 n x0 x1 x2 x3 x4 x5 x7 x8 x9 x10 x11 z0 (1 : Int32) s
      else
        f_law_164 n x0 x1 x2 x3 x4 x5 x7 x8 x9 x10 x11 z0 (0 : Int32) s
set_option maxRecDepth 100000 in
theorem e_law_141 {g : GT} {n : Nat} (hw : HW g) {K : St → MHeap} {o : Nat} {r : Nat → Nat} (V : View (GG g) Ln K o r) (x0 : Int32) (x1 : Int32) (x2 : Int32) (x3 : Int32) (x4 : Int32) (x5 : Int32) (x7 : Int32) (x8 : Int32) (x9 : Int32) (x10 : Int32) (x11 : Int32) (z0 : Int32) (s : St) (y12 : Slot) (hy12 : one1 y12 = true) (y13 : Slot) (hy13 : one1 y13 = true) (y14 : Slot) (hy14 : one1 y14 = true) (y15 : Slot) (hy15 : one1 y15 = true) (y16 : Slot) (hy16 : one1 y16 = true) (y17 : Slot) (hy17 : one1 y17 = true) (y18 : Slot) (hy18 : one1 y18 = true) (y19 : Slot) (hy19 : one1 y19 = true) (y20 : Slot) (hy20 : one1 y20 = true) (y21 : Slot) (hy21 : one1 y21 = true) (y22 : Slot) (hy22 : one1 y22 = true) (y23 : Slot) (hy23 : one1 y23 = true) (y24 : Slot) (hy24 : one1 y24 = true) (y25 : Slot) (hy25 : one1 y25 = true) (y26 : Slot) (hy26 : one1 y26 = true) (y27 : Slot) (hy27 : one1 y27 = true) (y28 : Slot) (hy28 : one1 y28 = true) (y29 : Slot) (hy29 : one1 y29 = true) (y30 : Slot) (hy30 : one1 y30 = true) (y31 : Slot) (hy31 : one1 y31 = true) (y32 : Slot) (hy32 : one1 y32 = true) (y33 : Slot) (hy33 : one1 y33 = true) (y34 : Slot) (hy34 : one1 y34 = true) (y35 : Slot) (hy35 : one1 y35 = true) (y36 : Slot) (hy36 : one1 y36 = true) (y37 : Slot) (hy37 : one1 y37 = true) (y38 : Slot) (hy38 : one1 y38 = true) (w : Int32 × St) (hr : f_law_141 n x0 x1 x2 x3 x4 x5 x7 x8 x9 x10 x11 z0 s = some w) : Ev (GG g) M_law 141 [.val (.int x0), .val (.int x1), .val (.int x2), .val (.int x3), .val (.int x4), .val (.int x5), .val (.ref o), .val (.int x7), .val (.int x8), .val (.int x9), .val (.int x10), .val (.int x11), y12, y13, y14, y15, y16, y17, y18, y19, y20, y21, y22, y23, y24, y25, y26, y27, y28, y29, y30, y31, y32, y33, y34, y35, y36, y37, y38] [.int z0] (K s) ((some (.int w.1)), (K w.2)) := by
  unfold f_law_141 at hr
  refine Ev.istD (L' := [.val (.int x0), .val (.int x1), .val (.int x2), .val (.int x3), .val (.int x4), .val (.int x5), .val (.ref o), .val (.int x7), .val (.int x8), .val (.int x9), .val (.int x10), .val (.int x11), .val (.int z0), y13, y14, y15, y16, y17, y18, y19, y20, y21, y22, y23, y24, y25, y26, y27, y28, y29, y30, y31, y32, y33, y34, y35, y36, y37, y38]) at_141 rfl hy12 rfl ?_
  refine Ev.iload at_143 rfl ?_
  refine Ev.ifeq (t := 163) at_145 rfl (fun c1 => ?_) (fun c1 => ?_)
  · replace hr := (if_pos c1).symm.trans hr
    refine Ev.iconst (z := 0) at_163 rfl ?_
    exact e_law_164 hw V  x0 x1 x2 x3 x4 x5 x7 x8 x9 x10 x11 z0 (0 : Int32) s y13 hy13 y14 hy14 y15 hy15 y16 hy16 y17 hy17 y18 hy18 y19 hy19 y20 hy20 y21 hy21 y22 hy22 y23 hy23 y24 hy24 y25 hy25 y26 hy26 y27 hy27 y28 hy28 y29 hy29 y30 hy30 y31 hy31 y32 hy32 y33 hy33 y34 hy34 y35 hy35 y36 hy36 y37 hy37 y38 hy38 _ hr
  · replace hr := (if_neg c1).symm.trans hr
    refine Ev.iload at_148 rfl ?_
    refine Ev.ifeq (t := 163) at_150 rfl (fun c2 => ?_) (fun c2 => ?_)
    · replace hr := (if_pos c2).symm.trans hr
      refine Ev.iconst (z := 0) at_163 rfl ?_
      exact e_law_164 hw V  x0 x1 x2 x3 x4 x5 x7 x8 x9 x10 x11 z0 (0 : Int32) s y13 hy13 y14 hy14 y15 hy15 y16 hy16 y17 hy17 y18 hy18 y19 hy19 y20 hy20 y21 hy21 y22 hy22 y23 hy23 y24 hy24 y25 hy25 y26 hy26 y27 hy27 y28 hy28 y29 hy29 y30 hy30 y31 hy31 y32 hy32 y33 hy33 y34 hy34 y35 hy35 y36 hy36 y37 hy37 y38 hy38 _ hr
    · replace hr := (if_neg c2).symm.trans hr
      refine Ev.iloadN at_153 rfl ?_
      refine Ev.iload at_154 rfl ?_
      refine Ev.icne (t := 163) at_156 rfl (fun c3 => ?_) (fun c3 => ?_)
      · replace hr := (if_pos c3).symm.trans hr
        refine Ev.iconst (z := 1) at_159 rfl ?_
        refine Ev.goto (t := 164) at_160 rfl ?_
        exact e_law_164 hw V  x0 x1 x2 x3 x4 x5 x7 x8 x9 x10 x11 z0 (1 : Int32) s y13 hy13 y14 hy14 y15 hy15 y16 hy16 y17 hy17 y18 hy18 y19 hy19 y20 hy20 y21 hy21 y22 hy22 y23 hy23 y24 hy24 y25 hy25 y26 hy26 y27 hy27 y28 hy28 y29 hy29 y30 hy30 y31 hy31 y32 hy32 y33 hy33 y34 hy34 y35 hy35 y36 hy36 y37 hy37 y38 hy38 _ hr
      · replace hr := (if_neg c3).symm.trans hr
        refine Ev.iconst (z := 0) at_163 rfl ?_
        exact e_law_164 hw V  x0 x1 x2 x3 x4 x5 x7 x8 x9 x10 x11 z0 (0 : Int32) s y13 hy13 y14 hy14 y15 hy15 y16 hy16 y17 hy17 y18 hy18 y19 hy19 y20 hy20 y21 hy21 y22 hy22 y23 hy23 y24 hy24 y25 hy25 y26 hy26 y27 hy27 y28 hy28 y29 hy29 y30 hy30 y31 hy31 y32 hy32 y33 hy33 y34 hy34 y35 hy35 y36 hy36 y37 hy37 y38 hy38 _ hr
def f_law_118 (n : Nat) (x0 : Int32) (x1 : Int32) (x2 : Int32) (x3 : Int32) (x4 : Int32) (x5 : Int32) (x7 : Int32) (x8 : Int32) (x9 : Int32) (x10 : Int32) (z0 : Int32) (s : St) : Option (Int32 × St) :=
  if x7 = 0 then
    f_law_141 n x0 x1 x2 x3 x4 x5 x7 x8 x9 x10 z0 (0 : Int32) s
  else
    if z0 = 0 then
      f_law_141 n x0 x1 x2 x3 x4 x5 x7 x8 x9 x10 z0 (0 : Int32) s
    else
      if x1 = x4 then
        f_law_141 n x0 x1 x2 x3 x4 x5 x7 x8 x9 x10 z0 (1 : Int32) s
      else
        f_law_141 n x0 x1 x2 x3 x4 x5 x7 x8 x9 x10 z0 (0 : Int32) s
set_option maxRecDepth 100000 in
theorem e_law_118 {g : GT} {n : Nat} (hw : HW g) {K : St → MHeap} {o : Nat} {r : Nat → Nat} (V : View (GG g) Ln K o r) (x0 : Int32) (x1 : Int32) (x2 : Int32) (x3 : Int32) (x4 : Int32) (x5 : Int32) (x7 : Int32) (x8 : Int32) (x9 : Int32) (x10 : Int32) (z0 : Int32) (s : St) (y11 : Slot) (hy11 : one1 y11 = true) (y12 : Slot) (hy12 : one1 y12 = true) (y13 : Slot) (hy13 : one1 y13 = true) (y14 : Slot) (hy14 : one1 y14 = true) (y15 : Slot) (hy15 : one1 y15 = true) (y16 : Slot) (hy16 : one1 y16 = true) (y17 : Slot) (hy17 : one1 y17 = true) (y18 : Slot) (hy18 : one1 y18 = true) (y19 : Slot) (hy19 : one1 y19 = true) (y20 : Slot) (hy20 : one1 y20 = true) (y21 : Slot) (hy21 : one1 y21 = true) (y22 : Slot) (hy22 : one1 y22 = true) (y23 : Slot) (hy23 : one1 y23 = true) (y24 : Slot) (hy24 : one1 y24 = true) (y25 : Slot) (hy25 : one1 y25 = true) (y26 : Slot) (hy26 : one1 y26 = true) (y27 : Slot) (hy27 : one1 y27 = true) (y28 : Slot) (hy28 : one1 y28 = true) (y29 : Slot) (hy29 : one1 y29 = true) (y30 : Slot) (hy30 : one1 y30 = true) (y31 : Slot) (hy31 : one1 y31 = true) (y32 : Slot) (hy32 : one1 y32 = true) (y33 : Slot) (hy33 : one1 y33 = true) (y34 : Slot) (hy34 : one1 y34 = true) (y35 : Slot) (hy35 : one1 y35 = true) (y36 : Slot) (hy36 : one1 y36 = true) (y37 : Slot) (hy37 : one1 y37 = true) (y38 : Slot) (hy38 : one1 y38 = true) (w : Int32 × St) (hr : f_law_118 n x0 x1 x2 x3 x4 x5 x7 x8 x9 x10 z0 s = some w) : Ev (GG g) M_law 118 [.val (.int x0), .val (.int x1), .val (.int x2), .val (.int x3), .val (.int x4), .val (.int x5), .val (.ref o), .val (.int x7), .val (.int x8), .val (.int x9), .val (.int x10), y11, y12, y13, y14, y15, y16, y17, y18, y19, y20, y21, y22, y23, y24, y25, y26, y27, y28, y29, y30, y31, y32, y33, y34, y35, y36, y37, y38] [.int z0] (K s) ((some (.int w.1)), (K w.2)) := by
  unfold f_law_118 at hr
  refine Ev.istD (L' := [.val (.int x0), .val (.int x1), .val (.int x2), .val (.int x3), .val (.int x4), .val (.int x5), .val (.ref o), .val (.int x7), .val (.int x8), .val (.int x9), .val (.int x10), .val (.int z0), y12, y13, y14, y15, y16, y17, y18, y19, y20, y21, y22, y23, y24, y25, y26, y27, y28, y29, y30, y31, y32, y33, y34, y35, y36, y37, y38]) at_118 rfl hy11 rfl ?_
  refine Ev.iload at_120 rfl ?_
  refine Ev.ifeq (t := 140) at_122 rfl (fun c1 => ?_) (fun c1 => ?_)
  · replace hr := (if_pos c1).symm.trans hr
    refine Ev.iconst (z := 0) at_140 rfl ?_
    exact e_law_141 hw V  x0 x1 x2 x3 x4 x5 x7 x8 x9 x10 z0 (0 : Int32) s y12 hy12 y13 hy13 y14 hy14 y15 hy15 y16 hy16 y17 hy17 y18 hy18 y19 hy19 y20 hy20 y21 hy21 y22 hy22 y23 hy23 y24 hy24 y25 hy25 y26 hy26 y27 hy27 y28 hy28 y29 hy29 y30 hy30 y31 hy31 y32 hy32 y33 hy33 y34 hy34 y35 hy35 y36 hy36 y37 hy37 y38 hy38 _ hr
  · replace hr := (if_neg c1).symm.trans hr
    refine Ev.iload at_125 rfl ?_
    refine Ev.ifeq (t := 140) at_127 rfl (fun c2 => ?_) (fun c2 => ?_)
    · replace hr := (if_pos c2).symm.trans hr
      refine Ev.iconst (z := 0) at_140 rfl ?_
      exact e_law_141 hw V  x0 x1 x2 x3 x4 x5 x7 x8 x9 x10 z0 (0 : Int32) s y12 hy12 y13 hy13 y14 hy14 y15 hy15 y16 hy16 y17 hy17 y18 hy18 y19 hy19 y20 hy20 y21 hy21 y22 hy22 y23 hy23 y24 hy24 y25 hy25 y26 hy26 y27 hy27 y28 hy28 y29 hy29 y30 hy30 y31 hy31 y32 hy32 y33 hy33 y34 hy34 y35 hy35 y36 hy36 y37 hy37 y38 hy38 _ hr
    · replace hr := (if_neg c2).symm.trans hr
      refine Ev.iloadN at_130 rfl ?_
      refine Ev.iload at_131 rfl ?_
      refine Ev.icne (t := 140) at_133 rfl (fun c3 => ?_) (fun c3 => ?_)
      · replace hr := (if_pos c3).symm.trans hr
        refine Ev.iconst (z := 1) at_136 rfl ?_
        refine Ev.goto (t := 141) at_137 rfl ?_
        exact e_law_141 hw V  x0 x1 x2 x3 x4 x5 x7 x8 x9 x10 z0 (1 : Int32) s y12 hy12 y13 hy13 y14 hy14 y15 hy15 y16 hy16 y17 hy17 y18 hy18 y19 hy19 y20 hy20 y21 hy21 y22 hy22 y23 hy23 y24 hy24 y25 hy25 y26 hy26 y27 hy27 y28 hy28 y29 hy29 y30 hy30 y31 hy31 y32 hy32 y33 hy33 y34 hy34 y35 hy35 y36 hy36 y37 hy37 y38 hy38 _ hr
      · replace hr := (if_neg c3).symm.trans hr
        refine Ev.iconst (z := 0) at_140 rfl ?_
        exact e_law_141 hw V  x0 x1 x2 x3 x4 x5 x7 x8 x9 x10 z0 (0 : Int32) s y12 hy12 y13 hy13 y14 hy14 y15 hy15 y16 hy16 y17 hy17 y18 hy18 y19 hy19 y20 hy20 y21 hy21 y22 hy22 y23 hy23 y24 hy24 y25 hy25 y26 hy26 y27 hy27 y28 hy28 y29 hy29 y30 hy30 y31 hy31 y32 hy32 y33 hy33 y34 hy34 y35 hy35 y36 hy36 y37 hy37 y38 hy38 _ hr
def f_law_95 (n : Nat) (x0 : Int32) (x1 : Int32) (x2 : Int32) (x3 : Int32) (x4 : Int32) (x5 : Int32) (x7 : Int32) (x8 : Int32) (x9 : Int32) (z0 : Int32) (s : St) : Option (Int32 × St) :=
  (f_hin x4).bind fun q1 =>
  if q1 = 0 then
    f_law_118 n x0 x1 x2 x3 x4 x5 x7 x8 x9 z0 (0 : Int32) s
  else
    (f_hin x5).bind fun q4 =>
    if q4 = 0 then
      f_law_118 n x0 x1 x2 x3 x4 x5 x7 x8 x9 z0 (0 : Int32) s
    else
      f_law_118 n x0 x1 x2 x3 x4 x5 x7 x8 x9 z0 (1 : Int32) s
set_option maxRecDepth 100000 in
theorem e_law_95 {g : GT} {n : Nat} (hw : HW g) {K : St → MHeap} {o : Nat} {r : Nat → Nat} (V : View (GG g) Ln K o r) (x0 : Int32) (x1 : Int32) (x2 : Int32) (x3 : Int32) (x4 : Int32) (x5 : Int32) (x7 : Int32) (x8 : Int32) (x9 : Int32) (z0 : Int32) (s : St) (y10 : Slot) (hy10 : one1 y10 = true) (y11 : Slot) (hy11 : one1 y11 = true) (y12 : Slot) (hy12 : one1 y12 = true) (y13 : Slot) (hy13 : one1 y13 = true) (y14 : Slot) (hy14 : one1 y14 = true) (y15 : Slot) (hy15 : one1 y15 = true) (y16 : Slot) (hy16 : one1 y16 = true) (y17 : Slot) (hy17 : one1 y17 = true) (y18 : Slot) (hy18 : one1 y18 = true) (y19 : Slot) (hy19 : one1 y19 = true) (y20 : Slot) (hy20 : one1 y20 = true) (y21 : Slot) (hy21 : one1 y21 = true) (y22 : Slot) (hy22 : one1 y22 = true) (y23 : Slot) (hy23 : one1 y23 = true) (y24 : Slot) (hy24 : one1 y24 = true) (y25 : Slot) (hy25 : one1 y25 = true) (y26 : Slot) (hy26 : one1 y26 = true) (y27 : Slot) (hy27 : one1 y27 = true) (y28 : Slot) (hy28 : one1 y28 = true) (y29 : Slot) (hy29 : one1 y29 = true) (y30 : Slot) (hy30 : one1 y30 = true) (y31 : Slot) (hy31 : one1 y31 = true) (y32 : Slot) (hy32 : one1 y32 = true) (y33 : Slot) (hy33 : one1 y33 = true) (y34 : Slot) (hy34 : one1 y34 = true) (y35 : Slot) (hy35 : one1 y35 = true) (y36 : Slot) (hy36 : one1 y36 = true) (y37 : Slot) (hy37 : one1 y37 = true) (y38 : Slot) (hy38 : one1 y38 = true) (w : Int32 × St) (hr : f_law_95 n x0 x1 x2 x3 x4 x5 x7 x8 x9 z0 s = some w) : Ev (GG g) M_law 95 [.val (.int x0), .val (.int x1), .val (.int x2), .val (.int x3), .val (.int x4), .val (.int x5), .val (.ref o), .val (.int x7), .val (.int x8), .val (.int x9), y10, y11, y12, y13, y14, y15, y16, y17, y18, y19, y20, y21, y22, y23, y24, y25, y26, y27, y28, y29, y30, y31, y32, y33, y34, y35, y36, y37, y38] [.int z0] (K s) ((some (.int w.1)), (K w.2)) := by
  unfold f_law_95 at hr
  refine Ev.istD (L' := [.val (.int x0), .val (.int x1), .val (.int x2), .val (.int x3), .val (.int x4), .val (.int x5), .val (.ref o), .val (.int x7), .val (.int x8), .val (.int x9), .val (.int z0), y11, y12, y13, y14, y15, y16, y17, y18, y19, y20, y21, y22, y23, y24, y25, y26, y27, y28, y29, y30, y31, y32, y33, y34, y35, y36, y37, y38]) at_95 rfl hy10 rfl ?_
  refine Ev.iload at_97 rfl ?_
  obtain ⟨q1, hq2, hr⟩ := Option.bind_eq_some_iff.mp hr
  refine Ev.stat (y := M_hin) (args := [.int x4]) (rest := []) nm_hin (ww hw 65 rfl) (ww hw 66 rfl) (ww hw 67 rfl) (ww hw 68 rfl) (lenOf pd_hin rfl) at_99 (e_hin hw hq2) (by decide) (Nat.le_of_ble_eq_true rfl) rfl ?_
  refine Ev.ifeq (t := 117) at_102 rfl (fun c3 => ?_) (fun c3 => ?_)
  · replace hr := (if_pos c3).symm.trans hr
    refine Ev.iconst (z := 0) at_117 rfl ?_
    exact e_law_118 hw V  x0 x1 x2 x3 x4 x5 x7 x8 x9 z0 (0 : Int32) s y11 hy11 y12 hy12 y13 hy13 y14 hy14 y15 hy15 y16 hy16 y17 hy17 y18 hy18 y19 hy19 y20 hy20 y21 hy21 y22 hy22 y23 hy23 y24 hy24 y25 hy25 y26 hy26 y27 hy27 y28 hy28 y29 hy29 y30 hy30 y31 hy31 y32 hy32 y33 hy33 y34 hy34 y35 hy35 y36 hy36 y37 hy37 y38 hy38 _ hr
  · replace hr := (if_neg c3).symm.trans hr
    refine Ev.iload at_105 rfl ?_
    obtain ⟨q4, hq5, hr⟩ := Option.bind_eq_some_iff.mp hr
    refine Ev.stat (y := M_hin) (args := [.int x5]) (rest := []) nm_hin (ww hw 65 rfl) (ww hw 66 rfl) (ww hw 67 rfl) (ww hw 68 rfl) (lenOf pd_hin rfl) at_107 (e_hin hw hq5) (by decide) (Nat.le_of_ble_eq_true rfl) rfl ?_
    refine Ev.ifeq (t := 117) at_110 rfl (fun c6 => ?_) (fun c6 => ?_)
    · replace hr := (if_pos c6).symm.trans hr
      refine Ev.iconst (z := 0) at_117 rfl ?_
      exact e_law_118 hw V  x0 x1 x2 x3 x4 x5 x7 x8 x9 z0 (0 : Int32) s y11 hy11 y12 hy12 y13 hy13 y14 hy14 y15 hy15 y16 hy16 y17 hy17 y18 hy18 y19 hy19 y20 hy20 y21 hy21 y22 hy22 y23 hy23 y24 hy24 y25 hy25 y26 hy26 y27 hy27 y28 hy28 y29 hy29 y30 hy30 y31 hy31 y32 hy32 y33 hy33 y34 hy34 y35 hy35 y36 hy36 y37 hy37 y38 hy38 _ hr
    · replace hr := (if_neg c6).symm.trans hr
      refine Ev.iconst (z := 1) at_113 rfl ?_
      refine Ev.goto (t := 118) at_114 rfl ?_
      exact e_law_118 hw V  x0 x1 x2 x3 x4 x5 x7 x8 x9 z0 (1 : Int32) s y11 hy11 y12 hy12 y13 hy13 y14 hy14 y15 hy15 y16 hy16 y17 hy17 y18 hy18 y19 hy19 y20 hy20 y21 hy21 y22 hy22 y23 hy23 y24 hy24 y25 hy25 y26 hy26 y27 hy27 y28 hy28 y29 hy29 y30 hy30 y31 hy31 y32 hy32 y33 hy33 y34 hy34 y35 hy35 y36 hy36 y37 hy37 y38 hy38 _ hr
def f_law_78 (n : Nat) (x0 : Int32) (x1 : Int32) (x2 : Int32) (x3 : Int32) (x4 : Int32) (x5 : Int32) (x7 : Int32) (x8 : Int32) (z0 : Int32) (s : St) : Option (Int32 × St) :=
  if x8 = 0 then
    f_law_95 n x0 x1 x2 x3 x4 x5 x7 x8 z0 (0 : Int32) s
  else
    if z0 = 0 then
      f_law_95 n x0 x1 x2 x3 x4 x5 x7 x8 z0 (1 : Int32) s
    else
      f_law_95 n x0 x1 x2 x3 x4 x5 x7 x8 z0 (0 : Int32) s
set_option maxRecDepth 100000 in
theorem e_law_78 {g : GT} {n : Nat} (hw : HW g) {K : St → MHeap} {o : Nat} {r : Nat → Nat} (V : View (GG g) Ln K o r) (x0 : Int32) (x1 : Int32) (x2 : Int32) (x3 : Int32) (x4 : Int32) (x5 : Int32) (x7 : Int32) (x8 : Int32) (z0 : Int32) (s : St) (y9 : Slot) (hy9 : one1 y9 = true) (y10 : Slot) (hy10 : one1 y10 = true) (y11 : Slot) (hy11 : one1 y11 = true) (y12 : Slot) (hy12 : one1 y12 = true) (y13 : Slot) (hy13 : one1 y13 = true) (y14 : Slot) (hy14 : one1 y14 = true) (y15 : Slot) (hy15 : one1 y15 = true) (y16 : Slot) (hy16 : one1 y16 = true) (y17 : Slot) (hy17 : one1 y17 = true) (y18 : Slot) (hy18 : one1 y18 = true) (y19 : Slot) (hy19 : one1 y19 = true) (y20 : Slot) (hy20 : one1 y20 = true) (y21 : Slot) (hy21 : one1 y21 = true) (y22 : Slot) (hy22 : one1 y22 = true) (y23 : Slot) (hy23 : one1 y23 = true) (y24 : Slot) (hy24 : one1 y24 = true) (y25 : Slot) (hy25 : one1 y25 = true) (y26 : Slot) (hy26 : one1 y26 = true) (y27 : Slot) (hy27 : one1 y27 = true) (y28 : Slot) (hy28 : one1 y28 = true) (y29 : Slot) (hy29 : one1 y29 = true) (y30 : Slot) (hy30 : one1 y30 = true) (y31 : Slot) (hy31 : one1 y31 = true) (y32 : Slot) (hy32 : one1 y32 = true) (y33 : Slot) (hy33 : one1 y33 = true) (y34 : Slot) (hy34 : one1 y34 = true) (y35 : Slot) (hy35 : one1 y35 = true) (y36 : Slot) (hy36 : one1 y36 = true) (y37 : Slot) (hy37 : one1 y37 = true) (y38 : Slot) (hy38 : one1 y38 = true) (w : Int32 × St) (hr : f_law_78 n x0 x1 x2 x3 x4 x5 x7 x8 z0 s = some w) : Ev (GG g) M_law 78 [.val (.int x0), .val (.int x1), .val (.int x2), .val (.int x3), .val (.int x4), .val (.int x5), .val (.ref o), .val (.int x7), .val (.int x8), y9, y10, y11, y12, y13, y14, y15, y16, y17, y18, y19, y20, y21, y22, y23, y24, y25, y26, y27, y28, y29, y30, y31, y32, y33, y34, y35, y36, y37, y38] [.int z0] (K s) ((some (.int w.1)), (K w.2)) := by
  unfold f_law_78 at hr
  refine Ev.istD (L' := [.val (.int x0), .val (.int x1), .val (.int x2), .val (.int x3), .val (.int x4), .val (.int x5), .val (.ref o), .val (.int x7), .val (.int x8), .val (.int z0), y10, y11, y12, y13, y14, y15, y16, y17, y18, y19, y20, y21, y22, y23, y24, y25, y26, y27, y28, y29, y30, y31, y32, y33, y34, y35, y36, y37, y38]) at_78 rfl hy9 rfl ?_
  refine Ev.iload at_80 rfl ?_
  refine Ev.ifeq (t := 94) at_82 rfl (fun c1 => ?_) (fun c1 => ?_)
  · replace hr := (if_pos c1).symm.trans hr
    refine Ev.iconst (z := 0) at_94 rfl ?_
    exact e_law_95 hw V  x0 x1 x2 x3 x4 x5 x7 x8 z0 (0 : Int32) s y10 hy10 y11 hy11 y12 hy12 y13 hy13 y14 hy14 y15 hy15 y16 hy16 y17 hy17 y18 hy18 y19 hy19 y20 hy20 y21 hy21 y22 hy22 y23 hy23 y24 hy24 y25 hy25 y26 hy26 y27 hy27 y28 hy28 y29 hy29 y30 hy30 y31 hy31 y32 hy32 y33 hy33 y34 hy34 y35 hy35 y36 hy36 y37 hy37 y38 hy38 _ hr
  · replace hr := (if_neg c1).symm.trans hr
    refine Ev.iload at_85 rfl ?_
    refine Ev.ifne (t := 94) at_87 rfl (fun c2 => ?_) (fun c2 => ?_)
    · replace hr := (if_pos c2).symm.trans hr
      refine Ev.iconst (z := 1) at_90 rfl ?_
      refine Ev.goto (t := 95) at_91 rfl ?_
      exact e_law_95 hw V  x0 x1 x2 x3 x4 x5 x7 x8 z0 (1 : Int32) s y10 hy10 y11 hy11 y12 hy12 y13 hy13 y14 hy14 y15 hy15 y16 hy16 y17 hy17 y18 hy18 y19 hy19 y20 hy20 y21 hy21 y22 hy22 y23 hy23 y24 hy24 y25 hy25 y26 hy26 y27 hy27 y28 hy28 y29 hy29 y30 hy30 y31 hy31 y32 hy32 y33 hy33 y34 hy34 y35 hy35 y36 hy36 y37 hy37 y38 hy38 _ hr
    · replace hr := (if_neg c2).symm.trans hr
      refine Ev.iconst (z := 0) at_94 rfl ?_
      exact e_law_95 hw V  x0 x1 x2 x3 x4 x5 x7 x8 z0 (0 : Int32) s y10 hy10 y11 hy11 y12 hy12 y13 hy13 y14 hy14 y15 hy15 y16 hy16 y17 hy17 y18 hy18 y19 hy19 y20 hy20 y21 hy21 y22 hy22 y23 hy23 y24 hy24 y25 hy25 y26 hy26 y27 hy27 y28 hy28 y29 hy29 y30 hy30 y31 hy31 y32 hy32 y33 hy33 y34 hy34 y35 hy35 y36 hy36 y37 hy37 y38 hy38 _ hr
def f_law_51 (n : Nat) (x0 : Int32) (x1 : Int32) (x2 : Int32) (x3 : Int32) (x4 : Int32) (x5 : Int32) (x7 : Int32) (z0 : Int32) (s : St) : Option (Int32 × St) :=
  if x7 = 0 then
    f_law_78 n x0 x1 x2 x3 x4 x5 x7 z0 (0 : Int32) s
  else
    if z0 = 0 then
      f_law_78 n x0 x1 x2 x3 x4 x5 x7 z0 (0 : Int32) s
    else
      if x2 = x0 then
        if x3 = x1 then
          f_law_78 n x0 x1 x2 x3 x4 x5 x7 z0 (1 : Int32) s
        else
          f_law_78 n x0 x1 x2 x3 x4 x5 x7 z0 (0 : Int32) s
      else
        f_law_78 n x0 x1 x2 x3 x4 x5 x7 z0 (0 : Int32) s
set_option maxRecDepth 100000 in
theorem e_law_51 {g : GT} {n : Nat} (hw : HW g) {K : St → MHeap} {o : Nat} {r : Nat → Nat} (V : View (GG g) Ln K o r) (x0 : Int32) (x1 : Int32) (x2 : Int32) (x3 : Int32) (x4 : Int32) (x5 : Int32) (x7 : Int32) (z0 : Int32) (s : St) (y8 : Slot) (hy8 : one1 y8 = true) (y9 : Slot) (hy9 : one1 y9 = true) (y10 : Slot) (hy10 : one1 y10 = true) (y11 : Slot) (hy11 : one1 y11 = true) (y12 : Slot) (hy12 : one1 y12 = true) (y13 : Slot) (hy13 : one1 y13 = true) (y14 : Slot) (hy14 : one1 y14 = true) (y15 : Slot) (hy15 : one1 y15 = true) (y16 : Slot) (hy16 : one1 y16 = true) (y17 : Slot) (hy17 : one1 y17 = true) (y18 : Slot) (hy18 : one1 y18 = true) (y19 : Slot) (hy19 : one1 y19 = true) (y20 : Slot) (hy20 : one1 y20 = true) (y21 : Slot) (hy21 : one1 y21 = true) (y22 : Slot) (hy22 : one1 y22 = true) (y23 : Slot) (hy23 : one1 y23 = true) (y24 : Slot) (hy24 : one1 y24 = true) (y25 : Slot) (hy25 : one1 y25 = true) (y26 : Slot) (hy26 : one1 y26 = true) (y27 : Slot) (hy27 : one1 y27 = true) (y28 : Slot) (hy28 : one1 y28 = true) (y29 : Slot) (hy29 : one1 y29 = true) (y30 : Slot) (hy30 : one1 y30 = true) (y31 : Slot) (hy31 : one1 y31 = true) (y32 : Slot) (hy32 : one1 y32 = true) (y33 : Slot) (hy33 : one1 y33 = true) (y34 : Slot) (hy34 : one1 y34 = true) (y35 : Slot) (hy35 : one1 y35 = true) (y36 : Slot) (hy36 : one1 y36 = true) (y37 : Slot) (hy37 : one1 y37 = true) (y38 : Slot) (hy38 : one1 y38 = true) (w : Int32 × St) (hr : f_law_51 n x0 x1 x2 x3 x4 x5 x7 z0 s = some w) : Ev (GG g) M_law 51 [.val (.int x0), .val (.int x1), .val (.int x2), .val (.int x3), .val (.int x4), .val (.int x5), .val (.ref o), .val (.int x7), y8, y9, y10, y11, y12, y13, y14, y15, y16, y17, y18, y19, y20, y21, y22, y23, y24, y25, y26, y27, y28, y29, y30, y31, y32, y33, y34, y35, y36, y37, y38] [.int z0] (K s) ((some (.int w.1)), (K w.2)) := by
  unfold f_law_51 at hr
  refine Ev.istD (L' := [.val (.int x0), .val (.int x1), .val (.int x2), .val (.int x3), .val (.int x4), .val (.int x5), .val (.ref o), .val (.int x7), .val (.int z0), y9, y10, y11, y12, y13, y14, y15, y16, y17, y18, y19, y20, y21, y22, y23, y24, y25, y26, y27, y28, y29, y30, y31, y32, y33, y34, y35, y36, y37, y38]) at_51 rfl hy8 rfl ?_
  refine Ev.iload at_53 rfl ?_
  refine Ev.ifeq (t := 77) at_55 rfl (fun c1 => ?_) (fun c1 => ?_)
  · replace hr := (if_pos c1).symm.trans hr
    refine Ev.iconst (z := 0) at_77 rfl ?_
    exact e_law_78 hw V  x0 x1 x2 x3 x4 x5 x7 z0 (0 : Int32) s y9 hy9 y10 hy10 y11 hy11 y12 hy12 y13 hy13 y14 hy14 y15 hy15 y16 hy16 y17 hy17 y18 hy18 y19 hy19 y20 hy20 y21 hy21 y22 hy22 y23 hy23 y24 hy24 y25 hy25 y26 hy26 y27 hy27 y28 hy28 y29 hy29 y30 hy30 y31 hy31 y32 hy32 y33 hy33 y34 hy34 y35 hy35 y36 hy36 y37 hy37 y38 hy38 _ hr
  · replace hr := (if_neg c1).symm.trans hr
    refine Ev.iload at_58 rfl ?_
    refine Ev.ifeq (t := 77) at_60 rfl (fun c2 => ?_) (fun c2 => ?_)
    · replace hr := (if_pos c2).symm.trans hr
      refine Ev.iconst (z := 0) at_77 rfl ?_
      exact e_law_78 hw V  x0 x1 x2 x3 x4 x5 x7 z0 (0 : Int32) s y9 hy9 y10 hy10 y11 hy11 y12 hy12 y13 hy13 y14 hy14 y15 hy15 y16 hy16 y17 hy17 y18 hy18 y19 hy19 y20 hy20 y21 hy21 y22 hy22 y23 hy23 y24 hy24 y25 hy25 y26 hy26 y27 hy27 y28 hy28 y29 hy29 y30 hy30 y31 hy31 y32 hy32 y33 hy33 y34 hy34 y35 hy35 y36 hy36 y37 hy37 y38 hy38 _ hr
    · replace hr := (if_neg c2).symm.trans hr
      refine Ev.iloadN at_63 rfl ?_
      refine Ev.iloadN at_64 rfl ?_
      refine Ev.icne (t := 77) at_65 rfl (fun c3 => ?_) (fun c3 => ?_)
      · replace hr := (if_pos c3).symm.trans hr
        refine Ev.iloadN at_68 rfl ?_
        refine Ev.iloadN at_69 rfl ?_
        refine Ev.icne (t := 77) at_70 rfl (fun c4 => ?_) (fun c4 => ?_)
        · replace hr := (if_pos c4).symm.trans hr
          refine Ev.iconst (z := 1) at_73 rfl ?_
          refine Ev.goto (t := 78) at_74 rfl ?_
          exact e_law_78 hw V  x0 x1 x2 x3 x4 x5 x7 z0 (1 : Int32) s y9 hy9 y10 hy10 y11 hy11 y12 hy12 y13 hy13 y14 hy14 y15 hy15 y16 hy16 y17 hy17 y18 hy18 y19 hy19 y20 hy20 y21 hy21 y22 hy22 y23 hy23 y24 hy24 y25 hy25 y26 hy26 y27 hy27 y28 hy28 y29 hy29 y30 hy30 y31 hy31 y32 hy32 y33 hy33 y34 hy34 y35 hy35 y36 hy36 y37 hy37 y38 hy38 _ hr
        · replace hr := (if_neg c4).symm.trans hr
          refine Ev.iconst (z := 0) at_77 rfl ?_
          exact e_law_78 hw V  x0 x1 x2 x3 x4 x5 x7 z0 (0 : Int32) s y9 hy9 y10 hy10 y11 hy11 y12 hy12 y13 hy13 y14 hy14 y15 hy15 y16 hy16 y17 hy17 y18 hy18 y19 hy19 y20 hy20 y21 hy21 y22 hy22 y23 hy23 y24 hy24 y25 hy25 y26 hy26 y27 hy27 y28 hy28 y29 hy29 y30 hy30 y31 hy31 y32 hy32 y33 hy33 y34 hy34 y35 hy35 y36 hy36 y37 hy37 y38 hy38 _ hr
      · replace hr := (if_neg c3).symm.trans hr
        refine Ev.iconst (z := 0) at_77 rfl ?_
        exact e_law_78 hw V  x0 x1 x2 x3 x4 x5 x7 z0 (0 : Int32) s y9 hy9 y10 hy10 y11 hy11 y12 hy12 y13 hy13 y14 hy14 y15 hy15 y16 hy16 y17 hy17 y18 hy18 y19 hy19 y20 hy20 y21 hy21 y22 hy22 y23 hy23 y24 hy24 y25 hy25 y26 hy26 y27 hy27 y28 hy28 y29 hy29 y30 hy30 y31 hy31 y32 hy32 y33 hy33 y34 hy34 y35 hy35 y36 hy36 y37 hy37 y38 hy38 _ hr
def f_law_30 (n : Nat) (x0 : Int32) (x1 : Int32) (x2 : Int32) (x3 : Int32) (x4 : Int32) (x5 : Int32) (z0 : Int32) (s : St) : Option (Int32 × St) :=
  (f_hin x2).bind fun q1 =>
  if q1 = 0 then
    f_law_51 n x0 x1 x2 x3 x4 x5 z0 (0 : Int32) s
  else
    (f_hin x3).bind fun q4 =>
    if q4 = 0 then
      f_law_51 n x0 x1 x2 x3 x4 x5 z0 (0 : Int32) s
    else
      f_law_51 n x0 x1 x2 x3 x4 x5 z0 (1 : Int32) s
set_option maxRecDepth 100000 in
theorem e_law_30 {g : GT} {n : Nat} (hw : HW g) {K : St → MHeap} {o : Nat} {r : Nat → Nat} (V : View (GG g) Ln K o r) (x0 : Int32) (x1 : Int32) (x2 : Int32) (x3 : Int32) (x4 : Int32) (x5 : Int32) (z0 : Int32) (s : St) (y7 : Slot) (hy7 : one1 y7 = true) (y8 : Slot) (hy8 : one1 y8 = true) (y9 : Slot) (hy9 : one1 y9 = true) (y10 : Slot) (hy10 : one1 y10 = true) (y11 : Slot) (hy11 : one1 y11 = true) (y12 : Slot) (hy12 : one1 y12 = true) (y13 : Slot) (hy13 : one1 y13 = true) (y14 : Slot) (hy14 : one1 y14 = true) (y15 : Slot) (hy15 : one1 y15 = true) (y16 : Slot) (hy16 : one1 y16 = true) (y17 : Slot) (hy17 : one1 y17 = true) (y18 : Slot) (hy18 : one1 y18 = true) (y19 : Slot) (hy19 : one1 y19 = true) (y20 : Slot) (hy20 : one1 y20 = true) (y21 : Slot) (hy21 : one1 y21 = true) (y22 : Slot) (hy22 : one1 y22 = true) (y23 : Slot) (hy23 : one1 y23 = true) (y24 : Slot) (hy24 : one1 y24 = true) (y25 : Slot) (hy25 : one1 y25 = true) (y26 : Slot) (hy26 : one1 y26 = true) (y27 : Slot) (hy27 : one1 y27 = true) (y28 : Slot) (hy28 : one1 y28 = true) (y29 : Slot) (hy29 : one1 y29 = true) (y30 : Slot) (hy30 : one1 y30 = true) (y31 : Slot) (hy31 : one1 y31 = true) (y32 : Slot) (hy32 : one1 y32 = true) (y33 : Slot) (hy33 : one1 y33 = true) (y34 : Slot) (hy34 : one1 y34 = true) (y35 : Slot) (hy35 : one1 y35 = true) (y36 : Slot) (hy36 : one1 y36 = true) (y37 : Slot) (hy37 : one1 y37 = true) (y38 : Slot) (hy38 : one1 y38 = true) (w : Int32 × St) (hr : f_law_30 n x0 x1 x2 x3 x4 x5 z0 s = some w) : Ev (GG g) M_law 30 [.val (.int x0), .val (.int x1), .val (.int x2), .val (.int x3), .val (.int x4), .val (.int x5), .val (.ref o), y7, y8, y9, y10, y11, y12, y13, y14, y15, y16, y17, y18, y19, y20, y21, y22, y23, y24, y25, y26, y27, y28, y29, y30, y31, y32, y33, y34, y35, y36, y37, y38] [.int z0] (K s) ((some (.int w.1)), (K w.2)) := by
  unfold f_law_30 at hr
  refine Ev.istD (L' := [.val (.int x0), .val (.int x1), .val (.int x2), .val (.int x3), .val (.int x4), .val (.int x5), .val (.ref o), .val (.int z0), y8, y9, y10, y11, y12, y13, y14, y15, y16, y17, y18, y19, y20, y21, y22, y23, y24, y25, y26, y27, y28, y29, y30, y31, y32, y33, y34, y35, y36, y37, y38]) at_30 rfl hy7 rfl ?_
  refine Ev.iloadN at_32 rfl ?_
  obtain ⟨q1, hq2, hr⟩ := Option.bind_eq_some_iff.mp hr
  refine Ev.stat (y := M_hin) (args := [.int x2]) (rest := []) nm_hin (ww hw 65 rfl) (ww hw 66 rfl) (ww hw 67 rfl) (ww hw 68 rfl) (lenOf pd_hin rfl) at_33 (e_hin hw hq2) (by decide) (Nat.le_of_ble_eq_true rfl) rfl ?_
  refine Ev.ifeq (t := 50) at_36 rfl (fun c3 => ?_) (fun c3 => ?_)
  · replace hr := (if_pos c3).symm.trans hr
    refine Ev.iconst (z := 0) at_50 rfl ?_
    exact e_law_51 hw V  x0 x1 x2 x3 x4 x5 z0 (0 : Int32) s y8 hy8 y9 hy9 y10 hy10 y11 hy11 y12 hy12 y13 hy13 y14 hy14 y15 hy15 y16 hy16 y17 hy17 y18 hy18 y19 hy19 y20 hy20 y21 hy21 y22 hy22 y23 hy23 y24 hy24 y25 hy25 y26 hy26 y27 hy27 y28 hy28 y29 hy29 y30 hy30 y31 hy31 y32 hy32 y33 hy33 y34 hy34 y35 hy35 y36 hy36 y37 hy37 y38 hy38 _ hr
  · replace hr := (if_neg c3).symm.trans hr
    refine Ev.iloadN at_39 rfl ?_
    obtain ⟨q4, hq5, hr⟩ := Option.bind_eq_some_iff.mp hr
    refine Ev.stat (y := M_hin) (args := [.int x3]) (rest := []) nm_hin (ww hw 65 rfl) (ww hw 66 rfl) (ww hw 67 rfl) (ww hw 68 rfl) (lenOf pd_hin rfl) at_40 (e_hin hw hq5) (by decide) (Nat.le_of_ble_eq_true rfl) rfl ?_
    refine Ev.ifeq (t := 50) at_43 rfl (fun c6 => ?_) (fun c6 => ?_)
    · replace hr := (if_pos c6).symm.trans hr
      refine Ev.iconst (z := 0) at_50 rfl ?_
      exact e_law_51 hw V  x0 x1 x2 x3 x4 x5 z0 (0 : Int32) s y8 hy8 y9 hy9 y10 hy10 y11 hy11 y12 hy12 y13 hy13 y14 hy14 y15 hy15 y16 hy16 y17 hy17 y18 hy18 y19 hy19 y20 hy20 y21 hy21 y22 hy22 y23 hy23 y24 hy24 y25 hy25 y26 hy26 y27 hy27 y28 hy28 y29 hy29 y30 hy30 y31 hy31 y32 hy32 y33 hy33 y34 hy34 y35 hy35 y36 hy36 y37 hy37 y38 hy38 _ hr
    · replace hr := (if_neg c6).symm.trans hr
      refine Ev.iconst (z := 1) at_46 rfl ?_
      refine Ev.goto (t := 51) at_47 rfl ?_
      exact e_law_51 hw V  x0 x1 x2 x3 x4 x5 z0 (1 : Int32) s y8 hy8 y9 hy9 y10 hy10 y11 hy11 y12 hy12 y13 hy13 y14 hy14 y15 hy15 y16 hy16 y17 hy17 y18 hy18 y19 hy19 y20 hy20 y21 hy21 y22 hy22 y23 hy23 y24 hy24 y25 hy25 y26 hy26 y27 hy27 y28 hy28 y29 hy29 y30 hy30 y31 hy31 y32 hy32 y33 hy33 y34 hy34 y35 hy35 y36 hy36 y37 hy37 y38 hy38 _ hr
def f_law_9 (n : Nat) (x0 : Int32) (x1 : Int32) (x2 : Int32) (x3 : Int32) (x4 : Int32) (x5 : Int32) (s : St) : Option (Int32 × St) :=
  (f_hin x0).bind fun q1 =>
  if q1 = 0 then
    f_law_30 n x0 x1 x2 x3 x4 x5 (0 : Int32) s
  else
    (f_hin x1).bind fun q4 =>
    if q4 = 0 then
      f_law_30 n x0 x1 x2 x3 x4 x5 (0 : Int32) s
    else
      f_law_30 n x0 x1 x2 x3 x4 x5 (1 : Int32) s
set_option maxRecDepth 100000 in
theorem e_law_9 {g : GT} {n : Nat} (hw : HW g) {K : St → MHeap} {o : Nat} {r : Nat → Nat} (V : View (GG g) Ln K o r) (x0 : Int32) (x1 : Int32) (x2 : Int32) (x3 : Int32) (x4 : Int32) (x5 : Int32) (s : St) (y6 : Slot) (hy6 : one1 y6 = true) (y7 : Slot) (hy7 : one1 y7 = true) (y8 : Slot) (hy8 : one1 y8 = true) (y9 : Slot) (hy9 : one1 y9 = true) (y10 : Slot) (hy10 : one1 y10 = true) (y11 : Slot) (hy11 : one1 y11 = true) (y12 : Slot) (hy12 : one1 y12 = true) (y13 : Slot) (hy13 : one1 y13 = true) (y14 : Slot) (hy14 : one1 y14 = true) (y15 : Slot) (hy15 : one1 y15 = true) (y16 : Slot) (hy16 : one1 y16 = true) (y17 : Slot) (hy17 : one1 y17 = true) (y18 : Slot) (hy18 : one1 y18 = true) (y19 : Slot) (hy19 : one1 y19 = true) (y20 : Slot) (hy20 : one1 y20 = true) (y21 : Slot) (hy21 : one1 y21 = true) (y22 : Slot) (hy22 : one1 y22 = true) (y23 : Slot) (hy23 : one1 y23 = true) (y24 : Slot) (hy24 : one1 y24 = true) (y25 : Slot) (hy25 : one1 y25 = true) (y26 : Slot) (hy26 : one1 y26 = true) (y27 : Slot) (hy27 : one1 y27 = true) (y28 : Slot) (hy28 : one1 y28 = true) (y29 : Slot) (hy29 : one1 y29 = true) (y30 : Slot) (hy30 : one1 y30 = true) (y31 : Slot) (hy31 : one1 y31 = true) (y32 : Slot) (hy32 : one1 y32 = true) (y33 : Slot) (hy33 : one1 y33 = true) (y34 : Slot) (hy34 : one1 y34 = true) (y35 : Slot) (hy35 : one1 y35 = true) (y36 : Slot) (hy36 : one1 y36 = true) (y37 : Slot) (hy37 : one1 y37 = true) (y38 : Slot) (hy38 : one1 y38 = true) (w : Int32 × St) (hr : f_law_9 n x0 x1 x2 x3 x4 x5 s = some w) : Ev (GG g) M_law 9 [.val (.int x0), .val (.int x1), .val (.int x2), .val (.int x3), .val (.int x4), .val (.int x5), y6, y7, y8, y9, y10, y11, y12, y13, y14, y15, y16, y17, y18, y19, y20, y21, y22, y23, y24, y25, y26, y27, y28, y29, y30, y31, y32, y33, y34, y35, y36, y37, y38] [.ref o] (K s) ((some (.int w.1)), (K w.2)) := by
  unfold f_law_9 at hr
  refine Ev.astD (L' := [.val (.int x0), .val (.int x1), .val (.int x2), .val (.int x3), .val (.int x4), .val (.int x5), .val (.ref o), y7, y8, y9, y10, y11, y12, y13, y14, y15, y16, y17, y18, y19, y20, y21, y22, y23, y24, y25, y26, y27, y28, y29, y30, y31, y32, y33, y34, y35, y36, y37, y38]) at_9 rfl hy6 rfl ?_
  refine Ev.iloadN at_11 rfl ?_
  obtain ⟨q1, hq2, hr⟩ := Option.bind_eq_some_iff.mp hr
  refine Ev.stat (y := M_hin) (args := [.int x0]) (rest := []) nm_hin (ww hw 65 rfl) (ww hw 66 rfl) (ww hw 67 rfl) (ww hw 68 rfl) (lenOf pd_hin rfl) at_12 (e_hin hw hq2) (by decide) (Nat.le_of_ble_eq_true rfl) rfl ?_
  refine Ev.ifeq (t := 29) at_15 rfl (fun c3 => ?_) (fun c3 => ?_)
  · replace hr := (if_pos c3).symm.trans hr
    refine Ev.iconst (z := 0) at_29 rfl ?_
    exact e_law_30 hw V  x0 x1 x2 x3 x4 x5 (0 : Int32) s y7 hy7 y8 hy8 y9 hy9 y10 hy10 y11 hy11 y12 hy12 y13 hy13 y14 hy14 y15 hy15 y16 hy16 y17 hy17 y18 hy18 y19 hy19 y20 hy20 y21 hy21 y22 hy22 y23 hy23 y24 hy24 y25 hy25 y26 hy26 y27 hy27 y28 hy28 y29 hy29 y30 hy30 y31 hy31 y32 hy32 y33 hy33 y34 hy34 y35 hy35 y36 hy36 y37 hy37 y38 hy38 _ hr
  · replace hr := (if_neg c3).symm.trans hr
    refine Ev.iloadN at_18 rfl ?_
    obtain ⟨q4, hq5, hr⟩ := Option.bind_eq_some_iff.mp hr
    refine Ev.stat (y := M_hin) (args := [.int x1]) (rest := []) nm_hin (ww hw 65 rfl) (ww hw 66 rfl) (ww hw 67 rfl) (ww hw 68 rfl) (lenOf pd_hin rfl) at_19 (e_hin hw hq5) (by decide) (Nat.le_of_ble_eq_true rfl) rfl ?_
    refine Ev.ifeq (t := 29) at_22 rfl (fun c6 => ?_) (fun c6 => ?_)
    · replace hr := (if_pos c6).symm.trans hr
      refine Ev.iconst (z := 0) at_29 rfl ?_
      exact e_law_30 hw V  x0 x1 x2 x3 x4 x5 (0 : Int32) s y7 hy7 y8 hy8 y9 hy9 y10 hy10 y11 hy11 y12 hy12 y13 hy13 y14 hy14 y15 hy15 y16 hy16 y17 hy17 y18 hy18 y19 hy19 y20 hy20 y21 hy21 y22 hy22 y23 hy23 y24 hy24 y25 hy25 y26 hy26 y27 hy27 y28 hy28 y29 hy29 y30 hy30 y31 hy31 y32 hy32 y33 hy33 y34 hy34 y35 hy35 y36 hy36 y37 hy37 y38 hy38 _ hr
    · replace hr := (if_neg c6).symm.trans hr
      refine Ev.iconst (z := 1) at_25 rfl ?_
      refine Ev.goto (t := 30) at_26 rfl ?_
      exact e_law_30 hw V  x0 x1 x2 x3 x4 x5 (1 : Int32) s y7 hy7 y8 hy8 y9 hy9 y10 hy10 y11 hy11 y12 hy12 y13 hy13 y14 hy14 y15 hy15 y16 hy16 y17 hy17 y18 hy18 y19 hy19 y20 hy20 y21 hy21 y22 hy22 y23 hy23 y24 hy24 y25 hy25 y26 hy26 y27 hy27 y28 hy28 y29 hy29 y30 hy30 y31 hy31 y32 hy32 y33 hy33 y34 hy34 y35 hy35 y36 hy36 y37 hy37 y38 hy38 _ hr
def f_law (n : Nat) (a0 : Int32) (a1 : Int32) (a2 : Int32) (a3 : Int32) (a4 : Int32) (a5 : Int32) : Option (Int32 × St) :=
  (f_ctor n (3 : Int32) (3 : Int32)).bind fun q1 =>
  f_law_9 n a0 a1 a2 a3 a4 a5 q1
set_option maxRecDepth 100000 in
theorem e_law {g : GT} {n : Nat} {a0 : Int32} {a1 : Int32} {a2 : Int32} {a3 : Int32} {a4 : Int32} {a5 : Int32} {w : Int32 × St} (hw : HW g) (hk : k0 (GG g) ≤ (H0).length) (hr : f_law n a0 a1 a2 a3 a4 a5 = some w) : EvC (GG g) M_law [.int a0, .int a1, .int a2, .int a3, .int a4, .int a5] H0 ((some (.int w.1)), (KL w.2)) := by
  refine EvC.enter (L0 := [.val (.int a0), .val (.int a1), .val (.int a2), .val (.int a3), .val (.int a4), .val (.int a5), .unset, .unset, .unset, .unset, .unset, .unset, .unset, .unset, .unset, .unset, .unset, .unset, .unset, .unset, .unset, .unset, .unset, .unset, .unset, .unset, .unset, .unset, .unset, .unset, .unset, .unset, .unset, .unset, .unset, .unset, .unset, .unset, .unset]) pl_law (fun h => nomatch h) rfl rfl ?_
  unfold f_law at hr
  refine Ev.new (gok hw) (ww hw 0 rfl) at_0 (fs := dfl) rfl ?_
  refine Ev.dup at_3 rfl ?_
  refine Ev.iconst (z := 3) at_4 rfl ?_
  refine Ev.iconst (z := 3) at_5 rfl ?_
  obtain ⟨q1, hq2, hr⟩ := Option.bind_eq_some_iff.mp hr
  refine Ev.ctor (y := M_ctor) (args := [.int (3 : Int32), .int (3 : Int32)]) (rest := [.ref (H0).length]) rfl rfl nm_ctor (ww hw 3 rfl) (ww hw 4 rfl) (ww hw 5 rfl) (ww hw 2 rfl) (lenOf pd_ctor rfl) at_6 (e_ctor hw hk hq2) (by decide) (Nat.le_of_ble_eq_true rfl) rfl ?_
  exact e_law_9 hw (K := KL) (o := (H0).length) (r := rA (H0).length al) (view_of hk al_ok al_nd)  a0 a1 a2 a3 a4 a5 q1 .unset rfl .unset rfl .unset rfl .unset rfl .unset rfl .unset rfl .unset rfl .unset rfl .unset rfl .unset rfl .unset rfl .unset rfl .unset rfl .unset rfl .unset rfl .unset rfl .unset rfl .unset rfl .unset rfl .unset rfl .unset rfl .unset rfl .unset rfl .unset rfl .unset rfl .unset rfl .unset rfl .unset rfl .unset rfl .unset rfl .unset rfl .unset rfl .unset rfl _ hr
theorem fin_len (w : St) : (KL w).length - H0.length ≤ 56 := by
  have q : al.length = 20 := rfl
  unfold KL; rw [KH_len]; simp only [List.length_nil]; omega
theorem fin_hsl (w : St) : hsl 31 (KL w) - hsl 31 H0 ≤ 51968 := by
  have q : (al.map fun q => Ln q.1).sum = 25896 := by decide +kernel
  have z : hsl 31 [] = 0 := rfl
  unfold KL; rw [hsl_KH, q, z]; omega
set_option maxRecDepth 100000 in
theorem comes_1 (plain : ∀ i0 i1 i2 i3 i4 i5 : Int32, ∃ n w, f_law n i0 i1 i2 i3 i4 i5 = some (1, w)) {Post : Tables → Env → Array Value → State → Outcome → State → Prop} (hpost : ∀ tb e args s v u, (limb_1_1.after args s (.returned v) u = true ∧ limb_1_2.after args s (.returned v) u = true ∧ True) → FrameEnd s (.returned v) u (Jvm.fieldLocs frame_1_writes args s ++ Jvm.arrayLocs frame_1_arrays args s ++ Jvm.staticLocs frame_1_statics s) 56 51968 → Post tb e args s (.returned v) u) :
    ArmFor flags0 classFile x code maxLocals ret World_1 tables_1 room_1 Calls_1 rest_1 Pre_1 Post := by
  intro l hfl _ _ p e ha hc hk s m args below hf hA hF happ hP
  obtain ⟨hcalls, hrest, hpre⟩ := hP
  obtain ⟨-, -, -, hnamed, -, -, -, hat⟩ := (Spec.applies_iff hf).mp happ
  obtain ⟨hg, hn⟩ := and_e (Cond.before_iff.mp (show (Jvm.Cond.and given_1 narrow_1).before args s = true from hpre))
  obtain ⟨g0, hg⟩ := and_e hg
  obtain ⟨g1, hg⟩ := and_e hg
  obtain ⟨g2, hg⟩ := and_e hg
  obtain ⟨g3, hg⟩ := and_e hg
  obtain ⟨g4, hg⟩ := and_e hg
  obtain ⟨g5, hg⟩ := and_e hg
  obtain ⟨w0, w1, w2, w3, w4, w5, rfl⟩ : ∃ w0 w1 w2 w3 w4 w5 : Value, args = #[w0, w1, w2, w3, w4, w5] := by
    have hs : args.size = 6 := by simpa [Cond.value, given_1] using g0
    obtain ⟨L⟩ := args
    match L, hs with
    | [w0, w1, w2, w3, w4, w5], _ => exact ⟨w0, w1, w2, w3, w4, w5, rfl⟩
  have hw := fun d (hd : d ∈ tables_1) => atoms_spec (ws := Jvm.Cond.code x code maxLocals ret :: tables_1) hat d (List.mem_cons_of_mem _ hd)
  obtain ⟨i0, ei0⟩ := is_v g1
  obtain rfl : w0 = (.int i0) := Option.some.inj ei0
  obtain ⟨i1, ei1⟩ := is_v g2
  obtain rfl : w1 = (.int i1) := Option.some.inj ei1
  obtain ⟨i2, ei2⟩ := is_v g3
  obtain rfl : w2 = (.int i2) := Option.some.inj ei2
  obtain ⟨i3, ei3⟩ := is_v g4
  obtain rfl : w3 = (.int i3) := Option.some.inj ei3
  obtain ⟨i4, ei4⟩ := is_v g5
  obtain rfl : w4 = (.int i4) := Option.some.inj ei4
  obtain ⟨i5, ei5⟩ := is_v hg
  obtain rfl : w5 = (.int i5) := Option.some.inj ei5
  obtain ⟨n, w, hr⟩ := plain i0 i1 i2 i3 i4 i5
  have hE := e_law (g := (s, _, l, none, s.heap.size)) hw (Nat.le_refl _) hr
  obtain ⟨n, o, h1, h2, h3, _, L, rfl, ⟨rfl, N, -⟩, hq⟩ := hE.2 tables_1 room_1 s.heap (by decide) (by decide) (fin_len w) (fin_hsl w) ⟨rfl, Nat.le_refl _, fun a q => (nomatch q), fun i c q => by simp [H0] at q⟩ p e ha hc hk s m _ below hf ((Spec.applies_iff_loose hf).mp happ).1 ⟨rfl, State.Warmed39.refl s, rfl⟩ trivial
  exact ⟨n, _, h1, h2, h3, hpost _ _ _ _ _ _ ⟨Cond.after_iff.mpr rfl, Cond.after_iff.mpr (eq_i res_at (Term.int_eval (1)) rfl), trivial⟩ ⟨hq.1, hq.2.1, (hq.2.2.sift fun y hy => Or.inr (N y hy)).mono (fin_len w) (fin_hsl w)⟩⟩
theorem u_mk_63 (n : Nat) (k : Nat) (x1 : Int32) (x2 : Int32) (x3 : Int32) (x4 : Int32) (x5 : Int32) (x7 : Int32) (x8 : Int32) (s : St) : f_mk_63 n (k + 1) x1 x2 x3 x4 x5 x7 x8 s =
    (if x8 < (4096 : Int32) then
      grd (inb x7 4096) <|
      if (s.2 7 (ix x7)) = 0 then
        (f_newNode x7 x1 x2 x3 x4 x5 s).bind fun q4 =>
        some (q4.1, q4.2)
      else
        (f_sameNode s (s.2 7 (ix x7)) x1 x2 x3 x4 x5).bind fun q6 =>
        if q6 = 0 then
          f_mk_63 n k x1 x2 x3 x4 x5 ((x7 + (1 : Int32)) &&& (4095 : Int32)) (x8 + (1 : Int32)) s
        else
          some ((s.2 7 (ix x7)), s)
    else
      some ((0 : Int32), s)) := rfl
theorem u_reduceBuffer_29 (n : Nat) (k16 : Int32 → Int32 → St → Option (Int32 × St)) (k : Nat) (x1 : Int32) (x2 : Int32) (x3 : Int32) (s : St) : f_reduceBuffer_29 n k16 (k + 1) x1 x2 x3 s =
    (if x3 < x1 then
      grd (inb (x3 * (s.1 21)) 1024) <|
      grd (inb ((x3 * (s.1 21)) + (1 : Int32)) 1024) <|
      bnd (s.2 11 (ix ((x3 * (s.1 21)) + (1 : Int32)))) fun v4 =>
      if (2 : Int32) < (s.1 21) then
        grd (inb ((x3 * (s.1 21)) + (2 : Int32)) 1024) <|
        f_reduceBuffer_83 n k16 (f_reduceBuffer_29 n k16 k) x1 x2 x3 (x3 * (s.1 21)) (s.2 11 (ix (x3 * (s.1 21)))) v4 (s.2 11 (ix ((x3 * (s.1 21)) + (2 : Int32)))) s
      else
        f_reduceBuffer_83 n k16 (f_reduceBuffer_29 n k16 k) x1 x2 x3 (x3 * (s.1 21)) (s.2 11 (ix (x3 * (s.1 21)))) v4 (0 : Int32) s
    else
      k16 x1 (x2 + (-1 : Int32)) s) := rfl
theorem u_pow_4 (n : Nat) (s : St) (k : Nat) (x1 : Int32) (x2 : Int32) (x3 : Int32) : f_pow_4 n s (k + 1) x1 x2 x3 =
    (if x3 < x1 then
      if x3 < (5 : Int32) then
        f_pow_4 n s k x1 (x2 * (s.1 21)) (x3 + (1 : Int32))
      else
        some x2
    else
      some x2) := rfl
theorem u_reduceBuffer_16 (n : Nat) (k : Nat) (x1 : Int32) (x2 : Int32) (s : St) : f_reduceBuffer_16 n (k + 1) x1 x2 s =
    (if x2 < 0 then
      some ((s.2 11 (ix (0 : Int32))), s)
    else
      grd ((s.1 21) ≠ 0) <|
      f_reduceBuffer_29 n (f_reduceBuffer_16 n k) n (x1 / (s.1 21)) x2 (0 : Int32) s) := rfl
theorem u_decode_9 (n : Nat) (k : Nat) (x2 : Int32) (x3 : Int32) (s : St) : f_decode_9 n (k + 1) x2 x3 s =
    (if x3 < 0 then
      some s
    else
      grd ((s.1 21) ≠ 0) <|
      grd (inb x3 5) <|
      bnd (setA s 4 (ix x3) (x2 % (s.1 21))) fun s4 =>
      grd ((s4.1 21) ≠ 0) <|
      f_decode_9 n k (x2 / (s4.1 21)) (x3 + (-1 : Int32)) s4) := rfl
theorem u_compileTable_78 (n : Nat) (k : Nat) (x1 : Int32) (x2 : Int32) (s : St) : f_compileTable_78 n (k + 1) x1 x2 s =
    (if x2 < x1 then
      if x2 < (1024 : Int32) then
        (f_decode n x2 s).bind fun q3 =>
        (f_scopeCode q3).bind fun q5 =>
        grd (inb q5 64) <|
        if (q3.2 12 (ix q5)) = 0 then
          f_compileTable_117 n (f_compileTable_78 n k) x1 x2 (0 : Int32) x2 q3
        else
          f_compileTable_117 n (f_compileTable_78 n k) x1 x2 (1 : Int32) x2 q3
      else
        f_compileTable_124 n s
    else
      f_compileTable_124 n s) := rfl
theorem u_compileTable_23 (n : Nat) (k : Nat) (x1 : Int32) (s : St) : f_compileTable_23 n (k + 1) x1 s =
    (if x1 < (s.1 29) then
      if x1 < (16 : Int32) then
        grd (inb x1 16) <|
        if (s.2 1 (ix x1)) < 0 then
          f_compileTable_23 n k (x1 + (1 : Int32)) s
        else
          if (s.2 1 (ix x1)) < (64 : Int32) then
            grd (inb (s.2 1 (ix x1)) 64) <|
            bnd (setA s 12 (ix (s.2 1 (ix x1))) ((1 : Int32) &&& 1)) fun s7 =>
            f_compileTable_23 n k (x1 + (1 : Int32)) s7
          else
            f_compileTable_23 n k (x1 + (1 : Int32)) s
      else
        f_compileTable_67 n s
    else
      f_compileTable_67 n s) := rfl
theorem u_compileTable_2 (n : Nat) (k : Nat) (x1 : Int32) (s : St) : f_compileTable_2 n (k + 1) x1 s =
    (if x1 < (64 : Int32) then
      grd (inb x1 64) <|
      bnd (setA s 12 (ix x1) ((0 : Int32) &&& 1)) fun s3 =>
      f_compileTable_2 n k (x1 + (1 : Int32)) s3
    else
      f_compileTable_23 n n (0 : Int32) s) := rfl
theorem u_memoFind_35 (n : Nat) (s : St) (k : Nat) (x3 : Int32) (x4 : Int32) (x5 : Int32) (x6 : Int32) : f_memoFind_35 n s (k + 1) x3 x4 x5 x6 =
    (if x6 < (1024 : Int32) then
      grd (inb x5 1024) <|
      if (s.2 16 (ix x5)) = 0 then
        some (-1 : Int32)
      else
        if (s.2 13 (ix x5)) = x3 then
          if (s.2 14 (ix x5)) = x4 then
            some (s.2 15 (ix x5))
          else
            f_memoFind_84 n s (f_memoFind_35 n s k) x3 x4 x5 x6
        else
          f_memoFind_84 n s (f_memoFind_35 n s k) x3 x4 x5 x6
    else
      some (-1 : Int32)) := rfl
theorem u_memoStore_37 (n : Nat) (k : Nat) (x3 : Int32) (x4 : Int32) (x5 : Int32) (x6 : Int32) (x7 : Int32) (s : St) : f_memoStore_37 n (k + 1) x3 x4 x5 x6 x7 s =
    (if x7 < (1024 : Int32) then
      grd (inb x6 1024) <|
      if (s.2 16 (ix x6)) = 0 then
        bnd (setA s 16 (ix x6) ((1 : Int32) &&& 1)) fun s4 =>
        bnd (setA s4 13 (ix x6) x4) fun s5 =>
        bnd (setA s5 14 (ix x6) x5) fun s6 =>
        bnd (setA s6 15 (ix x6) x3) fun s7 =>
        some s7
      else
        f_memoStore_37 n k x3 x4 x5 ((x6 + (1 : Int32)) &&& (1023 : Int32)) (x7 + (1 : Int32)) s
    else
      some s) := rfl
theorem u_pushChildren_10 (n : Nat) (k : Nat) (x1 : Int32) (x2 : Int32) (x3 : Int32) (x4 : Int32) (s : St) : f_pushChildren_10 n (k + 1) x1 x2 x3 x4 s =
    (if x4 < (s.1 21) then
      (f_cofactor s x1 x3 x4).bind fun q2 =>
      (f_cofactor s x2 x3 x4).bind fun q4 =>
      (f_resolve n s q2 q4).bind fun q6 =>
      if q6 < 0 then
        (f_push q2 q4 s).bind fun q9 =>
        f_pushChildren_10 n k x1 x2 x3 (x4 + (1 : Int32)) q9
      else
        f_pushChildren_10 n k x1 x2 x3 (x4 + (1 : Int32)) s
    else
      some s) := rfl
theorem u_conjoin_35 (n : Nat) (k : Nat) (x1 : Int32) (x2 : Int32) (x3 : Int32) (s : St) : f_conjoin_35 n (k + 1) x1 x2 x3 s =
    (if x3 < (200000 : Int32) then
      if 0 < (s.1 30) then
        (f_step n s).bind fun q3 =>
        f_conjoin_35 n k x1 x2 (x3 + (1 : Int32)) q3
      else
        f_conjoin_58 n x1 x2 s
    else
      f_conjoin_58 n x1 x2 s) := rfl
theorem u_conjoin_2 (n : Nat) (k : Nat) (x1 : Int32) (x2 : Int32) (x3 : Int32) (s : St) : f_conjoin_2 n (k + 1) x1 x2 x3 s =
    (if x3 < (1024 : Int32) then
      grd (inb x3 1024) <|
      bnd (setA s 16 (ix x3) ((0 : Int32) &&& 1)) fun s3 =>
      f_conjoin_2 n k x1 x2 (x3 + (1 : Int32)) s3
    else
      bnd (setI s 30 (0 : Int32)) fun s4 =>
      (f_push x1 x2 s4).bind fun q5 =>
      f_conjoin_35 n n x1 x2 (0 : Int32) q5) := rfl
theorem u_gap_5 (n : Nat) (s : St) (k : Nat) (x2 : Int32) (x3 : Int32) (x4 : Int32) : f_gap_5 n s (k + 1) x2 x3 x4 =
    (if x4 < x2 then
      if x4 < (5 : Int32) then
        grd (inb x4 5) <|
        if (s.2 3 (ix x4)) < 0 then
          f_gap_5 n s k x2 (x3 * (s.1 21)) (x4 + (1 : Int32))
        else
          f_gap_5 n s k x2 x3 (x4 + (1 : Int32))
      else
        some x3
    else
      some x3) := rfl
theorem u_nodeCount_23 (n : Nat) (s : St) (k : Nat) (x1 : Int32) (x2 : Int32) (x3 : Int32) (x4 : Int32) : f_nodeCount_23 n s (k + 1) x1 x2 x3 x4 =
    (if x4 < (s.1 21) then
      grd (inb x2 5) <|
      if (s.2 3 (ix x2)) < 0 then
        f_nodeCount_55 n s (f_nodeCount_23 n s k) x1 x2 x3 x4
      else
        if (s.2 3 (ix x2)) = x4 then
          f_nodeCount_55 n s (f_nodeCount_23 n s k) x1 x2 x3 x4
        else
          f_nodeCount_23 n s k x1 x2 x3 (x4 + (1 : Int32))
    else
      some x3) := rfl
theorem u_countFixed_26 (n : Nat) (k : Nat) (x1 : Int32) (x2 : Int32) (s : St) : f_countFixed_26 n (k + 1) x1 x2 s =
    (if x1 < x2 then
      f_countFixed_55 n x1 s
    else
      if x2 < (2048 : Int32) then
        (f_nodeCount n s x2).bind fun q3 =>
        grd (inb x2 2048) <|
        bnd (setA s 10 (ix x2) q3) fun s6 =>
        f_countFixed_26 n k x1 (x2 + (1 : Int32)) s6
      else
        f_countFixed_55 n x1 s) := rfl
theorem u_loadChoices_2 (n : Nat) (k : Nat) (x1 : Int32) (s : St) : f_loadChoices_2 n (k + 1) x1 s =
    (if x1 < (5 : Int32) then
      grd (inb x1 5) <|
      bnd (setA s 3 (ix x1) (s.2 2 (ix x1))) fun s3 =>
      f_loadChoices_2 n k (x1 + (1 : Int32)) s3
    else
      some s) := rfl
theorem u_offeredMask_14 (n : Nat) (k : Nat) (x1 : Int32) (x2 : Int32) (x3 : Int32) (s : St) : f_offeredMask_14 n (k + 1) x1 x2 x3 s =
    (if x3 < (s.1 21) then
      (f_countWith n x1 x3 s).bind fun q2 =>
      if 0 < q2.1 then
        f_offeredMask_14 n k x1 (x2 ||| ((1 : Int32) <<< (x3 &&& 31))) (x3 + (1 : Int32)) q2.2
      else
        f_offeredMask_14 n k x1 x2 (x3 + (1 : Int32)) q2.2
    else
      some (x2, s)) := rfl
theorem u_addTuple_98 (n : Nat) (k : Nat) (x4 : Int32) (x5 : Int32) (s : St) : f_addTuple_98 n (k + 1) x4 x5 s =
    (if x5 < (s.1 29) then
      if x5 < (16 : Int32) then
        grd (inb x5 16) <|
        if (s.2 1 (ix x5)) = x4 then
          some ((-5 : Int32), s)
        else
          f_addTuple_98 n k x4 (x5 + (1 : Int32)) s
      else
        f_addTuple_135 n x4 s
    else
      f_addTuple_135 n x4 s) := rfl
theorem u_clearUnique_2 (n : Nat) (k : Nat) (x1 : Int32) (s : St) : f_clearUnique_2 n (k + 1) x1 s =
    (if x1 < (4096 : Int32) then
      grd (inb x1 4096) <|
      bnd (setA s 7 (ix x1) (0 : Int32)) fun s3 =>
      f_clearUnique_2 n k (x1 + (1 : Int32)) s3
    else
      some s) := rfl
theorem u_ctor_266 (n : Nat) (k : Nat) (x3 : Int32) (s : St) : f_ctor_266 n (k + 1) x3 s =
    (if x3 < (5 : Int32) then
      grd (inb x3 5) <|
      bnd (setA s 2 (ix x3) (-1 : Int32)) fun s3 =>
      f_ctor_266 n k (x3 + (1 : Int32)) s3
    else
      some s) := rfl
/-! ### the plain law -/
/-! ### what a diagram means: N nodes, their meanings M, their levels L -/
theorem own_pg0 : ∀ (S T : List Nat), T.Nodup → S.length < T.length → ∃ x, x ∈ T ∧ x ∉ S := by
  intro S
  induction S with
  | nil =>
    intro T _ h
    cases T with
    | nil => simp at h
    | cons x T => exact ⟨x, by simp, by simp⟩
  | cons a S ih =>
    intro T hT h
    have h1 : S.length < (T.erase a).length := by
      have := List.length_erase (a := a) (l := T)
      simp only [List.length_cons] at h
      split at this <;> omega
    obtain ⟨x, hx, hs⟩ := ih (T.erase a) (hT.erase a) h1
    rw [hT.mem_erase_iff] at hx
    exact ⟨x, hx.2, by simp only [List.mem_cons, not_or]; exact ⟨hx.1, hs⟩⟩
theorem own_pg (W : Nat) (S : List Nat) (h : Nat) (hS : S.length < W) : ∃ e, e ≤ S.length ∧ (h + e) % W ∉ S := by
  have nd : ((List.range (S.length + 1)).map fun e => (h + e) % W).Nodup := by
    rw [List.nodup_iff_pairwise_ne, List.pairwise_map]
    refine List.Pairwise.imp_of_mem ?_ List.pairwise_lt_range
    intro a b ha hb hab
    rw [List.mem_range] at ha hb
    intro e
    have h1 := Nat.div_add_mod (h + a) W
    have h2 := Nat.div_add_mod (h + b) W
    have h3 : W * ((h + b) / W) - W * ((h + a) / W) = b - a := by omega
    rw [← Nat.mul_sub] at h3
    by_cases q : (h + b) / W - (h + a) / W = 0
    · rw [q] at h3; omega
    · have := Nat.le_mul_of_pos_right W (Nat.pos_of_ne_zero q)
      omega
  obtain ⟨x, hx, hs⟩ := own_pg0 S _ nd (by simp)
  rw [List.mem_map] at hx
  obtain ⟨e, he, rfl⟩ := hx
  rw [List.mem_range] at he
  exact ⟨e, by omega, hs⟩
theorem own_least {P : Nat → Prop} : ∀ N, (∃ e, e ≤ N ∧ P e) → ∃ e, e ≤ N ∧ P e ∧ ∀ e', e' < e → ¬ P e' := by
  intro N
  induction N with
  | zero =>
    intro ⟨e, h, p⟩
    exact ⟨e, h, p, fun e' h' => by omega⟩
  | succ N ih =>
    intro ⟨e, h, p⟩
    by_cases q : ∃ e, e ≤ N ∧ P e
    · obtain ⟨e, h1, h2, h3⟩ := ih q
      exact ⟨e, by omega, h2, h3⟩
    · refine ⟨e, h, p, fun e' h' p' => q ⟨e', by omega, p'⟩⟩
theorem own_and2 {m k : Nat} (hk : k ≤ 30) (h : m < 2147483648) : Int32.ofNat m &&& Int32.ofNat (2 ^ k - 1) = Int32.ofNat (m % 2 ^ k) := by
  have hp : 2 ^ k ≤ 2 ^ 30 := Nat.pow_le_pow_right (by omega) hk
  apply Int32.toBitVec_inj.mp
  apply BitVec.eq_of_toNat_eq
  rw [Int32.toBitVec_and, BitVec.toNat_and]
  show (BitVec.ofNat 32 m).toNat &&& (BitVec.ofNat 32 (2 ^ k - 1)).toNat = (BitVec.ofNat 32 (m % 2 ^ k)).toNat
  have : m % 2 ^ k < 2 ^ k := Nat.mod_lt _ (Nat.pow_pos (by omega))
  rw [BitVec.toNat_ofNat, BitVec.toNat_ofNat, BitVec.toNat_ofNat, Nat.mod_eq_of_lt (by omega : m < 2 ^ 32), Nat.mod_eq_of_lt (by omega : 2 ^ k - 1 < 2 ^ 32), Nat.mod_eq_of_lt (by omega : m % 2 ^ k < 2 ^ 32)]
  exact Nat.and_two_pow_sub_one_eq_mod m k
def own_N (N : Nat) (M : Nat → (Nat → Nat) → Bool) (L : Nat → Nat) (s : St) : Prop :=
  (s.1 20 = 3 ∧ s.1 21 = 3 ∧ s.1 22 = Int32.ofNat N ∧ 2 ≤ N ∧ N ≤ 1000) ∧
  (∀ i, i < N → s.2 5 i = Int32.ofNat (L i) ∧ L i ≤ 3) ∧
  (L 0 = 3 ∧ L 1 = 3 ∧ (∀ x, M 0 x = false) ∧ (∀ x, M 1 x = true)) ∧
  (∀ i, 2 ≤ i → i < N → L i < 3 ∧ ∀ v, v < 3 → ∃ c, s.2 6 (4 * i + v) = Int32.ofNat c ∧ c < i ∧ L i < L c ∧ ∀ x, x (L i) = v → M i x = M c x) ∧
  (∃ U : List Nat, U.length ≤ N ∧ ∀ h, h < 4096 → h ∉ U → s.2 7 h = 0) ∧
  (∀ h, h < 4096 → s.2 7 h = 0 ∨ ∃ i, 2 ≤ i ∧ i < N ∧ s.2 7 h = Int32.ofNat i) ∧
  (∀ i, i < N → ∀ x y : Nat → Nat, (∀ v, L i ≤ v → x v = y v) → M i x = M i y)
def own_X (N : Nat) (M : Nat → (Nat → Nat) → Bool) (L : Nat → Nat) (N' : Nat) (M' : Nat → (Nat → Nat) → Bool) (L' : Nat → Nat) : Prop := N ≤ N' ∧ ∀ i, i < N → M' i = M i ∧ L' i = L i
def own_fr (s t : St) : Prop := (∀ j, j ≠ 22 → t.1 j = s.1 j) ∧ (∀ j, j ≠ 5 → j ≠ 6 → j ≠ 7 → t.2 j = s.2 j)
theorem own_Xr (N : Nat) (M : Nat → (Nat → Nat) → Bool) (L : Nat → Nat) : own_X N M L N M L := ⟨by omega, fun i _ => ⟨rfl, rfl⟩⟩
theorem own_Xt {N N' N'' : Nat} {M M' M'' : Nat → (Nat → Nat) → Bool} {L L' L'' : Nat → Nat} (h : own_X N M L N' M' L') (g : own_X N' M' L' N'' M'' L'') : own_X N M L N'' M'' L'' :=
  ⟨Nat.le_trans h.1 g.1, fun i hi => ⟨(g.2 i (Nat.lt_of_lt_of_le hi h.1)).1.trans (h.2 i hi).1, (g.2 i (Nat.lt_of_lt_of_le hi h.1)).2.trans (h.2 i hi).2⟩⟩
theorem own_frr (s : St) : own_fr s s := ⟨fun _ _ => rfl, fun _ _ _ _ => rfl⟩
theorem own_frt {s t u : St} (h : own_fr s t) (g : own_fr t u) : own_fr s u := ⟨fun j hj => (g.1 j hj).trans (h.1 j hj), fun j a b c => (g.2 j a b c).trans (h.2 j a b c)⟩
/-- the invariant speaks of 20, 21, 22 and of 5, 6, 7 alone -/
theorem own_NF {N : Nat} {M : Nat → (Nat → Nat) → Bool} {L : Nat → Nat} {s t : St} (h1 : t.1 20 = s.1 20) (h2 : t.1 21 = s.1 21) (h3 : t.1 22 = s.1 22) (h5 : t.2 5 = s.2 5) (h6 : t.2 6 = s.2 6) (h7 : t.2 7 = s.2 7) (I : own_N N M L s) : own_N N M L t := by
  unfold own_N
  rw [h1, h2, h3, h5, h6, h7]; exact I
theorem own_same {N : Nat} {M : Nat → (Nat → Nat) → Bool} {L : Nat → Nat} {s : St} (I : own_N N M L s) {i l a b c : Nat} (h2 : 2 ≤ i) (hi : i < N) :
    ∃ q, f_sameNode s (Int32.ofNat i) (Int32.ofNat l) (Int32.ofNat a) (Int32.ofNat b) (Int32.ofNat c) 0 = some q ∧ (q = 0 ∨ (¬ q = 0 ∧ s.2 5 i = Int32.ofNat l ∧ s.2 6 (4 * i + 0) = Int32.ofNat a ∧ s.2 6 (4 * i + 1) = Int32.ofNat b ∧ s.2 6 (4 * i + 2) = Int32.ofNat c)) := by
  have hN : N ≤ 1000 := I.1.2.2.2.2
  unfold f_sameNode
  rw [show (4 : Int32) = Int32.ofNat 4 from rfl, show (1 : Int32) = Int32.ofNat 1 from rfl, show (2 : Int32) = Int32.ofNat 2 from rfl, show (3 : Int32) = Int32.ofNat 3 from rfl, N_mul, N_add, N_add, N_add, grd_pos (inbN (by omega) (by omega)), grd_pos (inbN (by omega) (by omega)), grd_pos (inbN (by omega) (by omega)), grd_pos (inbN (by omega) (by omega)), grd_pos (inbN (by omega) (by omega)), ix_N (by omega), ix_N (by omega), ix_N (by omega), ix_N (by omega), ix_N (by omega)]
  rw [show i * 4 = 4 * i + 0 by omega, show 4 * i + 0 + 1 = 4 * i + 1 by omega, show 4 * i + 0 + 2 = 4 * i + 2 by omega]
  by_cases q1 : s.2 5 i = Int32.ofNat l
  · rw [if_pos q1]
    by_cases q2 : s.2 6 (4 * i + 0) = Int32.ofNat a
    · rw [if_pos q2]
      by_cases q3 : s.2 6 (4 * i + 1) = Int32.ofNat b
      · rw [if_pos q3]
        by_cases q4 : s.2 6 (4 * i + 2) = Int32.ofNat c
        · rw [if_pos q4]
          split
          · exact ⟨_, rfl, Or.inr ⟨by decide, q1, q2, q3, q4⟩⟩
          · exact ⟨_, rfl, Or.inl rfl⟩
        · rw [if_neg q4]; exact ⟨_, rfl, Or.inl rfl⟩
      · rw [if_neg q3]; exact ⟨_, rfl, Or.inl rfl⟩
    · rw [if_neg q2]; exact ⟨_, rfl, Or.inl rfl⟩
  · rw [if_neg q1]; exact ⟨_, rfl, Or.inl rfl⟩
theorem own_hash (s : St) (a b c d e : Int32) : ∃ h : Nat, h < 4096 ∧ f_hashOf s a b c d e = some (Int32.ofNat h) := by
  obtain ⟨v, hv⟩ : ∃ v : Int32, f_hashOf s a b c d e = some (v &&& 4095) := ⟨_, rfl⟩
  have r := and_rng v (m := 4095) (by omega)
  rw [show Int32.ofNat 4095 = (4095 : Int32) from rfl] at r
  obtain ⟨h, e, -, h2⟩ := own_nat (x := v &&& 4095) (lo := 0) (hi := 4095) (by omega) (by omega)
  exact ⟨h, by omega, by rw [hv, e]⟩
/-- what a node with these children means -/
def own_br (l : Nat) (f g h : (Nat → Nat) → Bool) (x : Nat → Nat) : Bool := if x l = 0 then f x else if x l = 1 then g x else h x
def own_kd (N : Nat) (s t : St) : Prop := ∀ i, i < N → ∀ v, v < 3 → t.2 6 (4 * i + v) = s.2 6 (4 * i + v)
def own_mkR (N : Nat) (M : Nat → (Nat → Nat) → Bool) (L : Nat → Nat) (l a b c : Nat) (s : St) (o : Option (Int32 × St)) : Prop :=
  ∃ r N' M' L' s', o = some (Int32.ofNat r, s') ∧ own_N N' M' L' s' ∧ N' ≤ N + 1 ∧ own_X N M L N' M' L' ∧ r < N' ∧ l ≤ L' r ∧ (∀ x : Nat → Nat, (∀ v, x v < 3) → M' r x = own_br l (M a) (M b) (M c) x) ∧ own_fr s s' ∧ own_kd N s s'
theorem own_new {N : Nat} {M : Nat → (Nat → Nat) → Bool} {L : Nat → Nat} {s : St} (I : own_N N M L s) (hN : N < 1000) {l a b c h : Nat} (hl : l < 3) (ha : a < N ∧ l < L a) (hb : b < N ∧ l < L b) (hc : c < N ∧ l < L c) (hh : h < 4096) :
    own_mkR N M L l a b c s (f_newNode (Int32.ofNat h) (Int32.ofNat l) (Int32.ofNat a) (Int32.ofNat b) (Int32.ofNat c) 0 s) := by
  obtain ⟨⟨i1, i2, i3, i4, i5⟩, j1, j2, j3, ⟨U, u1, u2⟩, j5, j6⟩ := I
  unfold f_newNode
  simp only [bnd_eq]
  rw [i3, if_pos (ltZ (z := 2048) 2048 rfl (by omega) (by omega)), show (4 : Int32) = Int32.ofNat 4 from rfl, show (1 : Int32) = Int32.ofNat 1 from rfl, show (2 : Int32) = Int32.ofNat 2 from rfl, show (3 : Int32) = Int32.ofNat 3 from rfl, N_mul, N_add, N_add, N_add, N_add, grd_pos (inbN (by omega) (by omega)), grd_pos (inbN (by omega) (by omega)), grd_pos (inbN (by omega) (by omega)), grd_pos (inbN (by omega) (by omega)), grd_pos (inbN (by omega) (by omega)), grd_pos (inbN (by omega) (by omega)), ix_N (by omega), ix_N (by omega), ix_N (by omega), ix_N (by omega), ix_N (by omega), ix_N (by omega)]
  obtain ⟨s', es⟩ : ∃ s', s' = setA (setA (setA (setA (setA (setA (setI s 22 (Int32.ofNat (N + 1))) 5 N (Int32.ofNat l)) 6 (N * 4) (Int32.ofNat a)) 6 (N * 4 + 1) (Int32.ofNat b)) 6 (N * 4 + 2) (Int32.ofNat c)) 6 (N * 4 + 3) 0) 7 h (Int32.ofNat N) := ⟨_, rfl⟩
  rw [← es]
  have e1 : ∀ j, s'.1 j = if j = 22 then Int32.ofNat (N + 1) else s.1 j := fun j => by rw [es]; rfl
  have e5 : ∀ x, s'.2 5 x = if x = N then Int32.ofNat l else s.2 5 x := fun x => by
    rw [es]; simp [setA_2, setI_2]
  have e6 : ∀ i v, v < 3 → s'.2 6 (4 * i + v) = if i = N then (if v = 0 then Int32.ofNat a else if v = 1 then Int32.ofNat b else Int32.ofNat c) else s.2 6 (4 * i + v) := fun i v hv => by
    rw [es]
    simp only [setA_2, setI_2]
    rw [if_neg (fun z => by omega), if_neg (fun z => by omega)]
    by_cases q : i = N
    · subst q
      have : v = 0 ∨ v = 1 ∨ v = 2 := by omega
      rcases this with rfl | rfl | rfl
      · rw [if_neg (fun z => by omega), if_neg (fun z => by omega), if_pos ⟨by trivial, by omega⟩, if_pos rfl, if_pos rfl]
      · rw [if_neg (fun z => by omega), if_pos ⟨by trivial, by omega⟩, if_pos rfl, if_neg (by decide), if_pos rfl]
      · rw [if_pos ⟨by trivial, by omega⟩, if_pos rfl, if_neg (by decide), if_neg (by decide)]
    · rw [if_neg (fun z => by omega), if_neg (fun z => by omega), if_neg (fun z => by omega), if_neg (fun z => by omega), if_neg q]
  have e7 : ∀ x, s'.2 7 x = if x = h then Int32.ofNat N else s.2 7 x := fun x => by
    rw [es]; simp [setA_2, setI_2]
  have eo : ∀ j, j ≠ 5 → j ≠ 6 → j ≠ 7 → s'.2 j = s.2 j := fun j h5 h6 h7 => by
    funext x
    rw [es]; simp [setA_2, setI_2, h5, h6, h7]
  clear es
  obtain ⟨M', hM⟩ : ∃ M' : Nat → (Nat → Nat) → Bool, ∀ i, M' i = if i = N then own_br l (M a) (M b) (M c) else M i := ⟨_, fun _ => rfl⟩
  obtain ⟨L', hL⟩ : ∃ L' : Nat → Nat, ∀ i, L' i = if i = N then l else L i := ⟨_, fun _ => rfl⟩
  have MN : M' N = own_br l (M a) (M b) (M c) := by rw [hM, if_pos rfl]
  have LN : L' N = l := by rw [hL, if_pos rfl]
  have Mo : ∀ i, i ≠ N → M' i = M i := fun i q => by rw [hM, if_neg q]
  have Lo : ∀ i, i ≠ N → L' i = L i := fun i q => by rw [hL, if_neg q]
  clear hM hL
  refine ⟨N, N + 1, M', L', s', rfl, ?_, by omega, ⟨by omega, fun i hi => ⟨Mo i (by omega), Lo i (by omega)⟩⟩, by omega, by rw [LN]; omega, fun x _ => by rw [MN], ⟨fun j hj => by rw [e1, if_neg hj], eo⟩, fun i hi v hv => by rw [e6 i v hv, if_neg (by omega)]⟩
  refine ⟨⟨by rw [e1, if_neg (by decide)]; exact i1, by rw [e1, if_neg (by decide)]; exact i2, by rw [e1, if_pos rfl], by omega, by omega⟩, fun i hi => ?_, ?_, fun i h2 hi => ?_, ⟨h :: U, by simp only [List.length_cons]; omega, fun x hx hn => ?_⟩, fun x hx => ?_, fun i hi x y hxy => ?_⟩
  · rw [e5]
    by_cases q : i = N
    · rw [if_pos q, q, LN]; exact ⟨rfl, by omega⟩
    · rw [if_neg q, Lo i q]; exact j1 i (by omega)
  · rw [Lo 0 (by omega), Lo 1 (by omega), Mo 0 (by omega), Mo 1 (by omega)]; exact j2
  · by_cases q : i = N
    · subst q
      rw [LN, MN]
      refine ⟨hl, fun v hv => ?_⟩
      rw [e6 i v hv, if_pos rfl]
      have : v = 0 ∨ v = 1 ∨ v = 2 := by omega
      rcases this with rfl | rfl | rfl
      · rw [if_pos rfl]
        exact ⟨a, rfl, ha.1, by rw [Lo a (by omega)]; exact ha.2, fun x hx => by rw [Mo a (by omega)]; unfold own_br; rw [if_pos hx]⟩
      · rw [if_neg (by decide), if_pos rfl]
        exact ⟨b, rfl, hb.1, by rw [Lo b (by omega)]; exact hb.2, fun x hx => by rw [Mo b (by omega)]; unfold own_br; rw [if_neg (by omega), if_pos hx]⟩
      · rw [if_neg (by decide), if_neg (by decide)]
        exact ⟨c, rfl, hc.1, by rw [Lo c (by omega)]; exact hc.2, fun x hx => by rw [Mo c (by omega)]; unfold own_br; rw [if_neg (by omega), if_neg (by omega)]⟩
    · rw [Lo i q, Mo i q]
      obtain ⟨k1, k2⟩ := j3 i h2 (by omega)
      refine ⟨k1, fun v hv => ?_⟩
      obtain ⟨c', c1, c2, c3, c4⟩ := k2 v hv
      rw [e6 i v hv, if_neg q]
      exact ⟨c', c1, c2, by rw [Lo c' (by omega)]; exact c3, fun x hx => by rw [Mo c' (by omega)]; exact c4 x hx⟩
  · simp only [List.mem_cons, not_or] at hn
    rw [e7, if_neg hn.1]; exact u2 x hx hn.2
  · rw [e7]
    by_cases q : x = h
    · rw [if_pos q]; exact Or.inr ⟨N, by omega, by omega, rfl⟩
    · rw [if_neg q]
      rcases j5 x hx with z | ⟨i, z1, z2, z3⟩
      · exact Or.inl z
      · exact Or.inr ⟨i, z1, by omega, z3⟩
  · by_cases q : i = N
    · subst q
      rw [MN]
      rw [LN] at hxy
      unfold own_br
      rw [hxy l (by omega), j6 a ha.1 x y (fun v hv => hxy v (by omega)), j6 b hb.1 x y (fun v hv => hxy v (by omega)), j6 c hc.1 x y (fun v hv => hxy v (by omega))]
    · rw [Mo i q]
      rw [Lo i q] at hxy
      exact j6 i (by omega) x y hxy
theorem own_mk63 {n N : Nat} {M : Nat → (Nat → Nat) → Bool} {L : Nat → Nat} {s : St} (I : own_N N M L s) (hN : N < 1000) {l a b c h0 E : Nat} (hl : l < 3) (ha : a < N ∧ l < L a) (hb : b < N ∧ l < L b) (hc : c < N ∧ l < L c) (hE : E ≤ 1000) (h0b : h0 < 4096) (fE : s.2 7 ((h0 + E) % 4096) = 0) :
    ∀ m e k, e + m = E → m < k → own_mkR N M L l a b c s (f_mk_63 n k (Int32.ofNat l) (Int32.ofNat a) (Int32.ofNat b) (Int32.ofNat c) 0 (Int32.ofNat ((h0 + e) % 4096)) (Int32.ofNat e) s) := by
  have nw : ∀ h, h < 4096 → own_mkR N M L l a b c s ((f_newNode (Int32.ofNat h) (Int32.ofNat l) (Int32.ofNat a) (Int32.ofNat b) (Int32.ofNat c) 0 s).bind fun q4 => some (q4.1, q4.2)) := fun h hh => by
    obtain ⟨r, N', M', L', s', e1, rest⟩ := own_new I hN hl ha hb hc hh
    exact ⟨r, N', M', L', s', by rw [e1, Option.bind_some], rest⟩
  intro m
  induction m with
  | zero =>
    intro e k he hk
    obtain ⟨k, rfl⟩ : ∃ k', k = k' + 1 := ⟨k - 1, by omega⟩
    have hb' : (h0 + e) % 4096 < 4096 := Nat.mod_lt _ (by omega)
    rw [u_mk_63, if_pos (ltZ (z := 4096) 4096 rfl (by omega) (by omega)), grd_pos (inbN hb' (by omega)), ix_N (by omega), if_pos (by rw [show e = E by omega]; exact fE)]
    exact nw _ hb'
  | succ m ih =>
    intro e k he hk
    obtain ⟨k, rfl⟩ : ∃ k', k = k' + 1 := ⟨k - 1, by omega⟩
    have hb' : (h0 + e) % 4096 < 4096 := Nat.mod_lt _ (by omega)
    rw [u_mk_63, if_pos (ltZ (z := 4096) 4096 rfl (by omega) (by omega)), grd_pos (inbN hb' (by omega)), ix_N (by omega)]
    by_cases q : s.2 7 ((h0 + e) % 4096) = 0
    · rw [if_pos q]; exact nw _ hb'
    · rw [if_neg q]
      rcases I.2.2.2.2.2.1 _ hb' with z | ⟨i, i2, iN, ei⟩
      · exact absurd z q
      · rw [ei]
        obtain ⟨w, e1, e2⟩ := own_same I (l := l) (a := a) (b := b) (c := c) i2 iN
        rw [e1, Option.bind_some]
        rcases e2 with z | ⟨z, k1, k2, k3, k4⟩
        · rw [if_pos z, N_succ, show (4095 : Int32) = Int32.ofNat (2 ^ 12 - 1) from rfl, own_and2 (by omega) (by omega), N_succ]
          have := ih (e + 1) k (by omega) (by omega)
          rw [show ((h0 + e) % 4096 + 1) % 2 ^ 12 = (h0 + (e + 1)) % 4096 by omega]
          exact this
        · rw [if_neg z]
          have hN1 : N ≤ 1000 := I.1.2.2.2.2
          have Li : L i = l := by
            have := (I.2.1 i iN).1
            have l3 := (I.2.1 i iN).2
            rw [k1, N_inj (by omega) (by omega)] at this
            exact this.symm
          refine ⟨i, N, M, L, s, rfl, I, by omega, own_Xr N M L, iN, by omega, fun x hx => ?_, own_frr s, fun _ _ _ _ => rfl⟩
          obtain ⟨-, kk⟩ := I.2.2.2.1 i i2 iN
          rw [Li] at kk
          have g : ∀ v c', v < 3 → c' < N → s.2 6 (4 * i + v) = Int32.ofNat c' → x l = v → M i x = M c' x := fun v c' hv hc' ec hx' => by
            obtain ⟨c2, d1, d2, d3, d4⟩ := kk v hv
            rw [d1, N_inj (by omega) (by omega)] at ec
            rw [← ec]
            exact d4 x hx'
          unfold own_br
          have hxl := hx l
          have : x l = 0 ∨ x l = 1 ∨ x l = 2 := by omega
          rcases this with z | z | z
          · rw [if_pos z]; exact g 0 a (by omega) ha.1 k2 z
          · rw [if_neg (by omega), if_pos z]; exact g 1 b (by omega) hb.1 k3 z
          · rw [if_neg (by omega), if_neg (by omega)]; exact g 2 c (by omega) hc.1 k4 z
theorem own_mk {n N : Nat} (hn : 1500 ≤ n) {M : Nat → (Nat → Nat) → Bool} {L : Nat → Nat} {s : St} (I : own_N N M L s) (hN : N < 1000) {l a b c : Nat} (hl : l < 3) (ha : a < N ∧ l < L a) (hb : b < N ∧ l < L b) (hc : c < N ∧ l < L c) :
    own_mkR N M L l a b c s (f_mk n (Int32.ofNat l) (Int32.ofNat a) (Int32.ofNat b) (Int32.ofNat c) 0 s) := by
  have go : own_mkR N M L l a b c s (f_mk_38 n (Int32.ofNat l) (Int32.ofNat a) (Int32.ofNat b) (Int32.ofNat c) 0 0 s) := by
    unfold f_mk_38
    rw [if_pos rfl]
    obtain ⟨h0, h1, h2⟩ := own_hash s (Int32.ofNat l) (Int32.ofNat a) (Int32.ofNat b) (Int32.ofNat c) 0
    rw [h2, Option.bind_some]
    obtain ⟨U, u1, u2⟩ := I.2.2.2.2.1
    obtain ⟨E, e1, e2⟩ := own_pg 4096 U h0 (by omega)
    have := own_mk63 (n := n) I hN hl ha hb hc (E := E) (by omega) h1 (u2 _ (Nat.mod_lt _ (by omega)) e2) E 0 n (by omega) (by omega)
    rw [Nat.add_zero, Nat.mod_eq_of_lt h1] at this
    exact this
  unfold f_mk
  by_cases q1 : b = a
  · rw [if_pos (by rw [q1]), I.1.2.1, if_neg (by decide)]
    by_cases q2 : c = a
    · rw [if_pos (by rw [q2])]
      unfold f_mk_19
      rw [I.1.2.1, if_pos (by decide)]
      unfold f_mk_38
      rw [if_neg (by decide)]
      refine ⟨a, N, M, L, s, rfl, I, by omega, own_Xr N M L, ha.1, by omega, fun x _ => ?_, own_frr s, fun _ _ _ _ => rfl⟩
      rw [q1, q2]
      unfold own_br
      split
      · rfl
      · split <;> rfl
    · rw [if_neg (fun z => q2 ((N_inj (by omega) (by omega)).mp z))]; exact go
  · rw [if_neg (fun z => q1 ((N_inj (by omega) (by omega)).mp z))]; exact go
/-! ### reduceBuffer -/
/-- the buffer's cells: nodes of level at least l with these meanings -/
def own_B (l K : Nat) (g : Nat → (Nat → Nat) → Bool) (off : Nat) (N : Nat) (M : Nat → (Nat → Nat) → Bool) (L : Nat → Nat) (s : St) : Prop :=
  ∀ y, off ≤ y → y < K → ∃ r, s.2 11 y = Int32.ofNat r ∧ r < N ∧ l ≤ L r ∧ ∀ x : Nat → Nat, (∀ v, x v < 3) → M r x = g y x
theorem own_BX {l K off N N' : Nat} {g : Nat → (Nat → Nat) → Bool} {M M' : Nat → (Nat → Nat) → Bool} {L L' : Nat → Nat} {s t : St} (h : own_B l K g off N M L s) (X : own_X N M L N' M' L') (e : ∀ y, off ≤ y → y < K → t.2 11 y = s.2 11 y) : own_B l K g off N' M' L' t := by
  intro y h1 h2
  obtain ⟨r, r1, r2, r3, r4⟩ := h y h1 h2
  refine ⟨r, by rw [e y h1 h2]; exact r1, Nat.lt_of_lt_of_le r2 X.1, by rw [(X.2 r r2).2]; exact r3, fun x hx => by rw [(X.2 r r2).1]; exact r4 x hx⟩
def own_fb (s t : St) : Prop := (∀ j, j ≠ 22 → t.1 j = s.1 j) ∧ (∀ j, j ≠ 5 → j ≠ 6 → j ≠ 7 → j ≠ 11 → t.2 j = s.2 j)
theorem own_red1 {n l K : Nat} (hn : 1500 ≤ n) (hl : l < 3) (hK : K ≤ 9) {g : Nat → (Nat → Nat) → Bool} {k16 : Int32 → Int32 → St → Option (Int32 × St)} :
    ∀ (m i k N : Nat) (M : Nat → (Nat → Nat) → Bool) (L : Nat → Nat) (s : St), i + m = K → m < k → own_N N M L s → N + m ≤ 900 → own_B (l + 1) (3 * K) g (3 * i) N M L s → own_B l i (fun y x => g (3 * y + x l) x) 0 N M L s →
      ∃ N' M' L' t, f_reduceBuffer_29 n k16 k (Int32.ofNat K) (Int32.ofNat l) (Int32.ofNat i) s = k16 (Int32.ofNat K) (Int32.ofNat l + (-1)) t ∧ own_N N' M' L' t ∧ N' ≤ N + m ∧ own_X N M L N' M' L' ∧ own_B l K (fun y x => g (3 * y + x l) x) 0 N' M' L' t ∧ own_fb s t := by
  intro m
  induction m with
  | zero =>
    intro i k N M L s hi hk I hN hB hC
    obtain ⟨k, rfl⟩ : ∃ k', k = k' + 1 := ⟨k - 1, by omega⟩
    have : i = K := by omega
    subst this
    rw [u_reduceBuffer_29, if_neg (nltN (by omega))]
    exact ⟨N, M, L, s, rfl, I, by omega, own_Xr N M L, hC, fun _ _ => rfl, fun _ _ _ _ _ => rfl⟩
  | succ m ih =>
    intro i k N M L s hi hk I hN hB hC
    obtain ⟨k, rfl⟩ : ∃ k', k = k' + 1 := ⟨k - 1, by omega⟩
    obtain ⟨a, a1, a2, a3, a4⟩ := hB (3 * i) (by omega) (by omega)
    obtain ⟨b, b1, b2, b3, b4⟩ := hB (3 * i + 1) (by omega) (by omega)
    obtain ⟨c, c1, c2, c3, c4⟩ := hB (3 * i + 2) (by omega) (by omega)
    rw [u_reduceBuffer_29, if_pos (ltN (by omega) (by omega)), I.1.2.1, bnd_eq, if_pos (by decide), show (3 : Int32) = Int32.ofNat 3 from rfl, show (2 : Int32) = Int32.ofNat 2 from rfl, N_mul, N_succ, N_add, grd_pos (inbN (by omega) (by omega)), grd_pos (inbN (by omega) (by omega)), grd_pos (inbN (by omega) (by omega)), ix_N (by omega), ix_N (by omega), ix_N (by omega), show i * 3 = 3 * i by omega, a1, b1, c1]
    unfold f_reduceBuffer_83
    rw [I.1.2.1, if_neg (by decide)]
    unfold f_reduceBuffer_106
    obtain ⟨r, N1, M1, L1, s1, r1, r2, r3, r4, r5, r6, r7, r8, -⟩ := own_mk hn I (by omega) hl ⟨a2, by omega⟩ ⟨b2, by omega⟩ ⟨c2, by omega⟩ (a := a) (b := b) (c := c)
    rw [r1, Option.bind_some, grd_pos (inbN (by omega) (by omega)), bnd_eq, ix_N (by omega), N_succ]
    have I2 : own_N N1 M1 L1 (setA s1 11 i (Int32.ofNat r)) := own_NF rfl rfl rfl (by funext x; simp [setA_2]) (by funext x; simp [setA_2]) (by funext x; simp [setA_2]) r2
    have e11 : ∀ y, (setA s1 11 i (Int32.ofNat r)).2 11 y = if y = i then Int32.ofNat r else s.2 11 y := fun y => by
      rw [setA_2, r8.2 11 (by decide) (by decide) (by decide)]; simp
    obtain ⟨N', M', L', t, t1, t2, t3, t4, t5, t6⟩ := ih (i + 1) k N1 M1 L1 _ (by omega) (by omega) I2 (by omega)
      (fun y h1 h2 => own_BX hB r4 (fun y h1 h2 => rfl : ∀ y, 3 * i ≤ y → y < 3 * K → s.2 11 y = s.2 11 y) y (by omega) h2 |> fun ⟨q, q1, q2⟩ => ⟨q, by rw [e11, if_neg (by omega)]; exact q1, q2⟩)
      (fun y h1 h2 => by
        by_cases q : y = i
        · subst q
          refine ⟨r, by rw [e11, if_pos rfl], r5, r6, fun x hx => ?_⟩
          rw [r7 x hx]
          show own_br l (M a) (M b) (M c) x = g (3 * y + x l) x
          unfold own_br
          have hxl := hx l
          have : x l = 0 ∨ x l = 1 ∨ x l = 2 := by omega
          rcases this with z | z | z
          · rw [if_pos z, a4 x hx, z]; rfl
          · rw [if_neg (by omega), if_pos z, b4 x hx, z]
          · rw [if_neg (by omega), if_neg (by omega), c4 x hx, z]
        · obtain ⟨w, w1, w2, w3, w4⟩ := own_BX hC r4 (fun y h1 h2 => rfl : ∀ y, 0 ≤ y → y < i → s.2 11 y = s.2 11 y) y h1 (by omega)
          exact ⟨w, by rw [e11, if_neg q]; exact w1, w2, w3, w4⟩)
    refine ⟨N', M', L', t, t1, t2, by omega, own_Xt r4 t4, t5, fun j hj => ?_, fun j h5 h6 h7 h11 => ?_⟩
    · rw [t6.1 j hj, setA_1, r8.1 j hj]
    · rw [t6.2 j h5 h6 h7 h11]
      funext x
      rw [setA_2, if_neg (fun z => h11 z.1), r8.2 j h5 h6 h7]
theorem own_pow {n : Nat} (hn : 10 ≤ n) {s : St} (h : s.1 21 = 3) : f_pow n s 3 = some 27 := by
  obtain ⟨m, rfl⟩ : ∃ m, n = m + 10 := ⟨n - 10, by omega⟩
  unfold f_pow
  rw [u_pow_4, if_pos (by decide), if_pos (by decide), h, show (1 : Int32) * 3 = 3 from rfl, show (0 : Int32) + 1 = 1 from rfl]
  rw [u_pow_4, if_pos (by decide), if_pos (by decide), h, show (3 : Int32) * 3 = 9 from rfl, show (1 : Int32) + 1 = 2 from rfl]
  rw [u_pow_4, if_pos (by decide), if_pos (by decide), h, show (9 : Int32) * 3 = 27 from rfl, show (2 : Int32) + 1 = 3 from rfl]
  rw [u_pow_4, if_neg (by decide)]
theorem own_fbt {s t u : St} (h : own_fb s t) (g : own_fb t u) : own_fb s u := ⟨fun j hj => (g.1 j hj).trans (h.1 j hj), fun j a b c d => (g.2 j a b c d).trans (h.2 j a b c d)⟩
theorem own_red {n N : Nat} (hn : 1500 ≤ n) {g : Nat → (Nat → Nat) → Bool} {M : Nat → (Nat → Nat) → Bool} {L : Nat → Nat} {s : St} (I : own_N N M L s) (hN : N ≤ 800) (hB : own_B 3 27 g 0 N M L s) :
    ∃ r N' M' L' t, f_reduceBuffer n s = some (Int32.ofNat r, t) ∧ own_N N' M' L' t ∧ N' ≤ N + 13 ∧ own_X N M L N' M' L' ∧ r < N' ∧ (∀ x : Nat → Nat, (∀ v, x v < 3) → M' r x = g (3 * (3 * (x 0) + x 1) + x 2) x) ∧ own_fb s t := by
  obtain ⟨m, rfl⟩ : ∃ m, n = m + 10 := ⟨n - 10, by omega⟩
  unfold f_reduceBuffer
  rw [I.1.1, own_pow (by omega) I.1.2.1, Option.bind_some, show (3 : Int32) - 1 = 2 from rfl]
  rw [u_reduceBuffer_16, if_neg (by decide), I.1.2.1, grd_pos (by decide), show (27 : Int32) / 3 = Int32.ofNat 9 from rfl, show (2 : Int32) = Int32.ofNat 2 from rfl, show (0 : Int32) = Int32.ofNat 0 from rfl]
  obtain ⟨N1, M1, L1, s1, e1, I1, n1, X1, B1, F1⟩ := own_red1 (n := m + 10) (l := 2) (K := 9) (by omega) (by omega) (by omega) (k16 := f_reduceBuffer_16 (m + 10) (m + 9)) 9 0 (m + 10) N M L s (by omega) (by omega) I (by omega) hB (fun y _ h => by omega)
  rw [e1, show Int32.ofNat 2 + -1 = 1 from rfl]
  rw [u_reduceBuffer_16, if_neg (by decide), I1.1.2.1, grd_pos (by decide), show (Int32.ofNat 9) / 3 = Int32.ofNat 3 from rfl, show (1 : Int32) = Int32.ofNat 1 from rfl, show (0 : Int32) = Int32.ofNat 0 from rfl]
  obtain ⟨N2, M2, L2, s2, e2, I2, n2, X2, B2, F2⟩ := own_red1 (n := m + 10) (l := 1) (K := 3) (by omega) (by omega) (by omega) (k16 := f_reduceBuffer_16 (m + 10) (m + 8)) 3 0 (m + 10) N1 M1 L1 s1 (by omega) (by omega) I1 (by omega) B1 (fun y _ h => by omega)
  rw [e2, show Int32.ofNat 1 + -1 = 0 from rfl]
  rw [u_reduceBuffer_16, if_neg (by decide), I2.1.2.1, grd_pos (by decide), show (Int32.ofNat 3) / 3 = Int32.ofNat 1 from rfl, show (0 : Int32) = Int32.ofNat 0 from rfl]
  obtain ⟨N3, M3, L3, s3, e3, I3, n3, X3, B3, F3⟩ := own_red1 (n := m + 10) (l := 0) (K := 1) (by omega) (by omega) (by omega) (k16 := f_reduceBuffer_16 (m + 10) (m + 7)) 1 0 (m + 10) N2 M2 L2 s2 (by omega) (by omega) I2 (by omega) B2 (fun y _ h => by omega)
  rw [e3, show Int32.ofNat 0 + -1 = -1 from rfl]
  rw [u_reduceBuffer_16, if_pos (by decide), show ix (0 : Int32) = 0 from rfl]
  obtain ⟨r, r1, r2, r3, r4⟩ := B3 0 (by omega) (by omega)
  rw [r1]
  refine ⟨r, N3, M3, L3, s3, rfl, I3, by omega, own_Xt (own_Xt X1 X2) X3, r2, fun x hx => ?_, own_fbt (own_fbt F1 F2) F3⟩
  rw [r4 x hx]
  show g (3 * (3 * (3 * 0 + x 0) + x 1) + x 2) x = _
  rw [show 3 * 0 + x 0 = x 0 by omega]
/-! ### compileTable -/
def own_dig (y v : Nat) : Nat := if v = 0 then y / 9 % 3 else if v = 1 then y / 3 % 3 else y % 3
theorem own_dig3 (y v : Nat) : own_dig y v < 3 := by
  unfold own_dig
  split
  · omega
  · split <;> omega
theorem own_divN {a b : Nat} (ha : a < 2147483648) (hb : b < 2147483648) : Int32.ofNat a / Int32.ofNat b = Int32.ofNat (a / b) := by
  apply eq_I.mpr
  have := Nat.div_le_self a b
  rw [Int32.toInt_div, N_toInt ha, N_toInt hb, N_toInt (by omega)]
  rw [show ((a : Int).tdiv (b : Nat)) = ((a / b : Nat) : Int) from (Int.ofNat_tdiv a b).symm]
  generalize a / b = q at this ⊢
  exact bmod_eq (by omega) (by omega)
theorem own_dec {n y : Nat} (hn : 10 ≤ n) (hy : y < 27) {s : St} (h20 : s.1 20 = 3) (h21 : s.1 21 = 3) : ∃ t, f_decode n (Int32.ofNat y) s = some t ∧ t.1 = s.1 ∧ (∀ j, j ≠ 4 → t.2 j = s.2 j) ∧ ∀ v, v < 3 → t.2 4 v = Int32.ofNat (own_dig y v) := by
  obtain ⟨m, rfl⟩ : ∃ m, n = m + 10 := ⟨n - 10, by omega⟩
  unfold f_decode
  rw [h20, show (3 : Int32) - 1 = 2 from rfl]
  rw [u_decode_9, if_neg (by decide), h21, grd_pos (by decide), grd_pos (by decide), bnd_eq, show (setA s 4 (ix 2) (Int32.ofNat y % 3)).1 21 = 3 from h21, grd_pos (by decide), show (2 : Int32) + -1 = 1 from rfl, show (3 : Int32) = Int32.ofNat 3 from rfl, rem_N (by omega) (by omega) (by omega), own_divN (by omega) (by omega), show ix (2 : Int32) = 2 from rfl]
  rw [u_decode_9, if_neg (by decide), show (setA s 4 2 (Int32.ofNat (y % 3))).1 21 = 3 from h21, grd_pos (by decide), grd_pos (by decide), bnd_eq, show (setA (setA s 4 2 (Int32.ofNat (y % 3))) 4 (ix 1) (Int32.ofNat (y / 3) % 3)).1 21 = 3 from h21, grd_pos (by decide), show (1 : Int32) + -1 = 0 from rfl, show (3 : Int32) = Int32.ofNat 3 from rfl, rem_N (by omega) (by omega) (by omega), own_divN (by omega) (by omega), show ix (1 : Int32) = 1 from rfl]
  rw [u_decode_9, if_neg (by decide), show (setA (setA s 4 2 (Int32.ofNat (y % 3))) 4 1 (Int32.ofNat (y / 3 % 3))).1 21 = 3 from h21, grd_pos (by decide), grd_pos (by decide), bnd_eq, show (setA (setA (setA s 4 2 (Int32.ofNat (y % 3))) 4 1 (Int32.ofNat (y / 3 % 3))) 4 (ix 0) (Int32.ofNat (y / 3 / 3) % 3)).1 21 = 3 from h21, grd_pos (by decide), show (0 : Int32) + -1 = -1 from rfl, show (3 : Int32) = Int32.ofNat 3 from rfl, rem_N (by omega) (by omega) (by omega), show ix (0 : Int32) = 0 from rfl]
  rw [u_decode_9, if_pos (by decide)]
  refine ⟨_, rfl, rfl, fun j hj => ?_, fun v hv => ?_⟩
  · funext x
    rw [setA_2, if_neg (fun z => hj z.1), setA_2, if_neg (fun z => hj z.1), setA_2, if_neg (fun z => hj z.1)]
  · rw [setA_2, setA_2, setA_2]
    have : v = 0 ∨ v = 1 ∨ v = 2 := by omega
    unfold own_dig
    rcases this with rfl | rfl | rfl
    · rw [if_pos ⟨by trivial, by trivial⟩, if_pos rfl, Nat.div_div_eq_div_mul]
    · rw [if_neg (fun z => by omega), if_pos ⟨by trivial, by trivial⟩, if_neg (by decide), if_pos rfl]
    · rw [if_neg (fun z => by omega), if_neg (fun z => by omega), if_pos ⟨by trivial, by trivial⟩, if_neg (by decide), if_neg (by decide)]
/-- the cells of the buffer before the reduction -/
theorem own_c78 {n u w : Nat} (hn : 10 ≤ n) (hu : u < 3) (hw : w < 3) {mem : Nat → Bool} : ∀ (m y k : Nat) (s : St), y + m = 27 → m < k → s.1 20 = 3 → s.1 21 = 3 → s.1 25 = 2 → s.1 26 = Int32.ofNat u → s.1 27 = Int32.ofNat w → (∀ h, h < 64 → s.2 12 h = if mem h = true then 1 else 0) → (∀ z, z < y → s.2 11 z = if mem (16 * own_dig z u + 4 * own_dig z w) = true then 1 else 0) →
    ∃ t, f_compileTable_78 n k 27 (Int32.ofNat y) s = f_compileTable_124 n t ∧ t.1 = s.1 ∧ (∀ j, j ≠ 4 → j ≠ 11 → t.2 j = s.2 j) ∧ (∀ z, z < 27 → t.2 11 z = if mem (16 * own_dig z u + 4 * own_dig z w) = true then 1 else 0) := by
  intro m
  induction m with
  | zero =>
    intro y k s hy hk h20 h21 h25 h26 h27 hm hz
    obtain ⟨k, rfl⟩ : ∃ k', k = k' + 1 := ⟨k - 1, by omega⟩
    have : y = 27 := by omega
    subst this
    rw [u_compileTable_78, if_neg (by decide)]
    exact ⟨s, rfl, rfl, fun _ _ _ => rfl, hz⟩
  | succ m ih =>
    intro y k s hy hk h20 h21 h25 h26 h27 hm hz
    obtain ⟨k, rfl⟩ : ∃ k', k = k' + 1 := ⟨k - 1, by omega⟩
    obtain ⟨t, d1, d2, d3, d4⟩ := own_dec (n := n) (y := y) hn (by omega) h20 h21
    have g1 := own_dig3 y u
    have g2 := own_dig3 y w
    have sc : f_scopeCode t = some (Int32.ofNat (16 * own_dig y u + 4 * own_dig y w)) := by
      unfold f_scopeCode f_scopeCode_35
      rw [d2, h26, h25, h27, grd_pos (inbN (by omega) (by omega)), if_neg (by decide), grd_pos (inbN (by omega) (by omega)), bnd_eq, if_neg (by decide), ix_N (by omega), ix_N (by omega), d4 u hu, d4 w hw, show (16 : Int32) = Int32.ofNat 16 from rfl, show (4 : Int32) = Int32.ofNat 4 from rfl, N_mul, N_mul, N_add, Nat.mul_comm, Nat.mul_comm (own_dig y w)]
    rw [u_compileTable_78, if_pos (ltZ (z := 27) 27 rfl (by omega) (by omega)), if_pos (ltZ (z := 1024) 1024 rfl (by omega) (by omega)), d1, Option.bind_some, sc, Option.bind_some, grd_pos (inbN (by omega) (by omega)), ix_N (by omega), d3 12 (by decide), hm _ (by omega)]
    have step : ∀ v : Int32, f_compileTable_117 n (f_compileTable_78 n k) 27 (Int32.ofNat y) v (Int32.ofNat y) t = f_compileTable_78 n k 27 (Int32.ofNat (y + 1)) (setA t 11 y v) := fun v => by
      unfold f_compileTable_117
      rw [grd_pos (inbN (by omega) (by omega)), bnd_eq, ix_N (by omega), N_succ]
    have fin : ∀ v : Int32, v = (if mem (16 * own_dig y u + 4 * own_dig y w) = true then 1 else 0) → ∃ t', f_compileTable_78 n k 27 (Int32.ofNat (y + 1)) (setA t 11 y v) = f_compileTable_124 n t' ∧ t'.1 = s.1 ∧ (∀ j, j ≠ 4 → j ≠ 11 → t'.2 j = s.2 j) ∧ (∀ z, z < 27 → t'.2 11 z = if mem (16 * own_dig z u + 4 * own_dig z w) = true then 1 else 0) := fun v hv => by
      have e1 : (setA t 11 y v).1 = s.1 := d2
      have e2 : ∀ j, j ≠ 4 → j ≠ 11 → (setA t 11 y v).2 j = s.2 j := fun j h4 h11 => by
        funext x; rw [setA_2, if_neg (fun z => h11 z.1), d3 j h4]
      obtain ⟨t', k1, k2, k3, k4⟩ := ih (y + 1) k (setA t 11 y v) (by omega) (by omega) (by rw [e1]; exact h20) (by rw [e1]; exact h21) (by rw [e1]; exact h25) (by rw [e1]; exact h26) (by rw [e1]; exact h27) (by rw [e2 12 (by decide) (by decide)]; exact hm) (fun z hz' => by
        rw [setA_2]
        by_cases q : z = y
        · rw [if_pos ⟨by trivial, q⟩, hv, q]
        · rw [if_neg (fun w => q w.2), d3 11 (by decide)]; exact hz z (by omega))
      exact ⟨t', k1, k2.trans e1, fun j h4 h11 => (k3 j h4 h11).trans (e2 j h4 h11), k4⟩
    by_cases q : mem (16 * own_dig y u + 4 * own_dig y w) = true
    · rw [if_pos q, if_neg (by decide), step]
      exact fin 1 (by rw [if_pos q])
    · rw [if_neg q, if_pos rfl, step]
      exact fin 0 (by rw [if_neg q])
theorem own_c23 {n : Nat} {mt : Nat → Nat} {K : Nat} (hK : K ≤ 16) (ht : ∀ i, i < K → mt i < 64) : ∀ (m i k : Nat) (s : St), i + m = K → m < k → s.1 29 = Int32.ofNat K → (∀ i, i < K → s.2 1 i = Int32.ofNat (mt i)) →
    ∃ t, f_compileTable_23 n k (Int32.ofNat i) s = f_compileTable_67 n t ∧ t.1 = s.1 ∧ (∀ j, j ≠ 12 → t.2 j = s.2 j) ∧ ∀ h, (t.2 12 h = s.2 12 h ∧ ∀ e, i ≤ e → e < K → mt e ≠ h) ∨ (t.2 12 h = 1 ∧ ∃ e, i ≤ e ∧ e < K ∧ mt e = h) := by
  intro m
  induction m with
  | zero =>
    intro i k s hi hk h29 h1
    obtain ⟨k, rfl⟩ : ∃ k', k = k' + 1 := ⟨k - 1, by omega⟩
    rw [u_compileTable_23, h29, if_neg (by rw [show i = K by omega]; exact nltN (by omega))]
    exact ⟨s, rfl, rfl, fun _ _ => rfl, fun h => Or.inl ⟨rfl, fun e a b => by omega⟩⟩
  | succ m ih =>
    intro i k s hi hk h29 h1
    obtain ⟨k, rfl⟩ : ∃ k', k = k' + 1 := ⟨k - 1, by omega⟩
    have hm := ht i (by omega)
    rw [u_compileTable_23, h29, if_pos (ltN (by omega) (by omega)), if_pos (ltZ (z := 16) 16 rfl (by omega) (by omega)), grd_pos (inbN (by omega) (by omega)), ix_N (by omega), h1 i (by omega), if_neg (N_neg (by omega)), if_pos (ltZ (z := 64) 64 rfl hm (by omega)), grd_pos (inbN hm (by omega)), bnd_eq, ix_N (by omega), N_succ]
    obtain ⟨t, k1, k2, k3, k4⟩ := ih (i + 1) k (setA s 12 (mt i) (1 &&& 1)) (by omega) (by omega) h29 (fun e he => by rw [setA_2, if_neg (fun z => by omega)]; exact h1 e he)
    refine ⟨t, k1, k2, fun j hj => ?_, fun h => ?_⟩
    · rw [k3 j hj]; funext x; rw [setA_2, if_neg (fun z => hj z.1)]
    · rcases k4 h with ⟨a1, a2⟩ | ⟨a1, e, a2, a3, a4⟩
      · by_cases q : mt i = h
        · refine Or.inr ⟨?_, i, by omega, by omega, q⟩
          rw [a1, setA_2, if_pos ⟨by trivial, q.symm⟩]; rfl
        · refine Or.inl ⟨?_, fun e b1 b2 => ?_⟩
          · rw [a1, setA_2, if_neg (fun z => q z.2.symm)]
          · by_cases w : e = i
            · rw [w]; exact q
            · exact a2 e (by omega) b2
      · exact Or.inr ⟨a1, e, by omega, a3, a4⟩
theorem own_idx {x : Nat → Nat} (hx : ∀ v, x v < 3) {v : Nat} (hv : v < 3) : own_dig (3 * (3 * x 0 + x 1) + x 2) v = x v := by
  have h0 := hx 0
  have h1 := hx 1
  have h2 := hx 2
  unfold own_dig
  have : v = 0 ∨ v = 1 ∨ v = 2 := by omega
  rcases this with rfl | rfl | rfl
  · rw [if_pos rfl]; omega
  · rw [if_neg (by decide), if_pos rfl]; omega
  · rw [if_neg (by decide), if_neg (by decide)]; omega
def own_fc (s t : St) : Prop := (∀ j, j ≠ 22 → t.1 j = s.1 j) ∧ (∀ j, j ≠ 4 → j ≠ 5 → j ≠ 6 → j ≠ 7 → j ≠ 11 → j ≠ 12 → t.2 j = s.2 j)
theorem own_cmp {n N u w K : Nat} (hn : 1500 ≤ n) (hu : u < 3) (hw : w < 3) {mt : Nat → Nat} (hK : K ≤ 16) (ht : ∀ i, i < K → mt i < 64) {mem : Nat → Bool} (hmem : ∀ h, mem h = true ↔ ∃ e, e < K ∧ mt e = h) {M : Nat → (Nat → Nat) → Bool} {L : Nat → Nat} {s : St} (I : own_N N M L s) (hN : N ≤ 800)
    (h25 : s.1 25 = 2) (h26 : s.1 26 = Int32.ofNat u) (h27 : s.1 27 = Int32.ofNat w) (h29 : s.1 29 = Int32.ofNat K) (h1 : ∀ i, i < K → s.2 1 i = Int32.ofNat (mt i)) :
    ∃ r N' M' L' t, f_compileTable n s = some (Int32.ofNat r, t) ∧ own_N N' M' L' t ∧ N' ≤ N + 13 ∧ own_X N M L N' M' L' ∧ r < N' ∧ (∀ x : Nat → Nat, (∀ v, x v < 3) → M' r x = mem (16 * x u + 4 * x w)) ∧ own_fc s t := by
  have c1 : f_compileTable n s = f_compileTable_23 n n 0 (s.1, fun k x => if k = 12 ∧ x < 64 then 0 else s.2 k x) := by
    have q := loopN (F := f_compileTable_2 n) (N := 64) (f := fun i s => setA s 12 i (0 &&& 1)) (fin := fun s => f_compileTable_23 n n 0 s)
      (fun k i s hi => by rw [u_compileTable_2, if_pos (ltZ (z := 64) 64 rfl hi (by omega)), grd_pos (inbN (n := 64) hi (by omega)), bnd_eq, ix_N (by omega)])
      (fun k s => by rw [u_compileTable_2, if_neg (by decide)]) 64 0 n s (by omega) (by omega)
    rw [itr_fill] at q
    exact q
  obtain ⟨s0, e0⟩ : ∃ s0 : St, s0 = (s.1, fun k x => if k = 12 ∧ x < 64 then 0 else s.2 k x) := ⟨_, rfl⟩
  have z1 : s0.1 = s.1 := by rw [e0]
  have z2 : ∀ j, j ≠ 12 → s0.2 j = s.2 j := fun j hj => by rw [e0]; funext x; show (if j = 12 ∧ x < 64 then 0 else s.2 j x) = _; rw [if_neg (fun z => hj z.1)]
  have z3 : ∀ h, h < 64 → s0.2 12 h = 0 := fun h hh => by rw [e0]; show (if 12 = 12 ∧ h < 64 then 0 else s.2 12 h) = _; rw [if_pos ⟨rfl, hh⟩]
  rw [c1, ← e0]
  clear c1 e0
  obtain ⟨t, a1, a2, a3, a4⟩ := own_c23 (n := n) hK ht K 0 n s0 (by omega) (by omega) (by rw [z1]; exact h29) (fun i hi => by rw [z2 1 (by decide)]; exact h1 i hi)
  rw [show (0 : Int32) = Int32.ofNat 0 from rfl, a1]
  unfold f_compileTable_67
  rw [a2, z1, I.1.1, own_pow (by omega) (by rw [a2, z1]; exact I.1.2.1), Option.bind_some]
  obtain ⟨t2, b1, b2, b3, b4⟩ := own_c78 (n := n) (u := u) (w := w) (by omega) hu hw (mem := mem) 27 0 n t (by omega) (by omega) (by rw [a2, z1]; exact I.1.1) (by rw [a2, z1]; exact I.1.2.1) (by rw [a2, z1]; exact h25) (by rw [a2, z1]; exact h26) (by rw [a2, z1]; exact h27) (fun h hh => by
    rcases a4 h with ⟨c1, c2⟩ | ⟨c1, e, c2, c3, c4⟩
    · rw [c1, z3 h hh, if_neg (fun z => by obtain ⟨e, e1, e2⟩ := (hmem h).mp z; exact c2 e (by omega) e1 e2)]
    · rw [c1, if_pos ((hmem h).mpr ⟨e, c3, c4⟩)]) (fun z hz => by omega)
  rw [show (0 : Int32) = Int32.ofNat 0 from rfl, b1]
  unfold f_compileTable_124
  have g1 : t2.1 = s.1 := b2.trans (a2.trans z1)
  have g2 : ∀ j, j ≠ 4 → j ≠ 11 → j ≠ 12 → t2.2 j = s.2 j := fun j h4 h11 h12 => (b3 j h4 h11).trans ((a3 j h12).trans (z2 j h12))
  have I2 : own_N N M L t2 := own_NF (by rw [g1]) (by rw [g1]) (by rw [g1]) (g2 5 (by decide) (by decide) (by decide)) (g2 6 (by decide) (by decide) (by decide)) (g2 7 (by decide) (by decide) (by decide)) I
  obtain ⟨r, N', M', L', t3, r1, r2, r3, r4, r5, r6, r7⟩ := own_red hn (g := fun y _ => mem (16 * own_dig y u + 4 * own_dig y w)) I2 hN (fun y _ hy => by
    obtain ⟨l0, l1, m0, m1⟩ := I.2.2.1
    have n2 := I.1.2.2.2.1
    rw [b4 y hy]
    by_cases q : mem (16 * own_dig y u + 4 * own_dig y w) = true
    · rw [if_pos q]
      exact ⟨1, rfl, by omega, by omega, fun x _ => by rw [m1]; exact q.symm⟩
    · rw [if_neg q]
      exact ⟨0, rfl, by omega, by omega, fun x _ => by rw [m0]; exact (Bool.eq_false_iff.mpr q).symm⟩)
  rw [r1, Option.bind_some]
  refine ⟨r, N', M', L', t3, rfl, r2, r3, r4, r5, fun x hx => ?_, fun j hj => ?_, fun j h4 h5 h6 h7 h11 h12 => ?_⟩
  · rw [r6 x hx, own_idx hx hu, own_idx hx hw]
  · rw [r7.1 j hj, g1]
  · rw [r7.2 j h5 h6 h7 h11, g2 j h4 h11 h12]
theorem own_kdr (N : Nat) (s : St) : own_kd N s s := fun _ _ _ _ => rfl
theorem own_kdt {N N' : Nat} {s t u : St} (h : own_kd N s t) (g : own_kd N' t u) (hN : N ≤ N') : own_kd N s u := fun i hi v hv => (g i (by omega) v hv).trans (h i hi v hv)
theorem own_cofE {N N' : Nat} {M M' : Nat → (Nat → Nat) → Bool} {L L' : Nat → Nat} {s t : St} (I : own_N N M L s) (I' : own_N N' M' L' t) (X : own_X N M L N' M' L') (h : own_kd N s t) {y w : Nat} (hy : y < N) (hw : w < 3) (l : Int32) : f_cofactor t (Int32.ofNat y) l (Int32.ofNat w) = f_cofactor s (Int32.ofNat y) l (Int32.ofNat w) := by
  have nb := I.1.2.2.2.2
  have e5 : t.2 5 y = s.2 5 y := by rw [(I.2.1 y hy).1, (I'.2.1 y (by have := X.1; omega)).1, (X.2 y hy).2]
  unfold f_cofactor
  rw [show (4 : Int32) = Int32.ofNat 4 from rfl, N_mul, N_add, ix_N (by omega), ix_N (by omega), e5, show y * 4 + w = 4 * y + w by omega, h y hy w hw]

/-! ### the memory of pairs -/
def own_hm (a b : Int32) : Nat := ix ((f_memoSlot zeroS a b).getD 0)
theorem own_hmE (s : St) (a b : Int32) : f_memoSlot s a b = some (Int32.ofNat (own_hm a b)) ∧ own_hm a b < 1024 := by
  obtain ⟨v, hv⟩ : ∃ v : Int32, f_memoSlot zeroS a b = some (v &&& 1023) := ⟨_, rfl⟩
  have e : f_memoSlot s a b = some (v &&& 1023) := hv
  have r := and_rng v (m := 1023) (by omega)
  rw [show Int32.ofNat 1023 = (1023 : Int32) from rfl] at r
  obtain ⟨h, e1, -, h2⟩ := own_nat (x := v &&& 1023) (lo := 0) (hi := 1023) (by omega) (by omega)
  unfold own_hm
  rw [e, hv, Option.getD_some, e1, ix_N (by omega)]
  exact ⟨rfl, by omega⟩
def own_ps (a b e : Nat) : Nat := (own_hm (Int32.ofNat a) (Int32.ofNat b) + e) % 1024
def own_key (s : St) (h a b : Nat) : Prop := s.2 13 h = Int32.ofNat a ∧ s.2 14 h = Int32.ofNat b
def own_Fd (s : St) (a b : Nat) (r : Int32) : Prop := ∃ e, e ≤ 1000 ∧ (∀ e', e' < e → ¬ s.2 16 (own_ps a b e') = 0 ∧ ¬ own_key s (own_ps a b e') a b) ∧ ¬ s.2 16 (own_ps a b e) = 0 ∧ own_key s (own_ps a b e) a b ∧ s.2 15 (own_ps a b e) = r
def own_Me (U N : Nat) (M : Nat → (Nat → Nat) → Bool) (L : Nat → Nat) (s : St) : Prop :=
  (∃ V : List Nat, V.length ≤ U ∧ ∀ h, h < 1024 → h ∉ V → s.2 16 h = 0) ∧
  (∀ h, h < 1024 → ¬ s.2 16 h = 0 → ∃ a b r, s.2 13 h = Int32.ofNat a ∧ s.2 14 h = Int32.ofNat b ∧ s.2 15 h = Int32.ofNat r ∧ a < N ∧ b < N ∧ r < N ∧ (∀ l, l ≤ L a → l ≤ L b → l ≤ L r) ∧ ∀ x : Nat → Nat, (∀ v, x v < 3) → M r x = (M a x && M b x))
theorem own_psb (a b e : Nat) : own_ps a b e < 1024 := Nat.mod_lt _ (by omega)
theorem own_f35 {n a b : Nat} {s : St} {r : Int32} (E : Nat) (hE : E ≤ 1000) (hp : ∀ e', e' < E → ¬ s.2 16 (own_ps a b e') = 0 ∧ ¬ own_key s (own_ps a b e') a b) (hr : (s.2 16 (own_ps a b E) = 0 ∧ r = -1) ∨ (¬ s.2 16 (own_ps a b E) = 0 ∧ own_key s (own_ps a b E) a b ∧ s.2 15 (own_ps a b E) = r)) :
    ∀ m e k, e + m = E → m < k → f_memoFind_35 n s k (Int32.ofNat a) (Int32.ofNat b) (Int32.ofNat (own_ps a b e)) (Int32.ofNat e) = some r := by
  intro m
  induction m with
  | zero =>
    intro e k he hk
    obtain ⟨k, rfl⟩ : ∃ k', k = k' + 1 := ⟨k - 1, by omega⟩
    have : e = E := by omega
    subst this
    have sb := own_psb a b e
    rw [u_memoFind_35, if_pos (ltZ (z := 1024) 1024 rfl (by omega) (by omega)), grd_pos (inbN sb (by omega)), ix_N (by omega)]
    rcases hr with ⟨h1, h2⟩ | ⟨h1, h2, h3⟩
    · rw [if_pos h1, h2]
    · rw [if_neg h1, if_pos h2.1, if_pos h2.2, h3]
  | succ m ih =>
    intro e k he hk
    obtain ⟨k, rfl⟩ : ∃ k', k = k' + 1 := ⟨k - 1, by omega⟩
    have sb := own_psb a b e
    obtain ⟨h1, h2⟩ := hp e (by omega)
    have nx : f_memoFind_84 n s (f_memoFind_35 n s k) (Int32.ofNat a) (Int32.ofNat b) (Int32.ofNat (own_ps a b e)) (Int32.ofNat e) = some r := by
      unfold f_memoFind_84
      rw [N_succ, show (1023 : Int32) = Int32.ofNat (2 ^ 10 - 1) from rfl, own_and2 (by omega) (by omega), N_succ]
      rw [show (own_ps a b e + 1) % 2 ^ 10 = own_ps a b (e + 1) by unfold own_ps; omega]
      exact ih (e + 1) k (by omega) (by omega)
    rw [u_memoFind_35, if_pos (ltZ (z := 1024) 1024 rfl (by omega) (by omega)), grd_pos (inbN sb (by omega)), ix_N (by omega), if_neg h1]
    by_cases q1 : s.2 13 (own_ps a b e) = Int32.ofNat a
    · rw [if_pos q1]
      by_cases q2 : s.2 14 (own_ps a b e) = Int32.ofNat b
      · exact absurd ⟨q1, q2⟩ h2
      · rw [if_neg q2]; exact nx
    · rw [if_neg q1]; exact nx
theorem own_mfE {n : Nat} (s : St) {a b : Nat} (ha : a < 2147483648) (hb : b < 2147483648) : f_memoFind n s (Int32.ofNat a) (Int32.ofNat b) = f_memoFind_35 n s n (Int32.ofNat (min a b)) (Int32.ofNat (max a b)) (Int32.ofNat (own_ps (min a b) (max a b) 0)) (Int32.ofNat 0) := by
  have e : ∀ x y : Nat, f_memoFind_21 n s (Int32.ofNat x) (Int32.ofNat y) = f_memoFind_35 n s n (Int32.ofNat x) (Int32.ofNat y) (Int32.ofNat (own_ps x y 0)) (Int32.ofNat 0) := fun x y => by
    unfold f_memoFind_21
    obtain ⟨h1, h2⟩ := own_hmE s (Int32.ofNat x) (Int32.ofNat y)
    rw [h1, Option.bind_some]
    unfold own_ps
    rw [Nat.add_zero, Nat.mod_eq_of_lt h2]; rfl
  unfold f_memoFind f_memoFind_10
  by_cases q : a < b
  · rw [if_pos (ltN q hb), if_pos (ltN q hb), e, Nat.min_eq_left (by omega), Nat.max_eq_right (by omega)]
  · have nq : ¬ Int32.ofNat a < Int32.ofNat b := fun z => q ((N_lt ha hb).mp z)
    rw [if_neg nq, if_neg nq, e, Nat.min_eq_right (by omega), Nat.max_eq_left (by omega)]
/-- the pair's result is known -/
def own_Rd (s : St) (a b : Nat) : Prop := (a ≤ 1 ∨ b ≤ 1 ∨ a = b) ∨ ∃ r, own_Fd s (min a b) (max a b) r
theorem own_Rs {n N U : Nat} (hn : 1500 ≤ n) {M : Nat → (Nat → Nat) → Bool} {L : Nat → Nat} {s : St} (I : own_N N M L s) (Me : own_Me U N M L s) {a b : Nat} (ha : a < N) (hb : b < N) (h : own_Rd s a b) :
    ∃ r, f_resolve n s (Int32.ofNat a) (Int32.ofNat b) = some (Int32.ofNat r) ∧ r < N ∧ (∀ l, l ≤ L a → l ≤ L b → l ≤ L r) ∧ ∀ x : Nat → Nat, (∀ v, x v < 3) → M r x = (M a x && M b x) := by
  obtain ⟨⟨-, -, -, n2, nb⟩, j1, ⟨l0, l1, m0, m1⟩, -⟩ := I
  have ne : ∀ i k : Nat, i < N → k ≤ 1 → i ≠ k → ¬ Int32.ofNat i = Int32.ofNat k := fun i k hi hk q z => q ((N_inj (by omega) (by omega)).mp z)
  unfold f_resolve
  rw [show (0 : Int32) = Int32.ofNat 0 from rfl, show (1 : Int32) = Int32.ofNat 1 from rfl]
  by_cases q1 : a = 0
  · subst q1
    rw [if_pos rfl]
    exact ⟨0, rfl, ha, fun l h1 h2 => h1, fun x _ => by rw [m0]; rfl⟩
  · rw [if_neg (ne a 0 ha (by omega) q1)]
    by_cases q2 : b = 0
    · subst q2
      rw [if_pos rfl]
      exact ⟨0, rfl, hb, fun l h1 h2 => h2, fun x _ => by rw [m0, Bool.and_false]⟩
    · rw [if_neg (ne b 0 hb (by omega) q2)]
      by_cases q3 : a = 1
      · subst q3
        rw [if_pos rfl]
        exact ⟨b, rfl, hb, fun l h1 h2 => h2, fun x _ => by rw [m1, Bool.true_and]⟩
      · rw [if_neg (ne a 1 ha (by omega) q3)]
        by_cases q4 : b = 1
        · subst q4
          rw [if_pos rfl]
          exact ⟨a, rfl, ha, fun l h1 h2 => h1, fun x _ => by rw [m1, Bool.and_true]⟩
        · rw [if_neg (ne b 1 hb (by omega) q4)]
          by_cases q5 : a = b
          · subst q5
            rw [if_pos rfl]
            exact ⟨a, rfl, ha, fun l h1 h2 => h1, fun x _ => by rw [Bool.and_self]⟩
          · rw [if_neg (fun z => q5 ((N_inj (by omega) (by omega)).mp z))]
            rcases h with h | ⟨r, e, e1, e2, e3, e4, e5⟩
            · omega
            · rw [own_mfE s (by omega) (by omega), own_f35 e e1 e2 (Or.inr ⟨e3, e4, e5⟩) e 0 n (by omega) (by omega), Option.bind_some]
              obtain ⟨a', b', r', k1, k2, k3, k4, k5, k6, k7, k8⟩ := Me.2 _ (own_psb _ _ _) e3
              have f1 : a' = min a b := by rw [e4.1, N_inj (by omega) (by omega)] at k1; exact k1.symm
              have f2 : b' = max a b := by rw [e4.2, N_inj (by omega) (by omega)] at k2; exact k2.symm
              rw [← e5, k3]
              refine ⟨r', rfl, k6, fun l h1 h2 => k7 l ?_ ?_, fun x hx => ?_⟩
              · rw [f1]; by_cases z : a ≤ b
                · rw [Nat.min_eq_left z]; exact h1
                · rw [Nat.min_eq_right (by omega)]; exact h2
              · rw [f2]; by_cases z : a ≤ b
                · rw [Nat.max_eq_right z]; exact h2
                · rw [Nat.max_eq_left (by omega)]; exact h1
              · rw [k8 x hx, f1, f2]
                by_cases z : a ≤ b
                · rw [Nat.min_eq_left z, Nat.max_eq_right z]
                · rw [Nat.min_eq_right (by omega), Nat.max_eq_left (by omega), Bool.and_comm]
theorem own_path {U : Nat} {s : St} (hU : U ≤ 900) (hV : ∃ V : List Nat, V.length ≤ U ∧ ∀ h, h < 1024 → h ∉ V → s.2 16 h = 0) (a b : Nat) : ∃ E, E ≤ 1000 ∧ s.2 16 (own_ps a b E) = 0 ∧ ∀ e, e < E → ¬ s.2 16 (own_ps a b e) = 0 := by
  obtain ⟨V, v1, v2⟩ := hV
  obtain ⟨e, e1, e2⟩ := own_pg 1024 V (own_hm (Int32.ofNat a) (Int32.ofNat b)) (by omega)
  obtain ⟨E, h1, h2, h3⟩ := own_least (P := fun e => s.2 16 (own_ps a b e) = 0) V.length ⟨e, e1, v2 _ (own_psb a b e) e2⟩
  exact ⟨E, by omega, h2, h3⟩
theorem own_nRd {n N U : Nat} (hn : 1500 ≤ n) (hU : U ≤ 900) {M : Nat → (Nat → Nat) → Bool} {L : Nat → Nat} {s : St} (I : own_N N M L s) (Me : own_Me U N M L s) {a b : Nat} (ha : a < N) (hb : b < N) (h : ¬ own_Rd s a b) :
    f_resolve n s (Int32.ofNat a) (Int32.ofNat b) = some (-1) ∧ 2 ≤ a ∧ 2 ≤ b := by
  have nb := I.1.2.2.2.2
  have h1 : ¬ (a ≤ 1 ∨ b ≤ 1 ∨ a = b) := fun z => h (Or.inl z)
  have ne : ∀ i k : Nat, i < N → k ≤ 1 → i ≠ k → ¬ Int32.ofNat i = Int32.ofNat k := fun i k hi hk q z => q ((N_inj (by omega) (by omega)).mp z)
  refine ⟨?_, by omega, by omega⟩
  obtain ⟨E, e1, e2, e3⟩ := own_path hU Me.1 (min a b) (max a b)
  unfold f_resolve
  rw [show (0 : Int32) = Int32.ofNat 0 from rfl, show (1 : Int32) = Int32.ofNat 1 from rfl]
  rw [if_neg (ne a 0 ha (by omega) (by omega)), if_neg (ne b 0 hb (by omega) (by omega)), if_neg (ne a 1 ha (by omega) (by omega)), if_neg (ne b 1 hb (by omega) (by omega)), if_neg (fun z => by rw [N_inj (by omega) (by omega)] at z; omega)]
  have np : ∀ e', e' < E → ¬ s.2 16 (own_ps (min a b) (max a b) e') = 0 ∧ ¬ own_key s (own_ps (min a b) (max a b) e') (min a b) (max a b) := fun e' he' => by
    refine ⟨e3 e' he', fun k => ?_⟩
    obtain ⟨F, g1, g2, g3⟩ := own_least (P := fun e => own_key s (own_ps (min a b) (max a b) e) (min a b) (max a b)) e' ⟨e', by omega, k⟩
    exact h (Or.inr ⟨_, F, by omega, fun e'' h'' => ⟨e3 e'' (by omega), g3 e'' h''⟩, e3 F (by omega), g2, rfl⟩)
  rw [own_mfE s (by omega) (by omega), own_f35 E e1 np (Or.inl ⟨e2, rfl⟩) E 0 n (by omega) (by omega), Option.bind_some]
  rfl
theorem own_ms37 {n a b r : Nat} {s : St} (E : Nat) (hE : E ≤ 1000) (hp : ∀ e', e' < E → ¬ s.2 16 (own_ps a b e') = 0) (h0 : s.2 16 (own_ps a b E) = 0) :
    ∀ m e k, e + m = E → m < k → f_memoStore_37 n k (Int32.ofNat r) (Int32.ofNat a) (Int32.ofNat b) (Int32.ofNat (own_ps a b e)) (Int32.ofNat e) s = some (setA (setA (setA (setA s 16 (own_ps a b E) (1 &&& 1)) 13 (own_ps a b E) (Int32.ofNat a)) 14 (own_ps a b E) (Int32.ofNat b)) 15 (own_ps a b E) (Int32.ofNat r)) := by
  intro m
  induction m with
  | zero =>
    intro e k he hk
    obtain ⟨k, rfl⟩ : ∃ k', k = k' + 1 := ⟨k - 1, by omega⟩
    have : e = E := by omega
    subst this
    have sb := own_psb a b e
    rw [u_memoStore_37, if_pos (ltZ (z := 1024) 1024 rfl (by omega) (by omega)), grd_pos (inbN sb (by omega)), ix_N (by omega), if_pos h0]
    simp only [bnd_eq]
  | succ m ih =>
    intro e k he hk
    obtain ⟨k, rfl⟩ : ∃ k', k = k' + 1 := ⟨k - 1, by omega⟩
    have sb := own_psb a b e
    rw [u_memoStore_37, if_pos (ltZ (z := 1024) 1024 rfl (by omega) (by omega)), grd_pos (inbN sb (by omega)), ix_N (by omega), if_neg (hp e (by omega)), N_succ, show (1023 : Int32) = Int32.ofNat (2 ^ 10 - 1) from rfl, own_and2 (by omega) (by omega), N_succ]
    rw [show (own_ps a b e + 1) % 2 ^ 10 = own_ps a b (e + 1) by unfold own_ps; omega]
    exact ih (e + 1) k (by omega) (by omega)
theorem own_msE {n : Nat} (s : St) {a b r : Nat} (ha : a < 2147483648) (hb : b < 2147483648) : f_memoStore n (Int32.ofNat a) (Int32.ofNat b) (Int32.ofNat r) s = f_memoStore_37 n n (Int32.ofNat r) (Int32.ofNat (min a b)) (Int32.ofNat (max a b)) (Int32.ofNat (own_ps (min a b) (max a b) 0)) (Int32.ofNat 0) s := by
  have e : ∀ x y : Nat, f_memoStore_22 n (Int32.ofNat r) (Int32.ofNat x) (Int32.ofNat y) s = f_memoStore_37 n n (Int32.ofNat r) (Int32.ofNat x) (Int32.ofNat y) (Int32.ofNat (own_ps x y 0)) (Int32.ofNat 0) s := fun x y => by
    unfold f_memoStore_22
    obtain ⟨h1, h2⟩ := own_hmE s (Int32.ofNat x) (Int32.ofNat y)
    rw [h1, Option.bind_some]
    unfold own_ps
    rw [Nat.add_zero, Nat.mod_eq_of_lt h2]; rfl
  unfold f_memoStore f_memoStore_10
  by_cases q : a < b
  · rw [if_pos (ltN q hb), if_pos (ltN q hb), e, Nat.min_eq_left (by omega), Nat.max_eq_right (by omega)]
  · have nq : ¬ Int32.ofNat a < Int32.ofNat b := fun z => q ((N_lt ha hb).mp z)
    rw [if_neg nq, if_neg nq, e, Nat.min_eq_right (by omega), Nat.max_eq_left (by omega)]
theorem own_ms {n N U : Nat} (hn : 1500 ≤ n) (hU : U ≤ 900) {M : Nat → (Nat → Nat) → Bool} {L : Nat → Nat} {s : St} (hN : N ≤ 1000) (Me : own_Me U N M L s) {a b r : Nat} (ha : a < N) (hb : b < N) (hr : r < N) (hl : ∀ l, l ≤ L a → l ≤ L b → l ≤ L r) (hm : ∀ x : Nat → Nat, (∀ v, x v < 3) → M r x = (M a x && M b x)) :
    ∃ t, f_memoStore n (Int32.ofNat a) (Int32.ofNat b) (Int32.ofNat r) s = some t ∧ own_Me (U + 1) N M L t ∧ own_Rd t a b ∧ (∀ a' b', own_Rd s a' b' → own_Rd t a' b') ∧ t.1 = s.1 ∧ (∀ j, j < 13 ∨ 16 < j → t.2 j = s.2 j) := by
  obtain ⟨E, e1, e2, e3⟩ := own_path hU Me.1 (min a b) (max a b)
  rw [own_msE s (by omega) (by omega), own_ms37 E e1 e3 e2 E 0 n (by omega) (by omega)]
  obtain ⟨h, eh⟩ : ∃ h, h = own_ps (min a b) (max a b) E := ⟨_, rfl⟩
  have hb' : h < 1024 := by rw [eh]; exact own_psb _ _ _
  rw [← eh] at e2 ⊢
  obtain ⟨t, et⟩ : ∃ t, t = setA (setA (setA (setA s 16 h (1 &&& 1)) 13 h (Int32.ofNat (min a b))) 14 h (Int32.ofNat (max a b))) 15 h (Int32.ofNat r) := ⟨_, rfl⟩
  rw [← et]
  have t1 : t.1 = s.1 := by rw [et]; rfl
  have t16 : ∀ x, t.2 16 x = if x = h then 1 else s.2 16 x := fun x => by rw [et]; simp [setA_2]
  have t13 : ∀ x, t.2 13 x = if x = h then Int32.ofNat (min a b) else s.2 13 x := fun x => by rw [et]; simp [setA_2]
  have t14 : ∀ x, t.2 14 x = if x = h then Int32.ofNat (max a b) else s.2 14 x := fun x => by rw [et]; simp [setA_2]
  have t15 : ∀ x, t.2 15 x = if x = h then Int32.ofNat r else s.2 15 x := fun x => by rw [et]; simp [setA_2]
  have to : ∀ j, j < 13 ∨ 16 < j → t.2 j = s.2 j := fun j hj => by
    funext x; rw [et, setA_2, if_neg (fun z => by omega), setA_2, if_neg (fun z => by omega), setA_2, if_neg (fun z => by omega), setA_2, if_neg (fun z => by omega)]
  clear et
  have ky : ∀ x c d, x ≠ h → (own_key t x c d ↔ own_key s x c d) := fun x c d hx => by unfold own_key; rw [t13, t14, if_neg hx, if_neg hx]
  have us : ∀ x, ¬ s.2 16 x = 0 → x ≠ h := fun x hx z => hx (by rw [z]; exact e2)
  refine ⟨t, rfl, ⟨?_, fun x hx hu => ?_⟩, ?_, fun a' b' hR => ?_, t1, to⟩
  · obtain ⟨V, v1, v2⟩ := Me.1
    refine ⟨h :: V, by simp only [List.length_cons]; omega, fun x hx hn' => ?_⟩
    simp only [List.mem_cons, not_or] at hn'
    rw [t16, if_neg hn'.1]; exact v2 x hx hn'.2
  · by_cases q : x = h
    · rw [t13, t14, t15, if_pos q, if_pos q, if_pos q]
      refine ⟨min a b, max a b, r, rfl, rfl, rfl, by omega, by omega, hr, fun l h1 h2 => ?_, fun x hx => ?_⟩
      · by_cases z : a ≤ b
        · rw [Nat.min_eq_left z] at h1; rw [Nat.max_eq_right z] at h2; exact hl l h1 h2
        · rw [Nat.min_eq_right (by omega)] at h1; rw [Nat.max_eq_left (by omega)] at h2; exact hl l h2 h1
      · rw [hm x hx]
        by_cases z : a ≤ b
        · rw [Nat.min_eq_left z, Nat.max_eq_right z]
        · rw [Nat.min_eq_right (by omega), Nat.max_eq_left (by omega), Bool.and_comm]
    · rw [t16, if_neg q] at hu
      rw [t13, t14, t15, if_neg q, if_neg q, if_neg q]
      exact Me.2 x hx hu
  · refine Or.inr ?_
    obtain ⟨F, g1, g2, g3⟩ := own_least (P := fun e => own_key t (own_ps (min a b) (max a b) e) (min a b) (max a b)) E ⟨E, by omega, by unfold own_key; rw [← eh, t13, t14, if_pos rfl, if_pos rfl]; exact ⟨rfl, rfl⟩⟩
    have u : ∀ e, e ≤ E → ¬ t.2 16 (own_ps (min a b) (max a b) e) = 0 := fun e he => by
      rw [t16]
      by_cases q : own_ps (min a b) (max a b) e = h
      · rw [if_pos q]; decide
      · rw [if_neg q]
        refine e3 e ?_
        by_cases z : e = E
        · rw [z, ← eh] at q; exact absurd rfl q
        · omega
    exact ⟨_, F, by omega, fun e' h' => ⟨u e' (by omega), g3 e' h'⟩, u F g1, g2, rfl⟩
  · rcases hR with hR | ⟨r', e, f1, f2, f3, f4, f5⟩
    · exact Or.inl hR
    · refine Or.inr ⟨r', e, f1, fun e' h' => ?_, ?_, ?_, ?_⟩
      · obtain ⟨k1, k2⟩ := f2 e' h'
        have := us _ k1
        rw [t16, if_neg this, ky _ _ _ this]
        exact ⟨k1, k2⟩
      · rw [t16, if_neg (us _ f3)]; exact f3
      · rw [ky _ _ _ (us _ f3)]; exact f4
      · rw [t15, if_neg (us _ f3)]; exact f5
/-! ### the stack of pairs -/
theorem own_NX {N N' U : Nat} {M M' : Nat → (Nat → Nat) → Bool} {L L' : Nat → Nat} {s t : St} (X : own_X N M L N' M' L') (h : ∀ j, 13 ≤ j → j ≤ 16 → t.2 j = s.2 j) (Me : own_Me U N M L s) : own_Me U N' M' L' t := by
  obtain ⟨m1, m2⟩ := Me
  unfold own_Me
  rw [h 13 (by omega) (by omega), h 14 (by omega) (by omega), h 15 (by omega) (by omega), h 16 (by omega) (by omega)]
  refine ⟨m1, fun x hx hu => ?_⟩
  obtain ⟨a, b, r, k1, k2, k3, k4, k5, k6, k7, k8⟩ := m2 x hx hu
  refine ⟨a, b, r, k1, k2, k3, by have := X.1; omega, by have := X.1; omega, by have := X.1; omega, ?_, ?_⟩
  · rw [(X.2 a k4).2, (X.2 b k5).2, (X.2 r k6).2]; exact k7
  · rw [(X.2 a k4).1, (X.2 b k5).1, (X.2 r k6).1]; exact k8
theorem own_RdX {s t : St} (h : ∀ j, 13 ≤ j → j ≤ 16 → t.2 j = s.2 j) {a b : Nat} (R : own_Rd s a b) : own_Rd t a b := by
  unfold own_Rd own_Fd own_key at *
  rw [h 13 (by omega) (by omega), h 14 (by omega) (by omega), h 15 (by omega) (by omega), h 16 (by omega) (by omega)]; exact R
theorem own_cof {N : Nat} {M : Nat → (Nat → Nat) → Bool} {L : Nat → Nat} {s : St} (I : own_N N M L s) {a l v : Nat} (ha : a < N) (hl : l < 3) (hla : l ≤ L a) (hv : v < 3) :
    ∃ c, f_cofactor s (Int32.ofNat a) (Int32.ofNat l) (Int32.ofNat v) = some (Int32.ofNat c) ∧ c < N ∧ l < L c ∧ ∀ x : Nat → Nat, x l = v → M a x = M c x := by
  have nb := I.1.2.2.2.2
  unfold f_cofactor
  rw [grd_pos (inbN (by omega) (by omega)), ix_N (by omega), (I.2.1 a ha).1]
  have l3 := (I.2.1 a ha).2
  by_cases q : L a = l
  · have a2 : 2 ≤ a := by
      obtain ⟨l0, l1, -⟩ := I.2.2.1
      by_cases z0 : a = 0
      · rw [z0] at q; omega
      · by_cases z1 : a = 1
        · rw [z1] at q; omega
        · omega
    obtain ⟨-, k2⟩ := I.2.2.2.1 a a2 ha
    obtain ⟨c, c1, c2, c3, c4⟩ := k2 v hv
    rw [if_pos (by rw [q]), show (4 : Int32) = Int32.ofNat 4 from rfl, N_mul, N_add, grd_pos (inbN (by omega) (by omega)), ix_N (by omega), show a * 4 + v = 4 * a + v by omega, c1]
    rw [q] at c3 c4
    exact ⟨c, rfl, by omega, c3, c4⟩
  · rw [if_neg (fun z => q ((N_inj (by omega) (by omega)).mp z))]
    exact ⟨a, rfl, ha, by omega, fun x _ => rfl⟩
theorem own_top {N : Nat} {M : Nat → (Nat → Nat) → Bool} {L : Nat → Nat} {s : St} (I : own_N N M L s) {a b : Nat} (ha : a < N) (hb : b < N) : f_topLevel s (Int32.ofNat a) (Int32.ofNat b) = some (Int32.ofNat (min (L a) (L b))) := by
  have nb := I.1.2.2.2.2
  have la := (I.2.1 a ha).2
  have lb := (I.2.1 b hb).2
  unfold f_topLevel
  rw [grd_pos (inbN (by omega) (by omega)), grd_pos (inbN (by omega) (by omega)), ix_N (by omega), ix_N (by omega), (I.2.1 a ha).1, (I.2.1 b hb).1]
  by_cases q : L a < L b
  · rw [if_pos (ltN q (by omega)), Nat.min_eq_left (by omega)]
  · rw [if_neg (fun z => q ((N_lt (by omega) (by omega)).mp z)), Nat.min_eq_right (by omega)]
/-- the place p of the stack -/
def own_at (s : St) (p a b : Nat) (f : Int32) : Prop := s.2 17 p = Int32.ofNat a ∧ s.2 18 p = Int32.ofNat b ∧ s.2 19 p = f
def own_low (D : Nat) (s t : St) : Prop := ∀ p, p < D → t.2 17 p = s.2 17 p ∧ t.2 18 p = s.2 18 p ∧ t.2 19 p = s.2 19 p
theorem own_lowr (D : Nat) (s : St) : own_low D s s := fun _ _ => ⟨rfl, rfl, rfl⟩
theorem own_lowt {D D' : Nat} {s t u : St} (h : own_low D s t) (g : own_low D' t u) (hd : D ≤ D') : own_low D s u := fun p hp => ⟨(g p (by omega)).1.trans (h p hp).1, (g p (by omega)).2.1.trans (h p hp).2.1, (g p (by omega)).2.2.trans (h p hp).2.2⟩
theorem own_lowat {D : Nat} {s t : St} (h : own_low D s t) {p a b : Nat} {f : Int32} (hp : p < D) (k : own_at s p a b f) : own_at t p a b f := ⟨(h p hp).1.trans k.1, (h p hp).2.1.trans k.2.1, (h p hp).2.2.trans k.2.2⟩
def own_fj (s t : St) : Prop := (∀ j, j ≠ 22 → j ≠ 30 → t.1 j = s.1 j) ∧ (∀ j, j ≤ 4 ∨ (8 ≤ j ∧ j ≤ 12) ∨ 20 ≤ j → t.2 j = s.2 j)
theorem own_fjr (s : St) : own_fj s s := ⟨fun _ _ _ => rfl, fun _ _ => rfl⟩
theorem own_fjt {s t u : St} (h : own_fj s t) (g : own_fj t u) : own_fj s u := ⟨fun j a b => (g.1 j a b).trans (h.1 j a b), fun j a => (g.2 j a).trans (h.2 j a)⟩
theorem own_push {D a b : Nat} {s : St} (hD : s.1 30 = Int32.ofNat D) (hb : D < 64) : ∃ t, f_push (Int32.ofNat a) (Int32.ofNat b) s = some t ∧ t.1 30 = Int32.ofNat (D + 1) ∧ (∀ j, j ≠ 30 → t.1 j = s.1 j) ∧ (∀ j, j < 17 ∨ 19 < j → t.2 j = s.2 j) ∧ own_low D s t ∧ own_at t D a b 0 := by
  unfold f_push
  rw [hD, if_pos (ltZ (z := 64) 64 rfl hb (by omega)), grd_pos (inbN hb (by omega)), bnd_eq, ix_N (by omega)]
  rw [show (setA s 17 D (Int32.ofNat a)).1 30 = Int32.ofNat D from hD, grd_pos (inbN hb (by omega)), bnd_eq, ix_N (by omega)]
  rw [show (setA (setA s 17 D (Int32.ofNat a)) 18 D (Int32.ofNat b)).1 30 = Int32.ofNat D from hD, grd_pos (inbN hb (by omega)), bnd_eq, ix_N (by omega), bnd_eq]
  rw [show (setA (setA (setA s 17 D (Int32.ofNat a)) 18 D (Int32.ofNat b)) 19 D 0).1 30 = Int32.ofNat D from hD, N_succ]
  refine ⟨_, rfl, by rw [setI_1, if_pos (by trivial)], fun j hj => by rw [setI_1, if_neg hj]; rfl, fun j hj => ?_, fun p hp => ?_, ?_⟩
  · funext x
    rw [setI_2, setA_2, if_neg (fun z => by omega), setA_2, if_neg (fun z => by omega), setA_2, if_neg (fun z => by omega)]
  · rw [setI_2]
    have : p ≠ D := by omega
    simp [setA_2, this]
  · unfold own_at
    rw [setI_2]
    simp [setA_2]
/-- the children of a pair that are not known yet go to the stack -/
theorem own_pc {n N U : Nat} (hn : 1500 ≤ n) (hU : U ≤ 900) {M : Nat → (Nat → Nat) → Bool} {L : Nat → Nat} {a b l : Nat} (ha : a < N) (hb : b < N) (hl : l < 3) (hla : l ≤ L a) (hlb : l ≤ L b) :
    ∀ (m v k D : Nat) (s : St), own_N N M L s → own_Me U N M L s → v + m = 3 → m < k → s.1 30 = Int32.ofNat D → D + m ≤ 60 →
      ∃ (t : St) (p : Nat) (A B : Nat → Nat), f_pushChildren_10 n k (Int32.ofNat a) (Int32.ofNat b) (Int32.ofNat l) (Int32.ofNat v) s = some t ∧ own_N N M L t ∧ own_Me U N M L t ∧ p ≤ m ∧ t.1 30 = Int32.ofNat (D + p) ∧ own_low D s t ∧ (∀ j, 13 ≤ j → j ≤ 16 → t.2 j = s.2 j) ∧ own_fj s t ∧
        (∀ q, D ≤ q → q < D + p → own_at t q (A q) (B q) 0 ∧ A q < N ∧ B q < N ∧ l < L (A q) ∧ l < L (B q)) ∧
        (∀ w, v ≤ w → w < 3 → ∀ ca cb : Nat, ca < N → cb < N → f_cofactor s (Int32.ofNat a) (Int32.ofNat l) (Int32.ofNat w) = some (Int32.ofNat ca) → f_cofactor s (Int32.ofNat b) (Int32.ofNat l) (Int32.ofNat w) = some (Int32.ofNat cb) → own_Rd s ca cb ∨ ∃ q, D ≤ q ∧ q < D + p ∧ A q = ca ∧ B q = cb) ∧ t.2 6 = s.2 6 := by
  intro m
  induction m with
  | zero =>
    intro v k D s I Me hv hk hD hDm
    obtain ⟨k, rfl⟩ : ∃ k', k = k' + 1 := ⟨k - 1, by omega⟩
    rw [u_pushChildren_10, I.1.2.1, if_neg (by rw [show v = 3 by omega]; decide)]
    exact ⟨s, 0, fun _ => 0, fun _ => 0, rfl, I, Me, by omega, hD, own_lowr D s, fun _ _ _ => rfl, own_fjr s, fun q h1 h2 => by omega, fun w h1 h2 => by omega, rfl⟩
  | succ m ih =>
    intro v k D s I Me hv hk hD hDm
    obtain ⟨k, rfl⟩ : ∃ k', k = k' + 1 := ⟨k - 1, by omega⟩
    have nb := I.1.2.2.2.2
    obtain ⟨ca, c1, c2, c3, c4⟩ := own_cof I ha hl hla (v := v) (by omega)
    obtain ⟨cb, d1, d2, d3, d4⟩ := own_cof I hb hl hlb (v := v) (by omega)
    rw [u_pushChildren_10, I.1.2.1, if_pos (ltZ (z := 3) 3 rfl (by omega) (by omega)), c1, Option.bind_some, d1, Option.bind_some, N_succ]
    by_cases R : own_Rd s ca cb
    · obtain ⟨r, r1, r2, -⟩ := own_Rs hn I Me c2 d2 R
      rw [r1, Option.bind_some, if_neg (N_neg (by omega))]
      obtain ⟨t, p, A, B, t1, t2, t3, t4, t5, t6, t7, t8, t9, t10, t11⟩ := ih (v + 1) k D s I Me (by omega) (by omega) hD (by omega)
      refine ⟨t, p, A, B, t1, t2, t3, by omega, t5, t6, t7, t8, t9, fun w h1 h2 ca' cb' h3 h4 h5 h6 => ?_, t11⟩
      by_cases q : w = v
      · subst q
        rw [c1] at h5
        rw [d1] at h6
        have e1 := (N_inj (by omega) (by omega)).mp (Option.some.inj h5)
        have e2 := (N_inj (by omega) (by omega)).mp (Option.some.inj h6)
        rw [← e1, ← e2]; exact Or.inl R
      · exact t10 w (by omega) h2 ca' cb' h3 h4 h5 h6
    · obtain ⟨r1, r2, r3⟩ := own_nRd hn hU I Me c2 d2 R
      rw [r1, Option.bind_some, if_pos (by decide)]
      obtain ⟨u, u1, u2, u3, u4, u5, u6⟩ := own_push (a := ca) (b := cb) hD (by omega)
      rw [u1, Option.bind_some]
      have Iu : own_N N M L u := own_NF (u3 20 (by decide)) (u3 21 (by decide)) (u3 22 (by decide)) (u4 5 (by omega)) (u4 6 (by omega)) (u4 7 (by omega)) I
      have Mu : own_Me U N M L u := own_NX (own_Xr N M L) (fun j h1 h2 => u4 j (by omega)) Me
      have fu : own_fj s u := ⟨fun j _ h30 => u3 j h30, fun j hj => u4 j (by omega)⟩
      obtain ⟨t, p, A, B, t1, t2, t3, t4, t5, t6, t7, t8, t9, t10, t11⟩ := ih (v + 1) k (D + 1) u Iu Mu (by omega) (by omega) u2 (by omega)
      obtain ⟨A', hA⟩ : ∃ A' : Nat → Nat, ∀ q, A' q = if q = D then ca else A q := ⟨_, fun _ => rfl⟩
      obtain ⟨B', hB⟩ : ∃ B' : Nat → Nat, ∀ q, B' q = if q = D then cb else B q := ⟨_, fun _ => rfl⟩
      refine ⟨t, p + 1, A', B', t1, t2, t3, by omega, by rw [t5, show D + 1 + p = D + (p + 1) by omega], own_lowt u5 t6 (by omega), fun j h1 h2 => (t7 j h1 h2).trans (u4 j (by omega)), own_fjt fu t8, fun q h1 h2 => ?_, fun w h1 h2 ca' cb' h3 h4 h5 h6 => ?_, t11.trans (u4 6 (by omega))⟩
      · by_cases z : q = D
        · rw [hA, hB, if_pos z, if_pos z, z]
          exact ⟨own_lowat t6 (by omega) u6, c2, d2, c3, d3⟩
        · rw [hA, hB, if_neg z, if_neg z]; exact t9 q (by omega) (by omega)
      · by_cases q : w = v
        · subst q
          rw [c1] at h5
          rw [d1] at h6
          have e1 := (N_inj (by omega) (by omega)).mp (Option.some.inj h5)
          have e2 := (N_inj (by omega) (by omega)).mp (Option.some.inj h6)
          exact Or.inr ⟨D, by omega, by omega, by rw [hA, if_pos rfl, e1], by rw [hB, if_pos rfl, e2]⟩
        · have cs : ∀ y z : Int32, f_cofactor u y (Int32.ofNat l) z = f_cofactor s y (Int32.ofNat l) z := fun y z => by unfold f_cofactor; rw [u4 5 (by omega), u4 6 (by omega)]
          rcases t10 w (by omega) h2 ca' cb' h3 h4 (by rw [cs]; exact h5) (by rw [cs]; exact h6) with z | ⟨q', z1, z2, z3, z4⟩
          · exact Or.inl (own_RdX (fun j g1 g2 => (u4 j (by omega)).symm) z)
          · exact Or.inr ⟨q', by omega, by omega, by rw [hA, if_neg (by omega)]; exact z3, by rw [hB, if_neg (by omega)]; exact z4⟩

/-! ### conjoin -/
def own_c : Nat → Nat
  | 0 => 0
  | j + 1 => 3 * own_c j + 1
def own_k : Nat → Nat
  | 0 => 1
  | j + 1 => 3 * own_k j + 2
theorem own_it {n D : Nat} {s t : St} (h : s.1 30 = Int32.ofNat (D + 1)) (hD : D < 64) (e : f_step n s = some t) (k : Nat) (x1 x2 : Int32) {x3 : Nat} (hx : x3 < 200000) : f_conjoin_35 n (k + 1) x1 x2 (Int32.ofNat x3) s = f_conjoin_35 n k x1 x2 (Int32.ofNat (x3 + 1)) t := by
  rw [u_conjoin_35, if_pos (ltZ (z := 200000) 200000 rfl hx (by omega)), h, if_pos (by rw [show (0 : Int32) = Int32.ofNat 0 from rfl]; exact ltN (by omega) (by omega)), e, Option.bind_some, N_succ]
theorem own_stepR {n N U D a b : Nat} (hn : 1500 ≤ n) {M : Nat → (Nat → Nat) → Bool} {L : Nat → Nat} {s : St} (I : own_N N M L s) (Me : own_Me U N M L s) (hD : s.1 30 = Int32.ofNat (D + 1)) (hb : D < 64) (at' : own_at s D a b 0) (ha : a < N) (hb' : b < N) (R : own_Rd s a b) : f_step n s = some (setI s 30 (Int32.ofNat D)) := by
  obtain ⟨r, r1, r2, -⟩ := own_Rs hn I Me ha hb' R
  have nb := I.1.2.2.2.2
  have e1 : Int32.ofNat (D + 1) - 1 = Int32.ofNat D := by rw [← N_succ, Int32.add_sub_cancel]
  unfold f_step
  rw [hD, e1, grd_pos (inbN hb (by omega)), ix_N (by omega), at'.2.2, if_pos rfl, at'.1, at'.2.1, r1, Option.bind_some, if_neg (N_neg (by omega)), bnd_eq]
theorem own_child {n N U : Nat} (hn : 1500 ≤ n) {M : Nat → (Nat → Nat) → Bool} {L : Nat → Nat} {s : St} (I : own_N N M L s) (Me : own_Me U N M L s) {a b l v : Nat} (ha : a < N) (hb : b < N) (hl : l < 3) (hla : l ≤ L a) (hlb : l ≤ L b) (hv : v < 3)
    (hR : ∀ w, w < 3 → ∀ ca cb : Nat, ca < N → cb < N → f_cofactor s (Int32.ofNat a) (Int32.ofNat l) (Int32.ofNat w) = some (Int32.ofNat ca) → f_cofactor s (Int32.ofNat b) (Int32.ofNat l) (Int32.ofNat w) = some (Int32.ofNat cb) → own_Rd s ca cb) :
    ∃ r, f_childResult n s (Int32.ofNat a) (Int32.ofNat b) (Int32.ofNat l) (Int32.ofNat v) = some (Int32.ofNat r) ∧ r < N ∧ l < L r ∧ ∀ x : Nat → Nat, (∀ v, x v < 3) → x l = v → M r x = (M a x && M b x) := by
  have nb := I.1.2.2.2.2
  obtain ⟨ca, c1, c2, c3, c4⟩ := own_cof I ha hl hla hv
  obtain ⟨cb, d1, d2, d3, d4⟩ := own_cof I hb hl hlb hv
  obtain ⟨r, r1, r2, r3, r4⟩ := own_Rs hn I Me c2 d2 (hR v hv ca cb c2 d2 c1 d1)
  unfold f_childResult
  rw [I.1.2.1, if_pos (ltZ (z := 3) 3 rfl hv (by omega)), c1, Option.bind_some, d1, Option.bind_some, r1, Option.bind_some, if_neg (N_neg (by omega))]
  exact ⟨r, rfl, r2, r3 (l + 1) c3 d3, fun x hx hxl => by rw [r4 x hx, c4 x hxl, d4 x hxl]⟩
theorem own_fp {n N U : Nat} (hn : 1500 ≤ n) (hU : U ≤ 900) {M : Nat → (Nat → Nat) → Bool} {L : Nat → Nat} {s : St} (I : own_N N M L s) (hN : N < 900) (Me : own_Me U N M L s) {a b l : Nat} (ha : a < N) (hb : b < N) (el : l = min (L a) (L b)) (hl : l < 3)
    (hR : ∀ w, w < 3 → ∀ ca cb : Nat, ca < N → cb < N → f_cofactor s (Int32.ofNat a) (Int32.ofNat l) (Int32.ofNat w) = some (Int32.ofNat ca) → f_cofactor s (Int32.ofNat b) (Int32.ofNat l) (Int32.ofNat w) = some (Int32.ofNat cb) → own_Rd s ca cb) :
    ∃ N' M' L' t, f_finishPair n (Int32.ofNat a) (Int32.ofNat b) s = some t ∧ own_N N' M' L' t ∧ own_Me (U + 1) N' M' L' t ∧ own_X N M L N' M' L' ∧ N' ≤ N + 1 ∧ own_Rd t a b ∧ (∀ a' b', own_Rd s a' b' → own_Rd t a' b') ∧ (∀ j, j ≠ 22 → t.1 j = s.1 j) ∧ (∀ j, j ≤ 4 ∨ (8 ≤ j ∧ j ≤ 12) ∨ 17 ≤ j → t.2 j = s.2 j) ∧ own_kd N s t := by
  have hla : l ≤ L a := by rw [el]; omega
  have hlb : l ≤ L b := by rw [el]; omega
  obtain ⟨r0, a1, a2, a3, a4⟩ := own_child hn I Me ha hb hl hla hlb (v := 0) (by omega) hR
  obtain ⟨r1, b1, b2, b3, b4⟩ := own_child hn I Me ha hb hl hla hlb (v := 1) (by omega) hR
  obtain ⟨r2, c1, c2, c3, c4⟩ := own_child hn I Me ha hb hl hla hlb (v := 2) (by omega) hR
  unfold f_finishPair
  rw [own_top I ha hb, Option.bind_some, ← el]
  rw [show f_childResult n s (Int32.ofNat a) (Int32.ofNat b) (Int32.ofNat l) 0 = some (Int32.ofNat r0) from a1, Option.bind_some, show f_childResult n s (Int32.ofNat a) (Int32.ofNat b) (Int32.ofNat l) 1 = some (Int32.ofNat r1) from b1, Option.bind_some, show f_childResult n s (Int32.ofNat a) (Int32.ofNat b) (Int32.ofNat l) 2 = some (Int32.ofNat r2) from c1, Option.bind_some]
  have e3 : f_childResult n s (Int32.ofNat a) (Int32.ofNat b) (Int32.ofNat l) 3 = some 0 := by
    unfold f_childResult
    rw [I.1.2.1, if_neg (by decide)]
  rw [e3, Option.bind_some]
  obtain ⟨r, N', M', L', s', k1, k2, k3, k4, k5, k6, k7, k8, k9⟩ := own_mk hn I (by omega) hl ⟨a2, a3⟩ ⟨b2, b3⟩ ⟨c2, c3⟩ (a := r0) (b := r1) (c := r2)
  rw [k1, Option.bind_some]
  have Me' : own_Me U N' M' L' s' := own_NX k4 (fun j h1 h2 => k8.2 j (by omega) (by omega) (by omega)) Me
  have sem : ∀ x : Nat → Nat, (∀ v, x v < 3) → M' r x = (M' a x && M' b x) := fun x hx => by
    rw [k7 x hx, (k4.2 a ha).1, (k4.2 b hb).1]
    unfold own_br
    have hxl := hx l
    have : x l = 0 ∨ x l = 1 ∨ x l = 2 := by omega
    rcases this with z | z | z
    · rw [if_pos z]; exact a4 x hx z
    · rw [if_neg (by omega), if_pos z]; exact b4 x hx z
    · rw [if_neg (by omega), if_neg (by omega)]; exact c4 x hx z
  have hN' := k4.1
  obtain ⟨t, t1, t2, t3, t4, t5, t6⟩ := own_ms hn hU k2.1.2.2.2.2 Me' (a := a) (b := b) (r := r) (by omega) (by omega) k5 (fun l' h1 h2 => by
    rw [(k4.2 a ha).2] at h1
    rw [(k4.2 b hb).2] at h2
    have : l' ≤ l := by rw [el]; omega
    omega) sem
  rw [t1, Option.bind_some]
  refine ⟨N', M', L', t, rfl, own_NF (by rw [t5]) (by rw [t5]) (by rw [t5]) (t6 5 (by omega)) (t6 6 (by omega)) (t6 7 (by omega)) k2, t2, k4, k3, t3, fun a' b' h => t4 a' b' (own_RdX (fun j h1 h2 => k8.2 j (by omega) (by omega) (by omega)) h), fun j hj => by rw [t5, k8.1 j hj], fun j hj => ?_, fun i hi v hv => by rw [t6 6 (by omega)]; exact k9 i hi v hv⟩
  rw [t6 j (by omega), k8.2 j (by omega) (by omega) (by omega)]
def own_PJ (n j : Nat) : Prop := ∀ (D N U a b : Nat) (M : Nat → (Nat → Nat) → Bool) (L : Nat → Nat) (s : St), own_N N M L s → own_Me U N M L s → s.1 30 = Int32.ofNat (D + 1) → own_at s D a b 0 → a < N → b < N → 3 ≤ L a + j → 3 ≤ L b + j → D + 1 + 3 * j ≤ 60 → N + own_c j ≤ 800 → U + own_c j ≤ 800 →
  ∃ K N' U' M' L' t, K ≤ own_k j ∧ (∀ (k : Nat) (x1 x2 : Int32) (x3 : Nat), x3 + K ≤ 199999 → f_conjoin_35 n (k + K) x1 x2 (Int32.ofNat x3) s = f_conjoin_35 n k x1 x2 (Int32.ofNat (x3 + K)) t) ∧ own_N N' M' L' t ∧ own_Me U' N' M' L' t ∧ own_X N M L N' M' L' ∧ N' ≤ N + own_c j ∧ U' ≤ U + own_c j ∧ t.1 30 = Int32.ofNat D ∧ own_low D s t ∧ own_Rd t a b ∧ (∀ a' b', own_Rd s a' b' → own_Rd t a' b') ∧ own_fj s t ∧ own_kd N s t
theorem own_many {n j : Nat} (P : own_PJ n j) (A B : Nat → Nat) : ∀ (p D N U : Nat) (M : Nat → (Nat → Nat) → Bool) (L : Nat → Nat) (s : St), own_N N M L s → own_Me U N M L s → s.1 30 = Int32.ofNat (D + p) → (∀ q, D ≤ q → q < D + p → own_at s q (A q) (B q) 0 ∧ A q < N ∧ B q < N ∧ 3 ≤ L (A q) + j ∧ 3 ≤ L (B q) + j) → D + p + 3 * j ≤ 60 → N + p * own_c j ≤ 800 → U + p * own_c j ≤ 800 →
  ∃ K N' U' M' L' t, K ≤ p * own_k j ∧ (∀ (k : Nat) (x1 x2 : Int32) (x3 : Nat), x3 + K ≤ 199999 → f_conjoin_35 n (k + K) x1 x2 (Int32.ofNat x3) s = f_conjoin_35 n k x1 x2 (Int32.ofNat (x3 + K)) t) ∧ own_N N' M' L' t ∧ own_Me U' N' M' L' t ∧ own_X N M L N' M' L' ∧ N' ≤ N + p * own_c j ∧ U' ≤ U + p * own_c j ∧ t.1 30 = Int32.ofNat D ∧ own_low D s t ∧ (∀ q, D ≤ q → q < D + p → own_Rd t (A q) (B q)) ∧ (∀ a' b', own_Rd s a' b' → own_Rd t a' b') ∧ own_fj s t ∧ own_kd N s t := by
  intro p
  induction p with
  | zero =>
    intro D N U M L s I Me hD hq h1 h2 h3
    exact ⟨0, N, U, M, L, s, by omega, fun k x1 x2 x3 _ => rfl, I, Me, own_Xr N M L, by omega, by omega, hD, own_lowr D s, fun q a b => by omega, fun _ _ h => h, own_fjr s, own_kdr N s⟩
  | succ p ih =>
    intro D N U M L s I Me hD hq h1 h2 h3
    obtain ⟨q1, q2, q3, q4, q5⟩ := hq (D + p) (by omega) (by omega)
    rw [Nat.succ_mul] at h2 h3
    obtain ⟨K, N1, U1, M1, L1, t, e1, e2, e3, e4, e5, e6, e7, e8, e9, e10, e11, e12, e13⟩ := P (D + p) N U (A (D + p)) (B (D + p)) M L s I Me hD q1 q2 q3 q4 q5 (by omega) (by omega) (by omega)
    obtain ⟨K', N2, U2, M2, L2, u, f1, f2, f3, f4, f5, f6, f7, f8, f9, f10, f11, f12, f13⟩ := ih D N1 U1 M1 L1 t e3 e4 e8 (fun q g1 g2 => by
      obtain ⟨w1, w2, w3, w4, w5⟩ := hq q g1 (by omega)
      have := e5.1
      exact ⟨own_lowat e9 (by omega) w1, by omega, by omega, by rw [(e5.2 _ w2).2]; exact w4, by rw [(e5.2 _ w3).2]; exact w5⟩) (by omega) (by omega) (by omega)
    refine ⟨K + K', N2, U2, M2, L2, u, by rw [Nat.succ_mul]; omega, fun k x1 x2 x3 hx => ?_, f3, f4, own_Xt e5 f5, by rw [Nat.succ_mul]; omega, by rw [Nat.succ_mul]; omega, f8, fun p hp => ?_, fun q g1 g2 => ?_, fun a' b' h => f11 a' b' (e11 a' b' h), own_fjt e12 f12, own_kdt e13 f13 e5.1⟩
    · rw [show k + (K + K') = (k + K') + K by omega, e2 _ _ _ _ (by omega), f2 _ _ _ _ (by omega), Nat.add_assoc]
    · exact ⟨(f9 p hp).1.trans (e9 p (by omega)).1, (f9 p hp).2.1.trans (e9 p (by omega)).2.1, (f9 p hp).2.2.trans (e9 p (by omega)).2.2⟩
    · by_cases z : q = D + p
      · rw [z]; exact f11 _ _ e10
      · exact f10 q g1 (by omega)
theorem own_PJall {n : Nat} (hn : 1500 ≤ n) : ∀ j, j ≤ 3 → own_PJ n j := by
  intro j
  induction j with
  | zero =>
    intro _ D N U a b M L s I Me hD at' ha hb hla hlb hd _ _
    have la : a ≤ 1 := by
      by_cases z : 2 ≤ a
      · have := (I.2.2.2.1 a z ha).1; omega
      · omega
    have R : own_Rd s a b := Or.inl (Or.inl la)
    have st := own_stepR hn I Me hD (by omega) at' ha hb R
    refine ⟨1, N, U, M, L, setI s 30 (Int32.ofNat D), by unfold own_k; omega, fun k x1 x2 x3 hx => own_it hD (by omega) st k x1 x2 (by omega), own_NF (by rw [setI_1, if_neg (by decide)]) (by rw [setI_1, if_neg (by decide)]) (by rw [setI_1, if_neg (by decide)]) rfl rfl rfl I, own_NX (own_Xr N M L) (fun _ _ _ => rfl) Me, own_Xr N M L, by omega, by omega, by rw [setI_1, if_pos (by trivial)], own_lowr D s, own_RdX (fun _ _ _ => rfl) R, fun a' b' h => own_RdX (fun _ _ _ => rfl) h, ⟨fun j _ h => by rw [setI_1, if_neg h], fun _ _ => rfl⟩, fun _ _ _ _ => rfl⟩
  | succ j ih =>
    intro hj D N U a b M L s I Me hD at' ha hb hla hlb hd hN hU
    have P := ih (by omega)
    have nb := I.1.2.2.2.2
    by_cases R : own_Rd s a b
    · have st := own_stepR hn I Me hD (by omega) at' ha hb R
      refine ⟨1, N, U, M, L, setI s 30 (Int32.ofNat D), by unfold own_k; omega, fun k x1 x2 x3 hx => own_it hD (by omega) st k x1 x2 (by omega), own_NF (by rw [setI_1, if_neg (by decide)]) (by rw [setI_1, if_neg (by decide)]) (by rw [setI_1, if_neg (by decide)]) rfl rfl rfl I, own_NX (own_Xr N M L) (fun _ _ _ => rfl) Me, own_Xr N M L, by omega, by omega, by rw [setI_1, if_pos (by trivial)], own_lowr D s, own_RdX (fun _ _ _ => rfl) R, fun a' b' h => own_RdX (fun _ _ _ => rfl) h, ⟨fun j _ h => by rw [setI_1, if_neg h], fun _ _ => rfl⟩, fun _ _ _ _ => rfl⟩
    · have c1 : own_c (j + 1) = 3 * own_c j + 1 := rfl
      have k1 : own_k (j + 1) = 3 * own_k j + 2 := rfl
      obtain ⟨r1, r2, r3⟩ := own_nRd hn (by omega) I Me ha hb R
      obtain ⟨l, el⟩ : ∃ l, l = min (L a) (L b) := ⟨_, rfl⟩
      have hl : l < 3 := by have := (I.2.2.2.1 a r2 ha).1; omega
      -- the pair is marked, its children go to the stack
      obtain ⟨s1, es1⟩ : ∃ s1, s1 = setA s 19 D 1 := ⟨_, rfl⟩
      have I1 : own_N N M L s1 := own_NF (by rw [es1]; rfl) (by rw [es1]; rfl) (by rw [es1]; rfl) (by rw [es1]; funext x; simp [setA_2]) (by rw [es1]; funext x; simp [setA_2]) (by rw [es1]; funext x; simp [setA_2]) I
      have o1 : ∀ j, j ≠ 19 → s1.2 j = s.2 j := fun j hj => by rw [es1]; funext x; rw [setA_2, if_neg (fun z => hj z.1)]
      have Me1 : own_Me U N M L s1 := own_NX (own_Xr N M L) (fun j h1 h2 => o1 j (by omega)) Me
      have at1 : own_at s1 D a b 1 := ⟨by rw [o1 17 (by decide)]; exact at'.1, by rw [o1 18 (by decide)]; exact at'.2.1, by rw [es1, setA_2, if_pos ⟨by trivial, by trivial⟩]⟩
      have low1 : own_low D s s1 := fun p hp => ⟨by rw [o1 17 (by decide)], by rw [o1 18 (by decide)], by rw [es1, setA_2, if_neg (fun z => by omega)]⟩
      obtain ⟨s2, p, A, B, t1, t2, t3, t4, t5, t6, t7, t8, t9, t10, t11⟩ := own_pc hn (by omega) ha hb hl (by omega) (by omega) 3 0 n (D + 1) s1 I1 Me1 (by omega) (by omega) (by rw [es1]; exact hD) (by omega)
      have k62 : s2.2 6 = s1.2 6 := t11
      have st1 : f_step n s = some s2 := by
        have e1 : Int32.ofNat (D + 1) - 1 = Int32.ofNat D := by rw [← N_succ, Int32.add_sub_cancel]
        unfold f_step
        rw [hD, e1, grd_pos (inbN (by omega) (by omega)), ix_N (by omega), at'.2.2, if_pos rfl, at'.1, at'.2.1, r1, Option.bind_some, if_pos (by decide), bnd_eq, ← es1]
        unfold f_pushChildren
        rw [own_top I1 ha hb, Option.bind_some, ← el, show (0 : Int32) = Int32.ofNat 0 from rfl, t1, Option.bind_some]
      -- the children
      obtain ⟨K, N3, U3, M3, L3, s3, e1, e2, e3, e4, e5, e6, e7, e8, e9, e10, e11, e12, e13⟩ := own_many P A B p (D + 1) N U M L s2 t2 t3 t5 (fun q g1 g2 => by
        obtain ⟨w1, w2, w3, w4, w5⟩ := t9 q g1 g2
        exact ⟨w1, w2, w3, by omega, by omega⟩) (by omega) (by have := Nat.mul_le_mul_right (own_c j) t4; omega) (by have := Nat.mul_le_mul_right (own_c j) t4; omega)
      have hpc := Nat.mul_le_mul_right (own_c j) t4
      have hpk := Nat.mul_le_mul_right (own_k j) t4
      -- the pair's end
      have at3 : own_at s3 D a b 1 := own_lowat e9 (by omega) (own_lowat t6 (by omega) at1)
      have hN3 := e5.1
      have La3 : L3 a = L a := (e5.2 a ha).2
      have Lb3 : L3 b = L b := (e5.2 b hb).2
      obtain ⟨s4, es4⟩ : ∃ s4, s4 = setI s3 30 (Int32.ofNat D) := ⟨_, rfl⟩
      have I4 : own_N N3 M3 L3 s4 := own_NF (by rw [es4, setI_1, if_neg (by decide)]) (by rw [es4, setI_1, if_neg (by decide)]) (by rw [es4, setI_1, if_neg (by decide)]) (by rw [es4]; rfl) (by rw [es4]; rfl) (by rw [es4]; rfl) e3
      have Me4 : own_Me U3 N3 M3 L3 s4 := own_NX (own_Xr N3 M3 L3) (fun _ _ _ => by rw [es4]; rfl) e4
      have k6s : s2.2 6 = s.2 6 := k62.trans (o1 6 (by decide))
      have kd14 : own_kd N s1 s4 := fun i hi v hv => by rw [es4, setI_2, e13 i hi v hv, k62]
      have Rk : ∀ w, w < 3 → ∀ ca cb : Nat, ca < N3 → cb < N3 → f_cofactor s4 (Int32.ofNat a) (Int32.ofNat l) (Int32.ofNat w) = some (Int32.ofNat ca) → f_cofactor s4 (Int32.ofNat b) (Int32.ofNat l) (Int32.ofNat w) = some (Int32.ofNat cb) → own_Rd s4 ca cb := fun w hw ca cb hca hcb g1 g2 => by
        have nb3 := e3.1.2.2.2.2
        -- the children of old nodes are as they were
        have cf : ∀ y c' : Nat, y < N → l ≤ L y → c' < N3 → f_cofactor s4 (Int32.ofNat y) (Int32.ofNat l) (Int32.ofNat w) = some (Int32.ofNat c') → f_cofactor s1 (Int32.ofNat y) (Int32.ofNat l) (Int32.ofNat w) = some (Int32.ofNat c') ∧ c' < N := fun y c' hy hly hc' g => by
          obtain ⟨c1, d1, d2, d3, d4⟩ := own_cof I1 hy hl hly hw
          rw [own_cofE I1 I4 e5 kd14 hy hw] at g
          refine ⟨g, ?_⟩
          rw [d1] at g
          have := (N_inj (by omega) (by omega)).mp (Option.some.inj g)
          rw [← this]; exact d2
        obtain ⟨g3, g5⟩ := cf a ca ha (by omega) hca g1
        obtain ⟨g4, g6⟩ := cf b cb hb (by omega) hcb g2
        have up : own_Rd s2 ca cb → own_Rd s4 ca cb := fun h => own_RdX (fun _ _ _ => by rw [es4]; rfl) (e11 ca cb h)
        rcases t10 w (by omega) hw ca cb g5 g6 g3 g4 with z | ⟨q, z1, z2, z3, z4⟩
        · exact up (own_RdX t7 z)
        · have := e10 q z1 z2
          rw [z3, z4] at this
          exact own_RdX (fun _ _ _ => by rw [es4]; rfl) this
      obtain ⟨N5, M5, L5, s5, f1, f2, f3, f4, f5, f6, f7, f8, f9, f10⟩ := own_fp hn (by omega) I4 (by omega) Me4 (by omega) (by omega) (by rw [La3, Lb3]; exact el) hl Rk (a := a) (b := b)
      have st3 : f_step n s3 = some s5 := by
        have e1 : Int32.ofNat (D + 1) - 1 = Int32.ofNat D := by rw [← N_succ, Int32.add_sub_cancel]
        unfold f_step
        rw [e8, e1, grd_pos (inbN (by omega) (by omega)), ix_N (by omega), at3.2.2, if_neg (by decide), at3.1, at3.2.1, bnd_eq, ← es4, f1, Option.bind_some]
      refine ⟨1 + K + 1, N5, U3 + 1, M5, L5, s5, by omega, fun k x1 x2 x3 hx => ?_, f2, f3, own_Xt e5 f4, by omega, by omega, by rw [f8 30 (by decide), es4, setI_1, if_pos (by trivial)], fun p hp => ?_, f6, fun a' b' h => ?_, ⟨fun j h22 h30 => ?_, fun j hj => ?_⟩, own_kdt (own_kdt (s := s) (t := s2) (fun i hi v hv => by rw [k6s]) (own_kdt e13 (fun _ _ _ _ => by rw [es4]; rfl : own_kd N s3 s4) (Nat.le_refl N)) (Nat.le_refl N)) f10 hN3⟩
      · rw [show k + (1 + K + 1) = (k + 1 + K) + 1 by omega, own_it hD (by omega) st1 _ x1 x2 (by omega), e2 _ _ _ _ (by omega), own_it e8 (by omega) st3 _ x1 x2 (by omega)]
        rw [show x3 + 1 + K + 1 = x3 + (1 + K + 1) by omega]
      · have g4 : own_low D s3 s5 := fun p hp => by rw [f9 17 (by omega), f9 18 (by omega), f9 19 (by omega), es4]; exact ⟨rfl, rfl, rfl⟩
        exact own_lowt (own_lowt (own_lowt low1 t6 (by omega)) e9 (by omega)) g4 (by omega) p hp
      · exact f7 a' b' (own_RdX (fun _ _ _ => by rw [es4]; rfl) (e11 a' b' (own_RdX (fun j h1 h2 => (t7 j h1 h2).trans (o1 j (by omega))) h)))
      · rw [f8 j h22, es4, setI_1, if_neg h30, e12.1 j h22 h30, t8.1 j h22 h30, es1]; rfl
      · rw [f9 j (by omega), es4, setI_2, e12.2 j hj, t8.2 j hj, o1 j (by omega)]

theorem own_cj {n N : Nat} (hn : 1500 ≤ n) {M : Nat → (Nat → Nat) → Bool} {L : Nat → Nat} {s : St} (I : own_N N M L s) (hN : N ≤ 700) {a b : Nat} (ha : a < N) (hb : b < N) :
    ∃ r N' M' L' t, f_conjoin n (Int32.ofNat a) (Int32.ofNat b) s = some (Int32.ofNat r, t) ∧ own_N N' M' L' t ∧ own_X N M L N' M' L' ∧ N' ≤ N + 13 ∧ r < N' ∧ (∀ x : Nat → Nat, (∀ v, x v < 3) → M' r x = (M a x && M b x)) ∧ own_fj s t := by
  have c1 : f_conjoin n (Int32.ofNat a) (Int32.ofNat b) s = (fun t => bnd (setI t 30 (0 : Int32)) fun s4 => (f_push (Int32.ofNat a) (Int32.ofNat b) s4).bind fun q5 => f_conjoin_35 n n (Int32.ofNat a) (Int32.ofNat b) (0 : Int32) q5) (s.1, fun k x => if k = 16 ∧ x < 1024 then 0 else s.2 k x) := by
    have q := loopN (F := fun k i s => f_conjoin_2 n k (Int32.ofNat a) (Int32.ofNat b) i s) (N := 1024) (f := fun i s => setA s 16 i (0 &&& 1)) (fin := fun t => bnd (setI t 30 (0 : Int32)) fun s4 => (f_push (Int32.ofNat a) (Int32.ofNat b) s4).bind fun q5 => f_conjoin_35 n n (Int32.ofNat a) (Int32.ofNat b) (0 : Int32) q5)
      (fun k i s hi => by
        show f_conjoin_2 n (k + 1) (Int32.ofNat a) (Int32.ofNat b) (Int32.ofNat i) s = _
        rw [u_conjoin_2, if_pos (ltZ (z := 1024) 1024 rfl hi (by omega)), grd_pos (inbN (n := 1024) hi (by omega)), bnd_eq, ix_N (by omega)])
      (fun k s => by
        show f_conjoin_2 n (k + 1) (Int32.ofNat a) (Int32.ofNat b) (Int32.ofNat 1024) s = _
        rw [u_conjoin_2, if_neg (by decide)]) 1024 0 n s (by omega) (by omega)
    rw [itr_fill] at q
    exact q
  obtain ⟨s0, e0⟩ : ∃ s0 : St, s0 = setI (s.1, fun k x => if k = 16 ∧ x < 1024 then 0 else s.2 k x) 30 0 := ⟨_, rfl⟩
  have z1 : ∀ j, j ≠ 30 → s0.1 j = s.1 j := fun j hj => by rw [e0, setI_1, if_neg hj]
  have z30 : s0.1 30 = Int32.ofNat 0 := by rw [e0, setI_1, if_pos (by trivial)]; rfl
  have z2 : ∀ j, j ≠ 16 → s0.2 j = s.2 j := fun j hj => by rw [e0, setI_2]; funext x; show (if j = 16 ∧ x < 1024 then 0 else s.2 j x) = _; rw [if_neg (fun z => hj z.1)]
  have z3 : ∀ h, h < 1024 → s0.2 16 h = 0 := fun h hh => by rw [e0, setI_2]; show (if 16 = 16 ∧ h < 1024 then 0 else s.2 16 h) = _; rw [if_pos ⟨rfl, hh⟩]
  rw [c1]
  show ∃ r N' M' L' t, (bnd (setI (s.1, fun k x => if k = 16 ∧ x < 1024 then 0 else s.2 k x) 30 (0 : Int32)) fun s4 => (f_push (Int32.ofNat a) (Int32.ofNat b) s4).bind fun q5 => f_conjoin_35 n n (Int32.ofNat a) (Int32.ofNat b) (0 : Int32) q5) = some (Int32.ofNat r, t) ∧ _
  rw [bnd_eq, ← e0]
  clear c1 e0
  have I0 : own_N N M L s0 := own_NF (z1 20 (by decide)) (z1 21 (by decide)) (z1 22 (by decide)) (z2 5 (by decide)) (z2 6 (by decide)) (z2 7 (by decide)) I
  have Me0 : own_Me 0 N M L s0 := ⟨⟨[], by simp, fun h hh _ => z3 h hh⟩, fun h hh hu => absurd (z3 h hh) hu⟩
  obtain ⟨s1, u1, u2, u3, u4, u5, u6⟩ := own_push (a := a) (b := b) z30 (by omega)
  rw [u1, Option.bind_some]
  have I1 : own_N N M L s1 := own_NF (u3 20 (by decide)) (u3 21 (by decide)) (u3 22 (by decide)) (u4 5 (by omega)) (u4 6 (by omega)) (u4 7 (by omega)) I0
  have Me1 : own_Me 0 N M L s1 := own_NX (own_Xr N M L) (fun j h1 h2 => u4 j (by omega)) Me0
  have c3 : own_c 3 = 13 := rfl
  have k3 : own_k 3 = 53 := rfl
  obtain ⟨K, N', U', M', L', t, e1, e2, e3, e4, e5, e6, e7, e8, e9, e10, e11, e12, e13⟩ := own_PJall hn 3 (by omega) 0 N 0 a b M L s1 I1 Me1 u2 u6 ha hb (by omega) (by omega) (by omega) (by omega) (by omega)
  have hN' := e5.1
  obtain ⟨r, r1, r2, r3, r4⟩ := own_Rs hn e3 e4 (a := a) (b := b) (by omega) (by omega) e10
  have nb := e3.1.2.2.2.2
  have fin : f_conjoin_35 n n (Int32.ofNat a) (Int32.ofNat b) 0 s1 = some (Int32.ofNat r, t) := by
    obtain ⟨k, ek⟩ : ∃ k, n = (k + 1) + K := ⟨n - K - 1, by omega⟩
    have := e2 (k + 1) (Int32.ofNat a) (Int32.ofNat b) 0 (by omega)
    rw [← ek] at this
    refine this.trans ?_
    rw [u_conjoin_35, if_pos (ltZ (z := 200000) 200000 rfl (by omega) (by omega)), e8, if_neg (by decide)]
    unfold f_conjoin_58
    rw [r1, Option.bind_some, if_neg (N_neg (by omega))]
  refine ⟨r, N', M', L', t, fin, e3, e5, by omega, r2, fun x hx => by rw [r4 x hx, (e5.2 a ha).1, (e5.2 b hb).1], fun j h22 h30 => ?_, fun j hj => ?_⟩
  · rw [e12.1 j h22 h30, u3 j h30, z1 j h30]
  · rw [e12.2 j hj, u4 j (by omega), z2 j (by omega)]
/-- K tables are in force; the roots mean G 0 to G K -/
def own_S (K : Nat) (G : Nat → (Nat → Nat) → Bool) (s : St) : Prop := ∃ N M L, own_N N M L s ∧ N ≤ 900 ∧ s.1 23 = Int32.ofNat K ∧ ∀ k, k ≤ K → ∃ r, s.2 0 k = Int32.ofNat r ∧ r < N ∧ ∀ x : Nat → Nat, (∀ v, x v < 3) → M r x = G k x
theorem own_SE {K : Nat} {G : Nat → (Nat → Nat) → Bool} {s t : St} (h1 : ∀ j, j = 20 ∨ j = 21 ∨ j = 22 ∨ j = 23 → t.1 j = s.1 j) (h2 : ∀ j, j = 0 ∨ j = 5 ∨ j = 6 ∨ j = 7 → t.2 j = s.2 j) (S : own_S K G s) : own_S K G t := by
  obtain ⟨N, M, L, I, hN, e, R⟩ := S
  exact ⟨N, M, L, own_NF (h1 20 (by omega)) (h1 21 (by omega)) (h1 22 (by omega)) (h2 5 (by omega)) (h2 6 (by omega)) (h2 7 (by omega)) I, hN, by rw [h1 23 (by omega)]; exact e, by rw [h2 0 (by omega)]; exact R⟩
theorem own_com {n K u w C m : Nat} (hm6 : m ≤ 600) (hn : 1500 ≤ n) (hK : K ≤ 2) (hu : u < 3) (hw : w < 3) {mt : Nat → Nat} (hC : C ≤ 16) (ht : ∀ i, i < C → mt i < 64) {mem : Nat → Bool} (hmem : ∀ h, mem h = true ↔ ∃ e, e < C ∧ mt e = h) {G : Nat → (Nat → Nat) → Bool} {s : St} (S : own_S K G s)
    (h22 : s.1 22 = Int32.ofNat m) (h24 : s.1 24 = 1) (h25 : s.1 25 = 2) (h26 : s.1 26 = Int32.ofNat u) (h27 : s.1 27 = Int32.ofNat w) (h29 : s.1 29 = Int32.ofNat C) (h1 : ∀ i, i < C → s.2 1 i = Int32.ofNat (mt i)) :
    ∃ t, f_commitTable n s = some (0, t) ∧ own_S (K + 1) (fun k x => if k = K + 1 then (G K x && mem (16 * x u + 4 * x w)) else G k x) t ∧ t.1 24 = 0 ∧ t.2 2 = s.2 2 ∧ ∃ m', m' ≤ m + 26 ∧ t.1 22 = Int32.ofNat m' := by
  obtain ⟨N, M, L, I, hN, e23, R⟩ := S
  have hNm : N = m := by
    have := I.1.2.2.1
    rw [h22, N_inj (by omega) (by omega)] at this
    exact this.symm
  obtain ⟨r0, q1, q2, q3⟩ := R K (by omega)
  unfold f_commitTable
  have er : f_ensureRoom s = some () := by
    unfold f_ensureRoom
    rw [I.1.2.2.1, show (512 : Int32) = Int32.ofNat 512 from rfl, N_add, if_neg (fun z => by rw [show (2048 : Int32) = Int32.ofNat 2048 from rfl, N_lt (by omega) (by omega)] at z; omega)]
  rw [h24, if_neg (by decide), e23, if_pos (ltZ (z := 8) 8 rfl (by omega) (by omega)), er, Option.bind_some]
  obtain ⟨r1, N1, M1, L1, s1, a1, a2, a3, a4, a5, a6, a7⟩ := own_cmp hn hu hw hC ht hmem I (by omega) h25 h26 h27 h29 h1
  rw [a1, Option.bind_some]
  have f23 : s1.1 23 = Int32.ofNat K := by rw [a7.1 23 (by decide)]; exact e23
  have f0 : s1.2 0 = s.2 0 := a7.2 0 (by decide) (by decide) (by decide) (by decide) (by decide) (by decide)
  show ∃ t, (grd (inb (s1.1 23) 9) <| (f_conjoin n (s1.2 0 (ix (s1.1 23))) (Int32.ofNat r1) s1).bind fun q8 => bnd (setI q8.2 23 ((q8.2.1 23) + (1 : Int32))) fun s10 => grd (inb (s10.1 23) 9) <| bnd (setA s10 0 (ix (s10.1 23)) q8.1) fun s12 => f_commitTable_63 n s12) = _ ∧ _
  have hX1 := a4.1
  rw [f23, grd_pos (inbN (by omega) (by omega)), ix_N (by omega), f0, q1]
  obtain ⟨r2, N2, M2, L2, s2, b1, b2, b3, b4, b5, b6, b7⟩ := own_cj hn a2 (by omega) (a := r0) (b := r1) (by omega) a5
  rw [b1, Option.bind_some, bnd_eq]
  have g23 : s2.1 23 = Int32.ofNat K := by rw [b7.1 23 (by decide) (by decide)]; exact f23
  show ∃ t, (grd (inb ((setI s2 23 (s2.1 23 + 1)).1 23) 9) <| bnd (setA (setI s2 23 (s2.1 23 + 1)) 0 (ix ((setI s2 23 (s2.1 23 + 1)).1 23)) (Int32.ofNat r2)) fun s12 => f_commitTable_63 n s12) = _ ∧ _
  rw [g23, N_succ, show (setI s2 23 (Int32.ofNat (K + 1))).1 23 = Int32.ofNat (K + 1) from by rw [setI_1, if_pos (by trivial)], grd_pos (inbN (by omega) (by omega)), bnd_eq, ix_N (by omega)]
  unfold f_commitTable_63
  simp only [bnd_eq]
  have hX2 := b3.1
  have g0 : ∀ x, s2.2 0 x = s.2 0 x := fun x => by rw [b7.2 0 (by omega), f0]
  refine ⟨_, rfl, ⟨N2, M2, L2, own_NF ?_ ?_ ?_ ?_ ?_ ?_ b2, by omega, ?_, fun k hk => ?_⟩, ?_, ?_, N2, by omega, ?_⟩
  · simp [setI_1, setA_1]
  · simp [setI_1, setA_1]
  · simp [setI_1, setA_1]
  · funext x; simp [setI_2, setA_2]
  · funext x; simp [setI_2, setA_2]
  · funext x; simp [setI_2, setA_2]
  · simp [setI_1, setA_1]
  · rw [setI_2, setI_2, setA_2, setI_2]
    by_cases z : k = K + 1
    · rw [if_pos ⟨by trivial, z⟩]
      refine ⟨r2, rfl, b5, fun x hx => ?_⟩
      show _ = if k = K + 1 then _ else _
      rw [if_pos z, b6 x hx, (a4.2 r0 q2).1, q3 x hx, a6 x hx]
    · rw [if_neg (fun y => z y.2), g0]
      obtain ⟨r, p1, p2, p3⟩ := R k (by omega)
      refine ⟨r, p1, by omega, fun x hx => ?_⟩
      show _ = if k = K + 1 then _ else _
      rw [if_neg z, (b3.2 r (by omega)).1, (a4.2 r p2).1, p3 x hx]
  · simp [setI_1, setA_1]
  · funext x
    rw [setI_2, setI_2, setA_2, if_neg (fun z => by omega), setI_2, b7.2 2 (by omega), a7.2 2 (by decide) (by decide) (by decide) (by decide) (by decide) (by decide)]
  · rw [← b2.1.2.2.1]; simp [setI_1, setA_1]
/-! ### count -/
def own_up (x : Nat → Nat) (l v : Nat) : Nat → Nat := fun u => if u = l then v else x u
/-- over the variables from 3 - m on, with the values that ok allows -/
def own_cn (ok : Nat → Nat → Bool) (f : (Nat → Nat) → Bool) : Nat → (Nat → Nat) → Nat
  | 0, x => if f x = true then 1 else 0
  | m + 1, x => (if ok (2 - m) 0 = true then own_cn ok f m (own_up x (2 - m) 0) else 0) + (if ok (2 - m) 1 = true then own_cn ok f m (own_up x (2 - m) 1) else 0) + (if ok (2 - m) 2 = true then own_cn ok f m (own_up x (2 - m) 2) else 0)
theorem own_cnS (ok : Nat → Nat → Bool) (f : (Nat → Nat) → Bool) (m : Nat) (x : Nat → Nat) : own_cn ok f (m + 1) x = (if ok (2 - m) 0 = true then own_cn ok f m (own_up x (2 - m) 0) else 0) + (if ok (2 - m) 1 = true then own_cn ok f m (own_up x (2 - m) 1) else 0) + (if ok (2 - m) 2 = true then own_cn ok f m (own_up x (2 - m) 2) else 0) := rfl
theorem own_cnle (ok : Nat → Nat → Bool) (f : (Nat → Nat) → Bool) : ∀ m x, own_cn ok f m x ≤ 3 ^ m := by
  intro m
  induction m with
  | zero => intro x; unfold own_cn; split <;> simp
  | succ m ih =>
    intro x
    unfold own_cn
    have h0 := ih (own_up x (2 - m) 0)
    have h1 := ih (own_up x (2 - m) 1)
    have h2 := ih (own_up x (2 - m) 2)
    rw [Nat.pow_succ]
    split <;> split <;> split <;> omega
/-- f and g agree where the variables below 3 - m are x's -/
theorem own_cnE (ok : Nat → Nat → Bool) {f g : (Nat → Nat) → Bool} : ∀ m, m ≤ 3 → ∀ x y : Nat → Nat, (∀ v, x v < 3) → (∀ v, y v < 3) → (∀ x' y' : Nat → Nat, (∀ v, x' v < 3) → (∀ v, y' v < 3) → (∀ u, u < 3 - m → x' u = x u) → (∀ u, u < 3 - m → y' u = y u) → (∀ u, 3 - m ≤ u → u < 3 → x' u = y' u) → (∀ u, 3 ≤ u → x' u = x u ∧ y' u = y u) → f x' = g y') → own_cn ok f m x = own_cn ok g m y := by
  intro m
  induction m with
  | zero =>
    intro _ x y hx hy h
    unfold own_cn
    rw [h x y hx hy (fun _ _ => rfl) (fun _ _ => rfl) (fun u h1 h2 => by omega) (fun u _ => ⟨rfl, rfl⟩)]
  | succ m ih =>
    intro hm x y hx hy h
    have st : ∀ v, v < 3 → own_cn ok f m (own_up x (2 - m) v) = own_cn ok g m (own_up y (2 - m) v) := fun v hv => by
      refine ih (by omega) _ _ (fun u => ?_) (fun u => ?_) (fun x' y' h1 h2 h3 h4 h5 h6 => h x' y' h1 h2 (fun u hu => ?_) (fun u hu => ?_) (fun u hu hu' => ?_) (fun u hu => ?_))
      · unfold own_up; split
        · exact hv
        · exact hx u
      · unfold own_up; split
        · exact hv
        · exact hy u
      · rw [h3 u (by omega)]; unfold own_up; rw [if_neg (by omega)]
      · rw [h4 u (by omega)]; unfold own_up; rw [if_neg (by omega)]
      · by_cases q : u = 2 - m
        · rw [h3 u (by omega), h4 u (by omega)]; unfold own_up; rw [if_pos q, if_pos q]
        · exact h5 u (by omega) hu'
      · obtain ⟨a, b⟩ := h6 u hu
        rw [a, b]; unfold own_up; rw [if_neg (by omega), if_neg (by omega)]; exact ⟨rfl, rfl⟩
    unfold own_cn
    rw [st 0 (by omega), st 1 (by omega), st 2 (by omega)]
def own_w (ok : Nat → Nat → Bool) (l : Nat) : Nat := (if ok l 0 = true then 1 else 0) + (if ok l 1 = true then 1 else 0) + (if ok l 2 = true then 1 else 0)
def own_gn (ok : Nat → Nat → Bool) : Nat → Nat → Nat
  | _, 0 => 1
  | l, m + 1 => own_w ok l * own_gn ok (l + 1) m
/-- variables that f does not ask -/
theorem own_skip (ok : Nat → Nat → Bool) {f : (Nat → Nat) → Bool} : ∀ d l : Nat, l + d ≤ 3 → (∀ x y : Nat → Nat, (∀ v, l + d ≤ v → x v = y v) → f x = f y) → ∀ x y : Nat → Nat, (∀ v, x v < 3) → (∀ v, y v < 3) → (∀ v, 3 ≤ v → x v = y v) → own_cn ok f (3 - l) x = own_gn ok l d * own_cn ok f (3 - (l + d)) y := by
  intro d
  induction d with
  | zero =>
    intro l hl hf x y hx hy hxy
    show _ = 1 * _
    rw [Nat.one_mul]
    refine own_cnE ok (3 - l) (by omega) x y hx hy (fun x' y' h1 h2 h3 h4 h5 h6 => hf x' y' (fun v hv => ?_))
    by_cases q : v < 3
    · exact h5 v (by omega) q
    · obtain ⟨a, b⟩ := h6 v (by omega)
      rw [a, b]; exact hxy v (by omega)
  | succ d ih =>
    intro l hl hf x y hx hy hxy
    have st : ∀ v, v < 3 → own_cn ok f (3 - (l + 1)) (own_up x l v) = own_gn ok (l + 1) d * own_cn ok f (3 - (l + (d + 1))) y := fun v hv => by
      have := ih (l + 1) (by omega) (fun x y h => hf x y (fun v hv => h v (by omega))) (own_up x l v) y (fun u => by
        unfold own_up; split
        · exact hv
        · exact hx u) hy (fun u hu => by unfold own_up; rw [if_neg (by omega)]; exact hxy u hu)
      rw [show l + 1 + d = l + (d + 1) by omega] at this
      exact this
    rw [show 3 - l = (3 - (l + 1)) + 1 by omega, own_cnS, show 2 - (3 - (l + 1)) = l by omega, st 0 (by omega), st 1 (by omega), st 2 (by omega)]
    show _ = own_w ok l * own_gn ok (l + 1) d * _
    unfold own_w
    generalize own_gn ok (l + 1) d = A
    generalize own_cn ok f (3 - (l + (d + 1))) y = B
    rw [Nat.mul_assoc]
    generalize A * B = C
    split <;> split <;> split <;> omega

def own_okF (ok : Nat → Nat → Bool) (F : Nat → Int32) : Prop := ∀ l, l < 3 → (F l < 0 ∧ ∀ v, v < 3 → ok l v = true) ∨ (¬ F l < 0 ∧ ∃ v, v < 3 ∧ F l = Int32.ofNat v ∧ ∀ w, w < 3 → (ok l w = true ↔ w = v))
theorem own_wE {ok : Nat → Nat → Bool} {F : Nat → Int32} (h : own_okF ok F) {l : Nat} (hl : l < 3) : own_w ok l = if F l < 0 then 3 else 1 := by
  unfold own_w
  rcases h l hl with ⟨h1, h2⟩ | ⟨h1, v, h2, h3, h4⟩
  · rw [if_pos h1, if_pos (h2 0 (by omega)), if_pos (h2 1 (by omega)), if_pos (h2 2 (by omega))]
  · rw [if_neg h1]
    have a0 := h4 0 (by omega)
    have a1 := h4 1 (by omega)
    have a2 := h4 2 (by omega)
    have : v = 0 ∨ v = 1 ∨ v = 2 := by omega
    rcases this with rfl | rfl | rfl
    · rw [if_pos (a0.mpr rfl), if_neg (fun z => absurd (a1.mp z) (by omega)), if_neg (fun z => absurd (a2.mp z) (by omega))]
    · rw [if_neg (fun z => absurd (a0.mp z) (by omega)), if_pos (a1.mpr rfl), if_neg (fun z => absurd (a2.mp z) (by omega))]
    · rw [if_neg (fun z => absurd (a0.mp z) (by omega)), if_neg (fun z => absurd (a1.mp z) (by omega)), if_pos (a2.mpr rfl)]
theorem own_gap5 {n : Nat} {ok : Nat → Nat → Bool} {s : St} (h21 : s.1 21 = 3) (h : own_okF ok (s.2 3)) {b : Nat} (hb : b ≤ 3) : ∀ (m a c k : Nat), a + m = b → m < k → f_gap_5 n s k (Int32.ofNat b) (Int32.ofNat c) (Int32.ofNat a) = some (Int32.ofNat (c * own_gn ok a m)) := by
  intro m
  induction m with
  | zero =>
    intro a c k ha hk
    obtain ⟨k, rfl⟩ : ∃ k', k = k' + 1 := ⟨k - 1, by omega⟩
    rw [u_gap_5, if_neg (by rw [show a = b by omega]; exact nltN (by omega))]
    show _ = some (Int32.ofNat (c * 1))
    rw [Nat.mul_one]
  | succ m ih =>
    intro a c k ha hk
    obtain ⟨k, rfl⟩ : ∃ k', k = k' + 1 := ⟨k - 1, by omega⟩
    have w := own_wE h (l := a) (by omega)
    have g : own_gn ok a (m + 1) = own_w ok a * own_gn ok (a + 1) m := rfl
    rw [u_gap_5, if_pos (ltN (by omega) (by omega)), if_pos (ltZ (z := 5) 5 rfl (by omega) (by omega)), grd_pos (inbN (by omega) (by omega)), ix_N (by omega), g, w, h21, show (3 : Int32) = Int32.ofNat 3 from rfl, N_mul, N_succ, ← Nat.mul_assoc]
    by_cases q : s.2 3 a < 0
    · rw [if_pos q, if_pos q]; exact ih (a + 1) (c * 3) k (by omega) (by omega)
    · rw [if_neg q, if_neg q, Nat.mul_one]; exact ih (a + 1) c k (by omega) (by omega)
theorem own_gap {n : Nat} (hn : 10 ≤ n) {ok : Nat → Nat → Bool} {s : St} (h21 : s.1 21 = 3) (h : own_okF ok (s.2 3)) {a b : Nat} (hab : a ≤ b) (hb : b ≤ 3) : f_gap n s (Int32.ofNat a) (Int32.ofNat b) = some (Int32.ofNat (own_gn ok a (b - a))) := by
  unfold f_gap
  have := own_gap5 (n := n) h21 h hb (b - a) a 1 n (by omega) (by omega)
  rw [Nat.one_mul] at this
  exact this
theorem own_okE {ok : Nat → Nat → Bool} {F : Nat → Int32} (h : own_okF ok F) {l v : Nat} (hl : l < 3) (hv : v < 3) : (ok l v = true ↔ (F l < 0 ∨ (¬ F l < 0 ∧ F l = Int32.ofNat v))) := by
  rcases h l hl with ⟨h1, h2⟩ | ⟨h1, w, h2, h3, h4⟩
  · exact ⟨fun _ => Or.inl h1, fun _ => h2 v hv⟩
  · rw [h4 v hv]
    refine ⟨fun z => Or.inr ⟨h1, by rw [h3, z]⟩, fun z => ?_⟩
    rcases z with z | ⟨-, z⟩
    · exact absurd z h1
    · rw [h3, N_inj (by omega) (by omega)] at z; exact z.symm
def own_z0 : Nat → Nat := fun _ => 0
/-- what a node counts -/
def own_nc (ok : Nat → Nat → Bool) (M : Nat → (Nat → Nat) → Bool) (L : Nat → Nat) (i : Nat) : Nat := own_cn ok (M i) (3 - L i) own_z0
theorem own_ncle (ok : Nat → Nat → Bool) (M : Nat → (Nat → Nat) → Bool) (L : Nat → Nat) (i : Nat) : own_nc ok M L i ≤ 27 := by
  have := own_cnle ok (M i) (3 - L i) own_z0
  have h2 : 3 ^ (3 - L i) ≤ 3 ^ 3 := Nat.pow_le_pow_right (by omega) (by omega)
  unfold own_nc
  omega
theorem own_gnle (ok : Nat → Nat → Bool) : ∀ m l, own_gn ok l m ≤ 3 ^ m := by
  intro m
  induction m with
  | zero => intro l; show 1 ≤ 1; omega
  | succ m ih =>
    intro l
    show own_w ok l * own_gn ok (l + 1) m ≤ 3 ^ (m + 1)
    have h1 := ih (l + 1)
    have h2 : own_w ok l ≤ 3 := by unfold own_w; split <;> split <;> split <;> omega
    rw [Nat.pow_succ, Nat.mul_comm]
    exact Nat.mul_le_mul h1 h2
theorem own_node {n N : Nat} (hn : 10 ≤ n) {M : Nat → (Nat → Nat) → Bool} {L : Nat → Nat} {ok : Nat → Nat → Bool} {s : St} (I : own_N N M L s) (h : own_okF ok (s.2 3)) {i : Nat} (h2 : 2 ≤ i) (hi : i < N) (hc : ∀ j, j < i → s.2 10 j = Int32.ofNat (own_nc ok M L j)) :
    f_nodeCount n s (Int32.ofNat i) = some (Int32.ofNat (own_nc ok M L i)) := by
  have nb := I.1.2.2.2.2
  obtain ⟨hl, kids⟩ := I.2.2.2.1 i h2 hi
  obtain ⟨l, el⟩ : ∃ l, l = L i := ⟨_, rfl⟩
  rw [← el] at hl kids
  have term : ∀ v, v < 3 → ∃ c, s.2 6 (4 * i + v) = Int32.ofNat c ∧ c < i ∧ l < L c ∧ L c ≤ 3 ∧ own_nc ok M L c * own_gn ok (l + 1) (L c - (l + 1)) = own_cn ok (M i) (2 - l) (own_up own_z0 l v) := fun v hv => by
    obtain ⟨c, c1, c2, c3, c4⟩ := kids v hv
    have l3 := (I.2.1 c (by omega)).2
    refine ⟨c, c1, c2, c3, l3, ?_⟩
    have okU : ∀ u, own_up own_z0 l v u < 3 := fun u => by unfold own_up own_z0; split <;> omega
    have sk := own_skip ok (f := M c) (L c - (l + 1)) (l + 1) (by omega) (fun x y hxy => I.2.2.2.2.2.2 c (by omega) x y (fun u hu => hxy u (by omega))) (own_up own_z0 l v) own_z0 okU (fun u => by unfold own_z0; omega) (fun u hu => by unfold own_up; rw [if_neg (by omega)])
    rw [show l + 1 + (L c - (l + 1)) = L c by omega, show 3 - (l + 1) = 2 - l by omega] at sk
    unfold own_nc
    rw [Nat.mul_comm, ← sk]
    refine own_cnE ok (2 - l) (by omega) _ _ okU okU (fun x' y' g1 g2 g3 g4 g5 g6 => ?_)
    have e : x' = y' := by
      funext u
      by_cases q : u < 3 - (2 - l)
      · rw [g3 u q, g4 u q]
      · by_cases r : u < 3
        · exact g5 u (by omega) r
        · rw [(g6 u (by omega)).1, (g6 u (by omega)).2]
    rw [← e]
    refine (c4 x' ?_).symm
    rw [g3 l (by omega)]
    unfold own_up
    rw [if_pos rfl]
  have step : ∀ k acc v, v < 3 → f_nodeCount_23 n s (k + 1) (Int32.ofNat i) (Int32.ofNat l) (Int32.ofNat acc) (Int32.ofNat v) = f_nodeCount_23 n s k (Int32.ofNat i) (Int32.ofNat l) (Int32.ofNat (acc + if ok l v = true then own_cn ok (M i) (2 - l) (own_up own_z0 l v) else 0)) (Int32.ofNat (v + 1)) := fun k acc v hv => by
    obtain ⟨c, c1, c2, c3, c4, c5⟩ := term v hv
    have hit : f_nodeCount_55 n s (f_nodeCount_23 n s k) (Int32.ofNat i) (Int32.ofNat l) (Int32.ofNat acc) (Int32.ofNat v) = f_nodeCount_23 n s k (Int32.ofNat i) (Int32.ofNat l) (Int32.ofNat (acc + own_cn ok (M i) (2 - l) (own_up own_z0 l v))) (Int32.ofNat (v + 1)) := by
      unfold f_nodeCount_55
      rw [show (4 : Int32) = Int32.ofNat 4 from rfl, N_mul, N_add, grd_pos (inbN (by omega) (by omega)), bnd_eq, ix_N (by omega), show i * 4 + v = 4 * i + v by omega, c1, if_neg (N_neg (by omega)), if_pos (ltN c2 (by omega)), grd_pos (inbN (by omega) (by omega)), ix_N (by omega), (I.2.1 c (by omega)).1, N_succ, own_gap hn I.1.2.1 h (by omega) c4, Option.bind_some, bnd_eq, hc c c2, N_mul, N_add, N_succ, c5]
    have oe := own_okE h hl hv
    rw [u_nodeCount_23, I.1.2.1, if_pos (ltZ (z := 3) 3 rfl hv (by omega)), grd_pos (inbN (by omega) (by omega)), ix_N (by omega)]
    by_cases q : s.2 3 l < 0
    · rw [if_pos q, hit, if_pos (oe.mpr (Or.inl q))]
    · rw [if_neg q]
      by_cases r : s.2 3 l = Int32.ofNat v
      · rw [if_pos r, hit, if_pos (oe.mpr (Or.inr ⟨q, r⟩))]
      · rw [if_neg r, if_neg (fun z => by rcases oe.mp z with z | ⟨-, z⟩ <;> contradiction), N_succ]
        rfl
  obtain ⟨m, rfl⟩ : ∃ m, n = m + 10 := ⟨n - 10, by omega⟩
  unfold f_nodeCount
  rw [grd_pos (inbN (by omega) (by omega)), ix_N (by omega), (I.2.1 i hi).1, ← el, if_neg (N_neg (by omega)), if_pos (ltZ (z := 5) 5 rfl (by omega) (by omega))]
  rw [show (0 : Int32) = Int32.ofNat 0 from rfl]
  rw [step (m + 9) 0 0 (by omega), step (m + 8) _ 1 (by omega), step (m + 7) _ 2 (by omega)]
  rw [u_nodeCount_23, I.1.2.1, if_neg (by decide)]
  unfold own_nc
  rw [← el, show 3 - l = (2 - l) + 1 by omega, own_cnS, show 2 - (2 - l) = l by omega, Nat.zero_add]
theorem own_cf {n N : Nat} (hn : 1500 ≤ n) {M : Nat → (Nat → Nat) → Bool} {L : Nat → Nat} {ok : Nat → Nat → Bool} {s : St} (I : own_N N M L s) (h : own_okF ok (s.2 3)) {K r : Nat} (hK : K ≤ 8) (h23 : s.1 23 = Int32.ofNat K) (h0 : s.2 0 K = Int32.ofNat r) (hr : r < N) :
    ∃ t, f_countFixed n s = some (Int32.ofNat (own_cn ok (M r) 3 own_z0), t) ∧ t.1 = s.1 ∧ ∀ j, j ≠ 10 → t.2 j = s.2 j := by
  have nb := I.1.2.2.2.2
  have l3 := (I.2.1 r hr).2
  have f55 : ∀ t : St, t.1 = s.1 → (∀ j, j ≠ 10 → t.2 j = s.2 j) → t.2 10 r = Int32.ofNat (own_nc ok M L r) → f_countFixed_55 n (Int32.ofNat r) t = some (Int32.ofNat (own_cn ok (M r) 3 own_z0), t) := fun t t1 t2 t3 => by
    unfold f_countFixed_55
    have sk := own_skip ok (f := M r) (L r) 0 (by omega) (fun x y hxy => I.2.2.2.2.2.2 r hr x y (fun u hu => hxy u (by omega))) own_z0 own_z0 (fun u => by unfold own_z0; omega) (fun u => by unfold own_z0; omega) (fun u hu => rfl)
    have gp := own_gap (n := n) (s := t) (by omega) (by rw [t1]; exact I.1.2.1) (by rw [t2 3 (by decide)]; exact h) (a := 0) (b := L r) (by omega) l3
    rw [grd_pos (inbN (by omega) (by omega)), ix_N (by omega), t2 5 (by decide), (I.2.1 r hr).1, show (0 : Int32) = Int32.ofNat 0 from rfl, gp, Option.bind_some, t3, N_mul]
    rw [Nat.zero_add, Nat.sub_zero] at sk
    rw [Nat.sub_zero, sk, Nat.mul_comm]; rfl
  have lp : ∀ (m j k : Nat) (t : St), j + m = r + 1 → m < k → 2 ≤ j → t.1 = s.1 → (∀ i, i ≠ 10 → t.2 i = s.2 i) → (∀ i, i < j → t.2 10 i = Int32.ofNat (own_nc ok M L i)) → ∃ u, f_countFixed_26 n k (Int32.ofNat r) (Int32.ofNat j) t = some (Int32.ofNat (own_cn ok (M r) 3 own_z0), u) ∧ u.1 = s.1 ∧ ∀ i, i ≠ 10 → u.2 i = s.2 i := by
    intro m
    induction m with
    | zero =>
      intro j k t hj hk h2 t1 t2 t3
      obtain ⟨k, rfl⟩ : ∃ k', k = k' + 1 := ⟨k - 1, by omega⟩
      rw [u_countFixed_26, if_pos (ltN (by omega) (by omega)), f55 t t1 t2 (t3 r (by omega))]
      exact ⟨t, rfl, t1, t2⟩
    | succ m ih =>
      intro j k t hj hk h2 t1 t2 t3
      obtain ⟨k, rfl⟩ : ∃ k', k = k' + 1 := ⟨k - 1, by omega⟩
      have It : own_N N M L t := own_NF (by rw [t1]) (by rw [t1]) (by rw [t1]) (t2 5 (by decide)) (t2 6 (by decide)) (t2 7 (by decide)) I
      rw [u_countFixed_26, if_neg (fun z => by rw [N_lt (by omega) (by omega)] at z; omega), if_pos (ltZ (z := 2048) 2048 rfl (by omega) (by omega)), own_node (by omega) It (by rw [t2 3 (by decide)]; exact h) h2 (by omega) t3, Option.bind_some, grd_pos (inbN (by omega) (by omega)), bnd_eq, ix_N (by omega), N_succ]
      refine ih (j + 1) k _ (by omega) (by omega) (by omega) t1 (fun i hi => ?_) (fun i hi => ?_)
      · funext x; rw [setA_2, if_neg (fun z => hi z.1), t2 i hi]
      · rw [setA_2]
        by_cases q : i = j
        · rw [if_pos ⟨by trivial, q⟩, q]
        · rw [if_neg (fun z => q z.2)]; exact t3 i (by omega)
  unfold f_countFixed
  rw [h23, grd_pos (inbN (by omega) (by omega)), ix_N (by omega), h0]
  simp only [bnd_eq]
  rw [show ix (0 : Int32) = 0 from rfl, show ix (1 : Int32) = 1 from rfl]
  have nc0 : own_nc ok M L 0 = 0 := by
    unfold own_nc
    rw [I.2.2.1.1]
    show (if M 0 own_z0 = true then 1 else 0) = 0
    rw [I.2.2.1.2.2.1]; rfl
  have nc1 : own_nc ok M L 1 = 1 := by
    unfold own_nc
    rw [I.2.2.1.2.1]
    show (if M 1 own_z0 = true then 1 else 0) = 1
    rw [I.2.2.1.2.2.2]; rfl
  have c01 : ∀ i, i < 2 → (setA (setA s 10 0 0) 10 1 1).2 10 i = Int32.ofNat (own_nc ok M L i) := fun i hi => by
    have : i = 0 ∨ i = 1 := by omega
    rcases this with rfl | rfl
    · rw [nc0, setA_2, if_neg (fun z => by omega), setA_2, if_pos ⟨by trivial, by trivial⟩]; rfl
    · rw [nc1, setA_2, if_pos ⟨by trivial, by trivial⟩]; rfl
  have co : ∀ i, i ≠ 10 → (setA (setA s 10 0 0) 10 1 1).2 i = s.2 i := fun i hi => by funext x; rw [setA_2, if_neg (fun z => hi z.1), setA_2, if_neg (fun z => hi z.1)]
  by_cases q : r < 2
  · obtain ⟨k, rfl⟩ : ∃ k', n = k' + 1 := ⟨n - 1, by omega⟩
    rw [u_countFixed_26, if_pos (ltZ (z := 2) 2 rfl q (by omega)), f55 (setA (setA s 10 0 0) 10 1 1) rfl co (c01 r q)]
    exact ⟨_, rfl, rfl, co⟩
  · exact lp (r - 1) 2 n _ (by omega) (by omega) (by omega) rfl co c01
/-- all the counts -/
def own_NC (ok : Nat → Nat → Bool) (g : (Nat → Nat) → Bool) : Nat := own_cn ok g 3 own_z0
theorem own_NCE (ok : Nat → Nat → Bool) {f g : (Nat → Nat) → Bool} (h : ∀ x : Nat → Nat, (∀ v, x v < 3) → f x = g x) : own_cn ok f 3 own_z0 = own_NC ok g := by
  refine own_cnE ok 3 (by omega) own_z0 own_z0 (fun v => by unfold own_z0; omega) (fun v => by unfold own_z0; omega) (fun x' y' g1 g2 g3 g4 g5 g6 => ?_)
  have e : x' = y' := by
    funext u
    by_cases r : u < 3
    · exact g5 u (by omega) r
    · rw [(g6 u (by omega)).1, (g6 u (by omega)).2]
  rw [← e]; exact h x' g1
theorem own_lc {n : Nat} (hn : 10 ≤ n) (s : St) : ∃ t, f_loadChoices n s = some t ∧ t.1 = s.1 ∧ ∀ k x, t.2 k x = if k = 3 ∧ x < 5 then s.2 2 x else s.2 k x := by
  obtain ⟨r, f1, f2⟩ := loopP (F := f_loadChoices_2 n) (N := 5) (P := fun i t => t.1 = s.1 ∧ ∀ k x, t.2 k x = if k = 3 ∧ x < i then s.2 2 x else s.2 k x) (Q := fun t => t.1 = s.1 ∧ ∀ k x, t.2 k x = if k = 3 ∧ x < 5 then s.2 2 x else s.2 k x)
    (fun k i c hi hp => Or.inl (by
      rw [u_loadChoices_2, if_pos (ltZ (z := 5) 5 rfl hi (by omega)), grd_pos (inbN hi (by omega)), ix_N (by omega), bnd_eq]
      refine ⟨_, rfl, hp.1, fun k x => ?_⟩
      rw [setA_2, hp.2, hp.2]
      by_cases e : k = 3
      · by_cases e2 : x = i
        · subst e2; simp [e]
        · have : x < i + 1 ↔ x < i := by omega
          simp [e, e2, this]
      · simp [e]))
    (fun k c hp => ⟨c, by rw [u_loadChoices_2, if_neg (by decide)], hp⟩) 5 0 n s (by omega) (by omega) ⟨rfl, fun k x => by simp⟩
  exact ⟨r, f1, f2⟩
theorem own_cnt {n K : Nat} (hn : 1500 ≤ n) (hK : K ≤ 8) {G : Nat → (Nat → Nat) → Bool} {ok : Nat → Nat → Bool} {s : St} (S : own_S K G s) (h : own_okF ok (s.2 2)) : ∃ t, f_count n s = some (Int32.ofNat (own_NC ok (G K)), t) ∧ own_S K G t ∧ t.1 = s.1 ∧ t.2 2 = s.2 2 := by
  obtain ⟨u, e1, e2, e3⟩ := own_lc (n := n) (by omega) s
  have uo : ∀ j, j ≠ 3 → u.2 j = s.2 j := fun j hj => by funext x; rw [e3, if_neg (fun z => hj z.1)]
  have Su : own_S K G u := own_SE (fun j _ => by rw [e2]) (fun j hj => uo j (by omega)) S
  obtain ⟨N, M, L, I, hN, e23, R⟩ := Su
  obtain ⟨r, r1, r2, r3⟩ := R K (by omega)
  have hu : own_okF ok (u.2 3) := fun l hl => by rw [e3, if_pos ⟨rfl, by omega⟩]; exact h l hl
  obtain ⟨t, t1, t2, t3⟩ := own_cf hn I hu hK e23 r1 r2
  unfold f_count
  rw [e1, Option.bind_some, t1, Option.bind_some, own_NCE ok r3]
  exact ⟨t, rfl, own_SE (s := u) (fun j _ => by rw [t2]) (fun j hj => t3 j (by omega)) ⟨N, M, L, I, hN, e23, R⟩, by rw [t2, e2], by rw [t3 2 (by decide), uo 2 (by decide)]⟩
theorem own_cw {n K v w : Nat} (hn : 1500 ≤ n) (hK : K ≤ 8) (hv : v < 3) (hw : w < 3) {G : Nat → (Nat → Nat) → Bool} {ok : Nat → Nat → Bool} {s : St} (S : own_S K G s) (h : own_okF ok (fun l => if l = v then Int32.ofNat w else s.2 2 l)) : ∃ t, f_countWith n (Int32.ofNat v) (Int32.ofNat w) s = some (Int32.ofNat (own_NC ok (G K)), t) ∧ own_S K G t ∧ t.1 = s.1 ∧ t.2 2 = s.2 2 := by
  obtain ⟨u, e1, e2, e3⟩ := own_lc (n := n) (by omega) s
  have uo : ∀ j, j ≠ 3 → (setA u 3 v (Int32.ofNat w)).2 j = s.2 j := fun j hj => by funext x; rw [setA_2, if_neg (fun z => hj z.1), e3, if_neg (fun z => hj z.1)]
  have Su : own_S K G (setA u 3 v (Int32.ofNat w)) := own_SE (fun j _ => by rw [setA_1, e2]) (fun j hj => uo j (by omega)) S
  obtain ⟨N, M, L, I, hN, e23, R⟩ := Su
  obtain ⟨r, r1, r2, r3⟩ := R K (by omega)
  have hu : own_okF ok ((setA u 3 v (Int32.ofNat w)).2 3) := fun l hl => by
    have := h l hl
    have e : (setA u 3 v (Int32.ofNat w)).2 3 l = if l = v then Int32.ofNat w else s.2 2 l := by
      rw [setA_2]
      by_cases q : l = v
      · rw [if_pos ⟨by trivial, q⟩, if_pos q]
      · rw [if_neg (fun z => q z.2), if_neg q, e3, if_pos ⟨rfl, by omega⟩]
    rw [e]; exact this
  obtain ⟨t, t1, t2, t3⟩ := own_cf hn I hu hK e23 r1 r2
  have vv : f_validVar s (Int32.ofNat v) = some 1 := by
    obtain ⟨N', M', L', I', -⟩ := S
    unfold f_validVar; rw [if_neg (N_neg (by omega)), I'.1.1, if_pos (ltZ (z := 3) 3 rfl hv (by omega))]
  have va : f_validValue s (Int32.ofNat w) = some 1 := by
    obtain ⟨N', M', L', I', -⟩ := S
    unfold f_validValue; rw [if_neg (N_neg (by omega)), I'.1.2.1, if_pos (ltZ (z := 3) 3 rfl hw (by omega))]
  unfold f_countWith
  rw [vv, Option.bind_some, if_neg (by decide), va, Option.bind_some, if_neg (by decide), e1, Option.bind_some, grd_pos (inbN (by omega) (by omega)), bnd_eq, ix_N (by omega), t1, Option.bind_some, own_NCE ok r3]
  exact ⟨t, rfl, own_SE (s := setA u 3 v (Int32.ofNat w)) (fun j _ => by rw [t2]) (fun j hj => t3 j (by omega)) ⟨N, M, L, I, hN, e23, R⟩, by rw [t2, setA_1, e2], by rw [t3 2 (by decide), uo 2 (by decide)]⟩

/-! ### masks, tables, tuples -/
def own_ok0 : Nat → Nat → Bool := fun _ _ => true
def own_ok1 (v w : Nat) : Nat → Nat → Bool := fun l u => if l = v then decide (u = w) else true
theorem own_okF0 {F : Nat → Int32} (h : ∀ l, l < 3 → F l = -1) : own_okF own_ok0 F := fun l hl => Or.inl ⟨by rw [h l hl]; decide, fun _ _ => rfl⟩
theorem own_okF1 {F : Nat → Int32} {v w : Nat} (hw : w < 3) (h : ∀ l, l < 3 → l ≠ v → F l = -1) (hv : F v = Int32.ofNat w) : own_okF (own_ok1 v w) F := fun l hl => by
  by_cases q : l = v
  · refine Or.inr ⟨by rw [q, hv]; exact N_neg (by omega), w, hw, by rw [q]; exact hv, fun u hu => ?_⟩
    unfold own_ok1
    rw [if_pos q, decide_eq_true_iff]
  · refine Or.inl ⟨by rw [h l hl q]; decide, fun u _ => ?_⟩
    unfold own_ok1
    rw [if_neg q]
def own_bit (c w : Nat) (m : Int32) : Int32 := if 0 < c then m ||| ((1 : Int32) <<< (Int32.ofNat w &&& 31)) else m
def own_msk (v : Nat) (g : (Nat → Nat) → Bool) : Int32 := own_bit (own_NC (own_ok1 v 2) g) 2 (own_bit (own_NC (own_ok1 v 1) g) 1 (own_bit (own_NC (own_ok1 v 0) g) 0 0))
theorem own_NCle (ok : Nat → Nat → Bool) (g : (Nat → Nat) → Bool) : own_NC ok g ≤ 27 := own_cnle ok g 3 own_z0
theorem own_om {n K v : Nat} (hn : 1500 ≤ n) (hK : K ≤ 8) (hv : v < 3) {G : Nat → (Nat → Nat) → Bool} {s : St} (S : own_S K G s) (hf : ∀ l, l < 3 → s.2 2 l = -1) : ∃ t, f_offeredMask n (Int32.ofNat v) s = some (own_msk v (G K), t) ∧ own_S K G t ∧ t.1 = s.1 ∧ t.2 2 = s.2 2 := by
  have step : ∀ k w (m : Int32) (t : St), w < 3 → own_S K G t → t.1 = s.1 → t.2 2 = s.2 2 → ∃ u, f_offeredMask_14 n (k + 1) (Int32.ofNat v) m (Int32.ofNat w) t = f_offeredMask_14 n k (Int32.ofNat v) (own_bit (own_NC (own_ok1 v w) (G K)) w m) (Int32.ofNat (w + 1)) u ∧ own_S K G u ∧ u.1 = s.1 ∧ u.2 2 = s.2 2 := fun k w m t hw St t1 t2 => by
    obtain ⟨u, u1, u2, u3, u4⟩ := own_cw hn hK hv hw St (ok := own_ok1 v w) (own_okF1 hw (fun l hl hl' => by rw [if_neg hl', t2]; exact hf l hl) (by rw [if_pos rfl]))
    have h21 : t.1 21 = 3 := by obtain ⟨N, M, L, I, -⟩ := St; exact I.1.2.1
    rw [u_offeredMask_14, h21, if_pos (ltZ (z := 3) 3 rfl hw (by omega)), u1, Option.bind_some, N_succ]
    refine ⟨u, ?_, u2, u3.trans t1, u4.trans t2⟩
    unfold own_bit
    have := own_NCle (own_ok1 v w) (G K)
    by_cases q : 0 < own_NC (own_ok1 v w) (G K)
    · rw [if_pos q]
      show (if 0 < Int32.ofNat (own_NC (own_ok1 v w) (G K)) then _ else _) = _
      rw [if_pos (by rw [show (0 : Int32) = Int32.ofNat 0 from rfl]; exact ltN q (by omega))]
    · rw [if_neg q]
      show (if 0 < Int32.ofNat (own_NC (own_ok1 v w) (G K)) then _ else _) = _
      rw [if_neg (fun z => by rw [show (0 : Int32) = Int32.ofNat 0 from rfl, N_lt (by omega) (by omega)] at z; exact q z)]
  obtain ⟨m, rfl⟩ : ∃ m, n = m + 10 := ⟨n - 10, by omega⟩
  obtain ⟨s1, a1, a2, a3, a4⟩ := step (m + 9) 0 0 s (by omega) S rfl rfl
  obtain ⟨s2, b1, b2, b3, b4⟩ := step (m + 8) 1 (own_bit (own_NC (own_ok1 v 0) (G K)) 0 0) s1 (by omega) a2 a3 a4
  obtain ⟨s3, c1, c2, c3, c4⟩ := step (m + 7) 2 (own_bit (own_NC (own_ok1 v 1) (G K)) 1 (own_bit (own_NC (own_ok1 v 0) (G K)) 0 0)) s2 (by omega) b2 b3 b4
  have vv : f_validVar s (Int32.ofNat v) = some 1 := by
    obtain ⟨N', M', L', I', -⟩ := S
    unfold f_validVar; rw [if_neg (N_neg (by omega)), I'.1.1, if_pos (ltZ (z := 3) 3 rfl hv (by omega))]
  have h21 : s3.1 21 = 3 := by obtain ⟨N, M, L, I, -⟩ := c2; exact I.1.2.1
  unfold f_offeredMask
  rw [vv, Option.bind_some, if_neg (by decide), show (0 : Int32) = Int32.ofNat 0 from rfl]
  rw [show Int32.ofNat 0 = (0 : Int32) from rfl] at a1 ⊢
  refine ⟨s3, ?_, c2, c3, c4⟩
  refine a1.trans (b1.trans (c1.trans ?_))
  rw [u_offeredMask_14, h21, if_neg (by decide)]
  rfl
theorem own_beg {K u w : Nat} (hK : K ≤ 7) (hu : u < 3) (hw : w < 3) (hne : u ≠ w) {G : Nat → (Nat → Nat) → Bool} {s : St} (S : own_S K G s) (h24 : s.1 24 = 0) : ∃ t, f_beginTable (Int32.ofNat u) (Int32.ofNat w) (-1) s = some (0, t) ∧ own_S K G t ∧ t.1 24 = 1 ∧ t.1 25 = 2 ∧ t.1 26 = Int32.ofNat u ∧ t.1 27 = Int32.ofNat w ∧ t.1 29 = Int32.ofNat 0 ∧ t.2 = s.2 ∧ t.1 22 = s.1 22 := by
  have vv : ∀ v, v < 3 → f_validVar s (Int32.ofNat v) = some 1 := fun v hv => by
    obtain ⟨N', M', L', I', -⟩ := S
    unfold f_validVar; rw [if_neg (N_neg (by omega)), I'.1.1, if_pos (ltZ (z := 3) 3 rfl hv (by omega))]
  have e23 : s.1 23 = Int32.ofNat K := by obtain ⟨N', M', L', I', -, e, -⟩ := S; exact e
  have nm : ¬ Int32.ofNat w = -1 := fun z => N_neg (i := w) (by omega) (by rw [z]; decide)
  unfold f_beginTable
  rw [h24, if_pos rfl, e23, if_pos (ltZ (z := 8) 8 rfl (by omega) (by omega)), if_neg nm]
  unfold f_beginTable_35
  rw [if_neg nm, if_pos rfl]
  unfold f_beginTable_54
  rw [vv u hu, Option.bind_some, if_neg (by decide), if_neg (by decide), vv w hw, Option.bind_some, if_neg (by decide)]
  unfold f_beginTable_82
  rw [if_neg (by decide)]
  unfold f_beginTable_98
  rw [if_neg (by decide), if_neg (fun z => hne ((N_inj (by omega) (by omega)).mp z))]
  unfold f_beginTable_112
  rw [if_neg (by decide)]
  unfold f_beginTable_131
  simp only [bnd_eq]
  refine ⟨_, rfl, own_SE (fun j hj => ?_) (fun j hj => rfl) S, ?_, ?_, ?_, ?_, ?_, rfl, by simp [setI_1]⟩
  · rcases hj with rfl | rfl | rfl | rfl <;> simp [setI_1]
  · simp [setI_1]
  · simp [setI_1]
  · simp [setI_1]
  · simp [setI_1]
  · simp [setI_1]
/-- a table is being entered: arity 2, C tuples with these codes -/
def own_Pd (u w C : Nat) (mt : Nat → Nat) (s : St) : Prop := s.1 24 = 1 ∧ s.1 25 = 2 ∧ s.1 26 = Int32.ofNat u ∧ s.1 27 = Int32.ofNat w ∧ s.1 29 = Int32.ofNat C ∧ ∀ i, i < C → s.2 1 i = Int32.ofNat (mt i)
def own_in (p : Int32) : Bool := decide (¬ p < 0 ∧ p < 3)
theorem own_inE {p : Int32} (h : own_in p = true) : ∃ P, P < 3 ∧ p = Int32.ofNat P := by
  obtain ⟨h1, h2⟩ := of_decide_eq_true h
  rw [lt_I, show (0 : Int32).toInt = 0 from rfl] at h1
  rw [lt_I, show (3 : Int32).toInt = 3 from rfl] at h2
  obtain ⟨P, e, -, h⟩ := own_nat (x := p) (lo := 0) (hi := 2) (by omega) (by omega)
  exact ⟨P, by omega, e⟩
def own_b (x : Bool) : Int32 := if x = true then 1 else 0
theorem own_b0 (x : Bool) : (own_b x = 0) ↔ x = false := by cases x <;> decide
theorem own_va {K : Nat} {G : Nat → (Nat → Nat) → Bool} {s : St} (S : own_S K G s) (p : Int32) : f_validValue s p = some (own_b (own_in p)) := by
  obtain ⟨N, M, L, I, -⟩ := S
  unfold f_validValue own_b own_in
  rw [I.1.2.1]
  by_cases q : p < 0
  · rw [if_pos q, if_neg (fun z => (of_decide_eq_true z).1 q)]
  · rw [if_neg q]
    by_cases r : p < 3
    · rw [if_pos r, if_pos (decide_eq_true ⟨q, r⟩)]
    · rw [if_neg r, if_neg (fun z => r (of_decide_eq_true z).2)]
theorem own_hin (p : Int32) : f_hin p = some (own_b (own_in p)) := by
  unfold f_hin own_b own_in
  by_cases q : p < 0
  · rw [if_pos q, if_neg (fun z => (of_decide_eq_true z).1 q)]
  · rw [if_neg q]
    by_cases r : p < 3
    · rw [if_pos r, if_pos (decide_eq_true ⟨q, r⟩)]
    · rw [if_neg r, if_neg (fun z => r (of_decide_eq_true z).2)]
theorem own_bad {n K u w C : Nat} {mt : Nat → Nat} {G : Nat → (Nat → Nat) → Bool} {s : St} (S : own_S K G s) (D : own_Pd u w C mt s) (p q z : Int32) (h : (own_in p && own_in q) = false) : f_addTuple n p q z s = some (-2, s) := by
  unfold f_addTuple
  rw [D.1, if_neg (by decide), own_va S, Option.bind_some]
  cases e : own_in p with
  | false => rw [if_pos (show own_b false = 0 from rfl)]
  | true =>
    rw [if_neg (show ¬ own_b true = 0 by decide), D.2.1, if_neg (by decide), own_va S, Option.bind_some]
    rw [e, Bool.true_and] at h
    rw [h, if_pos (show own_b false = 0 from rfl)]
theorem own_tup98 {n C : Nat} (hC : C ≤ 15) {mt : Nat → Nat} {s : St} (h29 : s.1 29 = Int32.ofNat C) (h1 : ∀ i, i < C → s.2 1 i = Int32.ofNat (mt i) ∧ mt i < 64) {cd : Nat} (hcd : cd < 64) : ∀ (m i k : Nat), i + m = C → m < k →
    ((∃ e, i ≤ e ∧ e < C ∧ mt e = cd) → f_addTuple_98 n k (Int32.ofNat cd) (Int32.ofNat i) s = some (-5, s)) ∧ ((∀ e, i ≤ e → e < C → mt e ≠ cd) → f_addTuple_98 n k (Int32.ofNat cd) (Int32.ofNat i) s = f_addTuple_135 n (Int32.ofNat cd) s) := by
  intro m
  induction m with
  | zero =>
    intro i k hi hk
    obtain ⟨k, rfl⟩ : ∃ k', k = k' + 1 := ⟨k - 1, by omega⟩
    refine ⟨fun ⟨e, e1, e2, _⟩ => by omega, fun _ => ?_⟩
    rw [u_addTuple_98, h29, if_neg (by rw [show i = C by omega]; exact nltN (by omega))]
  | succ m ih =>
    intro i k hi hk
    obtain ⟨k, rfl⟩ : ∃ k', k = k' + 1 := ⟨k - 1, by omega⟩
    obtain ⟨g1, g2⟩ := h1 i (by omega)
    obtain ⟨i1, i2⟩ := ih (i + 1) k (by omega) (by omega)
    rw [u_addTuple_98, h29, if_pos (ltN (by omega) (by omega)), if_pos (ltZ (z := 16) 16 rfl (by omega) (by omega)), grd_pos (inbN (by omega) (by omega)), ix_N (by omega), g1, N_succ]
    by_cases q : mt i = cd
    · rw [if_pos (by rw [q])]
      exact ⟨fun _ => rfl, fun h => absurd q (h i (by omega) (by omega))⟩
    · rw [if_neg (fun z => q ((N_inj (by omega) (by omega)).mp z))]
      refine ⟨fun ⟨e, e1, e2, e3⟩ => i1 ⟨e, ?_, e2, e3⟩, fun h => i2 (fun e e1 e2 => h e (by omega) e2)⟩
      have : e ≠ i := fun z => q (z ▸ e3)
      omega
theorem own_tup {n K u w C P Q : Nat} (hn : 1500 ≤ n) (hC : C ≤ 2) {mt : Nat → Nat} (hm : ∀ i, i < C → mt i < 64) {G : Nat → (Nat → Nat) → Bool} {s : St} (S : own_S K G s) (D : own_Pd u w C mt s) (hP : P < 3) (hQ : Q < 3) (z : Int32) :
    ((∃ e, e < C ∧ mt e = 16 * P + 4 * Q) → f_addTuple n (Int32.ofNat P) (Int32.ofNat Q) z s = some (-5, s)) ∧
    ((∀ e, e < C → mt e ≠ 16 * P + 4 * Q) → ∃ t, f_addTuple n (Int32.ofNat P) (Int32.ofNat Q) z s = some (0, t) ∧ own_S K G t ∧ t.2 2 = s.2 2 ∧ own_Pd u w (C + 1) (fun i => if i = C then 16 * P + 4 * Q else mt i) t ∧ t.1 22 = s.1 22) := by
  have inN : ∀ X : Nat, X < 3 → own_in (Int32.ofNat X) = true := fun X h => decide_eq_true ⟨N_neg (by omega), ltZ (z := 3) 3 rfl h (by omega)⟩
  obtain ⟨d1, d2, d3, d4, d5, d6⟩ := D
  have e : f_addTuple n (Int32.ofNat P) (Int32.ofNat Q) z s = f_addTuple_98 n n (Int32.ofNat (16 * P + 4 * Q)) (Int32.ofNat 0) s := by
    unfold f_addTuple
    rw [d1, if_neg (by decide), own_va S, Option.bind_some, inN P hP, if_neg (by decide), d2, if_neg (by decide), own_va S, Option.bind_some, inN Q hQ, if_neg (by decide)]
    unfold f_addTuple_40
    rw [d2, if_neg (by decide)]
    unfold f_addTuple_59
    rw [d2, if_neg (by decide), bnd_eq, show (16 : Int32) = Int32.ofNat 16 from rfl, show (4 : Int32) = Int32.ofNat 4 from rfl, N_mul, N_mul, N_add]
    unfold f_addTuple_81
    rw [d2, if_neg (by decide), Nat.mul_comm, Nat.mul_comm Q]
    rfl
  rw [e]
  obtain ⟨t1, t2⟩ := own_tup98 (n := n) (C := C) (by omega) d5 (fun i hi => ⟨d6 i hi, hm i hi⟩) (cd := 16 * P + 4 * Q) (by omega) C 0 n (by omega) (by omega)
  refine ⟨fun ⟨e, e1, e2⟩ => t1 ⟨e, by omega, e1, e2⟩, fun h => ?_⟩
  rw [t2 (fun e _ e2 => h e e2)]
  unfold f_addTuple_135
  rw [d5, if_pos (ltZ (z := 16) 16 rfl (by omega) (by omega)), grd_pos (inbN (by omega) (by omega)), bnd_eq, ix_N (by omega), bnd_eq]
  rw [show (setA s 1 C (Int32.ofNat (16 * P + 4 * Q))).1 29 = Int32.ofNat C from d5, N_succ]
  refine ⟨_, rfl, own_SE (fun j hj => by rw [setI_1, if_neg (by omega)]; rfl) (fun j hj => by rw [setI_2]; funext x; rw [setA_2, if_neg (fun z => by omega)]) S, by rw [setI_2]; funext x; rw [setA_2, if_neg (fun z => by omega)], ⟨?_, ?_, ?_, ?_, ?_, fun i hi => ?_⟩, by rw [setI_1, if_neg (by decide)]; rfl⟩
  · rw [setI_1, if_neg (by decide)]; exact d1
  · rw [setI_1, if_neg (by decide)]; exact d2
  · rw [setI_1, if_neg (by decide)]; exact d3
  · rw [setI_1, if_neg (by decide)]; exact d4
  · rw [setI_1, if_pos (by trivial)]
  · rw [setI_2, setA_2]
    by_cases q : i = C
    · rw [if_pos ⟨by trivial, q⟩]; show _ = Int32.ofNat (if i = C then _ else _); rw [if_pos q]
    · rw [if_neg (fun z => q z.2)]; show _ = Int32.ofNat (if i = C then _ else _); rw [if_neg q]; exact d6 i (by omega)
theorem own_ctor0 {n : Nat} (hn : 4100 ≤ n) : ∃ s, f_ctor n 3 3 = some s ∧ own_S 0 (fun _ _ => true) s ∧ s.1 22 = Int32.ofNat 2 ∧ s.1 24 = 0 ∧ ∀ i, i < 5 → s.2 2 i = -1 := by
  have c1 : ∀ s : St, f_clearUnique n s = some (s.1, fun k x => if k = 7 ∧ x < 4096 then 0 else s.2 k x) := fun s => by
    have q := loopN (F := f_clearUnique_2 n) (N := 4096) (f := fun i s => setA s 7 i 0) (fin := fun s => some s)
      (fun k i s hi => by rw [u_clearUnique_2, if_pos (ltZ (z := 4096) 4096 rfl hi (by omega)), grd_pos (inbN (n := 4096) hi (by omega)), bnd_eq, ix_N (by omega)])
      (fun k s => by rw [u_clearUnique_2, if_neg (by decide)]) 4096 0 n s (by omega) (by omega)
    rw [itr_fill] at q
    exact q
  have c2 : ∀ s : St, f_ctor_266 n n 0 s = some (s.1, fun k x => if k = 2 ∧ x < 5 then -1 else s.2 k x) := fun s => by
    have q := loopN (F := f_ctor_266 n) (N := 5) (f := fun i s => setA s 2 i (-1)) (fin := fun s => some s)
      (fun k i s hi => by rw [u_ctor_266, if_pos (ltZ (z := 5) 5 rfl hi (by omega)), grd_pos (inbN (n := 5) hi (by omega)), bnd_eq, ix_N (by omega)])
      (fun k s => by rw [u_ctor_266, if_neg (by decide)]) 5 0 n s (by omega) (by omega)
    rw [itr_fill] at q
    exact q
  unfold f_ctor f_ctor_172 f_ctor_192
  rw [if_neg (by decide), if_neg (by decide), bnd_eq, if_neg (by decide), if_neg (by decide)]
  unfold f_ctor_215
  simp only [bnd_eq]
  rw [c1]
  simp only [Option.bind_some, c2]
  refine ⟨_, rfl, ⟨2, fun i _ => decide (i = 1), fun _ => 3, ⟨⟨?_, ?_, ?_, by omega, by omega⟩, fun i hi => ⟨?_, Nat.le_refl 3⟩, ⟨rfl, rfl, fun _ => rfl, fun _ => rfl⟩, fun i h1 h2 => by omega, ⟨[], by simp, fun h hh _ => ?_⟩, fun h hh => Or.inl ?_, fun i _ x y _ => rfl⟩, by omega, ?_, fun k hk => ⟨1, ?_, by omega, fun x _ => rfl⟩⟩, ?_, ?_, fun i hi => ?_⟩
  · simp [setI_1, setA_1]
  · simp [setI_1, setA_1]
  · simp [setI_1, setA_1]
  · have : i = 0 ∨ i = 1 := by omega
    rcases this with rfl | rfl <;> simp [setI_1, setI_2, setA_1, setA_2, show ix (0 : Int32) = 0 from rfl, show ix (1 : Int32) = 1 from rfl]
  · simp [setI_2, setA_2, hh]
  · simp [setI_2, setA_2, hh]
  · simp [setI_1, setA_1]
  · have : k = 0 := by omega
    subst this
    simp [setI_2, setA_2, show ix (0 : Int32) = 0 from rfl]
  · simp [setI_1, setA_1]
  · simp [setI_1, setA_1]
  · simp [hi]

/-! ### the numbers of the law -/
def own_mA (a0 a1 : Bool) (P Q R S h : Nat) : Bool := (a0 && decide (h = 16 * P + 4 * Q)) || (a1 && decide (h = 16 * R + 4 * S))
def own_mB (b : Bool) (T U h : Nat) : Bool := b && decide (h = 16 * T + 4 * U)
def own_s3 (o : Nat → Bool) (F : Nat → Nat) : Nat := (if o 0 = true then F 0 else 0) + (if o 1 = true then F 1 else 0) + (if o 2 = true then F 2 else 0)
def own_N3 (ok : Nat → Nat → Bool) (h : Nat → Nat → Nat → Bool) : Nat := own_s3 (ok 0) fun a => own_s3 (ok 1) fun b => own_s3 (ok 2) fun c => if h a b c = true then 1 else 0
theorem own_N3E (ok : Nat → Nat → Bool) (h : Nat → Nat → Nat → Bool) : own_NC ok (fun x => h (x 0) (x 1) (x 2)) = own_N3 ok h := rfl
def own_m3 (v : Nat) (h : Nat → Nat → Nat → Bool) : Int32 := own_bit (own_N3 (own_ok1 v 2) h) 2 (own_bit (own_N3 (own_ok1 v 1) h) 1 (own_bit (own_N3 (own_ok1 v 0) h) 0 0))
def own_hA (a0 a1 : Bool) (P Q R S : Nat) : Nat → Nat → Nat → Bool := fun a b _ => own_mA a0 a1 P Q R S (16 * a + 4 * b)
def own_hB (a0 a1 b' : Bool) (P Q R S T U : Nat) : Nat → Nat → Nat → Bool := fun a b c => own_mA a0 a1 P Q R S (16 * a + 4 * b) && own_mB b' T U (16 * b + 4 * c)
def own_a1 (a0 a1v : Bool) (P Q R S : Nat) : Bool := a1v && !(a0 && a1v && decide (R = P) && decide (S = Q))
def own_tst (a0 a1v b : Bool) (P Q R S T U : Nat) : Bool :=
  bnd (own_a1 a0 a1v P Q R S) fun a1 =>
  bnd (a0 && b && decide (Q = T)) fun k0 =>
  bnd (a1 && b && decide (S = T)) fun k1 =>
  decide (Int32.ofNat (own_N3 own_ok0 (own_hB a0 a1 b P Q R S T U)) = own_b k0 + own_b k1) &&
  (decide (own_m3 0 (own_hB a0 a1 b P Q R S T U) = (if k0 = true then (1 : Int32) <<< (Int32.ofNat P &&& 31) else 0) ||| (if k1 = true then (1 : Int32) <<< (Int32.ofNat R &&& 31) else 0)) &&
  (decide (own_m3 1 (own_hB a0 a1 b P Q R S T U) = if 0 < own_b k0 + own_b k1 then (1 : Int32) <<< (Int32.ofNat T &&& 31) else 0) &&
  (decide (own_m3 2 (own_hB a0 a1 b P Q R S T U) = if 0 < own_b k0 + own_b k1 then (1 : Int32) <<< (Int32.ofNat U &&& 31) else 0) &&
  (decide (Int32.ofNat (own_N3 (own_ok1 2 U) (own_hB a0 a1 b P Q R S T U)) = own_b k0 + own_b k1) &&
  (decide (Int32.ofNat (own_N3 own_ok0 (own_hA a0 a1 P Q R S)) = (own_b a0 + own_b a1) * 3) &&
  decide (Int32.ofNat (own_N3 (own_ok1 2 U) (own_hA a0 a1 P Q R S)) = (own_b a0 + own_b a1) * 1))))))
theorem own_T1 : ∀ P Q R S T U : Fin 3, own_tst true true true P.val Q.val R.val S.val T.val U.val = true := by decide +kernel
theorem own_T2 : ∀ P Q T U : Fin 3, own_tst true false true P.val Q.val 0 0 T.val U.val = true := by decide +kernel
theorem own_T3 : ∀ R S T U : Fin 3, own_tst false true true 0 0 R.val S.val T.val U.val = true := by decide +kernel
theorem own_T4 : ∀ T U : Fin 3, own_tst false false true 0 0 0 0 T.val U.val = true := by decide +kernel
theorem own_T5 : ∀ P Q R S U : Fin 3, own_tst true true false P.val Q.val R.val S.val 0 U.val = true := by decide +kernel
theorem own_T6 : ∀ P Q U : Fin 3, own_tst true false false P.val Q.val 0 0 0 U.val = true := by decide +kernel
theorem own_T7 : ∀ R S U : Fin 3, own_tst false true false 0 0 R.val S.val 0 U.val = true := by decide +kernel
theorem own_T8 : ∀ U : Fin 3, own_tst false false false 0 0 0 0 0 U.val = true := by decide +kernel
theorem own_Tall {a0 a1v b : Bool} {P Q R S T U : Nat} (hP : P < 3) (hQ : Q < 3) (hR : R < 3) (hS : S < 3) (hT : T < 3) (hU : U < 3) (h0 : a0 = false → P = 0 ∧ Q = 0) (h1 : a1v = false → R = 0 ∧ S = 0) (h2 : b = false → T = 0) : own_tst a0 a1v b P Q R S T U = true := by
  cases a0 with
  | true =>
    cases a1v with
    | true =>
      cases b with
      | true => exact own_T1 ⟨P, hP⟩ ⟨Q, hQ⟩ ⟨R, hR⟩ ⟨S, hS⟩ ⟨T, hT⟩ ⟨U, hU⟩
      | false => rw [h2 rfl]; exact own_T5 ⟨P, hP⟩ ⟨Q, hQ⟩ ⟨R, hR⟩ ⟨S, hS⟩ ⟨U, hU⟩
    | false =>
      rw [(h1 rfl).1, (h1 rfl).2]
      cases b with
      | true => exact own_T2 ⟨P, hP⟩ ⟨Q, hQ⟩ ⟨T, hT⟩ ⟨U, hU⟩
      | false => rw [h2 rfl]; exact own_T6 ⟨P, hP⟩ ⟨Q, hQ⟩ ⟨U, hU⟩
  | false =>
    rw [(h0 rfl).1, (h0 rfl).2]
    cases a1v with
    | true =>
      cases b with
      | true => exact own_T3 ⟨R, hR⟩ ⟨S, hS⟩ ⟨T, hT⟩ ⟨U, hU⟩
      | false => rw [h2 rfl]; exact own_T7 ⟨R, hR⟩ ⟨S, hS⟩ ⟨U, hU⟩
    | false =>
      rw [(h1 rfl).1, (h1 rfl).2]
      cases b with
      | true => exact own_T4 ⟨T, hT⟩ ⟨U, hU⟩
      | false => rw [h2 rfl]; exact own_T8 ⟨U, hU⟩

/-! ### the law -/
theorem own_chain (n : Nat) (p q r s t u : Int32) (S : St) : ∃ a0 a1v dup a1 b k0 k1 : Bool, a0 = (own_in p && own_in q) ∧ a1v = (own_in r && own_in s) ∧ dup = (a0 && a1v && decide (r = p) && decide (s = q)) ∧ a1 = (a1v && !dup) ∧ b = (own_in t && own_in u) ∧ k0 = (a0 && b && decide (q = t)) ∧ k1 = (a1 && b && decide (s = t)) ∧
    f_law_9 n p q r s t u S = f_law_186 n p q r s t u (own_b a0) (own_b a1v) (own_b dup) (own_b a1) (own_b b) (own_b k0) (own_b k1) (own_b k1) (own_b k0) S := by
  refine ⟨_, _, _, _, _, _, _, rfl, rfl, rfl, rfl, rfl, rfl, rfl, ?_⟩
  have i0 : ∀ {α : Type} (A B : α), (if own_b false = 0 then A else B) = A := fun A B => if_pos rfl
  have i1 : ∀ {α : Type} (A B : α), (if own_b true = 0 then A else B) = B := fun A B => if_neg (by decide)
  have b0 : own_b false = 0 := rfl
  have b1 : own_b true = 1 := rfl
  have e9 : f_law_9 n p q r s t u S = f_law_30 n p q r s t u (own_b (own_in p && own_in q)) S := by
    unfold f_law_9
    rw [own_hin, Option.bind_some]
    cases own_in p with
    | false => rw [i0]; rfl
    | true =>
      rw [i1, own_hin, Option.bind_some]
      cases own_in q with
      | false => rw [i0]; rfl
      | true => rw [i1]; rfl
  rw [e9]
  generalize (own_in p && own_in q) = a0
  have e30 : f_law_30 n p q r s t u (own_b a0) S = f_law_51 n p q r s t u (own_b a0) (own_b (own_in r && own_in s)) S := by
    unfold f_law_30
    rw [own_hin, Option.bind_some]
    cases own_in r with
    | false => rw [i0]; rfl
    | true =>
      rw [i1, own_hin, Option.bind_some]
      cases own_in s with
      | false => rw [i0]; rfl
      | true => rw [i1]; rfl
  rw [e30]
  generalize (own_in r && own_in s) = a1v
  have e51 : f_law_51 n p q r s t u (own_b a0) (own_b a1v) S = f_law_78 n p q r s t u (own_b a0) (own_b a1v) (own_b (a0 && a1v && decide (r = p) && decide (s = q))) S := by
    unfold f_law_51
    cases a0 with
    | false => rw [i0]; rfl
    | true =>
      rw [i1]
      cases a1v with
      | false => rw [i0]; rfl
      | true =>
        rw [i1]
        by_cases h1 : r = p
        · rw [if_pos h1, decide_eq_true h1]
          by_cases h2 : s = q
          · rw [if_pos h2, decide_eq_true h2]; rfl
          · rw [if_neg h2, decide_eq_false h2]; rfl
        · rw [if_neg h1, decide_eq_false h1]; rfl
  rw [e51]
  generalize (a0 && a1v && decide (r = p) && decide (s = q)) = dup
  have e78 : f_law_78 n p q r s t u (own_b a0) (own_b a1v) (own_b dup) S = f_law_95 n p q r s t u (own_b a0) (own_b a1v) (own_b dup) (own_b (a1v && !dup)) S := by
    unfold f_law_78
    cases a1v with
    | false => rw [i0]; rfl
    | true =>
      rw [i1]
      cases dup with
      | false => rw [i0]; rfl
      | true => rw [i1]; rfl
  rw [e78]
  generalize (a1v && !dup) = a1
  have e95 : f_law_95 n p q r s t u (own_b a0) (own_b a1v) (own_b dup) (own_b a1) S = f_law_118 n p q r s t u (own_b a0) (own_b a1v) (own_b dup) (own_b a1) (own_b (own_in t && own_in u)) S := by
    unfold f_law_95
    rw [own_hin, Option.bind_some]
    cases own_in t with
    | false => rw [i0]; rfl
    | true =>
      rw [i1, own_hin, Option.bind_some]
      cases own_in u with
      | false => rw [i0]; rfl
      | true => rw [i1]; rfl
  rw [e95]
  generalize (own_in t && own_in u) = b
  have e118 : f_law_118 n p q r s t u (own_b a0) (own_b a1v) (own_b dup) (own_b a1) (own_b b) S = f_law_141 n p q r s t u (own_b a0) (own_b a1v) (own_b dup) (own_b a1) (own_b b) (own_b (a0 && b && decide (q = t))) S := by
    unfold f_law_118
    cases a0 with
    | false => rw [i0]; rfl
    | true =>
      rw [i1]
      cases b with
      | false => rw [i0]; rfl
      | true =>
        rw [i1]
        by_cases h1 : q = t
        · rw [if_pos h1, decide_eq_true h1]; rfl
        · rw [if_neg h1, decide_eq_false h1]; rfl
  rw [e118]
  generalize (a0 && b && decide (q = t)) = k0
  have e141 : f_law_141 n p q r s t u (own_b a0) (own_b a1v) (own_b dup) (own_b a1) (own_b b) (own_b k0) S = f_law_164 n p q r s t u (own_b a0) (own_b a1v) (own_b dup) (own_b a1) (own_b b) (own_b k0) (own_b (a1 && b && decide (s = t))) S := by
    unfold f_law_141
    cases a1 with
    | false => rw [i0]; rfl
    | true =>
      rw [i1]
      cases b with
      | false => rw [i0]; rfl
      | true =>
        rw [i1]
        by_cases h1 : s = t
        · rw [if_pos h1, decide_eq_true h1]; rfl
        · rw [if_neg h1, decide_eq_false h1]; rfl
  rw [e141]
  generalize (a1 && b && decide (s = t)) = k1
  have e164 : f_law_164 n p q r s t u (own_b a0) (own_b a1v) (own_b dup) (own_b a1) (own_b b) (own_b k0) (own_b k1) S = f_law_176 n p q r s t u (own_b a0) (own_b a1v) (own_b dup) (own_b a1) (own_b b) (own_b k0) (own_b k1) (own_b k0) S := by
    unfold f_law_164
    cases k0 with
    | false => rw [i0]; rfl
    | true => rw [i1]; rfl
  rw [e164]
  unfold f_law_176
  cases k1 with
  | false => rw [i0]; rfl
  | true => rw [i1]; rfl
theorem own_chain2 (n : Nat) (p q r s t u : Int32) (a0 a1v dup a1 b k0 k1 : Bool) (S : St) (eCh : Int32) (he : eCh = if own_in u = true then (if 0 < own_b k0 + own_b k1 then 0 else -7) else -2) :
    f_law_186 n p q r s t u (own_b a0) (own_b a1v) (own_b dup) (own_b a1) (own_b b) (own_b k0) (own_b k1) (own_b k1) (own_b k0) S =
      f_law_356 n p q r s t u (own_b k0 + own_b k1) ((if k0 = true then (1 : Int32) <<< (p &&& 31) else 0) ||| (if k1 = true then (1 : Int32) <<< (r &&& 31) else 0)) (if 0 < own_b k0 + own_b k1 then (1 : Int32) <<< (t &&& 31) else 0) (if 0 < own_b k0 + own_b k1 then (1 : Int32) <<< (u &&& 31) else 0)
        (if a0 = true then 0 else -2) (if a1v = true then (if dup = true then -5 else 0) else -2) (if b = true then 0 else -2) eCh (if eCh = 0 then 1 else 3) (own_b a0 + own_b a1) S := by
  have i0 : ∀ {α : Type} (A B : α), (if own_b false = 0 then A else B) = A := fun A B => if_pos rfl
  have i1 : ∀ {α : Type} (A B : α), (if own_b true = 0 then A else B) = B := fun A B => if_neg (by decide)
  have j0 : ∀ {α : Type} (A B : α), (if false = true then A else B) = B := fun A B => if_neg (by decide)
  have j1 : ∀ {α : Type} (A B : α), (if true = true then A else B) = A := fun A B => if_pos rfl
  have ii : ∀ {α : Type} (x : Bool) (A B : α), (if own_b x = 0 then A else B) = if x = true then B else A := fun x A B => by cases x <;> rfl
  have di : ∀ {α β : Type} (c : Prop) [Decidable c] (f : α → β) (A B : α), (if c then f A else f B) = f (if c then A else B) := fun c _ f A B => by by_cases h : c <;> simp [h]
  unfold f_law_186
  rw [ii, di (k0 = true) (fun z => f_law_201 n p q r s t u (own_b a0) (own_b a1v) (own_b dup) (own_b a1) (own_b b) (own_b k1) (own_b k0 + own_b k1) z S)]
  unfold f_law_201
  rw [ii, di (k1 = true) (fun z => f_law_213 n p q r s t u (own_b a0) (own_b a1v) (own_b dup) (own_b a1) (own_b b) (own_b k0 + own_b k1) z (if k0 = true then (1 : Int32) <<< (p &&& 31) else 0) S)]
  unfold f_law_213
  generalize ((if k0 = true then (1 : Int32) <<< (p &&& 31) else 0) ||| (if k1 = true then (1 : Int32) <<< (r &&& 31) else 0)) = m0
  generalize hc : own_b k0 + own_b k1 = c at he ⊢
  rw [di (0 < c) (fun z => f_law_229 n p q r s t u (own_b a0) (own_b a1v) (own_b dup) (own_b a1) (own_b b) c m0 z S)]
  unfold f_law_229
  generalize (if 0 < c then (1 : Int32) <<< (t &&& 31) else 0) = m1
  rw [di (0 < c) (fun z => f_law_244 n p q r s t u (own_b a0) (own_b a1v) (own_b dup) (own_b a1) (own_b b) c m0 m1 z S)]
  unfold f_law_244
  generalize (if 0 < c then (1 : Int32) <<< (u &&& 31) else 0) = m2
  have b1 : ∀ x : Bool, (if x = true then (1 : Int32) else 0) = own_b x := fun x => rfl
  rw [ii, di (a0 = true) (fun z => f_law_256 n p q r s t u (own_b a0) (own_b a1v) (own_b dup) (own_b a1) (own_b b) c m0 m1 m2 z S), b1]
  unfold f_law_256
  rw [ii, di (a1 = true) (fun z => f_law_266 n p q r s t u (own_b a0) (own_b a1v) (own_b dup) (own_b b) c m0 m1 m2 z (own_b a0) S), b1]
  unfold f_law_266
  rw [ii, di (a0 = true) (fun z => f_law_280 n p q r s t u (own_b a1v) (own_b dup) (own_b b) c m0 m1 m2 (own_b a0 + own_b a1) z S)]
  unfold f_law_280
  generalize (if a0 = true then (0 : Int32) else -2) = eA0
  rw [ii, ii, di (dup = true) (fun z => f_law_303 n p q r s t u (own_b b) c m0 m1 m2 (own_b a0 + own_b a1) eA0 z S), di (a1v = true) (fun z => f_law_303 n p q r s t u (own_b b) c m0 m1 m2 (own_b a0 + own_b a1) eA0 z S)]
  unfold f_law_303
  generalize (if a1v = true then (if dup = true then (-5 : Int32) else 0) else -2) = eA1
  rw [ii, di (b = true) (fun z => f_law_316 n p q r s t u c m0 m1 m2 (own_b a0 + own_b a1) eA0 eA1 z S)]
  unfold f_law_316
  generalize (if b = true then (0 : Int32) else -2) = eB
  rw [own_hin, Option.bind_some, ii, di (0 < c) (fun z => f_law_342 n p q r s t u c m0 m1 m2 (own_b a0 + own_b a1) eA0 eA1 eB z S), di (own_in u = true) (fun z => f_law_342 n p q r s t u c m0 m1 m2 (own_b a0 + own_b a1) eA0 eA1 eB z S), ← he]
  unfold f_law_342
  rw [di (eCh = 0) (fun z => f_law_356 n p q r s t u c m0 m1 m2 eA0 eA1 eB eCh z (own_b a0 + own_b a1) S)]

theorem own_pk (x : Int32) (fl : Bool) (h : fl = true → own_in x = true) : ∃ X, X < 3 ∧ (fl = true → x = Int32.ofNat X) ∧ (fl = false → X = 0) := by
  cases fl with
  | true =>
    obtain ⟨X, h1, h2⟩ := own_inE (h rfl)
    exact ⟨X, h1, fun _ => h2, fun z => by cases z⟩
  | false => exact ⟨0, by omega, fun z => (by cases z), fun _ => rfl⟩
theorem own_tst_and {x y : Bool} (h : (x && y) = true) : x = true ∧ y = true := by cases x <;> cases y <;> simp at h ⊢
theorem own_drop {G : Nat → (Nat → Nat) → Bool} {s : St} (S : own_S 2 G s) : f_dropLastTable s = some (0, setI s 23 1) ∧ own_S 1 G (setI s 23 1) := by
  obtain ⟨N, M, L, I, hN, e, R⟩ := S
  unfold f_dropLastTable
  rw [e, if_pos (by decide), bnd_eq]
  exact ⟨rfl, N, M, L, own_NF (by rw [setI_1, if_neg (by decide)]) (by rw [setI_1, if_neg (by decide)]) (by rw [setI_1, if_neg (by decide)]) rfl rfl rfl I, hN, by rw [setI_1, if_pos (by trivial)]; rfl, fun k hk => R k (by omega)⟩
theorem own_chooseB {n : Nat} {G : Nat → (Nat → Nat) → Bool} {s : St} (S : own_S 2 G s) {u : Int32} (h : own_in u = false) : f_choose n 2 u s = some (-2, s) := by
  have vv : f_validVar s 2 = some 1 := by
    obtain ⟨N', M', L', I', -⟩ := S
    unfold f_validVar; rw [if_neg (by decide), I'.1.1, if_pos (by decide)]
  unfold f_choose
  rw [vv, Option.bind_some, if_neg (by decide), own_va S, Option.bind_some, h, if_pos (show own_b false = 0 from rfl)]
theorem own_chooseG {n U : Nat} (hn : 1500 ≤ n) (hU : U < 3) {G : Nat → (Nat → Nat) → Bool} {s : St} (S : own_S 2 G s) (hf : ∀ l, l < 3 → s.2 2 l = -1) :
    ∃ t, own_S 2 G t ∧ t.1 = s.1 ∧ f_choose n 2 (Int32.ofNat U) s = some (if own_NC (own_ok1 2 U) (G 2) = 0 then -7 else 0, t) ∧ (∀ l, l < 3 → t.2 2 l = if own_NC (own_ok1 2 U) (G 2) = 0 then -1 else if l = 2 then Int32.ofNat U else -1) := by
  have vv : f_validVar s 2 = some 1 := by
    obtain ⟨N', M', L', I', -⟩ := S
    unfold f_validVar; rw [if_neg (by decide), I'.1.1, if_pos (by decide)]
  have inU : own_in (Int32.ofNat U) = true := decide_eq_true ⟨N_neg (by omega), ltZ (z := 3) 3 rfl hU (by omega)⟩
  obtain ⟨t, t1, t2, t3, t4⟩ := own_cw hn (by omega) (v := 2) (w := U) (by omega) hU S (ok := own_ok1 2 U) (own_okF1 hU (fun l hl hl' => by rw [if_neg hl']; exact hf l hl) (by rw [if_pos rfl]))
  have le := own_NCle (own_ok1 2 U) (G 2)
  have e : f_choose n 2 (Int32.ofNat U) s = if Int32.ofNat (own_NC (own_ok1 2 U) (G 2)) = 0 then some (-7, t) else some (0, setA t 2 2 (Int32.ofNat U)) := by
    unfold f_choose
    rw [vv, Option.bind_some, if_neg (by decide), own_va S, Option.bind_some, inU, if_neg (by decide), grd_pos (by decide), show ix (2 : Int32) = 2 from rfl, hf 2 (by omega), if_pos (by decide)]
    rw [show f_countWith n 2 (Int32.ofNat U) s = some (Int32.ofNat (own_NC (own_ok1 2 U) (G 2)), t) from t1, Option.bind_some]
    rfl
  rw [e]
  by_cases q : own_NC (own_ok1 2 U) (G 2) = 0
  · rw [if_pos (by rw [q]; rfl), if_pos q]
    exact ⟨t, t2, t3, rfl, fun l hl => by rw [if_pos q, t4]; exact hf l hl⟩
  · rw [if_neg (fun z => q (by rw [show (0 : Int32) = Int32.ofNat 0 from rfl, N_inj (by omega) (by omega)] at z; exact z)), if_neg q]
    refine ⟨setA t 2 2 (Int32.ofNat U), own_SE (fun j _ => rfl) (fun j hj => by funext x; rw [setA_2, if_neg (fun z => by omega)]) t2, t3, rfl, fun l hl => ?_⟩
    rw [if_neg q, setA_2]
    by_cases w : l = 2
    · rw [if_pos ⟨by trivial, w⟩, if_pos w]
    · rw [if_neg (fun z => w z.2), if_neg w, t4]; exact hf l hl
theorem own_law9 {n : Nat} (hn : 4200 ≤ n) (p q r s t u : Int32) {S0 : St} (S : own_S 0 (fun _ _ => true) S0) (h22 : S0.1 22 = Int32.ofNat 2) (h24 : S0.1 24 = 0) (hf : ∀ l, l < 5 → S0.2 2 l = -1) : ∃ w, f_law_9 n p q r s t u S0 = some (1, w) := by
  obtain ⟨a0, a1v, dup, a1, b, k0, k1, ea0, ea1v, edup, ea1, eb, ek0, ek1, ec⟩ := own_chain n p q r s t u S0
  rw [ec]
  clear ec
  obtain ⟨P, hP, eP, zP⟩ := own_pk p a0 (fun h => by rw [ea0] at h; exact (own_tst_and h).1)
  obtain ⟨Q, hQ, eQ, zQ⟩ := own_pk q a0 (fun h => by rw [ea0] at h; exact (own_tst_and h).2)
  obtain ⟨R, hR, eR, zR⟩ := own_pk r a1v (fun h => by rw [ea1v] at h; exact (own_tst_and h).1)
  obtain ⟨V, hV, eV, zV⟩ := own_pk s a1v (fun h => by rw [ea1v] at h; exact (own_tst_and h).2)
  obtain ⟨T, hT, eT, zT⟩ := own_pk t b (fun h => by rw [eb] at h; exact (own_tst_and h).1)
  obtain ⟨U, hU, eU, zU⟩ := own_pk u (own_in u) (fun h => h)
  have bu : b = true → own_in u = true := fun h => by rw [eb] at h; exact (own_tst_and h).2
  have dc : ∀ {X Y : Nat}, X < 3 → Y < 3 → decide (Int32.ofNat X = Int32.ofNat Y) = decide (X = Y) := fun hX hY => by
    rw [decide_eq_decide]; exact N_inj (by omega) (by omega)
  have ddup : dup = (a0 && a1v && decide (R = P) && decide (V = Q)) := by
    rw [edup]
    cases h0 : a0 with
    | false => rfl
    | true =>
      cases h1 : a1v with
      | false => rfl
      | true => rw [eP h0, eQ h0, eR h1, eV h1, dc hR hP, dc hV hQ]
  have da1 : a1 = own_a1 a0 a1v P Q R V := by rw [ea1, ddup]; rfl
  have a1le : a1 = true → a1v = true := fun h => by rw [ea1] at h; exact (own_tst_and h).1
  have dk0 : k0 = (a0 && b && decide (Q = T)) := by
    rw [ek0]
    cases h0 : a0 with
    | false => rfl
    | true =>
      cases h1 : b with
      | false => rfl
      | true => rw [eQ h0, eT h1, dc hQ hT]
  have dk1 : k1 = (a1 && b && decide (V = T)) := by
    rw [ek1]
    cases h0 : a1 with
    | false => rfl
    | true =>
      cases h1 : b with
      | false => rfl
      | true => rw [eV (a1le h0), eT h1, dc hV hT]
  have tst := own_Tall (a0 := a0) (a1v := a1v) (b := b) hP hQ hR hV hT hU (fun h => ⟨zP h, zQ h⟩) (fun h => ⟨zR h, zV h⟩) zT
  unfold own_tst at tst
  simp only [bnd_eq] at tst
  rw [← da1, ← dk0, ← dk1] at tst
  obtain ⟨t1, tst⟩ := own_tst_and tst
  obtain ⟨t2, tst⟩ := own_tst_and tst
  obtain ⟨t3, tst⟩ := own_tst_and tst
  obtain ⟨t4, tst⟩ := own_tst_and tst
  obtain ⟨t5, tst⟩ := own_tst_and tst
  obtain ⟨t6, t7⟩ := own_tst_and tst
  have t1 := of_decide_eq_true t1
  have t2 := of_decide_eq_true t2
  have t3 := of_decide_eq_true t3
  have t4 := of_decide_eq_true t4
  have t5 := of_decide_eq_true t5
  have t6 := of_decide_eq_true t6
  have t7 := of_decide_eq_true t7
  -- the first table
  obtain ⟨s1, b1, b2, b3, b4, b5, b6, b7, b8, b9⟩ := own_beg (K := 0) (u := 0) (w := 1) (by omega) (by omega) (by omega) (by omega) S h24
  have Pd1 : own_Pd 0 1 0 (fun _ => 0) s1 := ⟨b3, b4, b5, b6, b7, fun i hi => by omega⟩
  have A : ∃ C mt s2, C ≤ 1 ∧ f_addTuple n p q u s1 = some (if a0 = true then 0 else -2, s2) ∧ own_S 0 (fun _ _ => true) s2 ∧ s2.2 2 = s1.2 2 ∧ own_Pd 0 1 C mt s2 ∧ s2.1 22 = s1.1 22 ∧ (∀ i, i < C → mt i < 64) ∧ ∀ h, (∃ e, e < C ∧ mt e = h) ↔ (a0 = true ∧ h = 16 * P + 4 * Q) := by
    cases h0 : a0 with
    | false =>
      refine ⟨0, fun _ => 0, s1, by omega, ?_, b2, rfl, Pd1, rfl, fun i hi => by omega, fun h => ⟨fun ⟨e, e1, _⟩ => by omega, fun z => by cases z.1⟩⟩
      rw [own_bad b2 Pd1 p q u (by rw [← ea0]; exact h0), if_neg (by decide)]
    | true =>
      obtain ⟨s2, c1, c2, c3, c4, c5⟩ := (own_tup (n := n) (by omega) (by omega) (fun i hi => by omega) b2 Pd1 hP hQ u).2 (fun e he => by omega)
      refine ⟨1, _, s2, by omega, ?_, c2, c3, c4, c5, fun i hi => ?_, fun h => ?_⟩
      · rw [eP h0, eQ h0, c1, if_pos rfl]
      · show (if i = 0 then 16 * P + 4 * Q else 0) < 64
        rw [if_pos (by omega)]; omega
      · refine ⟨fun ⟨e, e1, e2⟩ => ⟨rfl, ?_⟩, fun z => ⟨0, by omega, ?_⟩⟩
        · have e2 : (if e = 0 then 16 * P + 4 * Q else 0) = h := e2
          rw [if_pos (by omega)] at e2; exact e2.symm
        · show (if 0 = 0 then 16 * P + 4 * Q else 0) = h
          rw [if_pos rfl]; exact z.2.symm
  obtain ⟨C2, mt2, s2, c1, c2, c3, c4, c5, c6, c7, c8⟩ := A
  have A' : ∃ C mt s3, C ≤ 2 ∧ f_addTuple n r s t s2 = some (if a1v = true then (if dup = true then -5 else 0) else -2, s3) ∧ own_S 0 (fun _ _ => true) s3 ∧ s3.2 2 = s2.2 2 ∧ own_Pd 0 1 C mt s3 ∧ s3.1 22 = s2.1 22 ∧ (∀ i, i < C → mt i < 64) ∧ ∀ h, own_mA a0 a1 P Q R V h = true ↔ ∃ e, e < C ∧ mt e = h := by
    have mA : ∀ h, own_mA a0 a1 P Q R V h = true ↔ ((a0 = true ∧ h = 16 * P + 4 * Q) ∨ (a1 = true ∧ h = 16 * R + 4 * V)) := fun h => by
      unfold own_mA
      rw [Bool.or_eq_true, Bool.and_eq_true, Bool.and_eq_true, decide_eq_true_iff, decide_eq_true_iff]
    cases h1 : a1v with
    | false =>
      have a1f : a1 = false := by rw [ea1, h1]; rfl
      refine ⟨C2, mt2, s2, by omega, ?_, c3, rfl, c5, rfl, c7, fun h => ?_⟩
      · rw [own_bad c3 c5 r s t (by rw [← ea1v]; exact h1), if_neg (by decide)]
      · rw [mA, c8, a1f]
        exact ⟨fun z => z.elim id (fun z => by cases z.1), Or.inl⟩
    | true =>
      have tp := own_tup (n := n) (by omega) (by omega : C2 ≤ 2) c7 c3 c5 hR hV t
      cases hd : dup with
      | true =>
        have a1f : a1 = false := by rw [ea1, h1, hd]; rfl
        have dd := hd
        rw [ddup] at dd
        obtain ⟨dd, d2⟩ := own_tst_and dd
        obtain ⟨dd, d1⟩ := own_tst_and dd
        have d1 := of_decide_eq_true d1
        have d2 := of_decide_eq_true d2
        refine ⟨C2, mt2, s2, by omega, ?_, c3, rfl, c5, rfl, c7, fun h => ?_⟩
        · rw [eR h1, eV h1, tp.1 ((c8 _).mpr ⟨(own_tst_and dd).1, by rw [d1, d2]⟩), if_pos rfl, if_pos rfl]
        · rw [mA, c8, a1f]
          exact ⟨fun z => z.elim id (fun z => by cases z.1), Or.inl⟩
      | false =>
        have a1t : a1 = true := by rw [ea1, h1, hd]; rfl
        obtain ⟨s3, e1, e2, e3, e4, e5⟩ := tp.2 (fun e he z => by
          obtain ⟨g1, g2⟩ := (c8 (16 * R + 4 * V)).mp ⟨e, he, z⟩
          have x1 : R = P := by omega
          have x2 : V = Q := by omega
          rw [ddup, g1, h1, decide_eq_true x1, decide_eq_true x2] at hd
          cases hd)
        refine ⟨C2 + 1, _, s3, by omega, ?_, e2, e3, e4, e5, fun i hi => ?_, fun h => ?_⟩
        · rw [eR h1, eV h1, e1, if_pos rfl, if_neg (by decide)]
        · show (if i = C2 then 16 * R + 4 * V else mt2 i) < 64
          by_cases z : i = C2
          · rw [if_pos z]; omega
          · rw [if_neg z]; exact c7 i (by omega)
        · rw [mA, ← c8 h]
          constructor
          · intro z
            rcases z with ⟨e, y1, y2⟩ | ⟨-, y2⟩
            · refine ⟨e, by omega, ?_⟩
              show (if e = C2 then 16 * R + 4 * V else mt2 e) = h
              rw [if_neg (by omega)]; exact y2
            · refine ⟨C2, by omega, ?_⟩
              show (if C2 = C2 then 16 * R + 4 * V else mt2 C2) = h
              rw [if_pos rfl]; exact y2.symm
          · intro ⟨e, y1, y2⟩
            have y2 : (if e = C2 then 16 * R + 4 * V else mt2 e) = h := y2
            by_cases z : e = C2
            · rw [if_pos z] at y2; exact Or.inr ⟨a1t, y2.symm⟩
            · rw [if_neg z] at y2; exact Or.inl ⟨e, by omega, y2⟩
  obtain ⟨C3, mt3, s3, d1, d2, d3, d4, d5, d6, d7, d8⟩ := A'
  obtain ⟨s4, e1, e2, e3, e4, m4, e5, e6⟩ := own_com (K := 0) (u := 0) (w := 1) (m := 2) (by omega) (by omega : 1500 ≤ n) (by omega) (by omega) (by omega) (by omega : C3 ≤ 16) d7 d8 d3 (by rw [d6, c6, b9]; exact h22) d5.1 d5.2.1 d5.2.2.1 d5.2.2.2.1 d5.2.2.2.2.1 d5.2.2.2.2.2
  -- the second table
  obtain ⟨s5, f1, f2, f3, f4, f5, f6, f7, f8, f9⟩ := own_beg (K := 1) (u := 1) (w := 2) (by omega) (by omega) (by omega) (by omega) e2 e3
  have Pd5 : own_Pd 1 2 0 (fun _ => 0) s5 := ⟨f3, f4, f5, f6, f7, fun i hi => by omega⟩
  have B : ∃ C mt s6, C ≤ 1 ∧ f_addTuple n t u p s5 = some (if b = true then 0 else -2, s6) ∧ own_S (0 + 1) (fun k x => if k = 0 + 1 then (true && own_mA a0 a1 P Q R V (16 * x 0 + 4 * x 1)) else true) s6 ∧ s6.2 2 = s5.2 2 ∧ own_Pd 1 2 C mt s6 ∧ s6.1 22 = s5.1 22 ∧ (∀ i, i < C → mt i < 64) ∧ ∀ h, own_mB b T U h = true ↔ ∃ e, e < C ∧ mt e = h := by
    have mB : ∀ h, own_mB b T U h = true ↔ (b = true ∧ h = 16 * T + 4 * U) := fun h => by
      unfold own_mB
      rw [Bool.and_eq_true, decide_eq_true_iff]
    cases h0 : b with
    | false =>
      refine ⟨0, fun _ => 0, s5, by omega, ?_, f2, rfl, Pd5, rfl, fun i hi => by omega, fun h => ?_⟩
      · rw [own_bad f2 Pd5 t u p (by rw [← eb]; exact h0), if_neg (by decide)]
      · have mB' := mB h
        rw [h0] at mB'
        rw [mB']
        exact ⟨fun z => (by cases z.1), fun ⟨e, e1, _⟩ => by omega⟩
    | true =>
      obtain ⟨s6, g1, g2, g3, g4, g5⟩ := (own_tup (n := n) (by omega) (by omega) (fun i hi => by omega) f2 Pd5 hT hU p).2 (fun e he => by omega)
      refine ⟨1, _, s6, by omega, ?_, g2, g3, g4, g5, fun i hi => ?_, fun h => ?_⟩
      · rw [eT h0, eU (bu h0), g1, if_pos rfl]
      · show (if i = 0 then 16 * T + 4 * U else 0) < 64
        rw [if_pos (by omega)]; omega
      · have mB' := mB h
        rw [h0] at mB'
        rw [mB']
        refine ⟨fun z => ⟨0, by omega, ?_⟩, fun ⟨e, y1, y2⟩ => ⟨rfl, ?_⟩⟩
        · show (if 0 = 0 then 16 * T + 4 * U else 0) = h
          rw [if_pos rfl]; exact z.2.symm
        · have y2 : (if e = 0 then 16 * T + 4 * U else 0) = h := y2
          rw [if_pos (by omega)] at y2; exact y2.symm
  obtain ⟨C6, mt6, s6, g1, g2, g3, g4, g5, g6, g7, g8⟩ := B
  obtain ⟨s7, i1, i2, i3, i4, m7, i5, i6⟩ := own_com (K := 0 + 1) (u := 1) (w := 2) (m := m4) (by omega) (by omega : 1500 ≤ n) (by omega) (by omega) (by omega) (by omega : C6 ≤ 16) g7 g8 g3 (by rw [g6, f9]; exact e6) g5.1 g5.2.1 g5.2.2.1 g5.2.2.2.1 g5.2.2.2.2.1 g5.2.2.2.2.2
  -- the questions
  have fr7 : ∀ l, l < 3 → s7.2 2 l = -1 := fun l hl => by rw [i4, g4, f8, e4, d4, c4, b8]; exact hf l (by omega)
  obtain ⟨G, eG⟩ : ∃ G : Nat → (Nat → Nat) → Bool, G = (fun k x => if k = 0 + 1 + 1 then ((if 0 + 1 = 0 + 1 then (true && own_mA a0 a1 P Q R V (16 * x 0 + 4 * x 1)) else true) && own_mB b T U (16 * x 1 + 4 * x 2)) else if k = 0 + 1 then (true && own_mA a0 a1 P Q R V (16 * x 0 + 4 * x 1)) else true) := ⟨_, rfl⟩
  have S7 : own_S 2 G s7 := by rw [eG]; exact i2
  have nB : ∀ ok, own_NC ok (G 2) = own_N3 ok (own_hB a0 a1 b P Q R V T U) := fun ok => by rw [eG]; rfl
  have nA : ∀ ok, own_NC ok (G 1) = own_N3 ok (own_hA a0 a1 P Q R V) := fun ok => by rw [eG]; rfl
  have mk : ∀ v, own_msk v (G 2) = own_m3 v (own_hB a0 a1 b P Q R V T U) := fun v => by unfold own_msk own_m3; rw [nB, nB, nB]
  clear eG i2
  obtain ⟨s8, j1, j2, j3, j4⟩ := own_cnt (n := n) (by omega) (by omega) S7 (own_okF0 fr7)
  have fr8 : ∀ l, l < 3 → s8.2 2 l = -1 := fun l hl => by rw [j4]; exact fr7 l hl
  obtain ⟨s9, k1', k2, k3, k4⟩ := own_om (n := n) (v := 0) (by omega) (by omega) (by omega) j2 fr8
  have fr9 : ∀ l, l < 3 → s9.2 2 l = -1 := fun l hl => by rw [k4]; exact fr8 l hl
  obtain ⟨s10, l1, l2, l3, l4⟩ := own_om (n := n) (v := 1) (by omega) (by omega) (by omega) k2 fr9
  have fr10 : ∀ l, l < 3 → s10.2 2 l = -1 := fun l hl => by rw [l4]; exact fr9 l hl
  obtain ⟨s11, o1, o2, o3, o4⟩ := own_om (n := n) (v := 2) (by omega) (by omega) (by omega) l2 fr10
  have fr11 : ∀ l, l < 3 → s11.2 2 l = -1 := fun l hl => by rw [o4]; exact fr10 l hl
  have tc : f_tableCount s11 = some 2 := by
    obtain ⟨N, M, L, I, -, e, -⟩ := o2
    unfold f_tableCount; rw [e]; rfl
  have nle : ∀ ok h, own_N3 ok h ≤ 27 := fun ok h => by rw [← own_N3E]; exact own_NCle _ _
  obtain ⟨c, hc⟩ : ∃ c : Int32, c = own_b k0 + own_b k1 := ⟨_, rfl⟩
  have cpos : own_NC (own_ok1 2 U) (G 2) = 0 ↔ ¬ 0 < c := by
    have le := nle (own_ok1 2 U) (own_hB a0 a1 b P Q R V T U)
    rw [nB, hc, ← t5, show (0 : Int32) = Int32.ofNat 0 from rfl, N_lt (by omega) (by omega)]
    omega
  -- the choice, the drop, the last count
  have fin : ∃ (s12 s13 : St) (eCh : Int32), f_choose n 2 u s11 = some (eCh, s12) ∧ f_dropLastTable s12 = some (0, setI s12 23 1) ∧ eCh = (if own_in u = true then (if 0 < own_b k0 + own_b k1 then 0 else -7) else -2) ∧ f_count n (setI s12 23 1) = some ((own_b a0 + own_b a1) * (if eCh = 0 then 1 else 3), s13) := by
    rw [← hc]
    have last0 : ∀ s12, own_S 2 G s12 → (∀ l, l < 3 → s12.2 2 l = -1) → ∃ s13, f_dropLastTable s12 = some (0, setI s12 23 1) ∧ f_count n (setI s12 23 1) = some ((own_b a0 + own_b a1) * 3, s13) := fun s12 S12 f12 => by
      obtain ⟨dr1, dr2⟩ := own_drop S12
      obtain ⟨s13, q1, -⟩ := own_cnt (n := n) (by omega) (by omega) dr2 (own_okF0 f12)
      exact ⟨s13, dr1, by rw [q1, nA, t6]⟩
    cases hu : own_in u with
    | false =>
      obtain ⟨s13, q1, q2⟩ := last0 s11 o2 fr11
      exact ⟨s11, s13, -2, own_chooseB o2 hu, q1, by rw [if_neg (by decide)], by rw [if_neg (by decide)]; exact q2⟩
    | true =>
      obtain ⟨s12, v1, v2, v3, v4⟩ := own_chooseG (n := n) (by omega) hU o2 fr11
      rw [eU hu, v3]
      by_cases z : 0 < c
      · have nz : ¬ own_NC (own_ok1 2 U) (G 2) = 0 := fun w => cpos.mp w z
        rw [if_neg nz]
        obtain ⟨dr1, dr2⟩ := own_drop v1
        obtain ⟨s13, q1, -⟩ := own_cnt (n := n) (by omega) (by omega) dr2 (ok := own_ok1 2 U) (own_okF1 hU (fun l hl hl' => by show s12.2 2 l = -1; rw [v4 l hl, if_neg nz, if_neg hl']) (by show s12.2 2 2 = _; rw [v4 2 (by omega), if_neg nz, if_pos rfl]))
        exact ⟨s12, s13, 0, rfl, dr1, by rw [if_pos rfl, if_pos z], by rw [if_pos rfl, q1, nA, t7]⟩
      · have nz : own_NC (own_ok1 2 U) (G 2) = 0 := cpos.mpr z
        rw [if_pos nz]
        obtain ⟨s13, q1, q2⟩ := last0 s12 v1 (fun l hl => by rw [v4 l hl, if_pos nz])
        exact ⟨s12, s13, -7, rfl, q1, by rw [if_pos rfl, if_neg z], by rw [if_neg (by decide)]; exact q2⟩
  obtain ⟨s12, s13, eCh, w1, w2, w3, w4⟩ := fin
  rw [own_chain2 n p q r s t u a0 a1v dup a1 b k0 k1 S0 eCh w3]
  unfold f_law_356
  rw [show f_beginTable 0 1 (-1) S0 = some (0, s1) from b1, Option.bind_some]
  rw [show f_addTuple n p q u ((0 : Int32), s1).2 = _ from c2, Option.bind_some]
  rw [show f_addTuple n r s t ((if a0 = true then (0 : Int32) else -2), s2).2 = _ from d2, Option.bind_some]
  rw [show f_commitTable n ((if a1v = true then (if dup = true then (-5 : Int32) else 0) else -2), s3).2 = _ from e1, Option.bind_some]
  rw [show f_beginTable 1 2 (-1) ((0 : Int32), s4).2 = some (0, s5) from f1, Option.bind_some]
  rw [show f_addTuple n t u p ((0 : Int32), s5).2 = _ from g2, Option.bind_some]
  rw [show f_commitTable n ((if b = true then (0 : Int32) else -2), s6).2 = _ from i1, Option.bind_some]
  rw [show f_count n ((0 : Int32), s7).2 = _ from j1, Option.bind_some]
  rw [show f_offeredMask n 0 (Int32.ofNat (own_NC own_ok0 (G 2)), s8).2 = _ from k1', Option.bind_some]
  rw [show f_offeredMask n 1 (own_msk 0 (G 2), s9).2 = _ from l1, Option.bind_some]
  rw [show f_offeredMask n 2 (own_msk 1 (G 2), s10).2 = _ from o1, Option.bind_some]
  rw [show f_tableCount (own_msk 2 (G 2), s11).2 = _ from tc, Option.bind_some]
  rw [show f_choose n 2 u (own_msk 2 (G 2), s11).2 = _ from w1, Option.bind_some]
  rw [show f_dropLastTable (eCh, s12).2 = _ from w2, Option.bind_some]
  rw [show f_count n ((0 : Int32), setI s12 23 1).2 = _ from w4, Option.bind_some]
  rw [if_pos rfl, if_pos rfl, if_pos rfl, if_pos rfl, if_pos rfl, if_pos rfl, if_pos rfl]
  have m0 : own_msk 0 (G 2) = ((if k0 = true then (1 : Int32) <<< (p &&& 31) else 0) ||| (if k1 = true then (1 : Int32) <<< (r &&& 31) else 0)) := by
    rw [mk, t2]
    have x0 : (if k0 = true then (1 : Int32) <<< (Int32.ofNat P &&& 31) else 0) = if k0 = true then (1 : Int32) <<< (p &&& 31) else 0 := by
      cases h : k0 with
      | false => rfl
      | true =>
        rw [dk0] at h
        rw [eP (own_tst_and (own_tst_and h).1).1]
    have x1 : (if k1 = true then (1 : Int32) <<< (Int32.ofNat R &&& 31) else 0) = if k1 = true then (1 : Int32) <<< (r &&& 31) else 0 := by
      cases h : k1 with
      | false => rfl
      | true =>
        rw [dk1] at h
        rw [eR (a1le (own_tst_and (own_tst_and h).1).1)]
    rw [x0, x1]
  have bpos : 0 < own_b k0 + own_b k1 → b = true := fun z => by
    cases h : b with
    | true => rfl
    | false =>
      rw [dk0, dk1, h, Bool.and_false, Bool.and_false, Bool.false_and, Bool.false_and] at z
      exact absurd z (by decide)
  have m1 : own_msk 1 (G 2) = if 0 < own_b k0 + own_b k1 then (1 : Int32) <<< (t &&& 31) else 0 := by
    rw [mk, t3]
    by_cases z : 0 < own_b k0 + own_b k1
    · rw [if_pos z, if_pos z, eT (bpos z)]
    · rw [if_neg z, if_neg z]
  have m2 : own_msk 2 (G 2) = if 0 < own_b k0 + own_b k1 then (1 : Int32) <<< (u &&& 31) else 0 := by
    rw [mk, t4]
    by_cases z : 0 < own_b k0 + own_b k1
    · rw [if_pos z, if_pos z, eU (bu (bpos z))]
    · rw [if_neg z, if_neg z]
  rw [if_pos (show Int32.ofNat (own_NC own_ok0 (G 2)) = own_b k0 + own_b k1 by rw [nB]; exact t1), if_pos m0, if_pos m1, if_pos m2, if_pos rfl, if_pos rfl, if_pos rfl, if_pos rfl]
  exact ⟨_, rfl⟩
theorem plain : ∀ a b c d e f, ∃ n w, f_law n a b c d e f = some (1, w) := by
  intro p q r s t u
  obtain ⟨n, hn⟩ : ∃ n : Nat, 5000 ≤ n := ⟨5000, Nat.le_refl _⟩
  refine ⟨n, ?_⟩
  obtain ⟨S0, e, S, h22, h24, hf⟩ := own_ctor0 (n := n) (by omega)
  unfold f_law
  rw [e, Option.bind_some]
  exact own_law9 (by omega) p q r s t u S h22 h24 hf
theorem main_1_1 : Claimed_1_1 := comes_1 plain fun _ _ _ _ _ _ h hF => ⟨h.1, hF⟩
theorem main_1_2 : Claimed_1_2 := comes_1 plain fun _ _ _ _ _ _ h hF => ⟨h.2.1, hF⟩


end Jvm.Pilot.@@N@@
namespace Jvm.Pilot.@@N@@
open Jvm Jvm.ClassFile Sem Op Lib Jvm.Free Jvm.Stand Jvm.Pilot.@@N@@.Jvm.D
/-! MADE BY PROGRAM (witnessworld.py) out of the Statement's table words and the real class files: 11 classes; the members and pool entries that the words name. The judged class is class 1, her method 2. -/
namespace start1
open Jvm.ClassFile
def u (s : String) : CpInfo := .utf8 (stringToUtf16 s)
/-- a pool by its gaps: so many unusable entries, then the entry; so many at the end -/
def gap : Nat → List CpInfo → List CpInfo
  | 0, r => r
  | n + 1, r => .unusable :: gap n r
def poolList (es : List (Nat × CpInfo)) (last : Nat) : List CpInfo := es.foldr (fun e r => gap e.1 (e.2 :: r)) (gap last [])
def pool (es : List (Nat × CpInfo)) (last : Nat) : Array CpInfo := ⟨poolList es last⟩
def fileOf (pool : Array CpInfo) (this : Nat) (attrs : Array Attribute := #[]) (ms : Array MethodInfo := #[]) (fl : Nat := 33) (sup : Nat := 0) (ifs : Array Nat := #[]) (fds : Array FieldInfo := #[]) : ClassFile where
  minorVersion := 0
  majorVersion := 65
  constantPool := pool
  accessFlags := fl
  thisClass := this
  superClass := sup
  interfaces := ifs
  fields := fds
  methods := ms
  attributes := attrs
def plain (name : String) (sup : Option ClassId) : Class where
  name := name
  kind := .ordinary
  loader := none
  accessFlags := 33
  super := sup
  interfaces := #[]
  cf := none
  fields := #[]
  methods := #[]
  instanceTypes := #[]
  staticTypes := #[]
  resolved := #[]
  callSites := []
  init := .initialized
  statics := none
  mirror := none

def pool0 : Array CpInfo := pool [(5, u "<init>"), (0, u "()V"), (1, .class_ 10), (1, u "java/lang/Object")] 113

def k0c0 : Code := { maxStack := 0, maxLocals := 1, code := object_method_1_code, exceptionTable := #[], attributes := #[] }
def k0m0 : Method := { name := "<init>", desc := "()V", sig := { parameters := [], returnType := none }, accessFlags := 1, code := some k0c0 }
/-- java/lang/Object -/
def k0 : Class := { plain "java/lang/Object" none with
  accessFlags := 33
  interfaces := #[]
  cf := some (fileOf pool0 8 #[] #[{ accessFlags := 1, nameIndex := 5, descriptorIndex := 6, attributes := #[] }] 33 0 #[] #[])
  fields := #[]
  methods := #[k0m0]
  instanceTypes := #[]
  staticTypes := #[]
  resolved := Array.replicate 124 none
  statics := none }

def pool1 : Array CpInfo := pool [(2, .class_ 4), (1, u "java/lang/Object"), (0, u "<init>"), (0, u "()V"), (0, .class_ 8), (0, u "MddConfigurator"), (0, .methodref 7 10), (0, .nameAndType 5 11), (0, u "(II)V"), (0, .methodref 13 14), (0, .class_ 15), (0, .nameAndType 16 17), (0, u "MddConfiguratorL3"), (0, u "in"), (0, u "(I)Z"), (0, .methodref 7 19), (0, .nameAndType 20 21), (0, u "beginTable"), (0, u "(III)I"), (0, .methodref 7 23), (0, .nameAndType 24 21), (0, u "addTuple"), (0, .methodref 7 26), (0, .nameAndType 27 28), (0, u "commitTable"), (0, u "()I"), (0, .methodref 7 30), (0, .nameAndType 31 28), (0, u "count"), (0, .methodref 7 33), (0, .nameAndType 34 35), (0, u "offeredMask"), (0, u "(I)I"), (0, .methodref 7 37), (0, .nameAndType 38 28), (0, u "tableCount"), (0, .methodref 7 40), (0, .nameAndType 41 42), (0, u "choose"), (0, u "(II)I"), (0, .methodref 7 44), (0, .nameAndType 45 28), (0, u "dropLastTable"), (3, u "law"), (0, u "(IIIIII)Z")] 2

def k1m0 : Method := { name := "<init>", desc := "()V", sig := { parameters := [], returnType := none }, accessFlags := 1, code := none }
def k1c1 : Code := { maxStack := 2, maxLocals := 1, code := method_2_code, exceptionTable := #[], attributes := #[] }
def k1m1 : Method := { name := "in", desc := "(I)Z", sig := { parameters := [.int], returnType := some .boolean }, accessFlags := 10, code := some k1c1 }
def k1c2 : Code := { maxStack := 4, maxLocals := 39, code := code, exceptionTable := #[], attributes := #[] }
def k1m2 : Method := { name := "law", desc := "(IIIIII)Z", sig := { parameters := [.int, .int, .int, .int, .int, .int], returnType := some .boolean }, accessFlags := 9, code := some k1c2 }
/-- MddConfiguratorL3 -/
def k1 : Class := { plain "MddConfiguratorL3" (some 0) with
  accessFlags := 33
  interfaces := #[]
  cf := some (fileOf pool1 13 #[] #[{ accessFlags := 1, nameIndex := 5, descriptorIndex := 6, attributes := #[] }, { accessFlags := 10, nameIndex := 16, descriptorIndex := 17, attributes := #[] }, { accessFlags := 9, nameIndex := 49, descriptorIndex := 50, attributes := #[] }] 33 2 #[] #[])
  fields := #[]
  methods := #[k1m0, k1m1, k1m2]
  instanceTypes := #[]
  staticTypes := #[]
  resolved := Array.replicate 53 none
  statics := none }

def pool2 : Array CpInfo := pool [(1, .methodref 2 3), (0, .class_ 4), (0, .nameAndType 5 6), (0, u "java/lang/Object"), (0, u "<init>"), (0, u "()V"), (0, .fieldref 8 9), (0, .class_ 10), (0, .nameAndType 11 12), (0, u "MddConfigurator"), (0, u "root"), (0, u "[I"), (0, .fieldref 8 14), (0, .nameAndType 15 12), (0, u "pendCode"), (0, .fieldref 8 17), (0, .nameAndType 18 12), (0, u "choice"), (0, .fieldref 8 20), (0, .nameAndType 21 12), (0, u "fix"), (0, .fieldref 8 23), (0, .nameAndType 24 12), (0, u "digit"), (0, .fieldref 8 26), (0, .nameAndType 27 12), (0, u "lvl"), (0, .fieldref 8 29), (0, .nameAndType 30 12), (0, u "kid"), (0, .fieldref 8 32), (0, .nameAndType 33 12), (0, u "uniq"), (0, .fieldref 8 35), (0, .nameAndType 36 37), (0, u "mark"), (0, u "[Z"), (0, .fieldref 8 39), (0, .nameAndType 40 12), (0, u "remap"), (0, .fieldref 8 42), (0, .nameAndType 43 12), (0, u "cnt"), (0, .fieldref 8 45), (0, .nameAndType 46 12), (0, u "buf"), (0, .fieldref 8 48), (0, .nameAndType 49 37), (0, u "allowT"), (0, .fieldref 8 51), (0, .nameAndType 52 12), (0, u "memoA"), (0, .fieldref 8 54), (0, .nameAndType 55 12), (0, u "memoB"), (0, .fieldref 8 57), (0, .nameAndType 58 12), (0, u "memoR"), (0, .fieldref 8 60), (0, .nameAndType 61 37), (0, u "memoUsed"), (0, .fieldref 8 63), (0, .nameAndType 64 12), (0, u "stU"), (0, .fieldref 8 66), (0, .nameAndType 67 12), (0, u "stV"), (0, .fieldref 8 69), (0, .nameAndType 70 12), (0, u "stPh"), (0, .fieldref 8 72), (0, .nameAndType 73 74), (0, u "n"), (0, u "I"), (0, .fieldref 8 76), (0, .nameAndType 77 74), (0, u "d"), (0, .fieldref 8 79), (0, .nameAndType 80 74), (0, u "top"), (0, .methodref 8 82), (0, .nameAndType 83 6), (0, u "clearUnique"), (0, .fieldref 8 85), (0, .nameAndType 86 74), (0, u "depth"), (0, .fieldref 8 88), (0, .nameAndType 89 90), (0, u "pending"), (0, u "Z"), (0, .methodref 8 92), (0, .nameAndType 93 94), (0, u "validVar"), (0, u "(I)Z"), (0, .fieldref 8 96), (0, .nameAndType 97 74), (0, u "pendArity"), (0, .fieldref 8 99), (0, .nameAndType 100 74), (0, u "pendA"), (0, .fieldref 8 102), (0, .nameAndType 103 74), (0, u "pendB"), (0, .fieldref 8 105), (0, .nameAndType 106 74), (0, u "pendC"), (0, .fieldref 8 108), (0, .nameAndType 109 74), (0, u "pendCount"), (0, .methodref 8 111), (0, .nameAndType 112 94), (0, u "validValue"), (0, .methodref 8 114), (0, .nameAndType 115 6), (0, u "ensureRoom"), (0, .methodref 8 117), (0, .nameAndType 118 119), (0, u "compileTable"), (0, u "()I"), (0, .methodref 8 121), (0, .nameAndType 122 123), (0, u "conjoin"), (0, u "(II)I"), (0, .methodref 8 125), (0, .nameAndType 126 123), (0, u "countWith"), (0, .methodref 8 128), (0, .nameAndType 129 6), (0, u "loadChoices"), (0, .methodref 8 131), (0, .nameAndType 132 119), (0, u "countFixed"), (0, .integer 1000003), (0, .integer 668265261), (0, .methodref 8 136), (0, .nameAndType 137 138), (0, u "hashOf"), (0, u "(IIIII)I"), (0, .methodref 8 140), (0, .nameAndType 141 142), (0, u "newNode"), (0, u "(IIIIII)I"), (0, .methodref 8 144), (0, .nameAndType 145 146), (0, u "sameNode"), (0, u "(IIIIII)Z"), (9, .methodref 8 157), (0, .nameAndType 158 159), (0, u "pow"), (0, u "(I)I"), (0, .methodref 8 161), (0, .nameAndType 162 163), (0, u "decode"), (0, u "(I)V"), (0, .methodref 8 165), (0, .nameAndType 166 119), (0, u "scopeCode"), (0, .methodref 8 168), (0, .nameAndType 169 119), (0, u "reduceBuffer"), (0, .methodref 8 171), (0, .nameAndType 172 138), (0, u "mk"), (0, .fieldref 8 174), (0, .nameAndType 175 74), (0, u "sp"), (0, .methodref 8 177), (0, .nameAndType 178 179), (0, u "push"), (0, u "(II)V"), (0, .integer 200000), (0, .methodref 8 182), (0, .nameAndType 183 6), (0, u "step"), (0, .methodref 8 185), (0, .nameAndType 186 123), (0, u "resolve"), (0, .methodref 8 188), (0, .nameAndType 189 179), (0, u "pushChildren"), (0, .methodref 8 191), (0, .nameAndType 192 179), (0, u "finishPair"), (0, .methodref 8 194), (0, .nameAndType 195 123), (0, u "topLevel"), (0, .methodref 8 197), (0, .nameAndType 198 199), (0, u "cofactor"), (0, u "(III)I"), (0, .methodref 8 201), (0, .nameAndType 202 203), (0, u "childResult"), (0, u "(IIII)I"), (0, .methodref 8 205), (0, .nameAndType 206 207), (0, u "memoStore"), (0, u "(III)V"), (0, .methodref 8 209), (0, .nameAndType 210 123), (0, u "memoFind"), (0, .methodref 8 212), (0, .nameAndType 213 123), (0, u "memoSlot"), (0, .methodref 8 215), (0, .nameAndType 216 159), (0, u "nodeCount"), (0, .methodref 8 218), (0, .nameAndType 219 123), (0, u "gap"), (0, u "OK"), (2, u "BAD_VAR"), (1, u "BAD_VALUE"), (1, u "PENDING"), (1, u "NO_PENDING"), (1, u "DUPLICATE"), (1, u "FULL"), (1, u "CONFLICT"), (1, u "ALREADY"), (1, u "NOT_CHOSEN"), (1, u "NO_TABLE"), (1, u "BAD_SCOPE"), (1, u "MAX_TABLES"), (1, u "MAX_TUPLES"), (6, u "beginTable"), (0, u "addTuple"), (0, u "commitTable"), (1, u "dropLastTable"), (0, u "choose"), (3, u "offeredMask"), (0, u "count"), (0, u "tableCount")] 4

def k2c0 : Code := { maxStack := 3, maxLocals := 4, code := prog_1_method_1_code, exceptionTable := #[], attributes := #[] }
def k2m0 : Method := { name := "<init>", desc := "(II)V", sig := { parameters := [.int, .int], returnType := none }, accessFlags := 1, code := some k2c0 }
def k2c1 : Code := { maxStack := 2, maxLocals := 5, code := prog_1_method_4_code, exceptionTable := #[], attributes := #[] }
def k2m1 : Method := { name := "beginTable", desc := "(III)I", sig := { parameters := [.int, .int, .int], returnType := some .int }, accessFlags := 1, code := some k2c1 }
def k2c2 : Code := { maxStack := 3, maxLocals := 6, code := prog_1_method_5_code, exceptionTable := #[], attributes := #[] }
def k2m2 : Method := { name := "addTuple", desc := "(III)I", sig := { parameters := [.int, .int, .int], returnType := some .int }, accessFlags := 1, code := some k2c2 }
def k2c3 : Code := { maxStack := 3, maxLocals := 3, code := prog_1_method_6_code, exceptionTable := #[], attributes := #[] }
def k2m3 : Method := { name := "commitTable", desc := "()I", sig := { parameters := [], returnType := some .int }, accessFlags := 1, code := some k2c3 }
def k2c4 : Code := { maxStack := 3, maxLocals := 1, code := prog_1_method_8_code, exceptionTable := #[], attributes := #[] }
def k2m4 : Method := { name := "dropLastTable", desc := "()I", sig := { parameters := [], returnType := some .int }, accessFlags := 1, code := some k2c4 }
def k2c5 : Code := { maxStack := 3, maxLocals := 3, code := prog_1_method_9_code, exceptionTable := #[], attributes := #[] }
def k2m5 : Method := { name := "choose", desc := "(II)I", sig := { parameters := [.int, .int], returnType := some .int }, accessFlags := 1, code := some k2c5 }
def k2c6 : Code := { maxStack := 3, maxLocals := 4, code := prog_1_method_13_code, exceptionTable := #[], attributes := #[] }
def k2m6 : Method := { name := "offeredMask", desc := "(I)I", sig := { parameters := [.int], returnType := some .int }, accessFlags := 1, code := some k2c6 }
def k2c7 : Code := { maxStack := 1, maxLocals := 1, code := prog_1_method_14_code, exceptionTable := #[], attributes := #[] }
def k2m7 : Method := { name := "count", desc := "()I", sig := { parameters := [], returnType := some .int }, accessFlags := 1, code := some k2c7 }
def k2c8 : Code := { maxStack := 3, maxLocals := 3, code := prog_1_method_15_code, exceptionTable := #[], attributes := #[] }
def k2m8 : Method := { name := "countWith", desc := "(II)I", sig := { parameters := [.int, .int], returnType := some .int }, accessFlags := 1, code := some k2c8 }
def k2c9 : Code := { maxStack := 1, maxLocals := 1, code := prog_1_method_16_code, exceptionTable := #[], attributes := #[] }
def k2m9 : Method := { name := "tableCount", desc := "()I", sig := { parameters := [], returnType := some .int }, accessFlags := 1, code := some k2c9 }
def k2c10 : Code := { maxStack := 2, maxLocals := 2, code := prog_1_method_18_code, exceptionTable := #[], attributes := #[] }
def k2m10 : Method := { name := "validVar", desc := "(I)Z", sig := { parameters := [.int], returnType := some .boolean }, accessFlags := 2, code := some k2c10 }
def k2c11 : Code := { maxStack := 2, maxLocals := 2, code := prog_1_method_19_code, exceptionTable := #[], attributes := #[] }
def k2m11 : Method := { name := "validValue", desc := "(I)Z", sig := { parameters := [.int], returnType := some .boolean }, accessFlags := 2, code := some k2c11 }
def k2c12 : Code := { maxStack := 2, maxLocals := 4, code := prog_1_method_20_code, exceptionTable := #[], attributes := #[] }
def k2m12 : Method := { name := "pow", desc := "(I)I", sig := { parameters := [.int], returnType := some .int }, accessFlags := 2, code := some k2c12 }
def k2c13 : Code := { maxStack := 3, maxLocals := 2, code := prog_1_method_21_code, exceptionTable := #[], attributes := #[] }
def k2m13 : Method := { name := "clearUnique", desc := "()V", sig := { parameters := [], returnType := none }, accessFlags := 2, code := some k2c13 }
def k2c14 : Code := { maxStack := 3, maxLocals := 7, code := prog_1_method_22_code, exceptionTable := #[], attributes := #[] }
def k2m14 : Method := { name := "hashOf", desc := "(IIIII)I", sig := { parameters := [.int, .int, .int, .int, .int], returnType := some .int }, accessFlags := 2, code := some k2c14 }
def k2c15 : Code := { maxStack := 3, maxLocals := 8, code := prog_1_method_23_code, exceptionTable := #[], attributes := #[] }
def k2m15 : Method := { name := "sameNode", desc := "(IIIIII)Z", sig := { parameters := [.int, .int, .int, .int, .int, .int], returnType := some .boolean }, accessFlags := 2, code := some k2c15 }
def k2c16 : Code := { maxStack := 7, maxLocals := 10, code := prog_1_method_24_code, exceptionTable := #[], attributes := #[] }
def k2m16 : Method := { name := "mk", desc := "(IIIII)I", sig := { parameters := [.int, .int, .int, .int, .int], returnType := some .int }, accessFlags := 2, code := some k2c16 }
def k2c17 : Code := { maxStack := 3, maxLocals := 9, code := prog_1_method_25_code, exceptionTable := #[], attributes := #[] }
def k2m17 : Method := { name := "newNode", desc := "(IIIIII)I", sig := { parameters := [.int, .int, .int, .int, .int, .int], returnType := some .int }, accessFlags := 2, code := some k2c17 }
def k2c18 : Code := { maxStack := 2, maxLocals := 1, code := prog_1_method_26_code, exceptionTable := #[], attributes := #[] }
def k2m18 : Method := { name := "ensureRoom", desc := "()V", sig := { parameters := [], returnType := none }, accessFlags := 2, code := some k2c18 }
def k2c19 : Code := { maxStack := 4, maxLocals := 3, code := prog_1_method_30_code, exceptionTable := #[], attributes := #[] }
def k2m19 : Method := { name := "compileTable", desc := "()I", sig := { parameters := [], returnType := some .int }, accessFlags := 2, code := some k2c19 }
def k2c20 : Code := { maxStack := 4, maxLocals := 4, code := prog_1_method_31_code, exceptionTable := #[], attributes := #[] }
def k2m20 : Method := { name := "decode", desc := "(I)V", sig := { parameters := [.int], returnType := none }, accessFlags := 2, code := some k2c20 }
def k2c21 : Code := { maxStack := 3, maxLocals := 2, code := prog_1_method_32_code, exceptionTable := #[], attributes := #[] }
def k2m21 : Method := { name := "scopeCode", desc := "()I", sig := { parameters := [], returnType := some .int }, accessFlags := 2, code := some k2c21 }
def k2c22 : Code := { maxStack := 8, maxLocals := 9, code := prog_1_method_33_code, exceptionTable := #[], attributes := #[] }
def k2m22 : Method := { name := "reduceBuffer", desc := "()I", sig := { parameters := [], returnType := some .int }, accessFlags := 2, code := some k2c22 }
def k2c23 : Code := { maxStack := 3, maxLocals := 4, code := prog_1_method_34_code, exceptionTable := #[], attributes := #[] }
def k2m23 : Method := { name := "conjoin", desc := "(II)I", sig := { parameters := [.int, .int], returnType := some .int }, accessFlags := 2, code := some k2c23 }
def k2c24 : Code := { maxStack := 3, maxLocals := 3, code := prog_1_method_35_code, exceptionTable := #[], attributes := #[] }
def k2m24 : Method := { name := "push", desc := "(II)V", sig := { parameters := [.int, .int], returnType := none }, accessFlags := 2, code := some k2c24 }
def k2c25 : Code := { maxStack := 3, maxLocals := 4, code := prog_1_method_36_code, exceptionTable := #[], attributes := #[] }
def k2m25 : Method := { name := "step", desc := "()V", sig := { parameters := [], returnType := none }, accessFlags := 2, code := some k2c25 }
def k2c26 : Code := { maxStack := 3, maxLocals := 3, code := prog_1_method_37_code, exceptionTable := #[], attributes := #[] }
def k2m26 : Method := { name := "topLevel", desc := "(II)I", sig := { parameters := [.int, .int], returnType := some .int }, accessFlags := 2, code := some k2c26 }
def k2c27 : Code := { maxStack := 3, maxLocals := 4, code := prog_1_method_38_code, exceptionTable := #[], attributes := #[] }
def k2m27 : Method := { name := "cofactor", desc := "(III)I", sig := { parameters := [.int, .int, .int], returnType := some .int }, accessFlags := 2, code := some k2c27 }
def k2c28 : Code := { maxStack := 4, maxLocals := 7, code := prog_1_method_39_code, exceptionTable := #[], attributes := #[] }
def k2m28 : Method := { name := "pushChildren", desc := "(II)V", sig := { parameters := [.int, .int], returnType := none }, accessFlags := 2, code := some k2c28 }
def k2c29 : Code := { maxStack := 4, maxLocals := 8, code := prog_1_method_40_code, exceptionTable := #[], attributes := #[] }
def k2m29 : Method := { name := "childResult", desc := "(IIII)I", sig := { parameters := [.int, .int, .int, .int], returnType := some .int }, accessFlags := 2, code := some k2c29 }
def k2c30 : Code := { maxStack := 6, maxLocals := 9, code := prog_1_method_41_code, exceptionTable := #[], attributes := #[] }
def k2m30 : Method := { name := "finishPair", desc := "(II)V", sig := { parameters := [.int, .int], returnType := none }, accessFlags := 2, code := some k2c30 }
def k2c31 : Code := { maxStack := 3, maxLocals := 3, code := prog_1_method_42_code, exceptionTable := #[], attributes := #[] }
def k2m31 : Method := { name := "resolve", desc := "(II)I", sig := { parameters := [.int, .int], returnType := some .int }, accessFlags := 2, code := some k2c31 }
def k2c32 : Code := { maxStack := 3, maxLocals := 4, code := prog_1_method_43_code, exceptionTable := #[], attributes := #[] }
def k2m32 : Method := { name := "memoSlot", desc := "(II)I", sig := { parameters := [.int, .int], returnType := some .int }, accessFlags := 2, code := some k2c32 }
def k2c33 : Code := { maxStack := 3, maxLocals := 7, code := prog_1_method_44_code, exceptionTable := #[], attributes := #[] }
def k2m33 : Method := { name := "memoFind", desc := "(II)I", sig := { parameters := [.int, .int], returnType := some .int }, accessFlags := 2, code := some k2c33 }
def k2c34 : Code := { maxStack := 3, maxLocals := 8, code := prog_1_method_45_code, exceptionTable := #[], attributes := #[] }
def k2m34 : Method := { name := "memoStore", desc := "(III)V", sig := { parameters := [.int, .int, .int], returnType := none }, accessFlags := 2, code := some k2c34 }
def k2c35 : Code := { maxStack := 4, maxLocals := 2, code := prog_1_method_46_code, exceptionTable := #[], attributes := #[] }
def k2m35 : Method := { name := "loadChoices", desc := "()V", sig := { parameters := [], returnType := none }, accessFlags := 2, code := some k2c35 }
def k2c36 : Code := { maxStack := 2, maxLocals := 5, code := prog_1_method_47_code, exceptionTable := #[], attributes := #[] }
def k2m36 : Method := { name := "gap", desc := "(II)I", sig := { parameters := [.int, .int], returnType := some .int }, accessFlags := 2, code := some k2c36 }
def k2c37 : Code := { maxStack := 4, maxLocals := 3, code := prog_1_method_48_code, exceptionTable := #[], attributes := #[] }
def k2m37 : Method := { name := "countFixed", desc := "()I", sig := { parameters := [], returnType := some .int }, accessFlags := 2, code := some k2c37 }
def k2c38 : Code := { maxStack := 4, maxLocals := 7, code := prog_1_method_49_code, exceptionTable := #[], attributes := #[] }
def k2m38 : Method := { name := "nodeCount", desc := "(I)I", sig := { parameters := [.int], returnType := some .int }, accessFlags := 2, code := some k2c38 }
/-- MddConfigurator -/
def k2 : Class := { plain "MddConfigurator" (some 0) with
  accessFlags := 49
  interfaces := #[]
  cf := some (fileOf pool2 8 #[] #[{ accessFlags := 1, nameIndex := 5, descriptorIndex := 179, attributes := #[] }, { accessFlags := 1, nameIndex := 254, descriptorIndex := 199, attributes := #[] }, { accessFlags := 1, nameIndex := 255, descriptorIndex := 199, attributes := #[] }, { accessFlags := 1, nameIndex := 256, descriptorIndex := 119, attributes := #[] }, { accessFlags := 1, nameIndex := 258, descriptorIndex := 119, attributes := #[] }, { accessFlags := 1, nameIndex := 259, descriptorIndex := 123, attributes := #[] }, { accessFlags := 1, nameIndex := 263, descriptorIndex := 159, attributes := #[] }, { accessFlags := 1, nameIndex := 264, descriptorIndex := 119, attributes := #[] }, { accessFlags := 1, nameIndex := 126, descriptorIndex := 123, attributes := #[] }, { accessFlags := 1, nameIndex := 265, descriptorIndex := 119, attributes := #[] }, { accessFlags := 2, nameIndex := 93, descriptorIndex := 94, attributes := #[] }, { accessFlags := 2, nameIndex := 112, descriptorIndex := 94, attributes := #[] }, { accessFlags := 2, nameIndex := 158, descriptorIndex := 159, attributes := #[] }, { accessFlags := 2, nameIndex := 83, descriptorIndex := 6, attributes := #[] }, { accessFlags := 2, nameIndex := 137, descriptorIndex := 138, attributes := #[] }, { accessFlags := 2, nameIndex := 145, descriptorIndex := 146, attributes := #[] }, { accessFlags := 2, nameIndex := 172, descriptorIndex := 138, attributes := #[] }, { accessFlags := 2, nameIndex := 141, descriptorIndex := 142, attributes := #[] }, { accessFlags := 2, nameIndex := 115, descriptorIndex := 6, attributes := #[] }, { accessFlags := 2, nameIndex := 118, descriptorIndex := 119, attributes := #[] }, { accessFlags := 2, nameIndex := 162, descriptorIndex := 163, attributes := #[] }, { accessFlags := 2, nameIndex := 166, descriptorIndex := 119, attributes := #[] }, { accessFlags := 2, nameIndex := 169, descriptorIndex := 119, attributes := #[] }, { accessFlags := 2, nameIndex := 122, descriptorIndex := 123, attributes := #[] }, { accessFlags := 2, nameIndex := 178, descriptorIndex := 179, attributes := #[] }, { accessFlags := 2, nameIndex := 183, descriptorIndex := 6, attributes := #[] }, { accessFlags := 2, nameIndex := 195, descriptorIndex := 123, attributes := #[] }, { accessFlags := 2, nameIndex := 198, descriptorIndex := 199, attributes := #[] }, { accessFlags := 2, nameIndex := 189, descriptorIndex := 179, attributes := #[] }, { accessFlags := 2, nameIndex := 202, descriptorIndex := 203, attributes := #[] }, { accessFlags := 2, nameIndex := 192, descriptorIndex := 179, attributes := #[] }, { accessFlags := 2, nameIndex := 186, descriptorIndex := 123, attributes := #[] }, { accessFlags := 2, nameIndex := 213, descriptorIndex := 123, attributes := #[] }, { accessFlags := 2, nameIndex := 210, descriptorIndex := 123, attributes := #[] }, { accessFlags := 2, nameIndex := 206, descriptorIndex := 207, attributes := #[] }, { accessFlags := 2, nameIndex := 129, descriptorIndex := 6, attributes := #[] }, { accessFlags := 2, nameIndex := 219, descriptorIndex := 123, attributes := #[] }, { accessFlags := 2, nameIndex := 132, descriptorIndex := 119, attributes := #[] }, { accessFlags := 2, nameIndex := 216, descriptorIndex := 159, attributes := #[] }] 49 2 #[] #[{ accessFlags := 25, nameIndex := 220, descriptorIndex := 74, attributes := #[] }, { accessFlags := 25, nameIndex := 223, descriptorIndex := 74, attributes := #[] }, { accessFlags := 25, nameIndex := 225, descriptorIndex := 74, attributes := #[] }, { accessFlags := 25, nameIndex := 227, descriptorIndex := 74, attributes := #[] }, { accessFlags := 25, nameIndex := 229, descriptorIndex := 74, attributes := #[] }, { accessFlags := 25, nameIndex := 231, descriptorIndex := 74, attributes := #[] }, { accessFlags := 25, nameIndex := 233, descriptorIndex := 74, attributes := #[] }, { accessFlags := 25, nameIndex := 235, descriptorIndex := 74, attributes := #[] }, { accessFlags := 25, nameIndex := 237, descriptorIndex := 74, attributes := #[] }, { accessFlags := 25, nameIndex := 239, descriptorIndex := 74, attributes := #[] }, { accessFlags := 25, nameIndex := 241, descriptorIndex := 74, attributes := #[] }, { accessFlags := 25, nameIndex := 243, descriptorIndex := 74, attributes := #[] }, { accessFlags := 25, nameIndex := 245, descriptorIndex := 74, attributes := #[] }, { accessFlags := 25, nameIndex := 247, descriptorIndex := 74, attributes := #[] }, { accessFlags := 2, nameIndex := 73, descriptorIndex := 74, attributes := #[] }, { accessFlags := 2, nameIndex := 77, descriptorIndex := 74, attributes := #[] }, { accessFlags := 2, nameIndex := 86, descriptorIndex := 74, attributes := #[] }, { accessFlags := 2, nameIndex := 11, descriptorIndex := 12, attributes := #[] }, { accessFlags := 2, nameIndex := 89, descriptorIndex := 90, attributes := #[] }, { accessFlags := 2, nameIndex := 97, descriptorIndex := 74, attributes := #[] }, { accessFlags := 2, nameIndex := 100, descriptorIndex := 74, attributes := #[] }, { accessFlags := 2, nameIndex := 103, descriptorIndex := 74, attributes := #[] }, { accessFlags := 2, nameIndex := 106, descriptorIndex := 74, attributes := #[] }, { accessFlags := 2, nameIndex := 109, descriptorIndex := 74, attributes := #[] }, { accessFlags := 2, nameIndex := 15, descriptorIndex := 12, attributes := #[] }, { accessFlags := 2, nameIndex := 18, descriptorIndex := 12, attributes := #[] }, { accessFlags := 2, nameIndex := 21, descriptorIndex := 12, attributes := #[] }, { accessFlags := 2, nameIndex := 24, descriptorIndex := 12, attributes := #[] }, { accessFlags := 2, nameIndex := 80, descriptorIndex := 74, attributes := #[] }, { accessFlags := 2, nameIndex := 27, descriptorIndex := 12, attributes := #[] }, { accessFlags := 2, nameIndex := 30, descriptorIndex := 12, attributes := #[] }, { accessFlags := 2, nameIndex := 33, descriptorIndex := 12, attributes := #[] }, { accessFlags := 2, nameIndex := 36, descriptorIndex := 37, attributes := #[] }, { accessFlags := 2, nameIndex := 40, descriptorIndex := 12, attributes := #[] }, { accessFlags := 2, nameIndex := 43, descriptorIndex := 12, attributes := #[] }, { accessFlags := 2, nameIndex := 46, descriptorIndex := 12, attributes := #[] }, { accessFlags := 2, nameIndex := 49, descriptorIndex := 37, attributes := #[] }, { accessFlags := 2, nameIndex := 52, descriptorIndex := 12, attributes := #[] }, { accessFlags := 2, nameIndex := 55, descriptorIndex := 12, attributes := #[] }, { accessFlags := 2, nameIndex := 58, descriptorIndex := 12, attributes := #[] }, { accessFlags := 2, nameIndex := 61, descriptorIndex := 37, attributes := #[] }, { accessFlags := 2, nameIndex := 64, descriptorIndex := 12, attributes := #[] }, { accessFlags := 2, nameIndex := 67, descriptorIndex := 12, attributes := #[] }, { accessFlags := 2, nameIndex := 70, descriptorIndex := 12, attributes := #[] }, { accessFlags := 2, nameIndex := 175, descriptorIndex := 74, attributes := #[] }])
  fields := #[{ name := "OK", type := .int, accessFlags := 25, slot := 0, constantValue := 0 }, { name := "BAD_VAR", type := .int, accessFlags := 25, slot := 1, constantValue := 0 }, { name := "BAD_VALUE", type := .int, accessFlags := 25, slot := 2, constantValue := 0 }, { name := "PENDING", type := .int, accessFlags := 25, slot := 3, constantValue := 0 }, { name := "NO_PENDING", type := .int, accessFlags := 25, slot := 4, constantValue := 0 }, { name := "DUPLICATE", type := .int, accessFlags := 25, slot := 5, constantValue := 0 }, { name := "FULL", type := .int, accessFlags := 25, slot := 6, constantValue := 0 }, { name := "CONFLICT", type := .int, accessFlags := 25, slot := 7, constantValue := 0 }, { name := "ALREADY", type := .int, accessFlags := 25, slot := 8, constantValue := 0 }, { name := "NOT_CHOSEN", type := .int, accessFlags := 25, slot := 9, constantValue := 0 }, { name := "NO_TABLE", type := .int, accessFlags := 25, slot := 10, constantValue := 0 }, { name := "BAD_SCOPE", type := .int, accessFlags := 25, slot := 11, constantValue := 0 }, { name := "MAX_TABLES", type := .int, accessFlags := 25, slot := 12, constantValue := 0 }, { name := "MAX_TUPLES", type := .int, accessFlags := 25, slot := 13, constantValue := 0 }, { name := "n", type := .int, accessFlags := 2, slot := 0, constantValue := 0 }, { name := "d", type := .int, accessFlags := 2, slot := 1, constantValue := 0 }, { name := "depth", type := .int, accessFlags := 2, slot := 2, constantValue := 0 }, { name := "root", type := (.array .int), accessFlags := 2, slot := 3, constantValue := 0 }, { name := "pending", type := .boolean, accessFlags := 2, slot := 4, constantValue := 0 }, { name := "pendArity", type := .int, accessFlags := 2, slot := 5, constantValue := 0 }, { name := "pendA", type := .int, accessFlags := 2, slot := 6, constantValue := 0 }, { name := "pendB", type := .int, accessFlags := 2, slot := 7, constantValue := 0 }, { name := "pendC", type := .int, accessFlags := 2, slot := 8, constantValue := 0 }, { name := "pendCount", type := .int, accessFlags := 2, slot := 9, constantValue := 0 }, { name := "pendCode", type := (.array .int), accessFlags := 2, slot := 10, constantValue := 0 }, { name := "choice", type := (.array .int), accessFlags := 2, slot := 11, constantValue := 0 }, { name := "fix", type := (.array .int), accessFlags := 2, slot := 12, constantValue := 0 }, { name := "digit", type := (.array .int), accessFlags := 2, slot := 13, constantValue := 0 }, { name := "top", type := .int, accessFlags := 2, slot := 14, constantValue := 0 }, { name := "lvl", type := (.array .int), accessFlags := 2, slot := 15, constantValue := 0 }, { name := "kid", type := (.array .int), accessFlags := 2, slot := 16, constantValue := 0 }, { name := "uniq", type := (.array .int), accessFlags := 2, slot := 17, constantValue := 0 }, { name := "mark", type := (.array .boolean), accessFlags := 2, slot := 18, constantValue := 0 }, { name := "remap", type := (.array .int), accessFlags := 2, slot := 19, constantValue := 0 }, { name := "cnt", type := (.array .int), accessFlags := 2, slot := 20, constantValue := 0 }, { name := "buf", type := (.array .int), accessFlags := 2, slot := 21, constantValue := 0 }, { name := "allowT", type := (.array .boolean), accessFlags := 2, slot := 22, constantValue := 0 }, { name := "memoA", type := (.array .int), accessFlags := 2, slot := 23, constantValue := 0 }, { name := "memoB", type := (.array .int), accessFlags := 2, slot := 24, constantValue := 0 }, { name := "memoR", type := (.array .int), accessFlags := 2, slot := 25, constantValue := 0 }, { name := "memoUsed", type := (.array .boolean), accessFlags := 2, slot := 26, constantValue := 0 }, { name := "stU", type := (.array .int), accessFlags := 2, slot := 27, constantValue := 0 }, { name := "stV", type := (.array .int), accessFlags := 2, slot := 28, constantValue := 0 }, { name := "stPh", type := (.array .int), accessFlags := 2, slot := 29, constantValue := 0 }, { name := "sp", type := .int, accessFlags := 2, slot := 30, constantValue := 0 }]
  methods := #[k2m0, k2m1, k2m2, k2m3, k2m4, k2m5, k2m6, k2m7, k2m8, k2m9, k2m10, k2m11, k2m12, k2m13, k2m14, k2m15, k2m16, k2m17, k2m18, k2m19, k2m20, k2m21, k2m22, k2m23, k2m24, k2m25, k2m26, k2m27, k2m28, k2m29, k2m30, k2m31, k2m32, k2m33, k2m34, k2m35, k2m36, k2m37, k2m38]
  instanceTypes := #[.int, .int, .int, (.array .int), .boolean, .int, .int, .int, .int, .int, (.array .int), (.array .int), (.array .int), (.array .int), .int, (.array .int), (.array .int), (.array .int), (.array .boolean), (.array .int), (.array .int), (.array .int), (.array .boolean), (.array .int), (.array .int), (.array .int), (.array .boolean), (.array .int), (.array .int), (.array .int), .int]
  staticTypes := #[.int, .int, .int, .int, .int, .int, .int, .int, .int, .int, .int, .int, .int, .int]
  resolved := Array.replicate 270 none
  statics := none }

def pool3 : Array CpInfo := pool [(1, u "java/lang/Cloneable"), (0, .class_ 1), (0, u "java/lang/Object"), (0, .class_ 3)] 3

/-- java/lang/Cloneable -/
def k3 : Class := { plain "java/lang/Cloneable" (some 0) with
  accessFlags := 1537
  interfaces := #[]
  cf := some (fileOf pool3 2 #[] #[] 1537 4 #[] #[])
  fields := #[]
  methods := #[]
  instanceTypes := #[]
  staticTypes := #[]
  resolved := Array.replicate 8 none
  statics := none }

def pool4 : Array CpInfo := pool [(1, u "java/io/Serializable"), (0, .class_ 1), (0, u "java/lang/Object"), (0, .class_ 3)] 3

/-- java/io/Serializable -/
def k4 : Class := { plain "java/io/Serializable" (some 0) with
  accessFlags := 1537
  interfaces := #[]
  cf := some (fileOf pool4 2 #[] #[] 1537 4 #[] #[])
  fields := #[]
  methods := #[]
  instanceTypes := #[]
  staticTypes := #[]
  resolved := Array.replicate 8 none
  statics := none }

/-- the primitive boolean -/
def k5 : Class := { plain "boolean" none with kind := .primitive 'Z', accessFlags := 0x411 }
/-- [Z -/
def k6 : Class := { plain "[Z" (some 0) with kind := .array 5 .boolean, interfaces := #[3, 4], accessFlags := 1041 }

/-- the primitive byte -/
def k7 : Class := { plain "byte" none with kind := .primitive 'B', accessFlags := 0x411 }
/-- [B -/
def k8 : Class := { plain "[B" (some 0) with kind := .array 7 .byte, interfaces := #[3, 4], accessFlags := 1041 }

/-- the primitive int -/
def k9 : Class := { plain "int" none with kind := .primitive 'I', accessFlags := 0x411 }
/-- [I -/
def k10 : Class := { plain "[I" (some 0) with kind := .array 9 .int, interfaces := #[3, 4], accessFlags := 1041 }

def heap : Heap := #[]
def classes : Array Class := #[k0, k1, k2, k3, k4, k5, k6, k7, k8, k9, k10]
def interned : List (Array UInt16 × Addr) := []
def slotsUsed : Nat := 0
def theMethod : MethodId := ⟨1, 2⟩
def args0 : Array Value := #[.int 5, .int 5, .int 5, .int 5, .int 5, .int 5]
def aboutOver (below : List Frame) : State where
  vm := { classes := classes, interned := interned.toArray }
  heap := heap
  slotsUsed := slotsUsed
  threads := #[{ frames := .invoking theMethod args0 :: below }]
def below0 : List Frame := [.native { method := ⟨0, 0⟩, args := #[] }]
def about1 : State := aboutOver below0
def p0 : Program := .bare "" "" ""
def e0 : Env := launch0.env 0 0 0
theorem w_frames : about1.frames = Frame.invoking theMethod args0 :: below0 := rfl
set_option maxRecDepth 65536 in
theorem w_args : argsFit about1.vm theMethod args0 = true := by decide +kernel
set_option maxRecDepth 65536 in
theorem w_heap : heapFits about1 = true := by decide +kernel
set_option maxRecDepth 65536 in
theorem w_runnable : about1.curStatus? = some .runnable := by decide +kernel
set_option maxRecDepth 65536 in
theorem w_alone : about1.alone = true := by decide +kernel
set_option maxRecDepth 65536 in
theorem w_named : about1.methodNamed? x = some theMethod := by decide +kernel
set_option maxRecDepth 65536 in
theorem w_hears : about1.hears theMethod below0 = true := by decide +kernel
set_option maxRecDepth 65536 in
theorem w_ripe : about1.ripe theMethod args0 below0 = true := by decide +kernel
theorem w_running : about1.status = .running := rfl
set_option maxRecDepth 65536 in
theorem w_room : about1.hasRoom e0.platform room_1 = true :=
  launch0.hasRoom_least _ room_1 (by decide +kernel) (by decide +kernel) (by decide +kernel) (by decide +kernel) (by decide +kernel) (by decide +kernel)
theorem allAtoms_all (ts : List Jvm.Cond) (a : Array Jvm.Value) (st : Jvm.State) : (allAtoms ts).before a st = ts.all (fun c => c.before a st) := by
  induction ts with
  | nil => rfl
  | cons c t ih =>
    show (Jvm.Cond.and c (allAtoms t)).before a st = _
    rw [Jvm.Cond.before_and, ih, List.all_cons]
def words1 : List Jvm.Cond := Jvm.Cond.code x code maxLocals ret :: tables_1
/-- a 'code' word, met by the world's own term for the bytes: nothing is compared byte by byte -/
theorem code_word {y : MethodName} {bytes : ByteArray} {mx : Nat} {rt : Option FieldType} {a : Array Value} {s : State} {m : MethodId} {meth : Method} {c : Code} (h1 : s.methodNamed? y = some m) (h2 : s.vm.method? m = some meth) (h3 : meth.code = some c) (h4 : c.code = bytes)
    (h5 : (c.maxLocals == mx && c.exceptionTable.isEmpty && decide (c.maxStack ≤ mostOperands) && decide (meth.sig.returnType = rt) && !meth.locks && decide (parseMethodDescriptor y.desc = some meth.sig)) = true) : (Jvm.Cond.code y bytes mx rt).before a s = true := by
  simp only [Bool.and_eq_true, beq_iff_eq, Bool.not_eq_true', decide_eq_true_eq] at h5
  obtain ⟨⟨⟨⟨⟨g1, g2⟩, g3⟩, g4⟩, g5⟩, g6⟩ := h5
  simp [Cond.before, Cond.holds, Cond.value, h1, h2, h3, h4, g1, g2, g3, g4, g5, g6]
def isCode : Jvm.Cond → Bool
  | .code _ _ _ _ => true
  | _ => false
theorem all_split {L : List Jvm.Cond} {P : Jvm.Cond → Bool} (h1 : L.all (fun c => isCode c || P c) = true) (h2 : ∀ c ∈ L.filter isCode, P c = true) : L.all P = true := by
  refine List.all_eq_true.mpr fun c hc => ?_
  have h := List.all_eq_true.mp h1 c hc
  rcases Bool.eq_false_or_eq_true (isCode c) with hi | hi
  · exact h2 c (List.mem_filter.mpr ⟨hc, hi⟩)
  · simpa [hi] using h
set_option maxRecDepth 65536 in
theorem w_c0 : (Jvm.Cond.code x code maxLocals ret).before args0 about1 = true := code_word (m := ⟨1, 2⟩) (meth := k1m2) (c := k1c2) (by decide +kernel) rfl rfl rfl (by decide +kernel)
set_option maxRecDepth 65536 in
theorem w_c1 : (Jvm.Cond.code ({ cls := "MddConfigurator", name := "<init>", desc := "(II)V" } : Jvm.MethodName) prog_1_method_1_code (4 : Nat) (Option.none : Option Jvm.ClassFile.FieldType)).before args0 about1 = true := code_word (m := ⟨2, 0⟩) (meth := k2m0) (c := k2c0) (by decide +kernel) rfl rfl rfl (by decide +kernel)
set_option maxRecDepth 65536 in
theorem w_c2 : (Jvm.Cond.code ({ cls := "java/lang/Object", name := "<init>", desc := "()V" } : Jvm.MethodName) object_method_1_code (1 : Nat) (Option.none : Option Jvm.ClassFile.FieldType)).before args0 about1 = true := code_word (m := ⟨0, 0⟩) (meth := k0m0) (c := k0c0) (by decide +kernel) rfl rfl rfl (by decide +kernel)
set_option maxRecDepth 65536 in
theorem w_c3 : (Jvm.Cond.code ({ cls := "MddConfigurator", name := "clearUnique", desc := "()V" } : Jvm.MethodName) prog_1_method_21_code (2 : Nat) (Option.none : Option Jvm.ClassFile.FieldType)).before args0 about1 = true := code_word (m := ⟨2, 13⟩) (meth := k2m13) (c := k2c13) (by decide +kernel) rfl rfl rfl (by decide +kernel)
set_option maxRecDepth 65536 in
theorem w_c4 : (Jvm.Cond.code ({ cls := "MddConfiguratorL3", name := "in", desc := "(I)Z" } : Jvm.MethodName) method_2_code (1 : Nat) (Option.some Jvm.ClassFile.FieldType.boolean)).before args0 about1 = true := code_word (m := ⟨1, 1⟩) (meth := k1m1) (c := k1c1) (by decide +kernel) rfl rfl rfl (by decide +kernel)
set_option maxRecDepth 65536 in
theorem w_c5 : (Jvm.Cond.code ({ cls := "MddConfigurator", name := "beginTable", desc := "(III)I" } : Jvm.MethodName) prog_1_method_4_code (5 : Nat) (Option.some Jvm.ClassFile.FieldType.int)).before args0 about1 = true := code_word (m := ⟨2, 1⟩) (meth := k2m1) (c := k2c1) (by decide +kernel) rfl rfl rfl (by decide +kernel)
set_option maxRecDepth 65536 in
theorem w_c6 : (Jvm.Cond.code ({ cls := "MddConfigurator", name := "validVar", desc := "(I)Z" } : Jvm.MethodName) prog_1_method_18_code (2 : Nat) (Option.some Jvm.ClassFile.FieldType.boolean)).before args0 about1 = true := code_word (m := ⟨2, 10⟩) (meth := k2m10) (c := k2c10) (by decide +kernel) rfl rfl rfl (by decide +kernel)
set_option maxRecDepth 65536 in
theorem w_c7 : (Jvm.Cond.code ({ cls := "MddConfigurator", name := "addTuple", desc := "(III)I" } : Jvm.MethodName) prog_1_method_5_code (6 : Nat) (Option.some Jvm.ClassFile.FieldType.int)).before args0 about1 = true := code_word (m := ⟨2, 2⟩) (meth := k2m2) (c := k2c2) (by decide +kernel) rfl rfl rfl (by decide +kernel)
set_option maxRecDepth 65536 in
theorem w_c8 : (Jvm.Cond.code ({ cls := "MddConfigurator", name := "validValue", desc := "(I)Z" } : Jvm.MethodName) prog_1_method_19_code (2 : Nat) (Option.some Jvm.ClassFile.FieldType.boolean)).before args0 about1 = true := code_word (m := ⟨2, 11⟩) (meth := k2m11) (c := k2c11) (by decide +kernel) rfl rfl rfl (by decide +kernel)
set_option maxRecDepth 65536 in
theorem w_c9 : (Jvm.Cond.code ({ cls := "MddConfigurator", name := "commitTable", desc := "()I" } : Jvm.MethodName) prog_1_method_6_code (3 : Nat) (Option.some Jvm.ClassFile.FieldType.int)).before args0 about1 = true := code_word (m := ⟨2, 3⟩) (meth := k2m3) (c := k2c3) (by decide +kernel) rfl rfl rfl (by decide +kernel)
set_option maxRecDepth 65536 in
theorem w_c10 : (Jvm.Cond.code ({ cls := "MddConfigurator", name := "ensureRoom", desc := "()V" } : Jvm.MethodName) prog_1_method_26_code (1 : Nat) (Option.none : Option Jvm.ClassFile.FieldType)).before args0 about1 = true := code_word (m := ⟨2, 18⟩) (meth := k2m18) (c := k2c18) (by decide +kernel) rfl rfl rfl (by decide +kernel)
set_option maxRecDepth 65536 in
theorem w_c11 : (Jvm.Cond.code ({ cls := "MddConfigurator", name := "compileTable", desc := "()I" } : Jvm.MethodName) prog_1_method_30_code (3 : Nat) (Option.some Jvm.ClassFile.FieldType.int)).before args0 about1 = true := code_word (m := ⟨2, 19⟩) (meth := k2m19) (c := k2c19) (by decide +kernel) rfl rfl rfl (by decide +kernel)
set_option maxRecDepth 65536 in
theorem w_c12 : (Jvm.Cond.code ({ cls := "MddConfigurator", name := "pow", desc := "(I)I" } : Jvm.MethodName) prog_1_method_20_code (4 : Nat) (Option.some Jvm.ClassFile.FieldType.int)).before args0 about1 = true := code_word (m := ⟨2, 12⟩) (meth := k2m12) (c := k2c12) (by decide +kernel) rfl rfl rfl (by decide +kernel)
set_option maxRecDepth 65536 in
theorem w_c13 : (Jvm.Cond.code ({ cls := "MddConfigurator", name := "decode", desc := "(I)V" } : Jvm.MethodName) prog_1_method_31_code (4 : Nat) (Option.none : Option Jvm.ClassFile.FieldType)).before args0 about1 = true := code_word (m := ⟨2, 20⟩) (meth := k2m20) (c := k2c20) (by decide +kernel) rfl rfl rfl (by decide +kernel)
set_option maxRecDepth 65536 in
theorem w_c14 : (Jvm.Cond.code ({ cls := "MddConfigurator", name := "scopeCode", desc := "()I" } : Jvm.MethodName) prog_1_method_32_code (2 : Nat) (Option.some Jvm.ClassFile.FieldType.int)).before args0 about1 = true := code_word (m := ⟨2, 21⟩) (meth := k2m21) (c := k2c21) (by decide +kernel) rfl rfl rfl (by decide +kernel)
set_option maxRecDepth 65536 in
theorem w_c15 : (Jvm.Cond.code ({ cls := "MddConfigurator", name := "reduceBuffer", desc := "()I" } : Jvm.MethodName) prog_1_method_33_code (9 : Nat) (Option.some Jvm.ClassFile.FieldType.int)).before args0 about1 = true := code_word (m := ⟨2, 22⟩) (meth := k2m22) (c := k2c22) (by decide +kernel) rfl rfl rfl (by decide +kernel)
set_option maxRecDepth 65536 in
theorem w_c16 : (Jvm.Cond.code ({ cls := "MddConfigurator", name := "mk", desc := "(IIIII)I" } : Jvm.MethodName) prog_1_method_24_code (10 : Nat) (Option.some Jvm.ClassFile.FieldType.int)).before args0 about1 = true := code_word (m := ⟨2, 16⟩) (meth := k2m16) (c := k2c16) (by decide +kernel) rfl rfl rfl (by decide +kernel)
set_option maxRecDepth 65536 in
theorem w_c17 : (Jvm.Cond.code ({ cls := "MddConfigurator", name := "hashOf", desc := "(IIIII)I" } : Jvm.MethodName) prog_1_method_22_code (7 : Nat) (Option.some Jvm.ClassFile.FieldType.int)).before args0 about1 = true := code_word (m := ⟨2, 14⟩) (meth := k2m14) (c := k2c14) (by decide +kernel) rfl rfl rfl (by decide +kernel)
set_option maxRecDepth 65536 in
theorem w_c18 : (Jvm.Cond.code ({ cls := "MddConfigurator", name := "newNode", desc := "(IIIIII)I" } : Jvm.MethodName) prog_1_method_25_code (9 : Nat) (Option.some Jvm.ClassFile.FieldType.int)).before args0 about1 = true := code_word (m := ⟨2, 17⟩) (meth := k2m17) (c := k2c17) (by decide +kernel) rfl rfl rfl (by decide +kernel)
set_option maxRecDepth 65536 in
theorem w_c19 : (Jvm.Cond.code ({ cls := "MddConfigurator", name := "conjoin", desc := "(II)I" } : Jvm.MethodName) prog_1_method_34_code (4 : Nat) (Option.some Jvm.ClassFile.FieldType.int)).before args0 about1 = true := code_word (m := ⟨2, 23⟩) (meth := k2m23) (c := k2c23) (by decide +kernel) rfl rfl rfl (by decide +kernel)
set_option maxRecDepth 65536 in
theorem w_c20 : (Jvm.Cond.code ({ cls := "MddConfigurator", name := "push", desc := "(II)V" } : Jvm.MethodName) prog_1_method_35_code (3 : Nat) (Option.none : Option Jvm.ClassFile.FieldType)).before args0 about1 = true := code_word (m := ⟨2, 24⟩) (meth := k2m24) (c := k2c24) (by decide +kernel) rfl rfl rfl (by decide +kernel)
set_option maxRecDepth 65536 in
theorem w_c21 : (Jvm.Cond.code ({ cls := "MddConfigurator", name := "step", desc := "()V" } : Jvm.MethodName) prog_1_method_36_code (4 : Nat) (Option.none : Option Jvm.ClassFile.FieldType)).before args0 about1 = true := code_word (m := ⟨2, 25⟩) (meth := k2m25) (c := k2c25) (by decide +kernel) rfl rfl rfl (by decide +kernel)
set_option maxRecDepth 65536 in
theorem w_c22 : (Jvm.Cond.code ({ cls := "MddConfigurator", name := "resolve", desc := "(II)I" } : Jvm.MethodName) prog_1_method_42_code (3 : Nat) (Option.some Jvm.ClassFile.FieldType.int)).before args0 about1 = true := code_word (m := ⟨2, 31⟩) (meth := k2m31) (c := k2c31) (by decide +kernel) rfl rfl rfl (by decide +kernel)
set_option maxRecDepth 65536 in
theorem w_c23 : (Jvm.Cond.code ({ cls := "MddConfigurator", name := "count", desc := "()I" } : Jvm.MethodName) prog_1_method_14_code (1 : Nat) (Option.some Jvm.ClassFile.FieldType.int)).before args0 about1 = true := code_word (m := ⟨2, 7⟩) (meth := k2m7) (c := k2c7) (by decide +kernel) rfl rfl rfl (by decide +kernel)
set_option maxRecDepth 65536 in
theorem w_c24 : (Jvm.Cond.code ({ cls := "MddConfigurator", name := "loadChoices", desc := "()V" } : Jvm.MethodName) prog_1_method_46_code (2 : Nat) (Option.none : Option Jvm.ClassFile.FieldType)).before args0 about1 = true := code_word (m := ⟨2, 35⟩) (meth := k2m35) (c := k2c35) (by decide +kernel) rfl rfl rfl (by decide +kernel)
set_option maxRecDepth 65536 in
theorem w_c25 : (Jvm.Cond.code ({ cls := "MddConfigurator", name := "countFixed", desc := "()I" } : Jvm.MethodName) prog_1_method_48_code (3 : Nat) (Option.some Jvm.ClassFile.FieldType.int)).before args0 about1 = true := code_word (m := ⟨2, 37⟩) (meth := k2m37) (c := k2c37) (by decide +kernel) rfl rfl rfl (by decide +kernel)
set_option maxRecDepth 65536 in
theorem w_c26 : (Jvm.Cond.code ({ cls := "MddConfigurator", name := "gap", desc := "(II)I" } : Jvm.MethodName) prog_1_method_47_code (5 : Nat) (Option.some Jvm.ClassFile.FieldType.int)).before args0 about1 = true := code_word (m := ⟨2, 36⟩) (meth := k2m36) (c := k2c36) (by decide +kernel) rfl rfl rfl (by decide +kernel)
set_option maxRecDepth 65536 in
theorem w_c27 : (Jvm.Cond.code ({ cls := "MddConfigurator", name := "offeredMask", desc := "(I)I" } : Jvm.MethodName) prog_1_method_13_code (4 : Nat) (Option.some Jvm.ClassFile.FieldType.int)).before args0 about1 = true := code_word (m := ⟨2, 6⟩) (meth := k2m6) (c := k2c6) (by decide +kernel) rfl rfl rfl (by decide +kernel)
set_option maxRecDepth 65536 in
theorem w_c28 : (Jvm.Cond.code ({ cls := "MddConfigurator", name := "countWith", desc := "(II)I" } : Jvm.MethodName) prog_1_method_15_code (3 : Nat) (Option.some Jvm.ClassFile.FieldType.int)).before args0 about1 = true := code_word (m := ⟨2, 8⟩) (meth := k2m8) (c := k2c8) (by decide +kernel) rfl rfl rfl (by decide +kernel)
set_option maxRecDepth 65536 in
theorem w_c29 : (Jvm.Cond.code ({ cls := "MddConfigurator", name := "tableCount", desc := "()I" } : Jvm.MethodName) prog_1_method_16_code (1 : Nat) (Option.some Jvm.ClassFile.FieldType.int)).before args0 about1 = true := code_word (m := ⟨2, 9⟩) (meth := k2m9) (c := k2c9) (by decide +kernel) rfl rfl rfl (by decide +kernel)
set_option maxRecDepth 65536 in
theorem w_c30 : (Jvm.Cond.code ({ cls := "MddConfigurator", name := "choose", desc := "(II)I" } : Jvm.MethodName) prog_1_method_9_code (3 : Nat) (Option.some Jvm.ClassFile.FieldType.int)).before args0 about1 = true := code_word (m := ⟨2, 5⟩) (meth := k2m5) (c := k2c5) (by decide +kernel) rfl rfl rfl (by decide +kernel)
set_option maxRecDepth 65536 in
theorem w_c31 : (Jvm.Cond.code ({ cls := "MddConfigurator", name := "dropLastTable", desc := "()I" } : Jvm.MethodName) prog_1_method_8_code (1 : Nat) (Option.some Jvm.ClassFile.FieldType.int)).before args0 about1 = true := code_word (m := ⟨2, 4⟩) (meth := k2m4) (c := k2c4) (by decide +kernel) rfl rfl rfl (by decide +kernel)
set_option maxRecDepth 65536 in
theorem w_c32 : (Jvm.Cond.code ({ cls := "MddConfigurator", name := "nodeCount", desc := "(I)I" } : Jvm.MethodName) prog_1_method_49_code (7 : Nat) (Option.some Jvm.ClassFile.FieldType.int)).before args0 about1 = true := code_word (m := ⟨2, 38⟩) (meth := k2m38) (c := k2c38) (by decide +kernel) rfl rfl rfl (by decide +kernel)
set_option maxRecDepth 65536 in
theorem w_c33 : (Jvm.Cond.code ({ cls := "MddConfigurator", name := "sameNode", desc := "(IIIIII)Z" } : Jvm.MethodName) prog_1_method_23_code (8 : Nat) (Option.some Jvm.ClassFile.FieldType.boolean)).before args0 about1 = true := code_word (m := ⟨2, 15⟩) (meth := k2m15) (c := k2c15) (by decide +kernel) rfl rfl rfl (by decide +kernel)
set_option maxRecDepth 65536 in
theorem w_c34 : (Jvm.Cond.code ({ cls := "MddConfigurator", name := "memoFind", desc := "(II)I" } : Jvm.MethodName) prog_1_method_44_code (7 : Nat) (Option.some Jvm.ClassFile.FieldType.int)).before args0 about1 = true := code_word (m := ⟨2, 33⟩) (meth := k2m33) (c := k2c33) (by decide +kernel) rfl rfl rfl (by decide +kernel)
set_option maxRecDepth 65536 in
theorem w_c35 : (Jvm.Cond.code ({ cls := "MddConfigurator", name := "memoSlot", desc := "(II)I" } : Jvm.MethodName) prog_1_method_43_code (4 : Nat) (Option.some Jvm.ClassFile.FieldType.int)).before args0 about1 = true := code_word (m := ⟨2, 32⟩) (meth := k2m32) (c := k2c32) (by decide +kernel) rfl rfl rfl (by decide +kernel)
set_option maxRecDepth 65536 in
theorem w_c36 : (Jvm.Cond.code ({ cls := "MddConfigurator", name := "pushChildren", desc := "(II)V" } : Jvm.MethodName) prog_1_method_39_code (7 : Nat) (Option.none : Option Jvm.ClassFile.FieldType)).before args0 about1 = true := code_word (m := ⟨2, 28⟩) (meth := k2m28) (c := k2c28) (by decide +kernel) rfl rfl rfl (by decide +kernel)
set_option maxRecDepth 65536 in
theorem w_c37 : (Jvm.Cond.code ({ cls := "MddConfigurator", name := "topLevel", desc := "(II)I" } : Jvm.MethodName) prog_1_method_37_code (3 : Nat) (Option.some Jvm.ClassFile.FieldType.int)).before args0 about1 = true := code_word (m := ⟨2, 26⟩) (meth := k2m26) (c := k2c26) (by decide +kernel) rfl rfl rfl (by decide +kernel)
set_option maxRecDepth 65536 in
theorem w_c38 : (Jvm.Cond.code ({ cls := "MddConfigurator", name := "cofactor", desc := "(III)I" } : Jvm.MethodName) prog_1_method_38_code (4 : Nat) (Option.some Jvm.ClassFile.FieldType.int)).before args0 about1 = true := code_word (m := ⟨2, 27⟩) (meth := k2m27) (c := k2c27) (by decide +kernel) rfl rfl rfl (by decide +kernel)
set_option maxRecDepth 65536 in
theorem w_c39 : (Jvm.Cond.code ({ cls := "MddConfigurator", name := "finishPair", desc := "(II)V" } : Jvm.MethodName) prog_1_method_41_code (9 : Nat) (Option.none : Option Jvm.ClassFile.FieldType)).before args0 about1 = true := code_word (m := ⟨2, 30⟩) (meth := k2m30) (c := k2c30) (by decide +kernel) rfl rfl rfl (by decide +kernel)
set_option maxRecDepth 65536 in
theorem w_c40 : (Jvm.Cond.code ({ cls := "MddConfigurator", name := "childResult", desc := "(IIII)I" } : Jvm.MethodName) prog_1_method_40_code (8 : Nat) (Option.some Jvm.ClassFile.FieldType.int)).before args0 about1 = true := code_word (m := ⟨2, 29⟩) (meth := k2m29) (c := k2c29) (by decide +kernel) rfl rfl rfl (by decide +kernel)
set_option maxRecDepth 65536 in
theorem w_c41 : (Jvm.Cond.code ({ cls := "MddConfigurator", name := "memoStore", desc := "(III)V" } : Jvm.MethodName) prog_1_method_45_code (8 : Nat) (Option.none : Option Jvm.ClassFile.FieldType)).before args0 about1 = true := code_word (m := ⟨2, 34⟩) (meth := k2m34) (c := k2c34) (by decide +kernel) rfl rfl rfl (by decide +kernel)
def codes1 : List Jvm.Cond := [Jvm.Cond.code x code maxLocals ret, Jvm.Cond.code ({ cls := "MddConfigurator", name := "<init>", desc := "(II)V" } : Jvm.MethodName) prog_1_method_1_code (4 : Nat) (Option.none : Option Jvm.ClassFile.FieldType), Jvm.Cond.code ({ cls := "java/lang/Object", name := "<init>", desc := "()V" } : Jvm.MethodName) object_method_1_code (1 : Nat) (Option.none : Option Jvm.ClassFile.FieldType), Jvm.Cond.code ({ cls := "MddConfigurator", name := "clearUnique", desc := "()V" } : Jvm.MethodName) prog_1_method_21_code (2 : Nat) (Option.none : Option Jvm.ClassFile.FieldType), Jvm.Cond.code ({ cls := "MddConfiguratorL3", name := "in", desc := "(I)Z" } : Jvm.MethodName) method_2_code (1 : Nat) (Option.some Jvm.ClassFile.FieldType.boolean), Jvm.Cond.code ({ cls := "MddConfigurator", name := "beginTable", desc := "(III)I" } : Jvm.MethodName) prog_1_method_4_code (5 : Nat) (Option.some Jvm.ClassFile.FieldType.int), Jvm.Cond.code ({ cls := "MddConfigurator", name := "validVar", desc := "(I)Z" } : Jvm.MethodName) prog_1_method_18_code (2 : Nat) (Option.some Jvm.ClassFile.FieldType.boolean), Jvm.Cond.code ({ cls := "MddConfigurator", name := "addTuple", desc := "(III)I" } : Jvm.MethodName) prog_1_method_5_code (6 : Nat) (Option.some Jvm.ClassFile.FieldType.int), Jvm.Cond.code ({ cls := "MddConfigurator", name := "validValue", desc := "(I)Z" } : Jvm.MethodName) prog_1_method_19_code (2 : Nat) (Option.some Jvm.ClassFile.FieldType.boolean), Jvm.Cond.code ({ cls := "MddConfigurator", name := "commitTable", desc := "()I" } : Jvm.MethodName) prog_1_method_6_code (3 : Nat) (Option.some Jvm.ClassFile.FieldType.int), Jvm.Cond.code ({ cls := "MddConfigurator", name := "ensureRoom", desc := "()V" } : Jvm.MethodName) prog_1_method_26_code (1 : Nat) (Option.none : Option Jvm.ClassFile.FieldType), Jvm.Cond.code ({ cls := "MddConfigurator", name := "compileTable", desc := "()I" } : Jvm.MethodName) prog_1_method_30_code (3 : Nat) (Option.some Jvm.ClassFile.FieldType.int), Jvm.Cond.code ({ cls := "MddConfigurator", name := "pow", desc := "(I)I" } : Jvm.MethodName) prog_1_method_20_code (4 : Nat) (Option.some Jvm.ClassFile.FieldType.int), Jvm.Cond.code ({ cls := "MddConfigurator", name := "decode", desc := "(I)V" } : Jvm.MethodName) prog_1_method_31_code (4 : Nat) (Option.none : Option Jvm.ClassFile.FieldType), Jvm.Cond.code ({ cls := "MddConfigurator", name := "scopeCode", desc := "()I" } : Jvm.MethodName) prog_1_method_32_code (2 : Nat) (Option.some Jvm.ClassFile.FieldType.int), Jvm.Cond.code ({ cls := "MddConfigurator", name := "reduceBuffer", desc := "()I" } : Jvm.MethodName) prog_1_method_33_code (9 : Nat) (Option.some Jvm.ClassFile.FieldType.int), Jvm.Cond.code ({ cls := "MddConfigurator", name := "mk", desc := "(IIIII)I" } : Jvm.MethodName) prog_1_method_24_code (10 : Nat) (Option.some Jvm.ClassFile.FieldType.int), Jvm.Cond.code ({ cls := "MddConfigurator", name := "hashOf", desc := "(IIIII)I" } : Jvm.MethodName) prog_1_method_22_code (7 : Nat) (Option.some Jvm.ClassFile.FieldType.int), Jvm.Cond.code ({ cls := "MddConfigurator", name := "newNode", desc := "(IIIIII)I" } : Jvm.MethodName) prog_1_method_25_code (9 : Nat) (Option.some Jvm.ClassFile.FieldType.int), Jvm.Cond.code ({ cls := "MddConfigurator", name := "conjoin", desc := "(II)I" } : Jvm.MethodName) prog_1_method_34_code (4 : Nat) (Option.some Jvm.ClassFile.FieldType.int), Jvm.Cond.code ({ cls := "MddConfigurator", name := "push", desc := "(II)V" } : Jvm.MethodName) prog_1_method_35_code (3 : Nat) (Option.none : Option Jvm.ClassFile.FieldType), Jvm.Cond.code ({ cls := "MddConfigurator", name := "step", desc := "()V" } : Jvm.MethodName) prog_1_method_36_code (4 : Nat) (Option.none : Option Jvm.ClassFile.FieldType), Jvm.Cond.code ({ cls := "MddConfigurator", name := "resolve", desc := "(II)I" } : Jvm.MethodName) prog_1_method_42_code (3 : Nat) (Option.some Jvm.ClassFile.FieldType.int), Jvm.Cond.code ({ cls := "MddConfigurator", name := "count", desc := "()I" } : Jvm.MethodName) prog_1_method_14_code (1 : Nat) (Option.some Jvm.ClassFile.FieldType.int), Jvm.Cond.code ({ cls := "MddConfigurator", name := "loadChoices", desc := "()V" } : Jvm.MethodName) prog_1_method_46_code (2 : Nat) (Option.none : Option Jvm.ClassFile.FieldType), Jvm.Cond.code ({ cls := "MddConfigurator", name := "countFixed", desc := "()I" } : Jvm.MethodName) prog_1_method_48_code (3 : Nat) (Option.some Jvm.ClassFile.FieldType.int), Jvm.Cond.code ({ cls := "MddConfigurator", name := "gap", desc := "(II)I" } : Jvm.MethodName) prog_1_method_47_code (5 : Nat) (Option.some Jvm.ClassFile.FieldType.int), Jvm.Cond.code ({ cls := "MddConfigurator", name := "offeredMask", desc := "(I)I" } : Jvm.MethodName) prog_1_method_13_code (4 : Nat) (Option.some Jvm.ClassFile.FieldType.int), Jvm.Cond.code ({ cls := "MddConfigurator", name := "countWith", desc := "(II)I" } : Jvm.MethodName) prog_1_method_15_code (3 : Nat) (Option.some Jvm.ClassFile.FieldType.int), Jvm.Cond.code ({ cls := "MddConfigurator", name := "tableCount", desc := "()I" } : Jvm.MethodName) prog_1_method_16_code (1 : Nat) (Option.some Jvm.ClassFile.FieldType.int), Jvm.Cond.code ({ cls := "MddConfigurator", name := "choose", desc := "(II)I" } : Jvm.MethodName) prog_1_method_9_code (3 : Nat) (Option.some Jvm.ClassFile.FieldType.int), Jvm.Cond.code ({ cls := "MddConfigurator", name := "dropLastTable", desc := "()I" } : Jvm.MethodName) prog_1_method_8_code (1 : Nat) (Option.some Jvm.ClassFile.FieldType.int), Jvm.Cond.code ({ cls := "MddConfigurator", name := "nodeCount", desc := "(I)I" } : Jvm.MethodName) prog_1_method_49_code (7 : Nat) (Option.some Jvm.ClassFile.FieldType.int), Jvm.Cond.code ({ cls := "MddConfigurator", name := "sameNode", desc := "(IIIIII)Z" } : Jvm.MethodName) prog_1_method_23_code (8 : Nat) (Option.some Jvm.ClassFile.FieldType.boolean), Jvm.Cond.code ({ cls := "MddConfigurator", name := "memoFind", desc := "(II)I" } : Jvm.MethodName) prog_1_method_44_code (7 : Nat) (Option.some Jvm.ClassFile.FieldType.int), Jvm.Cond.code ({ cls := "MddConfigurator", name := "memoSlot", desc := "(II)I" } : Jvm.MethodName) prog_1_method_43_code (4 : Nat) (Option.some Jvm.ClassFile.FieldType.int), Jvm.Cond.code ({ cls := "MddConfigurator", name := "pushChildren", desc := "(II)V" } : Jvm.MethodName) prog_1_method_39_code (7 : Nat) (Option.none : Option Jvm.ClassFile.FieldType), Jvm.Cond.code ({ cls := "MddConfigurator", name := "topLevel", desc := "(II)I" } : Jvm.MethodName) prog_1_method_37_code (3 : Nat) (Option.some Jvm.ClassFile.FieldType.int), Jvm.Cond.code ({ cls := "MddConfigurator", name := "cofactor", desc := "(III)I" } : Jvm.MethodName) prog_1_method_38_code (4 : Nat) (Option.some Jvm.ClassFile.FieldType.int), Jvm.Cond.code ({ cls := "MddConfigurator", name := "finishPair", desc := "(II)V" } : Jvm.MethodName) prog_1_method_41_code (9 : Nat) (Option.none : Option Jvm.ClassFile.FieldType), Jvm.Cond.code ({ cls := "MddConfigurator", name := "childResult", desc := "(IIII)I" } : Jvm.MethodName) prog_1_method_40_code (8 : Nat) (Option.some Jvm.ClassFile.FieldType.int), Jvm.Cond.code ({ cls := "MddConfigurator", name := "memoStore", desc := "(III)V" } : Jvm.MethodName) prog_1_method_45_code (8 : Nat) (Option.none : Option Jvm.ClassFile.FieldType)]
set_option maxRecDepth 65536 in
theorem codes_eq : words1.filter isCode = codes1 := rfl
theorem w_codes : ∀ c ∈ words1.filter isCode, c.before args0 about1 = true := by
  rw [codes_eq]
  intro c hc
  simp only [codes1, List.mem_cons, List.not_mem_nil, or_false] at hc
  rcases hc with rfl | rfl | rfl | rfl | rfl | rfl | rfl | rfl | rfl | rfl | rfl | rfl | rfl | rfl | rfl | rfl | rfl | rfl | rfl | rfl | rfl | rfl | rfl | rfl | rfl | rfl | rfl | rfl | rfl | rfl | rfl | rfl | rfl | rfl | rfl | rfl | rfl | rfl | rfl | rfl | rfl | rfl
  · exact w_c0
  · exact w_c1
  · exact w_c2
  · exact w_c3
  · exact w_c4
  · exact w_c5
  · exact w_c6
  · exact w_c7
  · exact w_c8
  · exact w_c9
  · exact w_c10
  · exact w_c11
  · exact w_c12
  · exact w_c13
  · exact w_c14
  · exact w_c15
  · exact w_c16
  · exact w_c17
  · exact w_c18
  · exact w_c19
  · exact w_c20
  · exact w_c21
  · exact w_c22
  · exact w_c23
  · exact w_c24
  · exact w_c25
  · exact w_c26
  · exact w_c27
  · exact w_c28
  · exact w_c29
  · exact w_c30
  · exact w_c31
  · exact w_c32
  · exact w_c33
  · exact w_c34
  · exact w_c35
  · exact w_c36
  · exact w_c37
  · exact w_c38
  · exact w_c39
  · exact w_c40
  · exact w_c41
set_option maxRecDepth 65536 in
theorem w_t1 : (words1.take 24).all (fun c => isCode c || c.before args0 about1) = true := by decide +kernel
set_option maxRecDepth 65536 in
theorem w_t2 : ((words1.drop 24).take 24).all (fun c => isCode c || c.before args0 about1) = true := by decide +kernel
set_option maxRecDepth 65536 in
theorem w_t3 : (((words1.drop 24).drop 24).take 24).all (fun c => isCode c || c.before args0 about1) = true := by decide +kernel
set_option maxRecDepth 65536 in
theorem w_t4 : ((((words1.drop 24).drop 24).drop 24).take 24).all (fun c => isCode c || c.before args0 about1) = true := by decide +kernel
set_option maxRecDepth 65536 in
theorem w_t5 : (((((words1.drop 24).drop 24).drop 24).drop 24).take 24).all (fun c => isCode c || c.before args0 about1) = true := by decide +kernel
set_option maxRecDepth 65536 in
theorem w_t6 : ((((((words1.drop 24).drop 24).drop 24).drop 24).drop 24).take 24).all (fun c => isCode c || c.before args0 about1) = true := by decide +kernel
set_option maxRecDepth 65536 in
theorem w_t7 : (((((((words1.drop 24).drop 24).drop 24).drop 24).drop 24).drop 24).take 24).all (fun c => isCode c || c.before args0 about1) = true := by decide +kernel
set_option maxRecDepth 65536 in
theorem w_t8 : ((((((((words1.drop 24).drop 24).drop 24).drop 24).drop 24).drop 24).drop 24).take 24).all (fun c => isCode c || c.before args0 about1) = true := by decide +kernel
set_option maxRecDepth 65536 in
theorem w_t9 : (((((((((words1.drop 24).drop 24).drop 24).drop 24).drop 24).drop 24).drop 24).drop 24).take 24).all (fun c => isCode c || c.before args0 about1) = true := by decide +kernel
set_option maxRecDepth 65536 in
theorem w_t10 : ((((((((((words1.drop 24).drop 24).drop 24).drop 24).drop 24).drop 24).drop 24).drop 24).drop 24).take 24).all (fun c => isCode c || c.before args0 about1) = true := by decide +kernel
set_option maxRecDepth 65536 in
theorem w_t11 : ((((((((((words1.drop 24).drop 24).drop 24).drop 24).drop 24).drop 24).drop 24).drop 24).drop 24).drop 24).all (fun c => isCode c || c.before args0 about1) = true := by decide +kernel
theorem w_tables : (allAtoms (Jvm.Cond.code x code maxLocals ret :: tables_1)).before args0 about1 = true := by
  rw [allAtoms_all]
  show words1.all (fun c => c.before args0 about1) = true
  refine all_split ?_ w_codes
  rw [← List.take_append_drop 24 words1, List.all_append, w_t1, ← List.take_append_drop 24 (words1.drop 24), List.all_append, w_t2, ← List.take_append_drop 24 ((words1.drop 24).drop 24), List.all_append, w_t3, ← List.take_append_drop 24 (((words1.drop 24).drop 24).drop 24), List.all_append, w_t4, ← List.take_append_drop 24 ((((words1.drop 24).drop 24).drop 24).drop 24), List.all_append, w_t5, ← List.take_append_drop 24 (((((words1.drop 24).drop 24).drop 24).drop 24).drop 24), List.all_append, w_t6, ← List.take_append_drop 24 ((((((words1.drop 24).drop 24).drop 24).drop 24).drop 24).drop 24), List.all_append, w_t7, ← List.take_append_drop 24 (((((((words1.drop 24).drop 24).drop 24).drop 24).drop 24).drop 24).drop 24), List.all_append, w_t8, ← List.take_append_drop 24 ((((((((words1.drop 24).drop 24).drop 24).drop 24).drop 24).drop 24).drop 24).drop 24), List.all_append, w_t9, ← List.take_append_drop 24 (((((((((words1.drop 24).drop 24).drop 24).drop 24).drop 24).drop 24).drop 24).drop 24).drop 24), List.all_append, w_t10, w_t11]
  rfl
set_option maxRecDepth 65536 in
theorem w_case : (Jvm.Cond.and given_1 narrow_1).before args0 about1 = true := by decide +kernel
theorem w_applies : (headSpec (Jvm.Cond.code x code maxLocals ret :: tables_1) room_1).applies x e0.platform about1 = true :=
  (Spec.applies_iff w_frames).mpr ⟨w_running, w_runnable, w_alone, w_named, w_hears, w_ripe, w_room, w_tables⟩
theorem atStart : AtStart classFile x code maxLocals ret World_1 tables_1 room_1 Calls_1 rest_1 Pre_1 launch0 p0 e0 about1 theMethod args0 below0 :=
  ⟨lists_1, trivial, launch0.admits_env _ _ _, launch0.least_env, fairChoices_fair.cas, fairChoices_fair.clock, w_frames, w_args, w_heap, w_applies, trivial, trivial, w_case⟩
end start1
theorem witness_1 : WitnessClaimed_1 := ⟨start1.p0, start1.e0, start1.about1, start1.theMethod, start1.args0, start1.below0, start1.atStart⟩
end Jvm.Pilot.@@N@@
