import JvmDerived
import JvmDerived.Pilot.@@N@@Statement
import JvmDerived.Pilot.@@N@@Code
set_option linter.unusedVariables false
set_option linter.unusedSimpArgs false
namespace Jvm.Own
open Sem ClassFile Op Lib Jvm.Stand Jvm.Free Jvm.LawKit Jvm.RoadKit
/-! ## 1. Small heaps: a list of cells: an object of the one class (its fields in order), or an array (of booleans, of ints) -/
abbrev MCell := List Value ⊕ (Bool × List Int32)
abbrev MHeap := List MCell
abbrev Fd := String × String × FieldType
/-- start, its arguments, launch, the script's place, the heap's first length, the class, its fields, its slots -/
abbrev Ctx := State × Array Value × Launch × Option Nat × Nat × String × List Fd × Nat
abbrev gZ (G : Ctx) : State := G.1
abbrev gA (G : Ctx) : Array Value := G.2.1
abbrev gL (G : Ctx) : Launch := G.2.2.1
abbrev gS (G : Ctx) : Option Nat := G.2.2.2.1
abbrev gN (G : Ctx) : Nat := G.2.2.2.2.1
abbrev gC (G : Ctx) : String := G.2.2.2.2.2.1
abbrev gF (G : Ctx) : List Fd := G.2.2.2.2.2.2.1
abbrev gK (G : Ctx) : Nat := G.2.2.2.2.2.2.2
/-- a method: name, bytes, locals, result, frames and words that it needs -/
abbrev Mi := MethodName × ByteArray × Nat × Option FieldType × Nat × Nat
abbrev mN (M : Mi) : MethodName := M.1
abbrev mB (M : Mi) : ByteArray := M.2.1
abbrev mL (M : Mi) : Nat := M.2.2.1
abbrev mR (M : Mi) : Option FieldType := M.2.2.2.1
abbrev mF (M : Mi) : Nat := M.2.2.2.2.1
abbrev mW (M : Mi) : Nat := M.2.2.2.2.2
def rhoA (sa : Option Nat) (n0 i : Nat) : Nat := match sa with
  | none => n0 + i
  | some a => match i with
    | 0 => a
    | j + 1 => n0 + j
def k0A (sa : Option Nat) : Nat := match sa with
  | none => 0
  | some _ => 1
def rho (G : Ctx) (i : Nat) : Nat := rhoA (gS G) (gN G) i
def k0 (G : Ctx) : Nat := k0A (gS G)
def tr (G : Ctx) : Value → Value
  | .ref i => .ref (rho G i)
  | v => v
def trS (G : Ctx) : Slot → Slot
  | .val v => .val (tr G v)
  | s => s
theorem tr_cat (G : Ctx) (v : Value) : (tr G v).category = v.category := by cases v <;> rfl
theorem tr_cats (G : Ctx) (S : List Value) : ((S.map (tr G)).map fun v => v.category).sum = (S.map fun v => v.category).sum := by
  rw [List.map_map]
  congr 1
  exact List.map_congr_left fun v _ => tr_cat G v
def kd : Bool → FieldType
  | true => .boolean
  | false => .int
def CellAt (G : Ctx) (hr : Heap) (a : Nat) : MCell → Prop
  | .inl fs => Exa (gZ G) hr a (gC G) ∧ fs.length = (gF G).length ∧ ∀ (j : Nat) (n d : String) (ty : FieldType) (v : Value), (gF G)[j]? = some (n, d, ty) → fs[j]? = some v → Fld (gZ G) hr a (gC G) n d (tr G v)
  | .inr bx => ∃ c : Cell, Arr (gZ G) hr a c (kd bx.1) ∧ c.slots = (bx.2.map Value.int).toArray
def Rel (G : Ctx) (hr : Heap) (h : MHeap) : Prop :=
  hr.size + k0 G = gN G + h.length ∧ k0 G ≤ h.length ∧ (∀ a, gS G = some a → a < gN G) ∧ ∀ i c, h[i]? = some c → CellAt G hr (rho G i) c
/-- what the sheet says of the class -/
def GOk (G : Ctx) : Prop :=
  (∀ (j : Nat) (n d : String) (ty : FieldType), (gF G)[j]? = some (n, d, ty) → Laid (gZ G) (gA G) (gC G) (gC G) n d ∧ parseFieldDescriptor d = some ty) ∧
  (∀ (j j' : Nat) (f f' : Fd), (gF G)[j]? = some f → (gF G)[j']? = some f' → j ≠ j' → f.1 ≠ f'.1) ∧
  (Cond.instantiable (gC G) (gK G)).before (gA G) (gZ G) = true ∧ (Cond.initialized (gC G)).before (gA G) (gZ G) = true
theorem rhoA_inj {sa : Option Nat} {n0 i j : Nat} (h : ∀ a, sa = some a → a < n0) (e : rhoA sa n0 i = rhoA sa n0 j) : i = j := by
  cases sa with
  | none => simp only [rhoA] at e; omega
  | some a =>
    have := h a rfl
    cases i <;> cases j <;> simp only [rhoA] at e <;> omega
theorem rho_inj {G : Ctx} {i j : Nat} (h : ∀ a, gS G = some a → a < gN G) (e : rho G i = rho G j) : i = j := rhoA_inj h e
theorem rhoA_new {sa : Option Nat} {n0 i : Nat} (h : k0A sa ≤ i) : rhoA sa n0 i = n0 + (i - k0A sa) := by
  cases sa with
  | none => simp only [rhoA, k0A]; omega
  | some a =>
    cases i with
    | zero => simp only [k0A] at h; omega
    | succ j => simp only [rhoA, k0A]; omega
theorem rho_new {G : Ctx} {i : Nat} (h : k0 G ≤ i) : rho G i = gN G + (i - k0 G) := rhoA_new h
theorem rho_ge {G : Ctx} {i : Nat} (h : k0 G ≤ i) : gN G ≤ rho G i := by rw [rho_new h]; omega
theorem CellAt.other {G : Ctx} {hr hr' : Heap} {a b : Nat} {sl : Nat} {v : Value} (W : Wr hr hr' a sl v) (hne : b ≠ a) : ∀ {c : MCell}, CellAt G hr b c → CellAt G hr' b c
  | .inl _, ⟨h1, h2, h3⟩ => ⟨h1.wr W, h2, fun j n d ty v hf hv => Fld.other W (h3 j n d ty v hf hv) (Or.inl hne)⟩
  | .inr _, ⟨c, h1, h2⟩ => ⟨c, h1.other W hne, h2⟩
theorem CellAt.ext {G : Ctx} {hr hr' : Heap} {b : Nat} (E : Ext hr hr') : ∀ {c : MCell}, CellAt G hr b c → CellAt G hr' b c
  | .inl _, ⟨h1, h2, h3⟩ => ⟨h1.ext E, h2, fun j n d ty v hf hv => Fld.ext E (h3 j n d ty v hf hv)⟩
  | .inr _, ⟨c, h1, h2⟩ => ⟨c, h1.ext E, h2⟩
theorem Rel.push {G : Ctx} {hr hr' : Heap} {h : MHeap} {c : MCell} (R : Rel G hr h) (E : Ext hr hr') (hs : hr'.size = hr.size + 1) (hc : CellAt G hr' hr.size c) : Rel G hr' (h ++ [c]) := by
  obtain ⟨h1, h2, h3, h4⟩ := R
  refine ⟨by rw [List.length_append, List.length_singleton]; omega, by rw [List.length_append]; omega, h3, fun i c' hi => ?_⟩
  rcases Nat.lt_or_ge i h.length with q | q
  · rw [List.getElem?_append_left q] at hi
    exact (h4 i c' hi).ext E
  · have hi2 := hi
    rw [List.getElem?_append_right q] at hi2
    have : i - h.length = 0 := by
      rcases Nat.eq_zero_or_pos (i - h.length) with z | z
      · exact z
      · rw [List.getElem?_eq_none (by simp; omega)] at hi2; cases hi2
    have e : i = h.length := by omega
    subst e
    rw [Nat.sub_self] at hi2
    cases hi2
    have : rho G h.length = hr.size := by rw [rho_new h2]; omega
    rw [this]; exact hc
theorem Rel.wrArr {G : Ctx} {hr hr' : Heap} {h : MHeap} {i j : Nat} {b : Bool} {xs : List Int32} {x : Int32} (R : Rel G hr h) (hi : h[i]? = some (.inr (b, xs))) (W : Wr hr hr' (rho G i) j (.int x)) : Rel G hr' (h.set i (.inr (b, xs.set j x))) := by
  obtain ⟨h1, h2, h3, h4⟩ := R
  refine ⟨by rw [W.size, List.length_set]; exact h1, by rw [List.length_set]; exact h2, h3, fun k c' hk => ?_⟩
  by_cases e : i = k
  · subst e
    rw [List.getElem?_set_self (List.getElem?_eq_some_iff.mp hi).1] at hk
    cases hk
    obtain ⟨c, A, hs⟩ := h4 i _ hi
    refine ⟨c.setSlot j (.int x), A.same W, ?_⟩
    show c.slots.setIfInBounds j (.int x) = _
    rw [hs]
    simp [List.map_set]
  · rw [List.getElem?_set_ne e] at hk
    exact (h4 k c' hk).other W fun q => e (rho_inj h3 q).symm
theorem Rel.wrFld {G : Ctx} {hr hr' : Heap} {h : MHeap} {i j : Nat} {fs : List Value} {n d : String} {ty : FieldType} {v : Value} (R : Rel G hr h) (K : GOk G) (hi : h[i]? = some (.inl fs)) (hF : (gF G)[j]? = some (n, d, ty)) (W : Wr hr hr' (rho G i) (Jvm.RoadKit.slotOf (gZ G) (gC G) n d) (tr G v)) : Rel G hr' (h.set i (.inl (fs.set j v))) := by
  obtain ⟨h1, h2, h3, h4⟩ := R
  refine ⟨by rw [W.size, List.length_set]; exact h1, by rw [List.length_set]; exact h2, h3, fun k c' hk => ?_⟩
  by_cases e : i = k
  · subst e
    rw [List.getElem?_set_self (List.getElem?_eq_some_iff.mp hi).1] at hk
    cases hk
    obtain ⟨e1, e2, e3⟩ := h4 i _ hi
    refine ⟨e1.wr W, by rw [List.length_set]; exact e2, fun j' n' d' ty' v' hf' hv' => ?_⟩
    by_cases q : j = j'
    · subst q
      cases hF.symm.trans hf'
      have hlt : j < fs.length := by rw [e2]; exact (List.getElem?_eq_some_iff.mp hF).1
      rw [List.getElem?_set_self hlt] at hv'
      cases hv'
      obtain ⟨w, hw⟩ : ∃ w, fs[j]? = some w := ⟨_, List.getElem?_eq_getElem hlt⟩
      exact Fld.same W (e3 j n d ty w hF hw)
    · rw [List.getElem?_set_ne q] at hv'
      refine Fld.other W (e3 j' n' d' ty' v' hf' hv') (Or.inr ?_)
      exact slot_ne (K.1 j' n' d' ty' hf').1 (K.1 j n d ty hF).1 (K.2.1 j' j _ _ hf' hF (Ne.symm q)) (K.1 j' n' d' ty' hf').2 (K.1 j n d ty hF).2
  · rw [List.getElem?_set_ne e] at hk
    exact (h4 k c' hk).other W fun q => e (rho_inj h3 q).symm
def csl (k : Nat) : MCell → Nat
  | .inl _ => k
  | .inr bx => bx.2.length
def hsl (k : Nat) (h : MHeap) : Nat := (h.map (csl k)).sum
theorem hsl_push (k : Nat) (h : MHeap) (c : MCell) : hsl k (h ++ [c]) = hsl k h + csl k c := by simp [hsl]
theorem hsl_set (k : Nat) : ∀ (h : MHeap) (i : Nat) (c c' : MCell), h[i]? = some c → csl k c' = csl k c → hsl k (h.set i c') = hsl k h
  | [], _, _, _, h, _ => by simp at h
  | a :: t, 0, c, c', h, e => by simp at h; subst h; simp [hsl, e]
  | a :: t, i + 1, c, c', h, e => by
    have := hsl_set k t i c c' (by simpa using h) e
    simp only [hsl, List.set_cons_succ, List.map_cons, List.sum_cons] at this ⊢
    omega
/-! ## 2. Storing a local variable, on lists -/
def lsetAt (l : List Slot) (i : Nat) (x : Slot) : Option (List Slot) := if i < l.length then some (l.set i x) else none
def lstoreSelf (l : List Slot) (i : Nat) (v : Value) : Option (List Slot) :=
  match lsetAt l i (.val v) with
  | none => none
  | some l => if v.category = 2 then
      (match l[i + 1]? with
      | none => none
      | some (.val old) => if old.category = 2 then (match lsetAt l (i + 2) .unset with | none => none | some l2 => lsetAt l2 (i + 1) .second) else lsetAt l (i + 1) .second
      | some _ => lsetAt l (i + 1) .second)
    else some l
def mst (l : List Slot) (i : Nat) (v : Value) : Option (List Slot) :=
  match l[i]? with
  | none => none
  | some .second => (match lsetAt l (i - 1) .unset with | none => none | some l2 => lstoreSelf l2 i v)
  | some (.val old) => if old.category = 2 then (match lsetAt l (i + 1) .unset with | none => none | some l2 => lstoreSelf l2 i v) else lstoreSelf l i v
  | some .unset => lstoreSelf l i v
def arL (G : Ctx) (l : List Slot) : Array Slot := (l.map (trS G)).toArray
theorem setAt_map (G : Ctx) (l : List Slot) (i : Nat) (x : Slot) : setAt (arL G l) i (trS G x) = (lsetAt l i x).map (arL G) := by
  unfold setAt lsetAt arL
  by_cases h : i < l.length <;> simp [h, List.map_set]
theorem arL_get (G : Ctx) (l : List Slot) (i : Nat) : (arL G l)[i]? = (l[i]?).map (trS G) := by simp [arL]
theorem storeSelf_map (G : Ctx) (l : List Slot) (i : Nat) (v : Value) : storeSelf (arL G l) i (tr G v) = (lstoreSelf l i v).map (arL G) := by
  unfold storeSelf lstoreSelf
  have e := setAt_map G l i (.val v)
  simp only [trS] at e
  rw [e]
  cases h1 : lsetAt l i (.val v) with
  | none => rfl
  | some l1 =>
    simp only [Option.map_some, Option.bind_eq_bind, Option.bind_some, tr_cat]
    by_cases hc : v.category = 2
    · simp only [hc, if_true, arL_get]
      cases h2 : l1[i + 1]? with
      | none => rfl
      | some sl =>
        simp only [Option.map_some, Option.bind_some]
        have u2 := setAt_map G l1 (i + 2) .unset
        have s1 := setAt_map G l1 (i + 1) .second
        simp only [trS] at u2 s1
        cases sl with
        | unset => exact s1
        | second => exact s1
        | val old =>
          simp only [trS, tr_cat]
          by_cases hq : old.category = 2
          · simp only [hq, if_true, u2]
            cases h3 : lsetAt l1 (i + 2) .unset with
            | none => rfl
            | some l2 =>
              have s2 := setAt_map G l2 (i + 1) .second
              simp only [trS] at s2
              exact s2
          · simp only [hq, if_false]
            exact s1
    · simp only [hc, if_false]
      rfl
theorem mst_map (G : Ctx) (l : List Slot) (i : Nat) (v : Value) : storeLocals (arL G l) i (tr G v) = (mst l i v).map (arL G) := by
  unfold storeLocals mst
  simp only [arL_get]
  cases h1 : l[i]? with
  | none => rfl
  | some sl =>
    simp only [Option.map_some, Option.bind_eq_bind, Option.bind_some]
    have u1 := setAt_map G l (i - 1) .unset
    have u2 := setAt_map G l (i + 1) .unset
    simp only [trS] at u1 u2
    cases sl with
    | unset => exact storeSelf_map G l i v
    | second =>
      simp only [trS, u1]
      cases h3 : lsetAt l (i - 1) .unset with
      | none => rfl
      | some l2 => exact storeSelf_map G l2 i v
    | val old =>
      simp only [trS, tr_cat]
      by_cases hq : old.category = 2
      · simp only [hq, if_true, u2]
        cases h3 : lsetAt l (i + 1) .unset with
        | none => rfl
        | some l2 => exact storeSelf_map G l2 i v
      · simp only [hq, if_false]
        exact storeSelf_map G l i v
theorem lsetAt_len {l l' : List Slot} {i : Nat} {x : Slot} (h : lsetAt l i x = some l') : l'.length = l.length := by
  unfold lsetAt at h; split at h
  · cases h; simp
  · cases h
theorem lstoreSelf_len {l l' : List Slot} {i : Nat} {v : Value} (h : lstoreSelf l i v = some l') : l'.length = l.length := by
  unfold lstoreSelf at h
  split at h
  · cases h
  · rename_i l1 h1
    have e1 := lsetAt_len h1
    split at h
    · split at h
      · cases h
      · split at h
        · split at h
          · cases h
          · rename_i h2; rw [lsetAt_len h, lsetAt_len h2, e1]
        · rw [lsetAt_len h, e1]
      · rw [lsetAt_len h, e1]
    · cases h; exact e1
theorem mst_len {l l' : List Slot} {i : Nat} {v : Value} (h : mst l i v = some l') : l'.length = l.length := by
  unfold mst at h
  split at h
  · cases h
  · split at h
    · cases h
    · rename_i h2; rw [lstoreSelf_len h, lsetAt_len h2]
  · split at h
    · split at h
      · cases h
      · rename_i h2; rw [lstoreSelf_len h, lsetAt_len h2]
    · exact lstoreSelf_len h
  · exact lstoreSelf_len h
theorem st_of {G : Ctx} {l l' : List Slot} {i : Nat} {v : Value} (h : mst l i v = some l') : storeLocals (arL G l) i (tr G v) = some (arL G l') := by rw [mst_map, h]; rfl
theorem ld_of {G : Ctx} {l : List Slot} {i : Nat} {s : Slot} (h : l[i]? = some s) : (arL G l)[i]? = some (trS G s) := by rw [arL_get, h]; rfl
/-! ## 3. What a run of a body from a point does -/
def Ev (G : Ctx) (M : Mi) (pc : Nat) (L : List Slot) (S : List Value) (h : MHeap) (r : Option Value × MHeap) : Prop :=
  (h.length ≤ r.2.length ∧ hsl (gK G) h ≤ hsl (gK G) r.2) ∧
  ∀ (p : Program) (e : Env) (R : Room) (s : State) (m : MethodId) (args : Array Value) (below : List Frame) (meth : Method) (c : Code) (T : State) (locs : List Loc) (cells slots : Nat),
    Stand p (gL G) e R s m args below meth c T locs cells slots → p.tables.exec = Jvm.exec → (gZ G).Warmed39 s.vm → s.vm.findClass (mN M).cls = some m.cls →
    c.code = mB M → c.maxLocals = mL M → meth.sig.returnType = mR M → meth.name = (mN M).name → L.length = mL M → mF M ≤ R.frames → mW M ≤ R.locals →
    s.heap.size + cells = T.heap.size → Rel G T.heap h → Fr (gN G) locs → cells + (r.2.length - h.length) ≤ R.cells → slots + (hsl (gK G) r.2 - hsl (gK G) h) ≤ R.slots →
    ∃ T' locs', Stand p (gL G) e R s m args below meth c T' locs' (cells + (r.2.length - h.length)) (slots + (hsl (gK G) r.2 - hsl (gK G) h)) ∧ Rel G T'.heap r.2 ∧ Fr (gN G) locs' ∧
      ∀ fs, (∀ (f : JFrame) (acts : List Action), f.method = m → f.locked = none → f.entered = [] → (doReturn e (T'.setTop f) acts (r.1.map (tr G))).1 = T'.setFrames fs) →
        Steps p.tables e below (T.setTop (mkF m pc (arL G L) (S.map (tr G)))) (T'.setFrames fs)
/-- a whole call -/
def EvC (G : Ctx) (y : Mi) (args : List Value) (h : MHeap) (r : Option Value × MHeap) : Prop :=
  (h.length ≤ r.2.length ∧ hsl (gK G) h ≤ hsl (gK G) r.2) ∧
  ∀ (ws : List Jvm.Cond) (R : Room) (hr : Heap), mF y ≤ R.frames → mW y ≤ R.locals → r.2.length - h.length ≤ R.cells → hsl (gK G) r.2 - hsl (gK G) h ≤ R.slots → Rel G hr h →
    MetFree (gL G) (mN y) (head1 (Jvm.Cond.code (mN y) (mB y) (mL y) (mR y) :: ws) R) (fun a U => a = (args.map (tr G)).toArray ∧ (gZ G).Warmed39 U.vm ∧ U.heap = hr) (fun _ _ _ _ _ => True)
      (fun _ U o U' => ∃ v L, o = .returned v ∧ (v = r.1.map (tr G) ∧ Fr (gN G) L ∧ Rel G U'.heap r.2) ∧ FrameEnd U o U' L (r.2.length - h.length) (hsl (gK G) r.2 - hsl (gK G) h))
section Rules
variable {G : Ctx} {M : Mi} {pc : Nat} {L : List Slot} {S : List Value} {h : MHeap} {r : Option Value × MHeap}
theorem Ev.gen {pc' : Nat} {L' : List Slot} {S' : List Value} {h' : MHeap} (hm1 : h.length ≤ h'.length) (hm2 : hsl (gK G) h ≤ hsl (gK G) h') (hL : L'.length = L.length) (hn : Ev G M pc' L' S' h' r)
    (st : ∀ {p : Program} {e : Env} {R : Room} {s : State} {m : MethodId} {args : Array Value} {below : List Frame} {meth : Method} {c : Code} {T : State} {locs : List Loc} {cells slots : Nat},
      Stand p (gL G) e R s m args below meth c T locs cells slots → p.tables.exec = Jvm.exec → (gZ G).Warmed39 s.vm → s.vm.findClass (mN M).cls = some m.cls →
      c.code = mB M → c.maxLocals = mL M → meth.name = (mN M).name → L.length = mL M → mF M ≤ R.frames → mW M ≤ R.locals →
      s.heap.size + cells = T.heap.size → Rel G T.heap h → Fr (gN G) locs → cells + (h'.length - h.length) ≤ R.cells → slots + (hsl (gK G) h' - hsl (gK G) h) ≤ R.slots →
      ∃ T' locs', Stand p (gL G) e R s m args below meth c T' locs' (cells + (h'.length - h.length)) (slots + (hsl (gK G) h' - hsl (gK G) h)) ∧ Rel G T'.heap h' ∧ Fr (gN G) locs' ∧
        ∀ target, Steps p.tables e below (T'.setTop (mkF m pc' (arL G L') (S'.map (tr G)))) target → Steps p.tables e below (T.setTop (mkF m pc (arL G L) (S.map (tr G)))) target) :
    Ev G M pc L S h r := by
  obtain ⟨⟨g1, g2⟩, hn⟩ := hn
  refine ⟨⟨Nat.le_trans hm1 g1, Nat.le_trans hm2 g2⟩, ?_⟩
  intro p e R s m args below meth c T locs cells slots X hx hZ hown hby hml hret hnm hLm hfr hlo hsz hR hF hc hs
  obtain ⟨T1, locs1, X1, R1, F1, st1⟩ := st X hx hZ hown hby hml hnm hLm hfr hlo hsz hR hF (by omega) (by omega)
  have hsz1 : s.heap.size + (cells + (h'.length - h.length)) = T1.heap.size := by
    have a1 := hR.1
    have a2 := R1.1
    omega
  obtain ⟨T2, locs2, X2, R2, F2, st2⟩ := hn p e R s m args below meth c T1 locs1 _ _ X1 hx hZ hown hby hml hret hnm (hL.trans hLm) hfr hlo hsz1 R1 F1 (by omega) (by omega)
  refine ⟨T2, locs2, ?_, R2, F2, fun fs hl => st1 _ (st2 fs hl)⟩
  have e1 : cells + (h'.length - h.length) + (r.2.length - h'.length) = cells + (r.2.length - h.length) := by omega
  have e2 : slots + (hsl (gK G) h' - hsl (gK G) h) + (hsl (gK G) r.2 - hsl (gK G) h') = slots + (hsl (gK G) r.2 - hsl (gK G) h) := by omega
  rw [e1, e2] at X2
  exact X2
/-- a step that leaves the heap -/
theorem Ev.same {pc' : Nat} {L' : List Slot} {S' : List Value} (hL : L'.length = L.length) (hn : Ev G M pc' L' S' h r)
    (st : ∀ {p : Program} {e : Env} {R : Room} {s : State} {m : MethodId} {args : Array Value} {below : List Frame} {meth : Method} {c : Code} {T : State} {locs : List Loc} {cells slots : Nat},
      Stand p (gL G) e R s m args below meth c T locs cells slots → p.tables.exec = Jvm.exec → (gZ G).Warmed39 s.vm → s.vm.findClass (mN M).cls = some m.cls →
      c.code = mB M → c.maxLocals = mL M → L.length = mL M → mF M ≤ R.frames → mW M ≤ R.locals → Rel G T.heap h →
      ∃ T', Stand p (gL G) e R s m args below meth c T' locs cells slots ∧ T'.heap = T.heap ∧
        ∀ target, Steps p.tables e below (T'.setTop (mkF m pc' (arL G L') (S'.map (tr G)))) target → Steps p.tables e below (T.setTop (mkF m pc (arL G L) (S.map (tr G)))) target) :
    Ev G M pc L S h r := by
  refine Ev.gen (Nat.le_refl _) (Nat.le_refl _) hL hn ?_
  intro p e R s m args below meth c T locs cells slots X hx hZ hown hby hml hnm hLm hfr hlo hsz hR hF hc hs
  obtain ⟨T', X', e', st'⟩ := st X hx hZ hown hby hml hLm hfr hlo hR
  refine ⟨T', locs, ?_, by rw [e']; exact hR, hF, st'⟩
  rw [Nat.sub_self, Nat.sub_self, Nat.add_zero, Nat.add_zero]
  exact X'
/-- a step that leaves all but the frame -/
theorem Ev.pure {pc' : Nat} {L' : List Slot} {S' : List Value} (hL : L'.length = L.length) (hn : Ev G M pc' L' S' h r)
    (st : ∀ {p : Program} {e : Env} {R : Room} {s : State} {m : MethodId} {args : Array Value} {below : List Frame} {meth : Method} {c : Code} {T : State} {locs : List Loc} {cells slots : Nat},
      Stand p (gL G) e R s m args below meth c T locs cells slots → p.tables.exec = Jvm.exec → (gZ G).Warmed39 s.vm → s.vm.findClass (mN M).cls = some m.cls →
      c.code = mB M → ∀ target, Steps p.tables e below (T.setTop (mkF m pc' (arL G L') (S'.map (tr G)))) target → Steps p.tables e below (T.setTop (mkF m pc (arL G L) (S.map (tr G)))) target) :
    Ev G M pc L S h r :=
  Ev.same hL hn fun {p e R s m args below meth c T locs cells slots} X hx hZ hown hby hml hLm hfr hlo hR => ⟨T, X, rfl, st X hx hZ hown hby⟩
/-! ### loads, stores, constants -/
theorem Ev.iload {k : Nat} {v : Int32} (hd : decode (mB M) pc = .ok (.iload k, 2)) (hl : L[k]? = some (.val (.int v))) (hn : Ev G M (pc + 2) L (.int v :: S) h r) : Ev G M pc L S h r :=
  Ev.pure rfl hn fun {_ _ _ _ m _ _ _ _ _ _ _ _} X hx hZ hown hby target q => XS.iload (g := mkF m pc (arL G L) (List.map (tr G) S)) X.here hx rfl (hb hby hd) (ld_of hl) q
theorem Ev.iloadN {k : Fin 4} {v : Int32} (hd : decode (mB M) pc = .ok (.iload_n k, 1)) (hl : L[k.val]? = some (.val (.int v))) (hn : Ev G M (pc + 1) L (.int v :: S) h r) : Ev G M pc L S h r :=
  Ev.pure rfl hn fun {_ _ _ _ m _ _ _ _ _ _ _ _} X hx hZ hown hby target q => XS.iloadN (g := mkF m pc (arL G L) (List.map (tr G) S)) X.here hx rfl (hb hby hd) (ld_of hl) q
theorem Ev.aload {k : Nat} {v : Nat} (hd : decode (mB M) pc = .ok (.aload k, 2)) (hl : L[k]? = some (.val (.ref v))) (hn : Ev G M (pc + 2) L (.ref v :: S) h r) : Ev G M pc L S h r :=
  Ev.pure rfl hn fun {_ _ _ _ m _ _ _ _ _ _ _ _} X hx hZ hown hby target q => XS.aload (g := mkF m pc (arL G L) (List.map (tr G) S)) X.here hx rfl (hb hby hd) (ld_of hl) rfl q
theorem Ev.aloadN {k : Fin 4} {v : Nat} (hd : decode (mB M) pc = .ok (.aload_n k, 1)) (hl : L[k.val]? = some (.val (.ref v))) (hn : Ev G M (pc + 1) L (.ref v :: S) h r) : Ev G M pc L S h r :=
  Ev.pure rfl hn fun {_ _ _ _ m _ _ _ _ _ _ _ _} X hx hZ hown hby target q => XS.aloadN (g := mkF m pc (arL G L) (List.map (tr G) S)) X.here hx rfl (hb hby hd) (ld_of hl) rfl q
theorem Ev.lload {k : Nat} {v : Int64} (hd : decode (mB M) pc = .ok (.lload k, 2)) (hl : L[k]? = some (.val (.long v))) (hn : Ev G M (pc + 2) L (.long v :: S) h r) : Ev G M pc L S h r :=
  Ev.pure rfl hn fun {_ _ _ _ m _ _ _ _ _ _ _ _} X hx hZ hown hby target q => XT.lload (g := mkF m pc (arL G L) (List.map (tr G) S)) X.here hx rfl (hb hby hd) (ld_of hl) q
theorem Ev.lloadN {k : Fin 4} {v : Int64} (hd : decode (mB M) pc = .ok (.lload_n k, 1)) (hl : L[k.val]? = some (.val (.long v))) (hn : Ev G M (pc + 1) L (.long v :: S) h r) : Ev G M pc L S h r :=
  Ev.pure rfl hn fun {_ _ _ _ m _ _ _ _ _ _ _ _} X hx hZ hown hby target q => XT.lloadN (g := mkF m pc (arL G L) (List.map (tr G) S)) X.here hx rfl (hb hby hd) (ld_of hl) q
theorem Ev.istore {k : Nat} {v : Int32} {L' : List Slot} (hd : decode (mB M) pc = .ok (.istore k, 2)) (hl : mst L k (.int v) = some L') (hn : Ev G M (pc + 2) L' S h r) : Ev G M pc L (.int v :: S) h r :=
  Ev.pure (mst_len hl) hn fun {_ _ _ _ m _ _ _ _ _ _ _ _} X hx hZ hown hby target q => XS.istore (g := mkF m pc (arL G L) (List.map (tr G) (Value.int v :: S))) X.here hx rfl (hb hby hd) rfl (st_of hl) q
theorem Ev.istoreN {k : Fin 4} {v : Int32} {L' : List Slot} (hd : decode (mB M) pc = .ok (.istore_n k, 1)) (hl : mst L k.val (.int v) = some L') (hn : Ev G M (pc + 1) L' S h r) : Ev G M pc L (.int v :: S) h r :=
  Ev.pure (mst_len hl) hn fun {_ _ _ _ m _ _ _ _ _ _ _ _} X hx hZ hown hby target q => XS.istoreN (g := mkF m pc (arL G L) (List.map (tr G) (Value.int v :: S))) X.here hx rfl (hb hby hd) rfl (st_of hl) q
theorem Ev.astore {k v : Nat} {L' : List Slot} (hd : decode (mB M) pc = .ok (.astore k, 2)) (hl : mst L k (.ref v) = some L') (hn : Ev G M (pc + 2) L' S h r) : Ev G M pc L (.ref v :: S) h r :=
  Ev.pure (mst_len hl) hn fun {_ _ _ _ m _ _ _ _ _ _ _ _} X hx hZ hown hby target q => XS.astore (g := mkF m pc (arL G L) (List.map (tr G) (Value.ref v :: S))) X.here hx rfl (hb hby hd) rfl rfl (st_of hl) q
theorem Ev.astoreN {k : Fin 4} {v : Nat} {L' : List Slot} (hd : decode (mB M) pc = .ok (.astore_n k, 1)) (hl : mst L k.val (.ref v) = some L') (hn : Ev G M (pc + 1) L' S h r) : Ev G M pc L (.ref v :: S) h r :=
  Ev.pure (mst_len hl) hn fun {_ _ _ _ m _ _ _ _ _ _ _ _} X hx hZ hown hby target q => XS.astoreN (g := mkF m pc (arL G L) (List.map (tr G) (Value.ref v :: S))) X.here hx rfl (hb hby hd) rfl rfl (st_of hl) q
theorem Ev.lstore {k : Nat} {v : Int64} {L' : List Slot} (hd : decode (mB M) pc = .ok (.lstore k, 2)) (hl : mst L k (.long v) = some L') (hn : Ev G M (pc + 2) L' S h r) : Ev G M pc L (.long v :: S) h r :=
  Ev.pure (mst_len hl) hn fun {_ _ _ _ m _ _ _ _ _ _ _ _} X hx hZ hown hby target q => XT.lstore (g := mkF m pc (arL G L) (List.map (tr G) (Value.long v :: S))) X.here hx rfl (hb hby hd) rfl (st_of hl) q
theorem Ev.lstoreN {k : Fin 4} {v : Int64} {L' : List Slot} (hd : decode (mB M) pc = .ok (.lstore_n k, 1)) (hl : mst L k.val (.long v) = some L') (hn : Ev G M (pc + 1) L' S h r) : Ev G M pc L (.long v :: S) h r :=
  Ev.pure (mst_len hl) hn fun {_ _ _ _ m _ _ _ _ _ _ _ _} X hx hZ hown hby target q => XT.lstoreN (g := mkF m pc (arL G L) (List.map (tr G) (Value.long v :: S))) X.here hx rfl (hb hby hd) rfl (st_of hl) q
theorem Ev.iconst {i : Int} {z : Int32} (hd : decode (mB M) pc = .ok (.iconst i, 1)) (hz : Int32.ofInt i = z) (hn : Ev G M (pc + 1) L (.int z :: S) h r) : Ev G M pc L S h r :=
  Ev.pure rfl (hz ▸ hn) fun {_ _ _ _ m _ _ _ _ _ _ _ _} X hx hZ hown hby target q => XS.iconst (g := mkF m pc (arL G L) (List.map (tr G) S)) X.here hx rfl (hb hby hd) q
theorem Ev.bipush {i : Int} {z : Int32} (hd : decode (mB M) pc = .ok (.bipush i, 2)) (hz : (Int8.ofInt i).toInt32 = z) (hn : Ev G M (pc + 2) L (.int z :: S) h r) : Ev G M pc L S h r :=
  Ev.pure rfl (hz ▸ hn) fun {_ _ _ _ m _ _ _ _ _ _ _ _} X hx hZ hown hby target q => XS.bipush (g := mkF m pc (arL G L) (List.map (tr G) S)) X.here hx rfl (hb hby hd) q
theorem Ev.sipush {i : Int} {z : Int32} (hd : decode (mB M) pc = .ok (.sipush i, 3)) (hz : (Int16.ofInt i).toInt32 = z) (hn : Ev G M (pc + 3) L (.int z :: S) h r) : Ev G M pc L S h r :=
  Ev.pure rfl (hz ▸ hn) fun {_ _ _ _ m _ _ _ _ _ _ _ _} X hx hZ hown hby target q => XS.sipush (g := mkF m pc (arL G L) (List.map (tr G) S)) X.here hx rfl (hb hby hd) q
theorem Ev.lconst {k : Fin 2} {z : Int64} (hd : decode (mB M) pc = .ok (.lconst k, 1)) (hz : Int64.ofNat k = z) (hn : Ev G M (pc + 1) L (.long z :: S) h r) : Ev G M pc L S h r :=
  Ev.pure rfl (hz ▸ hn) fun {_ _ _ _ m _ _ _ _ _ _ _ _} X hx hZ hown hby target q => XT.lconst (g := mkF m pc (arL G L) (List.map (tr G) S)) X.here hx rfl (hb hby hd) q
theorem Ev.ldc {k : Nat} {v : Int32} (w : (Jvm.Cond.constant (mN M).cls k v).before (gA G) (gZ G) = true) (hd : decode (mB M) pc = .ok (.ldc k, 2)) (hn : Ev G M (pc + 2) L (.int v :: S) h r) : Ev G M pc L S h r :=
  Ev.pure rfl hn fun {_ _ _ _ m _ _ _ _ _ _ _ _} X hx hZ hown hby target q => X.ldcInt hx hown (mvT hZ w) (g := mkF m pc (arL G L) (List.map (tr G) S)) rfl (hb hby hd) target q
theorem Ev.ldcW {k : Nat} {v : Int32} (w : (Jvm.Cond.constant (mN M).cls k v).before (gA G) (gZ G) = true) (hd : decode (mB M) pc = .ok (.ldc_w k, 3)) (hn : Ev G M (pc + 3) L (.int v :: S) h r) : Ev G M pc L S h r :=
  Ev.pure rfl hn fun {_ _ _ _ m _ _ _ _ _ _ _ _} X hx hZ hown hby target q => X.ldcwInt hx hown (mvT hZ w) (g := mkF m pc (arL G L) (List.map (tr G) S)) rfl (hb hby hd) target q
theorem Ev.ldcL {k : Nat} {v : Int64} (w : (Jvm.Cond.constantLong (mN M).cls k v).before (gA G) (gZ G) = true) (hd : decode (mB M) pc = .ok (.ldc2_w k, 3)) (hn : Ev G M (pc + 3) L (.long v :: S) h r) : Ev G M pc L S h r :=
  Ev.pure rfl hn fun {_ _ _ _ m _ _ _ _ _ _ _ _} X hx hZ hown hby target q => X.ldc2Long hx hown (mvT hZ w) (g := mkF m pc (arL G L) (List.map (tr G) S)) rfl (hb hby hd) target q
/-! ### reckoning -/
theorem Ev.iadd {x y : Int32} (hd : decode (mB M) pc = .ok (.iadd, 1)) (hn : Ev G M (pc + 1) L (.int (x + y) :: S) h r) : Ev G M pc L (.int y :: .int x :: S) h r :=
  Ev.pure rfl hn fun {_ _ _ _ m _ _ _ _ _ _ _ _} X hx hZ hown hby target q => XS.iadd (g := mkF m pc (arL G L) (List.map (tr G) (Value.int y :: Value.int x :: S))) X.here hx rfl (hb hby hd) rfl q
theorem Ev.isub {x y : Int32} (hd : decode (mB M) pc = .ok (.isub, 1)) (hn : Ev G M (pc + 1) L (.int (x - y) :: S) h r) : Ev G M pc L (.int y :: .int x :: S) h r :=
  Ev.pure rfl hn fun {_ _ _ _ m _ _ _ _ _ _ _ _} X hx hZ hown hby target q => XS.isub (g := mkF m pc (arL G L) (List.map (tr G) (Value.int y :: Value.int x :: S))) X.here hx rfl (hb hby hd) rfl q
theorem Ev.imul {x y : Int32} (hd : decode (mB M) pc = .ok (.imul, 1)) (hn : Ev G M (pc + 1) L (.int (x * y) :: S) h r) : Ev G M pc L (.int y :: .int x :: S) h r :=
  Ev.pure rfl hn fun {_ _ _ _ m _ _ _ _ _ _ _ _} X hx hZ hown hby target q => XS.imul (g := mkF m pc (arL G L) (List.map (tr G) (Value.int y :: Value.int x :: S))) X.here hx rfl (hb hby hd) rfl q
theorem Ev.idiv {x y : Int32} (hd : decode (mB M) pc = .ok (.idiv, 1)) (hy : y ≠ 0) (hn : Ev G M (pc + 1) L (.int (x / y) :: S) h r) : Ev G M pc L (.int y :: .int x :: S) h r :=
  Ev.pure rfl hn fun {_ _ _ _ m _ _ _ _ _ _ _ _} X hx hZ hown hby target q => XS.idiv (g := mkF m pc (arL G L) (List.map (tr G) (Value.int y :: Value.int x :: S))) X.here hx rfl (hb hby hd) rfl hy q
theorem Ev.irem {x y : Int32} (hd : decode (mB M) pc = .ok (.irem, 1)) (hy : y ≠ 0) (hn : Ev G M (pc + 1) L (.int (x % y) :: S) h r) : Ev G M pc L (.int y :: .int x :: S) h r :=
  Ev.pure rfl hn fun {_ _ _ _ m _ _ _ _ _ _ _ _} X hx hZ hown hby target q => iremM (g := mkF m pc (arL G L) (List.map (tr G) (Value.int y :: Value.int x :: S))) X hx rfl (hb hby hd) rfl hy q
theorem Ev.ineg {x : Int32} (hd : decode (mB M) pc = .ok (.ineg, 1)) (hn : Ev G M (pc + 1) L (.int (-x) :: S) h r) : Ev G M pc L (.int x :: S) h r :=
  Ev.pure rfl hn fun {_ _ _ _ m _ _ _ _ _ _ _ _} X hx hZ hown hby target q => XS.ineg (g := mkF m pc (arL G L) (List.map (tr G) (Value.int x :: S))) X.here hx rfl (hb hby hd) rfl q
theorem Ev.iand {x y : Int32} (hd : decode (mB M) pc = .ok (.iand, 1)) (hn : Ev G M (pc + 1) L (.int (x &&& y) :: S) h r) : Ev G M pc L (.int y :: .int x :: S) h r :=
  Ev.pure rfl hn fun {_ _ _ _ m _ _ _ _ _ _ _ _} X hx hZ hown hby target q => XS.iand (g := mkF m pc (arL G L) (List.map (tr G) (Value.int y :: Value.int x :: S))) X.here hx rfl (hb hby hd) rfl q
theorem Ev.ior {x y : Int32} (hd : decode (mB M) pc = .ok (.ior, 1)) (hn : Ev G M (pc + 1) L (.int (x ||| y) :: S) h r) : Ev G M pc L (.int y :: .int x :: S) h r :=
  Ev.pure rfl hn fun {_ _ _ _ m _ _ _ _ _ _ _ _} X hx hZ hown hby target q => XT.ior (g := mkF m pc (arL G L) (List.map (tr G) (Value.int y :: Value.int x :: S))) X.here hx rfl (hb hby hd) rfl q
theorem Ev.ixor {x y : Int32} (hd : decode (mB M) pc = .ok (.ixor, 1)) (hn : Ev G M (pc + 1) L (.int (x ^^^ y) :: S) h r) : Ev G M pc L (.int y :: .int x :: S) h r :=
  Ev.pure rfl hn fun {_ _ _ _ m _ _ _ _ _ _ _ _} X hx hZ hown hby target q => XT.ixor (g := mkF m pc (arL G L) (List.map (tr G) (Value.int y :: Value.int x :: S))) X.here hx rfl (hb hby hd) rfl q
theorem Ev.ishl {x y : Int32} (hd : decode (mB M) pc = .ok (.ishl, 1)) (hn : Ev G M (pc + 1) L (.int (x <<< (y &&& 31)) :: S) h r) : Ev G M pc L (.int y :: .int x :: S) h r :=
  Ev.pure rfl hn fun {_ _ _ _ m _ _ _ _ _ _ _ _} X hx hZ hown hby target q => XT.ishl (g := mkF m pc (arL G L) (List.map (tr G) (Value.int y :: Value.int x :: S))) X.here hx rfl (hb hby hd) rfl q
theorem Ev.ishr {x y : Int32} (hd : decode (mB M) pc = .ok (.ishr, 1)) (hn : Ev G M (pc + 1) L (.int (x >>> (y &&& 31)) :: S) h r) : Ev G M pc L (.int y :: .int x :: S) h r :=
  Ev.pure rfl hn fun {_ _ _ _ m _ _ _ _ _ _ _ _} X hx hZ hown hby target q => XT.ishr (g := mkF m pc (arL G L) (List.map (tr G) (Value.int y :: Value.int x :: S))) X.here hx rfl (hb hby hd) rfl q
theorem Ev.iushr {x y : Int32} (hd : decode (mB M) pc = .ok (.iushr, 1)) (hn : Ev G M (pc + 1) L (.int (XT.ushr x y) :: S) h r) : Ev G M pc L (.int y :: .int x :: S) h r :=
  Ev.pure rfl hn fun {_ _ _ _ m _ _ _ _ _ _ _ _} X hx hZ hown hby target q => XT.iushr (g := mkF m pc (arL G L) (List.map (tr G) (Value.int y :: Value.int x :: S))) X.here hx rfl (hb hby hd) rfl q
theorem Ev.ladd {x y : Int64} (hd : decode (mB M) pc = .ok (.ladd, 1)) (hn : Ev G M (pc + 1) L (.long (x + y) :: S) h r) : Ev G M pc L (.long y :: .long x :: S) h r :=
  Ev.pure rfl hn fun {_ _ _ _ m _ _ _ _ _ _ _ _} X hx hZ hown hby target q => XT.ladd (g := mkF m pc (arL G L) (List.map (tr G) (Value.long y :: Value.long x :: S))) X.here hx rfl (hb hby hd) rfl q
theorem Ev.lsub {x y : Int64} (hd : decode (mB M) pc = .ok (.lsub, 1)) (hn : Ev G M (pc + 1) L (.long (x - y) :: S) h r) : Ev G M pc L (.long y :: .long x :: S) h r :=
  Ev.pure rfl hn fun {_ _ _ _ m _ _ _ _ _ _ _ _} X hx hZ hown hby target q => XT.lsub (g := mkF m pc (arL G L) (List.map (tr G) (Value.long y :: Value.long x :: S))) X.here hx rfl (hb hby hd) rfl q
theorem Ev.lmul {x y : Int64} (hd : decode (mB M) pc = .ok (.lmul, 1)) (hn : Ev G M (pc + 1) L (.long (x * y) :: S) h r) : Ev G M pc L (.long y :: .long x :: S) h r :=
  Ev.pure rfl hn fun {_ _ _ _ m _ _ _ _ _ _ _ _} X hx hZ hown hby target q => XT.lmul (g := mkF m pc (arL G L) (List.map (tr G) (Value.long y :: Value.long x :: S))) X.here hx rfl (hb hby hd) rfl q
theorem Ev.ldiv {x y : Int64} (hd : decode (mB M) pc = .ok (.ldiv, 1)) (hy : y ≠ 0) (hn : Ev G M (pc + 1) L (.long (x / y) :: S) h r) : Ev G M pc L (.long y :: .long x :: S) h r :=
  Ev.pure rfl hn fun {_ _ _ _ m _ _ _ _ _ _ _ _} X hx hZ hown hby target q => XT.ldiv (g := mkF m pc (arL G L) (List.map (tr G) (Value.long y :: Value.long x :: S))) X.here hx rfl (hb hby hd) rfl hy q
theorem Ev.lneg {x : Int64} (hd : decode (mB M) pc = .ok (.lneg, 1)) (hn : Ev G M (pc + 1) L (.long (-x) :: S) h r) : Ev G M pc L (.long x :: S) h r :=
  Ev.pure rfl hn fun {_ _ _ _ m _ _ _ _ _ _ _ _} X hx hZ hown hby target q => XT.lneg (g := mkF m pc (arL G L) (List.map (tr G) (Value.long x :: S))) X.here hx rfl (hb hby hd) rfl q
theorem Ev.land {x y : Int64} (hd : decode (mB M) pc = .ok (.land, 1)) (hn : Ev G M (pc + 1) L (.long (x &&& y) :: S) h r) : Ev G M pc L (.long y :: .long x :: S) h r :=
  Ev.pure rfl hn fun {_ _ _ _ m _ _ _ _ _ _ _ _} X hx hZ hown hby target q => XT.land (g := mkF m pc (arL G L) (List.map (tr G) (Value.long y :: Value.long x :: S))) X.here hx rfl (hb hby hd) rfl q
theorem Ev.lor {x y : Int64} (hd : decode (mB M) pc = .ok (.lor, 1)) (hn : Ev G M (pc + 1) L (.long (x ||| y) :: S) h r) : Ev G M pc L (.long y :: .long x :: S) h r :=
  Ev.pure rfl hn fun {_ _ _ _ m _ _ _ _ _ _ _ _} X hx hZ hown hby target q => XT.lor (g := mkF m pc (arL G L) (List.map (tr G) (Value.long y :: Value.long x :: S))) X.here hx rfl (hb hby hd) rfl q
theorem Ev.lxor {x y : Int64} (hd : decode (mB M) pc = .ok (.lxor, 1)) (hn : Ev G M (pc + 1) L (.long (x ^^^ y) :: S) h r) : Ev G M pc L (.long y :: .long x :: S) h r :=
  Ev.pure rfl hn fun {_ _ _ _ m _ _ _ _ _ _ _ _} X hx hZ hown hby target q => XT.lxor (g := mkF m pc (arL G L) (List.map (tr G) (Value.long y :: Value.long x :: S))) X.here hx rfl (hb hby hd) rfl q
theorem Ev.lshl {x : Int64} {y : Int32} (hd : decode (mB M) pc = .ok (.lshl, 1)) (hn : Ev G M (pc + 1) L (.long (x <<< (y.toInt64 &&& 63)) :: S) h r) : Ev G M pc L (.int y :: .long x :: S) h r :=
  Ev.pure rfl hn fun {_ _ _ _ m _ _ _ _ _ _ _ _} X hx hZ hown hby target q => XT.lshl (g := mkF m pc (arL G L) (List.map (tr G) (Value.int y :: Value.long x :: S))) X.here hx rfl (hb hby hd) rfl q
theorem Ev.lushr {x : Int64} {y : Int32} (hd : decode (mB M) pc = .ok (.lushr, 1)) (hn : Ev G M (pc + 1) L (.long (XT.ushrL x y) :: S) h r) : Ev G M pc L (.int y :: .long x :: S) h r :=
  Ev.pure rfl hn fun {_ _ _ _ m _ _ _ _ _ _ _ _} X hx hZ hown hby target q => XT.lushr (g := mkF m pc (arL G L) (List.map (tr G) (Value.int y :: Value.long x :: S))) X.here hx rfl (hb hby hd) rfl q
theorem Ev.lcmp {x y : Int64} (hd : decode (mB M) pc = .ok (.lcmp, 1)) (hn : Ev G M (pc + 1) L (.int (XT.cmpL x y) :: S) h r) : Ev G M pc L (.long y :: .long x :: S) h r :=
  Ev.pure rfl hn fun {_ _ _ _ m _ _ _ _ _ _ _ _} X hx hZ hown hby target q => XT.lcmp (g := mkF m pc (arL G L) (List.map (tr G) (Value.long y :: Value.long x :: S))) X.here hx rfl (hb hby hd) rfl q
theorem Ev.i2l {x : Int32} (hd : decode (mB M) pc = .ok (.i2l, 1)) (hn : Ev G M (pc + 1) L (.long x.toInt64 :: S) h r) : Ev G M pc L (.int x :: S) h r :=
  Ev.pure rfl hn fun {_ _ _ _ m _ _ _ _ _ _ _ _} X hx hZ hown hby target q => XT.i2l (g := mkF m pc (arL G L) (List.map (tr G) (Value.int x :: S))) X.here hx rfl (hb hby hd) rfl q
theorem Ev.l2i {x : Int64} (hd : decode (mB M) pc = .ok (.l2i, 1)) (hn : Ev G M (pc + 1) L (.int x.toInt32 :: S) h r) : Ev G M pc L (.long x :: S) h r :=
  Ev.pure rfl hn fun {_ _ _ _ m _ _ _ _ _ _ _ _} X hx hZ hown hby target q => XT.l2i (g := mkF m pc (arL G L) (List.map (tr G) (Value.long x :: S))) X.here hx rfl (hb hby hd) rfl q
theorem Ev.i2b {x : Int32} (hd : decode (mB M) pc = .ok (.i2b, 1)) (hn : Ev G M (pc + 1) L (.int x.toInt8.toInt32 :: S) h r) : Ev G M pc L (.int x :: S) h r :=
  Ev.pure rfl hn fun {_ _ _ _ m _ _ _ _ _ _ _ _} X hx hZ hown hby target q => XT.i2b (g := mkF m pc (arL G L) (List.map (tr G) (Value.int x :: S))) X.here hx rfl (hb hby hd) rfl q
theorem Ev.iinc {k : Nat} {i : Int} {x z : Int32} {L' : List Slot} (hd : decode (mB M) pc = .ok (.iinc k i, 3)) (hl : L[k]? = some (.val (.int x))) (hz : Int32.ofInt i = z) (hl' : mst L k (.int (x + z)) = some L') (hn : Ev G M (pc + 3) L' S h r) : Ev G M pc L S h r :=
  Ev.pure (mst_len hl') hn fun {_ _ _ _ m _ _ _ _ _ _ _ _} X hx hZ hown hby target q => XS.iinc (g := mkF m pc (arL G L) (List.map (tr G) S)) X.here hx rfl (hb hby hd) (ld_of hl) (by rw [hz]; exact st_of hl') q
theorem iincW {tb : Tables} [Ours tb] {e : Env} {below : List Frame} {T target : State} {m : MethodId} {c : Code} {g : JFrame} (h : At T m c below) (hx : tb.exec = Jvm.exec) (hg : g.method = m) {k : Nat} {cst : Int} {x : Int32} {l' : Array Slot} (hd : decode c.code g.pc = .ok (.iinc k cst, 6)) (hl : g.locals[k]? = some (.val (.int x))) (hl' : storeLocals g.locals k (.int (x + Int32.ofInt cst)) = some l')
    (hr : Steps tb e below (T.setTop { g with pc := g.pc + 6, locals := l' }) target) : Steps tb e below (T.setTop g) target := by
  subst hg
  jvm_step h [h.top, hx, hd, hl, hl']
  exact hr
theorem Ev.iincW {k : Nat} {i : Int} {x z : Int32} {L' : List Slot} (hd : decode (mB M) pc = .ok (.iinc k i, 6)) (hl : L[k]? = some (.val (.int x))) (hz : Int32.ofInt i = z) (hl' : mst L k (.int (x + z)) = some L') (hn : Ev G M (pc + 6) L' S h r) : Ev G M pc L S h r :=
  Ev.pure (mst_len hl') hn fun {_ _ _ _ m _ _ _ _ _ _ _ _} X hx hZ hown hby target q => Own.iincW (g := mkF m pc (arL G L) (List.map (tr G) S)) X.here hx rfl (hb hby hd) (ld_of hl) (by rw [hz]; exact st_of hl') q
theorem Ev.dup {x : Value} (hd : decode (mB M) pc = .ok (.dup, 1)) (hc : x.category = 1) (hn : Ev G M (pc + 1) L (x :: x :: S) h r) : Ev G M pc L (x :: S) h r :=
  Ev.pure rfl hn fun {_ _ _ _ m _ _ _ _ _ _ _ _} X hx hZ hown hby target q => XS.dup (g := mkF m pc (arL G L) (List.map (tr G) (x :: S))) X.here hx rfl (hb hby hd) rfl ((tr_cat G x).trans hc) q
theorem Ev.dup2 {x y : Value} (hd : decode (mB M) pc = .ok (.dup2, 1)) (hc : x.category = 1) (hc' : y.category = 1) (hn : Ev G M (pc + 1) L (x :: y :: x :: y :: S) h r) : Ev G M pc L (x :: y :: S) h r :=
  Ev.pure rfl hn fun {_ _ _ _ m _ _ _ _ _ _ _ _} X hx hZ hown hby target q => XT.dup2 (g := mkF m pc (arL G L) (List.map (tr G) (x :: y :: S))) X.here hx rfl (hb hby hd) rfl ((tr_cat G x).trans hc) ((tr_cat G y).trans hc') q
theorem Ev.pop {x : Value} (hd : decode (mB M) pc = .ok (.pop, 1)) (hc : x.category = 1) (hn : Ev G M (pc + 1) L S h r) : Ev G M pc L (x :: S) h r :=
  Ev.pure rfl hn fun {_ _ _ _ m _ _ _ _ _ _ _ _} X hx hZ hown hby target q => XT.pop (g := mkF m pc (arL G L) (List.map (tr G) (x :: S))) X.here hx rfl (hb hby hd) rfl ((tr_cat G x).trans hc) q
/-! ### branches -/
theorem Ev.goto {o : Int} {t : Nat} (hd : decode (mB M) pc = .ok (.goto o, 3)) (hp : (pc : Int) + o = (t : Int)) (hn : Ev G M t L S h r) : Ev G M pc L S h r :=
  Ev.pure rfl hn fun {_ _ _ _ m _ _ _ _ _ _ _ _} X hx hZ hown hby target q => XS.goto (g := mkF m pc (arL G L) (List.map (tr G) S)) X.here hx rfl rfl (hb hby hd) (by rw [hp]; exact Int.natCast_nonneg t) (by rw [hp]; rfl) q
theorem Ev.ifc {cd : ClassFile.Cond} {x : Int32} {o : Int} {t : Nat} (hd : decode (mB M) pc = .ok (.ifCond cd o, 3)) (hp : (pc : Int) + o = (t : Int)) (h1 : ifCond.holds cd x = true → Ev G M t L S h r) (h2 : ifCond.holds cd x = false → Ev G M (pc + 3) L S h r) : Ev G M pc L (.int x :: S) h r := by
  cases hc : ifCond.holds cd x with
  | true => exact Ev.pure rfl (h1 hc) fun {_ _ _ _ m _ _ _ _ _ _ _ _} X hx hZ hown hby target q => XS.ifYes (g := mkF m pc (arL G L) (List.map (tr G) (Value.int x :: S))) X.here hx rfl rfl (hb hby hd) rfl hc (by rw [hp]; exact Int.natCast_nonneg t) (by rw [hp]; rfl) q
  | false => exact Ev.pure rfl (h2 hc) fun {_ _ _ _ m _ _ _ _ _ _ _ _} X hx hZ hown hby target q => XS.ifNo (g := mkF m pc (arL G L) (List.map (tr G) (Value.int x :: S))) X.here hx rfl (hb hby hd) rfl hc q
theorem Ev.icc {cd : ClassFile.Cond} {x y : Int32} {o : Int} {t : Nat} (hd : decode (mB M) pc = .ok (.if_icmp cd o, 3)) (hp : (pc : Int) + o = (t : Int)) (h1 : if_icmp.holds cd x y = true → Ev G M t L S h r) (h2 : if_icmp.holds cd x y = false → Ev G M (pc + 3) L S h r) : Ev G M pc L (.int y :: .int x :: S) h r := by
  cases hc : if_icmp.holds cd x y with
  | true => exact Ev.pure rfl (h1 hc) fun {_ _ _ _ m _ _ _ _ _ _ _ _} X hx hZ hown hby target q => XS.icmpYes (g := mkF m pc (arL G L) (List.map (tr G) (Value.int y :: Value.int x :: S))) X.here hx rfl rfl (hb hby hd) rfl hc (by rw [hp]; exact Int.natCast_nonneg t) (by rw [hp]; rfl) q
  | false => exact Ev.pure rfl (h2 hc) fun {_ _ _ _ m _ _ _ _ _ _ _ _} X hx hZ hown hby target q => XS.icmpNo (g := mkF m pc (arL G L) (List.map (tr G) (Value.int y :: Value.int x :: S))) X.here hx rfl (hb hby hd) rfl hc q
theorem Ev.iclt {x y : Int32} {o : Int} {t : Nat} (hd : decode (mB M) pc = .ok (.if_icmp .lt o, 3)) (hp : (pc : Int) + o = (t : Int)) (h1 : x < y → Ev G M t L S h r) (h2 : ¬ x < y → Ev G M (pc + 3) L S h r) : Ev G M pc L (.int y :: .int x :: S) h r :=
  Ev.icc hd hp (fun q => h1 (by simpa [if_icmp.holds] using q)) (fun q => h2 (by simpa [if_icmp.holds] using q))
theorem Ev.icge {x y : Int32} {o : Int} {t : Nat} (hd : decode (mB M) pc = .ok (.if_icmp .ge o, 3)) (hp : (pc : Int) + o = (t : Int)) (h1 : x < y → Ev G M (pc + 3) L S h r) (h2 : ¬ x < y → Ev G M t L S h r) : Ev G M pc L (.int y :: .int x :: S) h r :=
  Ev.icc hd hp (fun q => h2 (by simpa [if_icmp.holds] using q)) (fun q => h1 (by simpa [if_icmp.holds] using q))
theorem Ev.icgt {x y : Int32} {o : Int} {t : Nat} (hd : decode (mB M) pc = .ok (.if_icmp .gt o, 3)) (hp : (pc : Int) + o = (t : Int)) (h1 : y < x → Ev G M t L S h r) (h2 : ¬ y < x → Ev G M (pc + 3) L S h r) : Ev G M pc L (.int y :: .int x :: S) h r :=
  Ev.icc hd hp (fun q => h1 (by simpa [if_icmp.holds] using q)) (fun q => h2 (by simpa [if_icmp.holds] using q))
theorem Ev.icle {x y : Int32} {o : Int} {t : Nat} (hd : decode (mB M) pc = .ok (.if_icmp .le o, 3)) (hp : (pc : Int) + o = (t : Int)) (h1 : y < x → Ev G M (pc + 3) L S h r) (h2 : ¬ y < x → Ev G M t L S h r) : Ev G M pc L (.int y :: .int x :: S) h r :=
  Ev.icc hd hp (fun q => h2 (by simpa [if_icmp.holds] using q)) (fun q => h1 (by simpa [if_icmp.holds] using q))
theorem Ev.iceq {x y : Int32} {o : Int} {t : Nat} (hd : decode (mB M) pc = .ok (.if_icmp .eq o, 3)) (hp : (pc : Int) + o = (t : Int)) (h1 : x = y → Ev G M t L S h r) (h2 : ¬ x = y → Ev G M (pc + 3) L S h r) : Ev G M pc L (.int y :: .int x :: S) h r :=
  Ev.icc hd hp (fun q => h1 (by simpa [if_icmp.holds] using q)) (fun q => h2 (by simpa [if_icmp.holds] using q))
theorem Ev.icne {x y : Int32} {o : Int} {t : Nat} (hd : decode (mB M) pc = .ok (.if_icmp .ne o, 3)) (hp : (pc : Int) + o = (t : Int)) (h1 : x = y → Ev G M (pc + 3) L S h r) (h2 : ¬ x = y → Ev G M t L S h r) : Ev G M pc L (.int y :: .int x :: S) h r :=
  Ev.icc hd hp (fun q => h2 (by simpa [if_icmp.holds] using q)) (fun q => h1 (by simpa [if_icmp.holds] using q))
theorem Ev.iflt {x : Int32} {o : Int} {t : Nat} (hd : decode (mB M) pc = .ok (.ifCond .lt o, 3)) (hp : (pc : Int) + o = (t : Int)) (h1 : x < 0 → Ev G M t L S h r) (h2 : ¬ x < 0 → Ev G M (pc + 3) L S h r) : Ev G M pc L (.int x :: S) h r :=
  Ev.ifc hd hp (fun q => h1 (by simpa [ifCond.holds] using q)) (fun q => h2 (by simpa [ifCond.holds] using q))
theorem Ev.ifge {x : Int32} {o : Int} {t : Nat} (hd : decode (mB M) pc = .ok (.ifCond .ge o, 3)) (hp : (pc : Int) + o = (t : Int)) (h1 : x < 0 → Ev G M (pc + 3) L S h r) (h2 : ¬ x < 0 → Ev G M t L S h r) : Ev G M pc L (.int x :: S) h r :=
  Ev.ifc hd hp (fun q => h2 (by simpa [ifCond.holds] using q)) (fun q => h1 (by simpa [ifCond.holds] using q))
theorem Ev.ifgt {x : Int32} {o : Int} {t : Nat} (hd : decode (mB M) pc = .ok (.ifCond .gt o, 3)) (hp : (pc : Int) + o = (t : Int)) (h1 : 0 < x → Ev G M t L S h r) (h2 : ¬ 0 < x → Ev G M (pc + 3) L S h r) : Ev G M pc L (.int x :: S) h r :=
  Ev.ifc hd hp (fun q => h1 (by simpa [ifCond.holds] using q)) (fun q => h2 (by simpa [ifCond.holds] using q))
theorem Ev.ifle {x : Int32} {o : Int} {t : Nat} (hd : decode (mB M) pc = .ok (.ifCond .le o, 3)) (hp : (pc : Int) + o = (t : Int)) (h1 : 0 < x → Ev G M (pc + 3) L S h r) (h2 : ¬ 0 < x → Ev G M t L S h r) : Ev G M pc L (.int x :: S) h r :=
  Ev.ifc hd hp (fun q => h2 (by simpa [ifCond.holds] using q)) (fun q => h1 (by simpa [ifCond.holds] using q))
theorem Ev.ifeq {x : Int32} {o : Int} {t : Nat} (hd : decode (mB M) pc = .ok (.ifCond .eq o, 3)) (hp : (pc : Int) + o = (t : Int)) (h1 : x = 0 → Ev G M t L S h r) (h2 : ¬ x = 0 → Ev G M (pc + 3) L S h r) : Ev G M pc L (.int x :: S) h r :=
  Ev.ifc hd hp (fun q => h1 (by simpa [ifCond.holds] using q)) (fun q => h2 (by simpa [ifCond.holds] using q))
theorem Ev.ifne {x : Int32} {o : Int} {t : Nat} (hd : decode (mB M) pc = .ok (.ifCond .ne o, 3)) (hp : (pc : Int) + o = (t : Int)) (h1 : x = 0 → Ev G M (pc + 3) L S h r) (h2 : ¬ x = 0 → Ev G M t L S h r) : Ev G M pc L (.int x :: S) h r :=
  Ev.ifc hd hp (fun q => h2 (by simpa [ifCond.holds] using q)) (fun q => h1 (by simpa [ifCond.holds] using q))
theorem Ev.tswIn {x : Int32} {dflt low high : Int} {offs : Array Int} {len t : Nat} {o : Int} (hd : decode (mB M) pc = .ok (.tableswitch dflt low high offs, len)) (hin : ¬ (x.toInt < low ∨ x.toInt > high)) (ho : offs[(x.toInt - low).toNat]? = some o) (hp : (pc : Int) + o = (t : Int)) (hn : Ev G M t L S h r) : Ev G M pc L (.int x :: S) h r :=
  Ev.pure rfl hn fun {_ _ _ _ m _ _ _ _ _ _ _ _} X hx hZ hown hby target q => XS.tswIn (g := mkF m pc (arL G L) (List.map (tr G) (Value.int x :: S))) X.here hx rfl rfl (hb hby hd) rfl hin ho (by rw [hp]; exact Int.natCast_nonneg t) (by rw [hp]; rfl) q
theorem Ev.tswOut {x : Int32} {dflt low high : Int} {offs : Array Int} {len t : Nat} (hd : decode (mB M) pc = .ok (.tableswitch dflt low high offs, len)) (hout : x.toInt < low ∨ x.toInt > high) (hp : (pc : Int) + dflt = (t : Int)) (hn : Ev G M t L S h r) : Ev G M pc L (.int x :: S) h r :=
  Ev.pure rfl hn fun {_ _ _ _ m _ _ _ _ _ _ _ _} X hx hZ hown hby target q => XS.tswOut (g := mkF m pc (arL G L) (List.map (tr G) (Value.int x :: S))) X.here hx rfl rfl (hb hby hd) rfl hout (by rw [hp]; exact Int.natCast_nonneg t) (by rw [hp]; rfl) q
/-! ### fields -/
theorem Ev.getfield {idx j i : Nat} {n d : String} {ty : FieldType} {fs : List Value} {v : Value} (w : (Jvm.Cond.fieldLink (mN M).cls idx (gC G) n d).before (gA G) (gZ G) = true) (hd : decode (mB M) pc = .ok (.getfield idx, 3))
    (hF : (gF G)[j]? = some (n, d, ty)) (hi : h[i]? = some (.inl fs)) (hv : fs[j]? = some v) (hn : Ev G M (pc + 3) L (v :: S) h r) : Ev G M pc L (.ref i :: S) h r := by
  refine Ev.same rfl hn ?_
  intro p e R s m args below meth c T locs cells slots X hx hZ hown hby hml hLm hfr hlo hR
  obtain ⟨-, -, h3⟩ := hR.2.2.2 i _ hi
  obtain ⟨T', X', e', st⟩ := getF X hx hZ hown (host := "") (Or.inl w) Via.refl rfl (h3 j n d ty v hF hv) (g := mkF m pc (arL G L) ((Value.ref i :: S).map (tr G))) rfl rfl (hb hby hd)
  exact ⟨T', X', e', st⟩
def mput : FieldType → Value → Option Value
  | .int, .int z => some (.int z)
  | .boolean, .int z => some (.int (z &&& 1))
  | .array _, .ref a => some (.ref a)
  | _, _ => none
theorem mput_spec {G : Ctx} {ty : FieldType} {v v' : Value} (h : mput ty v = some v') : narrow ty (tr G v) = tr G v' ∧ fits ty (tr G v') = true := by
  unfold mput at h
  split at h
  · cases h; exact ⟨rfl, rfl⟩
  · cases h; exact ⟨rfl, fits_nar_bool _⟩
  · cases h; exact ⟨rfl, rfl⟩
  · cases h
theorem Ev.putfield {idx j i : Nat} {n d : String} {ty : FieldType} {fs : List Value} {v v' : Value} (K : GOk G) (w : (Jvm.Cond.fieldLink (mN M).cls idx (gC G) n d).before (gA G) (gZ G) = true)
    (wl : (Jvm.Cond.lays (gC G) (gC G) n d).before (gA G) (gZ G) = true ∨ ((Jvm.Cond.laysFinal (gC G) (gC G) n d).before (gA G) (gZ G) = true ∧ (mN M).cls = gC G ∧ (mN M).name = "<init>"))
    (hd : decode (mB M) pc = .ok (.putfield idx, 3)) (hF : (gF G)[j]? = some (n, d, ty)) (hk : k0 G ≤ i) (hi : h[i]? = some (.inl fs)) (hp : mput ty v = some v') (hn : Ev G M (pc + 3) L S (h.set i (.inl (fs.set j v'))) r) : Ev G M pc L (v :: .ref i :: S) h r := by
  have hs := hsl_set (gK G) h i (.inl fs) (.inl (fs.set j v')) hi rfl
  refine Ev.gen (by rw [List.length_set]; exact Nat.le_refl _) (by rw [hs]; exact Nat.le_refl _) rfl hn ?_
  intro p e R s m args below meth c T locs cells slots X hx hZ hown hby hml hnm hLm hfr hlo hsz hR hFr hc hsq
  obtain ⟨e1, e2, e3⟩ := hR.2.2.2 i _ hi
  obtain ⟨q1, q2⟩ := mput_spec (G := G) hp
  have hlt : j < fs.length := by rw [e2]; exact (List.getElem?_eq_some_iff.mp hF).1
  have F := e3 j n d ty _ hF (List.getElem?_eq_getElem hlt)
  obtain ⟨T', h', X', eT', W, st⟩ := putFN X hx hZ hown w Via.refl rfl F e1 (wl.imp id fun ⟨a, b, c⟩ => ⟨a, b, by rw [hnm]; exact c⟩) K.2.2.1 (K.1 j n d ty hF).2 q1 q2 (g := mkF m pc (arL G L) ((v :: Value.ref i :: S).map (tr G))) rfl rfl (hb hby hd)
  refine ⟨T', _, ?_, ?_, Fr.snoc X' hFr (rho_ge hk), st⟩
  · rw [hs, List.length_set, Nat.sub_self, Nat.sub_self, Nat.add_zero, Nat.add_zero]; exact X'
  · rw [eT']; exact hR.wrFld K hi hF W
/-! ### arrays -/
theorem get_arr {xs : List Int32} {c : Cell} (hs : c.slots = (xs.map Value.int).toArray) (k : Nat) : c.slots[k]? = (xs[k]?).map Value.int := by rw [hs]; simp
theorem arr_size {xs : List Int32} {c : Cell} (hs : c.slots = (xs.map Value.int).toArray) : c.slots.size = xs.length := by rw [hs]; simp
theorem Ev.arraylength {i : Nat} {b : Bool} {xs : List Int32} (hd : decode (mB M) pc = .ok (.arraylength, 1)) (hi : h[i]? = some (.inr (b, xs))) (hn : Ev G M (pc + 1) L (.int xs.length.toInt32 :: S) h r) : Ev G M pc L (.ref i :: S) h r := by
  refine Ev.same rfl hn ?_
  intro p e R s m args below meth c T locs cells slots X hx hZ hown hby hml hLm hfr hlo hR
  obtain ⟨cl, A, hs⟩ := hR.2.2.2 i _ hi
  refine ⟨T, X, rfl, fun target k => X.arraylength hx A.1 (State.isArrayOf_alike hZ.alike A.2.1) (g := mkF m pc (arL G L) ((Value.ref i :: S).map (tr G))) rfl rfl (hb hby hd) target ?_⟩
  rw [arr_size hs]; exact k
theorem Ev.iaload {i : Nat} {xs : List Int32} {j v : Int32} (hd : decode (mB M) pc = .ok (.iaload, 1)) (hi : h[i]? = some (.inr (false, xs))) (hj : ¬ j < 0) (hv : xs[j.toNatClampNeg]? = some v) (hn : Ev G M (pc + 1) L (.int v :: S) h r) : Ev G M pc L (.int j :: .ref i :: S) h r := by
  refine Ev.same rfl hn ?_
  intro p e R s m args below meth c T locs cells slots X hx hZ hown hby hml hLm hfr hlo hR
  obtain ⟨cl, A, hs⟩ := hR.2.2.2 i _ hi
  have hlt := (List.getElem?_eq_some_iff.mp hv).1
  exact ⟨T, X, rfl, fun target k => X.iaload hx A.1 (State.isArrayOf_alike hZ.alike A.2.1) A.2.2 (fun q => q.elim hj fun q => absurd (arr_size hs ▸ q) (Nat.not_le.mpr hlt)) (by rw [get_arr hs, hv]; rfl) (g := mkF m pc (arL G L) ((Value.int j :: Value.ref i :: S).map (tr G))) rfl rfl (hb hby hd) target k⟩
theorem Ev.baload {i : Nat} {xs : List Int32} {j v : Int32} (hd : decode (mB M) pc = .ok (.baload, 1)) (hi : h[i]? = some (.inr (true, xs))) (hj : ¬ j < 0) (hv : xs[j.toNatClampNeg]? = some v) (hn : Ev G M (pc + 1) L (.int v :: S) h r) : Ev G M pc L (.int j :: .ref i :: S) h r := by
  refine Ev.same rfl hn ?_
  intro p e R s m args below meth c T locs cells slots X hx hZ hown hby hml hLm hfr hlo hR
  obtain ⟨cl, A, hs⟩ := hR.2.2.2 i _ hi
  have hlt := (List.getElem?_eq_some_iff.mp hv).1
  exact ⟨T, X, rfl, fun target k => X.baloadBooleans hx A.1 (State.isArrayOf_alike hZ.alike A.2.1) A.2.2 (fun q => q.elim hj fun q => absurd (arr_size hs ▸ q) (Nat.not_le.mpr hlt)) (by rw [get_arr hs, hv]; rfl) (g := mkF m pc (arL G L) ((Value.int j :: Value.ref i :: S).map (tr G))) rfl rfl (hb hby hd) target k⟩
theorem Ev.iastore {i : Nat} {xs : List Int32} {j v : Int32} (hd : decode (mB M) pc = .ok (.iastore, 1)) (hk : k0 G ≤ i) (hi : h[i]? = some (.inr (false, xs))) (hj : ¬ j < 0) (hlt : j.toNatClampNeg < xs.length) (hn : Ev G M (pc + 1) L S (h.set i (.inr (false, xs.set j.toNatClampNeg v))) r) : Ev G M pc L (.int v :: .int j :: .ref i :: S) h r := by
  have hs := hsl_set (gK G) h i (.inr (false, xs)) (.inr (false, xs.set j.toNatClampNeg v)) hi (by simp [csl])
  refine Ev.gen (by rw [List.length_set]; exact Nat.le_refl _) (by rw [hs]; exact Nat.le_refl _) rfl hn ?_
  intro p e R s m args below meth c T locs cells slots X hx hZ hown hby hml hnm hLm hfr hlo hsz hR hFr hc hsq
  obtain ⟨cl, A, hsz'⟩ := hR.2.2.2 i _ hi
  obtain ⟨T', h', X', eT', W, st⟩ := stI X hx hZ rfl A (j := j) (x := v) (fun q => q.elim hj fun q => absurd (arr_size hsz' ▸ q) (Nat.not_le.mpr hlt)) (g := mkF m pc (arL G L) ((Value.int v :: Value.int j :: Value.ref i :: S).map (tr G))) rfl rfl (hb hby hd)
  refine ⟨T', _, ?_, ?_, Fr.snoc X' hFr (rho_ge hk), st⟩
  · rw [hs, List.length_set, Nat.sub_self, Nat.sub_self, Nat.add_zero, Nat.add_zero]; exact X'
  · rw [eT']; exact hR.wrArr hi W
theorem Ev.bastore {i : Nat} {xs : List Int32} {j v : Int32} (hd : decode (mB M) pc = .ok (.bastore, 1)) (hk : k0 G ≤ i) (hi : h[i]? = some (.inr (true, xs))) (hj : ¬ j < 0) (hlt : j.toNatClampNeg < xs.length) (hn : Ev G M (pc + 1) L S (h.set i (.inr (true, xs.set j.toNatClampNeg (v &&& 1)))) r) : Ev G M pc L (.int v :: .int j :: .ref i :: S) h r := by
  have hs := hsl_set (gK G) h i (.inr (true, xs)) (.inr (true, xs.set j.toNatClampNeg (v &&& 1))) hi (by simp [csl])
  refine Ev.gen (by rw [List.length_set]; exact Nat.le_refl _) (by rw [hs]; exact Nat.le_refl _) rfl hn ?_
  intro p e R s m args below meth c T locs cells slots X hx hZ hown hby hml hnm hLm hfr hlo hsz hR hFr hc hsq
  obtain ⟨cl, A, hsz'⟩ := hR.2.2.2 i _ hi
  obtain ⟨T', h', X', eT', W, st⟩ := stZ X hx hZ rfl A (j := j) (x := v) (fun q => q.elim hj fun q => absurd (arr_size hsz' ▸ q) (Nat.not_le.mpr hlt)) (g := mkF m pc (arL G L) ((Value.int v :: Value.int j :: Value.ref i :: S).map (tr G))) rfl rfl (hb hby hd)
  refine ⟨T', _, ?_, ?_, Fr.snoc X' hFr (rho_ge hk), st⟩
  · rw [hs, List.length_set, Nat.sub_self, Nat.sub_self, Nat.add_zero, Nat.add_zero]; exact X'
  · rw [eT']; exact hR.wrArr hi W
/-! ### making -/
theorem Ev.new {idx : Nat} {fs : List Value} (K : GOk G) (w : (Jvm.Cond.classLink (mN M).cls idx (gC G)).before (gA G) (gZ G) = true) (hd : decode (mB M) pc = .ok (.new idx, 3)) (hf : fs = (gF G).map fun f => defaultValue f.2.2)
    (hn : Ev G M (pc + 3) L (.ref h.length :: S) (h ++ [.inl fs]) r) : Ev G M pc L S h r := by
  subst hf
  have hs := hsl_push (gK G) h (.inl ((gF G).map fun f => defaultValue f.2.2))
  refine Ev.gen (by simp) (by rw [hs]; exact Nat.le_add_right _ _) rfl hn ?_
  intro p e R s m args below meth c T locs cells slots X hx hZ hown hby hml hnm hLm hfr hlo hsz hR hFr hc hsq
  have el : (h ++ [(.inl ((gF G).map fun f => defaultValue f.2.2) : MCell)]).length - h.length = 1 := by simp
  have es : hsl (gK G) (h ++ [.inl ((gF G).map fun f => defaultValue f.2.2)]) - hsl (gK G) h = gK G := by rw [hs]; simp [csl]
  rw [el] at hc
  rw [es] at hsq
  obtain ⟨T', h', X', eT', E, A, D, -, st⟩ := newO X hx hZ hown w K.2.2.1 K.2.2.2 rfl (g := mkF m pc (arL G L) (S.map (tr G))) rfl (hb hby hd) hc hsq
  rw [el, es]
  have hrho : rho G h.length = T.heap.size := by rw [rho_new hR.2.1]; have := hR.1; have := hR.2.1; omega
  refine ⟨T', _, X', ?_, hFr, fun target k => st target ?_⟩
  · rw [eT']
    refine hR.push E ?_ ⟨A, by simp, fun j n d ty v hf hv => ?_⟩
    · have h1 := X'.heapSize
      have h2 : T.heap.size < h'.size := A.lt
      rw [eT'] at h1
      omega
    · rw [List.getElem?_map, hf] at hv
      cases hv
      have := D (K.1 j n d ty hf).1 (K.1 j n d ty hf).2
      have e : tr G (defaultValue ty) = defaultValue ty := by cases ty <;> rfl
      rw [e]; exact this
  · rw [← hrho]; exact k
theorem Ev.newarray {aty : ArrayType} {b : Bool} {n : Int32} {k : Nat} (w : (Jvm.Cond.arrayClass (newarray.typeOf aty)).before (gA G) (gZ G) = true) (hb' : newarray.typeOf aty = kd b) (hd : decode (mB M) pc = .ok (.newarray aty, 2)) (hn0 : ¬ n < 0) (hk : n.toNatClampNeg = k) (hcap : k ≤ 67108864)
    (hn : Ev G M (pc + 2) L (.ref h.length :: S) (h ++ [.inr (b, List.replicate k 0)]) r) : Ev G M pc L (.int n :: S) h r := by
  subst hk
  have hs := hsl_push (gK G) h (.inr (b, List.replicate n.toNatClampNeg 0))
  refine Ev.gen (by simp) (by rw [hs]; exact Nat.le_add_right _ _) rfl hn ?_
  intro p e R s m args below meth c T locs cells slots X hx hZ hown hby hml hnm hLm hfr hlo hsz hR hFr hc hsq
  have el : (h ++ [(.inr (b, List.replicate n.toNatClampNeg 0) : MCell)]).length - h.length = 1 := by simp
  have es : hsl (gK G) (h ++ [.inr (b, List.replicate n.toNatClampNeg 0)]) - hsl (gK G) h = n.toNatClampNeg := by rw [hs]; simp [csl]
  rw [el] at hc
  rw [es] at hsq
  obtain ⟨T', h', cA, X', eT', E, A, st⟩ := newP X hx hZ w rfl (g := mkF m pc (arL G L) ((Value.int n :: S).map (tr G))) rfl (hb hby hd) rfl hn0 (cap := n.toNatClampNeg) (Nat.le_refl _) (by omega) hc hsq
  rw [el, es]
  have hrho : rho G h.length = T.heap.size := by rw [rho_new hR.2.1]; have := hR.1; have := hR.2.1; omega
  refine ⟨T', _, X', ?_, hFr, fun target k => st target ?_⟩
  · rw [eT']
    refine hR.push E ?_ ⟨_, hb' ▸ A, ?_⟩
    · have h1 := X'.heapSize
      have h2 : T.heap.size < h'.size := A.lt
      rw [eT'] at h1
      omega
    · have e0 : defaultValue (kd b) = .int 0 := by cases b <;> rfl
      show Array.replicate n.toNatClampNeg (defaultValue (kd b)) = _
      rw [e0]
      simp
  · rw [← hrho]; exact k
theorem Ev.initO {idx i : Nat} (w1 : (Jvm.Cond.methodLink (mN M).cls idx Lib.objectInit).before (gA G) (gZ G) = true) (w2 : (Jvm.Cond.instanceMethod Lib.objectInit).before (gA G) (gZ G) = true) (w3 : (Jvm.Cond.code Lib.objectInit ⟨#[0xb1]⟩ 1 none).before (gA G) (gZ G) = true)
    (hd : decode (mB M) pc = .ok (.invokespecial idx, 3)) (hf : 1 ≤ mF M) (hl : (S.map fun v => v.category).sum + 12 ≤ mW M) (hn : Ev G M (pc + 3) L S h r) : Ev G M pc L (.ref i :: S) h r := by
  refine Ev.same rfl hn ?_
  intro p e R s m args below meth c T locs cells slots X hx hZ hown hby hml hLm hfr hlo hR
  obtain ⟨T', X', e', st⟩ := RoadKit.initO X hx hZ hown w1 w2 w3 rfl (g := mkF m pc (arL G L) ((Value.ref i :: S).map (tr G))) rfl (by rw [hml, ← hLm]; simp [arL]) (a := rho G i) (rest := S.map (tr G)) rfl (hb hby hd) (Nat.le_trans hf hfr) (W := (S.map fun v => v.category).sum) (by rw [tr_cats]; show 2 * 0 + _ ≤ _; omega) (by omega)
  exact ⟨T', X', e', st⟩
/-! ### calls -/
def notMH (y : Mi) : Prop := (mN y).cls ≠ "java/lang/invoke/MethodHandle" ∧ (mN y).cls ≠ "java/lang/invoke/VarHandle"
theorem mapRev (G : Ctx) (args : List Value) : (args.reverse).map (tr G) = (args.map (tr G)).reverse := by simp
theorem vList (G : Ctx) (v : Option Value) (S : List Value) : (v.map (tr G)).toList ++ S.map (tr G) = (v.toList ++ S).map (tr G) := by cases v <;> simp
theorem back_of_evc {p : Program} {e : Env} {R : Room} {s : State} {args0 : Array Value} {below : List Frame} {y : Mi} {args : List Value} {r1 : Option Value × MHeap} {hr : Heap} {W : Nat} (hC : EvC G y args h r1) (hR : Rel G hr h) (hZ : (gZ G).Warmed39 s.vm)
    (wc : (Jvm.Cond.code (mN y) (mB y) (mL y) (mR y)).before (gA G) (gZ G) = true) (wz : (Jvm.Cond.initialized (mN y).cls).before (gA G) (gZ G) = true) (hf : mF y + 1 ≤ R.frames) (hl : W + (mL y + 11) + mW y ≤ R.locals) :
    Back (gL G) R p e below s args0 (mN y) 3 W (fun A a => a = (args.map (tr G)).toArray ∧ A.U.heap = hr ∧ A.cells + (r1.2.length - h.length) ≤ R.cells ∧ A.slots + (hsl (gK G) r1.2 - hsl (gK G) h) ≤ R.slots)
      (fun A _ v B => ∃ L, (v = r1.1.map (tr G) ∧ Fr (gN G) L ∧ Rel G B.U.heap r1.2) ∧ B.locs = A.locs ++ L ∧ B.cells = A.cells + (r1.2.length - h.length) ∧ B.slots = A.slots + (hsl (gK G) r1.2 - hsl (gK G) h)) :=
  backOf (Q := fun v hp L => v = r1.1.map (tr G) ∧ Fr (gN G) L ∧ Rel G hp r1.2) (rm := { frames := mF y, cells := r1.2.length - h.length, slots := hsl (gK G) r1.2 - hsl (gK G) h, locals := mW y })
    (hC.2 [] { frames := mF y, cells := r1.2.length - h.length, slots := hsl (gK G) r1.2 - hsl (gK G) h, locals := mW y } hr (Nat.le_refl _) (Nat.le_refl _) (Nat.le_refl _) (Nat.le_refl _) hR) hZ wc wz hf hl
/-- a private method of the class -/
theorem Ev.priv {y : Mi} {idx i : Nat} {args rest : List Value} {v : Option Value} {h1 : MHeap} {fs : List Value} (K : GOk G) (hcls : (mN y).cls = gC G) (hy : notMH y)
    (wl : (Jvm.Cond.methodLink (mN M).cls idx (mN y)).before (gA G) (gZ G) = true) (wi : (Jvm.Cond.instanceMethod (mN y)).before (gA G) (gZ G) = true) (wp : (Jvm.Cond.privateMethod (mN y)).before (gA G) (gZ G) = true)
    (wc : (Jvm.Cond.code (mN y) (mB y) (mL y) (mR y)).before (gA G) (gZ G) = true) (hlen : ∀ sig, parseMethodDescriptor (mN y).desc = some sig → args.length = sig.parameters.length)
    (hd : decode (mB M) pc = .ok (.invokevirtual idx, 3)) (hi : h[i]? = some (.inl fs)) (hC : EvC G y (.ref i :: args) h (v, h1)) (hfr : mF y + 1 ≤ mF M) (hlo : (rest.map fun v => v.category).sum + (mL y + 11) + mW y ≤ mW M)
    (hS : S = args.reverse ++ .ref i :: rest) (hn : Ev G M (pc + 3) L (v.toList ++ rest) h1 r) : Ev G M pc L S h r := by
  subst hS
  refine Ev.gen hC.1.1 hC.1.2 rfl hn ?_
  intro p e R s m args0 below meth c T locs cells slots X hx hZ hown hby hml hnm hLm hfr' hlo' hsz hR hFr hc hsq
  obtain ⟨e1, -, -⟩ := hR.2.2.2 i _ hi
  obtain ⟨cell, hcell, hobj⟩ := e1.cell
  have hwi : (Jvm.Cond.instanceMethod (mN y)).before args0 s = true := mvT hZ wi
  have hpr := Jvm.Cond.privateMethod_at (mvP hZ wp (args := #[]))
  have hsel : (Jvm.Cond.selects (mN y).cls (mN y) (mN y)).before args0 s = true := by
    obtain ⟨c0, k0', q1, q2, -, q4, -⟩ := Jvm.Cond.instantiable_spec (mvT hZ K.2.2.1 (args := #[]) (s := s))
    refine selects_self_of_private (c := c0) (k := k0') (by rw [hcls]; exact q1) q2 ?_ hpr hwi hy
    simp only [Bool.or_eq_false_iff] at q4
    exact q4.1
  obtain ⟨v', vm1, ⟨T', L', k', n'⟩, -, X', ⟨Lc, ⟨rfl, hF', hR'⟩, l1, l2, l3⟩, st⟩ := X.privateBack hx (y := mN y) hown (mvT hZ wl) hwi hsel hpr (mvT hZ wc) hy
    (back_of_evc (W := (rest.map fun v => v.category).sum) hC hR hZ wc (hcls ▸ K.2.2.2) (Nat.le_trans hfr hfr') (Nat.le_trans hlo hlo')) (g := mkF m pc (arL G L) ((args.reverse ++ Value.ref i :: rest).map (tr G))) rfl (by rw [hml, ← hLm]; simp [arL]) (Steps.refl _) hcell hobj
    (argsL := args.map (tr G)) (rest := rest.map (tr G)) (fun sig hsig => by rw [List.length_map]; exact hlen sig hsig) (by simp [tr]) (by rw [tr_cats]; show 2 * 0 + _ ≤ _; omega) (hb hby hd) (fun vm1 hW1 => ⟨rfl, rfl, hc, hsq⟩)
  dsimp only [Pt.U, Pt.locs, Pt.cells, Pt.slots] at X' l1 l2 l3 st hR'
  subst l1 l2 l3
  refine ⟨T', _, X', hR', hFr.app hF', fun target k => st.trans ?_⟩
  rw [vList]
  exact k
/-- a method of the class that no one overrides -/
theorem Ev.virt {y : Mi} {idx i : Nat} {args rest : List Value} {v : Option Value} {h1 : MHeap} {fs : List Value} (K : GOk G) (hcls : (mN y).cls = gC G) (hy : notMH y)
    (wl : (Jvm.Cond.methodLink (mN M).cls idx (mN y)).before (gA G) (gZ G) = true) (wd : (Jvm.Cond.declares (mN y)).before (gA G) (gZ G) = true) (wi : (Jvm.Cond.instanceMethod (mN y)).before (gA G) (gZ G) = true) (ws : (Jvm.Cond.selects (gC G) (mN y) (mN y)).before (gA G) (gZ G) = true)
    (wc : (Jvm.Cond.code (mN y) (mB y) (mL y) (mR y)).before (gA G) (gZ G) = true) (hlen : ∀ sig, parseMethodDescriptor (mN y).desc = some sig → args.length = sig.parameters.length)
    (hd : decode (mB M) pc = .ok (.invokevirtual idx, 3)) (hi : h[i]? = some (.inl fs)) (hC : EvC G y (.ref i :: args) h (v, h1)) (hfr : mF y + 1 ≤ mF M) (hlo : (rest.map fun v => v.category).sum + (mL y + 11) + mW y ≤ mW M)
    (hS : S = args.reverse ++ .ref i :: rest) (hn : Ev G M (pc + 3) L (v.toList ++ rest) h1 r) : Ev G M pc L S h r := by
  subst hS
  refine Ev.gen hC.1.1 hC.1.2 rfl hn ?_
  intro p e R s m args0 below meth c T locs cells slots X hx hZ hown hby hml hnm hLm hfr' hlo' hsz hR hFr hc hsq
  obtain ⟨e1, -, -⟩ := hR.2.2.2 i _ hi
  obtain ⟨cq, kq, qa, qb, qc⟩ := isOf (T := T) hZ rfl e1
  obtain ⟨v', vm1, ⟨T', L', k', n'⟩, -, X', ⟨Lc, ⟨rfl, hF', hR'⟩, l1, l2, l3⟩, st⟩ := X.virtualBack hx (y := mN y) (z := mN y) hown (mvT hZ wl) (mvT hZ wd) (notFace_of_selects (args := #[]) (mvT hZ ws)) (mvT hZ ws) (mvT hZ wi) hy
    (back_of_evc (W := (rest.map fun v => v.category).sum) hC hR hZ wc (hcls ▸ K.2.2.2) (Nat.le_trans hfr hfr') (Nat.le_trans hlo hlo')) qa qc (g := mkF m pc (arL G L) ((args.reverse ++ Value.ref i :: rest).map (tr G))) rfl (by rw [hml, ← hLm]; simp [arL]) (Steps.refl _)
    (argsL := args.map (tr G)) (rest := rest.map (tr G)) (fun sig hsig => by rw [List.length_map]; exact hlen sig hsig) (by simp [tr]) (by rw [tr_cats]; show 2 * 0 + _ ≤ _; omega) (hb hby hd) (fun vm1 hW1 => ⟨rfl, rfl, hc, hsq⟩)
  dsimp only [Pt.U, Pt.locs, Pt.cells, Pt.slots] at X' l1 l2 l3 st hR'
  subst l1 l2 l3
  refine ⟨T', _, X', hR', hFr.app hF', fun target k => st.trans ?_⟩
  rw [vList]
  exact k
/-- a constructor -/
theorem Ev.ctor {y : Mi} {idx i : Nat} {args rest : List Value} {v : Option Value} {h1 : MHeap} (hy1 : (mN y).name = "<init>") (hret : mR y = none) (hy : notMH y)
    (wl : (Jvm.Cond.methodLink (mN M).cls idx (mN y)).before (gA G) (gZ G) = true) (wi : (Jvm.Cond.instanceMethod (mN y)).before (gA G) (gZ G) = true)
    (wc : (Jvm.Cond.code (mN y) (mB y) (mL y) (mR y)).before (gA G) (gZ G) = true) (wz : (Jvm.Cond.initialized (mN y).cls).before (gA G) (gZ G) = true) (hlen : ∀ sig, parseMethodDescriptor (mN y).desc = some sig → args.length = sig.parameters.length)
    (hd : decode (mB M) pc = .ok (.invokespecial idx, 3)) (hC : EvC G y (.ref i :: args) h (v, h1)) (hfr : mF y + 1 ≤ mF M) (hlo : (rest.map fun v => v.category).sum + (mL y + 11) + mW y ≤ mW M)
    (hS : S = args.reverse ++ .ref i :: rest) (hn : Ev G M (pc + 3) L (v.toList ++ rest) h1 r) : Ev G M pc L S h r := by
  subst hS
  refine Ev.gen hC.1.1 hC.1.2 rfl hn ?_
  intro p e R s m args0 below meth c T locs cells slots X hx hZ hown hby hml hnm hLm hfr' hlo' hsz hR hFr hc hsq
  obtain ⟨v', vm1, ⟨T', L', k', n'⟩, -, X', ⟨Lc, ⟨rfl, hF', hR'⟩, l1, l2, l3⟩, st⟩ := X.specialBack hx (y := mN y) hy1 hown (mvT hZ wl) (mvT hZ wi) (mvT hZ (hret ▸ wc)) hy
    (back_of_evc (W := (rest.map fun v => v.category).sum) hC hR hZ wc wz (Nat.le_trans hfr hfr') (Nat.le_trans hlo hlo')) (g := mkF m pc (arL G L) ((args.reverse ++ Value.ref i :: rest).map (tr G))) rfl (by rw [hml, ← hLm]; simp [arL]) (Steps.refl _)
    (a := rho G i) (argsL := args.map (tr G)) (rest := rest.map (tr G)) (fun sig hsig => by rw [List.length_map]; exact hlen sig hsig) (by simp [tr]) (by rw [tr_cats]; show 2 * 0 + _ ≤ _; omega) (hb hby hd) (fun vm1 hW1 => ⟨rfl, rfl, hc, hsq⟩)
  dsimp only [Pt.U, Pt.locs, Pt.cells, Pt.slots] at X' l1 l2 l3 st hR'
  subst l1 l2 l3
  refine ⟨T', _, X', hR', hFr.app hF', fun target k => st.trans ?_⟩
  rw [vList]
  exact k
/-- a static method -/
theorem Ev.stat {y : Mi} {idx : Nat} {args rest : List Value} {v : Option Value} {h1 : MHeap} (hy : notMH y)
    (wl : (Jvm.Cond.methodLink (mN M).cls idx (mN y)).before (gA G) (gZ G) = true) (wst : (Jvm.Cond.static (mN y)).before (gA G) (gZ G) = true) (wz : (Jvm.Cond.initialized (mN y).cls).before (gA G) (gZ G) = true)
    (wc : (Jvm.Cond.code (mN y) (mB y) (mL y) (mR y)).before (gA G) (gZ G) = true) (hlen : ∀ sig, parseMethodDescriptor (mN y).desc = some sig → args.length = sig.parameters.length)
    (hd : decode (mB M) pc = .ok (.invokestatic idx, 3)) (hC : EvC G y args h (v, h1)) (hfr : mF y + 1 ≤ mF M) (hlo : (rest.map fun v => v.category).sum + (mL y + 11) + mW y ≤ mW M)
    (hS : S = args.reverse ++ rest) (hn : Ev G M (pc + 3) L (v.toList ++ rest) h1 r) : Ev G M pc L S h r := by
  subst hS
  refine Ev.gen hC.1.1 hC.1.2 rfl hn ?_
  intro p e R s m args0 below meth c T locs cells slots X hx hZ hown hby hml hnm hLm hfr' hlo' hsz hR hFr hc hsq
  obtain ⟨v', vm1, ⟨T', L', k', n'⟩, -, X', ⟨Lc, ⟨rfl, hF', hR'⟩, l1, l2, l3⟩, st⟩ := Jvm.LawKit.callS X hx (y := mN y) hown (mvT hZ wl) (mvT hZ wst) (mvT hZ wz) (mvT hZ wc) hy
    (back_of_evc (W := (rest.map fun v => v.category).sum) hC hR hZ wc wz (Nat.le_trans hfr hfr') (Nat.le_trans hlo hlo')) (g := mkF m pc (arL G L) ((args.reverse ++ rest).map (tr G))) rfl (by rw [hml, ← hLm]; simp [arL])
    (argsL := args.map (tr G)) (rest := rest.map (tr G)) (fun sig hsig => by rw [List.length_map]; exact hlen sig hsig) (by simp) (by rw [tr_cats]; show 2 * 0 + _ ≤ _; omega) (hb hby hd) (fun vm1 hW1 => ⟨rfl, rfl, hc, hsq⟩)
  dsimp only [Pt.U, Pt.locs, Pt.cells, Pt.slots] at X' l1 l2 l3 st hR'
  subst l1 l2 l3
  refine ⟨T', _, X', hR', hFr.app hF', fun target k => st target ?_⟩
  rw [vList]
  exact k
/-! ### returns -/
theorem Ev.ret {v : Option Value} (st : ∀ {p : Program} {e : Env} {R : Room} {s : State} {m : MethodId} {args : Array Value} {below : List Frame} {meth : Method} {c : Code} {T : State} {locs : List Loc} {cells slots : Nat},
      Stand p (gL G) e R s m args below meth c T locs cells slots → p.tables.exec = Jvm.exec → c.code = mB M → meth.sig.returnType = mR M → ∀ fs,
      (∀ (f : JFrame) (acts : List Action), f.method = m → f.locked = none → f.entered = [] → (doReturn e (T.setTop f) acts (v.map (tr G))).1 = T.setFrames fs) → Steps p.tables e below (T.setTop (mkF m pc (arL G L) (S.map (tr G)))) (T.setFrames fs)) :
    Ev G M pc L S h (v, h) := by
  refine ⟨⟨Nat.le_refl _, Nat.le_refl _⟩, ?_⟩
  intro p e R s m args below meth c T locs cells slots X hx hZ hown hby hml hret hnm hLm hfr hlo hsz hR hF hc hs
  refine ⟨T, locs, ?_, hR, hF, st X hx hby hret⟩
  rw [Nat.sub_self, Nat.sub_self, Nat.add_zero, Nat.add_zero]
  exact X
theorem Ev.ireturn {z : Int32} (hret : mR M = some .int) (hd : decode (mB M) pc = .ok (.ireturn, 1)) : Ev G M pc L (.int z :: S) h (some (.int z), h) :=
  Ev.ret fun X hx hby hr fs hl => retOut X hx (hr.trans hret) rfl (Or.inl ⟨rfl, Or.inl rfl, z, rfl⟩) (hb hby hd) hl
theorem Ev.zreturn {z : Int32} (hret : mR M = some .boolean) (hd : decode (mB M) pc = .ok (.ireturn, 1)) : Ev G M pc L (.int z :: S) h (some (.int (z &&& 1)), h) :=
  Ev.ret fun X hx hby hr fs hl => retN X hx (t := .boolean) (hr.trans hret) (Or.inl rfl) (hb hby hd) hl
theorem Ev.lreturn {z : Int64} (hret : mR M = some .long) (hd : decode (mB M) pc = .ok (.lreturn, 1)) : Ev G M pc L (.long z :: S) h (some (.long z), h) :=
  Ev.ret fun X hx hby hr fs hl => retOut X hx (hr.trans hret) rfl (Or.inr (Or.inl ⟨rfl, rfl, z, rfl⟩)) (hb hby hd) hl
theorem Ev.vreturn (hret : mR M = none) (hd : decode (mB M) pc = .ok (.return_, 1)) : Ev G M pc L [] h (none, h) :=
  Ev.ret fun X hx hby hr fs hl => X.returnOut hx (hr.trans hret) (hb hby hd) hl
/-! ### entering -/
def margs : List Value → List Slot
  | [] => []
  | v :: vs => if v.category = 2 then .val v :: .second :: margs vs else .val v :: margs vs
theorem margs_fold (vs : List Value) : ∀ acc : Array Slot, vs.foldl (init := acc) (fun acc v => if v.category = 2 then (acc.push (.val v)).push .second else acc.push (.val v)) = acc ++ (margs vs).toArray := by
  induction vs with
  | nil => intro acc; simp [margs]
  | cons v vs ih =>
    intro acc
    rw [List.foldl_cons, ih]
    by_cases h : v.category = 2
    · simp [margs, h]
    · simp [margs, h]
theorem margs_map (G : Ctx) : ∀ vs : List Value, margs (vs.map (tr G)) = (margs vs).map (trS G)
  | [] => rfl
  | v :: vs => by
    have ih := margs_map G vs
    by_cases h : v.category = 2
    · simp only [List.map_cons, margs, tr_cat, h, if_true, ih]; rfl
    · simp only [List.map_cons, margs, tr_cat, h, if_false, ih]; rfl
def ment (args : List Value) (k : Nat) : List Slot := margs args ++ List.replicate (k - (margs args).length) .unset
theorem entry_eq (G : Ctx) (m : MethodId) (args : List Value) (k : Nat) : entryFrame m (args.map (tr G)).toArray k = mkF m 0 (arL G (ment args k)) [] := by
  have e : argsToLocals (args.map (tr G)).toArray k = arL G (ment args k) := by
    unfold argsToLocals arL ment
    have q := margs_fold (args.map (tr G)) #[]
    rw [List.foldl_toArray']
    · rw [q, margs_map]
      simp [trS]
    · simp
  unfold entryFrame
  rw [e]
theorem EvC.enter {y : Mi} {args : List Value} {L0 : List Slot} (hp : plainFor (mN y) = true) (hv : mR y = none → r.1 = none) (hL : ment args (mL y) = L0) (hlen : L0.length = mL y) (hn : Ev G y 0 L0 [] h r) : EvC G y args h r := by
  subst hL
  refine ⟨hn.1, fun ws R hr hf hl hc hs hR => ?_⟩
  refine MetFree.of_bodySF hp hisR ?_
  intro p e s m args' below meth c s₁ Bd hml0 hP hK
  obtain ⟨rfl, hZ, hh⟩ := hP
  have X0 : Stand p (gL G) e R s m _ below meth c s₁ [] 0 0 := Stand.of_body Bd
  have e0 : s₁.heap = hr := by rw [← hh, Bd.state]; rfl
  obtain ⟨T', locs', X', R', F', st⟩ := hn.2 p e R s m _ below meth c s₁ [] 0 0 X0 Bd.exec hZ (findClass_of_methodNamed Bd.named) Bd.bytes hml0 Bd.returns (name_of_methodNamed Bd.named Bd.method).1 hlen hf hl (by rw [e0, hh]; rfl) (by rw [e0]; exact hR) (Fr.nil _) (by omega) (by omega)
  rw [Nat.zero_add, Nat.zero_add] at X'
  obtain ⟨fs, hret, hrun, hended, hW, hsame⟩ := X'.leave (v := r.1.map (tr G)) (fun q => by rw [hv (Bd.returns.symm.trans q)]; rfl)
  refine ⟨_, _, castTop (entry_eq G m args (mL y)) (st fs hret), hrun, hended, _, _, rfl, ⟨rfl, F', ?_⟩, ⟨_, rfl⟩, hW, hsame⟩
  exact R'
end Rules
end Jvm.Own
namespace Jvm.Own
open Sem ClassFile Op Lib Jvm.Stand Jvm.Free Jvm.LawKit Jvm.RoadKit
/-! ## 4. An object as two functions: its ints by the field's number, its arrays by the field's number and the place -/
abbrev St := (Nat → Int32) × (Nat → Nat → Int32)
def setI (s : St) (j : Nat) (z : Int32) : St := (fun k => if k = j then z else s.1 k, s.2)
def setA (s : St) (j i : Nat) (z : Int32) : St := (s.1, fun k x => if k = j ∧ x = i then z else s.2 k x)
def zeroS : St := (fun _ => 0, fun _ _ => 0)
theorem setI_1 (s : St) (j : Nat) (z : Int32) (k : Nat) : (setI s j z).1 k = if k = j then z else s.1 k := rfl
theorem setI_2 (s : St) (j : Nat) (z : Int32) : (setI s j z).2 = s.2 := rfl
theorem setA_1 (s : St) (j i : Nat) (z : Int32) : (setA s j i z).1 = s.1 := rfl
theorem setA_2 (s : St) (j i : Nat) (z : Int32) (k x : Nat) : (setA s j i z).2 k x = if k = j ∧ x = i then z else s.2 k x := rfl
def ix (j : Int32) : Nat := j.toNatClampNeg
/-- the place j lies in an array of n -/
def inb (j : Int32) (n : Nat) : Prop := ¬ j < 0 ∧ ix j < n
instance (j : Int32) (n : Nat) : Decidable (inb j n) := inferInstanceAs (Decidable (_ ∧ _))
def bnd {α β : Type} (x : α) (f : α → β) : β := f x
theorem bnd_eq {α β : Type} (x : α) (f : α → β) : bnd x f = f x := rfl
def tab (n : Nat) (f : Nat → Int32) : List Int32 := (List.range n).map f
theorem tab_len (n : Nat) (f : Nat → Int32) : (tab n f).length = n := by simp [tab]
theorem tab_get {n : Nat} {f : Nat → Int32} {i : Nat} (h : i < n) : (tab n f)[i]? = some (f i) := by simp [tab, h]
theorem tab_set {n : Nat} {f : Nat → Int32} {i : Nat} {z : Int32} : (tab n f).set i z = tab n (fun x => if x = i then z else f x) := by
  apply List.ext_getElem?
  intro k
  rw [List.getElem?_set]
  by_cases h : i = k
  · subst h
    by_cases q : i < n
    · simp [tab, q]
    · simp [tab, q]
  · by_cases q : k < n
    · simp [tab, q, h, Ne.symm h]
    · simp [tab, q, h]
theorem tab_zero (n : Nat) : tab n (fun _ => 0) = List.replicate n 0 := by
  apply List.ext_getElem?
  intro k
  by_cases q : k < n <;> simp [tab, q]
theorem tab_of (xs : List Int32) : xs = tab xs.length (fun i => xs.getD i 0) := by
  apply List.ext_getElem?
  intro k
  by_cases q : k < xs.length
  · simp [tab, q]
  · simp [tab, q]
def isA : FieldType → Bool
  | .array _ => true
  | _ => false
def isB : FieldType → Bool
  | .boolean => true
  | _ => false
def fv1 (r : Nat → Nat) (s : St) (j : Nat) (f : Fd) : Value := match f.2.2 with
  | .array _ => .ref (r j)
  | _ => .int (s.1 j)
def fvA (r : Nat → Nat) (s : St) : Nat → List Fd → List Value
  | _, [] => []
  | j, f :: fs => fv1 r s j f :: fvA r s (j + 1) fs
theorem fvA_get (r : Nat → Nat) (s : St) : ∀ (F : List Fd) (k j : Nat), (fvA r s k F)[j]? = (F[j]?).map (fv1 r s (k + j))
  | [], _, _ => by simp [fvA]
  | f :: fs, k, 0 => by simp [fvA]
  | f :: fs, k, j + 1 => by
    have := fvA_get r s fs (k + 1) j
    simp only [fvA, List.getElem?_cons_succ, this]
    rw [show k + 1 + j = k + (j + 1) by omega]
theorem fvA_len (r : Nat → Nat) (s : St) : ∀ (F : List Fd) (k : Nat), (fvA r s k F).length = F.length
  | [], _ => rfl
  | f :: fs, k => by simp [fvA, fvA_len r s fs (k + 1)]
theorem fvA_set {r : Nat → Nat} {s : St} {F : List Fd} {j : Nat} {f : Fd} {z : Int32} (hF : F[j]? = some f) (ht : isA f.2.2 = false) : (fvA r s 0 F).set j (.int z) = fvA r (setI s j z) 0 F := by
  apply List.ext_getElem?
  intro k
  rw [List.getElem?_set, fvA_get, fvA_get, Nat.zero_add]
  by_cases h : j = k
  · subst h
    simp only [if_true, fvA_len, (List.getElem?_eq_some_iff.mp hF).1, hF, Option.map_some]
    congr 1
    unfold fv1
    split
    · rename_i t e; rw [e] at ht; cases ht
    · simp [setI_1]
  · simp only [h, if_false]
    cases F[k]? with
    | none => rfl
    | some g =>
      simp only [Option.map_some]
      congr 1
      unfold fv1
      split
      · rfl
      · rw [setI_1, if_neg (Ne.symm h)]
theorem fvA_same (r : Nat → Nat) {s s' : St} (h : s.1 = s'.1) : ∀ (F : List Fd) (k : Nat), fvA r s k F = fvA r s' k F
  | [], _ => rfl
  | f :: fs, k => by
    simp only [fvA, fvA_same r h fs (k + 1)]
    congr 1
    unfold fv1
    split
    · rfl
    · rw [h]
/-- the heap K s shows the object at o, its arrays at r, as s tells -/
def View (G : Ctx) (Ln : Nat → Nat) (K : St → MHeap) (o : Nat) (r : Nat → Nat) : Prop :=
  k0 G ≤ o ∧ (∀ s, (K s)[o]? = some (.inl (fvA r s 0 (gF G)))) ∧
  (∀ s j f z, (gF G)[j]? = some f → isA f.2.2 = false → (K s).set o (.inl ((fvA r s 0 (gF G)).set j (.int z))) = K (setI s j z)) ∧
  (∀ j n d t, (gF G)[j]? = some (n, d, .array t) → k0 G ≤ r j ∧ (∀ s, (K s)[r j]? = some (.inr (isB t, tab (Ln j) (s.2 j)))) ∧ ∀ s i z, i < Ln j → (K s).set (r j) (.inr (isB t, (tab (Ln j) (s.2 j)).set i z)) = K (setA s j i z))
section ViewRules
variable {G : Ctx} {M : Mi} {pc : Nat} {L : List Slot} {S : List Value} {rr : Option Value × MHeap} {Ln : Nat → Nat} {K : St → MHeap} {o : Nat} {r : Nat → Nat} {s : St}
theorem Ev.gI {idx j : Nat} {n d : String} {ty : FieldType} (V : View G Ln K o r) (w : (Jvm.Cond.fieldLink (mN M).cls idx (gC G) n d).before (gA G) (gZ G) = true) (hd : decode (mB M) pc = .ok (.getfield idx, 3)) (hF : (gF G)[j]? = some (n, d, ty)) (ht : isA ty = false)
    (hn : Ev G M (pc + 3) L (.int (s.1 j) :: S) (K s) rr) : Ev G M pc L (.ref o :: S) (K s) rr :=
  Ev.getfield w hd hF (V.2.1 s) (v := .int (s.1 j)) (by rw [fvA_get, hF, Nat.zero_add]; simp only [Option.map_some, fv1]; cases ty <;> first | rfl | cases ht) hn
theorem Ev.gAr {idx j : Nat} {n d : String} {t : FieldType} (V : View G Ln K o r) (w : (Jvm.Cond.fieldLink (mN M).cls idx (gC G) n d).before (gA G) (gZ G) = true) (hd : decode (mB M) pc = .ok (.getfield idx, 3)) (hF : (gF G)[j]? = some (n, d, .array t))
    (hn : Ev G M (pc + 3) L (.ref (r j) :: S) (K s) rr) : Ev G M pc L (.ref o :: S) (K s) rr :=
  Ev.getfield w hd hF (V.2.1 s) (v := .ref (r j)) (by rw [fvA_get, hF, Nat.zero_add]; rfl) hn
theorem Ev.pI {idx j : Nat} {n d : String} {z : Int32} (V : View G Ln K o r) (Kk : GOk G) (w : (Jvm.Cond.fieldLink (mN M).cls idx (gC G) n d).before (gA G) (gZ G) = true)
    (wl : (Jvm.Cond.lays (gC G) (gC G) n d).before (gA G) (gZ G) = true ∨ ((Jvm.Cond.laysFinal (gC G) (gC G) n d).before (gA G) (gZ G) = true ∧ (mN M).cls = gC G ∧ (mN M).name = "<init>"))
    (hd : decode (mB M) pc = .ok (.putfield idx, 3)) (hF : (gF G)[j]? = some (n, d, .int)) (hn : Ev G M (pc + 3) L S (K (setI s j z)) rr) : Ev G M pc L (.int z :: .ref o :: S) (K s) rr := by
  refine Ev.putfield Kk w wl hd hF V.1 (V.2.1 s) (v' := .int z) rfl ?_
  rw [V.2.2.1 s j _ z hF rfl]; exact hn
theorem Ev.pZ {idx j : Nat} {n d : String} {z : Int32} (V : View G Ln K o r) (Kk : GOk G) (w : (Jvm.Cond.fieldLink (mN M).cls idx (gC G) n d).before (gA G) (gZ G) = true)
    (wl : (Jvm.Cond.lays (gC G) (gC G) n d).before (gA G) (gZ G) = true ∨ ((Jvm.Cond.laysFinal (gC G) (gC G) n d).before (gA G) (gZ G) = true ∧ (mN M).cls = gC G ∧ (mN M).name = "<init>"))
    (hd : decode (mB M) pc = .ok (.putfield idx, 3)) (hF : (gF G)[j]? = some (n, d, .boolean)) (hn : Ev G M (pc + 3) L S (K (setI s j (z &&& 1))) rr) : Ev G M pc L (.int z :: .ref o :: S) (K s) rr := by
  refine Ev.putfield Kk w wl hd hF V.1 (V.2.1 s) (v' := .int (z &&& 1)) rfl ?_
  rw [V.2.2.1 s j _ _ hF rfl]; exact hn
theorem Ev.ial {j : Nat} {n d : String} {i : Int32} {N : Nat} (V : View G Ln K o r) (hF : (gF G)[j]? = some (n, d, .array .int)) (hN : Ln j = N) (hd : decode (mB M) pc = .ok (.iaload, 1)) (hb : inb i N) (hn : Ev G M (pc + 1) L (.int (s.2 j (ix i)) :: S) (K s) rr) : Ev G M pc L (.int i :: .ref (r j) :: S) (K s) rr :=
  Ev.iaload hd ((V.2.2.2 j n d _ hF).2.1 s) hb.1 (tab_get (hN ▸ hb.2)) hn
theorem Ev.bal {j : Nat} {n d : String} {i : Int32} {N : Nat} (V : View G Ln K o r) (hF : (gF G)[j]? = some (n, d, .array .boolean)) (hN : Ln j = N) (hd : decode (mB M) pc = .ok (.baload, 1)) (hb : inb i N) (hn : Ev G M (pc + 1) L (.int (s.2 j (ix i)) :: S) (K s) rr) : Ev G M pc L (.int i :: .ref (r j) :: S) (K s) rr :=
  Ev.baload hd ((V.2.2.2 j n d _ hF).2.1 s) hb.1 (tab_get (hN ▸ hb.2)) hn
theorem Ev.ias {j : Nat} {n d : String} {i z : Int32} {N : Nat} (V : View G Ln K o r) (hF : (gF G)[j]? = some (n, d, .array .int)) (hN : Ln j = N) (hd : decode (mB M) pc = .ok (.iastore, 1)) (hb : inb i N) (hn : Ev G M (pc + 1) L S (K (setA s j (ix i) z)) rr) : Ev G M pc L (.int z :: .int i :: .ref (r j) :: S) (K s) rr := by
  obtain ⟨q1, q2, q3⟩ := V.2.2.2 j n d _ hF
  refine Ev.iastore hd q1 (q2 s) hb.1 (by rw [tab_len, hN]; exact hb.2) ?_
  have := q3 s (ix i) z (hN ▸ hb.2)
  exact this ▸ hn
theorem Ev.bas {j : Nat} {n d : String} {i z : Int32} {N : Nat} (V : View G Ln K o r) (hF : (gF G)[j]? = some (n, d, .array .boolean)) (hN : Ln j = N) (hd : decode (mB M) pc = .ok (.bastore, 1)) (hb : inb i N) (hn : Ev G M (pc + 1) L S (K (setA s j (ix i) (z &&& 1))) rr) : Ev G M pc L (.int z :: .int i :: .ref (r j) :: S) (K s) rr := by
  obtain ⟨q1, q2, q3⟩ := V.2.2.2 j n d _ hF
  refine Ev.bastore hd q1 (q2 s) hb.1 (by rw [tab_len, hN]; exact hb.2) ?_
  have := q3 s (ix i) (z &&& 1) (hN ▸ hb.2)
  exact this ▸ hn
theorem Ev.sal {h : MHeap} {i : Int32} {N k : Nat} {f : Nat → Int32} (hs : h[k]? = some (.inr (false, tab N f))) (hd : decode (mB M) pc = .ok (.iaload, 1)) (hb : inb i N) (hn : Ev G M (pc + 1) L (.int (f (ix i)) :: S) h rr) : Ev G M pc L (.int i :: .ref k :: S) h rr :=
  Ev.iaload hd hs hb.1 (tab_get hb.2) hn
theorem Ev.sln {h : MHeap} {N k : Nat} {f : Nat → Int32} (hs : h[k]? = some (.inr (false, tab N f))) (hd : decode (mB M) pc = .ok (.arraylength, 1)) (hn : Ev G M (pc + 1) L (.int N.toInt32 :: S) h rr) : Ev G M pc L (.ref k :: S) h rr :=
  Ev.arraylength hd hs (by rw [tab_len]; exact hn)
theorem Ev.zret1 {h : MHeap} (hret : mR M = some .boolean) (hd : decode (mB M) pc = .ok (.ireturn, 1)) : Ev G M pc L (.int 1 :: S) h (some (.int 1), h) := Ev.zreturn hret hd
theorem Ev.zret0 {h : MHeap} (hret : mR M = some .boolean) (hd : decode (mB M) pc = .ok (.ireturn, 1)) : Ev G M pc L (.int 0 :: S) h (some (.int 0), h) := Ev.zreturn hret hd
/-- a slot over which an int may be stored at once -/
def one1 : Slot → Bool
  | .unset => true
  | .val v => v.category == 1
  | .second => false
theorem mst_one {l : List Slot} {i : Nat} {v : Value} {o : Slot} (ho : l[i]? = some o) (h1 : one1 o = true) (hv : v.category = 1) : mst l i v = some (l.set i (.val v)) := by
  have hlt := (List.getElem?_eq_some_iff.mp ho).1
  have e : lstoreSelf l i v = some (l.set i (.val v)) := by simp [lstoreSelf, lsetAt, hlt, hv]
  unfold mst
  rw [ho]
  cases o with
  | unset => exact e
  | second => cases h1
  | val w =>
    have : w.category = 1 := by simpa [one1] using h1
    simp only [this]
    exact e
theorem Ev.istD {k : Nat} {v : Int32} {L' : List Slot} {o : Slot} {h : MHeap} (hd : decode (mB M) pc = .ok (.istore k, 2)) (ho : L[k]? = some o) (h1 : one1 o = true) (hl : L.set k (.val (.int v)) = L') (hn : Ev G M (pc + 2) L' S h rr) : Ev G M pc L (.int v :: S) h rr :=
  Ev.istore hd (by rw [mst_one ho h1 rfl, hl]) hn
theorem Ev.istDN {k : Fin 4} {v : Int32} {L' : List Slot} {o : Slot} {h : MHeap} (hd : decode (mB M) pc = .ok (.istore_n k, 1)) (ho : L[k.val]? = some o) (h1 : one1 o = true) (hl : L.set k.val (.val (.int v)) = L') (hn : Ev G M (pc + 1) L' S h rr) : Ev G M pc L (.int v :: S) h rr :=
  Ev.istoreN hd (by rw [mst_one ho h1 rfl, hl]) hn
/-- a pair of slots over which a long may be stored at once -/
def two2 (a b : Slot) : Prop := (one1 a = true ∧ one1 b = true) ∨ (∃ x, a = .val (.long x) ∧ b = .second)
theorem set_set2 {l : List Slot} {i : Nat} {a b c : Slot} : ((l.set (i + 1) a).set i b).set (i + 1) c = (l.set i b).set (i + 1) c := by
  rw [List.set_comm _ _ (by omega : i + 1 ≠ i), List.set_set]
theorem mst_two {l : List Slot} {i : Nat} {v : Int64} {o o' : Slot} (ho : l[i]? = some o) (ho' : l[i + 1]? = some o') (h2 : two2 o o') : mst l i (.long v) = some ((l.set i (.val (.long v))).set (i + 1) .second) := by
  have hlt := (List.getElem?_eq_some_iff.mp ho).1
  have hlt' := (List.getElem?_eq_some_iff.mp ho').1
  rcases h2 with ⟨h1, h1'⟩ | ⟨x, rfl, rfl⟩
  · have e : lstoreSelf l i (.long v) = some ((l.set i (.val (.long v))).set (i + 1) .second) := by
      have q : (l.set i (.val (.long v)))[i + 1]? = some o' := by rw [List.getElem?_set_ne (by omega)]; exact ho'
      have hcat : (Value.long v).category = 2 := rfl
      simp only [lstoreSelf, lsetAt, hlt, if_true, hcat, q]
      cases o' with
      | unset => simp [hlt']
      | second => cases h1'
      | val w =>
        have : w.category = 1 := by simpa [one1] using h1'
        simp [this, hlt']
    unfold mst
    rw [ho]
    cases o with
    | unset => exact e
    | second => cases h1
    | val w =>
      have : w.category = 1 := by simpa [one1] using h1
      simp only [this]
      exact e
  · unfold mst
    rw [ho]
    have q : ((l.set (i + 1) Slot.unset).set i (.val (.long v)))[i + 1]? = some .unset := by
      rw [List.getElem?_set_ne (by omega), List.getElem?_set_self hlt']
    simp only [Value.category, if_true, lsetAt, hlt', lstoreSelf, List.length_set, hlt, q, set_set2]
theorem Ev.lstD {k : Nat} {v : Int64} {L' : List Slot} {o o' : Slot} {h : MHeap} (hd : decode (mB M) pc = .ok (.lstore k, 2)) (ho : L[k]? = some o) (ho' : L[k + 1]? = some o') (h2 : two2 o o') (hl : (L.set k (.val (.long v))).set (k + 1) .second = L') (hn : Ev G M (pc + 2) L' S h rr) : Ev G M pc L (.long v :: S) h rr :=
  Ev.lstore hd (by rw [mst_two ho ho' h2, hl]) hn
theorem Ev.lstDN {k : Fin 4} {v : Int64} {L' : List Slot} {o o' : Slot} {h : MHeap} (hd : decode (mB M) pc = .ok (.lstore_n k, 1)) (ho : L[k.val]? = some o) (ho' : L[k.val + 1]? = some o') (h2 : two2 o o') (hl : (L.set k.val (.val (.long v))).set (k.val + 1) .second = L') (hn : Ev G M (pc + 1) L' S h rr) : Ev G M pc L (.long v :: S) h rr :=
  Ev.lstoreN hd (by rw [mst_two ho ho' h2, hl]) hn
end ViewRules
/-! ## 5. One object among others -/
/-- al: the array fields in the order in which the constructor makes them, each with 'of booleans' -/
def rA (o : Nat) (al : List (Nat × Bool)) (j : Nat) : Nat := o + 1 + al.findIdx (fun q => q.1 == j)
def arr1 (Ln : Nat → Nat) (s : St) (q : Nat × Bool) : MCell := .inr (q.2, tab (Ln q.1) (s.2 q.1))
def KO (F : List Fd) (al : List (Nat × Bool)) (Ln : Nat → Nat) (o : Nat) (s : St) : MHeap := .inl (fvA (rA o al) s 0 F) :: al.map (arr1 Ln s)
def KH (F : List Fd) (al : List (Nat × Bool)) (Ln : Nat → Nat) (pre post : MHeap) (s : St) : MHeap := pre ++ (KO F al Ln pre.length s ++ post)
def alOk (F : List Fd) (al : List (Nat × Bool)) : Bool := (List.range F.length).all (fun j => match F[j]? with
  | some (_, _, .array t) => al[al.findIdx (fun q => q.1 == j)]? == some (j, isB t)
  | _ => true)
theorem KO_len {F : List Fd} {al : List (Nat × Bool)} {Ln : Nat → Nat} {o : Nat} {s : St} : (KO F al Ln o s).length = al.length + 1 := by simp [KO]
theorem app_get (pre post l : MHeap) (k : Nat) (h : k < l.length) : (pre ++ (l ++ post))[pre.length + k]? = l[k]? := by
  rw [List.getElem?_append_right (by omega), Nat.add_sub_cancel_left, List.getElem?_append_left h]
theorem app_set (pre post l : MHeap) (k : Nat) (c : MCell) (h : k < l.length) : (pre ++ (l ++ post)).set (pre.length + k) c = pre ++ (l.set k c ++ post) := by
  rw [List.set_append_right _ _ (by omega), Nat.add_sub_cancel_left, List.set_append_left _ _ h]
theorem view_of {G : Ctx} {al : List (Nat × Bool)} {Ln : Nat → Nat} {pre post : MHeap} (hk : k0 G ≤ pre.length) (h1 : alOk (gF G) al = true) (h2 : (al.map (·.1)).Nodup) :
    View G Ln (KH (gF G) al Ln pre post) pre.length (rA pre.length al) := by
  refine ⟨hk, fun s => ?_, fun s j f z hF ht => ?_, fun j n d t hF => ?_⟩
  · have := app_get pre post (KO (gF G) al Ln pre.length s) 0 (by rw [KO_len]; omega)
    exact this
  · have := app_set pre post (KO (gF G) al Ln pre.length s) 0 (.inl ((fvA (rA pre.length al) s 0 (gF G)).set j (.int z))) (by rw [KO_len]; omega)
    refine Eq.trans this ?_
    show pre ++ ((.inl _ :: al.map (arr1 Ln s)) ++ post) = pre ++ ((.inl _ :: al.map (arr1 Ln (setI s j z))) ++ post)
    rw [fvA_set hF ht]
    rfl
  · have hj : j < (gF G).length := (List.getElem?_eq_some_iff.mp hF).1
    have hq := List.all_eq_true.mp h1 j (List.mem_range.mpr hj)
    simp only [hF, beq_iff_eq] at hq
    have hlt := (List.getElem?_eq_some_iff.mp hq).1
    have hlen : ∀ s, al.findIdx (fun q => q.1 == j) + 1 < (KO (gF G) al Ln pre.length s).length := fun s => by rw [KO_len]; omega
    have hr : rA pre.length al j = pre.length + (al.findIdx (fun q => q.1 == j) + 1) := by unfold rA; omega
    refine ⟨by rw [hr]; omega, fun s => ?_, fun s i z hi => ?_⟩
    · rw [hr]
      refine (app_get pre post _ _ (hlen s)).trans ?_
      show (al.map (arr1 Ln s))[al.findIdx fun q => q.1 == j]? = _
      rw [List.getElem?_map, hq]
      rfl
    · rw [hr]
      refine (app_set pre post _ _ _ (hlen s)).trans ?_
      show pre ++ ((.inl (fvA (rA pre.length al) s 0 (gF G)) :: (al.map (arr1 Ln s)).set (al.findIdx fun q => q.1 == j) (.inr (isB t, (tab (Ln j) (s.2 j)).set i z))) ++ post) = pre ++ ((.inl (fvA (rA pre.length al) (setA s j i z) 0 (gF G)) :: al.map (arr1 Ln (setA s j i z))) ++ post)
      rw [fvA_same (s := s) (s' := setA s j i z) _ rfl]
      congr 3
      apply List.ext_getElem?
      intro k
      rw [List.getElem?_set, List.getElem?_map, List.getElem?_map, List.length_map]
      by_cases e : al.findIdx (fun q => q.1 == j) = k
      · subst e
        simp only [if_true, hlt, hq, Option.map_some, arr1, tab_set]
        congr 4
        funext x
        rw [setA_2]
        simp
      · simp only [e, if_false]
        cases hk2 : al[k]? with
        | none => rfl
        | some q =>
          simp only [Option.map_some, arr1]
          have ne : q.1 ≠ j := fun hqj => by
            have a1 : (al.map (·.1))[al.findIdx (fun q => q.1 == j)]? = some j := by rw [List.getElem?_map, hq]; rfl
            have a2 : (al.map (·.1))[k]? = some j := by rw [List.getElem?_map, hk2]; simp [hqj]
            have := (List.getElem?_inj (by rw [List.length_map]; exact hlt) h2).mp (a1.trans a2.symm)
            exact e this
          congr 4
          funext x
          rw [setA_2]
          simp [ne]
/-! ### while the constructor makes the arrays -/
def cons (pre : MHeap) (fs : List Value) (as : List (Bool × List Int32)) : MHeap := pre ++ (.inl fs :: as.map .inr)
section ConsRules
variable {G : Ctx} {M : Mi} {pc : Nat} {L : List Slot} {S : List Value} {rr : Option Value × MHeap} {pre : MHeap} {fs fs' : List Value} {as : List (Bool × List Int32)}
theorem cons_get : (cons pre fs as)[pre.length]? = some (.inl fs) := by unfold cons; rw [List.getElem?_append_right (Nat.le_refl _), Nat.sub_self]; rfl
theorem cons_set (c : List Value) : (cons pre fs as).set pre.length (.inl c) = cons pre c as := by unfold cons; rw [List.set_append_right _ _ (Nat.le_refl _), Nat.sub_self]; rfl
theorem cons_len : (cons pre fs as).length = pre.length + 1 + as.length := by simp [cons]; omega
theorem cons_push (b : Bool) (xs : List Int32) : cons pre fs as ++ [.inr (b, xs)] = cons pre fs (as ++ [(b, xs)]) := by simp [cons]
theorem Ev.cput {idx j : Nat} {n d : String} {ty : FieldType} {v v' : Value} (K : GOk G) (hk : k0 G ≤ pre.length) (w : (Jvm.Cond.fieldLink (mN M).cls idx (gC G) n d).before (gA G) (gZ G) = true)
    (wl : (Jvm.Cond.lays (gC G) (gC G) n d).before (gA G) (gZ G) = true ∨ ((Jvm.Cond.laysFinal (gC G) (gC G) n d).before (gA G) (gZ G) = true ∧ (mN M).cls = gC G ∧ (mN M).name = "<init>"))
    (hd : decode (mB M) pc = .ok (.putfield idx, 3)) (hF : (gF G)[j]? = some (n, d, ty)) (hp : mput ty v = some v') (hs : fs.set j v' = fs') (hn : Ev G M (pc + 3) L S (cons pre fs' as) rr) : Ev G M pc L (v :: .ref pre.length :: S) (cons pre fs as) rr := by
  subst hs
  refine Ev.putfield K w wl hd hF hk cons_get hp ?_
  rw [cons_set]; exact hn
theorem Ev.cget {idx j : Nat} {n d : String} {ty : FieldType} {v : Value} (w : (Jvm.Cond.fieldLink (mN M).cls idx (gC G) n d).before (gA G) (gZ G) = true) (hd : decode (mB M) pc = .ok (.getfield idx, 3)) (hF : (gF G)[j]? = some (n, d, ty)) (hv : fs[j]? = some v)
    (hn : Ev G M (pc + 3) L (v :: S) (cons pre fs as) rr) : Ev G M pc L (.ref pre.length :: S) (cons pre fs as) rr := Ev.getfield w hd hF cons_get hv hn
theorem Ev.cnew {aty : ArrayType} {b : Bool} {n : Int32} {k q : Nat} {as' : List (Bool × List Int32)} (w : (Jvm.Cond.arrayClass (newarray.typeOf aty)).before (gA G) (gZ G) = true) (hb' : newarray.typeOf aty = kd b) (hd : decode (mB M) pc = .ok (.newarray aty, 2)) (hn0 : ¬ n < 0) (hk : n.toNatClampNeg = k) (hcap : k ≤ 67108864)
    (hq : as.length = q) (has : as ++ [(b, tab k (fun _ => 0))] = as') (hn : Ev G M (pc + 2) L (.ref (pre.length + 1 + q) :: S) (cons pre fs as') rr) : Ev G M pc L (.int n :: S) (cons pre fs as) rr := by
  subst hq has
  refine Ev.newarray w hb' hd hn0 hk hcap ?_
  rw [cons_push, cons_len, ← tab_zero]; exact hn
end ConsRules
theorem forall_get {P : Nat → Fd → Prop} : ∀ (F : List Fd) (k : Nat), (∀ j f, F[j]? = some f → P (k + j) f) → True := fun _ _ _ => trivial
def AllF (P : Fd → Prop) : List Fd → Prop
  | [] => True
  | f :: fs => P f ∧ AllF P fs
theorem AllF.mem {P : Fd → Prop} : ∀ {F : List Fd}, AllF P F → ∀ f ∈ F, P f
  | _ :: _, ⟨h1, h2⟩, f, hf => (List.mem_cons.mp hf).elim (fun e => e ▸ h1) (AllF.mem h2 f)
theorem gok_of {G : Ctx} (h1 : AllF (fun f => Laid (gZ G) (gA G) (gC G) (gC G) f.1 f.2.1 ∧ parseFieldDescriptor f.2.1 = some f.2.2) (gF G)) (h2 : ((gF G).map (·.1)).Nodup)
    (h3 : (Jvm.Cond.instantiable (gC G) (gK G)).before (gA G) (gZ G) = true) (h4 : (Jvm.Cond.initialized (gC G)).before (gA G) (gZ G) = true) : GOk G := by
  refine ⟨fun j n d ty hF => h1.mem _ (List.mem_of_getElem? hF), fun j j' f f' hF hF' ne e => ne ?_, h3, h4⟩
  have a1 : ((gF G).map (·.1))[j]? = some f.1 := by rw [List.getElem?_map, hF]; rfl
  have a2 : ((gF G).map (·.1))[j']? = some f.1 := by rw [List.getElem?_map, hF', e]; rfl
  exact (List.getElem?_inj (by rw [List.length_map]; exact (List.getElem?_eq_some_iff.mp hF).1) h2).mp (a1.trans a2.symm)
end Jvm.Own
namespace Jvm.Own
open Sem ClassFile Op Lib Jvm.Stand Jvm.Free Jvm.LawKit Jvm.RoadKit
def grd {α : Type} (c : Prop) [Decidable c] (x : Option α) : Option α := if c then x else none
theorem grd_some {α : Type} {c : Prop} [Decidable c] {x : Option α} {w : α} (h : grd c x = some w) : c ∧ x = some w := by
  unfold grd at h; split at h
  · exact ⟨by assumption, h⟩
  · cases h
theorem grd_pos {α : Type} {c : Prop} [Decidable c] {x : Option α} (h : c) : grd c x = x := if_pos h
theorem KH_len (F : List Fd) (al : List (Nat × Bool)) (Ln : Nat → Nat) (pre post : MHeap) (s : St) : (KH F al Ln pre post s).length = pre.length + (al.length + 1 + post.length) := by simp [KH, KO]; omega
theorem hsl_app (k : Nat) (a b : MHeap) : hsl k (a ++ b) = hsl k a + hsl k b := by simp [hsl]
theorem hsl_arr (k : Nat) (Ln : Nat → Nat) (s : St) : ∀ al : List (Nat × Bool), hsl k (al.map (arr1 Ln s)) = (al.map fun q => Ln q.1).sum
  | [] => rfl
  | q :: al => by
    have := hsl_arr k Ln s al
    simp only [hsl, List.map_cons, List.sum_cons] at this ⊢
    rw [this]
    simp [arr1, csl, tab_len]
theorem hsl_KH (k : Nat) (F : List Fd) (al : List (Nat × Bool)) (Ln : Nat → Nat) (pre post : MHeap) (s : St) : hsl k (KH F al Ln pre post s) = hsl k pre + (k + (al.map fun q => Ln q.1).sum + hsl k post) := by
  unfold KH
  rw [hsl_app, hsl_app]
  have : hsl k (KO F al Ln pre.length s) = k + (al.map fun q => Ln q.1).sum := by
    have := hsl_arr k Ln s al
    simp only [KO, hsl, List.map_cons, List.sum_cons, csl] at this ⊢
    rw [this]
  rw [this]
theorem ne_lit {x z : Int32} {k : Int} (h : ¬ x = z) (e : z.toInt = k) : x.toInt ≠ k := fun q => h (Int32.toInt_inj.mp (q.trans e.symm))
section
variable {G : Ctx} {M : Mi} {pc : Nat} {L : List Slot} {S : List Value} {rr : Option Value × MHeap}
theorem Ev.astD {k v : Nat} {L' : List Slot} {o : Slot} {h : MHeap} (hd : decode (mB M) pc = .ok (.astore k, 2)) (ho : L[k]? = some o) (h1 : one1 o = true) (hl : L.set k (.val (.ref v)) = L') (hn : Ev G M (pc + 2) L' S h rr) : Ev G M pc L (.ref v :: S) h rr :=
  Ev.astore hd (by rw [mst_one ho h1 rfl, hl]) hn
theorem Ev.astDN {k : Fin 4} {v : Nat} {L' : List Slot} {o : Slot} {h : MHeap} (hd : decode (mB M) pc = .ok (.astore_n k, 1)) (ho : L[k.val]? = some o) (h1 : one1 o = true) (hl : L.set k.val (.val (.ref v)) = L') (hn : Ev G M (pc + 1) L' S h rr) : Ev G M pc L (.ref v :: S) h rr :=
  Ev.astoreN hd (by rw [mst_one ho h1 rfl, hl]) hn
end
end Jvm.Own
namespace Jvm.Own
open Sem ClassFile Op Lib Jvm.Stand Jvm.Free Jvm.LawKit Jvm.RoadKit
section
variable {G : Ctx} {M : Mi} {pc : Nat} {L : List Slot} {S : List Value} {rr : Option Value × MHeap}
theorem mst_T {l : List Slot} {i : Nat} {v : Value} {o o' : Slot} (ho : l[i]? = some o) (ho' : l[i + 1]? = some o') (h2 : two2 o o') (hv : v.category = 1) : ∃ b, one1 b = true ∧ mst l i v = some ((l.set i (.val v)).set (i + 1) b) := by
  have hlt := (List.getElem?_eq_some_iff.mp ho).1
  have hlt' := (List.getElem?_eq_some_iff.mp ho').1
  rcases h2 with ⟨h1, h1'⟩ | ⟨x, rfl, rfl⟩
  · refine ⟨o', h1', ?_⟩
    rw [mst_one ho h1 hv]
    congr 1
    apply List.ext_getElem?
    intro k
    by_cases e : i + 1 = k
    · subst e
      rw [List.getElem?_set_self (by simpa using hlt'), List.getElem?_set_ne (by omega), ho']
    · rw [List.getElem?_set_ne e]
  · refine ⟨.unset, rfl, ?_⟩
    unfold mst
    rw [ho]
    have c2 : (Value.long x).category = 2 := rfl
    simp only [c2, if_true, lsetAt, hlt', lstoreSelf, List.length_set, hlt, hv]
    rw [List.set_comm _ _ (by omega : i + 1 ≠ i)]
    simp
theorem Ev.istT {k : Nat} {v : Int32} {L' : Slot → List Slot} {o o' : Slot} {h : MHeap} (hd : decode (mB M) pc = .ok (.istore k, 2)) (ho : L[k]? = some o) (ho' : L[k + 1]? = some o') (h2 : two2 o o') (hl : ∀ b, (L.set k (.val (.int v))).set (k + 1) b = L' b) (hn : ∀ b, one1 b = true → Ev G M (pc + 2) (L' b) S h rr) : Ev G M pc L (.int v :: S) h rr := by
  obtain ⟨b, h1, e⟩ := mst_T (v := .int v) ho ho' h2 rfl
  exact Ev.istore hd e (by rw [hl]; exact hn b h1)
theorem Ev.istTN {k : Fin 4} {v : Int32} {L' : Slot → List Slot} {o o' : Slot} {h : MHeap} (hd : decode (mB M) pc = .ok (.istore_n k, 1)) (ho : L[k.val]? = some o) (ho' : L[k.val + 1]? = some o') (h2 : two2 o o') (hl : ∀ b, (L.set k.val (.val (.int v))).set (k.val + 1) b = L' b) (hn : ∀ b, one1 b = true → Ev G M (pc + 1) (L' b) S h rr) : Ev G M pc L (.int v :: S) h rr := by
  obtain ⟨b, h1, e⟩ := mst_T (v := .int v) ho ho' h2 rfl
  exact Ev.istoreN hd e (by rw [hl]; exact hn b h1)
end
section
variable {G : Ctx} {Ln : Nat → Nat} {K : St → MHeap} {o len : Nat} {r : Nat → Nat} {F : List Fd} {al : List (Nat × Bool)}
theorem View.le (V : View G Ln K o r) (s : St) : k0 G ≤ (K s).length := Nat.le_trans V.1 (Nat.le_of_lt (List.getElem?_eq_some_iff.mp (V.2.1 s)).1)
theorem View.app (V : View G Ln K o r) (X : MHeap) : View G Ln (fun s => K s ++ X) o r := by
  refine ⟨V.1, fun s => ?_, fun s j f z hF ht => ?_, fun j n d t hF => ?_⟩
  · show (K s ++ X)[o]? = _
    rw [List.getElem?_append_left (List.getElem?_eq_some_iff.mp (V.2.1 s)).1]; exact V.2.1 s
  · show (K s ++ X).set o _ = _
    rw [List.set_append_left _ _ (List.getElem?_eq_some_iff.mp (V.2.1 s)).1, V.2.2.1 s j f z hF ht]
  · obtain ⟨q1, q2, q3⟩ := V.2.2.2 j n d t hF
    refine ⟨q1, fun s => ?_, fun s i z hi => ?_⟩
    · show (K s ++ X)[r j]? = _
      rw [List.getElem?_append_left (List.getElem?_eq_some_iff.mp (q2 s)).1]; exact q2 s
    · show (K s ++ X).set (r j) _ = _
      rw [List.set_append_left _ _ (List.getElem?_eq_some_iff.mp (q2 s)).1, q3 s i z hi]
theorem View.app2 (V : View G Ln K o r) (hl : ∀ s, (K s).length = len) (t : St) : View G Ln (fun s => KH F al Ln (K s) [] t) o r := by
  have e : (fun s => KH F al Ln (K s) [] t) = fun s => K s ++ (KO F al Ln len t ++ []) := by
    funext s; unfold KH; rw [hl]
  rw [e]
  exact V.app _
theorem app2_get (V : View G Ln K o r) {s t : St} {c : MCell} (h : (K s)[0]? = some c) : (KH F al Ln (K s) [] t)[0]? = some c := by
  unfold KH
  rw [List.getElem?_append_left (List.getElem?_eq_some_iff.mp h).1]; exact h
end
end Jvm.Own
namespace Jvm.Own
open Sem ClassFile Op Lib Jvm.Stand Jvm.Free Jvm.LawKit Jvm.RoadKit
def toI : Value → Int32
  | .int z => z
  | _ => 0
theorem script_rel {s : State} {a : Nat} {cl : Cell} {args : Array Value} {l : Launch} {C : String} {F : List Fd} {k : Nat} (hf : Fit s) (A : Arr s s.heap a cl .int) :
    ∃ xs : List Int32, xs.length = cl.slots.size ∧ Rel (s, args, l, some a, s.heap.size, C, F, k) s.heap [.inr (false, tab xs.length (fun i => xs.getD i 0))] := by
  have hl : (cl.slots.toList.map toI).length = cl.slots.size := by simp
  refine ⟨cl.slots.toList.map toI, hl, rfl, Nat.le_refl _, fun a' q => by cases q; exact A.lt, fun i c q => ?_⟩
  match i, q with
  | 0, q =>
    cases q
    refine ⟨cl, A, ?_⟩
    rw [← tab_of]
    apply Array.ext'
    apply List.ext_getElem?
    intro j
    simp only [List.map_map, List.getElem?_map]
    cases hj : cl.slots.toList[j]? with
    | none => rfl
    | some v =>
      have hj' : cl.slots[j]? = some v := by simpa using hj
      obtain ⟨hlt, hv⟩ := Array.getElem?_eq_some_iff.mp hj'
      have q := hf A.1 hlt
      obtain ⟨hs, kk, hk, comp, hkind⟩ := A.2.1
      have e : s.slotType? cl.cls cl.vm j = some .int := by
        cases hq : cl.vm <;> first | exact absurd hq (hs _) | simp [State.slotType?, hk, hkind]
      have q2 : fits .int v = true := by rw [hv] at q; simpa [State.fitsSlot, e] using q
      obtain ⟨z, rfl⟩ := fit_I q2 (Or.inl rfl)
      rfl
theorem script_len {s : State} {args : Array Value} {t : Term} {a : Nat} {cl : Cell} (A : Arr s s.heap a cl .int) (ea : t.eval args s none [] s = some (.ref a)) (h1 : (Jvm.Cond.isInt (.length t)).value args s none s [] = some true) (h2 : (Jvm.Cond.le (.length t) (.int 260)).value args s none s [] = some true) : cl.slots.size ≤ 260 := by
  obtain ⟨z, ez⟩ := is_v h1
  have ha := A.fin (Vm.Alike.refl s.vm)
  have hlen : cl.slots.size < 2 ^ 31 := by
    rcases Nat.lt_or_ge cl.slots.size (2 ^ 31) with q | q
    · exact q
    · simp [Term.eval, ea, ha, Nat.not_lt.mpr q] at ez
  have e1 := len_f ea ha hlen
  have q : cl.slots.size.toInt32 ≤ 260 := by
    have := Cond.le_ints e1 (Term.int_eval (260 : Int32)) (args := args) (first := s) (o := none) (s := s) (idx := [])
    exact gotT this h2
  have q2 := Int32.le_iff_toInt_le.mp q
  rw [len_toInt hlen] at q2
  have : (260 : Int32).toInt = 260 := by decide
  omega
end Jvm.Own
namespace Jvm.Own
open Sem ClassFile Op Lib Jvm.Stand Jvm.Free Jvm.LawKit Jvm.RoadKit
def decs (b : ByteArray) : List (Nat × Instr × Nat) → Bool
  | [] => true
  | q :: t => decide (decode b q.1 = .ok (q.2.1, q.2.2)) && decs b t
theorem dget {b : ByteArray} : ∀ {l : List (Nat × Instr × Nat)}, decs b l = true → ∀ {k p : Nat} {i : Instr} {n : Nat}, l[k]? = some (p, i, n) → decode b p = .ok (i, n)
  | [], _, k, _, _, _, hk => by simp at hk
  | q :: t, h, 0, p, i, n, hk => by
    simp only [decs, Bool.and_eq_true, decide_eq_true_eq] at h
    simp only [List.getElem?_cons_zero, Option.some.injEq] at hk
    subst hk
    exact h.1
  | q :: t, h, k + 1, p, i, n, hk => by
    simp only [decs, Bool.and_eq_true] at h
    exact dget h.2 (by simpa using hk)
end Jvm.Own
namespace Jvm.Own
/-! ## 6. Ints of 32 bits and naturals -/
theorem N_toInt {i : Nat} (h : i < 2147483648) : (Int32.ofNat i).toInt = i := Int32.toInt_ofNat_of_lt h
theorem N_lt {i j : Nat} (hi : i < 2147483648) (hj : j < 2147483648) : Int32.ofNat i < Int32.ofNat j ↔ i < j := by
  rw [Int32.lt_iff_toInt_lt, N_toInt hi, N_toInt hj]; omega
theorem N_inj {i j : Nat} (hi : i < 2147483648) (hj : j < 2147483648) : Int32.ofNat i = Int32.ofNat j ↔ i = j := by
  rw [← Int32.toInt_inj, N_toInt hi, N_toInt hj]; omega
theorem N_succ (i : Nat) : Int32.ofNat i + 1 = Int32.ofNat (i + 1) := (Int32.ofNat_add i 1).symm
theorem N_add (i j : Nat) : Int32.ofNat i + Int32.ofNat j = Int32.ofNat (i + j) := (Int32.ofNat_add i j).symm
theorem N_mul (i j : Nat) : Int32.ofNat i * Int32.ofNat j = Int32.ofNat (i * j) := (Int32.ofNat_mul i j).symm
theorem N_neg {i : Nat} (h : i < 2147483648) : ¬ Int32.ofNat i < 0 := by
  rw [Int32.lt_iff_toInt_lt, N_toInt h]; simp
theorem ix_N {i : Nat} (h : i < 2147483648) : ix (Int32.ofNat i) = i := by
  unfold ix Int32.toNatClampNeg; rw [N_toInt h]; simp
theorem inb_N {i n : Nat} (h : i < 2147483648) : inb (Int32.ofNat i) n ↔ i < n := by
  unfold inb; rw [ix_N h]; exact ⟨fun q => q.2, fun q => ⟨N_neg h, q⟩⟩
theorem ix_toInt {x : Int32} (h : ¬ x < 0) : (ix x : Int) = x.toInt := by
  unfold ix Int32.toNatClampNeg
  rw [Int32.lt_iff_toInt_lt] at h
  have : (0 : Int32).toInt = 0 := rfl
  omega
theorem ix_lt (x : Int32) : ix x < 2147483648 := by
  unfold ix Int32.toNatClampNeg
  have := Int32.toInt_lt x
  omega
theorem N_ix {x : Int32} (h : ¬ x < 0) : Int32.ofNat (ix x) = x := by
  rw [← Int32.toInt_inj, N_toInt (ix_lt x), ix_toInt h]
theorem ix_eq {x y : Int32} (hx : ¬ x < 0) (hy : ¬ y < 0) : ix x = ix y ↔ x = y := by
  refine ⟨fun e => ?_, fun e => e ▸ rfl⟩
  rw [← N_ix hx, ← N_ix hy, e]
theorem rng (x : Int32) : -2147483648 ≤ x.toInt ∧ x.toInt < 2147483648 := ⟨Int32.le_toInt x, Int32.toInt_lt x⟩
theorem lt_I {x y : Int32} : x < y ↔ x.toInt < y.toInt := Int32.lt_iff_toInt_lt
theorem le_I {x y : Int32} : x ≤ y ↔ x.toInt ≤ y.toInt := Int32.le_iff_toInt_le
theorem eq_I {x y : Int32} : x = y ↔ x.toInt = y.toInt := Int32.toInt_inj.symm
theorem bmod_eq {x : Int} (h1 : -2147483648 ≤ x) (h2 : x < 2147483648) : x.bmod (2 ^ 32) = x := by
  apply Int.bmod_eq_of_le <;> omega
theorem add_I {x y : Int32} (h1 : -2147483648 ≤ x.toInt + y.toInt) (h2 : x.toInt + y.toInt < 2147483648) : (x + y).toInt = x.toInt + y.toInt := by
  rw [Int32.toInt_add]; exact bmod_eq h1 h2
theorem sub_I {x y : Int32} (h1 : -2147483648 ≤ x.toInt - y.toInt) (h2 : x.toInt - y.toInt < 2147483648) : (x - y).toInt = x.toInt - y.toInt := by
  rw [Int32.toInt_sub]; exact bmod_eq h1 h2
theorem mul_I {x y : Int32} (h1 : -2147483648 ≤ x.toInt * y.toInt) (h2 : x.toInt * y.toInt < 2147483648) : (x * y).toInt = x.toInt * y.toInt := by
  rw [Int32.toInt_mul]; exact bmod_eq h1 h2
theorem inb_I {x : Int32} {n : Nat} (h1 : 0 ≤ x.toInt) (h2 : x.toInt < n) : inb x n := by
  have h : ¬ x < 0 := by rw [lt_I]; have : (0 : Int32).toInt = 0 := rfl; omega
  refine ⟨h, ?_⟩
  have := ix_toInt h
  omega
/-- an int between 0 and n is one of them -/
theorem cases_N {x : Int32} {n : Nat} (hn : n < 2147483648) (h0 : ¬ x < 0) (h1 : x < Int32.ofNat n) : ∃ i, i < n ∧ x = Int32.ofNat i := by
  refine ⟨ix x, ?_, (N_ix h0).symm⟩
  have a := ix_toInt h0
  rw [lt_I, N_toInt hn] at h1
  omega
/-! ## 7. Loops that count from i to N -/
def itr {α : Type} (f : Nat → α → α) : Nat → Nat → α → α
  | _, 0, s => s
  | i, m + 1, s => itr f (i + 1) m (f i s)
theorem loopN {α β : Type} {F : Nat → Int32 → α → Option β} {N : Nat} {f : Nat → α → α} {fin : α → Option β}
    (hF : ∀ k i s, i < N → F (k + 1) (Int32.ofNat i) s = F k (Int32.ofNat i + 1) (f i s)) (hE : ∀ k s, F (k + 1) (Int32.ofNat N) s = fin s) :
    ∀ m i k s, i + m = N → m < k → F k (Int32.ofNat i) s = fin (itr f i m s) := by
  intro m
  induction m with
  | zero =>
    intro i k s hi hk
    obtain ⟨k, rfl⟩ : ∃ k', k = k' + 1 := ⟨k - 1, by omega⟩
    have : i = N := by omega
    subst this
    exact hE k s
  | succ m ih =>
    intro i k s hi hk
    obtain ⟨k, rfl⟩ : ∃ k', k = k' + 1 := ⟨k - 1, by omega⟩
    rw [hF k i s (by omega), N_succ]
    exact ih (i + 1) k _ (by omega) (by omega)
theorem itr_ind {α : Type} {f : Nat → α → α} {P : Nat → α → Prop} {N : Nat} (h : ∀ i s, i < N → P i s → P (i + 1) (f i s)) : ∀ m i s, i + m = N → P i s → P N (itr f i m s) := by
  intro m
  induction m with
  | zero => intro i s hi hp; have : i = N := by omega
            subst this; exact hp
  | succ m ih => intro i s hi hp; exact ih (i + 1) _ (by omega) (h i s (by omega) hp)
theorem itr_pt {f : Nat → St → St} {u : Nat → Int32 → Int32} (h1 : ∀ i s, (f i s).1 = s.1) (h2 : ∀ i s k x, (f i s).2 k x = if x = i then u k (s.2 k x) else s.2 k x) :
    ∀ m i s, itr f i m s = (s.1, fun k x => if i ≤ x ∧ x < i + m then u k (s.2 k x) else s.2 k x) := by
  intro m
  induction m with
  | zero =>
    intro i s
    refine Prod.ext rfl ?_
    funext k x
    have : ¬ (i ≤ x ∧ x < i + 0) := by omega
    simp only [this, if_false]
    rfl
  | succ m ih =>
    intro i s
    show itr f (i + 1) m (f i s) = _
    rw [ih]
    refine Prod.ext (h1 i s) ?_
    funext k x
    simp only [h2]
    by_cases e : x = i
    · subst e
      have a : ¬ (x + 1 ≤ x ∧ x < x + 1 + m) := by omega
      have b : x ≤ x ∧ x < x + (m + 1) := by omega
      simp only [a, b, if_false, if_true, and_self]
    · have : (i + 1 ≤ x ∧ x < i + 1 + m) ↔ (i ≤ x ∧ x < i + (m + 1)) := by omega
      simp only [this, e, if_false]
theorem itr_fill (K : Nat) (z : Int32) (m : Nat) (s : St) : itr (fun i s => setA s K i z) 0 m s = (s.1, fun k x => if k = K ∧ x < m then z else s.2 k x) := by
  rw [itr_pt (f := fun i s => setA s K i z) (u := fun k v => if k = K then z else v) (fun _ _ => rfl) (fun i s j x => by
    simp only [setA_2]
    by_cases e : x = i <;> by_cases e1 : j = K <;> simp [e, e1])]
  refine Prod.ext rfl ?_
  funext k x
  have : (0 ≤ x ∧ x < 0 + m) ↔ x < m := by omega
  simp only [this]
  by_cases e : x < m <;> by_cases e1 : k = K <;> simp [e, e1]
theorem and_rng (x : Int32) {m : Nat} (hm : m < 2147483648) : 0 ≤ (x &&& Int32.ofNat m).toInt ∧ (x &&& Int32.ofNat m).toInt ≤ m := by
  have h1 : (x &&& Int32.ofNat m).toBitVec.toNat ≤ m := by
    rw [Int32.toBitVec_and, BitVec.toNat_and]
    refine Nat.le_trans Nat.and_le_right ?_
    show (BitVec.ofNat 32 m).toNat ≤ m
    rw [BitVec.toNat_ofNat]
    exact Nat.mod_le _ _
  have h2 : (x &&& Int32.ofNat m).toInt = ((x &&& Int32.ofNat m).toBitVec.toNat : Int) := by
    show (x &&& Int32.ofNat m).toBitVec.toInt = _
    exact BitVec.toInt_eq_toNat_of_lt (by omega)
  omega
theorem idx8 {o p : Int32} (h0 : ¬ o < 0) (h3 : ¬ 3 < o) : inb (o * 8 + (p &&& 7)) 32 := by
  have a := and_rng p (m := 7) (by omega)
  rw [show Int32.ofNat 7 = (7 : Int32) from rfl] at a
  rw [lt_I] at h0 h3
  have e0 : (0 : Int32).toInt = 0 := rfl
  have e3 : (3 : Int32).toInt = 3 := rfl
  have e8 : (8 : Int32).toInt = 8 := rfl
  have em : (o * 8).toInt = o.toInt * 8 := by rw [mul_I] <;> rw [e8] <;> omega
  have ea : (o * 8 + (p &&& 7)).toInt = o.toInt * 8 + (p &&& 7).toInt := by rw [add_I] <;> rw [em] <;> omega
  exact inb_I (by omega) (by omega)
theorem idx8' {o p : Int32} (h0 : ¬ o < 0) (h3 : ¬ 3 < o) (g0 : ¬ p < 0) (g7 : ¬ 7 < p) : inb (o * 8 + p) 32 ∧ (o * 8 + p).toInt = o.toInt * 8 + p.toInt := by
  rw [lt_I] at h0 h3 g0 g7
  have e0 : (0 : Int32).toInt = 0 := rfl
  have e3 : (3 : Int32).toInt = 3 := rfl
  have e7 : (7 : Int32).toInt = 7 := rfl
  have e8 : (8 : Int32).toInt = 8 := rfl
  have em : (o * 8).toInt = o.toInt * 8 := by rw [mul_I] <;> rw [e8] <;> omega
  have ea : (o * 8 + p).toInt = o.toInt * 8 + p.toInt := by rw [add_I] <;> rw [em] <;> omega
  exact ⟨inb_I (by omega) (by omega), ea⟩
theorem inb_le {x : Int32} {m : Int32} {n : Nat} (h0 : ¬ x < 0) (h1 : ¬ m < x) (hm : m.toInt < n) : inb x n := by
  rw [lt_I] at h0 h1
  have e0 : (0 : Int32).toInt = 0 := rfl
  exact inb_I (by omega) (by omega)
theorem inb_lt {x : Int32} {m : Int32} {n : Nat} (h0 : ¬ x < 0) (h1 : x < m) (hm : m.toInt ≤ n) : inb x n := by
  rw [lt_I] at h0 h1
  have e0 : (0 : Int32).toInt = 0 := rfl
  exact inb_I (by omega) (by omega)
theorem rem_N {a N : Nat} (ha : a < 2147483648) (hN : N < 2147483648) (h0 : 0 < N) : Int32.ofNat a % Int32.ofNat N = Int32.ofNat (a % N) := by
  have h1 : a % N < N := Nat.mod_lt _ h0
  rw [← Int32.toInt_inj, Int32.toInt_mod, N_toInt ha, N_toInt hN, N_toInt (by omega)]
  rw [Int.tmod_eq_emod_of_nonneg (by omega)]
  rfl
/-- the rule of a loop that counts from i to N: P before each turn; Q of what it gives -/
theorem loopP {α β : Type} {F : Nat → Int32 → α → Option β} {N : Nat} {P : Nat → α → Prop} {Q : β → Prop}
    (hF : ∀ k i s, i < N → P i s → (∃ s', F (k + 1) (Int32.ofNat i) s = F k (Int32.ofNat i + 1) s' ∧ P (i + 1) s') ∨ ∃ r, F (k + 1) (Int32.ofNat i) s = some r ∧ Q r)
    (hE : ∀ k s, P N s → ∃ r, F (k + 1) (Int32.ofNat N) s = some r ∧ Q r) :
    ∀ m i k s, i + m = N → m < k → P i s → ∃ r, F k (Int32.ofNat i) s = some r ∧ Q r := by
  intro m
  induction m with
  | zero =>
    intro i k s hi hk hp
    obtain ⟨k, rfl⟩ : ∃ k', k = k' + 1 := ⟨k - 1, by omega⟩
    have : i = N := by omega
    subst this
    exact hE k s hp
  | succ m ih =>
    intro i k s hi hk hp
    obtain ⟨k, rfl⟩ : ∃ k', k = k' + 1 := ⟨k - 1, by omega⟩
    rcases hF k i s (by omega) hp with ⟨s', e, hp'⟩ | h
    · rw [e, N_succ]
      exact ih (i + 1) k s' (by omega) (by omega) hp'
    · exact h
theorem ltN {i j : Nat} (h : i < j) (hj : j < 2147483648) : Int32.ofNat i < Int32.ofNat j := (N_lt (by omega) hj).mpr h
theorem ltZ {i : Nat} {z : Int32} (N : Nat) (hz : Int32.ofNat N = z) (h : i < N) (hN : N < 2147483648) : Int32.ofNat i < z := hz ▸ ltN h hN
theorem nltN {i : Nat} (hi : i < 2147483648) : ¬ Int32.ofNat i < Int32.ofNat i := fun q => by rw [N_lt hi hi] at q; omega
theorem inbN {i n : Nat} (h : i < n) (hi : i < 2147483648) : inb (Int32.ofNat i) n := (inb_N hi).mpr h
def own_cl (a lo hi : Int32) : Int32 := if a < lo then lo else if hi < a then hi else a
theorem own_cl_rng {a lo hi : Int32} (h : ¬ hi < lo) : lo.toInt ≤ (own_cl a lo hi).toInt ∧ (own_cl a lo hi).toInt ≤ hi.toInt := by
  unfold own_cl
  rw [lt_I] at h
  split
  · omega
  · rename_i q; rw [lt_I] at q
    split
    · omega
    · rename_i q2; rw [lt_I] at q2; omega
theorem own_nat {x : Int32} {lo hi : Nat} (h1 : (lo : Int) ≤ x.toInt) (h2 : x.toInt ≤ hi) : ∃ N : Nat, x = Int32.ofNat N ∧ lo ≤ N ∧ N ≤ hi := by
  have := rng x
  refine ⟨x.toInt.toNat, ?_, by omega, by omega⟩
  rw [← Int32.toInt_inj, N_toInt (by omega)]; omega
theorem own_clN (a : Int32) {lo hi : Nat} (h : lo ≤ hi) (hi' : hi < 2147483648) : ∃ N : Nat, own_cl a (Int32.ofNat lo) (Int32.ofNat hi) = Int32.ofNat N ∧ lo ≤ N ∧ N ≤ hi := by
  have q := own_cl_rng (a := a) (lo := Int32.ofNat lo) (hi := Int32.ofNat hi) (fun q => by rw [N_lt (by omega) (by omega)] at q; omega)
  rw [N_toInt (by omega), N_toInt (by omega)] at q
  exact own_nat q.1 q.2
end Jvm.Own
namespace Jvm.Pilot.@@N@@
open Jvm Jvm.ClassFile Sem Op Lib Jvm.Free Jvm.Stand Jvm.LawKit Jvm.RoadKit Bundle Jvm.Pilot.@@N@@.Jvm.D Jvm.Own
/-! ### the class and its words (printed by a program of this repo) -/
abbrev GT := State × Array Value × Launch × Option Addr × Nat
def flds : List Fd := [("pOp", "[I", FieldType.array FieldType.int), ("pX", "[I", FieldType.array FieldType.int), ("pY", "[I", FieldType.array FieldType.int), ("pEnc", "[I", FieldType.array FieldType.int), ("pMatch", "[I", FieldType.array FieldType.int), ("openStk", "[I", FieldType.array FieldType.int), ("inputs", "[I", FieldType.array FieldType.int), ("cOp", "[I", FieldType.array FieldType.int), ("cX", "[I", FieldType.array FieldType.int), ("cY", "[I", FieldType.array FieldType.int), ("rank", "[I", FieldType.array FieldType.int), ("slot", "[I", FieldType.array FieldType.int), ("cnt", "[I", FieldType.array FieldType.int), ("vars", "[I", FieldType.array FieldType.int), ("outCnt", "[I", FieldType.array FieldType.int), ("outVal", "[I", FieldType.array FieldType.int), ("varRes", "[I", FieldType.array FieldType.int), ("map", "[I", FieldType.array FieldType.int), ("setMask", "[I", FieldType.array FieldType.int), ("ver", "[I", FieldType.array FieldType.int), ("loopStk", "[I", FieldType.array FieldType.int), ("markStk", "[I", FieldType.array FieldType.int), ("lv", "[I", FieldType.array FieldType.int), ("ls", "[I", FieldType.array FieldType.int), ("lrm", "[Z", FieldType.array FieldType.boolean), ("sN", "[I", FieldType.array FieldType.int), ("sS", "[I", FieldType.array FieldType.int), ("hOp", "[I", FieldType.array FieldType.int), ("hA", "[I", FieldType.array FieldType.int), ("hB", "[I", FieldType.array FieldType.int), ("hVal", "[I", FieldType.array FieldType.int), ("hUsed", "[Z", FieldType.array FieldType.boolean), ("hLog", "[I", FieldType.array FieldType.int), ("cap", "I", FieldType.int), ("hFree", "I", FieldType.int), ("n", "I", FieldType.int), ("depth", "I", FieldType.int), ("compiled", "Z", FieldType.boolean), ("len0", "I", FieldType.int), ("hLogN", "I", FieldType.int), ("len1", "I", FieldType.int), ("overflow", "Z", FieldType.boolean), ("cdepth", "I", FieldType.int)]
def GG (g : GT) : Ctx := (g.1, g.2.1, g.2.2.1, g.2.2.2.1, g.2.2.2.2, "RankReassociator", flds, 45)
def HW (g : GT) : Prop := ∀ d ∈ tables_1, d.before g.2.1 g.1 = true
def al : List (Nat × Bool) := [(0, false), (1, false), (2, false), (3, false), (4, false), (5, false), (6, false), (7, false), (8, false), (9, false), (10, false), (11, false), (12, false), (13, false), (14, false), (15, false), (16, false), (17, false), (18, false), (19, false), (20, false), (21, false), (22, false), (23, false), (24, true), (25, false), (26, false), (27, false), (28, false), (29, false), (30, false), (31, true), (32, false)]
def Ln (j : Nat) : Nat := [32, 32, 32, 32, 32, 3, 8, 1056, 1056, 1056, 1056, 1056, 1056, 4, 2, 64, 8, 32, 32, 4, 3, 3, 16, 16, 16, 64, 64, 2048, 2048, 2048, 2048, 2048, 1024, 0, 0, 0, 0, 0, 0, 0, 0, 0, 0].getD j 0
def dfl : List Value := [.null, .null, .null, .null, .null, .null, .null, .null, .null, .null, .null, .null, .null, .null, .null, .null, .null, .null, .null, .null, .null, .null, .null, .null, .null, .null, .null, .null, .null, .null, .null, .null, .null, .int 0, .int 0, .int 0, .int 0, .int 0, .int 0, .int 0, .int 0, .int 0, .int 0]
theorem ww {g : GT} (hw : HW g) (k : Nat) {d : Jvm.Cond} (h : tables_1[k]? = some d) : d.before (gA (GG g)) (gZ (GG g)) = true := hw _ (List.mem_of_getElem? h)
theorem fld_nd : (flds.map (·.1)).Nodup := by decide +kernel
theorem al_ok : alOk flds al = true := by decide +kernel
theorem al_nd : (al.map (·.1)).Nodup := by decide +kernel
theorem gok {g : GT} (hw : HW g) : GOk (GG g) := gok_of ⟨⟨Or.inr (ww hw 11 rfl), by decide⟩, ⟨Or.inr (ww hw 13 rfl), by decide⟩, ⟨Or.inr (ww hw 15 rfl), by decide⟩, ⟨Or.inr (ww hw 17 rfl), by decide⟩, ⟨Or.inr (ww hw 19 rfl), by decide⟩, ⟨Or.inr (ww hw 21 rfl), by decide⟩, ⟨Or.inr (ww hw 23 rfl), by decide⟩, ⟨Or.inr (ww hw 25 rfl), by decide⟩, ⟨Or.inr (ww hw 27 rfl), by decide⟩, ⟨Or.inr (ww hw 29 rfl), by decide⟩, ⟨Or.inr (ww hw 31 rfl), by decide⟩, ⟨Or.inr (ww hw 33 rfl), by decide⟩, ⟨Or.inr (ww hw 35 rfl), by decide⟩, ⟨Or.inr (ww hw 37 rfl), by decide⟩, ⟨Or.inr (ww hw 39 rfl), by decide⟩, ⟨Or.inr (ww hw 41 rfl), by decide⟩, ⟨Or.inr (ww hw 43 rfl), by decide⟩, ⟨Or.inr (ww hw 45 rfl), by decide⟩, ⟨Or.inr (ww hw 47 rfl), by decide⟩, ⟨Or.inr (ww hw 49 rfl), by decide⟩, ⟨Or.inr (ww hw 51 rfl), by decide⟩, ⟨Or.inr (ww hw 53 rfl), by decide⟩, ⟨Or.inr (ww hw 55 rfl), by decide⟩, ⟨Or.inr (ww hw 57 rfl), by decide⟩, ⟨Or.inr (ww hw 60 rfl), by decide⟩, ⟨Or.inr (ww hw 62 rfl), by decide⟩, ⟨Or.inr (ww hw 64 rfl), by decide⟩, ⟨Or.inr (ww hw 66 rfl), by decide⟩, ⟨Or.inr (ww hw 68 rfl), by decide⟩, ⟨Or.inr (ww hw 70 rfl), by decide⟩, ⟨Or.inr (ww hw 72 rfl), by decide⟩, ⟨Or.inr (ww hw 74 rfl), by decide⟩, ⟨Or.inr (ww hw 76 rfl), by decide⟩, ⟨Or.inl (ww hw 78 rfl), by decide⟩, ⟨Or.inl (ww hw 80 rfl), by decide⟩, ⟨Or.inl (ww hw 87 rfl), by decide⟩, ⟨Or.inl (ww hw 109 rfl), by decide⟩, ⟨Or.inl (ww hw 111 rfl), by decide⟩, ⟨Or.inl (ww hw 122 rfl), by decide⟩, ⟨Or.inl (ww hw 132 rfl), by decide⟩, ⟨Or.inl (ww hw 134 rfl), by decide⟩, ⟨Or.inl (ww hw 136 rfl), by decide⟩, ⟨Or.inl (ww hw 138 rfl), by decide⟩, trivial⟩ fld_nd (ww hw 1 rfl) (ww hw 2 rfl)
theorem pcls : plainName "RankReassociator" = true := by first | (simp [plainName, overriddenIn]; done) | decide +kernel
theorem pclsL : plainName "RankReassociatorL2" = true := by first | (simp [plainName, overriddenIn]; done) | decide +kernel
theorem nmh : "RankReassociator" ≠ "java/lang/invoke/MethodHandle" ∧ "RankReassociator" ≠ "java/lang/invoke/VarHandle" := by decide
theorem nmhL : "RankReassociatorL2" ≠ "java/lang/invoke/MethodHandle" ∧ "RankReassociatorL2" ≠ "java/lang/invoke/VarHandle" := by decide
def M_ctor : Mi := ((⟨"RankReassociator", "<init>", "(I)V"⟩ : MethodName), prog_1_method_1_code, 3, none, 1, 12)
theorem pl_ctor : plainFor (mN M_ctor) = true := plainFor_of_name pcls
theorem nm_ctor : notMH M_ctor := nmh
theorem pd_ctor : parseMethodDescriptor (mN M_ctor).desc = some ⟨[.int], none⟩ := by decide +kernel
def M_argumentOk : Mi := ((⟨"RankReassociator", "argumentOk", "(II)Z"⟩ : MethodName), prog_1_method_4_code, 3, (some .boolean), 0, 0)
theorem pl_argumentOk : plainFor (mN M_argumentOk) = true := plainFor_of_name pcls
theorem nm_argumentOk : notMH M_argumentOk := nmh
theorem pd_argumentOk : parseMethodDescriptor (mN M_argumentOk).desc = some ⟨[.int, .int], some .boolean⟩ := by decide +kernel
def M_operandsOk : Mi := ((⟨"RankReassociator", "operandsOk", "(III)Z"⟩ : MethodName), prog_1_method_5_code, 4, (some .boolean), 0, 0)
theorem pl_operandsOk : plainFor (mN M_operandsOk) = true := plainFor_of_name pcls
theorem nm_operandsOk : notMH M_operandsOk := nmh
theorem pd_operandsOk : parseMethodDescriptor (mN M_operandsOk).desc = some ⟨[.int, .int, .int], some .boolean⟩ := by decide +kernel
def M_usesX : Mi := ((⟨"RankReassociator", "usesX", "(I)Z"⟩ : MethodName), prog_1_method_9_code, 2, (some .boolean), 0, 0)
theorem pl_usesX : plainFor (mN M_usesX) = true := plainFor_of_name pcls
theorem nm_usesX : notMH M_usesX := nmh
theorem pd_usesX : parseMethodDescriptor (mN M_usesX).desc = some ⟨[.int], some .boolean⟩ := by decide +kernel
def M_usesY : Mi := ((⟨"RankReassociator", "usesY", "(I)Z"⟩ : MethodName), prog_1_method_8_code, 2, (some .boolean), 0, 0)
theorem pl_usesY : plainFor (mN M_usesY) = true := plainFor_of_name pcls
theorem nm_usesY : notMH M_usesY := nmh
theorem pd_usesY : parseMethodDescriptor (mN M_usesY).desc = some ⟨[.int], some .boolean⟩ := by decide +kernel
def M_store : Mi := ((⟨"RankReassociator", "store", "(III)I"⟩ : MethodName), prog_1_method_10_code, 6, (some .int), 1, 15)
theorem pl_store : plainFor (mN M_store) = true := plainFor_of_name pcls
theorem nm_store : notMH M_store := nmh
theorem pd_store : parseMethodDescriptor (mN M_store).desc = some ⟨[.int, .int, .int], some .int⟩ := by decide +kernel
def M_add : Mi := ((⟨"RankReassociator", "add", "(III)I"⟩ : MethodName), prog_1_method_3_code, 4, (some .int), 2, 32)
theorem pl_add : plainFor (mN M_add) = true := plainFor_of_name pcls
theorem nm_add : notMH M_add := nmh
theorem pd_add : parseMethodDescriptor (mN M_add).desc = some ⟨[.int, .int, .int], some .int⟩ := by decide +kernel
def M_buildVersion0 : Mi := ((⟨"RankReassociator", "buildVersion0", "()V"⟩ : MethodName), prog_1_method_23_code, 3, none, 0, 0)
theorem pl_buildVersion0 : plainFor (mN M_buildVersion0) = true := plainFor_of_name pcls
theorem nm_buildVersion0 : notMH M_buildVersion0 := nmh
theorem pd_buildVersion0 : parseMethodDescriptor (mN M_buildVersion0).desc = some ⟨[], none⟩ := by decide +kernel
def M_undoHash : Mi := ((⟨"RankReassociator", "undoHash", "(I)V"⟩ : MethodName), prog_1_method_71_code, 4, none, 0, 0)
theorem pl_undoHash : plainFor (mN M_undoHash) = true := plainFor_of_name pcls
theorem nm_undoHash : notMH M_undoHash := nmh
theorem pd_undoHash : parseMethodDescriptor (mN M_undoHash).desc = some ⟨[.int], none⟩ := by decide +kernel
def M_computeSetMasks : Mi := ((⟨"RankReassociator", "computeSetMasks", "()V"⟩ : MethodName), prog_1_method_26_code, 5, none, 0, 0)
theorem pl_computeSetMasks : plainFor (mN M_computeSetMasks) = true := plainFor_of_name pcls
theorem nm_computeSetMasks : notMH M_computeSetMasks := nmh
theorem pd_computeSetMasks : parseMethodDescriptor (mN M_computeSetMasks).desc = some ⟨[], none⟩ := by decide +kernel
def M_emit : Mi := ((⟨"RankReassociator", "emit", "(III)I"⟩ : MethodName), prog_1_method_31_code, 5, (some .int), 0, 0)
theorem pl_emit : plainFor (mN M_emit) = true := plainFor_of_name pcls
theorem nm_emit : notMH M_emit := nmh
theorem pd_emit : parseMethodDescriptor (mN M_emit).desc = some ⟨[.int, .int, .int], some .int⟩ := by decide +kernel
def M_hashOf : Mi := ((⟨"RankReassociator", "hashOf", "(III)I"⟩ : MethodName), prog_1_method_68_code, 5, (some .int), 0, 0)
theorem pl_hashOf : plainFor (mN M_hashOf) = true := plainFor_of_name pcls
theorem nm_hashOf : notMH M_hashOf := nmh
theorem pd_hashOf : parseMethodDescriptor (mN M_hashOf).desc = some ⟨[.int, .int, .int], some .int⟩ := by decide +kernel
def M_lookup : Mi := ((⟨"RankReassociator", "lookup", "(III)I"⟩ : MethodName), prog_1_method_69_code, 7, (some .int), 1, 16)
theorem pl_lookup : plainFor (mN M_lookup) = true := plainFor_of_name pcls
theorem nm_lookup : notMH M_lookup := nmh
theorem pd_lookup : parseMethodDescriptor (mN M_lookup).desc = some ⟨[.int, .int, .int], some .int⟩ := by decide +kernel
def M_insert : Mi := ((⟨"RankReassociator", "insert", "(IIII)V"⟩ : MethodName), prog_1_method_70_code, 6, none, 0, 0)
theorem pl_insert : plainFor (mN M_insert) = true := plainFor_of_name pcls
theorem nm_insert : notMH M_insert := nmh
theorem pd_insert : parseMethodDescriptor (mN M_insert).desc = some ⟨[.int, .int, .int, .int], none⟩ := by decide +kernel
def M_makeLeaf : Mi := ((⟨"RankReassociator", "makeLeaf", "(IIII)I"⟩ : MethodName), prog_1_method_36_code, 7, (some .int), 2, 34)
theorem pl_makeLeaf : plainFor (mN M_makeLeaf) = true := plainFor_of_name pcls
theorem nm_makeLeaf : notMH M_makeLeaf := nmh
theorem pd_makeLeaf : parseMethodDescriptor (mN M_makeLeaf).desc = some ⟨[.int, .int, .int, .int], some .int⟩ := by decide +kernel
def M_makeConst : Mi := ((⟨"RankReassociator", "makeConst", "(I)I"⟩ : MethodName), prog_1_method_35_code, 2, (some .int), 3, 52)
theorem pl_makeConst : plainFor (mN M_makeConst) = true := plainFor_of_name pcls
theorem nm_makeConst : notMH M_makeConst := nmh
theorem pd_makeConst : parseMethodDescriptor (mN M_makeConst).desc = some ⟨[.int], some .int⟩ := by decide +kernel
def M_buildValue : Mi := ((⟨"RankReassociator", "buildValue", "(I)I"⟩ : MethodName), prog_1_method_33_code, 5, (some .int), 4, 65)
theorem pl_buildValue : plainFor (mN M_buildValue) = true := plainFor_of_name pcls
theorem nm_buildValue : notMH M_buildValue := nmh
theorem pd_buildValue : parseMethodDescriptor (mN M_buildValue).desc = some ⟨[.int], some .int⟩ := by decide +kernel
def M_translate : Mi := ((⟨"RankReassociator", "translate", "(I)V"⟩ : MethodName), prog_1_method_27_code, 4, none, 5, 83)
theorem pl_translate : plainFor (mN M_translate) = true := plainFor_of_name pcls
theorem nm_translate : notMH M_translate := nmh
theorem pd_translate : parseMethodDescriptor (mN M_translate).desc = some ⟨[.int], none⟩ := by decide +kernel
def M_buildVersion1 : Mi := ((⟨"RankReassociator", "buildVersion1", "()V"⟩ : MethodName), prog_1_method_25_code, 2, none, 6, 98)
theorem pl_buildVersion1 : plainFor (mN M_buildVersion1) = true := plainFor_of_name pcls
theorem nm_buildVersion1 : notMH M_buildVersion1 := nmh
theorem pd_buildVersion1 : parseMethodDescriptor (mN M_buildVersion1).desc = some ⟨[], none⟩ := by decide +kernel
def M_compile : Mi := ((⟨"RankReassociator", "compile", "()I"⟩ : MethodName), prog_1_method_17_code, 1, (some .int), 7, 111)
theorem pl_compile : plainFor (mN M_compile) = true := plainFor_of_name pcls
theorem nm_compile : notMH M_compile := nmh
theorem pd_compile : parseMethodDescriptor (mN M_compile).desc = some ⟨[], some .int⟩ := by decide +kernel
def M_setInput : Mi := ((⟨"RankReassociator", "setInput", "(II)Z"⟩ : MethodName), prog_1_method_15_code, 3, (some .boolean), 0, 0)
theorem pl_setInput : plainFor (mN M_setInput) = true := plainFor_of_name pcls
theorem nm_setInput : notMH M_setInput := nmh
theorem pd_setInput : parseMethodDescriptor (mN M_setInput).desc = some ⟨[.int, .int], some .boolean⟩ := by decide +kernel
def M_isCompiled : Mi := ((⟨"RankReassociator", "isCompiled", "()Z"⟩ : MethodName), prog_1_method_18_code, 1, (some .boolean), 0, 0)
theorem pl_isCompiled : plainFor (mN M_isCompiled) = true := plainFor_of_name pcls
theorem nm_isCompiled : notMH M_isCompiled := nmh
theorem pd_isCompiled : parseMethodDescriptor (mN M_isCompiled).desc = some ⟨[], some .boolean⟩ := by decide +kernel
def M_input : Mi := ((⟨"RankReassociator", "input", "(I)I"⟩ : MethodName), prog_1_method_16_code, 2, (some .int), 0, 0)
theorem pl_input : plainFor (mN M_input) = true := plainFor_of_name pcls
theorem nm_input : notMH M_input := nmh
theorem pd_input : parseMethodDescriptor (mN M_input).desc = some ⟨[.int], some .int⟩ := by decide +kernel
def M_size : Mi := ((⟨"RankReassociator", "size", "()I"⟩ : MethodName), prog_1_method_12_code, 1, (some .int), 0, 0)
theorem pl_size : plainFor (mN M_size) = true := plainFor_of_name pcls
theorem nm_size : notMH M_size := nmh
theorem pd_size : parseMethodDescriptor (mN M_size).desc = some ⟨[], some .int⟩ := by decide +kernel
def M_instr : Mi := ((⟨"RankReassociator", "instr", "(II)I"⟩ : MethodName), prog_1_method_14_code, 3, (some .int), 0, 0)
theorem pl_instr : plainFor (mN M_instr) = true := plainFor_of_name pcls
theorem nm_instr : notMH M_instr := nmh
theorem pd_instr : parseMethodDescriptor (mN M_instr).desc = some ⟨[.int, .int], some .int⟩ := by decide +kernel
def M_law : Mi := (x, code, maxLocals, ret, 8, 123)
theorem pl_law : plainFor (mN M_law) = true := plainFor_of_name (by first | (simp [plainName, overriddenIn, x]; done) | decide +kernel)
def c0 : List (Nat × Instr × Nat) := [(0, .aload_n 0, 1), (1, .invokespecial 1, 3), (4, .aload_n 0, 1), (5, .bipush 32, 2), (7, .newarray .int, 2), (9, .putfield 7, 3), (12, .aload_n 0, 1), (13, .bipush 32, 2), (15, .newarray .int, 2), (17, .putfield 13, 3), (20, .aload_n 0, 1), (21, .bipush 32, 2), (23, .newarray .int, 2), (25, .putfield 16, 3), (28, .aload_n 0, 1), (29, .bipush 32, 2), (31, .newarray .int, 2), (33, .putfield 19, 3), (36, .aload_n 0, 1), (37, .bipush 32, 2), (39, .newarray .int, 2), (41, .putfield 22, 3), (44, .aload_n 0, 1), (45, .iconst 3, 1), (46, .newarray .int, 2), (48, .putfield 25, 3), (51, .aload_n 0, 1), (52, .bipush 8, 2), (54, .newarray .int, 2), (56, .putfield 28, 3), (59, .aload_n 0, 1), (60, .sipush 1056, 3), (63, .newarray .int, 2), (65, .putfield 31, 3), (68, .aload_n 0, 1), (69, .sipush 1056, 3), (72, .newarray .int, 2), (74, .putfield 34, 3), (77, .aload_n 0, 1), (78, .sipush 1056, 3), (81, .newarray .int, 2), (83, .putfield 37, 3), (86, .aload_n 0, 1), (87, .sipush 1056, 3), (90, .newarray .int, 2), (92, .putfield 40, 3), (95, .aload_n 0, 1), (96, .sipush 1056, 3), (99, .newarray .int, 2), (101, .putfield 43, 3), (104, .aload_n 0, 1), (105, .sipush 1056, 3), (108, .newarray .int, 2), (110, .putfield 46, 3), (113, .aload_n 0, 1), (114, .iconst 4, 1), (115, .newarray .int, 2), (117, .putfield 49, 3), (120, .aload_n 0, 1), (121, .iconst 2, 1), (122, .newarray .int, 2), (124, .putfield 52, 3), (127, .aload_n 0, 1), (128, .bipush 64, 2), (130, .newarray .int, 2), (132, .putfield 55, 3), (135, .aload_n 0, 1), (136, .bipush 8, 2), (138, .newarray .int, 2), (140, .putfield 58, 3), (143, .aload_n 0, 1), (144, .bipush 32, 2), (146, .newarray .int, 2), (148, .putfield 61, 3), (151, .aload_n 0, 1), (152, .bipush 32, 2), (154, .newarray .int, 2), (156, .putfield 64, 3), (159, .aload_n 0, 1), (160, .iconst 4, 1), (161, .newarray .int, 2), (163, .putfield 67, 3), (166, .aload_n 0, 1), (167, .iconst 3, 1), (168, .newarray .int, 2), (170, .putfield 70, 3), (173, .aload_n 0, 1), (174, .iconst 3, 1), (175, .newarray .int, 2), (177, .putfield 73, 3), (180, .aload_n 0, 1), (181, .bipush 16, 2), (183, .newarray .int, 2), (185, .putfield 76, 3), (188, .aload_n 0, 1), (189, .bipush 16, 2), (191, .newarray .int, 2), (193, .putfield 79, 3), (196, .aload_n 0, 1), (197, .bipush 16, 2), (199, .newarray .boolean, 2), (201, .putfield 82, 3), (204, .aload_n 0, 1), (205, .bipush 64, 2), (207, .newarray .int, 2), (209, .putfield 86, 3), (212, .aload_n 0, 1), (213, .bipush 64, 2), (215, .newarray .int, 2), (217, .putfield 89, 3), (220, .aload_n 0, 1), (221, .sipush 2048, 3), (224, .newarray .int, 2), (226, .putfield 92, 3), (229, .aload_n 0, 1), (230, .sipush 2048, 3), (233, .newarray .int, 2), (235, .putfield 95, 3), (238, .aload_n 0, 1), (239, .sipush 2048, 3), (242, .newarray .int, 2), (244, .putfield 98, 3), (247, .aload_n 0, 1), (248, .sipush 2048, 3), (251, .newarray .int, 2), (253, .putfield 101, 3), (256, .aload_n 0, 1), (257, .sipush 2048, 3), (260, .newarray .boolean, 2), (262, .putfield 104, 3), (265, .aload_n 0, 1), (266, .sipush 1024, 3), (269, .newarray .int, 2), (271, .putfield 107, 3), (274, .iload_n 1, 1), (275, .istore_n 2, 1), (276, .iload_n 2, 1), (277, .bipush 8, 2), (279, .if_icmp .ge 6, 3), (282, .bipush 8, 2), (284, .istore_n 2, 1), (285, .iload_n 2, 1), (286, .bipush 32, 2), (288, .if_icmp .le 6, 3), (291, .bipush 32, 2), (293, .istore_n 2, 1), (294, .aload_n 0, 1), (295, .iload_n 2, 1), (296, .putfield 110, 3), (299, .aload_n 0, 1), (300, .iconst (-1), 1), (301, .putfield 114, 3), (304, .return_, 1)]
theorem D0 : decs prog_1_method_1_code c0 = true := by decide +kernel
theorem d0 (k : Nat) {p : Nat} {i : Instr} {n : Nat} (h : c0[k]? = some (p, i, n)) : decode prog_1_method_1_code p = .ok (i, n) := dget D0 h
def c3 : List (Nat × Instr × Nat) := [(0, .iload_n 1, 1), (1, .iconst 2, 1), (2, .if_icmp .ne 19, 3), (5, .iload_n 2, 1), (6, .ifCond .lt 13, 3), (9, .iload_n 2, 1), (10, .bipush 8, 2), (12, .if_icmp .ge 7, 3), (15, .iconst 1, 1), (16, .goto 4, 3), (19, .iconst 0, 1), (20, .ireturn, 1), (21, .iload_n 1, 1), (22, .bipush 13, 2), (24, .if_icmp .ne 19, 3), (27, .iload_n 2, 1), (28, .ifCond .lt 13, 3), (31, .iload_n 2, 1), (32, .bipush 7, 2), (34, .if_icmp .gt 7, 3), (37, .iconst 1, 1), (38, .goto 4, 3), (41, .iconst 0, 1), (42, .ireturn, 1), (43, .iload_n 1, 1), (44, .iconst 3, 1), (45, .if_icmp .eq 9, 3), (48, .iload_n 1, 1), (49, .bipush 11, 2), (51, .if_icmp .ne 18, 3), (54, .iload_n 2, 1), (55, .ifCond .lt 12, 3), (58, .iload_n 2, 1), (59, .iconst 4, 1), (60, .if_icmp .ge 7, 3), (63, .iconst 1, 1), (64, .goto 4, 3), (67, .iconst 0, 1), (68, .ireturn, 1), (69, .iconst 1, 1), (70, .ireturn, 1)]
theorem D3 : decs prog_1_method_4_code c3 = true := by decide +kernel
theorem d3 (k : Nat) {p : Nat} {i : Instr} {n : Nat} (h : c3[k]? = some (p, i, n)) : decode prog_1_method_4_code p = .ok (i, n) := dget D3 h
def c4 : List (Nat × Instr × Nat) := [(0, .iload_n 1, 1), (1, .iconst 4, 1), (2, .if_icmp .lt 25, 3), (5, .iload_n 1, 1), (6, .bipush 9, 2), (8, .if_icmp .gt 19, 3), (11, .aload_n 0, 1), (12, .iload_n 2, 1), (13, .invokevirtual 135, 3), (16, .ifCond .ne 5, 3), (19, .iconst 0, 1), (20, .ireturn, 1), (21, .aload_n 0, 1), (22, .iload_n 3, 1), (23, .invokevirtual 135, 3), (26, .ireturn, 1), (27, .iload_n 1, 1), (28, .bipush 10, 2), (30, .if_icmp .eq 9, 3), (33, .iload_n 1, 1), (34, .bipush 12, 2), (36, .if_icmp .ne 9, 3), (39, .aload_n 0, 1), (40, .iload_n 2, 1), (41, .invokevirtual 135, 3), (44, .ireturn, 1), (45, .iload_n 1, 1), (46, .bipush 11, 2), (48, .if_icmp .ne 9, 3), (51, .aload_n 0, 1), (52, .iload_n 3, 1), (53, .invokevirtual 135, 3), (56, .ireturn, 1), (57, .iconst 1, 1), (58, .ireturn, 1)]
theorem D4 : decs prog_1_method_5_code c4 = true := by decide +kernel
theorem d4 (k : Nat) {p : Nat} {i : Instr} {n : Nat} (h : c4[k]? = some (p, i, n)) : decode prog_1_method_5_code p = .ok (i, n) := dget D4 h
def c6 : List (Nat × Instr × Nat) := [(0, .iload_n 1, 1), (1, .bipush 14, 2), (3, .if_icmp .eq 7, 3), (6, .iconst 1, 1), (7, .goto 4, 3), (10, .iconst 0, 1), (11, .ireturn, 1)]
theorem D6 : decs prog_1_method_9_code c6 = true := by decide +kernel
theorem d6 (k : Nat) {p : Nat} {i : Instr} {n : Nat} (h : c6[k]? = some (p, i, n)) : decode prog_1_method_9_code p = .ok (i, n) := dget D6 h
def c7 : List (Nat × Instr × Nat) := [(0, .iload_n 1, 1), (1, .iconst 4, 1), (2, .if_icmp .lt 11, 3), (5, .iload_n 1, 1), (6, .bipush 9, 2), (8, .if_icmp .gt 5, 3), (11, .iconst 1, 1), (12, .ireturn, 1), (13, .iload_n 1, 1), (14, .bipush 11, 2), (16, .if_icmp .ne 7, 3), (19, .iconst 1, 1), (20, .goto 4, 3), (23, .iconst 0, 1), (24, .ireturn, 1)]
theorem D7 : decs prog_1_method_8_code c7 = true := by decide +kernel
theorem d7 (k : Nat) {p : Nat} {i : Instr} {n : Nat} (h : c7[k]? = some (p, i, n)) : decode prog_1_method_8_code p = .ok (i, n) := dget D7 h
def c5 : List (Nat × Instr × Nat) := [(0, .aload_n 0, 1), (1, .getfield 117, 3), (4, .istore 4, 2), (6, .iload 4, 2), (8, .ifCond .lt 10, 3), (11, .iload 4, 2), (13, .bipush 32, 2), (15, .if_icmp .lt 5, 3), (18, .iconst (-1), 1), (19, .ireturn, 1), (20, .aload_n 0, 1), (21, .getfield 7, 3), (24, .iload 4, 2), (26, .iload_n 1, 1), (27, .iastore, 1), (28, .aload_n 0, 1), (29, .getfield 13, 3), (32, .iload 4, 2), (34, .aload_n 0, 1), (35, .iload_n 1, 1), (36, .invokevirtual 142, 3), (39, .ifCond .eq 7, 3), (42, .iload_n 2, 1), (43, .goto 4, 3), (46, .iconst 0, 1), (47, .iastore, 1), (48, .aload_n 0, 1), (49, .getfield 16, 3), (52, .iload 4, 2), (54, .aload_n 0, 1), (55, .iload_n 1, 1), (56, .invokevirtual 145, 3), (59, .ifCond .eq 7, 3), (62, .iload_n 3, 1), (63, .goto 4, 3), (66, .iconst 0, 1), (67, .iastore, 1), (68, .aload_n 0, 1), (69, .getfield 19, 3), (72, .iload 4, 2), (74, .iconst (-1), 1), (75, .iastore, 1), (76, .aload_n 0, 1), (77, .getfield 128, 3), (80, .ifCond .le 29, 3), (83, .aload_n 0, 1), (84, .getfield 128, 3), (87, .iconst 3, 1), (88, .if_icmp .gt 21, 3), (91, .aload_n 0, 1), (92, .getfield 19, 3), (95, .iload 4, 2), (97, .aload_n 0, 1), (98, .getfield 25, 3), (101, .aload_n 0, 1), (102, .getfield 128, 3), (105, .iconst 1, 1), (106, .isub, 1), (107, .iaload, 1), (108, .iastore, 1), (109, .aload_n 0, 1), (110, .getfield 22, 3), (113, .iload 4, 2), (115, .iconst (-1), 1), (116, .iastore, 1), (117, .iload_n 1, 1), (118, .bipush 13, 2), (120, .if_icmp .ne 42, 3), (123, .aload_n 0, 1), (124, .getfield 128, 3), (127, .ifCond .lt 35, 3), (130, .aload_n 0, 1), (131, .getfield 128, 3), (134, .iconst 3, 1), (135, .if_icmp .ge 27, 3), (138, .aload_n 0, 1), (139, .getfield 25, 3), (142, .aload_n 0, 1), (143, .getfield 128, 3), (146, .iload 4, 2), (148, .iastore, 1), (149, .aload_n 0, 1), (150, .dup, 1), (151, .getfield 128, 3), (154, .iconst 1, 1), (155, .iadd, 1), (156, .putfield 128, 3), (159, .goto 75, 3), (162, .iload_n 1, 1), (163, .bipush 14, 2), (165, .if_icmp .ne 69, 3), (168, .aload_n 0, 1), (169, .getfield 128, 3), (172, .ifCond .le 62, 3), (175, .aload_n 0, 1), (176, .getfield 128, 3), (179, .iconst 3, 1), (180, .if_icmp .gt 54, 3), (183, .aload_n 0, 1), (184, .dup, 1), (185, .getfield 128, 3), (188, .iconst 1, 1), (189, .isub, 1), (190, .putfield 128, 3), (193, .aload_n 0, 1), (194, .getfield 25, 3), (197, .aload_n 0, 1), (198, .getfield 128, 3), (201, .iaload, 1), (202, .istore 5, 2), (204, .aload_n 0, 1), (205, .getfield 22, 3), (208, .iload 4, 2), (210, .iload 5, 2), (212, .iastore, 1), (213, .iload 5, 2), (215, .ifCond .lt 19, 3), (218, .iload 5, 2), (220, .bipush 32, 2), (222, .if_icmp .ge 12, 3), (225, .aload_n 0, 1), (226, .getfield 22, 3), (229, .iload 5, 2), (231, .iload 4, 2), (233, .iastore, 1), (234, .aload_n 0, 1), (235, .dup, 1), (236, .getfield 117, 3), (239, .iconst 1, 1), (240, .iadd, 1), (241, .putfield 117, 3), (244, .aload_n 0, 1), (245, .iconst 0, 1), (246, .putfield 148, 3), (249, .iload 4, 2), (251, .ireturn, 1)]
theorem D5 : decs prog_1_method_10_code c5 = true := by decide +kernel
theorem d5 (k : Nat) {p : Nat} {i : Instr} {n : Nat} (h : c5[k]? = some (p, i, n)) : decode prog_1_method_10_code p = .ok (i, n) := dget D5 h
def c2 : List (Nat × Instr × Nat) := [(0, .aload_n 0, 1), (1, .getfield 117, 3), (4, .aload_n 0, 1), (5, .getfield 110, 3), (8, .if_icmp .lt 5, 3), (11, .iconst (-1), 1), (12, .ireturn, 1), (13, .iload_n 1, 1), (14, .iconst 1, 1), (15, .if_icmp .lt 9, 3), (18, .iload_n 1, 1), (19, .bipush 14, 2), (21, .if_icmp .le 6, 3), (24, .bipush (-2), 2), (26, .ireturn, 1), (27, .aload_n 0, 1), (28, .iload_n 1, 1), (29, .iload_n 2, 1), (30, .invokevirtual 120, 3), (33, .ifCond .ne 6, 3), (36, .bipush (-3), 2), (38, .ireturn, 1), (39, .aload_n 0, 1), (40, .iload_n 1, 1), (41, .iload_n 2, 1), (42, .iload_n 3, 1), (43, .invokevirtual 124, 3), (46, .ifCond .ne 6, 3), (49, .bipush (-4), 2), (51, .ireturn, 1), (52, .iload_n 1, 1), (53, .bipush 13, 2), (55, .if_icmp .ne 14, 3), (58, .aload_n 0, 1), (59, .getfield 128, 3), (62, .iconst 3, 1), (63, .if_icmp .lt 6, 3), (66, .bipush (-5), 2), (68, .ireturn, 1), (69, .iload_n 1, 1), (70, .bipush 14, 2), (72, .if_icmp .ne 13, 3), (75, .aload_n 0, 1), (76, .getfield 128, 3), (79, .ifCond .gt 6, 3), (82, .bipush (-5), 2), (84, .ireturn, 1), (85, .aload_n 0, 1), (86, .iload_n 1, 1), (87, .iload_n 2, 1), (88, .iload_n 3, 1), (89, .invokevirtual 131, 3), (92, .ireturn, 1)]
theorem D2 : decs prog_1_method_3_code c2 = true := by decide +kernel
theorem d2 (k : Nat) {p : Nat} {i : Instr} {n : Nat} (h : c2[k]? = some (p, i, n)) : decode prog_1_method_3_code p = .ok (i, n) := dget D2 h
def c9 : List (Nat × Instr × Nat) := [(0, .iconst 0, 1), (1, .istore_n 1, 1), (2, .iload_n 1, 1), (3, .aload_n 0, 1), (4, .getfield 117, 3), (7, .if_icmp .ge 99, 3), (10, .iload_n 1, 1), (11, .bipush 32, 2), (13, .if_icmp .ge 93, 3), (16, .aload_n 0, 1), (17, .getfield 7, 3), (20, .iload_n 1, 1), (21, .iaload, 1), (22, .istore_n 2, 1), (23, .aload_n 0, 1), (24, .getfield 31, 3), (27, .iload_n 1, 1), (28, .iload_n 2, 1), (29, .iastore, 1), (30, .aload_n 0, 1), (31, .getfield 34, 3), (34, .iload_n 1, 1), (35, .aload_n 0, 1), (36, .getfield 13, 3), (39, .iload_n 1, 1), (40, .iaload, 1), (41, .iastore, 1), (42, .aload_n 0, 1), (43, .getfield 37, 3), (46, .iload_n 1, 1), (47, .aload_n 0, 1), (48, .getfield 16, 3), (51, .iload_n 1, 1), (52, .iaload, 1), (53, .iastore, 1), (54, .iload_n 2, 1), (55, .bipush 13, 2), (57, .if_icmp .ne 18, 3), (60, .aload_n 0, 1), (61, .getfield 37, 3), (64, .iload_n 1, 1), (65, .aload_n 0, 1), (66, .getfield 22, 3), (69, .iload_n 1, 1), (70, .iaload, 1), (71, .iastore, 1), (72, .goto 21, 3), (75, .iload_n 2, 1), (76, .bipush 14, 2), (78, .if_icmp .ne 15, 3), (81, .aload_n 0, 1), (82, .getfield 34, 3), (85, .iload_n 1, 1), (86, .aload_n 0, 1), (87, .getfield 22, 3), (90, .iload_n 1, 1), (91, .iaload, 1), (92, .iastore, 1), (93, .aload_n 0, 1), (94, .getfield 40, 3), (97, .iload_n 1, 1), (98, .iconst 0, 1), (99, .iastore, 1), (100, .iinc 1 1, 3), (103, .goto (-101), 3), (106, .aload_n 0, 1), (107, .aload_n 0, 1), (108, .getfield 117, 3), (111, .putfield 162, 3), (114, .return_, 1)]
theorem D9 : decs prog_1_method_23_code c9 = true := by decide +kernel
theorem d9 (k : Nat) {p : Nat} {i : Instr} {n : Nat} (h : c9[k]? = some (p, i, n)) : decode prog_1_method_23_code p = .ok (i, n) := dget D9 h
def c11 : List (Nat × Instr × Nat) := [(0, .iconst 0, 1), (1, .istore_n 2, 1), (2, .iload_n 2, 1), (3, .sipush 1024, 3), (6, .if_icmp .ge 62, 3), (9, .aload_n 0, 1), (10, .getfield 205, 3), (13, .iload_n 1, 1), (14, .if_icmp .le 54, 3), (17, .aload_n 0, 1), (18, .getfield 205, 3), (21, .ifCond .le 47, 3), (24, .aload_n 0, 1), (25, .dup, 1), (26, .getfield 205, 3), (29, .iconst 1, 1), (30, .isub, 1), (31, .putfield 205, 3), (34, .aload_n 0, 1), (35, .getfield 107, 3), (38, .aload_n 0, 1), (39, .getfield 205, 3), (42, .iaload, 1), (43, .istore_n 3, 1), (44, .iload_n 3, 1), (45, .ifCond .lt 17, 3), (48, .iload_n 3, 1), (49, .sipush 2048, 3), (52, .if_icmp .ge 10, 3), (55, .aload_n 0, 1), (56, .getfield 104, 3), (59, .iload_n 3, 1), (60, .iconst 0, 1), (61, .bastore, 1), (62, .iinc 2 1, 3), (65, .goto (-63), 3), (68, .aload_n 0, 1), (69, .iconst (-1), 1), (70, .putfield 114, 3), (73, .return_, 1)]
theorem D11 : decs prog_1_method_71_code c11 = true := by decide +kernel
theorem d11 (k : Nat) {p : Nat} {i : Instr} {n : Nat} (h : c11[k]? = some (p, i, n)) : decode prog_1_method_71_code p = .ok (i, n) := dget D11 h
def c12 : List (Nat × Instr × Nat) := [(0, .iconst 0, 1), (1, .istore_n 1, 1), (2, .iload_n 1, 1), (3, .aload_n 0, 1), (4, .getfield 117, 3), (7, .if_icmp .ge 102, 3), (10, .iload_n 1, 1), (11, .bipush 32, 2), (13, .if_icmp .ge 96, 3), (16, .aload_n 0, 1), (17, .getfield 64, 3), (20, .iload_n 1, 1), (21, .iconst 0, 1), (22, .iastore, 1), (23, .aload_n 0, 1), (24, .getfield 7, 3), (27, .iload_n 1, 1), (28, .iaload, 1), (29, .bipush 13, 2), (31, .if_icmp .eq 6, 3), (34, .goto 69, 3), (37, .aload_n 0, 1), (38, .getfield 22, 3), (41, .iload_n 1, 1), (42, .iaload, 1), (43, .istore_n 2, 1), (44, .iconst 0, 1), (45, .istore_n 3, 1), (46, .iload_n 1, 1), (47, .iconst 1, 1), (48, .iadd, 1), (49, .istore 4, 2), (51, .iload 4, 2), (53, .iload_n 2, 1), (54, .if_icmp .ge 42, 3), (57, .iload 4, 2), (59, .bipush 32, 2), (61, .if_icmp .ge 35, 3), (64, .aload_n 0, 1), (65, .getfield 7, 3), (68, .iload 4, 2), (70, .iaload, 1), (71, .bipush 11, 2), (73, .if_icmp .ne 17, 3), (76, .iload_n 3, 1), (77, .iconst 1, 1), (78, .aload_n 0, 1), (79, .getfield 13, 3), (82, .iload 4, 2), (84, .iaload, 1), (85, .iconst 3, 1), (86, .iand, 1), (87, .ishl, 1), (88, .ior, 1), (89, .istore_n 3, 1), (90, .iinc 4 1, 3), (93, .goto (-42), 3), (96, .aload_n 0, 1), (97, .getfield 64, 3), (100, .iload_n 1, 1), (101, .iload_n 3, 1), (102, .iastore, 1), (103, .iinc 1 1, 3), (106, .goto (-104), 3), (109, .return_, 1)]
theorem D12 : decs prog_1_method_26_code c12 = true := by decide +kernel
theorem d12 (k : Nat) {p : Nat} {i : Instr} {n : Nat} (h : c12[k]? = some (p, i, n)) : decode prog_1_method_26_code p = .ok (i, n) := dget D12 h
def c19 : List (Nat × Instr × Nat) := [(0, .aload_n 0, 1), (1, .getfield 165, 3), (4, .ifCond .lt 13, 3), (7, .aload_n 0, 1), (8, .getfield 165, 3), (11, .sipush 1024, 3), (14, .if_icmp .lt 11, 3), (17, .aload_n 0, 1), (18, .iconst 1, 1), (19, .putfield 171, 3), (22, .bipush 32, 2), (24, .ireturn, 1), (25, .bipush 32, 2), (27, .aload_n 0, 1), (28, .getfield 165, 3), (31, .iadd, 1), (32, .istore 4, 2), (34, .aload_n 0, 1), (35, .getfield 31, 3), (38, .iload 4, 2), (40, .iload_n 1, 1), (41, .iastore, 1), (42, .aload_n 0, 1), (43, .getfield 34, 3), (46, .iload 4, 2), (48, .iload_n 2, 1), (49, .iastore, 1), (50, .aload_n 0, 1), (51, .getfield 37, 3), (54, .iload 4, 2), (56, .iload_n 3, 1), (57, .iastore, 1), (58, .aload_n 0, 1), (59, .getfield 40, 3), (62, .iload 4, 2), (64, .iconst 0, 1), (65, .iastore, 1), (66, .aload_n 0, 1), (67, .dup, 1), (68, .getfield 165, 3), (71, .iconst 1, 1), (72, .iadd, 1), (73, .putfield 165, 3), (76, .iload 4, 2), (78, .ireturn, 1)]
theorem D19 : decs prog_1_method_31_code c19 = true := by decide +kernel
theorem d19 (k : Nat) {p : Nat} {i : Instr} {n : Nat} (h : c19[k]? = some (p, i, n)) : decode prog_1_method_31_code p = .ok (i, n) := dget D19 h
def c18 : List (Nat × Instr × Nat) := [(0, .iload_n 1, 1), (1, .ldc_w 326, 3), (4, .imul, 1), (5, .iload_n 2, 1), (6, .ldc_w 327, 3), (9, .imul, 1), (10, .iadd, 1), (11, .istore 4, 2), (13, .iload 4, 2), (15, .iload_n 3, 1), (16, .ldc_w 328, 3), (19, .imul, 1), (20, .ixor, 1), (21, .istore 4, 2), (23, .iload 4, 2), (25, .iload 4, 2), (27, .bipush 15, 2), (29, .iushr, 1), (30, .ixor, 1), (31, .istore 4, 2), (33, .iload 4, 2), (35, .ldc_w 329, 3), (38, .imul, 1), (39, .istore 4, 2), (41, .iload 4, 2), (43, .iload 4, 2), (45, .bipush 13, 2), (47, .iushr, 1), (48, .ixor, 1), (49, .istore 4, 2), (51, .iload 4, 2), (53, .sipush 2047, 3), (56, .iand, 1), (57, .ireturn, 1)]
theorem D18 : decs prog_1_method_68_code c18 = true := by decide +kernel
theorem d18 (k : Nat) {p : Nat} {i : Instr} {n : Nat} (h : c18[k]? = some (p, i, n)) : decode prog_1_method_68_code p = .ok (i, n) := dget D18 h
def c17 : List (Nat × Instr × Nat) := [(0, .aload_n 0, 1), (1, .iload_n 1, 1), (2, .iload_n 2, 1), (3, .iload_n 3, 1), (4, .invokevirtual 330, 3), (7, .istore 4, 2), (9, .aload_n 0, 1), (10, .iconst (-1), 1), (11, .putfield 114, 3), (14, .iconst 0, 1), (15, .istore 5, 2), (17, .iload 5, 2), (19, .sipush 2048, 3), (22, .if_icmp .ge 79, 3), (25, .iload 4, 2), (27, .iload 5, 2), (29, .iadd, 1), (30, .sipush 2047, 3), (33, .iand, 1), (34, .istore 6, 2), (36, .aload_n 0, 1), (37, .getfield 104, 3), (40, .iload 6, 2), (42, .baload, 1), (43, .ifCond .ne 11, 3), (46, .aload_n 0, 1), (47, .iload 6, 2), (49, .putfield 114, 3), (52, .iconst (-1), 1), (53, .ireturn, 1), (54, .aload_n 0, 1), (55, .getfield 92, 3), (58, .iload 6, 2), (60, .iaload, 1), (61, .iload_n 1, 1), (62, .if_icmp .ne 33, 3), (65, .aload_n 0, 1), (66, .getfield 95, 3), (69, .iload 6, 2), (71, .iaload, 1), (72, .iload_n 2, 1), (73, .if_icmp .ne 22, 3), (76, .aload_n 0, 1), (77, .getfield 98, 3), (80, .iload 6, 2), (82, .iaload, 1), (83, .iload_n 3, 1), (84, .if_icmp .ne 11, 3), (87, .aload_n 0, 1), (88, .getfield 101, 3), (91, .iload 6, 2), (93, .iaload, 1), (94, .ireturn, 1), (95, .iinc 5 1, 3), (98, .goto (-81), 3), (101, .iconst (-1), 1), (102, .ireturn, 1)]
theorem D17 : decs prog_1_method_69_code c17 = true := by decide +kernel
theorem d17 (k : Nat) {p : Nat} {i : Instr} {n : Nat} (h : c17[k]? = some (p, i, n)) : decode prog_1_method_69_code p = .ok (i, n) := dget D17 h
def c20 : List (Nat × Instr × Nat) := [(0, .aload_n 0, 1), (1, .getfield 114, 3), (4, .istore 5, 2), (6, .aload_n 0, 1), (7, .iconst (-1), 1), (8, .putfield 114, 3), (11, .iload 5, 2), (13, .ifCond .lt 28, 3), (16, .iload 5, 2), (18, .sipush 2048, 3), (21, .if_icmp .ge 20, 3), (24, .aload_n 0, 1), (25, .getfield 205, 3), (28, .ifCond .lt 13, 3), (31, .aload_n 0, 1), (32, .getfield 205, 3), (35, .sipush 1024, 3), (38, .if_icmp .lt 4, 3), (41, .return_, 1), (42, .aload_n 0, 1), (43, .getfield 92, 3), (46, .iload 5, 2), (48, .iload_n 1, 1), (49, .iastore, 1), (50, .aload_n 0, 1), (51, .getfield 95, 3), (54, .iload 5, 2), (56, .iload_n 2, 1), (57, .iastore, 1), (58, .aload_n 0, 1), (59, .getfield 98, 3), (62, .iload 5, 2), (64, .iload_n 3, 1), (65, .iastore, 1), (66, .aload_n 0, 1), (67, .getfield 101, 3), (70, .iload 5, 2), (72, .iload 4, 2), (74, .iastore, 1), (75, .aload_n 0, 1), (76, .getfield 104, 3), (79, .iload 5, 2), (81, .iconst 1, 1), (82, .bastore, 1), (83, .aload_n 0, 1), (84, .getfield 107, 3), (87, .aload_n 0, 1), (88, .getfield 205, 3), (91, .iload 5, 2), (93, .iastore, 1), (94, .aload_n 0, 1), (95, .dup, 1), (96, .getfield 205, 3), (99, .iconst 1, 1), (100, .iadd, 1), (101, .putfield 205, 3), (104, .return_, 1)]
theorem D20 : decs prog_1_method_70_code c20 = true := by decide +kernel
theorem d20 (k : Nat) {p : Nat} {i : Instr} {n : Nat} (h : c20[k]? = some (p, i, n)) : decode prog_1_method_70_code p = .ok (i, n) := dget D20 h
def c16 : List (Nat × Instr × Nat) := [(0, .aload_n 0, 1), (1, .iload_n 1, 1), (2, .iload_n 2, 1), (3, .iload_n 3, 1), (4, .invokevirtual 234, 3), (7, .istore 5, 2), (9, .iload 5, 2), (11, .ifCond .lt 6, 3), (14, .iload 5, 2), (16, .ireturn, 1), (17, .aload_n 0, 1), (18, .iload_n 1, 1), (19, .iload_n 2, 1), (20, .iconst 0, 1), (21, .invokevirtual 199, 3), (24, .istore 6, 2), (26, .aload_n 0, 1), (27, .getfield 40, 3), (30, .iload 6, 2), (32, .iload 4, 2), (34, .iastore, 1), (35, .aload_n 0, 1), (36, .iload_n 1, 1), (37, .iload_n 2, 1), (38, .iload_n 3, 1), (39, .iload 6, 2), (41, .invokevirtual 237, 3), (44, .iload 6, 2), (46, .ireturn, 1)]
theorem D16 : decs prog_1_method_36_code c16 = true := by decide +kernel
theorem d16 (k : Nat) {p : Nat} {i : Instr} {n : Nat} (h : c16[k]? = some (p, i, n)) : decode prog_1_method_36_code p = .ok (i, n) := dget D16 h
def c15 : List (Nat × Instr × Nat) := [(0, .aload_n 0, 1), (1, .iconst 1, 1), (2, .iload_n 1, 1), (3, .iconst 0, 1), (4, .iconst 0, 1), (5, .invokevirtual 211, 3), (8, .ireturn, 1)]
theorem D15 : decs prog_1_method_35_code c15 = true := by decide +kernel
theorem d15 (k : Nat) {p : Nat} {i : Instr} {n : Nat} (h : c15[k]? = some (p, i, n)) : decode prog_1_method_35_code p = .ok (i, n) := dget D15 h
def c14 : List (Nat × Instr × Nat) := [(0, .aload_n 0, 1), (1, .getfield 7, 3), (4, .iload_n 1, 1), (5, .iaload, 1), (6, .istore_n 2, 1), (7, .aload_n 0, 1), (8, .getfield 13, 3), (11, .iload_n 1, 1), (12, .iaload, 1), (13, .istore_n 3, 1), (14, .iload_n 2, 1), (15, .iconst 1, 1), (16, .if_icmp .ne 9, 3), (19, .aload_n 0, 1), (20, .iload_n 3, 1), (21, .invokevirtual 208, 3), (24, .ireturn, 1), (25, .iload_n 2, 1), (26, .iconst 2, 1), (27, .if_icmp .ne 15, 3), (30, .aload_n 0, 1), (31, .iconst 2, 1), (32, .iload_n 3, 1), (33, .bipush 7, 2), (35, .iand, 1), (36, .iconst 0, 1), (37, .iconst 1, 1), (38, .invokevirtual 211, 3), (41, .ireturn, 1), (42, .iload_n 2, 1), (43, .iconst 3, 1), (44, .if_icmp .ne 35, 3), (47, .iconst 2, 1), (48, .aload_n 0, 1), (49, .getfield 174, 3), (52, .bipush 64, 2), (54, .imul, 1), (55, .iadd, 1), (56, .iload_n 1, 1), (57, .iadd, 1), (58, .istore 4, 2), (60, .aload_n 0, 1), (61, .iconst 3, 1), (62, .iload_n 3, 1), (63, .iconst 3, 1), (64, .iand, 1), (65, .aload_n 0, 1), (66, .getfield 67, 3), (69, .iload_n 3, 1), (70, .iconst 3, 1), (71, .iand, 1), (72, .iaload, 1), (73, .iload 4, 2), (75, .invokevirtual 211, 3), (78, .ireturn, 1), (79, .aload_n 0, 1), (80, .iload_n 2, 1), (81, .invokevirtual 215, 3), (84, .istore 4, 2), (86, .aload_n 0, 1), (87, .iload_n 1, 1), (88, .iload 4, 2), (90, .invokevirtual 218, 3), (93, .ifCond .ne 8, 3), (96, .aload_n 0, 1), (97, .iload_n 1, 1), (98, .invokevirtual 221, 3), (101, .aload_n 0, 1), (102, .invokevirtual 224, 3), (105, .iload 4, 2), (107, .iconst 4, 1), (108, .if_icmp .ne 8, 3), (111, .aload_n 0, 1), (112, .invokevirtual 227, 3), (115, .ireturn, 1), (116, .aload_n 0, 1), (117, .iload 4, 2), (119, .invokevirtual 231, 3), (122, .ireturn, 1)]
theorem D14 : decs prog_1_method_33_code c14 = true := by decide +kernel
theorem d14 (k : Nat) {p : Nat} {i : Instr} {n : Nat} (h : c14[k]? = some (p, i, n)) : decode prog_1_method_33_code p = .ok (i, n) := dget D14 h
def c13 : List (Nat × Instr × Nat) := [(0, .aload_n 0, 1), (1, .getfield 7, 3), (4, .iload_n 1, 1), (5, .iaload, 1), (6, .istore_n 2, 1), (7, .iload_n 2, 1), (8, .bipush 13, 2), (10, .if_icmp .ne 11, 3), (13, .aload_n 0, 1), (14, .iload_n 1, 1), (15, .invokevirtual 186, 3), (18, .goto 70, 3), (21, .iload_n 2, 1), (22, .bipush 14, 2), (24, .if_icmp .ne 10, 3), (27, .aload_n 0, 1), (28, .invokevirtual 189, 3), (31, .goto 57, 3), (34, .iload_n 2, 1), (35, .bipush 11, 2), (37, .if_icmp .ne 11, 3), (40, .aload_n 0, 1), (41, .iload_n 1, 1), (42, .invokevirtual 192, 3), (45, .goto 43, 3), (48, .iload_n 2, 1), (49, .bipush 12, 2), (51, .if_icmp .ne 26, 3), (54, .aload_n 0, 1), (55, .aload_n 0, 1), (56, .getfield 13, 3), (59, .iload_n 1, 1), (60, .iaload, 1), (61, .invokevirtual 195, 3), (64, .istore_n 3, 1), (65, .aload_n 0, 1), (66, .bipush 12, 2), (68, .iload_n 3, 1), (69, .iconst 0, 1), (70, .invokevirtual 199, 3), (73, .pop, 1), (74, .goto 14, 3), (77, .aload_n 0, 1), (78, .getfield 61, 3), (81, .iload_n 1, 1), (82, .aload_n 0, 1), (83, .iload_n 1, 1), (84, .invokevirtual 202, 3), (87, .iastore, 1), (88, .return_, 1)]
theorem D13 : decs prog_1_method_27_code c13 = true := by decide +kernel
theorem d13 (k : Nat) {p : Nat} {i : Instr} {n : Nat} (h : c13[k]? = some (p, i, n)) : decode prog_1_method_27_code p = .ok (i, n) := dget D13 h
def c10 : List (Nat × Instr × Nat) := [(0, .aload_n 0, 1), (1, .iconst 0, 1), (2, .invokevirtual 168, 3), (5, .aload_n 0, 1), (6, .iconst 0, 1), (7, .putfield 165, 3), (10, .aload_n 0, 1), (11, .iconst 0, 1), (12, .putfield 171, 3), (15, .aload_n 0, 1), (16, .iconst 0, 1), (17, .putfield 174, 3), (20, .iconst 0, 1), (21, .istore_n 1, 1), (22, .iload_n 1, 1), (23, .iconst 4, 1), (24, .if_icmp .ge 16, 3), (27, .aload_n 0, 1), (28, .getfield 67, 3), (31, .iload_n 1, 1), (32, .iconst 0, 1), (33, .iastore, 1), (34, .iinc 1 1, 3), (37, .goto (-15), 3), (40, .iconst 0, 1), (41, .istore_n 1, 1), (42, .iload_n 1, 1), (43, .bipush 32, 2), (45, .if_icmp .ge 17, 3), (48, .aload_n 0, 1), (49, .getfield 61, 3), (52, .iload_n 1, 1), (53, .bipush 32, 2), (55, .iastore, 1), (56, .iinc 1 1, 3), (59, .goto (-17), 3), (62, .aload_n 0, 1), (63, .invokevirtual 177, 3), (66, .iconst 0, 1), (67, .istore_n 1, 1), (68, .iload_n 1, 1), (69, .aload_n 0, 1), (70, .getfield 117, 3), (73, .if_icmp .ge 20, 3), (76, .iload_n 1, 1), (77, .bipush 32, 2), (79, .if_icmp .ge 14, 3), (82, .aload_n 0, 1), (83, .iload_n 1, 1), (84, .invokevirtual 180, 3), (87, .iinc 1 1, 3), (90, .goto (-22), 3), (93, .aload_n 0, 1), (94, .iconst 0, 1), (95, .invokevirtual 168, 3), (98, .aload_n 0, 1), (99, .getfield 171, 3), (102, .ifCond .eq 7, 3), (105, .aload_n 0, 1), (106, .invokevirtual 183, 3), (109, .return_, 1)]
theorem D10 : decs prog_1_method_25_code c10 = true := by decide +kernel
theorem d10 (k : Nat) {p : Nat} {i : Instr} {n : Nat} (h : c10[k]? = some (p, i, n)) : decode prog_1_method_25_code p = .ok (i, n) := dget D10 h
def c8 : List (Nat × Instr × Nat) := [(0, .aload_n 0, 1), (1, .getfield 117, 3), (4, .ifCond .ne 6, 3), (7, .bipush (-6), 2), (9, .ireturn, 1), (10, .aload_n 0, 1), (11, .getfield 128, 3), (14, .ifCond .eq 6, 3), (17, .bipush (-7), 2), (19, .ireturn, 1), (20, .aload_n 0, 1), (21, .getfield 148, 3), (24, .ifCond .eq 5, 3), (27, .iconst 0, 1), (28, .ireturn, 1), (29, .aload_n 0, 1), (30, .invokevirtual 152, 3), (33, .aload_n 0, 1), (34, .invokevirtual 155, 3), (37, .aload_n 0, 1), (38, .iconst 1, 1), (39, .putfield 148, 3), (42, .iconst 0, 1), (43, .ireturn, 1)]
theorem D8 : decs prog_1_method_17_code c8 = true := by decide +kernel
theorem d8 (k : Nat) {p : Nat} {i : Instr} {n : Nat} (h : c8[k]? = some (p, i, n)) : decode prog_1_method_17_code p = .ok (i, n) := dget D8 h
def c21 : List (Nat × Instr × Nat) := [(0, .iload_n 1, 1), (1, .ifCond .lt 9, 3), (4, .iload_n 1, 1), (5, .bipush 8, 2), (7, .if_icmp .lt 5, 3), (10, .iconst 0, 1), (11, .ireturn, 1), (12, .aload_n 0, 1), (13, .getfield 28, 3), (16, .iload_n 1, 1), (17, .iload_n 2, 1), (18, .iastore, 1), (19, .iconst 1, 1), (20, .ireturn, 1)]
theorem D21 : decs prog_1_method_15_code c21 = true := by decide +kernel
theorem d21 (k : Nat) {p : Nat} {i : Instr} {n : Nat} (h : c21[k]? = some (p, i, n)) : decode prog_1_method_15_code p = .ok (i, n) := dget D21 h
def c22 : List (Nat × Instr × Nat) := [(0, .aload_n 0, 1), (1, .getfield 148, 3), (4, .ireturn, 1)]
theorem D22 : decs prog_1_method_18_code c22 = true := by decide +kernel
theorem d22 (k : Nat) {p : Nat} {i : Instr} {n : Nat} (h : c22[k]? = some (p, i, n)) : decode prog_1_method_18_code p = .ok (i, n) := dget D22 h
def c23 : List (Nat × Instr × Nat) := [(0, .iload_n 1, 1), (1, .ifCond .lt 9, 3), (4, .iload_n 1, 1), (5, .bipush 8, 2), (7, .if_icmp .lt 5, 3), (10, .iconst 0, 1), (11, .ireturn, 1), (12, .aload_n 0, 1), (13, .getfield 28, 3), (16, .iload_n 1, 1), (17, .iaload, 1), (18, .ireturn, 1)]
theorem D23 : decs prog_1_method_16_code c23 = true := by decide +kernel
theorem d23 (k : Nat) {p : Nat} {i : Instr} {n : Nat} (h : c23[k]? = some (p, i, n)) : decode prog_1_method_16_code p = .ok (i, n) := dget D23 h
def c24 : List (Nat × Instr × Nat) := [(0, .aload_n 0, 1), (1, .getfield 117, 3), (4, .ireturn, 1)]
theorem D24 : decs prog_1_method_12_code c24 = true := by decide +kernel
theorem d24 (k : Nat) {p : Nat} {i : Instr} {n : Nat} (h : c24[k]? = some (p, i, n)) : decode prog_1_method_12_code p = .ok (i, n) := dget D24 h
def c25 : List (Nat × Instr × Nat) := [(0, .iload_n 1, 1), (1, .ifCond .lt 17, 3), (4, .iload_n 1, 1), (5, .aload_n 0, 1), (6, .getfield 117, 3), (9, .if_icmp .ge 9, 3), (12, .iload_n 1, 1), (13, .bipush 32, 2), (15, .if_icmp .lt 5, 3), (18, .iconst 0, 1), (19, .ireturn, 1), (20, .iload_n 2, 1), (21, .ifCond .ne 10, 3), (24, .aload_n 0, 1), (25, .getfield 7, 3), (28, .iload_n 1, 1), (29, .iaload, 1), (30, .ireturn, 1), (31, .iload_n 2, 1), (32, .iconst 1, 1), (33, .if_icmp .ne 10, 3), (36, .aload_n 0, 1), (37, .getfield 13, 3), (40, .iload_n 1, 1), (41, .iaload, 1), (42, .ireturn, 1), (43, .iload_n 2, 1), (44, .iconst 2, 1), (45, .if_icmp .ne 10, 3), (48, .aload_n 0, 1), (49, .getfield 16, 3), (52, .iload_n 1, 1), (53, .iaload, 1), (54, .ireturn, 1), (55, .iconst 0, 1), (56, .ireturn, 1)]
theorem D25 : decs prog_1_method_14_code c25 = true := by decide +kernel
theorem d25 (k : Nat) {p : Nat} {i : Instr} {n : Nat} (h : c25[k]? = some (p, i, n)) : decode prog_1_method_14_code p = .ok (i, n) := dget D25 h
def H0 : MHeap := []
def KL (s : St) : MHeap := KH flds al Ln H0 [] s
def f_ctor_294 (x2 : Int32) (s : St) : Option (St) :=
  bnd (setI s 33 x2) fun s1 =>
  bnd (setI s1 34 (-1 : Int32)) fun s2 =>
  some s2
set_option maxRecDepth 100000 in
theorem e_ctor_294 {g : GT} (hw : HW g) {K : St → MHeap} {o : Nat} {r : Nat → Nat} (V : View (GG g) Ln K o r) (x2 : Int32) (s : St) (y1 : Slot) (hy1 : one1 y1 = true) (w : St) (hr : f_ctor_294 x2 s = some w) : Ev (GG g) M_ctor 294 [.val (.ref o), y1, .val (.int x2)] [] (K s) (none, (K w)) := by
  unfold f_ctor_294 at hr
  refine Ev.aloadN (d0 146 rfl) rfl ?_
  refine Ev.iloadN (d0 147 rfl) rfl ?_
  refine Ev.pI V (gok hw) (ww hw 77 rfl) (Or.inl (ww hw 78 rfl)) (d0 148 rfl) (j := 33) rfl ?_
  revert hr
  generalize setI s 33 x2 = s1
  intro hr
  replace hr := (bnd_eq _ _).symm.trans hr
  refine Ev.aloadN (d0 149 rfl) rfl ?_
  refine Ev.iconst (z := -1) (d0 150 rfl) rfl ?_
  refine Ev.pI V (gok hw) (ww hw 79 rfl) (Or.inl (ww hw 80 rfl)) (d0 151 rfl) (j := 34) rfl ?_
  revert hr
  generalize setI s1 34 (-1 : Int32) = s2
  intro hr
  replace hr := (bnd_eq _ _).symm.trans hr
  cases hr
  exact Ev.vreturn rfl (d0 152 rfl)
def f_ctor_285 (x2 : Int32) (s : St) : Option (St) :=
  if (32 : Int32) < x2 then
    f_ctor_294 (32 : Int32) s
  else
    f_ctor_294 x2 s
set_option maxRecDepth 100000 in
theorem e_ctor_285 {g : GT} (hw : HW g) {K : St → MHeap} {o : Nat} {r : Nat → Nat} (V : View (GG g) Ln K o r) (x2 : Int32) (s : St) (y1 : Slot) (hy1 : one1 y1 = true) (w : St) (hr : f_ctor_285 x2 s = some w) : Ev (GG g) M_ctor 285 [.val (.ref o), y1, .val (.int x2)] [] (K s) (none, (K w)) := by
  unfold f_ctor_285 at hr
  refine Ev.iloadN (d0 141 rfl) rfl ?_
  refine Ev.bipush (z := 32) (d0 142 rfl) rfl ?_
  refine Ev.icle (t := 294) (d0 143 rfl) rfl (fun c1 => ?_) (fun c1 => ?_)
  · replace hr := (if_pos c1).symm.trans hr
    refine Ev.bipush (z := 32) (d0 144 rfl) rfl ?_
    refine Ev.istDN (L' := [.val (.ref o), y1, .val (.int (32 : Int32))]) (d0 145 rfl) rfl rfl rfl ?_
    exact e_ctor_294 hw V  (32 : Int32) s y1 hy1 _ hr
  · replace hr := (if_neg c1).symm.trans hr
    exact e_ctor_294 hw V  x2 s y1 hy1 _ hr
def f_ctor_274 (x1 : Int32) (s : St) : Option (St) :=
  if x1 < (8 : Int32) then
    f_ctor_285 (8 : Int32) s
  else
    f_ctor_285 x1 s
set_option maxRecDepth 100000 in
theorem e_ctor_274 {g : GT} (hw : HW g) {K : St → MHeap} {o : Nat} {r : Nat → Nat} (V : View (GG g) Ln K o r) (x1 : Int32) (s : St) (y2 : Slot) (hy2 : one1 y2 = true) (w : St) (hr : f_ctor_274 x1 s = some w) : Ev (GG g) M_ctor 274 [.val (.ref o), .val (.int x1), y2] [] (K s) (none, (K w)) := by
  unfold f_ctor_274 at hr
  refine Ev.iloadN (d0 134 rfl) rfl ?_
  refine Ev.istDN (L' := [.val (.ref o), .val (.int x1), .val (.int x1)]) (d0 135 rfl) rfl hy2 rfl ?_
  refine Ev.iloadN (d0 136 rfl) rfl ?_
  refine Ev.bipush (z := 8) (d0 137 rfl) rfl ?_
  refine Ev.icge (t := 285) (d0 138 rfl) rfl (fun c1 => ?_) (fun c1 => ?_)
  · replace hr := (if_pos c1).symm.trans hr
    refine Ev.bipush (z := 8) (d0 139 rfl) rfl ?_
    refine Ev.istDN (L' := [.val (.ref o), .val (.int x1), .val (.int (8 : Int32))]) (d0 140 rfl) rfl rfl rfl ?_
    exact e_ctor_285 hw V  (8 : Int32) s (.val (.int x1)) rfl _ hr
  · replace hr := (if_neg c1).symm.trans hr
    exact e_ctor_285 hw V  x1 s (.val (.int x1)) rfl _ hr
def f_ctor (a0 : Int32) : Option (St) :=
  f_ctor_274 a0 zeroS
set_option maxRecDepth 100000 in
theorem e_ctor {g : GT} {a0 : Int32} {w : St} (hw : HW g) {pre : MHeap} (hk : k0 (GG g) ≤ pre.length) (hr : f_ctor a0 = some w) : EvC (GG g) M_ctor [.ref pre.length, .int a0] (pre ++ [.inl dfl]) (none, KH flds al Ln pre [] w) := by
  refine EvC.enter (L0 := [.val (.ref pre.length), .val (.int a0), .unset]) pl_ctor (fun _ => rfl) rfl rfl ?_
  unfold f_ctor at hr
  refine Ev.aloadN (d0 0 rfl) rfl ?_
  refine Ev.initO (ww hw 6 rfl) (ww hw 7 rfl) (ww hw 8 rfl) (d0 1 rfl) (by decide) (Nat.le_of_ble_eq_true rfl) ?_
  show Ev (GG g) M_ctor 4 _ _ (cons pre dfl []) _
  refine Ev.aloadN (d0 2 rfl) rfl ?_
  refine Ev.bipush (z := 32) (d0 3 rfl) rfl ?_
  refine Ev.cnew (aty := .int) (b := false) (k := 32) (q := 0) (as' := [(false, tab 32 (fun _ => 0))]) (ww hw 9 rfl) rfl (d0 4 rfl) (by decide) rfl (by decide) rfl rfl ?_
  refine Ev.cput (v' := .ref (pre.length + 1 + 0)) (fs' := [.ref (pre.length + 1 + 0), .null, .null, .null, .null, .null, .null, .null, .null, .null, .null, .null, .null, .null, .null, .null, .null, .null, .null, .null, .null, .null, .null, .null, .null, .null, .null, .null, .null, .null, .null, .null, .null, .int 0, .int 0, .int 0, .int 0, .int 0, .int 0, .int 0, .int 0, .int 0, .int 0]) (gok hw) hk (ww hw 10 rfl) (Or.inr ⟨ww hw 11 rfl, rfl, rfl⟩) (d0 5 rfl) (j := 0) rfl rfl rfl ?_
  refine Ev.aloadN (d0 6 rfl) rfl ?_
  refine Ev.bipush (z := 32) (d0 7 rfl) rfl ?_
  refine Ev.cnew (aty := .int) (b := false) (k := 32) (q := 1) (as' := [(false, tab 32 (fun _ => 0)), (false, tab 32 (fun _ => 0))]) (ww hw 9 rfl) rfl (d0 8 rfl) (by decide) rfl (by decide) rfl rfl ?_
  refine Ev.cput (v' := .ref (pre.length + 1 + 1)) (fs' := [.ref (pre.length + 1 + 0), .ref (pre.length + 1 + 1), .null, .null, .null, .null, .null, .null, .null, .null, .null, .null, .null, .null, .null, .null, .null, .null, .null, .null, .null, .null, .null, .null, .null, .null, .null, .null, .null, .null, .null, .null, .null, .int 0, .int 0, .int 0, .int 0, .int 0, .int 0, .int 0, .int 0, .int 0, .int 0]) (gok hw) hk (ww hw 12 rfl) (Or.inr ⟨ww hw 13 rfl, rfl, rfl⟩) (d0 9 rfl) (j := 1) rfl rfl rfl ?_
  refine Ev.aloadN (d0 10 rfl) rfl ?_
  refine Ev.bipush (z := 32) (d0 11 rfl) rfl ?_
  refine Ev.cnew (aty := .int) (b := false) (k := 32) (q := 2) (as' := [(false, tab 32 (fun _ => 0)), (false, tab 32 (fun _ => 0)), (false, tab 32 (fun _ => 0))]) (ww hw 9 rfl) rfl (d0 12 rfl) (by decide) rfl (by decide) rfl rfl ?_
  refine Ev.cput (v' := .ref (pre.length + 1 + 2)) (fs' := [.ref (pre.length + 1 + 0), .ref (pre.length + 1 + 1), .ref (pre.length + 1 + 2), .null, .null, .null, .null, .null, .null, .null, .null, .null, .null, .null, .null, .null, .null, .null, .null, .null, .null, .null, .null, .null, .null, .null, .null, .null, .null, .null, .null, .null, .null, .int 0, .int 0, .int 0, .int 0, .int 0, .int 0, .int 0, .int 0, .int 0, .int 0]) (gok hw) hk (ww hw 14 rfl) (Or.inr ⟨ww hw 15 rfl, rfl, rfl⟩) (d0 13 rfl) (j := 2) rfl rfl rfl ?_
  refine Ev.aloadN (d0 14 rfl) rfl ?_
  refine Ev.bipush (z := 32) (d0 15 rfl) rfl ?_
  refine Ev.cnew (aty := .int) (b := false) (k := 32) (q := 3) (as' := [(false, tab 32 (fun _ => 0)), (false, tab 32 (fun _ => 0)), (false, tab 32 (fun _ => 0)), (false, tab 32 (fun _ => 0))]) (ww hw 9 rfl) rfl (d0 16 rfl) (by decide) rfl (by decide) rfl rfl ?_
  refine Ev.cput (v' := .ref (pre.length + 1 + 3)) (fs' := [.ref (pre.length + 1 + 0), .ref (pre.length + 1 + 1), .ref (pre.length + 1 + 2), .ref (pre.length + 1 + 3), .null, .null, .null, .null, .null, .null, .null, .null, .null, .null, .null, .null, .null, .null, .null, .null, .null, .null, .null, .null, .null, .null, .null, .null, .null, .null, .null, .null, .null, .int 0, .int 0, .int 0, .int 0, .int 0, .int 0, .int 0, .int 0, .int 0, .int 0]) (gok hw) hk (ww hw 16 rfl) (Or.inr ⟨ww hw 17 rfl, rfl, rfl⟩) (d0 17 rfl) (j := 3) rfl rfl rfl ?_
  refine Ev.aloadN (d0 18 rfl) rfl ?_
  refine Ev.bipush (z := 32) (d0 19 rfl) rfl ?_
  refine Ev.cnew (aty := .int) (b := false) (k := 32) (q := 4) (as' := [(false, tab 32 (fun _ => 0)), (false, tab 32 (fun _ => 0)), (false, tab 32 (fun _ => 0)), (false, tab 32 (fun _ => 0)), (false, tab 32 (fun _ => 0))]) (ww hw 9 rfl) rfl (d0 20 rfl) (by decide) rfl (by decide) rfl rfl ?_
  refine Ev.cput (v' := .ref (pre.length + 1 + 4)) (fs' := [.ref (pre.length + 1 + 0), .ref (pre.length + 1 + 1), .ref (pre.length + 1 + 2), .ref (pre.length + 1 + 3), .ref (pre.length + 1 + 4), .null, .null, .null, .null, .null, .null, .null, .null, .null, .null, .null, .null, .null, .null, .null, .null, .null, .null, .null, .null, .null, .null, .null, .null, .null, .null, .null, .null, .int 0, .int 0, .int 0, .int 0, .int 0, .int 0, .int 0, .int 0, .int 0, .int 0]) (gok hw) hk (ww hw 18 rfl) (Or.inr ⟨ww hw 19 rfl, rfl, rfl⟩) (d0 21 rfl) (j := 4) rfl rfl rfl ?_
  refine Ev.aloadN (d0 22 rfl) rfl ?_
  refine Ev.iconst (z := 3) (d0 23 rfl) rfl ?_
  refine Ev.cnew (aty := .int) (b := false) (k := 3) (q := 5) (as' := [(false, tab 32 (fun _ => 0)), (false, tab 32 (fun _ => 0)), (false, tab 32 (fun _ => 0)), (false, tab 32 (fun _ => 0)), (false, tab 32 (fun _ => 0)), (false, tab 3 (fun _ => 0))]) (ww hw 9 rfl) rfl (d0 24 rfl) (by decide) rfl (by decide) rfl rfl ?_
  refine Ev.cput (v' := .ref (pre.length + 1 + 5)) (fs' := [.ref (pre.length + 1 + 0), .ref (pre.length + 1 + 1), .ref (pre.length + 1 + 2), .ref (pre.length + 1 + 3), .ref (pre.length + 1 + 4), .ref (pre.length + 1 + 5), .null, .null, .null, .null, .null, .null, .null, .null, .null, .null, .null, .null, .null, .null, .null, .null, .null, .null, .null, .null, .null, .null, .null, .null, .null, .null, .null, .int 0, .int 0, .int 0, .int 0, .int 0, .int 0, .int 0, .int 0, .int 0, .int 0]) (gok hw) hk (ww hw 20 rfl) (Or.inr ⟨ww hw 21 rfl, rfl, rfl⟩) (d0 25 rfl) (j := 5) rfl rfl rfl ?_
  refine Ev.aloadN (d0 26 rfl) rfl ?_
  refine Ev.bipush (z := 8) (d0 27 rfl) rfl ?_
  refine Ev.cnew (aty := .int) (b := false) (k := 8) (q := 6) (as' := [(false, tab 32 (fun _ => 0)), (false, tab 32 (fun _ => 0)), (false, tab 32 (fun _ => 0)), (false, tab 32 (fun _ => 0)), (false, tab 32 (fun _ => 0)), (false, tab 3 (fun _ => 0)), (false, tab 8 (fun _ => 0))]) (ww hw 9 rfl) rfl (d0 28 rfl) (by decide) rfl (by decide) rfl rfl ?_
  refine Ev.cput (v' := .ref (pre.length + 1 + 6)) (fs' := [.ref (pre.length + 1 + 0), .ref (pre.length + 1 + 1), .ref (pre.length + 1 + 2), .ref (pre.length + 1 + 3), .ref (pre.length + 1 + 4), .ref (pre.length + 1 + 5), .ref (pre.length + 1 + 6), .null, .null, .null, .null, .null, .null, .null, .null, .null, .null, .null, .null, .null, .null, .null, .null, .null, .null, .null, .null, .null, .null, .null, .null, .null, .null, .int 0, .int 0, .int 0, .int 0, .int 0, .int 0, .int 0, .int 0, .int 0, .int 0]) (gok hw) hk (ww hw 22 rfl) (Or.inr ⟨ww hw 23 rfl, rfl, rfl⟩) (d0 29 rfl) (j := 6) rfl rfl rfl ?_
  refine Ev.aloadN (d0 30 rfl) rfl ?_
  refine Ev.sipush (z := 1056) (d0 31 rfl) rfl ?_
  refine Ev.cnew (aty := .int) (b := false) (k := 1056) (q := 7) (as' := [(false, tab 32 (fun _ => 0)), (false, tab 32 (fun _ => 0)), (false, tab 32 (fun _ => 0)), (false, tab 32 (fun _ => 0)), (false, tab 32 (fun _ => 0)), (false, tab 3 (fun _ => 0)), (false, tab 8 (fun _ => 0)), (false, tab 1056 (fun _ => 0))]) (ww hw 9 rfl) rfl (d0 32 rfl) (by decide) rfl (by decide) rfl rfl ?_
  refine Ev.cput (v' := .ref (pre.length + 1 + 7)) (fs' := [.ref (pre.length + 1 + 0), .ref (pre.length + 1 + 1), .ref (pre.length + 1 + 2), .ref (pre.length + 1 + 3), .ref (pre.length + 1 + 4), .ref (pre.length + 1 + 5), .ref (pre.length + 1 + 6), .ref (pre.length + 1 + 7), .null, .null, .null, .null, .null, .null, .null, .null, .null, .null, .null, .null, .null, .null, .null, .null, .null, .null, .null, .null, .null, .null, .null, .null, .null, .int 0, .int 0, .int 0, .int 0, .int 0, .int 0, .int 0, .int 0, .int 0, .int 0]) (gok hw) hk (ww hw 24 rfl) (Or.inr ⟨ww hw 25 rfl, rfl, rfl⟩) (d0 33 rfl) (j := 7) rfl rfl rfl ?_
  refine Ev.aloadN (d0 34 rfl) rfl ?_
  refine Ev.sipush (z := 1056) (d0 35 rfl) rfl ?_
  refine Ev.cnew (aty := .int) (b := false) (k := 1056) (q := 8) (as' := [(false, tab 32 (fun _ => 0)), (false, tab 32 (fun _ => 0)), (false, tab 32 (fun _ => 0)), (false, tab 32 (fun _ => 0)), (false, tab 32 (fun _ => 0)), (false, tab 3 (fun _ => 0)), (false, tab 8 (fun _ => 0)), (false, tab 1056 (fun _ => 0)), (false, tab 1056 (fun _ => 0))]) (ww hw 9 rfl) rfl (d0 36 rfl) (by decide) rfl (by decide) rfl rfl ?_
  refine Ev.cput (v' := .ref (pre.length + 1 + 8)) (fs' := [.ref (pre.length + 1 + 0), .ref (pre.length + 1 + 1), .ref (pre.length + 1 + 2), .ref (pre.length + 1 + 3), .ref (pre.length + 1 + 4), .ref (pre.length + 1 + 5), .ref (pre.length + 1 + 6), .ref (pre.length + 1 + 7), .ref (pre.length + 1 + 8), .null, .null, .null, .null, .null, .null, .null, .null, .null, .null, .null, .null, .null, .null, .null, .null, .null, .null, .null, .null, .null, .null, .null, .null, .int 0, .int 0, .int 0, .int 0, .int 0, .int 0, .int 0, .int 0, .int 0, .int 0]) (gok hw) hk (ww hw 26 rfl) (Or.inr ⟨ww hw 27 rfl, rfl, rfl⟩) (d0 37 rfl) (j := 8) rfl rfl rfl ?_
  refine Ev.aloadN (d0 38 rfl) rfl ?_
  refine Ev.sipush (z := 1056) (d0 39 rfl) rfl ?_
  refine Ev.cnew (aty := .int) (b := false) (k := 1056) (q := 9) (as' := [(false, tab 32 (fun _ => 0)), (false, tab 32 (fun _ => 0)), (false, tab 32 (fun _ => 0)), (false, tab 32 (fun _ => 0)), (false, tab 32 (fun _ => 0)), (false, tab 3 (fun _ => 0)), (false, tab 8 (fun _ => 0)), (false, tab 1056 (fun _ => 0)), (false, tab 1056 (fun _ => 0)), (false, tab 1056 (fun _ => 0))]) (ww hw 9 rfl) rfl (d0 40 rfl) (by decide) rfl (by decide) rfl rfl ?_
  refine Ev.cput (v' := .ref (pre.length + 1 + 9)) (fs' := [.ref (pre.length + 1 + 0), .ref (pre.length + 1 + 1), .ref (pre.length + 1 + 2), .ref (pre.length + 1 + 3), .ref (pre.length + 1 + 4), .ref (pre.length + 1 + 5), .ref (pre.length + 1 + 6), .ref (pre.length + 1 + 7), .ref (pre.length + 1 + 8), .ref (pre.length + 1 + 9), .null, .null, .null, .null, .null, .null, .null, .null, .null, .null, .null, .null, .null, .null, .null, .null, .null, .null, .null, .null, .null, .null, .null, .int 0, .int 0, .int 0, .int 0, .int 0, .int 0, .int 0, .int 0, .int 0, .int 0]) (gok hw) hk (ww hw 28 rfl) (Or.inr ⟨ww hw 29 rfl, rfl, rfl⟩) (d0 41 rfl) (j := 9) rfl rfl rfl ?_
  refine Ev.aloadN (d0 42 rfl) rfl ?_
  refine Ev.sipush (z := 1056) (d0 43 rfl) rfl ?_
  refine Ev.cnew (aty := .int) (b := false) (k := 1056) (q := 10) (as' := [(false, tab 32 (fun _ => 0)), (false, tab 32 (fun _ => 0)), (false, tab 32 (fun _ => 0)), (false, tab 32 (fun _ => 0)), (false, tab 32 (fun _ => 0)), (false, tab 3 (fun _ => 0)), (false, tab 8 (fun _ => 0)), (false, tab 1056 (fun _ => 0)), (false, tab 1056 (fun _ => 0)), (false, tab 1056 (fun _ => 0)), (false, tab 1056 (fun _ => 0))]) (ww hw 9 rfl) rfl (d0 44 rfl) (by decide) rfl (by decide) rfl rfl ?_
  refine Ev.cput (v' := .ref (pre.length + 1 + 10)) (fs' := [.ref (pre.length + 1 + 0), .ref (pre.length + 1 + 1), .ref (pre.length + 1 + 2), .ref (pre.length + 1 + 3), .ref (pre.length + 1 + 4), .ref (pre.length + 1 + 5), .ref (pre.length + 1 + 6), .ref (pre.length + 1 + 7), .ref (pre.length + 1 + 8), .ref (pre.length + 1 + 9), .ref (pre.length + 1 + 10), .null, .null, .null, .null, .null, .null, .null, .null, .null, .null, .null, .null, .null, .null, .null, .null, .null, .null, .null, .null, .null, .null, .int 0, .int 0, .int 0, .int 0, .int 0, .int 0, .int 0, .int 0, .int 0, .int 0]) (gok hw) hk (ww hw 30 rfl) (Or.inr ⟨ww hw 31 rfl, rfl, rfl⟩) (d0 45 rfl) (j := 10) rfl rfl rfl ?_
  refine Ev.aloadN (d0 46 rfl) rfl ?_
  refine Ev.sipush (z := 1056) (d0 47 rfl) rfl ?_
  refine Ev.cnew (aty := .int) (b := false) (k := 1056) (q := 11) (as' := [(false, tab 32 (fun _ => 0)), (false, tab 32 (fun _ => 0)), (false, tab 32 (fun _ => 0)), (false, tab 32 (fun _ => 0)), (false, tab 32 (fun _ => 0)), (false, tab 3 (fun _ => 0)), (false, tab 8 (fun _ => 0)), (false, tab 1056 (fun _ => 0)), (false, tab 1056 (fun _ => 0)), (false, tab 1056 (fun _ => 0)), (false, tab 1056 (fun _ => 0)), (false, tab 1056 (fun _ => 0))]) (ww hw 9 rfl) rfl (d0 48 rfl) (by decide) rfl (by decide) rfl rfl ?_
  refine Ev.cput (v' := .ref (pre.length + 1 + 11)) (fs' := [.ref (pre.length + 1 + 0), .ref (pre.length + 1 + 1), .ref (pre.length + 1 + 2), .ref (pre.length + 1 + 3), .ref (pre.length + 1 + 4), .ref (pre.length + 1 + 5), .ref (pre.length + 1 + 6), .ref (pre.length + 1 + 7), .ref (pre.length + 1 + 8), .ref (pre.length + 1 + 9), .ref (pre.length + 1 + 10), .ref (pre.length + 1 + 11), .null, .null, .null, .null, .null, .null, .null, .null, .null, .null, .null, .null, .null, .null, .null, .null, .null, .null, .null, .null, .null, .int 0, .int 0, .int 0, .int 0, .int 0, .int 0, .int 0, .int 0, .int 0, .int 0]) (gok hw) hk (ww hw 32 rfl) (Or.inr ⟨ww hw 33 rfl, rfl, rfl⟩) (d0 49 rfl) (j := 11) rfl rfl rfl ?_
  refine Ev.aloadN (d0 50 rfl) rfl ?_
  refine Ev.sipush (z := 1056) (d0 51 rfl) rfl ?_
  refine Ev.cnew (aty := .int) (b := false) (k := 1056) (q := 12) (as' := [(false, tab 32 (fun _ => 0)), (false, tab 32 (fun _ => 0)), (false, tab 32 (fun _ => 0)), (false, tab 32 (fun _ => 0)), (false, tab 32 (fun _ => 0)), (false, tab 3 (fun _ => 0)), (false, tab 8 (fun _ => 0)), (false, tab 1056 (fun _ => 0)), (false, tab 1056 (fun _ => 0)), (false, tab 1056 (fun _ => 0)), (false, tab 1056 (fun _ => 0)), (false, tab 1056 (fun _ => 0)), (false, tab 1056 (fun _ => 0))]) (ww hw 9 rfl) rfl (d0 52 rfl) (by decide) rfl (by decide) rfl rfl ?_
  refine Ev.cput (v' := .ref (pre.length + 1 + 12)) (fs' := [.ref (pre.length + 1 + 0), .ref (pre.length + 1 + 1), .ref (pre.length + 1 + 2), .ref (pre.length + 1 + 3), .ref (pre.length + 1 + 4), .ref (pre.length + 1 + 5), .ref (pre.length + 1 + 6), .ref (pre.length + 1 + 7), .ref (pre.length + 1 + 8), .ref (pre.length + 1 + 9), .ref (pre.length + 1 + 10), .ref (pre.length + 1 + 11), .ref (pre.length + 1 + 12), .null, .null, .null, .null, .null, .null, .null, .null, .null, .null, .null, .null, .null, .null, .null, .null, .null, .null, .null, .null, .int 0, .int 0, .int 0, .int 0, .int 0, .int 0, .int 0, .int 0, .int 0, .int 0]) (gok hw) hk (ww hw 34 rfl) (Or.inr ⟨ww hw 35 rfl, rfl, rfl⟩) (d0 53 rfl) (j := 12) rfl rfl rfl ?_
  refine Ev.aloadN (d0 54 rfl) rfl ?_
  refine Ev.iconst (z := 4) (d0 55 rfl) rfl ?_
  refine Ev.cnew (aty := .int) (b := false) (k := 4) (q := 13) (as' := [(false, tab 32 (fun _ => 0)), (false, tab 32 (fun _ => 0)), (false, tab 32 (fun _ => 0)), (false, tab 32 (fun _ => 0)), (false, tab 32 (fun _ => 0)), (false, tab 3 (fun _ => 0)), (false, tab 8 (fun _ => 0)), (false, tab 1056 (fun _ => 0)), (false, tab 1056 (fun _ => 0)), (false, tab 1056 (fun _ => 0)), (false, tab 1056 (fun _ => 0)), (false, tab 1056 (fun _ => 0)), (false, tab 1056 (fun _ => 0)), (false, tab 4 (fun _ => 0))]) (ww hw 9 rfl) rfl (d0 56 rfl) (by decide) rfl (by decide) rfl rfl ?_
  refine Ev.cput (v' := .ref (pre.length + 1 + 13)) (fs' := [.ref (pre.length + 1 + 0), .ref (pre.length + 1 + 1), .ref (pre.length + 1 + 2), .ref (pre.length + 1 + 3), .ref (pre.length + 1 + 4), .ref (pre.length + 1 + 5), .ref (pre.length + 1 + 6), .ref (pre.length + 1 + 7), .ref (pre.length + 1 + 8), .ref (pre.length + 1 + 9), .ref (pre.length + 1 + 10), .ref (pre.length + 1 + 11), .ref (pre.length + 1 + 12), .ref (pre.length + 1 + 13), .null, .null, .null, .null, .null, .null, .null, .null, .null, .null, .null, .null, .null, .null, .null, .null, .null, .null, .null, .int 0, .int 0, .int 0, .int 0, .int 0, .int 0, .int 0, .int 0, .int 0, .int 0]) (gok hw) hk (ww hw 36 rfl) (Or.inr ⟨ww hw 37 rfl, rfl, rfl⟩) (d0 57 rfl) (j := 13) rfl rfl rfl ?_
  refine Ev.aloadN (d0 58 rfl) rfl ?_
  refine Ev.iconst (z := 2) (d0 59 rfl) rfl ?_
  refine Ev.cnew (aty := .int) (b := false) (k := 2) (q := 14) (as' := [(false, tab 32 (fun _ => 0)), (false, tab 32 (fun _ => 0)), (false, tab 32 (fun _ => 0)), (false, tab 32 (fun _ => 0)), (false, tab 32 (fun _ => 0)), (false, tab 3 (fun _ => 0)), (false, tab 8 (fun _ => 0)), (false, tab 1056 (fun _ => 0)), (false, tab 1056 (fun _ => 0)), (false, tab 1056 (fun _ => 0)), (false, tab 1056 (fun _ => 0)), (false, tab 1056 (fun _ => 0)), (false, tab 1056 (fun _ => 0)), (false, tab 4 (fun _ => 0)), (false, tab 2 (fun _ => 0))]) (ww hw 9 rfl) rfl (d0 60 rfl) (by decide) rfl (by decide) rfl rfl ?_
  refine Ev.cput (v' := .ref (pre.length + 1 + 14)) (fs' := [.ref (pre.length + 1 + 0), .ref (pre.length + 1 + 1), .ref (pre.length + 1 + 2), .ref (pre.length + 1 + 3), .ref (pre.length + 1 + 4), .ref (pre.length + 1 + 5), .ref (pre.length + 1 + 6), .ref (pre.length + 1 + 7), .ref (pre.length + 1 + 8), .ref (pre.length + 1 + 9), .ref (pre.length + 1 + 10), .ref (pre.length + 1 + 11), .ref (pre.length + 1 + 12), .ref (pre.length + 1 + 13), .ref (pre.length + 1 + 14), .null, .null, .null, .null, .null, .null, .null, .null, .null, .null, .null, .null, .null, .null, .null, .null, .null, .null, .int 0, .int 0, .int 0, .int 0, .int 0, .int 0, .int 0, .int 0, .int 0, .int 0]) (gok hw) hk (ww hw 38 rfl) (Or.inr ⟨ww hw 39 rfl, rfl, rfl⟩) (d0 61 rfl) (j := 14) rfl rfl rfl ?_
  refine Ev.aloadN (d0 62 rfl) rfl ?_
  refine Ev.bipush (z := 64) (d0 63 rfl) rfl ?_
  refine Ev.cnew (aty := .int) (b := false) (k := 64) (q := 15) (as' := [(false, tab 32 (fun _ => 0)), (false, tab 32 (fun _ => 0)), (false, tab 32 (fun _ => 0)), (false, tab 32 (fun _ => 0)), (false, tab 32 (fun _ => 0)), (false, tab 3 (fun _ => 0)), (false, tab 8 (fun _ => 0)), (false, tab 1056 (fun _ => 0)), (false, tab 1056 (fun _ => 0)), (false, tab 1056 (fun _ => 0)), (false, tab 1056 (fun _ => 0)), (false, tab 1056 (fun _ => 0)), (false, tab 1056 (fun _ => 0)), (false, tab 4 (fun _ => 0)), (false, tab 2 (fun _ => 0)), (false, tab 64 (fun _ => 0))]) (ww hw 9 rfl) rfl (d0 64 rfl) (by decide) rfl (by decide) rfl rfl ?_
  refine Ev.cput (v' := .ref (pre.length + 1 + 15)) (fs' := [.ref (pre.length + 1 + 0), .ref (pre.length + 1 + 1), .ref (pre.length + 1 + 2), .ref (pre.length + 1 + 3), .ref (pre.length + 1 + 4), .ref (pre.length + 1 + 5), .ref (pre.length + 1 + 6), .ref (pre.length + 1 + 7), .ref (pre.length + 1 + 8), .ref (pre.length + 1 + 9), .ref (pre.length + 1 + 10), .ref (pre.length + 1 + 11), .ref (pre.length + 1 + 12), .ref (pre.length + 1 + 13), .ref (pre.length + 1 + 14), .ref (pre.length + 1 + 15), .null, .null, .null, .null, .null, .null, .null, .null, .null, .null, .null, .null, .null, .null, .null, .null, .null, .int 0, .int 0, .int 0, .int 0, .int 0, .int 0, .int 0, .int 0, .int 0, .int 0]) (gok hw) hk (ww hw 40 rfl) (Or.inr ⟨ww hw 41 rfl, rfl, rfl⟩) (d0 65 rfl) (j := 15) rfl rfl rfl ?_
  refine Ev.aloadN (d0 66 rfl) rfl ?_
  refine Ev.bipush (z := 8) (d0 67 rfl) rfl ?_
  refine Ev.cnew (aty := .int) (b := false) (k := 8) (q := 16) (as' := [(false, tab 32 (fun _ => 0)), (false, tab 32 (fun _ => 0)), (false, tab 32 (fun _ => 0)), (false, tab 32 (fun _ => 0)), (false, tab 32 (fun _ => 0)), (false, tab 3 (fun _ => 0)), (false, tab 8 (fun _ => 0)), (false, tab 1056 (fun _ => 0)), (false, tab 1056 (fun _ => 0)), (false, tab 1056 (fun _ => 0)), (false, tab 1056 (fun _ => 0)), (false, tab 1056 (fun _ => 0)), (false, tab 1056 (fun _ => 0)), (false, tab 4 (fun _ => 0)), (false, tab 2 (fun _ => 0)), (false, tab 64 (fun _ => 0)), (false, tab 8 (fun _ => 0))]) (ww hw 9 rfl) rfl (d0 68 rfl) (by decide) rfl (by decide) rfl rfl ?_
  refine Ev.cput (v' := .ref (pre.length + 1 + 16)) (fs' := [.ref (pre.length + 1 + 0), .ref (pre.length + 1 + 1), .ref (pre.length + 1 + 2), .ref (pre.length + 1 + 3), .ref (pre.length + 1 + 4), .ref (pre.length + 1 + 5), .ref (pre.length + 1 + 6), .ref (pre.length + 1 + 7), .ref (pre.length + 1 + 8), .ref (pre.length + 1 + 9), .ref (pre.length + 1 + 10), .ref (pre.length + 1 + 11), .ref (pre.length + 1 + 12), .ref (pre.length + 1 + 13), .ref (pre.length + 1 + 14), .ref (pre.length + 1 + 15), .ref (pre.length + 1 + 16), .null, .null, .null, .null, .null, .null, .null, .null, .null, .null, .null, .null, .null, .null, .null, .null, .int 0, .int 0, .int 0, .int 0, .int 0, .int 0, .int 0, .int 0, .int 0, .int 0]) (gok hw) hk (ww hw 42 rfl) (Or.inr ⟨ww hw 43 rfl, rfl, rfl⟩) (d0 69 rfl) (j := 16) rfl rfl rfl ?_
  refine Ev.aloadN (d0 70 rfl) rfl ?_
  refine Ev.bipush (z := 32) (d0 71 rfl) rfl ?_
  refine Ev.cnew (aty := .int) (b := false) (k := 32) (q := 17) (as' := [(false, tab 32 (fun _ => 0)), (false, tab 32 (fun _ => 0)), (false, tab 32 (fun _ => 0)), (false, tab 32 (fun _ => 0)), (false, tab 32 (fun _ => 0)), (false, tab 3 (fun _ => 0)), (false, tab 8 (fun _ => 0)), (false, tab 1056 (fun _ => 0)), (false, tab 1056 (fun _ => 0)), (false, tab 1056 (fun _ => 0)), (false, tab 1056 (fun _ => 0)), (false, tab 1056 (fun _ => 0)), (false, tab 1056 (fun _ => 0)), (false, tab 4 (fun _ => 0)), (false, tab 2 (fun _ => 0)), (false, tab 64 (fun _ => 0)), (false, tab 8 (fun _ => 0)), (false, tab 32 (fun _ => 0))]) (ww hw 9 rfl) rfl (d0 72 rfl) (by decide) rfl (by decide) rfl rfl ?_
  refine Ev.cput (v' := .ref (pre.length + 1 + 17)) (fs' := [.ref (pre.length + 1 + 0), .ref (pre.length + 1 + 1), .ref (pre.length + 1 + 2), .ref (pre.length + 1 + 3), .ref (pre.length + 1 + 4), .ref (pre.length + 1 + 5), .ref (pre.length + 1 + 6), .ref (pre.length + 1 + 7), .ref (pre.length + 1 + 8), .ref (pre.length + 1 + 9), .ref (pre.length + 1 + 10), .ref (pre.length + 1 + 11), .ref (pre.length + 1 + 12), .ref (pre.length + 1 + 13), .ref (pre.length + 1 + 14), .ref (pre.length + 1 + 15), .ref (pre.length + 1 + 16), .ref (pre.length + 1 + 17), .null, .null, .null, .null, .null, .null, .null, .null, .null, .null, .null, .null, .null, .null, .null, .int 0, .int 0, .int 0, .int 0, .int 0, .int 0, .int 0, .int 0, .int 0, .int 0]) (gok hw) hk (ww hw 44 rfl) (Or.inr ⟨ww hw 45 rfl, rfl, rfl⟩) (d0 73 rfl) (j := 17) rfl rfl rfl ?_
  refine Ev.aloadN (d0 74 rfl) rfl ?_
  refine Ev.bipush (z := 32) (d0 75 rfl) rfl ?_
  refine Ev.cnew (aty := .int) (b := false) (k := 32) (q := 18) (as' := [(false, tab 32 (fun _ => 0)), (false, tab 32 (fun _ => 0)), (false, tab 32 (fun _ => 0)), (false, tab 32 (fun _ => 0)), (false, tab 32 (fun _ => 0)), (false, tab 3 (fun _ => 0)), (false, tab 8 (fun _ => 0)), (false, tab 1056 (fun _ => 0)), (false, tab 1056 (fun _ => 0)), (false, tab 1056 (fun _ => 0)), (false, tab 1056 (fun _ => 0)), (false, tab 1056 (fun _ => 0)), (false, tab 1056 (fun _ => 0)), (false, tab 4 (fun _ => 0)), (false, tab 2 (fun _ => 0)), (false, tab 64 (fun _ => 0)), (false, tab 8 (fun _ => 0)), (false, tab 32 (fun _ => 0)), (false, tab 32 (fun _ => 0))]) (ww hw 9 rfl) rfl (d0 76 rfl) (by decide) rfl (by decide) rfl rfl ?_
  refine Ev.cput (v' := .ref (pre.length + 1 + 18)) (fs' := [.ref (pre.length + 1 + 0), .ref (pre.length + 1 + 1), .ref (pre.length + 1 + 2), .ref (pre.length + 1 + 3), .ref (pre.length + 1 + 4), .ref (pre.length + 1 + 5), .ref (pre.length + 1 + 6), .ref (pre.length + 1 + 7), .ref (pre.length + 1 + 8), .ref (pre.length + 1 + 9), .ref (pre.length + 1 + 10), .ref (pre.length + 1 + 11), .ref (pre.length + 1 + 12), .ref (pre.length + 1 + 13), .ref (pre.length + 1 + 14), .ref (pre.length + 1 + 15), .ref (pre.length + 1 + 16), .ref (pre.length + 1 + 17), .ref (pre.length + 1 + 18), .null, .null, .null, .null, .null, .null, .null, .null, .null, .null, .null, .null, .null, .null, .int 0, .int 0, .int 0, .int 0, .int 0, .int 0, .int 0, .int 0, .int 0, .int 0]) (gok hw) hk (ww hw 46 rfl) (Or.inr ⟨ww hw 47 rfl, rfl, rfl⟩) (d0 77 rfl) (j := 18) rfl rfl rfl ?_
  refine Ev.aloadN (d0 78 rfl) rfl ?_
  refine Ev.iconst (z := 4) (d0 79 rfl) rfl ?_
  refine Ev.cnew (aty := .int) (b := false) (k := 4) (q := 19) (as' := [(false, tab 32 (fun _ => 0)), (false, tab 32 (fun _ => 0)), (false, tab 32 (fun _ => 0)), (false, tab 32 (fun _ => 0)), (false, tab 32 (fun _ => 0)), (false, tab 3 (fun _ => 0)), (false, tab 8 (fun _ => 0)), (false, tab 1056 (fun _ => 0)), (false, tab 1056 (fun _ => 0)), (false, tab 1056 (fun _ => 0)), (false, tab 1056 (fun _ => 0)), (false, tab 1056 (fun _ => 0)), (false, tab 1056 (fun _ => 0)), (false, tab 4 (fun _ => 0)), (false, tab 2 (fun _ => 0)), (false, tab 64 (fun _ => 0)), (false, tab 8 (fun _ => 0)), (false, tab 32 (fun _ => 0)), (false, tab 32 (fun _ => 0)), (false, tab 4 (fun _ => 0))]) (ww hw 9 rfl) rfl (d0 80 rfl) (by decide) rfl (by decide) rfl rfl ?_
  refine Ev.cput (v' := .ref (pre.length + 1 + 19)) (fs' := [.ref (pre.length + 1 + 0), .ref (pre.length + 1 + 1), .ref (pre.length + 1 + 2), .ref (pre.length + 1 + 3), .ref (pre.length + 1 + 4), .ref (pre.length + 1 + 5), .ref (pre.length + 1 + 6), .ref (pre.length + 1 + 7), .ref (pre.length + 1 + 8), .ref (pre.length + 1 + 9), .ref (pre.length + 1 + 10), .ref (pre.length + 1 + 11), .ref (pre.length + 1 + 12), .ref (pre.length + 1 + 13), .ref (pre.length + 1 + 14), .ref (pre.length + 1 + 15), .ref (pre.length + 1 + 16), .ref (pre.length + 1 + 17), .ref (pre.length + 1 + 18), .ref (pre.length + 1 + 19), .null, .null, .null, .null, .null, .null, .null, .null, .null, .null, .null, .null, .null, .int 0, .int 0, .int 0, .int 0, .int 0, .int 0, .int 0, .int 0, .int 0, .int 0]) (gok hw) hk (ww hw 48 rfl) (Or.inr ⟨ww hw 49 rfl, rfl, rfl⟩) (d0 81 rfl) (j := 19) rfl rfl rfl ?_
  refine Ev.aloadN (d0 82 rfl) rfl ?_
  refine Ev.iconst (z := 3) (d0 83 rfl) rfl ?_
  refine Ev.cnew (aty := .int) (b := false) (k := 3) (q := 20) (as' := [(false, tab 32 (fun _ => 0)), (false, tab 32 (fun _ => 0)), (false, tab 32 (fun _ => 0)), (false, tab 32 (fun _ => 0)), (false, tab 32 (fun _ => 0)), (false, tab 3 (fun _ => 0)), (false, tab 8 (fun _ => 0)), (false, tab 1056 (fun _ => 0)), (false, tab 1056 (fun _ => 0)), (false, tab 1056 (fun _ => 0)), (false, tab 1056 (fun _ => 0)), (false, tab 1056 (fun _ => 0)), (false, tab 1056 (fun _ => 0)), (false, tab 4 (fun _ => 0)), (false, tab 2 (fun _ => 0)), (false, tab 64 (fun _ => 0)), (false, tab 8 (fun _ => 0)), (false, tab 32 (fun _ => 0)), (false, tab 32 (fun _ => 0)), (false, tab 4 (fun _ => 0)), (false, tab 3 (fun _ => 0))]) (ww hw 9 rfl) rfl (d0 84 rfl) (by decide) rfl (by decide) rfl rfl ?_
  refine Ev.cput (v' := .ref (pre.length + 1 + 20)) (fs' := [.ref (pre.length + 1 + 0), .ref (pre.length + 1 + 1), .ref (pre.length + 1 + 2), .ref (pre.length + 1 + 3), .ref (pre.length + 1 + 4), .ref (pre.length + 1 + 5), .ref (pre.length + 1 + 6), .ref (pre.length + 1 + 7), .ref (pre.length + 1 + 8), .ref (pre.length + 1 + 9), .ref (pre.length + 1 + 10), .ref (pre.length + 1 + 11), .ref (pre.length + 1 + 12), .ref (pre.length + 1 + 13), .ref (pre.length + 1 + 14), .ref (pre.length + 1 + 15), .ref (pre.length + 1 + 16), .ref (pre.length + 1 + 17), .ref (pre.length + 1 + 18), .ref (pre.length + 1 + 19), .ref (pre.length + 1 + 20), .null, .null, .null, .null, .null, .null, .null, .null, .null, .null, .null, .null, .int 0, .int 0, .int 0, .int 0, .int 0, .int 0, .int 0, .int 0, .int 0, .int 0]) (gok hw) hk (ww hw 50 rfl) (Or.inr ⟨ww hw 51 rfl, rfl, rfl⟩) (d0 85 rfl) (j := 20) rfl rfl rfl ?_
  refine Ev.aloadN (d0 86 rfl) rfl ?_
  refine Ev.iconst (z := 3) (d0 87 rfl) rfl ?_
  refine Ev.cnew (aty := .int) (b := false) (k := 3) (q := 21) (as' := [(false, tab 32 (fun _ => 0)), (false, tab 32 (fun _ => 0)), (false, tab 32 (fun _ => 0)), (false, tab 32 (fun _ => 0)), (false, tab 32 (fun _ => 0)), (false, tab 3 (fun _ => 0)), (false, tab 8 (fun _ => 0)), (false, tab 1056 (fun _ => 0)), (false, tab 1056 (fun _ => 0)), (false, tab 1056 (fun _ => 0)), (false, tab 1056 (fun _ => 0)), (false, tab 1056 (fun _ => 0)), (false, tab 1056 (fun _ => 0)), (false, tab 4 (fun _ => 0)), (false, tab 2 (fun _ => 0)), (false, tab 64 (fun _ => 0)), (false, tab 8 (fun _ => 0)), (false, tab 32 (fun _ => 0)), (false, tab 32 (fun _ => 0)), (false, tab 4 (fun _ => 0)), (false, tab 3 (fun _ => 0)), (false, tab 3 (fun _ => 0))]) (ww hw 9 rfl) rfl (d0 88 rfl) (by decide) rfl (by decide) rfl rfl ?_
  refine Ev.cput (v' := .ref (pre.length + 1 + 21)) (fs' := [.ref (pre.length + 1 + 0), .ref (pre.length + 1 + 1), .ref (pre.length + 1 + 2), .ref (pre.length + 1 + 3), .ref (pre.length + 1 + 4), .ref (pre.length + 1 + 5), .ref (pre.length + 1 + 6), .ref (pre.length + 1 + 7), .ref (pre.length + 1 + 8), .ref (pre.length + 1 + 9), .ref (pre.length + 1 + 10), .ref (pre.length + 1 + 11), .ref (pre.length + 1 + 12), .ref (pre.length + 1 + 13), .ref (pre.length + 1 + 14), .ref (pre.length + 1 + 15), .ref (pre.length + 1 + 16), .ref (pre.length + 1 + 17), .ref (pre.length + 1 + 18), .ref (pre.length + 1 + 19), .ref (pre.length + 1 + 20), .ref (pre.length + 1 + 21), .null, .null, .null, .null, .null, .null, .null, .null, .null, .null, .null, .int 0, .int 0, .int 0, .int 0, .int 0, .int 0, .int 0, .int 0, .int 0, .int 0]) (gok hw) hk (ww hw 52 rfl) (Or.inr ⟨ww hw 53 rfl, rfl, rfl⟩) (d0 89 rfl) (j := 21) rfl rfl rfl ?_
  refine Ev.aloadN (d0 90 rfl) rfl ?_
  refine Ev.bipush (z := 16) (d0 91 rfl) rfl ?_
  refine Ev.cnew (aty := .int) (b := false) (k := 16) (q := 22) (as' := [(false, tab 32 (fun _ => 0)), (false, tab 32 (fun _ => 0)), (false, tab 32 (fun _ => 0)), (false, tab 32 (fun _ => 0)), (false, tab 32 (fun _ => 0)), (false, tab 3 (fun _ => 0)), (false, tab 8 (fun _ => 0)), (false, tab 1056 (fun _ => 0)), (false, tab 1056 (fun _ => 0)), (false, tab 1056 (fun _ => 0)), (false, tab 1056 (fun _ => 0)), (false, tab 1056 (fun _ => 0)), (false, tab 1056 (fun _ => 0)), (false, tab 4 (fun _ => 0)), (false, tab 2 (fun _ => 0)), (false, tab 64 (fun _ => 0)), (false, tab 8 (fun _ => 0)), (false, tab 32 (fun _ => 0)), (false, tab 32 (fun _ => 0)), (false, tab 4 (fun _ => 0)), (false, tab 3 (fun _ => 0)), (false, tab 3 (fun _ => 0)), (false, tab 16 (fun _ => 0))]) (ww hw 9 rfl) rfl (d0 92 rfl) (by decide) rfl (by decide) rfl rfl ?_
  refine Ev.cput (v' := .ref (pre.length + 1 + 22)) (fs' := [.ref (pre.length + 1 + 0), .ref (pre.length + 1 + 1), .ref (pre.length + 1 + 2), .ref (pre.length + 1 + 3), .ref (pre.length + 1 + 4), .ref (pre.length + 1 + 5), .ref (pre.length + 1 + 6), .ref (pre.length + 1 + 7), .ref (pre.length + 1 + 8), .ref (pre.length + 1 + 9), .ref (pre.length + 1 + 10), .ref (pre.length + 1 + 11), .ref (pre.length + 1 + 12), .ref (pre.length + 1 + 13), .ref (pre.length + 1 + 14), .ref (pre.length + 1 + 15), .ref (pre.length + 1 + 16), .ref (pre.length + 1 + 17), .ref (pre.length + 1 + 18), .ref (pre.length + 1 + 19), .ref (pre.length + 1 + 20), .ref (pre.length + 1 + 21), .ref (pre.length + 1 + 22), .null, .null, .null, .null, .null, .null, .null, .null, .null, .null, .int 0, .int 0, .int 0, .int 0, .int 0, .int 0, .int 0, .int 0, .int 0, .int 0]) (gok hw) hk (ww hw 54 rfl) (Or.inr ⟨ww hw 55 rfl, rfl, rfl⟩) (d0 93 rfl) (j := 22) rfl rfl rfl ?_
  refine Ev.aloadN (d0 94 rfl) rfl ?_
  refine Ev.bipush (z := 16) (d0 95 rfl) rfl ?_
  refine Ev.cnew (aty := .int) (b := false) (k := 16) (q := 23) (as' := [(false, tab 32 (fun _ => 0)), (false, tab 32 (fun _ => 0)), (false, tab 32 (fun _ => 0)), (false, tab 32 (fun _ => 0)), (false, tab 32 (fun _ => 0)), (false, tab 3 (fun _ => 0)), (false, tab 8 (fun _ => 0)), (false, tab 1056 (fun _ => 0)), (false, tab 1056 (fun _ => 0)), (false, tab 1056 (fun _ => 0)), (false, tab 1056 (fun _ => 0)), (false, tab 1056 (fun _ => 0)), (false, tab 1056 (fun _ => 0)), (false, tab 4 (fun _ => 0)), (false, tab 2 (fun _ => 0)), (false, tab 64 (fun _ => 0)), (false, tab 8 (fun _ => 0)), (false, tab 32 (fun _ => 0)), (false, tab 32 (fun _ => 0)), (false, tab 4 (fun _ => 0)), (false, tab 3 (fun _ => 0)), (false, tab 3 (fun _ => 0)), (false, tab 16 (fun _ => 0)), (false, tab 16 (fun _ => 0))]) (ww hw 9 rfl) rfl (d0 96 rfl) (by decide) rfl (by decide) rfl rfl ?_
  refine Ev.cput (v' := .ref (pre.length + 1 + 23)) (fs' := [.ref (pre.length + 1 + 0), .ref (pre.length + 1 + 1), .ref (pre.length + 1 + 2), .ref (pre.length + 1 + 3), .ref (pre.length + 1 + 4), .ref (pre.length + 1 + 5), .ref (pre.length + 1 + 6), .ref (pre.length + 1 + 7), .ref (pre.length + 1 + 8), .ref (pre.length + 1 + 9), .ref (pre.length + 1 + 10), .ref (pre.length + 1 + 11), .ref (pre.length + 1 + 12), .ref (pre.length + 1 + 13), .ref (pre.length + 1 + 14), .ref (pre.length + 1 + 15), .ref (pre.length + 1 + 16), .ref (pre.length + 1 + 17), .ref (pre.length + 1 + 18), .ref (pre.length + 1 + 19), .ref (pre.length + 1 + 20), .ref (pre.length + 1 + 21), .ref (pre.length + 1 + 22), .ref (pre.length + 1 + 23), .null, .null, .null, .null, .null, .null, .null, .null, .null, .int 0, .int 0, .int 0, .int 0, .int 0, .int 0, .int 0, .int 0, .int 0, .int 0]) (gok hw) hk (ww hw 56 rfl) (Or.inr ⟨ww hw 57 rfl, rfl, rfl⟩) (d0 97 rfl) (j := 23) rfl rfl rfl ?_
  refine Ev.aloadN (d0 98 rfl) rfl ?_
  refine Ev.bipush (z := 16) (d0 99 rfl) rfl ?_
  refine Ev.cnew (aty := .boolean) (b := true) (k := 16) (q := 24) (as' := [(false, tab 32 (fun _ => 0)), (false, tab 32 (fun _ => 0)), (false, tab 32 (fun _ => 0)), (false, tab 32 (fun _ => 0)), (false, tab 32 (fun _ => 0)), (false, tab 3 (fun _ => 0)), (false, tab 8 (fun _ => 0)), (false, tab 1056 (fun _ => 0)), (false, tab 1056 (fun _ => 0)), (false, tab 1056 (fun _ => 0)), (false, tab 1056 (fun _ => 0)), (false, tab 1056 (fun _ => 0)), (false, tab 1056 (fun _ => 0)), (false, tab 4 (fun _ => 0)), (false, tab 2 (fun _ => 0)), (false, tab 64 (fun _ => 0)), (false, tab 8 (fun _ => 0)), (false, tab 32 (fun _ => 0)), (false, tab 32 (fun _ => 0)), (false, tab 4 (fun _ => 0)), (false, tab 3 (fun _ => 0)), (false, tab 3 (fun _ => 0)), (false, tab 16 (fun _ => 0)), (false, tab 16 (fun _ => 0)), (true, tab 16 (fun _ => 0))]) (ww hw 58 rfl) rfl (d0 100 rfl) (by decide) rfl (by decide) rfl rfl ?_
  refine Ev.cput (v' := .ref (pre.length + 1 + 24)) (fs' := [.ref (pre.length + 1 + 0), .ref (pre.length + 1 + 1), .ref (pre.length + 1 + 2), .ref (pre.length + 1 + 3), .ref (pre.length + 1 + 4), .ref (pre.length + 1 + 5), .ref (pre.length + 1 + 6), .ref (pre.length + 1 + 7), .ref (pre.length + 1 + 8), .ref (pre.length + 1 + 9), .ref (pre.length + 1 + 10), .ref (pre.length + 1 + 11), .ref (pre.length + 1 + 12), .ref (pre.length + 1 + 13), .ref (pre.length + 1 + 14), .ref (pre.length + 1 + 15), .ref (pre.length + 1 + 16), .ref (pre.length + 1 + 17), .ref (pre.length + 1 + 18), .ref (pre.length + 1 + 19), .ref (pre.length + 1 + 20), .ref (pre.length + 1 + 21), .ref (pre.length + 1 + 22), .ref (pre.length + 1 + 23), .ref (pre.length + 1 + 24), .null, .null, .null, .null, .null, .null, .null, .null, .int 0, .int 0, .int 0, .int 0, .int 0, .int 0, .int 0, .int 0, .int 0, .int 0]) (gok hw) hk (ww hw 59 rfl) (Or.inr ⟨ww hw 60 rfl, rfl, rfl⟩) (d0 101 rfl) (j := 24) rfl rfl rfl ?_
  refine Ev.aloadN (d0 102 rfl) rfl ?_
  refine Ev.bipush (z := 64) (d0 103 rfl) rfl ?_
  refine Ev.cnew (aty := .int) (b := false) (k := 64) (q := 25) (as' := [(false, tab 32 (fun _ => 0)), (false, tab 32 (fun _ => 0)), (false, tab 32 (fun _ => 0)), (false, tab 32 (fun _ => 0)), (false, tab 32 (fun _ => 0)), (false, tab 3 (fun _ => 0)), (false, tab 8 (fun _ => 0)), (false, tab 1056 (fun _ => 0)), (false, tab 1056 (fun _ => 0)), (false, tab 1056 (fun _ => 0)), (false, tab 1056 (fun _ => 0)), (false, tab 1056 (fun _ => 0)), (false, tab 1056 (fun _ => 0)), (false, tab 4 (fun _ => 0)), (false, tab 2 (fun _ => 0)), (false, tab 64 (fun _ => 0)), (false, tab 8 (fun _ => 0)), (false, tab 32 (fun _ => 0)), (false, tab 32 (fun _ => 0)), (false, tab 4 (fun _ => 0)), (false, tab 3 (fun _ => 0)), (false, tab 3 (fun _ => 0)), (false, tab 16 (fun _ => 0)), (false, tab 16 (fun _ => 0)), (true, tab 16 (fun _ => 0)), (false, tab 64 (fun _ => 0))]) (ww hw 9 rfl) rfl (d0 104 rfl) (by decide) rfl (by decide) rfl rfl ?_
  refine Ev.cput (v' := .ref (pre.length + 1 + 25)) (fs' := [.ref (pre.length + 1 + 0), .ref (pre.length + 1 + 1), .ref (pre.length + 1 + 2), .ref (pre.length + 1 + 3), .ref (pre.length + 1 + 4), .ref (pre.length + 1 + 5), .ref (pre.length + 1 + 6), .ref (pre.length + 1 + 7), .ref (pre.length + 1 + 8), .ref (pre.length + 1 + 9), .ref (pre.length + 1 + 10), .ref (pre.length + 1 + 11), .ref (pre.length + 1 + 12), .ref (pre.length + 1 + 13), .ref (pre.length + 1 + 14), .ref (pre.length + 1 + 15), .ref (pre.length + 1 + 16), .ref (pre.length + 1 + 17), .ref (pre.length + 1 + 18), .ref (pre.length + 1 + 19), .ref (pre.length + 1 + 20), .ref (pre.length + 1 + 21), .ref (pre.length + 1 + 22), .ref (pre.length + 1 + 23), .ref (pre.length + 1 + 24), .ref (pre.length + 1 + 25), .null, .null, .null, .null, .null, .null, .null, .int 0, .int 0, .int 0, .int 0, .int 0, .int 0, .int 0, .int 0, .int 0, .int 0]) (gok hw) hk (ww hw 61 rfl) (Or.inr ⟨ww hw 62 rfl, rfl, rfl⟩) (d0 105 rfl) (j := 25) rfl rfl rfl ?_
  refine Ev.aloadN (d0 106 rfl) rfl ?_
  refine Ev.bipush (z := 64) (d0 107 rfl) rfl ?_
  refine Ev.cnew (aty := .int) (b := false) (k := 64) (q := 26) (as' := [(false, tab 32 (fun _ => 0)), (false, tab 32 (fun _ => 0)), (false, tab 32 (fun _ => 0)), (false, tab 32 (fun _ => 0)), (false, tab 32 (fun _ => 0)), (false, tab 3 (fun _ => 0)), (false, tab 8 (fun _ => 0)), (false, tab 1056 (fun _ => 0)), (false, tab 1056 (fun _ => 0)), (false, tab 1056 (fun _ => 0)), (false, tab 1056 (fun _ => 0)), (false, tab 1056 (fun _ => 0)), (false, tab 1056 (fun _ => 0)), (false, tab 4 (fun _ => 0)), (false, tab 2 (fun _ => 0)), (false, tab 64 (fun _ => 0)), (false, tab 8 (fun _ => 0)), (false, tab 32 (fun _ => 0)), (false, tab 32 (fun _ => 0)), (false, tab 4 (fun _ => 0)), (false, tab 3 (fun _ => 0)), (false, tab 3 (fun _ => 0)), (false, tab 16 (fun _ => 0)), (false, tab 16 (fun _ => 0)), (true, tab 16 (fun _ => 0)), (false, tab 64 (fun _ => 0)), (false, tab 64 (fun _ => 0))]) (ww hw 9 rfl) rfl (d0 108 rfl) (by decide) rfl (by decide) rfl rfl ?_
  refine Ev.cput (v' := .ref (pre.length + 1 + 26)) (fs' := [.ref (pre.length + 1 + 0), .ref (pre.length + 1 + 1), .ref (pre.length + 1 + 2), .ref (pre.length + 1 + 3), .ref (pre.length + 1 + 4), .ref (pre.length + 1 + 5), .ref (pre.length + 1 + 6), .ref (pre.length + 1 + 7), .ref (pre.length + 1 + 8), .ref (pre.length + 1 + 9), .ref (pre.length + 1 + 10), .ref (pre.length + 1 + 11), .ref (pre.length + 1 + 12), .ref (pre.length + 1 + 13), .ref (pre.length + 1 + 14), .ref (pre.length + 1 + 15), .ref (pre.length + 1 + 16), .ref (pre.length + 1 + 17), .ref (pre.length + 1 + 18), .ref (pre.length + 1 + 19), .ref (pre.length + 1 + 20), .ref (pre.length + 1 + 21), .ref (pre.length + 1 + 22), .ref (pre.length + 1 + 23), .ref (pre.length + 1 + 24), .ref (pre.length + 1 + 25), .ref (pre.length + 1 + 26), .null, .null, .null, .null, .null, .null, .int 0, .int 0, .int 0, .int 0, .int 0, .int 0, .int 0, .int 0, .int 0, .int 0]) (gok hw) hk (ww hw 63 rfl) (Or.inr ⟨ww hw 64 rfl, rfl, rfl⟩) (d0 109 rfl) (j := 26) rfl rfl rfl ?_
  refine Ev.aloadN (d0 110 rfl) rfl ?_
  refine Ev.sipush (z := 2048) (d0 111 rfl) rfl ?_
  refine Ev.cnew (aty := .int) (b := false) (k := 2048) (q := 27) (as' := [(false, tab 32 (fun _ => 0)), (false, tab 32 (fun _ => 0)), (false, tab 32 (fun _ => 0)), (false, tab 32 (fun _ => 0)), (false, tab 32 (fun _ => 0)), (false, tab 3 (fun _ => 0)), (false, tab 8 (fun _ => 0)), (false, tab 1056 (fun _ => 0)), (false, tab 1056 (fun _ => 0)), (false, tab 1056 (fun _ => 0)), (false, tab 1056 (fun _ => 0)), (false, tab 1056 (fun _ => 0)), (false, tab 1056 (fun _ => 0)), (false, tab 4 (fun _ => 0)), (false, tab 2 (fun _ => 0)), (false, tab 64 (fun _ => 0)), (false, tab 8 (fun _ => 0)), (false, tab 32 (fun _ => 0)), (false, tab 32 (fun _ => 0)), (false, tab 4 (fun _ => 0)), (false, tab 3 (fun _ => 0)), (false, tab 3 (fun _ => 0)), (false, tab 16 (fun _ => 0)), (false, tab 16 (fun _ => 0)), (true, tab 16 (fun _ => 0)), (false, tab 64 (fun _ => 0)), (false, tab 64 (fun _ => 0)), (false, tab 2048 (fun _ => 0))]) (ww hw 9 rfl) rfl (d0 112 rfl) (by decide) rfl (by decide) rfl rfl ?_
  refine Ev.cput (v' := .ref (pre.length + 1 + 27)) (fs' := [.ref (pre.length + 1 + 0), .ref (pre.length + 1 + 1), .ref (pre.length + 1 + 2), .ref (pre.length + 1 + 3), .ref (pre.length + 1 + 4), .ref (pre.length + 1 + 5), .ref (pre.length + 1 + 6), .ref (pre.length + 1 + 7), .ref (pre.length + 1 + 8), .ref (pre.length + 1 + 9), .ref (pre.length + 1 + 10), .ref (pre.length + 1 + 11), .ref (pre.length + 1 + 12), .ref (pre.length + 1 + 13), .ref (pre.length + 1 + 14), .ref (pre.length + 1 + 15), .ref (pre.length + 1 + 16), .ref (pre.length + 1 + 17), .ref (pre.length + 1 + 18), .ref (pre.length + 1 + 19), .ref (pre.length + 1 + 20), .ref (pre.length + 1 + 21), .ref (pre.length + 1 + 22), .ref (pre.length + 1 + 23), .ref (pre.length + 1 + 24), .ref (pre.length + 1 + 25), .ref (pre.length + 1 + 26), .ref (pre.length + 1 + 27), .null, .null, .null, .null, .null, .int 0, .int 0, .int 0, .int 0, .int 0, .int 0, .int 0, .int 0, .int 0, .int 0]) (gok hw) hk (ww hw 65 rfl) (Or.inr ⟨ww hw 66 rfl, rfl, rfl⟩) (d0 113 rfl) (j := 27) rfl rfl rfl ?_
  refine Ev.aloadN (d0 114 rfl) rfl ?_
  refine Ev.sipush (z := 2048) (d0 115 rfl) rfl ?_
  refine Ev.cnew (aty := .int) (b := false) (k := 2048) (q := 28) (as' := [(false, tab 32 (fun _ => 0)), (false, tab 32 (fun _ => 0)), (false, tab 32 (fun _ => 0)), (false, tab 32 (fun _ => 0)), (false, tab 32 (fun _ => 0)), (false, tab 3 (fun _ => 0)), (false, tab 8 (fun _ => 0)), (false, tab 1056 (fun _ => 0)), (false, tab 1056 (fun _ => 0)), (false, tab 1056 (fun _ => 0)), (false, tab 1056 (fun _ => 0)), (false, tab 1056 (fun _ => 0)), (false, tab 1056 (fun _ => 0)), (false, tab 4 (fun _ => 0)), (false, tab 2 (fun _ => 0)), (false, tab 64 (fun _ => 0)), (false, tab 8 (fun _ => 0)), (false, tab 32 (fun _ => 0)), (false, tab 32 (fun _ => 0)), (false, tab 4 (fun _ => 0)), (false, tab 3 (fun _ => 0)), (false, tab 3 (fun _ => 0)), (false, tab 16 (fun _ => 0)), (false, tab 16 (fun _ => 0)), (true, tab 16 (fun _ => 0)), (false, tab 64 (fun _ => 0)), (false, tab 64 (fun _ => 0)), (false, tab 2048 (fun _ => 0)), (false, tab 2048 (fun _ => 0))]) (ww hw 9 rfl) rfl (d0 116 rfl) (by decide) rfl (by decide) rfl rfl ?_
  refine Ev.cput (v' := .ref (pre.length + 1 + 28)) (fs' := [.ref (pre.length + 1 + 0), .ref (pre.length + 1 + 1), .ref (pre.length + 1 + 2), .ref (pre.length + 1 + 3), .ref (pre.length + 1 + 4), .ref (pre.length + 1 + 5), .ref (pre.length + 1 + 6), .ref (pre.length + 1 + 7), .ref (pre.length + 1 + 8), .ref (pre.length + 1 + 9), .ref (pre.length + 1 + 10), .ref (pre.length + 1 + 11), .ref (pre.length + 1 + 12), .ref (pre.length + 1 + 13), .ref (pre.length + 1 + 14), .ref (pre.length + 1 + 15), .ref (pre.length + 1 + 16), .ref (pre.length + 1 + 17), .ref (pre.length + 1 + 18), .ref (pre.length + 1 + 19), .ref (pre.length + 1 + 20), .ref (pre.length + 1 + 21), .ref (pre.length + 1 + 22), .ref (pre.length + 1 + 23), .ref (pre.length + 1 + 24), .ref (pre.length + 1 + 25), .ref (pre.length + 1 + 26), .ref (pre.length + 1 + 27), .ref (pre.length + 1 + 28), .null, .null, .null, .null, .int 0, .int 0, .int 0, .int 0, .int 0, .int 0, .int 0, .int 0, .int 0, .int 0]) (gok hw) hk (ww hw 67 rfl) (Or.inr ⟨ww hw 68 rfl, rfl, rfl⟩) (d0 117 rfl) (j := 28) rfl rfl rfl ?_
  refine Ev.aloadN (d0 118 rfl) rfl ?_
  refine Ev.sipush (z := 2048) (d0 119 rfl) rfl ?_
  refine Ev.cnew (aty := .int) (b := false) (k := 2048) (q := 29) (as' := [(false, tab 32 (fun _ => 0)), (false, tab 32 (fun _ => 0)), (false, tab 32 (fun _ => 0)), (false, tab 32 (fun _ => 0)), (false, tab 32 (fun _ => 0)), (false, tab 3 (fun _ => 0)), (false, tab 8 (fun _ => 0)), (false, tab 1056 (fun _ => 0)), (false, tab 1056 (fun _ => 0)), (false, tab 1056 (fun _ => 0)), (false, tab 1056 (fun _ => 0)), (false, tab 1056 (fun _ => 0)), (false, tab 1056 (fun _ => 0)), (false, tab 4 (fun _ => 0)), (false, tab 2 (fun _ => 0)), (false, tab 64 (fun _ => 0)), (false, tab 8 (fun _ => 0)), (false, tab 32 (fun _ => 0)), (false, tab 32 (fun _ => 0)), (false, tab 4 (fun _ => 0)), (false, tab 3 (fun _ => 0)), (false, tab 3 (fun _ => 0)), (false, tab 16 (fun _ => 0)), (false, tab 16 (fun _ => 0)), (true, tab 16 (fun _ => 0)), (false, tab 64 (fun _ => 0)), (false, tab 64 (fun _ => 0)), (false, tab 2048 (fun _ => 0)), (false, tab 2048 (fun _ => 0)), (false, tab 2048 (fun _ => 0))]) (ww hw 9 rfl) rfl (d0 120 rfl) (by decide) rfl (by decide) rfl rfl ?_
  refine Ev.cput (v' := .ref (pre.length + 1 + 29)) (fs' := [.ref (pre.length + 1 + 0), .ref (pre.length + 1 + 1), .ref (pre.length + 1 + 2), .ref (pre.length + 1 + 3), .ref (pre.length + 1 + 4), .ref (pre.length + 1 + 5), .ref (pre.length + 1 + 6), .ref (pre.length + 1 + 7), .ref (pre.length + 1 + 8), .ref (pre.length + 1 + 9), .ref (pre.length + 1 + 10), .ref (pre.length + 1 + 11), .ref (pre.length + 1 + 12), .ref (pre.length + 1 + 13), .ref (pre.length + 1 + 14), .ref (pre.length + 1 + 15), .ref (pre.length + 1 + 16), .ref (pre.length + 1 + 17), .ref (pre.length + 1 + 18), .ref (pre.length + 1 + 19), .ref (pre.length + 1 + 20), .ref (pre.length + 1 + 21), .ref (pre.length + 1 + 22), .ref (pre.length + 1 + 23), .ref (pre.length + 1 + 24), .ref (pre.length + 1 + 25), .ref (pre.length + 1 + 26), .ref (pre.length + 1 + 27), .ref (pre.length + 1 + 28), .ref (pre.length + 1 + 29), .null, .null, .null, .int 0, .int 0, .int 0, .int 0, .int 0, .int 0, .int 0, .int 0, .int 0, .int 0]) (gok hw) hk (ww hw 69 rfl) (Or.inr ⟨ww hw 70 rfl, rfl, rfl⟩) (d0 121 rfl) (j := 29) rfl rfl rfl ?_
  refine Ev.aloadN (d0 122 rfl) rfl ?_
  refine Ev.sipush (z := 2048) (d0 123 rfl) rfl ?_
  refine Ev.cnew (aty := .int) (b := false) (k := 2048) (q := 30) (as' := [(false, tab 32 (fun _ => 0)), (false, tab 32 (fun _ => 0)), (false, tab 32 (fun _ => 0)), (false, tab 32 (fun _ => 0)), (false, tab 32 (fun _ => 0)), (false, tab 3 (fun _ => 0)), (false, tab 8 (fun _ => 0)), (false, tab 1056 (fun _ => 0)), (false, tab 1056 (fun _ => 0)), (false, tab 1056 (fun _ => 0)), (false, tab 1056 (fun _ => 0)), (false, tab 1056 (fun _ => 0)), (false, tab 1056 (fun _ => 0)), (false, tab 4 (fun _ => 0)), (false, tab 2 (fun _ => 0)), (false, tab 64 (fun _ => 0)), (false, tab 8 (fun _ => 0)), (false, tab 32 (fun _ => 0)), (false, tab 32 (fun _ => 0)), (false, tab 4 (fun _ => 0)), (false, tab 3 (fun _ => 0)), (false, tab 3 (fun _ => 0)), (false, tab 16 (fun _ => 0)), (false, tab 16 (fun _ => 0)), (true, tab 16 (fun _ => 0)), (false, tab 64 (fun _ => 0)), (false, tab 64 (fun _ => 0)), (false, tab 2048 (fun _ => 0)), (false, tab 2048 (fun _ => 0)), (false, tab 2048 (fun _ => 0)), (false, tab 2048 (fun _ => 0))]) (ww hw 9 rfl) rfl (d0 124 rfl) (by decide) rfl (by decide) rfl rfl ?_
  refine Ev.cput (v' := .ref (pre.length + 1 + 30)) (fs' := [.ref (pre.length + 1 + 0), .ref (pre.length + 1 + 1), .ref (pre.length + 1 + 2), .ref (pre.length + 1 + 3), .ref (pre.length + 1 + 4), .ref (pre.length + 1 + 5), .ref (pre.length + 1 + 6), .ref (pre.length + 1 + 7), .ref (pre.length + 1 + 8), .ref (pre.length + 1 + 9), .ref (pre.length + 1 + 10), .ref (pre.length + 1 + 11), .ref (pre.length + 1 + 12), .ref (pre.length + 1 + 13), .ref (pre.length + 1 + 14), .ref (pre.length + 1 + 15), .ref (pre.length + 1 + 16), .ref (pre.length + 1 + 17), .ref (pre.length + 1 + 18), .ref (pre.length + 1 + 19), .ref (pre.length + 1 + 20), .ref (pre.length + 1 + 21), .ref (pre.length + 1 + 22), .ref (pre.length + 1 + 23), .ref (pre.length + 1 + 24), .ref (pre.length + 1 + 25), .ref (pre.length + 1 + 26), .ref (pre.length + 1 + 27), .ref (pre.length + 1 + 28), .ref (pre.length + 1 + 29), .ref (pre.length + 1 + 30), .null, .null, .int 0, .int 0, .int 0, .int 0, .int 0, .int 0, .int 0, .int 0, .int 0, .int 0]) (gok hw) hk (ww hw 71 rfl) (Or.inr ⟨ww hw 72 rfl, rfl, rfl⟩) (d0 125 rfl) (j := 30) rfl rfl rfl ?_
  refine Ev.aloadN (d0 126 rfl) rfl ?_
  refine Ev.sipush (z := 2048) (d0 127 rfl) rfl ?_
  refine Ev.cnew (aty := .boolean) (b := true) (k := 2048) (q := 31) (as' := [(false, tab 32 (fun _ => 0)), (false, tab 32 (fun _ => 0)), (false, tab 32 (fun _ => 0)), (false, tab 32 (fun _ => 0)), (false, tab 32 (fun _ => 0)), (false, tab 3 (fun _ => 0)), (false, tab 8 (fun _ => 0)), (false, tab 1056 (fun _ => 0)), (false, tab 1056 (fun _ => 0)), (false, tab 1056 (fun _ => 0)), (false, tab 1056 (fun _ => 0)), (false, tab 1056 (fun _ => 0)), (false, tab 1056 (fun _ => 0)), (false, tab 4 (fun _ => 0)), (false, tab 2 (fun _ => 0)), (false, tab 64 (fun _ => 0)), (false, tab 8 (fun _ => 0)), (false, tab 32 (fun _ => 0)), (false, tab 32 (fun _ => 0)), (false, tab 4 (fun _ => 0)), (false, tab 3 (fun _ => 0)), (false, tab 3 (fun _ => 0)), (false, tab 16 (fun _ => 0)), (false, tab 16 (fun _ => 0)), (true, tab 16 (fun _ => 0)), (false, tab 64 (fun _ => 0)), (false, tab 64 (fun _ => 0)), (false, tab 2048 (fun _ => 0)), (false, tab 2048 (fun _ => 0)), (false, tab 2048 (fun _ => 0)), (false, tab 2048 (fun _ => 0)), (true, tab 2048 (fun _ => 0))]) (ww hw 58 rfl) rfl (d0 128 rfl) (by decide) rfl (by decide) rfl rfl ?_
  refine Ev.cput (v' := .ref (pre.length + 1 + 31)) (fs' := [.ref (pre.length + 1 + 0), .ref (pre.length + 1 + 1), .ref (pre.length + 1 + 2), .ref (pre.length + 1 + 3), .ref (pre.length + 1 + 4), .ref (pre.length + 1 + 5), .ref (pre.length + 1 + 6), .ref (pre.length + 1 + 7), .ref (pre.length + 1 + 8), .ref (pre.length + 1 + 9), .ref (pre.length + 1 + 10), .ref (pre.length + 1 + 11), .ref (pre.length + 1 + 12), .ref (pre.length + 1 + 13), .ref (pre.length + 1 + 14), .ref (pre.length + 1 + 15), .ref (pre.length + 1 + 16), .ref (pre.length + 1 + 17), .ref (pre.length + 1 + 18), .ref (pre.length + 1 + 19), .ref (pre.length + 1 + 20), .ref (pre.length + 1 + 21), .ref (pre.length + 1 + 22), .ref (pre.length + 1 + 23), .ref (pre.length + 1 + 24), .ref (pre.length + 1 + 25), .ref (pre.length + 1 + 26), .ref (pre.length + 1 + 27), .ref (pre.length + 1 + 28), .ref (pre.length + 1 + 29), .ref (pre.length + 1 + 30), .ref (pre.length + 1 + 31), .null, .int 0, .int 0, .int 0, .int 0, .int 0, .int 0, .int 0, .int 0, .int 0, .int 0]) (gok hw) hk (ww hw 73 rfl) (Or.inr ⟨ww hw 74 rfl, rfl, rfl⟩) (d0 129 rfl) (j := 31) rfl rfl rfl ?_
  refine Ev.aloadN (d0 130 rfl) rfl ?_
  refine Ev.sipush (z := 1024) (d0 131 rfl) rfl ?_
  refine Ev.cnew (aty := .int) (b := false) (k := 1024) (q := 32) (as' := [(false, tab 32 (fun _ => 0)), (false, tab 32 (fun _ => 0)), (false, tab 32 (fun _ => 0)), (false, tab 32 (fun _ => 0)), (false, tab 32 (fun _ => 0)), (false, tab 3 (fun _ => 0)), (false, tab 8 (fun _ => 0)), (false, tab 1056 (fun _ => 0)), (false, tab 1056 (fun _ => 0)), (false, tab 1056 (fun _ => 0)), (false, tab 1056 (fun _ => 0)), (false, tab 1056 (fun _ => 0)), (false, tab 1056 (fun _ => 0)), (false, tab 4 (fun _ => 0)), (false, tab 2 (fun _ => 0)), (false, tab 64 (fun _ => 0)), (false, tab 8 (fun _ => 0)), (false, tab 32 (fun _ => 0)), (false, tab 32 (fun _ => 0)), (false, tab 4 (fun _ => 0)), (false, tab 3 (fun _ => 0)), (false, tab 3 (fun _ => 0)), (false, tab 16 (fun _ => 0)), (false, tab 16 (fun _ => 0)), (true, tab 16 (fun _ => 0)), (false, tab 64 (fun _ => 0)), (false, tab 64 (fun _ => 0)), (false, tab 2048 (fun _ => 0)), (false, tab 2048 (fun _ => 0)), (false, tab 2048 (fun _ => 0)), (false, tab 2048 (fun _ => 0)), (true, tab 2048 (fun _ => 0)), (false, tab 1024 (fun _ => 0))]) (ww hw 9 rfl) rfl (d0 132 rfl) (by decide) rfl (by decide) rfl rfl ?_
  refine Ev.cput (v' := .ref (pre.length + 1 + 32)) (fs' := [.ref (pre.length + 1 + 0), .ref (pre.length + 1 + 1), .ref (pre.length + 1 + 2), .ref (pre.length + 1 + 3), .ref (pre.length + 1 + 4), .ref (pre.length + 1 + 5), .ref (pre.length + 1 + 6), .ref (pre.length + 1 + 7), .ref (pre.length + 1 + 8), .ref (pre.length + 1 + 9), .ref (pre.length + 1 + 10), .ref (pre.length + 1 + 11), .ref (pre.length + 1 + 12), .ref (pre.length + 1 + 13), .ref (pre.length + 1 + 14), .ref (pre.length + 1 + 15), .ref (pre.length + 1 + 16), .ref (pre.length + 1 + 17), .ref (pre.length + 1 + 18), .ref (pre.length + 1 + 19), .ref (pre.length + 1 + 20), .ref (pre.length + 1 + 21), .ref (pre.length + 1 + 22), .ref (pre.length + 1 + 23), .ref (pre.length + 1 + 24), .ref (pre.length + 1 + 25), .ref (pre.length + 1 + 26), .ref (pre.length + 1 + 27), .ref (pre.length + 1 + 28), .ref (pre.length + 1 + 29), .ref (pre.length + 1 + 30), .ref (pre.length + 1 + 31), .ref (pre.length + 1 + 32), .int 0, .int 0, .int 0, .int 0, .int 0, .int 0, .int 0, .int 0, .int 0, .int 0]) (gok hw) hk (ww hw 75 rfl) (Or.inr ⟨ww hw 76 rfl, rfl, rfl⟩) (d0 133 rfl) (j := 32) rfl rfl rfl ?_
  show Ev (GG g) M_ctor 274 [.val (.ref pre.length), .val (.int a0), .unset] [] (KH flds al Ln pre [] zeroS) _
  exact e_ctor_274 hw (K := KH flds al Ln pre []) (o := pre.length) (r := rA pre.length al) (view_of hk al_ok al_nd) a0 zeroS .unset rfl _ hr
def f_argumentOk_54 (s : St) (x2 : Int32) : Option (Int32) :=
  if x2 < 0 then
    some (0 : Int32)
  else
    if x2 < (4 : Int32) then
      some (1 : Int32)
    else
      some (0 : Int32)
set_option maxRecDepth 100000 in
theorem e_argumentOk_54 {g : GT} {s : St} (hw : HW g) {K : St → MHeap} {o : Nat} {r : Nat → Nat} (V : View (GG g) Ln K o r) (x2 : Int32) (y0 : Slot) (hy0 : one1 y0 = true) (y1 : Slot) (hy1 : one1 y1 = true) (w : Int32) (hr : f_argumentOk_54 s x2 = some w) : Ev (GG g) M_argumentOk 54 [y0, y1, .val (.int x2)] [] (K s) ((some (.int w)), (K s)) := by
  unfold f_argumentOk_54 at hr
  refine Ev.iloadN (d3 30 rfl) rfl ?_
  refine Ev.iflt (t := 67) (d3 31 rfl) rfl (fun c1 => ?_) (fun c1 => ?_)
  · replace hr := (if_pos c1).symm.trans hr
    refine Ev.iconst (z := 0) (d3 37 rfl) rfl ?_
    cases hr
    exact Ev.zret0 rfl (d3 38 rfl)
  · replace hr := (if_neg c1).symm.trans hr
    refine Ev.iloadN (d3 32 rfl) rfl ?_
    refine Ev.iconst (z := 4) (d3 33 rfl) rfl ?_
    refine Ev.icge (t := 67) (d3 34 rfl) rfl (fun c2 => ?_) (fun c2 => ?_)
    · replace hr := (if_pos c2).symm.trans hr
      refine Ev.iconst (z := 1) (d3 35 rfl) rfl ?_
      refine Ev.goto (t := 68) (d3 36 rfl) rfl ?_
      cases hr
      exact Ev.zret1 rfl (d3 38 rfl)
    · replace hr := (if_neg c2).symm.trans hr
      refine Ev.iconst (z := 0) (d3 37 rfl) rfl ?_
      cases hr
      exact Ev.zret0 rfl (d3 38 rfl)
def f_argumentOk (s : St) (a0 : Int32) (a1 : Int32) : Option (Int32) :=
  if a0 = (2 : Int32) then
    if a1 < 0 then
      some (0 : Int32)
    else
      if a1 < (8 : Int32) then
        some (1 : Int32)
      else
        some (0 : Int32)
  else
    if a0 = (13 : Int32) then
      if a1 < 0 then
        some (0 : Int32)
      else
        if (7 : Int32) < a1 then
          some (0 : Int32)
        else
          some (1 : Int32)
    else
      if a0 = (3 : Int32) then
        f_argumentOk_54 s a1
      else
        if a0 = (11 : Int32) then
          f_argumentOk_54 s a1
        else
          some (1 : Int32)
set_option maxRecDepth 100000 in
theorem e_argumentOk {g : GT} {s : St} {a0 : Int32} {a1 : Int32} {w : Int32} (hw : HW g) {K : St → MHeap} {o : Nat} {r : Nat → Nat} (V : View (GG g) Ln K o r) (hr : f_argumentOk s a0 a1 = some w) : EvC (GG g) M_argumentOk [.ref o, .int a0, .int a1] (K s) ((some (.int w)), (K s)) := by
  refine EvC.enter (L0 := [.val (.ref o), .val (.int a0), .val (.int a1)]) pl_argumentOk (fun h => nomatch h) rfl rfl ?_
  unfold f_argumentOk at hr
  refine Ev.iloadN (d3 0 rfl) rfl ?_
  refine Ev.iconst (z := 2) (d3 1 rfl) rfl ?_
  refine Ev.icne (t := 21) (d3 2 rfl) rfl (fun c1 => ?_) (fun c1 => ?_)
  · replace hr := (if_pos c1).symm.trans hr
    refine Ev.iloadN (d3 3 rfl) rfl ?_
    refine Ev.iflt (t := 19) (d3 4 rfl) rfl (fun c2 => ?_) (fun c2 => ?_)
    · replace hr := (if_pos c2).symm.trans hr
      refine Ev.iconst (z := 0) (d3 10 rfl) rfl ?_
      cases hr
      exact Ev.zret0 rfl (d3 11 rfl)
    · replace hr := (if_neg c2).symm.trans hr
      refine Ev.iloadN (d3 5 rfl) rfl ?_
      refine Ev.bipush (z := 8) (d3 6 rfl) rfl ?_
      refine Ev.icge (t := 19) (d3 7 rfl) rfl (fun c3 => ?_) (fun c3 => ?_)
      · replace hr := (if_pos c3).symm.trans hr
        refine Ev.iconst (z := 1) (d3 8 rfl) rfl ?_
        refine Ev.goto (t := 20) (d3 9 rfl) rfl ?_
        cases hr
        exact Ev.zret1 rfl (d3 11 rfl)
      · replace hr := (if_neg c3).symm.trans hr
        refine Ev.iconst (z := 0) (d3 10 rfl) rfl ?_
        cases hr
        exact Ev.zret0 rfl (d3 11 rfl)
  · replace hr := (if_neg c1).symm.trans hr
    refine Ev.iloadN (d3 12 rfl) rfl ?_
    refine Ev.bipush (z := 13) (d3 13 rfl) rfl ?_
    refine Ev.icne (t := 43) (d3 14 rfl) rfl (fun c4 => ?_) (fun c4 => ?_)
    · replace hr := (if_pos c4).symm.trans hr
      refine Ev.iloadN (d3 15 rfl) rfl ?_
      refine Ev.iflt (t := 41) (d3 16 rfl) rfl (fun c5 => ?_) (fun c5 => ?_)
      · replace hr := (if_pos c5).symm.trans hr
        refine Ev.iconst (z := 0) (d3 22 rfl) rfl ?_
        cases hr
        exact Ev.zret0 rfl (d3 23 rfl)
      · replace hr := (if_neg c5).symm.trans hr
        refine Ev.iloadN (d3 17 rfl) rfl ?_
        refine Ev.bipush (z := 7) (d3 18 rfl) rfl ?_
        refine Ev.icgt (t := 41) (d3 19 rfl) rfl (fun c6 => ?_) (fun c6 => ?_)
        · replace hr := (if_pos c6).symm.trans hr
          refine Ev.iconst (z := 0) (d3 22 rfl) rfl ?_
          cases hr
          exact Ev.zret0 rfl (d3 23 rfl)
        · replace hr := (if_neg c6).symm.trans hr
          refine Ev.iconst (z := 1) (d3 20 rfl) rfl ?_
          refine Ev.goto (t := 42) (d3 21 rfl) rfl ?_
          cases hr
          exact Ev.zret1 rfl (d3 23 rfl)
    · replace hr := (if_neg c4).symm.trans hr
      refine Ev.iloadN (d3 24 rfl) rfl ?_
      refine Ev.iconst (z := 3) (d3 25 rfl) rfl ?_
      refine Ev.iceq (t := 54) (d3 26 rfl) rfl (fun c7 => ?_) (fun c7 => ?_)
      · replace hr := (if_pos c7).symm.trans hr
        exact e_argumentOk_54 hw V  a1 (.val (.ref o)) rfl (.val (.int a0)) rfl _ hr
      · replace hr := (if_neg c7).symm.trans hr
        refine Ev.iloadN (d3 27 rfl) rfl ?_
        refine Ev.bipush (z := 11) (d3 28 rfl) rfl ?_
        refine Ev.icne (t := 69) (d3 29 rfl) rfl (fun c8 => ?_) (fun c8 => ?_)
        · replace hr := (if_pos c8).symm.trans hr
          exact e_argumentOk_54 hw V  a1 (.val (.ref o)) rfl (.val (.int a0)) rfl _ hr
        · replace hr := (if_neg c8).symm.trans hr
          refine Ev.iconst (z := 1) (d3 39 rfl) rfl ?_
          cases hr
          exact Ev.zret1 rfl (d3 40 rfl)
def f_operandsOk_39 (s : St) (x2 : Int32) : Option (Int32) :=
  none
set_option maxRecDepth 100000 in
theorem e_operandsOk_39 {g : GT} {s : St} (hw : HW g) {K : St → MHeap} {o : Nat} {r : Nat → Nat} (V : View (GG g) Ln K o r) (x2 : Int32) (y1 : Slot) (hy1 : one1 y1 = true) (y3 : Slot) (hy3 : one1 y3 = true) (w : Int32) (hr : f_operandsOk_39 s x2 = some w) : Ev (GG g) M_operandsOk 39 [.val (.ref o), y1, .val (.int x2), y3] [] (K s) ((some (.int w)), (K s)) := by
  unfold f_operandsOk_39 at hr
  refine Ev.aloadN (d4 22 rfl) rfl ?_
  refine Ev.iloadN (d4 23 rfl) rfl ?_
  cases hr
def f_operandsOk_27 (s : St) (x1 : Int32) (x2 : Int32) (x3 : Int32) : Option (Int32) :=
  if x1 = (10 : Int32) then
    f_operandsOk_39 s x2
  else
    if x1 = (12 : Int32) then
      f_operandsOk_39 s x2
    else
      if x1 = (11 : Int32) then
        none
      else
        some (1 : Int32)
set_option maxRecDepth 100000 in
theorem e_operandsOk_27 {g : GT} {s : St} (hw : HW g) {K : St → MHeap} {o : Nat} {r : Nat → Nat} (V : View (GG g) Ln K o r) (x1 : Int32) (x2 : Int32) (x3 : Int32) (w : Int32) (hr : f_operandsOk_27 s x1 x2 x3 = some w) : Ev (GG g) M_operandsOk 27 [.val (.ref o), .val (.int x1), .val (.int x2), .val (.int x3)] [] (K s) ((some (.int w)), (K s)) := by
  unfold f_operandsOk_27 at hr
  refine Ev.iloadN (d4 16 rfl) rfl ?_
  refine Ev.bipush (z := 10) (d4 17 rfl) rfl ?_
  refine Ev.iceq (t := 39) (d4 18 rfl) rfl (fun c1 => ?_) (fun c1 => ?_)
  · replace hr := (if_pos c1).symm.trans hr
    exact e_operandsOk_39 hw V  x2 (.val (.int x1)) rfl (.val (.int x3)) rfl _ hr
  · replace hr := (if_neg c1).symm.trans hr
    refine Ev.iloadN (d4 19 rfl) rfl ?_
    refine Ev.bipush (z := 12) (d4 20 rfl) rfl ?_
    refine Ev.icne (t := 45) (d4 21 rfl) rfl (fun c2 => ?_) (fun c2 => ?_)
    · replace hr := (if_pos c2).symm.trans hr
      exact e_operandsOk_39 hw V  x2 (.val (.int x1)) rfl (.val (.int x3)) rfl _ hr
    · replace hr := (if_neg c2).symm.trans hr
      refine Ev.iloadN (d4 26 rfl) rfl ?_
      refine Ev.bipush (z := 11) (d4 27 rfl) rfl ?_
      refine Ev.icne (t := 57) (d4 28 rfl) rfl (fun c3 => ?_) (fun c3 => ?_)
      · replace hr := (if_pos c3).symm.trans hr
        refine Ev.aloadN (d4 29 rfl) rfl ?_
        refine Ev.iloadN (d4 30 rfl) rfl ?_
        cases hr
      · replace hr := (if_neg c3).symm.trans hr
        refine Ev.iconst (z := 1) (d4 33 rfl) rfl ?_
        cases hr
        exact Ev.zret1 rfl (d4 34 rfl)
def f_operandsOk (s : St) (a0 : Int32) (a1 : Int32) (a2 : Int32) : Option (Int32) :=
  if a0 < (4 : Int32) then
    f_operandsOk_27 s a0 a1 a2
  else
    if (9 : Int32) < a0 then
      f_operandsOk_27 s a0 a1 a2
    else
      none
set_option maxRecDepth 100000 in
theorem e_operandsOk {g : GT} {s : St} {a0 : Int32} {a1 : Int32} {a2 : Int32} {w : Int32} (hw : HW g) {K : St → MHeap} {o : Nat} {r : Nat → Nat} (V : View (GG g) Ln K o r) (hr : f_operandsOk s a0 a1 a2 = some w) : EvC (GG g) M_operandsOk [.ref o, .int a0, .int a1, .int a2] (K s) ((some (.int w)), (K s)) := by
  refine EvC.enter (L0 := [.val (.ref o), .val (.int a0), .val (.int a1), .val (.int a2)]) pl_operandsOk (fun h => nomatch h) rfl rfl ?_
  unfold f_operandsOk at hr
  refine Ev.iloadN (d4 0 rfl) rfl ?_
  refine Ev.iconst (z := 4) (d4 1 rfl) rfl ?_
  refine Ev.iclt (t := 27) (d4 2 rfl) rfl (fun c1 => ?_) (fun c1 => ?_)
  · replace hr := (if_pos c1).symm.trans hr
    exact e_operandsOk_27 hw V  a0 a1 a2  _ hr
  · replace hr := (if_neg c1).symm.trans hr
    refine Ev.iloadN (d4 3 rfl) rfl ?_
    refine Ev.bipush (z := 9) (d4 4 rfl) rfl ?_
    refine Ev.icgt (t := 27) (d4 5 rfl) rfl (fun c2 => ?_) (fun c2 => ?_)
    · replace hr := (if_pos c2).symm.trans hr
      exact e_operandsOk_27 hw V  a0 a1 a2  _ hr
    · replace hr := (if_neg c2).symm.trans hr
      refine Ev.aloadN (d4 6 rfl) rfl ?_
      refine Ev.iloadN (d4 7 rfl) rfl ?_
      cases hr
def f_usesX (s : St) (a0 : Int32) : Option (Int32) :=
  if a0 = (14 : Int32) then
    some (0 : Int32)
  else
    some (1 : Int32)
set_option maxRecDepth 100000 in
theorem e_usesX {g : GT} {s : St} {a0 : Int32} {w : Int32} (hw : HW g) {K : St → MHeap} {o : Nat} {r : Nat → Nat} (V : View (GG g) Ln K o r) (hr : f_usesX s a0 = some w) : EvC (GG g) M_usesX [.ref o, .int a0] (K s) ((some (.int w)), (K s)) := by
  refine EvC.enter (L0 := [.val (.ref o), .val (.int a0)]) pl_usesX (fun h => nomatch h) rfl rfl ?_
  unfold f_usesX at hr
  refine Ev.iloadN (d6 0 rfl) rfl ?_
  refine Ev.bipush (z := 14) (d6 1 rfl) rfl ?_
  refine Ev.iceq (t := 10) (d6 2 rfl) rfl (fun c1 => ?_) (fun c1 => ?_)
  · replace hr := (if_pos c1).symm.trans hr
    refine Ev.iconst (z := 0) (d6 5 rfl) rfl ?_
    cases hr
    exact Ev.zret0 rfl (d6 6 rfl)
  · replace hr := (if_neg c1).symm.trans hr
    refine Ev.iconst (z := 1) (d6 3 rfl) rfl ?_
    refine Ev.goto (t := 11) (d6 4 rfl) rfl ?_
    cases hr
    exact Ev.zret1 rfl (d6 6 rfl)
def f_usesY_13 (s : St) (x1 : Int32) : Option (Int32) :=
  if x1 = (11 : Int32) then
    some (1 : Int32)
  else
    some (0 : Int32)
set_option maxRecDepth 100000 in
theorem e_usesY_13 {g : GT} {s : St} (hw : HW g) {K : St → MHeap} {o : Nat} {r : Nat → Nat} (V : View (GG g) Ln K o r) (x1 : Int32) (y0 : Slot) (hy0 : one1 y0 = true) (w : Int32) (hr : f_usesY_13 s x1 = some w) : Ev (GG g) M_usesY 13 [y0, .val (.int x1)] [] (K s) ((some (.int w)), (K s)) := by
  unfold f_usesY_13 at hr
  refine Ev.iloadN (d7 8 rfl) rfl ?_
  refine Ev.bipush (z := 11) (d7 9 rfl) rfl ?_
  refine Ev.icne (t := 23) (d7 10 rfl) rfl (fun c1 => ?_) (fun c1 => ?_)
  · replace hr := (if_pos c1).symm.trans hr
    refine Ev.iconst (z := 1) (d7 11 rfl) rfl ?_
    refine Ev.goto (t := 24) (d7 12 rfl) rfl ?_
    cases hr
    exact Ev.zret1 rfl (d7 14 rfl)
  · replace hr := (if_neg c1).symm.trans hr
    refine Ev.iconst (z := 0) (d7 13 rfl) rfl ?_
    cases hr
    exact Ev.zret0 rfl (d7 14 rfl)
def f_usesY (s : St) (a0 : Int32) : Option (Int32) :=
  if a0 < (4 : Int32) then
    f_usesY_13 s a0
  else
    if (9 : Int32) < a0 then
      f_usesY_13 s a0
    else
      some (1 : Int32)
set_option maxRecDepth 100000 in
theorem e_usesY {g : GT} {s : St} {a0 : Int32} {w : Int32} (hw : HW g) {K : St → MHeap} {o : Nat} {r : Nat → Nat} (V : View (GG g) Ln K o r) (hr : f_usesY s a0 = some w) : EvC (GG g) M_usesY [.ref o, .int a0] (K s) ((some (.int w)), (K s)) := by
  refine EvC.enter (L0 := [.val (.ref o), .val (.int a0)]) pl_usesY (fun h => nomatch h) rfl rfl ?_
  unfold f_usesY at hr
  refine Ev.iloadN (d7 0 rfl) rfl ?_
  refine Ev.iconst (z := 4) (d7 1 rfl) rfl ?_
  refine Ev.iclt (t := 13) (d7 2 rfl) rfl (fun c1 => ?_) (fun c1 => ?_)
  · replace hr := (if_pos c1).symm.trans hr
    exact e_usesY_13 hw V  a0 (.val (.ref o)) rfl _ hr
  · replace hr := (if_neg c1).symm.trans hr
    refine Ev.iloadN (d7 3 rfl) rfl ?_
    refine Ev.bipush (z := 9) (d7 4 rfl) rfl ?_
    refine Ev.icgt (t := 13) (d7 5 rfl) rfl (fun c2 => ?_) (fun c2 => ?_)
    · replace hr := (if_pos c2).symm.trans hr
      exact e_usesY_13 hw V  a0 (.val (.ref o)) rfl _ hr
    · replace hr := (if_neg c2).symm.trans hr
      refine Ev.iconst (z := 1) (d7 6 rfl) rfl ?_
      cases hr
      exact Ev.zret1 rfl (d7 7 rfl)
def f_store_234 (x4 : Int32) (s : St) : Option (Int32 × St) :=
  bnd (setI s 35 ((s.1 35) + (1 : Int32))) fun s1 =>
  bnd (setI s1 37 ((0 : Int32) &&& 1)) fun s2 =>
  some (x4, s2)
set_option maxRecDepth 100000 in
theorem e_store_234 {g : GT} (hw : HW g) {K : St → MHeap} {o : Nat} {r : Nat → Nat} (V : View (GG g) Ln K o r) (x4 : Int32) (s : St) (y1 : Slot) (hy1 : one1 y1 = true) (y2 : Slot) (hy2 : one1 y2 = true) (y3 : Slot) (hy3 : one1 y3 = true) (y5 : Slot) (hy5 : one1 y5 = true) (w : Int32 × St) (hr : f_store_234 x4 s = some w) : Ev (GG g) M_store 234 [.val (.ref o), y1, y2, y3, .val (.int x4), y5] [] (K s) ((some (.int w.1)), (K w.2)) := by
  unfold f_store_234 at hr
  refine Ev.aloadN (d5 125 rfl) rfl ?_
  refine Ev.dup (d5 126 rfl) rfl ?_
  refine Ev.gI V (ww hw 86 rfl) (d5 127 rfl) (j := 35) rfl rfl ?_
  refine Ev.iconst (z := 1) (d5 128 rfl) rfl ?_
  refine Ev.iadd (d5 129 rfl) ?_
  refine Ev.pI V (gok hw) (ww hw 86 rfl) (Or.inl (ww hw 87 rfl)) (d5 130 rfl) (j := 35) rfl ?_
  revert hr
  generalize setI s 35 ((s.1 35) + (1 : Int32)) = s1
  intro hr
  replace hr := (bnd_eq _ _).symm.trans hr
  refine Ev.aloadN (d5 131 rfl) rfl ?_
  refine Ev.iconst (z := 0) (d5 132 rfl) rfl ?_
  refine Ev.pZ V (gok hw) (ww hw 110 rfl) (Or.inl (ww hw 111 rfl)) (d5 133 rfl) (j := 37) rfl ?_
  revert hr
  generalize setI s1 37 ((0 : Int32) &&& 1) = s2
  intro hr
  replace hr := (bnd_eq _ _).symm.trans hr
  refine Ev.iload (d5 134 rfl) rfl ?_
  cases hr
  exact Ev.ireturn rfl (d5 135 rfl)
def f_store_162 (x1 : Int32) (x4 : Int32) (s : St) : Option (Int32 × St) :=
  if x1 = (14 : Int32) then
    if 0 < (s.1 36) then
      if (3 : Int32) < (s.1 36) then
        f_store_234 x4 s
      else
        bnd (setI s 36 ((s.1 36) - (1 : Int32))) fun s4 =>
        grd (inb (s4.1 36) 3) <|
        grd (inb x4 32) <|
        bnd (setA s4 4 (ix x4) (s4.2 5 (ix (s4.1 36)))) fun s7 =>
        if (s4.2 5 (ix (s4.1 36))) < 0 then
          f_store_234 x4 s7
        else
          if (s4.2 5 (ix (s4.1 36))) < (32 : Int32) then
            grd (inb (s4.2 5 (ix (s4.1 36))) 32) <|
            bnd (setA s7 4 (ix (s4.2 5 (ix (s4.1 36)))) x4) fun s11 =>
            f_store_234 x4 s11
          else
            f_store_234 x4 s7
    else
      f_store_234 x4 s
  else
    f_store_234 x4 s
set_option maxRecDepth 100000 in
theorem e_store_162 {g : GT} (hw : HW g) {K : St → MHeap} {o : Nat} {r : Nat → Nat} (V : View (GG g) Ln K o r) (x1 : Int32) (x4 : Int32) (s : St) (y2 : Slot) (hy2 : one1 y2 = true) (y3 : Slot) (hy3 : one1 y3 = true) (y5 : Slot) (hy5 : one1 y5 = true) (w : Int32 × St) (hr : f_store_162 x1 x4 s = some w) : Ev (GG g) M_store 162 [.val (.ref o), .val (.int x1), y2, y3, .val (.int x4), y5] [] (K s) ((some (.int w.1)), (K w.2)) := by
  unfold f_store_162 at hr
  refine Ev.iloadN (d5 88 rfl) rfl ?_
  refine Ev.bipush (z := 14) (d5 89 rfl) rfl ?_
  refine Ev.icne (t := 234) (d5 90 rfl) rfl (fun c1 => ?_) (fun c1 => ?_)
  · replace hr := (if_pos c1).symm.trans hr
    refine Ev.aloadN (d5 91 rfl) rfl ?_
    refine Ev.gI V (ww hw 108 rfl) (d5 92 rfl) (j := 36) rfl rfl ?_
    refine Ev.ifle (t := 234) (d5 93 rfl) rfl (fun c2 => ?_) (fun c2 => ?_)
    · replace hr := (if_pos c2).symm.trans hr
      refine Ev.aloadN (d5 94 rfl) rfl ?_
      refine Ev.gI V (ww hw 108 rfl) (d5 95 rfl) (j := 36) rfl rfl ?_
      refine Ev.iconst (z := 3) (d5 96 rfl) rfl ?_
      refine Ev.icgt (t := 234) (d5 97 rfl) rfl (fun c3 => ?_) (fun c3 => ?_)
      · replace hr := (if_pos c3).symm.trans hr
        exact e_store_234 hw V  x4 s (.val (.int x1)) rfl y2 hy2 y3 hy3 y5 hy5 _ hr
      · replace hr := (if_neg c3).symm.trans hr
        refine Ev.aloadN (d5 98 rfl) rfl ?_
        refine Ev.dup (d5 99 rfl) rfl ?_
        refine Ev.gI V (ww hw 108 rfl) (d5 100 rfl) (j := 36) rfl rfl ?_
        refine Ev.iconst (z := 1) (d5 101 rfl) rfl ?_
        refine Ev.isub (d5 102 rfl) ?_
        refine Ev.pI V (gok hw) (ww hw 108 rfl) (Or.inl (ww hw 109 rfl)) (d5 103 rfl) (j := 36) rfl ?_
        revert hr
        generalize setI s 36 ((s.1 36) - (1 : Int32)) = s4
        intro hr
        replace hr := (bnd_eq _ _).symm.trans hr
        refine Ev.aloadN (d5 104 rfl) rfl ?_
        refine Ev.gAr V (ww hw 20 rfl) (d5 105 rfl) (j := 5) rfl ?_
        refine Ev.aloadN (d5 106 rfl) rfl ?_
        refine Ev.gI V (ww hw 108 rfl) (d5 107 rfl) (j := 36) rfl rfl ?_
        obtain ⟨b5, hr⟩ := grd_some hr
        refine Ev.ial V (j := 5) rfl rfl (d5 108 rfl) b5 ?_
        refine Ev.istD (L' := [.val (.ref o), .val (.int x1), y2, y3, .val (.int x4), .val (.int (s4.2 5 (ix (s4.1 36))))]) (d5 109 rfl) rfl hy5 rfl ?_
        refine Ev.aloadN (d5 110 rfl) rfl ?_
        refine Ev.gAr V (ww hw 18 rfl) (d5 111 rfl) (j := 4) rfl ?_
        refine Ev.iload (d5 112 rfl) rfl ?_
        refine Ev.iload (d5 113 rfl) rfl ?_
        obtain ⟨b6, hr⟩ := grd_some hr
        refine Ev.ias V (j := 4) rfl rfl (d5 114 rfl) b6 ?_
        revert hr
        generalize setA s4 4 (ix x4) (s4.2 5 (ix (s4.1 36))) = s7
        intro hr
        replace hr := (bnd_eq _ _).symm.trans hr
        refine Ev.iload (d5 115 rfl) rfl ?_
        refine Ev.iflt (t := 234) (d5 116 rfl) rfl (fun c8 => ?_) (fun c8 => ?_)
        · replace hr := (if_pos c8).symm.trans hr
          exact e_store_234 hw V  x4 s7 (.val (.int x1)) rfl y2 hy2 y3 hy3 (.val (.int (s4.2 5 (ix (s4.1 36))))) rfl _ hr
        · replace hr := (if_neg c8).symm.trans hr
          refine Ev.iload (d5 117 rfl) rfl ?_
          refine Ev.bipush (z := 32) (d5 118 rfl) rfl ?_
          refine Ev.icge (t := 234) (d5 119 rfl) rfl (fun c9 => ?_) (fun c9 => ?_)
          · replace hr := (if_pos c9).symm.trans hr
            refine Ev.aloadN (d5 120 rfl) rfl ?_
            refine Ev.gAr V (ww hw 18 rfl) (d5 121 rfl) (j := 4) rfl ?_
            refine Ev.iload (d5 122 rfl) rfl ?_
            refine Ev.iload (d5 123 rfl) rfl ?_
            obtain ⟨b10, hr⟩ := grd_some hr
            refine Ev.ias V (j := 4) rfl rfl (d5 124 rfl) b10 ?_
            revert hr
            generalize setA s7 4 (ix (s4.2 5 (ix (s4.1 36)))) x4 = s11
            intro hr
            replace hr := (bnd_eq _ _).symm.trans hr
            exact e_store_234 hw V  x4 s11 (.val (.int x1)) rfl y2 hy2 y3 hy3 (.val (.int (s4.2 5 (ix (s4.1 36))))) rfl _ hr
          · replace hr := (if_neg c9).symm.trans hr
            exact e_store_234 hw V  x4 s7 (.val (.int x1)) rfl y2 hy2 y3 hy3 (.val (.int (s4.2 5 (ix (s4.1 36))))) rfl _ hr
    · replace hr := (if_neg c2).symm.trans hr
      exact e_store_234 hw V  x4 s (.val (.int x1)) rfl y2 hy2 y3 hy3 y5 hy5 _ hr
  · replace hr := (if_neg c1).symm.trans hr
    exact e_store_234 hw V  x4 s (.val (.int x1)) rfl y2 hy2 y3 hy3 y5 hy5 _ hr
def f_store_109 (x1 : Int32) (x4 : Int32) (s : St) : Option (Int32 × St) :=
  grd (inb x4 32) <|
  bnd (setA s 4 (ix x4) (-1 : Int32)) fun s2 =>
  if x1 = (13 : Int32) then
    if (s2.1 36) < 0 then
      f_store_162 x1 x4 s2
    else
      if (s2.1 36) < (3 : Int32) then
        grd (inb (s2.1 36) 3) <|
        bnd (setA s2 5 (ix (s2.1 36)) x4) fun s7 =>
        bnd (setI s7 36 ((s7.1 36) + (1 : Int32))) fun s8 =>
        f_store_234 x4 s8
      else
        f_store_162 x1 x4 s2
  else
    f_store_162 x1 x4 s2
set_option maxRecDepth 100000 in
theorem e_store_109 {g : GT} (hw : HW g) {K : St → MHeap} {o : Nat} {r : Nat → Nat} (V : View (GG g) Ln K o r) (x1 : Int32) (x4 : Int32) (s : St) (y2 : Slot) (hy2 : one1 y2 = true) (y3 : Slot) (hy3 : one1 y3 = true) (y5 : Slot) (hy5 : one1 y5 = true) (w : Int32 × St) (hr : f_store_109 x1 x4 s = some w) : Ev (GG g) M_store 109 [.val (.ref o), .val (.int x1), y2, y3, .val (.int x4), y5] [] (K s) ((some (.int w.1)), (K w.2)) := by
  unfold f_store_109 at hr
  refine Ev.aloadN (d5 60 rfl) rfl ?_
  refine Ev.gAr V (ww hw 18 rfl) (d5 61 rfl) (j := 4) rfl ?_
  refine Ev.iload (d5 62 rfl) rfl ?_
  refine Ev.iconst (z := -1) (d5 63 rfl) rfl ?_
  obtain ⟨b1, hr⟩ := grd_some hr
  refine Ev.ias V (j := 4) rfl rfl (d5 64 rfl) b1 ?_
  revert hr
  generalize setA s 4 (ix x4) (-1 : Int32) = s2
  intro hr
  replace hr := (bnd_eq _ _).symm.trans hr
  refine Ev.iloadN (d5 65 rfl) rfl ?_
  refine Ev.bipush (z := 13) (d5 66 rfl) rfl ?_
  refine Ev.icne (t := 162) (d5 67 rfl) rfl (fun c3 => ?_) (fun c3 => ?_)
  · replace hr := (if_pos c3).symm.trans hr
    refine Ev.aloadN (d5 68 rfl) rfl ?_
    refine Ev.gI V (ww hw 108 rfl) (d5 69 rfl) (j := 36) rfl rfl ?_
    refine Ev.iflt (t := 162) (d5 70 rfl) rfl (fun c4 => ?_) (fun c4 => ?_)
    · replace hr := (if_pos c4).symm.trans hr
      exact e_store_162 hw V  x1 x4 s2 y2 hy2 y3 hy3 y5 hy5 _ hr
    · replace hr := (if_neg c4).symm.trans hr
      refine Ev.aloadN (d5 71 rfl) rfl ?_
      refine Ev.gI V (ww hw 108 rfl) (d5 72 rfl) (j := 36) rfl rfl ?_
      refine Ev.iconst (z := 3) (d5 73 rfl) rfl ?_
      refine Ev.icge (t := 162) (d5 74 rfl) rfl (fun c5 => ?_) (fun c5 => ?_)
      · replace hr := (if_pos c5).symm.trans hr
        refine Ev.aloadN (d5 75 rfl) rfl ?_
        refine Ev.gAr V (ww hw 20 rfl) (d5 76 rfl) (j := 5) rfl ?_
        refine Ev.aloadN (d5 77 rfl) rfl ?_
        refine Ev.gI V (ww hw 108 rfl) (d5 78 rfl) (j := 36) rfl rfl ?_
        refine Ev.iload (d5 79 rfl) rfl ?_
        obtain ⟨b6, hr⟩ := grd_some hr
        refine Ev.ias V (j := 5) rfl rfl (d5 80 rfl) b6 ?_
        revert hr
        generalize setA s2 5 (ix (s2.1 36)) x4 = s7
        intro hr
        replace hr := (bnd_eq _ _).symm.trans hr
        refine Ev.aloadN (d5 81 rfl) rfl ?_
        refine Ev.dup (d5 82 rfl) rfl ?_
        refine Ev.gI V (ww hw 108 rfl) (d5 83 rfl) (j := 36) rfl rfl ?_
        refine Ev.iconst (z := 1) (d5 84 rfl) rfl ?_
        refine Ev.iadd (d5 85 rfl) ?_
        refine Ev.pI V (gok hw) (ww hw 108 rfl) (Or.inl (ww hw 109 rfl)) (d5 86 rfl) (j := 36) rfl ?_
        revert hr
        generalize setI s7 36 ((s7.1 36) + (1 : Int32)) = s8
        intro hr
        replace hr := (bnd_eq _ _).symm.trans hr
        refine Ev.goto (t := 234) (d5 87 rfl) rfl ?_
        exact e_store_234 hw V  x4 s8 (.val (.int x1)) rfl y2 hy2 y3 hy3 y5 hy5 _ hr
      · replace hr := (if_neg c5).symm.trans hr
        exact e_store_162 hw V  x1 x4 s2 y2 hy2 y3 hy3 y5 hy5 _ hr
  · replace hr := (if_neg c3).symm.trans hr
    exact e_store_162 hw V  x1 x4 s2 y2 hy2 y3 hy3 y5 hy5 _ hr
def f_store_67 (x1 : Int32) (x4 : Int32) (z0 : Int32) (z1 : Int32) (s : St) : Option (Int32 × St) :=
  grd (inb z1 32) <|
  bnd (setA s 2 (ix z1) z0) fun s2 =>
  grd (inb x4 32) <|
  bnd (setA s2 3 (ix x4) (-1 : Int32)) fun s4 =>
  if 0 < (s4.1 36) then
    if (3 : Int32) < (s4.1 36) then
      f_store_109 x1 x4 s4
    else
      grd (inb ((s4.1 36) - (1 : Int32)) 3) <|
      bnd (setA s4 3 (ix x4) (s4.2 5 (ix ((s4.1 36) - (1 : Int32))))) fun s8 =>
      f_store_109 x1 x4 s8
  else
    f_store_109 x1 x4 s4
set_option maxRecDepth 100000 in
theorem e_store_67 {g : GT} (hw : HW g) {K : St → MHeap} {o : Nat} {r : Nat → Nat} (V : View (GG g) Ln K o r) (x1 : Int32) (x4 : Int32) (z0 : Int32) (z1 : Int32) (s : St) (y2 : Slot) (hy2 : one1 y2 = true) (y3 : Slot) (hy3 : one1 y3 = true) (y5 : Slot) (hy5 : one1 y5 = true) (w : Int32 × St) (hr : f_store_67 x1 x4 z0 z1 s = some w) : Ev (GG g) M_store 67 [.val (.ref o), .val (.int x1), y2, y3, .val (.int x4), y5] [.int z0, .int z1, .ref (r 2)] (K s) ((some (.int w.1)), (K w.2)) := by
  unfold f_store_67 at hr
  obtain ⟨b1, hr⟩ := grd_some hr
  refine Ev.ias V (j := 2) rfl rfl (d5 36 rfl) b1 ?_
  revert hr
  generalize setA s 2 (ix z1) z0 = s2
  intro hr
  replace hr := (bnd_eq _ _).symm.trans hr
  refine Ev.aloadN (d5 37 rfl) rfl ?_
  refine Ev.gAr V (ww hw 16 rfl) (d5 38 rfl) (j := 3) rfl ?_
  refine Ev.iload (d5 39 rfl) rfl ?_
  refine Ev.iconst (z := -1) (d5 40 rfl) rfl ?_
  obtain ⟨b3, hr⟩ := grd_some hr
  refine Ev.ias V (j := 3) rfl rfl (d5 41 rfl) b3 ?_
  revert hr
  generalize setA s2 3 (ix x4) (-1 : Int32) = s4
  intro hr
  replace hr := (bnd_eq _ _).symm.trans hr
  refine Ev.aloadN (d5 42 rfl) rfl ?_
  refine Ev.gI V (ww hw 108 rfl) (d5 43 rfl) (j := 36) rfl rfl ?_
  refine Ev.ifle (t := 109) (d5 44 rfl) rfl (fun c5 => ?_) (fun c5 => ?_)
  · replace hr := (if_pos c5).symm.trans hr
    refine Ev.aloadN (d5 45 rfl) rfl ?_
    refine Ev.gI V (ww hw 108 rfl) (d5 46 rfl) (j := 36) rfl rfl ?_
    refine Ev.iconst (z := 3) (d5 47 rfl) rfl ?_
    refine Ev.icgt (t := 109) (d5 48 rfl) rfl (fun c6 => ?_) (fun c6 => ?_)
    · replace hr := (if_pos c6).symm.trans hr
      exact e_store_109 hw V  x1 x4 s4 y2 hy2 y3 hy3 y5 hy5 _ hr
    · replace hr := (if_neg c6).symm.trans hr
      refine Ev.aloadN (d5 49 rfl) rfl ?_
      refine Ev.gAr V (ww hw 16 rfl) (d5 50 rfl) (j := 3) rfl ?_
      refine Ev.iload (d5 51 rfl) rfl ?_
      refine Ev.aloadN (d5 52 rfl) rfl ?_
      refine Ev.gAr V (ww hw 20 rfl) (d5 53 rfl) (j := 5) rfl ?_
      refine Ev.aloadN (d5 54 rfl) rfl ?_
      refine Ev.gI V (ww hw 108 rfl) (d5 55 rfl) (j := 36) rfl rfl ?_
      refine Ev.iconst (z := 1) (d5 56 rfl) rfl ?_
      refine Ev.isub (d5 57 rfl) ?_
      obtain ⟨b7, hr⟩ := grd_some hr
      refine Ev.ial V (j := 5) rfl rfl (d5 58 rfl) b7 ?_
      refine Ev.ias V (j := 3) rfl rfl (d5 59 rfl) b3 ?_
      revert hr
      generalize setA s4 3 (ix x4) (s4.2 5 (ix ((s4.1 36) - (1 : Int32)))) = s8
      intro hr
      replace hr := (bnd_eq _ _).symm.trans hr
      exact e_store_109 hw V  x1 x4 s8 y2 hy2 y3 hy3 y5 hy5 _ hr
  · replace hr := (if_neg c5).symm.trans hr
    exact e_store_109 hw V  x1 x4 s4 y2 hy2 y3 hy3 y5 hy5 _ hr
def f_store_47 (x1 : Int32) (x3 : Int32) (x4 : Int32) (z0 : Int32) (z1 : Int32) (s : St) : Option (Int32 × St) :=
  grd (inb z1 32) <|
  bnd (setA s 1 (ix z1) z0) fun s2 =>
  (f_usesY s2 x1).bind fun q3 =>
  if q3 = 0 then
    f_store_67 x1 x4 (0 : Int32) x4 s2
  else
    f_store_67 x1 x4 x3 x4 s2
set_option maxRecDepth 100000 in
theorem e_store_47 {g : GT} (hw : HW g) {K : St → MHeap} {o : Nat} {r : Nat → Nat} (V : View (GG g) Ln K o r) (x1 : Int32) (x3 : Int32) (x4 : Int32) (z0 : Int32) (z1 : Int32) (s : St) (y2 : Slot) (hy2 : one1 y2 = true) (y5 : Slot) (hy5 : one1 y5 = true) (w : Int32 × St) (hr : f_store_47 x1 x3 x4 z0 z1 s = some w) : Ev (GG g) M_store 47 [.val (.ref o), .val (.int x1), y2, .val (.int x3), .val (.int x4), y5] [.int z0, .int z1, .ref (r 1)] (K s) ((some (.int w.1)), (K w.2)) := by
  unfold f_store_47 at hr
  obtain ⟨b1, hr⟩ := grd_some hr
  refine Ev.ias V (j := 1) rfl rfl (d5 25 rfl) b1 ?_
  revert hr
  generalize setA s 1 (ix z1) z0 = s2
  intro hr
  replace hr := (bnd_eq _ _).symm.trans hr
  refine Ev.aloadN (d5 26 rfl) rfl ?_
  refine Ev.gAr V (ww hw 14 rfl) (d5 27 rfl) (j := 2) rfl ?_
  refine Ev.iload (d5 28 rfl) rfl ?_
  refine Ev.aloadN (d5 29 rfl) rfl ?_
  refine Ev.iloadN (d5 30 rfl) rfl ?_
  obtain ⟨q3, hq4, hr⟩ := Option.bind_eq_some_iff.mp hr
  refine Ev.priv (y := M_usesY) (args := [.int x1]) (rest := [.int x4, .ref (r 2)]) (gok hw) rfl nm_usesY (ww hw 104 rfl) (ww hw 105 rfl) (ww hw 106 rfl) (ww hw 107 rfl) (lenOf pd_usesY rfl) (d5 31 rfl) (V.2.1 s2) (e_usesY hw V hq4) (by decide) (Nat.le_of_ble_eq_true rfl) rfl ?_
  refine Ev.ifeq (t := 66) (d5 32 rfl) rfl (fun c5 => ?_) (fun c5 => ?_)
  · replace hr := (if_pos c5).symm.trans hr
    refine Ev.iconst (z := 0) (d5 35 rfl) rfl ?_
    exact e_store_67 hw V  x1 x4 (0 : Int32) x4 s2 y2 hy2 (.val (.int x3)) rfl y5 hy5 _ hr
  · replace hr := (if_neg c5).symm.trans hr
    refine Ev.iloadN (d5 33 rfl) rfl ?_
    refine Ev.goto (t := 67) (d5 34 rfl) rfl ?_
    exact e_store_67 hw V  x1 x4 x3 x4 s2 y2 hy2 (.val (.int x3)) rfl y5 hy5 _ hr
def f_store (a0 : Int32) (a1 : Int32) (a2 : Int32) (s : St) : Option (Int32 × St) :=
  if (s.1 35) < 0 then
    some ((-1 : Int32), s)
  else
    if (s.1 35) < (32 : Int32) then
      grd (inb (s.1 35) 32) <|
      bnd (setA s 0 (ix (s.1 35)) a0) fun s4 =>
      (f_usesX s4 a0).bind fun q5 =>
      if q5 = 0 then
        f_store_47 a0 a2 (s.1 35) (0 : Int32) (s.1 35) s4
      else
        f_store_47 a0 a2 (s.1 35) a1 (s.1 35) s4
    else
      some ((-1 : Int32), s)
set_option maxRecDepth 100000 in
theorem e_store {g : GT} {a0 : Int32} {a1 : Int32} {a2 : Int32} {s : St} {w : Int32 × St} (hw : HW g) {K : St → MHeap} {o : Nat} {r : Nat → Nat} (V : View (GG g) Ln K o r) (hr : f_store a0 a1 a2 s = some w) : EvC (GG g) M_store [.ref o, .int a0, .int a1, .int a2] (K s) ((some (.int w.1)), (K w.2)) := by
  refine EvC.enter (L0 := [.val (.ref o), .val (.int a0), .val (.int a1), .val (.int a2), .unset, .unset]) pl_store (fun h => nomatch h) rfl rfl ?_
  unfold f_store at hr
  refine Ev.aloadN (d5 0 rfl) rfl ?_
  refine Ev.gI V (ww hw 86 rfl) (d5 1 rfl) (j := 35) rfl rfl ?_
  refine Ev.istD (L' := [.val (.ref o), .val (.int a0), .val (.int a1), .val (.int a2), .val (.int (s.1 35)), .unset]) (d5 2 rfl) rfl rfl rfl ?_
  refine Ev.iload (d5 3 rfl) rfl ?_
  refine Ev.iflt (t := 18) (d5 4 rfl) rfl (fun c1 => ?_) (fun c1 => ?_)
  · replace hr := (if_pos c1).symm.trans hr
    refine Ev.iconst (z := -1) (d5 8 rfl) rfl ?_
    cases hr
    exact Ev.ireturn rfl (d5 9 rfl)
  · replace hr := (if_neg c1).symm.trans hr
    refine Ev.iload (d5 5 rfl) rfl ?_
    refine Ev.bipush (z := 32) (d5 6 rfl) rfl ?_
    refine Ev.iclt (t := 20) (d5 7 rfl) rfl (fun c2 => ?_) (fun c2 => ?_)
    · replace hr := (if_pos c2).symm.trans hr
      refine Ev.aloadN (d5 10 rfl) rfl ?_
      refine Ev.gAr V (ww hw 10 rfl) (d5 11 rfl) (j := 0) rfl ?_
      refine Ev.iload (d5 12 rfl) rfl ?_
      refine Ev.iloadN (d5 13 rfl) rfl ?_
      obtain ⟨b3, hr⟩ := grd_some hr
      refine Ev.ias V (j := 0) rfl rfl (d5 14 rfl) b3 ?_
      revert hr
      generalize setA s 0 (ix (s.1 35)) a0 = s4
      intro hr
      replace hr := (bnd_eq _ _).symm.trans hr
      refine Ev.aloadN (d5 15 rfl) rfl ?_
      refine Ev.gAr V (ww hw 12 rfl) (d5 16 rfl) (j := 1) rfl ?_
      refine Ev.iload (d5 17 rfl) rfl ?_
      refine Ev.aloadN (d5 18 rfl) rfl ?_
      refine Ev.iloadN (d5 19 rfl) rfl ?_
      obtain ⟨q5, hq6, hr⟩ := Option.bind_eq_some_iff.mp hr
      refine Ev.priv (y := M_usesX) (args := [.int a0]) (rest := [.int (s.1 35), .ref (r 1)]) (gok hw) rfl nm_usesX (ww hw 100 rfl) (ww hw 101 rfl) (ww hw 102 rfl) (ww hw 103 rfl) (lenOf pd_usesX rfl) (d5 20 rfl) (V.2.1 s4) (e_usesX hw V hq6) (by decide) (Nat.le_of_ble_eq_true rfl) rfl ?_
      refine Ev.ifeq (t := 46) (d5 21 rfl) rfl (fun c7 => ?_) (fun c7 => ?_)
      · replace hr := (if_pos c7).symm.trans hr
        refine Ev.iconst (z := 0) (d5 24 rfl) rfl ?_
        exact e_store_47 hw V  a0 a2 (s.1 35) (0 : Int32) (s.1 35) s4 (.val (.int a1)) rfl .unset rfl _ hr
      · replace hr := (if_neg c7).symm.trans hr
        refine Ev.iloadN (d5 22 rfl) rfl ?_
        refine Ev.goto (t := 47) (d5 23 rfl) rfl ?_
        exact e_store_47 hw V  a0 a2 (s.1 35) a1 (s.1 35) s4 (.val (.int a1)) rfl .unset rfl _ hr
    · replace hr := (if_neg c2).symm.trans hr
      refine Ev.iconst (z := -1) (d5 8 rfl) rfl ?_
      cases hr
      exact Ev.ireturn rfl (d5 9 rfl)
def f_add_85 (x1 : Int32) (x2 : Int32) (x3 : Int32) (s : St) : Option (Int32 × St) :=
  (f_store x1 x2 x3 s).bind fun q1 =>
  some (q1.1, q1.2)
set_option maxRecDepth 100000 in
theorem e_add_85 {g : GT} (hw : HW g) {K : St → MHeap} {o : Nat} {r : Nat → Nat} (V : View (GG g) Ln K o r) (x1 : Int32) (x2 : Int32) (x3 : Int32) (s : St) (w : Int32 × St) (hr : f_add_85 x1 x2 x3 s = some w) : Ev (GG g) M_add 85 [.val (.ref o), .val (.int x1), .val (.int x2), .val (.int x3)] [] (K s) ((some (.int w.1)), (K w.2)) := by
  unfold f_add_85 at hr
  refine Ev.aloadN (d2 47 rfl) rfl ?_
  refine Ev.iloadN (d2 48 rfl) rfl ?_
  refine Ev.iloadN (d2 49 rfl) rfl ?_
  refine Ev.iloadN (d2 50 rfl) rfl ?_
  obtain ⟨q1, hq2, hr⟩ := Option.bind_eq_some_iff.mp hr
  refine Ev.priv (y := M_store) (args := [.int x1, .int x2, .int x3]) (rest := []) (gok hw) rfl nm_store (ww hw 96 rfl) (ww hw 97 rfl) (ww hw 98 rfl) (ww hw 99 rfl) (lenOf pd_store rfl) (d2 51 rfl) (V.2.1 s) (e_store hw V hq2) (by decide) (Nat.le_of_ble_eq_true rfl) rfl ?_
  cases hr
  exact Ev.ireturn rfl (d2 52 rfl)
def f_add_69 (x1 : Int32) (x2 : Int32) (x3 : Int32) (s : St) : Option (Int32 × St) :=
  if x1 = (14 : Int32) then
    if 0 < (s.1 36) then
      f_add_85 x1 x2 x3 s
    else
      some ((-5 : Int32), s)
  else
    f_add_85 x1 x2 x3 s
set_option maxRecDepth 100000 in
theorem e_add_69 {g : GT} (hw : HW g) {K : St → MHeap} {o : Nat} {r : Nat → Nat} (V : View (GG g) Ln K o r) (x1 : Int32) (x2 : Int32) (x3 : Int32) (s : St) (w : Int32 × St) (hr : f_add_69 x1 x2 x3 s = some w) : Ev (GG g) M_add 69 [.val (.ref o), .val (.int x1), .val (.int x2), .val (.int x3)] [] (K s) ((some (.int w.1)), (K w.2)) := by
  unfold f_add_69 at hr
  refine Ev.iloadN (d2 39 rfl) rfl ?_
  refine Ev.bipush (z := 14) (d2 40 rfl) rfl ?_
  refine Ev.icne (t := 85) (d2 41 rfl) rfl (fun c1 => ?_) (fun c1 => ?_)
  · replace hr := (if_pos c1).symm.trans hr
    refine Ev.aloadN (d2 42 rfl) rfl ?_
    refine Ev.gI V (ww hw 108 rfl) (d2 43 rfl) (j := 36) rfl rfl ?_
    refine Ev.ifgt (t := 85) (d2 44 rfl) rfl (fun c2 => ?_) (fun c2 => ?_)
    · replace hr := (if_pos c2).symm.trans hr
      exact e_add_85 hw V  x1 x2 x3 s  _ hr
    · replace hr := (if_neg c2).symm.trans hr
      refine Ev.bipush (z := -5) (d2 45 rfl) rfl ?_
      cases hr
      exact Ev.ireturn rfl (d2 46 rfl)
  · replace hr := (if_neg c1).symm.trans hr
    exact e_add_85 hw V  x1 x2 x3 s  _ hr
def f_add (a0 : Int32) (a1 : Int32) (a2 : Int32) (s : St) : Option (Int32 × St) :=
  if (s.1 35) < (s.1 33) then
    if a0 < (1 : Int32) then
      some ((-2 : Int32), s)
    else
      if (14 : Int32) < a0 then
        some ((-2 : Int32), s)
      else
        (f_argumentOk s a0 a1).bind fun q4 =>
        if q4 = 0 then
          some ((-3 : Int32), s)
        else
          (f_operandsOk s a0 a1 a2).bind fun q7 =>
          if q7 = 0 then
            some ((-4 : Int32), s)
          else
            if a0 = (13 : Int32) then
              if (s.1 36) < (3 : Int32) then
                f_add_69 a0 a1 a2 s
              else
                some ((-5 : Int32), s)
            else
              f_add_69 a0 a1 a2 s
  else
    some ((-1 : Int32), s)
set_option maxRecDepth 100000 in
theorem e_add {g : GT} {a0 : Int32} {a1 : Int32} {a2 : Int32} {s : St} {w : Int32 × St} (hw : HW g) {K : St → MHeap} {o : Nat} {r : Nat → Nat} (V : View (GG g) Ln K o r) (hr : f_add a0 a1 a2 s = some w) : EvC (GG g) M_add [.ref o, .int a0, .int a1, .int a2] (K s) ((some (.int w.1)), (K w.2)) := by
  refine EvC.enter (L0 := [.val (.ref o), .val (.int a0), .val (.int a1), .val (.int a2)]) pl_add (fun h => nomatch h) rfl rfl ?_
  unfold f_add at hr
  refine Ev.aloadN (d2 0 rfl) rfl ?_
  refine Ev.gI V (ww hw 86 rfl) (d2 1 rfl) (j := 35) rfl rfl ?_
  refine Ev.aloadN (d2 2 rfl) rfl ?_
  refine Ev.gI V (ww hw 77 rfl) (d2 3 rfl) (j := 33) rfl rfl ?_
  refine Ev.iclt (t := 13) (d2 4 rfl) rfl (fun c1 => ?_) (fun c1 => ?_)
  · replace hr := (if_pos c1).symm.trans hr
    refine Ev.iloadN (d2 7 rfl) rfl ?_
    refine Ev.iconst (z := 1) (d2 8 rfl) rfl ?_
    refine Ev.iclt (t := 24) (d2 9 rfl) rfl (fun c2 => ?_) (fun c2 => ?_)
    · replace hr := (if_pos c2).symm.trans hr
      refine Ev.bipush (z := -2) (d2 13 rfl) rfl ?_
      cases hr
      exact Ev.ireturn rfl (d2 14 rfl)
    · replace hr := (if_neg c2).symm.trans hr
      refine Ev.iloadN (d2 10 rfl) rfl ?_
      refine Ev.bipush (z := 14) (d2 11 rfl) rfl ?_
      refine Ev.icle (t := 27) (d2 12 rfl) rfl (fun c3 => ?_) (fun c3 => ?_)
      · replace hr := (if_pos c3).symm.trans hr
        refine Ev.bipush (z := -2) (d2 13 rfl) rfl ?_
        cases hr
        exact Ev.ireturn rfl (d2 14 rfl)
      · replace hr := (if_neg c3).symm.trans hr
        refine Ev.aloadN (d2 15 rfl) rfl ?_
        refine Ev.iloadN (d2 16 rfl) rfl ?_
        refine Ev.iloadN (d2 17 rfl) rfl ?_
        obtain ⟨q4, hq5, hr⟩ := Option.bind_eq_some_iff.mp hr
        refine Ev.priv (y := M_argumentOk) (args := [.int a0, .int a1]) (rest := []) (gok hw) rfl nm_argumentOk (ww hw 88 rfl) (ww hw 89 rfl) (ww hw 90 rfl) (ww hw 91 rfl) (lenOf pd_argumentOk rfl) (d2 18 rfl) (V.2.1 s) (e_argumentOk hw V hq5) (by decide) (Nat.le_of_ble_eq_true rfl) rfl ?_
        refine Ev.ifne (t := 39) (d2 19 rfl) rfl (fun c6 => ?_) (fun c6 => ?_)
        · replace hr := (if_pos c6).symm.trans hr
          refine Ev.bipush (z := -3) (d2 20 rfl) rfl ?_
          cases hr
          exact Ev.ireturn rfl (d2 21 rfl)
        · replace hr := (if_neg c6).symm.trans hr
          refine Ev.aloadN (d2 22 rfl) rfl ?_
          refine Ev.iloadN (d2 23 rfl) rfl ?_
          refine Ev.iloadN (d2 24 rfl) rfl ?_
          refine Ev.iloadN (d2 25 rfl) rfl ?_
          obtain ⟨q7, hq8, hr⟩ := Option.bind_eq_some_iff.mp hr
          refine Ev.priv (y := M_operandsOk) (args := [.int a0, .int a1, .int a2]) (rest := []) (gok hw) rfl nm_operandsOk (ww hw 92 rfl) (ww hw 93 rfl) (ww hw 94 rfl) (ww hw 95 rfl) (lenOf pd_operandsOk rfl) (d2 26 rfl) (V.2.1 s) (e_operandsOk hw V hq8) (by decide) (Nat.le_of_ble_eq_true rfl) rfl ?_
          refine Ev.ifne (t := 52) (d2 27 rfl) rfl (fun c9 => ?_) (fun c9 => ?_)
          · replace hr := (if_pos c9).symm.trans hr
            refine Ev.bipush (z := -4) (d2 28 rfl) rfl ?_
            cases hr
            exact Ev.ireturn rfl (d2 29 rfl)
          · replace hr := (if_neg c9).symm.trans hr
            refine Ev.iloadN (d2 30 rfl) rfl ?_
            refine Ev.bipush (z := 13) (d2 31 rfl) rfl ?_
            refine Ev.icne (t := 69) (d2 32 rfl) rfl (fun c10 => ?_) (fun c10 => ?_)
            · replace hr := (if_pos c10).symm.trans hr
              refine Ev.aloadN (d2 33 rfl) rfl ?_
              refine Ev.gI V (ww hw 108 rfl) (d2 34 rfl) (j := 36) rfl rfl ?_
              refine Ev.iconst (z := 3) (d2 35 rfl) rfl ?_
              refine Ev.iclt (t := 69) (d2 36 rfl) rfl (fun c11 => ?_) (fun c11 => ?_)
              · replace hr := (if_pos c11).symm.trans hr
                exact e_add_69 hw V  a0 a1 a2 s  _ hr
              · replace hr := (if_neg c11).symm.trans hr
                refine Ev.bipush (z := -5) (d2 37 rfl) rfl ?_
                cases hr
                exact Ev.ireturn rfl (d2 38 rfl)
            · replace hr := (if_neg c10).symm.trans hr
              exact e_add_69 hw V  a0 a1 a2 s  _ hr
  · replace hr := (if_neg c1).symm.trans hr
    refine Ev.iconst (z := -1) (d2 5 rfl) rfl ?_
    cases hr
    exact Ev.ireturn rfl (d2 6 rfl)
def f_buildVersion0_93 (n : Nat) (k2 : Int32 → St → Option (St)) (x1 : Int32) (s : St) : Option (St) :=
  grd (inb x1 1056) <|
  bnd (setA s 10 (ix x1) (0 : Int32)) fun s2 =>
  k2 (x1 + (1 : Int32)) s2
set_option maxRecDepth 100000 in
theorem e_buildVersion0_93 {g : GT} {n : Nat} (hw : HW g) {K : St → MHeap} {o : Nat} {r : Nat → Nat} (V : View (GG g) Ln K o r) {k2 : Int32 → St → Option (St)} (hk2 : ∀ (x1 : Int32) (s : St) (y2 : Slot) (hy2 : one1 y2 = true) (w : St), k2 x1 s = some w → Ev (GG g) M_buildVersion0 2 [.val (.ref o), .val (.int x1), y2] [] (K s) (none, (K w))) (x1 : Int32) (s : St) (y2 : Slot) (hy2 : one1 y2 = true) (w : St) (hr : f_buildVersion0_93 n k2 x1 s = some w) : Ev (GG g) M_buildVersion0 93 [.val (.ref o), .val (.int x1), y2] [] (K s) (none, (K w)) := by
  unfold f_buildVersion0_93 at hr
  refine Ev.aloadN (d9 58 rfl) rfl ?_
  refine Ev.gAr V (ww hw 30 rfl) (d9 59 rfl) (j := 10) rfl ?_
  refine Ev.iloadN (d9 60 rfl) rfl ?_
  refine Ev.iconst (z := 0) (d9 61 rfl) rfl ?_
  obtain ⟨b1, hr⟩ := grd_some hr
  refine Ev.ias V (j := 10) rfl rfl (d9 62 rfl) b1 ?_
  revert hr
  generalize setA s 10 (ix x1) (0 : Int32) = s2
  intro hr
  replace hr := (bnd_eq _ _).symm.trans hr
  refine Ev.iinc (z := 1) (L' := [.val (.ref o), .val (.int (x1 + (1 : Int32))), y2]) (d9 63 rfl) rfl rfl rfl ?_
  refine Ev.goto (t := 2) (d9 64 rfl) rfl ?_
  exact hk2 (x1 + (1 : Int32)) s2 y2 hy2 _ hr
def f_buildVersion0_106 (n : Nat) (s : St) : Option (St) :=
  bnd (setI s 38 (s.1 35)) fun s1 =>
  some s1
set_option maxRecDepth 100000 in
theorem e_buildVersion0_106 {g : GT} {n : Nat} (hw : HW g) {K : St → MHeap} {o : Nat} {r : Nat → Nat} (V : View (GG g) Ln K o r) (s : St) (y1 : Slot) (hy1 : one1 y1 = true) (y2 : Slot) (hy2 : one1 y2 = true) (w : St) (hr : f_buildVersion0_106 n s = some w) : Ev (GG g) M_buildVersion0 106 [.val (.ref o), y1, y2] [] (K s) (none, (K w)) := by
  unfold f_buildVersion0_106 at hr
  refine Ev.aloadN (d9 65 rfl) rfl ?_
  refine Ev.aloadN (d9 66 rfl) rfl ?_
  refine Ev.gI V (ww hw 86 rfl) (d9 67 rfl) (j := 35) rfl rfl ?_
  refine Ev.pI V (gok hw) (ww hw 121 rfl) (Or.inl (ww hw 122 rfl)) (d9 68 rfl) (j := 38) rfl ?_
  revert hr
  generalize setI s 38 (s.1 35) = s1
  intro hr
  replace hr := (bnd_eq _ _).symm.trans hr
  cases hr
  exact Ev.vreturn rfl (d9 69 rfl)
def f_buildVersion0_2 (n : Nat) : Nat → Int32 → St → Option (St)
  | 0 => fun _ _ => none
  | k + 1 => fun x1 s =>
    if x1 < (s.1 35) then
      if x1 < (32 : Int32) then
        grd (inb x1 32) <|
        grd (inb x1 1056) <|
        bnd (setA s 7 (ix x1) (s.2 0 (ix x1))) fun s5 =>
        bnd (setA s5 8 (ix x1) (s5.2 1 (ix x1))) fun s6 =>
        bnd (setA s6 9 (ix x1) (s6.2 2 (ix x1))) fun s7 =>
        if (s.2 0 (ix x1)) = (13 : Int32) then
          bnd (setA s7 9 (ix x1) (s7.2 4 (ix x1))) fun s9 =>
          f_buildVersion0_93 n (f_buildVersion0_2 n k) x1 s9
        else
          if (s.2 0 (ix x1)) = (14 : Int32) then
            bnd (setA s7 8 (ix x1) (s7.2 4 (ix x1))) fun s11 =>
            f_buildVersion0_93 n (f_buildVersion0_2 n k) x1 s11
          else
            f_buildVersion0_93 n (f_buildVersion0_2 n k) x1 s7
      else
        f_buildVersion0_106 n s
    else
      f_buildVersion0_106 n s
set_option maxRecDepth 100000 in
theorem e_buildVersion0_2 {g : GT} {n : Nat} (hw : HW g) {K : St → MHeap} {o : Nat} {r : Nat → Nat} (V : View (GG g) Ln K o r) (k : Nat) : ∀ (x1 : Int32) (s : St) (y2 : Slot) (hy2 : one1 y2 = true) (w : St), f_buildVersion0_2 n k x1 s = some w → Ev (GG g) M_buildVersion0 2 [.val (.ref o), .val (.int x1), y2] [] (K s) (none, (K w)) := by
  induction k with
  | zero => intro x1 s y2 hy2 w hr; rw [f_buildVersion0_2] at hr; cases hr
  | succ k ih =>
    intro x1 s y2 hy2 w hr
    rw [f_buildVersion0_2] at hr
    refine Ev.iloadN (d9 2 rfl) rfl ?_
    refine Ev.aloadN (d9 3 rfl) rfl ?_
    refine Ev.gI V (ww hw 86 rfl) (d9 4 rfl) (j := 35) rfl rfl ?_
    refine Ev.icge (t := 106) (d9 5 rfl) rfl (fun c1 => ?_) (fun c1 => ?_)
    · replace hr := (if_pos c1).symm.trans hr
      refine Ev.iloadN (d9 6 rfl) rfl ?_
      refine Ev.bipush (z := 32) (d9 7 rfl) rfl ?_
      refine Ev.icge (t := 106) (d9 8 rfl) rfl (fun c2 => ?_) (fun c2 => ?_)
      · replace hr := (if_pos c2).symm.trans hr
        refine Ev.aloadN (d9 9 rfl) rfl ?_
        refine Ev.gAr V (ww hw 10 rfl) (d9 10 rfl) (j := 0) rfl ?_
        refine Ev.iloadN (d9 11 rfl) rfl ?_
        obtain ⟨b3, hr⟩ := grd_some hr
        refine Ev.ial V (j := 0) rfl rfl (d9 12 rfl) b3 ?_
        refine Ev.istDN (L' := [.val (.ref o), .val (.int x1), .val (.int (s.2 0 (ix x1)))]) (d9 13 rfl) rfl hy2 rfl ?_
        refine Ev.aloadN (d9 14 rfl) rfl ?_
        refine Ev.gAr V (ww hw 24 rfl) (d9 15 rfl) (j := 7) rfl ?_
        refine Ev.iloadN (d9 16 rfl) rfl ?_
        refine Ev.iloadN (d9 17 rfl) rfl ?_
        obtain ⟨b4, hr⟩ := grd_some hr
        refine Ev.ias V (j := 7) rfl rfl (d9 18 rfl) b4 ?_
        revert hr
        generalize setA s 7 (ix x1) (s.2 0 (ix x1)) = s5
        intro hr
        replace hr := (bnd_eq _ _).symm.trans hr
        refine Ev.aloadN (d9 19 rfl) rfl ?_
        refine Ev.gAr V (ww hw 26 rfl) (d9 20 rfl) (j := 8) rfl ?_
        refine Ev.iloadN (d9 21 rfl) rfl ?_
        refine Ev.aloadN (d9 22 rfl) rfl ?_
        refine Ev.gAr V (ww hw 12 rfl) (d9 23 rfl) (j := 1) rfl ?_
        refine Ev.iloadN (d9 24 rfl) rfl ?_
        refine Ev.ial V (j := 1) rfl rfl (d9 25 rfl) b3 ?_
        refine Ev.ias V (j := 8) rfl rfl (d9 26 rfl) b4 ?_
        revert hr
        generalize setA s5 8 (ix x1) (s5.2 1 (ix x1)) = s6
        intro hr
        replace hr := (bnd_eq _ _).symm.trans hr
        refine Ev.aloadN (d9 27 rfl) rfl ?_
        refine Ev.gAr V (ww hw 28 rfl) (d9 28 rfl) (j := 9) rfl ?_
        refine Ev.iloadN (d9 29 rfl) rfl ?_
        refine Ev.aloadN (d9 30 rfl) rfl ?_
        refine Ev.gAr V (ww hw 14 rfl) (d9 31 rfl) (j := 2) rfl ?_
        refine Ev.iloadN (d9 32 rfl) rfl ?_
        refine Ev.ial V (j := 2) rfl rfl (d9 33 rfl) b3 ?_
        refine Ev.ias V (j := 9) rfl rfl (d9 34 rfl) b4 ?_
        revert hr
        generalize setA s6 9 (ix x1) (s6.2 2 (ix x1)) = s7
        intro hr
        replace hr := (bnd_eq _ _).symm.trans hr
        refine Ev.iloadN (d9 35 rfl) rfl ?_
        refine Ev.bipush (z := 13) (d9 36 rfl) rfl ?_
        refine Ev.icne (t := 75) (d9 37 rfl) rfl (fun c8 => ?_) (fun c8 => ?_)
        · replace hr := (if_pos c8).symm.trans hr
          refine Ev.aloadN (d9 38 rfl) rfl ?_
          refine Ev.gAr V (ww hw 28 rfl) (d9 39 rfl) (j := 9) rfl ?_
          refine Ev.iloadN (d9 40 rfl) rfl ?_
          refine Ev.aloadN (d9 41 rfl) rfl ?_
          refine Ev.gAr V (ww hw 18 rfl) (d9 42 rfl) (j := 4) rfl ?_
          refine Ev.iloadN (d9 43 rfl) rfl ?_
          refine Ev.ial V (j := 4) rfl rfl (d9 44 rfl) b3 ?_
          refine Ev.ias V (j := 9) rfl rfl (d9 45 rfl) b4 ?_
          revert hr
          generalize setA s7 9 (ix x1) (s7.2 4 (ix x1)) = s9
          intro hr
          replace hr := (bnd_eq _ _).symm.trans hr
          refine Ev.goto (t := 93) (d9 46 rfl) rfl ?_
          exact e_buildVersion0_93 hw V ih x1 s9 (.val (.int (s.2 0 (ix x1)))) rfl _ hr
        · replace hr := (if_neg c8).symm.trans hr
          refine Ev.iloadN (d9 47 rfl) rfl ?_
          refine Ev.bipush (z := 14) (d9 48 rfl) rfl ?_
          refine Ev.icne (t := 93) (d9 49 rfl) rfl (fun c10 => ?_) (fun c10 => ?_)
          · replace hr := (if_pos c10).symm.trans hr
            refine Ev.aloadN (d9 50 rfl) rfl ?_
            refine Ev.gAr V (ww hw 26 rfl) (d9 51 rfl) (j := 8) rfl ?_
            refine Ev.iloadN (d9 52 rfl) rfl ?_
            refine Ev.aloadN (d9 53 rfl) rfl ?_
            refine Ev.gAr V (ww hw 18 rfl) (d9 54 rfl) (j := 4) rfl ?_
            refine Ev.iloadN (d9 55 rfl) rfl ?_
            refine Ev.ial V (j := 4) rfl rfl (d9 56 rfl) b3 ?_
            refine Ev.ias V (j := 8) rfl rfl (d9 57 rfl) b4 ?_
            revert hr
            generalize setA s7 8 (ix x1) (s7.2 4 (ix x1)) = s11
            intro hr
            replace hr := (bnd_eq _ _).symm.trans hr
            exact e_buildVersion0_93 hw V ih x1 s11 (.val (.int (s.2 0 (ix x1)))) rfl _ hr
          · replace hr := (if_neg c10).symm.trans hr
            exact e_buildVersion0_93 hw V ih x1 s7 (.val (.int (s.2 0 (ix x1)))) rfl _ hr
      · replace hr := (if_neg c2).symm.trans hr
        exact e_buildVersion0_106 hw V  s (.val (.int x1)) rfl y2 hy2 _ hr
    · replace hr := (if_neg c1).symm.trans hr
      exact e_buildVersion0_106 hw V  s (.val (.int x1)) rfl y2 hy2 _ hr
def f_buildVersion0 (n : Nat) (s : St) : Option (St) :=
  f_buildVersion0_2 n n (0 : Int32) s
set_option maxRecDepth 100000 in
theorem e_buildVersion0 {g : GT} {n : Nat} {s : St} {w : St} (hw : HW g) {K : St → MHeap} {o : Nat} {r : Nat → Nat} (V : View (GG g) Ln K o r) (hr : f_buildVersion0 n s = some w) : EvC (GG g) M_buildVersion0 [.ref o] (K s) (none, (K w)) := by
  refine EvC.enter (L0 := [.val (.ref o), .unset, .unset]) pl_buildVersion0 (fun _ => rfl) rfl rfl ?_
  unfold f_buildVersion0 at hr
  refine Ev.iconst (z := 0) (d9 0 rfl) rfl ?_
  refine Ev.istDN (L' := [.val (.ref o), .val (.int (0 : Int32)), .unset]) (d9 1 rfl) rfl rfl rfl ?_
  exact e_buildVersion0_2 hw V  n (0 : Int32) s .unset rfl _ hr
def f_undoHash_68 (n : Nat) (s : St) : Option (St) :=
  bnd (setI s 34 (-1 : Int32)) fun s1 =>
  some s1
set_option maxRecDepth 100000 in
theorem e_undoHash_68 {g : GT} {n : Nat} (hw : HW g) {K : St → MHeap} {o : Nat} {r : Nat → Nat} (V : View (GG g) Ln K o r) (s : St) (y1 : Slot) (hy1 : one1 y1 = true) (y2 : Slot) (hy2 : one1 y2 = true) (y3 : Slot) (hy3 : one1 y3 = true) (w : St) (hr : f_undoHash_68 n s = some w) : Ev (GG g) M_undoHash 68 [.val (.ref o), y1, y2, y3] [] (K s) (none, (K w)) := by
  unfold f_undoHash_68 at hr
  refine Ev.aloadN (d11 36 rfl) rfl ?_
  refine Ev.iconst (z := -1) (d11 37 rfl) rfl ?_
  refine Ev.pI V (gok hw) (ww hw 79 rfl) (Or.inl (ww hw 80 rfl)) (d11 38 rfl) (j := 34) rfl ?_
  revert hr
  generalize setI s 34 (-1 : Int32) = s1
  intro hr
  replace hr := (bnd_eq _ _).symm.trans hr
  cases hr
  exact Ev.vreturn rfl (d11 39 rfl)
def f_undoHash_2 (n : Nat) : Nat → Int32 → Int32 → St → Option (St)
  | 0 => fun _ _ _ => none
  | k + 1 => fun x1 x2 s =>
    if x2 < (1024 : Int32) then
      if x1 < (s.1 39) then
        if 0 < (s.1 39) then
          bnd (setI s 39 ((s.1 39) - (1 : Int32))) fun s4 =>
          grd (inb (s4.1 39) 1024) <|
          if (s4.2 32 (ix (s4.1 39))) < 0 then
            f_undoHash_2 n k x1 (x2 + (1 : Int32)) s4
          else
            if (s4.2 32 (ix (s4.1 39))) < (2048 : Int32) then
              grd (inb (s4.2 32 (ix (s4.1 39))) 2048) <|
              bnd (setA s4 31 (ix (s4.2 32 (ix (s4.1 39)))) ((0 : Int32) &&& 1)) fun s9 =>
              f_undoHash_2 n k x1 (x2 + (1 : Int32)) s9
            else
              f_undoHash_2 n k x1 (x2 + (1 : Int32)) s4
        else
          f_undoHash_68 n s
      else
        f_undoHash_68 n s
    else
      f_undoHash_68 n s
set_option maxRecDepth 100000 in
theorem e_undoHash_2 {g : GT} {n : Nat} (hw : HW g) {K : St → MHeap} {o : Nat} {r : Nat → Nat} (V : View (GG g) Ln K o r) (k : Nat) : ∀ (x1 : Int32) (x2 : Int32) (s : St) (y3 : Slot) (hy3 : one1 y3 = true) (w : St), f_undoHash_2 n k x1 x2 s = some w → Ev (GG g) M_undoHash 2 [.val (.ref o), .val (.int x1), .val (.int x2), y3] [] (K s) (none, (K w)) := by
  induction k with
  | zero => intro x1 x2 s y3 hy3 w hr; rw [f_undoHash_2] at hr; cases hr
  | succ k ih =>
    intro x1 x2 s y3 hy3 w hr
    rw [f_undoHash_2] at hr
    refine Ev.iloadN (d11 2 rfl) rfl ?_
    refine Ev.sipush (z := 1024) (d11 3 rfl) rfl ?_
    refine Ev.icge (t := 68) (d11 4 rfl) rfl (fun c1 => ?_) (fun c1 => ?_)
    · replace hr := (if_pos c1).symm.trans hr
      refine Ev.aloadN (d11 5 rfl) rfl ?_
      refine Ev.gI V (ww hw 131 rfl) (d11 6 rfl) (j := 39) rfl rfl ?_
      refine Ev.iloadN (d11 7 rfl) rfl ?_
      refine Ev.icle (t := 68) (d11 8 rfl) rfl (fun c2 => ?_) (fun c2 => ?_)
      · replace hr := (if_pos c2).symm.trans hr
        refine Ev.aloadN (d11 9 rfl) rfl ?_
        refine Ev.gI V (ww hw 131 rfl) (d11 10 rfl) (j := 39) rfl rfl ?_
        refine Ev.ifle (t := 68) (d11 11 rfl) rfl (fun c3 => ?_) (fun c3 => ?_)
        · replace hr := (if_pos c3).symm.trans hr
          refine Ev.aloadN (d11 12 rfl) rfl ?_
          refine Ev.dup (d11 13 rfl) rfl ?_
          refine Ev.gI V (ww hw 131 rfl) (d11 14 rfl) (j := 39) rfl rfl ?_
          refine Ev.iconst (z := 1) (d11 15 rfl) rfl ?_
          refine Ev.isub (d11 16 rfl) ?_
          refine Ev.pI V (gok hw) (ww hw 131 rfl) (Or.inl (ww hw 132 rfl)) (d11 17 rfl) (j := 39) rfl ?_
          revert hr
          generalize setI s 39 ((s.1 39) - (1 : Int32)) = s4
          intro hr
          replace hr := (bnd_eq _ _).symm.trans hr
          refine Ev.aloadN (d11 18 rfl) rfl ?_
          refine Ev.gAr V (ww hw 75 rfl) (d11 19 rfl) (j := 32) rfl ?_
          refine Ev.aloadN (d11 20 rfl) rfl ?_
          refine Ev.gI V (ww hw 131 rfl) (d11 21 rfl) (j := 39) rfl rfl ?_
          obtain ⟨b5, hr⟩ := grd_some hr
          refine Ev.ial V (j := 32) rfl rfl (d11 22 rfl) b5 ?_
          refine Ev.istDN (L' := [.val (.ref o), .val (.int x1), .val (.int x2), .val (.int (s4.2 32 (ix (s4.1 39))))]) (d11 23 rfl) rfl hy3 rfl ?_
          refine Ev.iloadN (d11 24 rfl) rfl ?_
          refine Ev.iflt (t := 62) (d11 25 rfl) rfl (fun c6 => ?_) (fun c6 => ?_)
          · replace hr := (if_pos c6).symm.trans hr
            refine Ev.iinc (z := 1) (L' := [.val (.ref o), .val (.int x1), .val (.int (x2 + (1 : Int32))), .val (.int (s4.2 32 (ix (s4.1 39))))]) (d11 34 rfl) rfl rfl rfl ?_
            refine Ev.goto (t := 2) (d11 35 rfl) rfl ?_
            exact ih x1 (x2 + (1 : Int32)) s4 (.val (.int (s4.2 32 (ix (s4.1 39))))) rfl _ hr
          · replace hr := (if_neg c6).symm.trans hr
            refine Ev.iloadN (d11 26 rfl) rfl ?_
            refine Ev.sipush (z := 2048) (d11 27 rfl) rfl ?_
            refine Ev.icge (t := 62) (d11 28 rfl) rfl (fun c7 => ?_) (fun c7 => ?_)
            · replace hr := (if_pos c7).symm.trans hr
              refine Ev.aloadN (d11 29 rfl) rfl ?_
              refine Ev.gAr V (ww hw 73 rfl) (d11 30 rfl) (j := 31) rfl ?_
              refine Ev.iloadN (d11 31 rfl) rfl ?_
              refine Ev.iconst (z := 0) (d11 32 rfl) rfl ?_
              obtain ⟨b8, hr⟩ := grd_some hr
              refine Ev.bas V (j := 31) rfl rfl (d11 33 rfl) b8 ?_
              revert hr
              generalize setA s4 31 (ix (s4.2 32 (ix (s4.1 39)))) ((0 : Int32) &&& 1) = s9
              intro hr
              replace hr := (bnd_eq _ _).symm.trans hr
              refine Ev.iinc (z := 1) (L' := [.val (.ref o), .val (.int x1), .val (.int (x2 + (1 : Int32))), .val (.int (s4.2 32 (ix (s4.1 39))))]) (d11 34 rfl) rfl rfl rfl ?_
              refine Ev.goto (t := 2) (d11 35 rfl) rfl ?_
              exact ih x1 (x2 + (1 : Int32)) s9 (.val (.int (s4.2 32 (ix (s4.1 39))))) rfl _ hr
            · replace hr := (if_neg c7).symm.trans hr
              refine Ev.iinc (z := 1) (L' := [.val (.ref o), .val (.int x1), .val (.int (x2 + (1 : Int32))), .val (.int (s4.2 32 (ix (s4.1 39))))]) (d11 34 rfl) rfl rfl rfl ?_
              refine Ev.goto (t := 2) (d11 35 rfl) rfl ?_
              exact ih x1 (x2 + (1 : Int32)) s4 (.val (.int (s4.2 32 (ix (s4.1 39))))) rfl _ hr
        · replace hr := (if_neg c3).symm.trans hr
          exact e_undoHash_68 hw V  s (.val (.int x1)) rfl (.val (.int x2)) rfl y3 hy3 _ hr
      · replace hr := (if_neg c2).symm.trans hr
        exact e_undoHash_68 hw V  s (.val (.int x1)) rfl (.val (.int x2)) rfl y3 hy3 _ hr
    · replace hr := (if_neg c1).symm.trans hr
      exact e_undoHash_68 hw V  s (.val (.int x1)) rfl (.val (.int x2)) rfl y3 hy3 _ hr
def f_undoHash (n : Nat) (a0 : Int32) (s : St) : Option (St) :=
  f_undoHash_2 n n a0 (0 : Int32) s
set_option maxRecDepth 100000 in
theorem e_undoHash {g : GT} {n : Nat} {a0 : Int32} {s : St} {w : St} (hw : HW g) {K : St → MHeap} {o : Nat} {r : Nat → Nat} (V : View (GG g) Ln K o r) (hr : f_undoHash n a0 s = some w) : EvC (GG g) M_undoHash [.ref o, .int a0] (K s) (none, (K w)) := by
  refine EvC.enter (L0 := [.val (.ref o), .val (.int a0), .unset, .unset]) pl_undoHash (fun _ => rfl) rfl rfl ?_
  unfold f_undoHash at hr
  refine Ev.iconst (z := 0) (d11 0 rfl) rfl ?_
  refine Ev.istDN (L' := [.val (.ref o), .val (.int a0), .val (.int (0 : Int32)), .unset]) (d11 1 rfl) rfl rfl rfl ?_
  exact e_undoHash_2 hw V  n a0 (0 : Int32) s .unset rfl _ hr
def f_computeSetMasks_96 (n : Nat) (k2 : Int32 → St → Option (St)) (x1 : Int32) (x3 : Int32) (s : St) : Option (St) :=
  grd (inb x1 32) <|
  bnd (setA s 18 (ix x1) x3) fun s2 =>
  k2 (x1 + (1 : Int32)) s2
set_option maxRecDepth 100000 in
theorem e_computeSetMasks_96 {g : GT} {n : Nat} (hw : HW g) {K : St → MHeap} {o : Nat} {r : Nat → Nat} (V : View (GG g) Ln K o r) {k2 : Int32 → St → Option (St)} (hk2 : ∀ (x1 : Int32) (s : St) (y2 : Slot) (hy2 : one1 y2 = true) (y3 : Slot) (hy3 : one1 y3 = true) (y4 : Slot) (hy4 : one1 y4 = true) (w : St), k2 x1 s = some w → Ev (GG g) M_computeSetMasks 2 [.val (.ref o), .val (.int x1), y2, y3, y4] [] (K s) (none, (K w))) (x1 : Int32) (x3 : Int32) (s : St) (y2 : Slot) (hy2 : one1 y2 = true) (y4 : Slot) (hy4 : one1 y4 = true) (w : St) (hr : f_computeSetMasks_96 n k2 x1 x3 s = some w) : Ev (GG g) M_computeSetMasks 96 [.val (.ref o), .val (.int x1), y2, .val (.int x3), y4] [] (K s) (none, (K w)) := by
  unfold f_computeSetMasks_96 at hr
  refine Ev.aloadN (d12 57 rfl) rfl ?_
  refine Ev.gAr V (ww hw 46 rfl) (d12 58 rfl) (j := 18) rfl ?_
  refine Ev.iloadN (d12 59 rfl) rfl ?_
  refine Ev.iloadN (d12 60 rfl) rfl ?_
  obtain ⟨b1, hr⟩ := grd_some hr
  refine Ev.ias V (j := 18) rfl rfl (d12 61 rfl) b1 ?_
  revert hr
  generalize setA s 18 (ix x1) x3 = s2
  intro hr
  replace hr := (bnd_eq _ _).symm.trans hr
  refine Ev.iinc (z := 1) (L' := [.val (.ref o), .val (.int (x1 + (1 : Int32))), y2, .val (.int x3), y4]) (d12 62 rfl) rfl rfl rfl ?_
  refine Ev.goto (t := 2) (d12 63 rfl) rfl ?_
  exact hk2 (x1 + (1 : Int32)) s2 y2 hy2 (.val (.int x3)) rfl y4 hy4 _ hr
def f_computeSetMasks_51 (n : Nat) (k2 : Int32 → St → Option (St)) : Nat → Int32 → Int32 → Int32 → Int32 → St → Option (St)
  | 0 => fun _ _ _ _ _ => none
  | k + 1 => fun x1 x2 x3 x4 s =>
    if x4 < x2 then
      if x4 < (32 : Int32) then
        grd (inb x4 32) <|
        if (s.2 0 (ix x4)) = (11 : Int32) then
          bnd (x3 ||| ((1 : Int32) <<< (((s.2 1 (ix x4)) &&& (3 : Int32)) &&& 31))) fun v5 =>
          f_computeSetMasks_51 n k2 k x1 x2 v5 (x4 + (1 : Int32)) s
        else
          f_computeSetMasks_51 n k2 k x1 x2 x3 (x4 + (1 : Int32)) s
      else
        f_computeSetMasks_96 n k2 x1 x3 s
    else
      f_computeSetMasks_96 n k2 x1 x3 s
set_option maxRecDepth 100000 in
theorem e_computeSetMasks_51 {g : GT} {n : Nat} (hw : HW g) {K : St → MHeap} {o : Nat} {r : Nat → Nat} (V : View (GG g) Ln K o r) {k2 : Int32 → St → Option (St)} (hk2 : ∀ (x1 : Int32) (s : St) (y2 : Slot) (hy2 : one1 y2 = true) (y3 : Slot) (hy3 : one1 y3 = true) (y4 : Slot) (hy4 : one1 y4 = true) (w : St), k2 x1 s = some w → Ev (GG g) M_computeSetMasks 2 [.val (.ref o), .val (.int x1), y2, y3, y4] [] (K s) (none, (K w))) (k : Nat) : ∀ (x1 : Int32) (x2 : Int32) (x3 : Int32) (x4 : Int32) (s : St) (w : St), f_computeSetMasks_51 n k2 k x1 x2 x3 x4 s = some w → Ev (GG g) M_computeSetMasks 51 [.val (.ref o), .val (.int x1), .val (.int x2), .val (.int x3), .val (.int x4)] [] (K s) (none, (K w)) := by
  induction k with
  | zero => intro x1 x2 x3 x4 s w hr; rw [f_computeSetMasks_51] at hr; cases hr
  | succ k ih =>
    intro x1 x2 x3 x4 s w hr
    rw [f_computeSetMasks_51] at hr
    refine Ev.iload (d12 32 rfl) rfl ?_
    refine Ev.iloadN (d12 33 rfl) rfl ?_
    refine Ev.icge (t := 96) (d12 34 rfl) rfl (fun c1 => ?_) (fun c1 => ?_)
    · replace hr := (if_pos c1).symm.trans hr
      refine Ev.iload (d12 35 rfl) rfl ?_
      refine Ev.bipush (z := 32) (d12 36 rfl) rfl ?_
      refine Ev.icge (t := 96) (d12 37 rfl) rfl (fun c2 => ?_) (fun c2 => ?_)
      · replace hr := (if_pos c2).symm.trans hr
        refine Ev.aloadN (d12 38 rfl) rfl ?_
        refine Ev.gAr V (ww hw 10 rfl) (d12 39 rfl) (j := 0) rfl ?_
        refine Ev.iload (d12 40 rfl) rfl ?_
        obtain ⟨b3, hr⟩ := grd_some hr
        refine Ev.ial V (j := 0) rfl rfl (d12 41 rfl) b3 ?_
        refine Ev.bipush (z := 11) (d12 42 rfl) rfl ?_
        refine Ev.icne (t := 90) (d12 43 rfl) rfl (fun c4 => ?_) (fun c4 => ?_)
        · replace hr := (if_pos c4).symm.trans hr
          refine Ev.iloadN (d12 44 rfl) rfl ?_
          refine Ev.iconst (z := 1) (d12 45 rfl) rfl ?_
          refine Ev.aloadN (d12 46 rfl) rfl ?_
          refine Ev.gAr V (ww hw 12 rfl) (d12 47 rfl) (j := 1) rfl ?_
          refine Ev.iload (d12 48 rfl) rfl ?_
          refine Ev.ial V (j := 1) rfl rfl (d12 49 rfl) b3 ?_
          refine Ev.iconst (z := 3) (d12 50 rfl) rfl ?_
          refine Ev.iand (d12 51 rfl) ?_
          refine Ev.ishl (d12 52 rfl) ?_
          refine Ev.ior (d12 53 rfl) ?_
          revert hr
          generalize (x3 ||| ((1 : Int32) <<< (((s.2 1 (ix x4)) &&& (3 : Int32)) &&& 31))) = v5
          intro hr
          replace hr := (bnd_eq _ _).symm.trans hr
          refine Ev.istDN (L' := [.val (.ref o), .val (.int x1), .val (.int x2), .val (.int v5), .val (.int x4)]) (d12 54 rfl) rfl rfl rfl ?_
          refine Ev.iinc (z := 1) (L' := [.val (.ref o), .val (.int x1), .val (.int x2), .val (.int v5), .val (.int (x4 + (1 : Int32)))]) (d12 55 rfl) rfl rfl rfl ?_
          refine Ev.goto (t := 51) (d12 56 rfl) rfl ?_
          exact ih x1 x2 v5 (x4 + (1 : Int32)) s  _ hr
        · replace hr := (if_neg c4).symm.trans hr
          refine Ev.iinc (z := 1) (L' := [.val (.ref o), .val (.int x1), .val (.int x2), .val (.int x3), .val (.int (x4 + (1 : Int32)))]) (d12 55 rfl) rfl rfl rfl ?_
          refine Ev.goto (t := 51) (d12 56 rfl) rfl ?_
          exact ih x1 x2 x3 (x4 + (1 : Int32)) s  _ hr
      · replace hr := (if_neg c2).symm.trans hr
        exact e_computeSetMasks_96 hw V hk2 x1 x3 s (.val (.int x2)) rfl (.val (.int x4)) rfl _ hr
    · replace hr := (if_neg c1).symm.trans hr
      exact e_computeSetMasks_96 hw V hk2 x1 x3 s (.val (.int x2)) rfl (.val (.int x4)) rfl _ hr
def f_computeSetMasks_2 (n : Nat) : Nat → Int32 → St → Option (St)
  | 0 => fun _ _ => none
  | k + 1 => fun x1 s =>
    if x1 < (s.1 35) then
      if x1 < (32 : Int32) then
        grd (inb x1 32) <|
        bnd (setA s 18 (ix x1) (0 : Int32)) fun s4 =>
        if (s4.2 0 (ix x1)) = (13 : Int32) then
          f_computeSetMasks_51 n (f_computeSetMasks_2 n k) n x1 (s4.2 4 (ix x1)) (0 : Int32) (x1 + (1 : Int32)) s4
        else
          f_computeSetMasks_2 n k (x1 + (1 : Int32)) s4
      else
        some s
    else
      some s
set_option maxRecDepth 100000 in
theorem e_computeSetMasks_2 {g : GT} {n : Nat} (hw : HW g) {K : St → MHeap} {o : Nat} {r : Nat → Nat} (V : View (GG g) Ln K o r) (k : Nat) : ∀ (x1 : Int32) (s : St) (y2 : Slot) (hy2 : one1 y2 = true) (y3 : Slot) (hy3 : one1 y3 = true) (y4 : Slot) (hy4 : one1 y4 = true) (w : St), f_computeSetMasks_2 n k x1 s = some w → Ev (GG g) M_computeSetMasks 2 [.val (.ref o), .val (.int x1), y2, y3, y4] [] (K s) (none, (K w)) := by
  induction k with
  | zero => intro x1 s y2 hy2 y3 hy3 y4 hy4 w hr; rw [f_computeSetMasks_2] at hr; cases hr
  | succ k ih =>
    intro x1 s y2 hy2 y3 hy3 y4 hy4 w hr
    rw [f_computeSetMasks_2] at hr
    refine Ev.iloadN (d12 2 rfl) rfl ?_
    refine Ev.aloadN (d12 3 rfl) rfl ?_
    refine Ev.gI V (ww hw 86 rfl) (d12 4 rfl) (j := 35) rfl rfl ?_
    refine Ev.icge (t := 109) (d12 5 rfl) rfl (fun c1 => ?_) (fun c1 => ?_)
    · replace hr := (if_pos c1).symm.trans hr
      refine Ev.iloadN (d12 6 rfl) rfl ?_
      refine Ev.bipush (z := 32) (d12 7 rfl) rfl ?_
      refine Ev.icge (t := 109) (d12 8 rfl) rfl (fun c2 => ?_) (fun c2 => ?_)
      · replace hr := (if_pos c2).symm.trans hr
        refine Ev.aloadN (d12 9 rfl) rfl ?_
        refine Ev.gAr V (ww hw 46 rfl) (d12 10 rfl) (j := 18) rfl ?_
        refine Ev.iloadN (d12 11 rfl) rfl ?_
        refine Ev.iconst (z := 0) (d12 12 rfl) rfl ?_
        obtain ⟨b3, hr⟩ := grd_some hr
        refine Ev.ias V (j := 18) rfl rfl (d12 13 rfl) b3 ?_
        revert hr
        generalize setA s 18 (ix x1) (0 : Int32) = s4
        intro hr
        replace hr := (bnd_eq _ _).symm.trans hr
        refine Ev.aloadN (d12 14 rfl) rfl ?_
        refine Ev.gAr V (ww hw 10 rfl) (d12 15 rfl) (j := 0) rfl ?_
        refine Ev.iloadN (d12 16 rfl) rfl ?_
        refine Ev.ial V (j := 0) rfl rfl (d12 17 rfl) b3 ?_
        refine Ev.bipush (z := 13) (d12 18 rfl) rfl ?_
        refine Ev.iceq (t := 37) (d12 19 rfl) rfl (fun c5 => ?_) (fun c5 => ?_)
        · replace hr := (if_pos c5).symm.trans hr
          refine Ev.aloadN (d12 21 rfl) rfl ?_
          refine Ev.gAr V (ww hw 18 rfl) (d12 22 rfl) (j := 4) rfl ?_
          refine Ev.iloadN (d12 23 rfl) rfl ?_
          refine Ev.ial V (j := 4) rfl rfl (d12 24 rfl) b3 ?_
          refine Ev.istDN (L' := [.val (.ref o), .val (.int x1), .val (.int (s4.2 4 (ix x1))), y3, y4]) (d12 25 rfl) rfl hy2 rfl ?_
          refine Ev.iconst (z := 0) (d12 26 rfl) rfl ?_
          refine Ev.istDN (L' := [.val (.ref o), .val (.int x1), .val (.int (s4.2 4 (ix x1))), .val (.int (0 : Int32)), y4]) (d12 27 rfl) rfl hy3 rfl ?_
          refine Ev.iloadN (d12 28 rfl) rfl ?_
          refine Ev.iconst (z := 1) (d12 29 rfl) rfl ?_
          refine Ev.iadd (d12 30 rfl) ?_
          refine Ev.istD (L' := [.val (.ref o), .val (.int x1), .val (.int (s4.2 4 (ix x1))), .val (.int (0 : Int32)), .val (.int (x1 + (1 : Int32)))]) (d12 31 rfl) rfl hy4 rfl ?_
          exact e_computeSetMasks_51 hw V ih n x1 (s4.2 4 (ix x1)) (0 : Int32) (x1 + (1 : Int32)) s4  _ hr
        · replace hr := (if_neg c5).symm.trans hr
          refine Ev.goto (t := 103) (d12 20 rfl) rfl ?_
          refine Ev.iinc (z := 1) (L' := [.val (.ref o), .val (.int (x1 + (1 : Int32))), y2, y3, y4]) (d12 62 rfl) rfl rfl rfl ?_
          refine Ev.goto (t := 2) (d12 63 rfl) rfl ?_
          exact ih (x1 + (1 : Int32)) s4 y2 hy2 y3 hy3 y4 hy4 _ hr
      · replace hr := (if_neg c2).symm.trans hr
        cases hr
        exact Ev.vreturn rfl (d12 64 rfl)
    · replace hr := (if_neg c1).symm.trans hr
      cases hr
      exact Ev.vreturn rfl (d12 64 rfl)
def f_computeSetMasks (n : Nat) (s : St) : Option (St) :=
  f_computeSetMasks_2 n n (0 : Int32) s
set_option maxRecDepth 100000 in
theorem e_computeSetMasks {g : GT} {n : Nat} {s : St} {w : St} (hw : HW g) {K : St → MHeap} {o : Nat} {r : Nat → Nat} (V : View (GG g) Ln K o r) (hr : f_computeSetMasks n s = some w) : EvC (GG g) M_computeSetMasks [.ref o] (K s) (none, (K w)) := by
  refine EvC.enter (L0 := [.val (.ref o), .unset, .unset, .unset, .unset]) pl_computeSetMasks (fun _ => rfl) rfl rfl ?_
  unfold f_computeSetMasks at hr
  refine Ev.iconst (z := 0) (d12 0 rfl) rfl ?_
  refine Ev.istDN (L' := [.val (.ref o), .val (.int (0 : Int32)), .unset, .unset, .unset]) (d12 1 rfl) rfl rfl rfl ?_
  exact e_computeSetMasks_2 hw V  n (0 : Int32) s .unset rfl .unset rfl .unset rfl _ hr
def f_emit_17 (s : St) : Option (Int32 × St) :=
  bnd (setI s 41 ((1 : Int32) &&& 1)) fun s1 =>
  some ((32 : Int32), s1)
set_option maxRecDepth 100000 in
theorem e_emit_17 {g : GT} (hw : HW g) {K : St → MHeap} {o : Nat} {r : Nat → Nat} (V : View (GG g) Ln K o r) (s : St) (y1 : Slot) (hy1 : one1 y1 = true) (y2 : Slot) (hy2 : one1 y2 = true) (y3 : Slot) (hy3 : one1 y3 = true) (y4 : Slot) (hy4 : one1 y4 = true) (w : Int32 × St) (hr : f_emit_17 s = some w) : Ev (GG g) M_emit 17 [.val (.ref o), y1, y2, y3, y4] [] (K s) ((some (.int w.1)), (K w.2)) := by
  unfold f_emit_17 at hr
  refine Ev.aloadN (d19 7 rfl) rfl ?_
  refine Ev.iconst (z := 1) (d19 8 rfl) rfl ?_
  refine Ev.pZ V (gok hw) (ww hw 135 rfl) (Or.inl (ww hw 136 rfl)) (d19 9 rfl) (j := 41) rfl ?_
  revert hr
  generalize setI s 41 ((1 : Int32) &&& 1) = s1
  intro hr
  replace hr := (bnd_eq _ _).symm.trans hr
  refine Ev.bipush (z := 32) (d19 10 rfl) rfl ?_
  cases hr
  exact Ev.ireturn rfl (d19 11 rfl)
def f_emit (a0 : Int32) (a1 : Int32) (a2 : Int32) (s : St) : Option (Int32 × St) :=
  if (s.1 40) < 0 then
    f_emit_17 s
  else
    if (s.1 40) < (1024 : Int32) then
      grd (inb ((32 : Int32) + (s.1 40)) 1056) <|
      bnd (setA s 7 (ix ((32 : Int32) + (s.1 40))) a0) fun s4 =>
      bnd (setA s4 8 (ix ((32 : Int32) + (s.1 40))) a1) fun s5 =>
      bnd (setA s5 9 (ix ((32 : Int32) + (s.1 40))) a2) fun s6 =>
      bnd (setA s6 10 (ix ((32 : Int32) + (s.1 40))) (0 : Int32)) fun s7 =>
      bnd (setI s7 40 ((s7.1 40) + (1 : Int32))) fun s8 =>
      some (((32 : Int32) + (s.1 40)), s8)
    else
      f_emit_17 s
set_option maxRecDepth 100000 in
theorem e_emit {g : GT} {a0 : Int32} {a1 : Int32} {a2 : Int32} {s : St} {w : Int32 × St} (hw : HW g) {K : St → MHeap} {o : Nat} {r : Nat → Nat} (V : View (GG g) Ln K o r) (hr : f_emit a0 a1 a2 s = some w) : EvC (GG g) M_emit [.ref o, .int a0, .int a1, .int a2] (K s) ((some (.int w.1)), (K w.2)) := by
  refine EvC.enter (L0 := [.val (.ref o), .val (.int a0), .val (.int a1), .val (.int a2), .unset]) pl_emit (fun h => nomatch h) rfl rfl ?_
  unfold f_emit at hr
  refine Ev.aloadN (d19 0 rfl) rfl ?_
  refine Ev.gI V (ww hw 133 rfl) (d19 1 rfl) (j := 40) rfl rfl ?_
  refine Ev.iflt (t := 17) (d19 2 rfl) rfl (fun c1 => ?_) (fun c1 => ?_)
  · replace hr := (if_pos c1).symm.trans hr
    exact e_emit_17 hw V  s (.val (.int a0)) rfl (.val (.int a1)) rfl (.val (.int a2)) rfl .unset rfl _ hr
  · replace hr := (if_neg c1).symm.trans hr
    refine Ev.aloadN (d19 3 rfl) rfl ?_
    refine Ev.gI V (ww hw 133 rfl) (d19 4 rfl) (j := 40) rfl rfl ?_
    refine Ev.sipush (z := 1024) (d19 5 rfl) rfl ?_
    refine Ev.iclt (t := 25) (d19 6 rfl) rfl (fun c2 => ?_) (fun c2 => ?_)
    · replace hr := (if_pos c2).symm.trans hr
      refine Ev.bipush (z := 32) (d19 12 rfl) rfl ?_
      refine Ev.aloadN (d19 13 rfl) rfl ?_
      refine Ev.gI V (ww hw 133 rfl) (d19 14 rfl) (j := 40) rfl rfl ?_
      refine Ev.iadd (d19 15 rfl) ?_
      refine Ev.istD (L' := [.val (.ref o), .val (.int a0), .val (.int a1), .val (.int a2), .val (.int ((32 : Int32) + (s.1 40)))]) (d19 16 rfl) rfl rfl rfl ?_
      refine Ev.aloadN (d19 17 rfl) rfl ?_
      refine Ev.gAr V (ww hw 24 rfl) (d19 18 rfl) (j := 7) rfl ?_
      refine Ev.iload (d19 19 rfl) rfl ?_
      refine Ev.iloadN (d19 20 rfl) rfl ?_
      obtain ⟨b3, hr⟩ := grd_some hr
      refine Ev.ias V (j := 7) rfl rfl (d19 21 rfl) b3 ?_
      revert hr
      generalize setA s 7 (ix ((32 : Int32) + (s.1 40))) a0 = s4
      intro hr
      replace hr := (bnd_eq _ _).symm.trans hr
      refine Ev.aloadN (d19 22 rfl) rfl ?_
      refine Ev.gAr V (ww hw 26 rfl) (d19 23 rfl) (j := 8) rfl ?_
      refine Ev.iload (d19 24 rfl) rfl ?_
      refine Ev.iloadN (d19 25 rfl) rfl ?_
      refine Ev.ias V (j := 8) rfl rfl (d19 26 rfl) b3 ?_
      revert hr
      generalize setA s4 8 (ix ((32 : Int32) + (s.1 40))) a1 = s5
      intro hr
      replace hr := (bnd_eq _ _).symm.trans hr
      refine Ev.aloadN (d19 27 rfl) rfl ?_
      refine Ev.gAr V (ww hw 28 rfl) (d19 28 rfl) (j := 9) rfl ?_
      refine Ev.iload (d19 29 rfl) rfl ?_
      refine Ev.iloadN (d19 30 rfl) rfl ?_
      refine Ev.ias V (j := 9) rfl rfl (d19 31 rfl) b3 ?_
      revert hr
      generalize setA s5 9 (ix ((32 : Int32) + (s.1 40))) a2 = s6
      intro hr
      replace hr := (bnd_eq _ _).symm.trans hr
      refine Ev.aloadN (d19 32 rfl) rfl ?_
      refine Ev.gAr V (ww hw 30 rfl) (d19 33 rfl) (j := 10) rfl ?_
      refine Ev.iload (d19 34 rfl) rfl ?_
      refine Ev.iconst (z := 0) (d19 35 rfl) rfl ?_
      refine Ev.ias V (j := 10) rfl rfl (d19 36 rfl) b3 ?_
      revert hr
      generalize setA s6 10 (ix ((32 : Int32) + (s.1 40))) (0 : Int32) = s7
      intro hr
      replace hr := (bnd_eq _ _).symm.trans hr
      refine Ev.aloadN (d19 37 rfl) rfl ?_
      refine Ev.dup (d19 38 rfl) rfl ?_
      refine Ev.gI V (ww hw 133 rfl) (d19 39 rfl) (j := 40) rfl rfl ?_
      refine Ev.iconst (z := 1) (d19 40 rfl) rfl ?_
      refine Ev.iadd (d19 41 rfl) ?_
      refine Ev.pI V (gok hw) (ww hw 133 rfl) (Or.inl (ww hw 134 rfl)) (d19 42 rfl) (j := 40) rfl ?_
      revert hr
      generalize setI s7 40 ((s7.1 40) + (1 : Int32)) = s8
      intro hr
      replace hr := (bnd_eq _ _).symm.trans hr
      refine Ev.iload (d19 43 rfl) rfl ?_
      cases hr
      exact Ev.ireturn rfl (d19 44 rfl)
    · replace hr := (if_neg c2).symm.trans hr
      exact e_emit_17 hw V  s (.val (.int a0)) rfl (.val (.int a1)) rfl (.val (.int a2)) rfl .unset rfl _ hr
def f_hashOf (s : St) (a0 : Int32) (a1 : Int32) (a2 : Int32) : Option (Int32) :=
  bnd ((a0 * (-1640531535 : Int32)) + (a1 * (-2048144789 : Int32))) fun v1 =>
  bnd ((v1 ^^^ (a2 * (-1028477387 : Int32))) ^^^ (XT.ushr (v1 ^^^ (a2 * (-1028477387 : Int32))) (15 : Int32))) fun v2 =>
  bnd ((v2 * (739982445 : Int32)) ^^^ (XT.ushr (v2 * (739982445 : Int32)) (13 : Int32))) fun v3 =>
  some (v3 &&& (2047 : Int32))
set_option maxRecDepth 100000 in
theorem e_hashOf {g : GT} {s : St} {a0 : Int32} {a1 : Int32} {a2 : Int32} {w : Int32} (hw : HW g) {K : St → MHeap} {o : Nat} {r : Nat → Nat} (V : View (GG g) Ln K o r) (hr : f_hashOf s a0 a1 a2 = some w) : EvC (GG g) M_hashOf [.ref o, .int a0, .int a1, .int a2] (K s) ((some (.int w)), (K s)) := by
  refine EvC.enter (L0 := [.val (.ref o), .val (.int a0), .val (.int a1), .val (.int a2), .unset]) pl_hashOf (fun h => nomatch h) rfl rfl ?_
  unfold f_hashOf at hr
  refine Ev.iloadN (d18 0 rfl) rfl ?_
  refine Ev.ldcW (ww hw 167 rfl) (d18 1 rfl) ?_
  refine Ev.imul (d18 2 rfl) ?_
  refine Ev.iloadN (d18 3 rfl) rfl ?_
  refine Ev.ldcW (ww hw 168 rfl) (d18 4 rfl) ?_
  refine Ev.imul (d18 5 rfl) ?_
  refine Ev.iadd (d18 6 rfl) ?_
  revert hr
  generalize ((a0 * (-1640531535 : Int32)) + (a1 * (-2048144789 : Int32))) = v1
  intro hr
  replace hr := (bnd_eq _ _).symm.trans hr
  refine Ev.istD (L' := [.val (.ref o), .val (.int a0), .val (.int a1), .val (.int a2), .val (.int v1)]) (d18 7 rfl) rfl rfl rfl ?_
  refine Ev.iload (d18 8 rfl) rfl ?_
  refine Ev.iloadN (d18 9 rfl) rfl ?_
  refine Ev.ldcW (ww hw 169 rfl) (d18 10 rfl) ?_
  refine Ev.imul (d18 11 rfl) ?_
  refine Ev.ixor (d18 12 rfl) ?_
  refine Ev.istD (L' := [.val (.ref o), .val (.int a0), .val (.int a1), .val (.int a2), .val (.int (v1 ^^^ (a2 * (-1028477387 : Int32))))]) (d18 13 rfl) rfl rfl rfl ?_
  refine Ev.iload (d18 14 rfl) rfl ?_
  refine Ev.iload (d18 15 rfl) rfl ?_
  refine Ev.bipush (z := 15) (d18 16 rfl) rfl ?_
  refine Ev.iushr (d18 17 rfl) ?_
  refine Ev.ixor (d18 18 rfl) ?_
  revert hr
  generalize ((v1 ^^^ (a2 * (-1028477387 : Int32))) ^^^ (XT.ushr (v1 ^^^ (a2 * (-1028477387 : Int32))) (15 : Int32))) = v2
  intro hr
  replace hr := (bnd_eq _ _).symm.trans hr
  refine Ev.istD (L' := [.val (.ref o), .val (.int a0), .val (.int a1), .val (.int a2), .val (.int v2)]) (d18 19 rfl) rfl rfl rfl ?_
  refine Ev.iload (d18 20 rfl) rfl ?_
  refine Ev.ldcW (ww hw 170 rfl) (d18 21 rfl) ?_
  refine Ev.imul (d18 22 rfl) ?_
  refine Ev.istD (L' := [.val (.ref o), .val (.int a0), .val (.int a1), .val (.int a2), .val (.int (v2 * (739982445 : Int32)))]) (d18 23 rfl) rfl rfl rfl ?_
  refine Ev.iload (d18 24 rfl) rfl ?_
  refine Ev.iload (d18 25 rfl) rfl ?_
  refine Ev.bipush (z := 13) (d18 26 rfl) rfl ?_
  refine Ev.iushr (d18 27 rfl) ?_
  refine Ev.ixor (d18 28 rfl) ?_
  revert hr
  generalize ((v2 * (739982445 : Int32)) ^^^ (XT.ushr (v2 * (739982445 : Int32)) (13 : Int32))) = v3
  intro hr
  replace hr := (bnd_eq _ _).symm.trans hr
  refine Ev.istD (L' := [.val (.ref o), .val (.int a0), .val (.int a1), .val (.int a2), .val (.int v3)]) (d18 29 rfl) rfl rfl rfl ?_
  refine Ev.iload (d18 30 rfl) rfl ?_
  refine Ev.sipush (z := 2047) (d18 31 rfl) rfl ?_
  refine Ev.iand (d18 32 rfl) ?_
  cases hr
  exact Ev.ireturn rfl (d18 33 rfl)
def f_lookup_17 (n : Nat) : Nat → Int32 → Int32 → Int32 → Int32 → Int32 → St → Option (Int32 × St)
  | 0 => fun _ _ _ _ _ _ => none
  | k + 1 => fun x1 x2 x3 x4 x5 s =>
    if x5 < (2048 : Int32) then
      grd (inb ((x4 + x5) &&& (2047 : Int32)) 2048) <|
      if (s.2 31 (ix ((x4 + x5) &&& (2047 : Int32)))) = 0 then
        bnd (setI s 34 ((x4 + x5) &&& (2047 : Int32))) fun s4 =>
        some ((-1 : Int32), s4)
      else
        if (s.2 27 (ix ((x4 + x5) &&& (2047 : Int32)))) = x1 then
          if (s.2 28 (ix ((x4 + x5) &&& (2047 : Int32)))) = x2 then
            if (s.2 29 (ix ((x4 + x5) &&& (2047 : Int32)))) = x3 then
              some ((s.2 30 (ix ((x4 + x5) &&& (2047 : Int32)))), s)
            else
              f_lookup_17 n k x1 x2 x3 x4 (x5 + (1 : Int32)) s
          else
            f_lookup_17 n k x1 x2 x3 x4 (x5 + (1 : Int32)) s
        else
          f_lookup_17 n k x1 x2 x3 x4 (x5 + (1 : Int32)) s
    else
      some ((-1 : Int32), s)
set_option maxRecDepth 100000 in
theorem e_lookup_17 {g : GT} {n : Nat} (hw : HW g) {K : St → MHeap} {o : Nat} {r : Nat → Nat} (V : View (GG g) Ln K o r) (k : Nat) : ∀ (x1 : Int32) (x2 : Int32) (x3 : Int32) (x4 : Int32) (x5 : Int32) (s : St) (y6 : Slot) (hy6 : one1 y6 = true) (w : Int32 × St), f_lookup_17 n k x1 x2 x3 x4 x5 s = some w → Ev (GG g) M_lookup 17 [.val (.ref o), .val (.int x1), .val (.int x2), .val (.int x3), .val (.int x4), .val (.int x5), y6] [] (K s) ((some (.int w.1)), (K w.2)) := by
  induction k with
  | zero => intro x1 x2 x3 x4 x5 s y6 hy6 w hr; rw [f_lookup_17] at hr; cases hr
  | succ k ih =>
    intro x1 x2 x3 x4 x5 s y6 hy6 w hr
    rw [f_lookup_17] at hr
    refine Ev.iload (d17 11 rfl) rfl ?_
    refine Ev.sipush (z := 2048) (d17 12 rfl) rfl ?_
    refine Ev.icge (t := 101) (d17 13 rfl) rfl (fun c1 => ?_) (fun c1 => ?_)
    · replace hr := (if_pos c1).symm.trans hr
      refine Ev.iload (d17 14 rfl) rfl ?_
      refine Ev.iload (d17 15 rfl) rfl ?_
      refine Ev.iadd (d17 16 rfl) ?_
      refine Ev.sipush (z := 2047) (d17 17 rfl) rfl ?_
      refine Ev.iand (d17 18 rfl) ?_
      refine Ev.istD (L' := [.val (.ref o), .val (.int x1), .val (.int x2), .val (.int x3), .val (.int x4), .val (.int x5), .val (.int ((x4 + x5) &&& (2047 : Int32)))]) (d17 19 rfl) rfl hy6 rfl ?_
      refine Ev.aloadN (d17 20 rfl) rfl ?_
      refine Ev.gAr V (ww hw 73 rfl) (d17 21 rfl) (j := 31) rfl ?_
      refine Ev.iload (d17 22 rfl) rfl ?_
      obtain ⟨b2, hr⟩ := grd_some hr
      refine Ev.bal V (j := 31) rfl rfl (d17 23 rfl) b2 ?_
      refine Ev.ifne (t := 54) (d17 24 rfl) rfl (fun c3 => ?_) (fun c3 => ?_)
      · replace hr := (if_pos c3).symm.trans hr
        refine Ev.aloadN (d17 25 rfl) rfl ?_
        refine Ev.iload (d17 26 rfl) rfl ?_
        refine Ev.pI V (gok hw) (ww hw 79 rfl) (Or.inl (ww hw 80 rfl)) (d17 27 rfl) (j := 34) rfl ?_
        revert hr
        generalize setI s 34 ((x4 + x5) &&& (2047 : Int32)) = s4
        intro hr
        replace hr := (bnd_eq _ _).symm.trans hr
        refine Ev.iconst (z := -1) (d17 28 rfl) rfl ?_
        cases hr
        exact Ev.ireturn rfl (d17 29 rfl)
      · replace hr := (if_neg c3).symm.trans hr
        refine Ev.aloadN (d17 30 rfl) rfl ?_
        refine Ev.gAr V (ww hw 65 rfl) (d17 31 rfl) (j := 27) rfl ?_
        refine Ev.iload (d17 32 rfl) rfl ?_
        refine Ev.ial V (j := 27) rfl rfl (d17 33 rfl) b2 ?_
        refine Ev.iloadN (d17 34 rfl) rfl ?_
        refine Ev.icne (t := 95) (d17 35 rfl) rfl (fun c5 => ?_) (fun c5 => ?_)
        · replace hr := (if_pos c5).symm.trans hr
          refine Ev.aloadN (d17 36 rfl) rfl ?_
          refine Ev.gAr V (ww hw 67 rfl) (d17 37 rfl) (j := 28) rfl ?_
          refine Ev.iload (d17 38 rfl) rfl ?_
          refine Ev.ial V (j := 28) rfl rfl (d17 39 rfl) b2 ?_
          refine Ev.iloadN (d17 40 rfl) rfl ?_
          refine Ev.icne (t := 95) (d17 41 rfl) rfl (fun c6 => ?_) (fun c6 => ?_)
          · replace hr := (if_pos c6).symm.trans hr
            refine Ev.aloadN (d17 42 rfl) rfl ?_
            refine Ev.gAr V (ww hw 69 rfl) (d17 43 rfl) (j := 29) rfl ?_
            refine Ev.iload (d17 44 rfl) rfl ?_
            refine Ev.ial V (j := 29) rfl rfl (d17 45 rfl) b2 ?_
            refine Ev.iloadN (d17 46 rfl) rfl ?_
            refine Ev.icne (t := 95) (d17 47 rfl) rfl (fun c7 => ?_) (fun c7 => ?_)
            · replace hr := (if_pos c7).symm.trans hr
              refine Ev.aloadN (d17 48 rfl) rfl ?_
              refine Ev.gAr V (ww hw 71 rfl) (d17 49 rfl) (j := 30) rfl ?_
              refine Ev.iload (d17 50 rfl) rfl ?_
              refine Ev.ial V (j := 30) rfl rfl (d17 51 rfl) b2 ?_
              cases hr
              exact Ev.ireturn rfl (d17 52 rfl)
            · replace hr := (if_neg c7).symm.trans hr
              refine Ev.iinc (z := 1) (L' := [.val (.ref o), .val (.int x1), .val (.int x2), .val (.int x3), .val (.int x4), .val (.int (x5 + (1 : Int32))), .val (.int ((x4 + x5) &&& (2047 : Int32)))]) (d17 53 rfl) rfl rfl rfl ?_
              refine Ev.goto (t := 17) (d17 54 rfl) rfl ?_
              exact ih x1 x2 x3 x4 (x5 + (1 : Int32)) s (.val (.int ((x4 + x5) &&& (2047 : Int32)))) rfl _ hr
          · replace hr := (if_neg c6).symm.trans hr
            refine Ev.iinc (z := 1) (L' := [.val (.ref o), .val (.int x1), .val (.int x2), .val (.int x3), .val (.int x4), .val (.int (x5 + (1 : Int32))), .val (.int ((x4 + x5) &&& (2047 : Int32)))]) (d17 53 rfl) rfl rfl rfl ?_
            refine Ev.goto (t := 17) (d17 54 rfl) rfl ?_
            exact ih x1 x2 x3 x4 (x5 + (1 : Int32)) s (.val (.int ((x4 + x5) &&& (2047 : Int32)))) rfl _ hr
        · replace hr := (if_neg c5).symm.trans hr
          refine Ev.iinc (z := 1) (L' := [.val (.ref o), .val (.int x1), .val (.int x2), .val (.int x3), .val (.int x4), .val (.int (x5 + (1 : Int32))), .val (.int ((x4 + x5) &&& (2047 : Int32)))]) (d17 53 rfl) rfl rfl rfl ?_
          refine Ev.goto (t := 17) (d17 54 rfl) rfl ?_
          exact ih x1 x2 x3 x4 (x5 + (1 : Int32)) s (.val (.int ((x4 + x5) &&& (2047 : Int32)))) rfl _ hr
    · replace hr := (if_neg c1).symm.trans hr
      refine Ev.iconst (z := -1) (d17 55 rfl) rfl ?_
      cases hr
      exact Ev.ireturn rfl (d17 56 rfl)
def f_lookup (n : Nat) (a0 : Int32) (a1 : Int32) (a2 : Int32) (s : St) : Option (Int32 × St) :=
  (f_hashOf s a0 a1 a2).bind fun q1 =>
  bnd (setI s 34 (-1 : Int32)) fun s3 =>
  f_lookup_17 n n a0 a1 a2 q1 (0 : Int32) s3
set_option maxRecDepth 100000 in
theorem e_lookup {g : GT} {n : Nat} {a0 : Int32} {a1 : Int32} {a2 : Int32} {s : St} {w : Int32 × St} (hw : HW g) {K : St → MHeap} {o : Nat} {r : Nat → Nat} (V : View (GG g) Ln K o r) (hr : f_lookup n a0 a1 a2 s = some w) : EvC (GG g) M_lookup [.ref o, .int a0, .int a1, .int a2] (K s) ((some (.int w.1)), (K w.2)) := by
  refine EvC.enter (L0 := [.val (.ref o), .val (.int a0), .val (.int a1), .val (.int a2), .unset, .unset, .unset]) pl_lookup (fun h => nomatch h) rfl rfl ?_
  unfold f_lookup at hr
  refine Ev.aloadN (d17 0 rfl) rfl ?_
  refine Ev.iloadN (d17 1 rfl) rfl ?_
  refine Ev.iloadN (d17 2 rfl) rfl ?_
  refine Ev.iloadN (d17 3 rfl) rfl ?_
  obtain ⟨q1, hq2, hr⟩ := Option.bind_eq_some_iff.mp hr
  refine Ev.priv (y := M_hashOf) (args := [.int a0, .int a1, .int a2]) (rest := []) (gok hw) rfl nm_hashOf (ww hw 163 rfl) (ww hw 164 rfl) (ww hw 165 rfl) (ww hw 166 rfl) (lenOf pd_hashOf rfl) (d17 4 rfl) (V.2.1 s) (e_hashOf hw V hq2) (by decide) (Nat.le_of_ble_eq_true rfl) rfl ?_
  refine Ev.istD (L' := [.val (.ref o), .val (.int a0), .val (.int a1), .val (.int a2), .val (.int q1), .unset, .unset]) (d17 5 rfl) rfl rfl rfl ?_
  refine Ev.aloadN (d17 6 rfl) rfl ?_
  refine Ev.iconst (z := -1) (d17 7 rfl) rfl ?_
  refine Ev.pI V (gok hw) (ww hw 79 rfl) (Or.inl (ww hw 80 rfl)) (d17 8 rfl) (j := 34) rfl ?_
  revert hr
  generalize setI s 34 (-1 : Int32) = s3
  intro hr
  replace hr := (bnd_eq _ _).symm.trans hr
  refine Ev.iconst (z := 0) (d17 9 rfl) rfl ?_
  refine Ev.istD (L' := [.val (.ref o), .val (.int a0), .val (.int a1), .val (.int a2), .val (.int q1), .val (.int (0 : Int32)), .unset]) (d17 10 rfl) rfl rfl rfl ?_
  exact e_lookup_17 hw V  n a0 a1 a2 q1 (0 : Int32) s3 .unset rfl _ hr
def f_insert (a0 : Int32) (a1 : Int32) (a2 : Int32) (a3 : Int32) (s : St) : Option (St) :=
  bnd (setI s 34 (-1 : Int32)) fun s1 =>
  if (s.1 34) < 0 then
    some s1
  else
    if (s.1 34) < (2048 : Int32) then
      if (s1.1 39) < 0 then
        some s1
      else
        if (s1.1 39) < (1024 : Int32) then
          grd (inb (s.1 34) 2048) <|
          bnd (setA s1 27 (ix (s.1 34)) a0) fun s7 =>
          bnd (setA s7 28 (ix (s.1 34)) a1) fun s8 =>
          bnd (setA s8 29 (ix (s.1 34)) a2) fun s9 =>
          bnd (setA s9 30 (ix (s.1 34)) a3) fun s10 =>
          bnd (setA s10 31 (ix (s.1 34)) ((1 : Int32) &&& 1)) fun s11 =>
          grd (inb (s11.1 39) 1024) <|
          bnd (setA s11 32 (ix (s11.1 39)) (s.1 34)) fun s13 =>
          bnd (setI s13 39 ((s13.1 39) + (1 : Int32))) fun s14 =>
          some s14
        else
          some s1
    else
      some s1
set_option maxRecDepth 100000 in
theorem e_insert {g : GT} {a0 : Int32} {a1 : Int32} {a2 : Int32} {a3 : Int32} {s : St} {w : St} (hw : HW g) {K : St → MHeap} {o : Nat} {r : Nat → Nat} (V : View (GG g) Ln K o r) (hr : f_insert a0 a1 a2 a3 s = some w) : EvC (GG g) M_insert [.ref o, .int a0, .int a1, .int a2, .int a3] (K s) (none, (K w)) := by
  refine EvC.enter (L0 := [.val (.ref o), .val (.int a0), .val (.int a1), .val (.int a2), .val (.int a3), .unset]) pl_insert (fun _ => rfl) rfl rfl ?_
  unfold f_insert at hr
  refine Ev.aloadN (d20 0 rfl) rfl ?_
  refine Ev.gI V (ww hw 79 rfl) (d20 1 rfl) (j := 34) rfl rfl ?_
  refine Ev.istD (L' := [.val (.ref o), .val (.int a0), .val (.int a1), .val (.int a2), .val (.int a3), .val (.int (s.1 34))]) (d20 2 rfl) rfl rfl rfl ?_
  refine Ev.aloadN (d20 3 rfl) rfl ?_
  refine Ev.iconst (z := -1) (d20 4 rfl) rfl ?_
  refine Ev.pI V (gok hw) (ww hw 79 rfl) (Or.inl (ww hw 80 rfl)) (d20 5 rfl) (j := 34) rfl ?_
  revert hr
  generalize setI s 34 (-1 : Int32) = s1
  intro hr
  replace hr := (bnd_eq _ _).symm.trans hr
  refine Ev.iload (d20 6 rfl) rfl ?_
  refine Ev.iflt (t := 41) (d20 7 rfl) rfl (fun c2 => ?_) (fun c2 => ?_)
  · replace hr := (if_pos c2).symm.trans hr
    cases hr
    exact Ev.vreturn rfl (d20 18 rfl)
  · replace hr := (if_neg c2).symm.trans hr
    refine Ev.iload (d20 8 rfl) rfl ?_
    refine Ev.sipush (z := 2048) (d20 9 rfl) rfl ?_
    refine Ev.icge (t := 41) (d20 10 rfl) rfl (fun c3 => ?_) (fun c3 => ?_)
    · replace hr := (if_pos c3).symm.trans hr
      refine Ev.aloadN (d20 11 rfl) rfl ?_
      refine Ev.gI V (ww hw 131 rfl) (d20 12 rfl) (j := 39) rfl rfl ?_
      refine Ev.iflt (t := 41) (d20 13 rfl) rfl (fun c4 => ?_) (fun c4 => ?_)
      · replace hr := (if_pos c4).symm.trans hr
        cases hr
        exact Ev.vreturn rfl (d20 18 rfl)
      · replace hr := (if_neg c4).symm.trans hr
        refine Ev.aloadN (d20 14 rfl) rfl ?_
        refine Ev.gI V (ww hw 131 rfl) (d20 15 rfl) (j := 39) rfl rfl ?_
        refine Ev.sipush (z := 1024) (d20 16 rfl) rfl ?_
        refine Ev.iclt (t := 42) (d20 17 rfl) rfl (fun c5 => ?_) (fun c5 => ?_)
        · replace hr := (if_pos c5).symm.trans hr
          refine Ev.aloadN (d20 19 rfl) rfl ?_
          refine Ev.gAr V (ww hw 65 rfl) (d20 20 rfl) (j := 27) rfl ?_
          refine Ev.iload (d20 21 rfl) rfl ?_
          refine Ev.iloadN (d20 22 rfl) rfl ?_
          obtain ⟨b6, hr⟩ := grd_some hr
          refine Ev.ias V (j := 27) rfl rfl (d20 23 rfl) b6 ?_
          revert hr
          generalize setA s1 27 (ix (s.1 34)) a0 = s7
          intro hr
          replace hr := (bnd_eq _ _).symm.trans hr
          refine Ev.aloadN (d20 24 rfl) rfl ?_
          refine Ev.gAr V (ww hw 67 rfl) (d20 25 rfl) (j := 28) rfl ?_
          refine Ev.iload (d20 26 rfl) rfl ?_
          refine Ev.iloadN (d20 27 rfl) rfl ?_
          refine Ev.ias V (j := 28) rfl rfl (d20 28 rfl) b6 ?_
          revert hr
          generalize setA s7 28 (ix (s.1 34)) a1 = s8
          intro hr
          replace hr := (bnd_eq _ _).symm.trans hr
          refine Ev.aloadN (d20 29 rfl) rfl ?_
          refine Ev.gAr V (ww hw 69 rfl) (d20 30 rfl) (j := 29) rfl ?_
          refine Ev.iload (d20 31 rfl) rfl ?_
          refine Ev.iloadN (d20 32 rfl) rfl ?_
          refine Ev.ias V (j := 29) rfl rfl (d20 33 rfl) b6 ?_
          revert hr
          generalize setA s8 29 (ix (s.1 34)) a2 = s9
          intro hr
          replace hr := (bnd_eq _ _).symm.trans hr
          refine Ev.aloadN (d20 34 rfl) rfl ?_
          refine Ev.gAr V (ww hw 71 rfl) (d20 35 rfl) (j := 30) rfl ?_
          refine Ev.iload (d20 36 rfl) rfl ?_
          refine Ev.iload (d20 37 rfl) rfl ?_
          refine Ev.ias V (j := 30) rfl rfl (d20 38 rfl) b6 ?_
          revert hr
          generalize setA s9 30 (ix (s.1 34)) a3 = s10
          intro hr
          replace hr := (bnd_eq _ _).symm.trans hr
          refine Ev.aloadN (d20 39 rfl) rfl ?_
          refine Ev.gAr V (ww hw 73 rfl) (d20 40 rfl) (j := 31) rfl ?_
          refine Ev.iload (d20 41 rfl) rfl ?_
          refine Ev.iconst (z := 1) (d20 42 rfl) rfl ?_
          refine Ev.bas V (j := 31) rfl rfl (d20 43 rfl) b6 ?_
          revert hr
          generalize setA s10 31 (ix (s.1 34)) ((1 : Int32) &&& 1) = s11
          intro hr
          replace hr := (bnd_eq _ _).symm.trans hr
          refine Ev.aloadN (d20 44 rfl) rfl ?_
          refine Ev.gAr V (ww hw 75 rfl) (d20 45 rfl) (j := 32) rfl ?_
          refine Ev.aloadN (d20 46 rfl) rfl ?_
          refine Ev.gI V (ww hw 131 rfl) (d20 47 rfl) (j := 39) rfl rfl ?_
          refine Ev.iload (d20 48 rfl) rfl ?_
          obtain ⟨b12, hr⟩ := grd_some hr
          refine Ev.ias V (j := 32) rfl rfl (d20 49 rfl) b12 ?_
          revert hr
          generalize setA s11 32 (ix (s11.1 39)) (s.1 34) = s13
          intro hr
          replace hr := (bnd_eq _ _).symm.trans hr
          refine Ev.aloadN (d20 50 rfl) rfl ?_
          refine Ev.dup (d20 51 rfl) rfl ?_
          refine Ev.gI V (ww hw 131 rfl) (d20 52 rfl) (j := 39) rfl rfl ?_
          refine Ev.iconst (z := 1) (d20 53 rfl) rfl ?_
          refine Ev.iadd (d20 54 rfl) ?_
          refine Ev.pI V (gok hw) (ww hw 131 rfl) (Or.inl (ww hw 132 rfl)) (d20 55 rfl) (j := 39) rfl ?_
          revert hr
          generalize setI s13 39 ((s13.1 39) + (1 : Int32)) = s14
          intro hr
          replace hr := (bnd_eq _ _).symm.trans hr
          cases hr
          exact Ev.vreturn rfl (d20 56 rfl)
        · replace hr := (if_neg c5).symm.trans hr
          cases hr
          exact Ev.vreturn rfl (d20 18 rfl)
    · replace hr := (if_neg c3).symm.trans hr
      cases hr
      exact Ev.vreturn rfl (d20 18 rfl)
def f_makeLeaf (n : Nat) (a0 : Int32) (a1 : Int32) (a2 : Int32) (a3 : Int32) (s : St) : Option (Int32 × St) :=
  (f_lookup n a0 a1 a2 s).bind fun q1 =>
  if q1.1 < 0 then
    (f_emit a0 a1 (0 : Int32) q1.2).bind fun q4 =>
    grd (inb q4.1 1056) <|
    bnd (setA q4.2 10 (ix q4.1) a3) fun s7 =>
    (f_insert a0 a1 a2 q4.1 s7).bind fun q8 =>
    some (q4.1, q8)
  else
    some (q1.1, q1.2)
set_option maxRecDepth 100000 in
theorem e_makeLeaf {g : GT} {n : Nat} {a0 : Int32} {a1 : Int32} {a2 : Int32} {a3 : Int32} {s : St} {w : Int32 × St} (hw : HW g) {K : St → MHeap} {o : Nat} {r : Nat → Nat} (V : View (GG g) Ln K o r) (hr : f_makeLeaf n a0 a1 a2 a3 s = some w) : EvC (GG g) M_makeLeaf [.ref o, .int a0, .int a1, .int a2, .int a3] (K s) ((some (.int w.1)), (K w.2)) := by
  refine EvC.enter (L0 := [.val (.ref o), .val (.int a0), .val (.int a1), .val (.int a2), .val (.int a3), .unset, .unset]) pl_makeLeaf (fun h => nomatch h) rfl rfl ?_
  unfold f_makeLeaf at hr
  refine Ev.aloadN (d16 0 rfl) rfl ?_
  refine Ev.iloadN (d16 1 rfl) rfl ?_
  refine Ev.iloadN (d16 2 rfl) rfl ?_
  refine Ev.iloadN (d16 3 rfl) rfl ?_
  obtain ⟨q1, hq2, hr⟩ := Option.bind_eq_some_iff.mp hr
  refine Ev.priv (y := M_lookup) (args := [.int a0, .int a1, .int a2]) (rest := []) (gok hw) rfl nm_lookup (ww hw 159 rfl) (ww hw 160 rfl) (ww hw 161 rfl) (ww hw 162 rfl) (lenOf pd_lookup rfl) (d16 4 rfl) (V.2.1 s) (e_lookup hw V hq2) (by decide) (Nat.le_of_ble_eq_true rfl) rfl ?_
  refine Ev.istD (L' := [.val (.ref o), .val (.int a0), .val (.int a1), .val (.int a2), .val (.int a3), .val (.int q1.1), .unset]) (d16 5 rfl) rfl rfl rfl ?_
  refine Ev.iload (d16 6 rfl) rfl ?_
  refine Ev.iflt (t := 17) (d16 7 rfl) rfl (fun c3 => ?_) (fun c3 => ?_)
  · replace hr := (if_pos c3).symm.trans hr
    refine Ev.aloadN (d16 10 rfl) rfl ?_
    refine Ev.iloadN (d16 11 rfl) rfl ?_
    refine Ev.iloadN (d16 12 rfl) rfl ?_
    refine Ev.iconst (z := 0) (d16 13 rfl) rfl ?_
    obtain ⟨q4, hq5, hr⟩ := Option.bind_eq_some_iff.mp hr
    refine Ev.priv (y := M_emit) (args := [.int a0, .int a1, .int (0 : Int32)]) (rest := []) (gok hw) rfl nm_emit (ww hw 171 rfl) (ww hw 172 rfl) (ww hw 173 rfl) (ww hw 174 rfl) (lenOf pd_emit rfl) (d16 14 rfl) (V.2.1 q1.2) (e_emit hw V hq5) (by decide) (Nat.le_of_ble_eq_true rfl) rfl ?_
    refine Ev.istD (L' := [.val (.ref o), .val (.int a0), .val (.int a1), .val (.int a2), .val (.int a3), .val (.int q1.1), .val (.int q4.1)]) (d16 15 rfl) rfl rfl rfl ?_
    refine Ev.aloadN (d16 16 rfl) rfl ?_
    refine Ev.gAr V (ww hw 30 rfl) (d16 17 rfl) (j := 10) rfl ?_
    refine Ev.iload (d16 18 rfl) rfl ?_
    refine Ev.iload (d16 19 rfl) rfl ?_
    obtain ⟨b6, hr⟩ := grd_some hr
    refine Ev.ias V (j := 10) rfl rfl (d16 20 rfl) b6 ?_
    revert hr
    generalize setA q4.2 10 (ix q4.1) a3 = s7
    intro hr
    replace hr := (bnd_eq _ _).symm.trans hr
    refine Ev.aloadN (d16 21 rfl) rfl ?_
    refine Ev.iloadN (d16 22 rfl) rfl ?_
    refine Ev.iloadN (d16 23 rfl) rfl ?_
    refine Ev.iloadN (d16 24 rfl) rfl ?_
    refine Ev.iload (d16 25 rfl) rfl ?_
    obtain ⟨q8, hq9, hr⟩ := Option.bind_eq_some_iff.mp hr
    refine Ev.priv (y := M_insert) (args := [.int a0, .int a1, .int a2, .int q4.1]) (rest := []) (gok hw) rfl nm_insert (ww hw 175 rfl) (ww hw 176 rfl) (ww hw 177 rfl) (ww hw 178 rfl) (lenOf pd_insert rfl) (d16 26 rfl) (V.2.1 s7) (e_insert hw V hq9) (by decide) (Nat.le_of_ble_eq_true rfl) rfl ?_
    refine Ev.iload (d16 27 rfl) rfl ?_
    cases hr
    exact Ev.ireturn rfl (d16 28 rfl)
  · replace hr := (if_neg c3).symm.trans hr
    refine Ev.iload (d16 8 rfl) rfl ?_
    cases hr
    exact Ev.ireturn rfl (d16 9 rfl)
def f_makeConst (n : Nat) (a0 : Int32) (s : St) : Option (Int32 × St) :=
  (f_makeLeaf n (1 : Int32) a0 (0 : Int32) (0 : Int32) s).bind fun q1 =>
  some (q1.1, q1.2)
set_option maxRecDepth 100000 in
theorem e_makeConst {g : GT} {n : Nat} {a0 : Int32} {s : St} {w : Int32 × St} (hw : HW g) {K : St → MHeap} {o : Nat} {r : Nat → Nat} (V : View (GG g) Ln K o r) (hr : f_makeConst n a0 s = some w) : EvC (GG g) M_makeConst [.ref o, .int a0] (K s) ((some (.int w.1)), (K w.2)) := by
  refine EvC.enter (L0 := [.val (.ref o), .val (.int a0)]) pl_makeConst (fun h => nomatch h) rfl rfl ?_
  unfold f_makeConst at hr
  refine Ev.aloadN (d15 0 rfl) rfl ?_
  refine Ev.iconst (z := 1) (d15 1 rfl) rfl ?_
  refine Ev.iloadN (d15 2 rfl) rfl ?_
  refine Ev.iconst (z := 0) (d15 3 rfl) rfl ?_
  refine Ev.iconst (z := 0) (d15 4 rfl) rfl ?_
  obtain ⟨q1, hq2, hr⟩ := Option.bind_eq_some_iff.mp hr
  refine Ev.priv (y := M_makeLeaf) (args := [.int (1 : Int32), .int a0, .int (0 : Int32), .int (0 : Int32)]) (rest := []) (gok hw) rfl nm_makeLeaf (ww hw 155 rfl) (ww hw 156 rfl) (ww hw 157 rfl) (ww hw 158 rfl) (lenOf pd_makeLeaf rfl) (d15 5 rfl) (V.2.1 s) (e_makeLeaf hw V hq2) (by decide) (Nat.le_of_ble_eq_true rfl) rfl ?_
  cases hr
  exact Ev.ireturn rfl (d15 6 rfl)
def f_buildValue (n : Nat) (a0 : Int32) (s : St) : Option (Int32 × St) :=
  grd (inb a0 32) <|
  if (s.2 0 (ix a0)) = (1 : Int32) then
    (f_makeConst n (s.2 1 (ix a0)) s).bind fun q3 =>
    some (q3.1, q3.2)
  else
    if (s.2 0 (ix a0)) = (2 : Int32) then
      (f_makeLeaf n (2 : Int32) ((s.2 1 (ix a0)) &&& (7 : Int32)) (0 : Int32) (1 : Int32) s).bind fun q6 =>
      some (q6.1, q6.2)
    else
      if (s.2 0 (ix a0)) = (3 : Int32) then
        bnd (((2 : Int32) + ((s.1 42) * (64 : Int32))) + a0) fun v9 =>
        grd (inb ((s.2 1 (ix a0)) &&& (3 : Int32)) 4) <|
        (f_makeLeaf n (3 : Int32) ((s.2 1 (ix a0)) &&& (3 : Int32)) (s.2 19 (ix ((s.2 1 (ix a0)) &&& (3 : Int32)))) v9 s).bind fun q11 =>
        some (q11.1, q11.2)
      else
        none
set_option maxRecDepth 100000 in
theorem e_buildValue {g : GT} {n : Nat} {a0 : Int32} {s : St} {w : Int32 × St} (hw : HW g) {K : St → MHeap} {o : Nat} {r : Nat → Nat} (V : View (GG g) Ln K o r) (hr : f_buildValue n a0 s = some w) : EvC (GG g) M_buildValue [.ref o, .int a0] (K s) ((some (.int w.1)), (K w.2)) := by
  refine EvC.enter (L0 := [.val (.ref o), .val (.int a0), .unset, .unset, .unset]) pl_buildValue (fun h => nomatch h) rfl rfl ?_
  unfold f_buildValue at hr
  refine Ev.aloadN (d14 0 rfl) rfl ?_
  refine Ev.gAr V (ww hw 10 rfl) (d14 1 rfl) (j := 0) rfl ?_
  refine Ev.iloadN (d14 2 rfl) rfl ?_
  obtain ⟨b1, hr⟩ := grd_some hr
  refine Ev.ial V (j := 0) rfl rfl (d14 3 rfl) b1 ?_
  refine Ev.istDN (L' := [.val (.ref o), .val (.int a0), .val (.int (s.2 0 (ix a0))), .unset, .unset]) (d14 4 rfl) rfl rfl rfl ?_
  refine Ev.aloadN (d14 5 rfl) rfl ?_
  refine Ev.gAr V (ww hw 12 rfl) (d14 6 rfl) (j := 1) rfl ?_
  refine Ev.iloadN (d14 7 rfl) rfl ?_
  refine Ev.ial V (j := 1) rfl rfl (d14 8 rfl) b1 ?_
  refine Ev.istDN (L' := [.val (.ref o), .val (.int a0), .val (.int (s.2 0 (ix a0))), .val (.int (s.2 1 (ix a0))), .unset]) (d14 9 rfl) rfl rfl rfl ?_
  refine Ev.iloadN (d14 10 rfl) rfl ?_
  refine Ev.iconst (z := 1) (d14 11 rfl) rfl ?_
  refine Ev.icne (t := 25) (d14 12 rfl) rfl (fun c2 => ?_) (fun c2 => ?_)
  · replace hr := (if_pos c2).symm.trans hr
    refine Ev.aloadN (d14 13 rfl) rfl ?_
    refine Ev.iloadN (d14 14 rfl) rfl ?_
    obtain ⟨q3, hq4, hr⟩ := Option.bind_eq_some_iff.mp hr
    refine Ev.priv (y := M_makeConst) (args := [.int (s.2 1 (ix a0))]) (rest := []) (gok hw) rfl nm_makeConst (ww hw 151 rfl) (ww hw 152 rfl) (ww hw 153 rfl) (ww hw 154 rfl) (lenOf pd_makeConst rfl) (d14 15 rfl) (V.2.1 s) (e_makeConst hw V hq4) (by decide) (Nat.le_of_ble_eq_true rfl) rfl ?_
    cases hr
    exact Ev.ireturn rfl (d14 16 rfl)
  · replace hr := (if_neg c2).symm.trans hr
    refine Ev.iloadN (d14 17 rfl) rfl ?_
    refine Ev.iconst (z := 2) (d14 18 rfl) rfl ?_
    refine Ev.icne (t := 42) (d14 19 rfl) rfl (fun c5 => ?_) (fun c5 => ?_)
    · replace hr := (if_pos c5).symm.trans hr
      refine Ev.aloadN (d14 20 rfl) rfl ?_
      refine Ev.iconst (z := 2) (d14 21 rfl) rfl ?_
      refine Ev.iloadN (d14 22 rfl) rfl ?_
      refine Ev.bipush (z := 7) (d14 23 rfl) rfl ?_
      refine Ev.iand (d14 24 rfl) ?_
      refine Ev.iconst (z := 0) (d14 25 rfl) rfl ?_
      refine Ev.iconst (z := 1) (d14 26 rfl) rfl ?_
      obtain ⟨q6, hq7, hr⟩ := Option.bind_eq_some_iff.mp hr
      refine Ev.priv (y := M_makeLeaf) (args := [.int (2 : Int32), .int ((s.2 1 (ix a0)) &&& (7 : Int32)), .int (0 : Int32), .int (1 : Int32)]) (rest := []) (gok hw) rfl nm_makeLeaf (ww hw 155 rfl) (ww hw 156 rfl) (ww hw 157 rfl) (ww hw 158 rfl) (lenOf pd_makeLeaf rfl) (d14 27 rfl) (V.2.1 s) (e_makeLeaf hw V hq7) (by decide) (Nat.le_of_ble_eq_true rfl) rfl ?_
      cases hr
      exact Ev.ireturn rfl (d14 28 rfl)
    · replace hr := (if_neg c5).symm.trans hr
      refine Ev.iloadN (d14 29 rfl) rfl ?_
      refine Ev.iconst (z := 3) (d14 30 rfl) rfl ?_
      refine Ev.icne (t := 79) (d14 31 rfl) rfl (fun c8 => ?_) (fun c8 => ?_)
      · replace hr := (if_pos c8).symm.trans hr
        refine Ev.iconst (z := 2) (d14 32 rfl) rfl ?_
        refine Ev.aloadN (d14 33 rfl) rfl ?_
        refine Ev.gI V (ww hw 137 rfl) (d14 34 rfl) (j := 42) rfl rfl ?_
        refine Ev.bipush (z := 64) (d14 35 rfl) rfl ?_
        refine Ev.imul (d14 36 rfl) ?_
        refine Ev.iadd (d14 37 rfl) ?_
        refine Ev.iloadN (d14 38 rfl) rfl ?_
        refine Ev.iadd (d14 39 rfl) ?_
        revert hr
        generalize (((2 : Int32) + ((s.1 42) * (64 : Int32))) + a0) = v9
        intro hr
        replace hr := (bnd_eq _ _).symm.trans hr
        refine Ev.istD (L' := [.val (.ref o), .val (.int a0), .val (.int (s.2 0 (ix a0))), .val (.int (s.2 1 (ix a0))), .val (.int v9)]) (d14 40 rfl) rfl rfl rfl ?_
        refine Ev.aloadN (d14 41 rfl) rfl ?_
        refine Ev.iconst (z := 3) (d14 42 rfl) rfl ?_
        refine Ev.iloadN (d14 43 rfl) rfl ?_
        refine Ev.iconst (z := 3) (d14 44 rfl) rfl ?_
        refine Ev.iand (d14 45 rfl) ?_
        refine Ev.aloadN (d14 46 rfl) rfl ?_
        refine Ev.gAr V (ww hw 48 rfl) (d14 47 rfl) (j := 19) rfl ?_
        refine Ev.iloadN (d14 48 rfl) rfl ?_
        refine Ev.iconst (z := 3) (d14 49 rfl) rfl ?_
        refine Ev.iand (d14 50 rfl) ?_
        obtain ⟨b10, hr⟩ := grd_some hr
        refine Ev.ial V (j := 19) rfl rfl (d14 51 rfl) b10 ?_
        refine Ev.iload (d14 52 rfl) rfl ?_
        obtain ⟨q11, hq12, hr⟩ := Option.bind_eq_some_iff.mp hr
        refine Ev.priv (y := M_makeLeaf) (args := [.int (3 : Int32), .int ((s.2 1 (ix a0)) &&& (3 : Int32)), .int (s.2 19 (ix ((s.2 1 (ix a0)) &&& (3 : Int32)))), .int v9]) (rest := []) (gok hw) rfl nm_makeLeaf (ww hw 155 rfl) (ww hw 156 rfl) (ww hw 157 rfl) (ww hw 158 rfl) (lenOf pd_makeLeaf rfl) (d14 53 rfl) (V.2.1 s) (e_makeLeaf hw V hq12) (by decide) (Nat.le_of_ble_eq_true rfl) rfl ?_
        cases hr
        exact Ev.ireturn rfl (d14 54 rfl)
      · replace hr := (if_neg c8).symm.trans hr
        refine Ev.aloadN (d14 55 rfl) rfl ?_
        refine Ev.iloadN (d14 56 rfl) rfl ?_
        cases hr
def f_translate (n : Nat) (a0 : Int32) (s : St) : Option (St) :=
  grd (inb a0 32) <|
  if (s.2 0 (ix a0)) = (13 : Int32) then
    none
  else
    if (s.2 0 (ix a0)) = (14 : Int32) then
      none
    else
      if (s.2 0 (ix a0)) = (11 : Int32) then
        none
      else
        if (s.2 0 (ix a0)) = (12 : Int32) then
          none
        else
          (f_buildValue n a0 s).bind fun q6 =>
          bnd (setA q6.2 17 (ix a0) q6.1) fun s8 =>
          some s8
set_option maxRecDepth 100000 in
theorem e_translate {g : GT} {n : Nat} {a0 : Int32} {s : St} {w : St} (hw : HW g) {K : St → MHeap} {o : Nat} {r : Nat → Nat} (V : View (GG g) Ln K o r) (hr : f_translate n a0 s = some w) : EvC (GG g) M_translate [.ref o, .int a0] (K s) (none, (K w)) := by
  refine EvC.enter (L0 := [.val (.ref o), .val (.int a0), .unset, .unset]) pl_translate (fun _ => rfl) rfl rfl ?_
  unfold f_translate at hr
  refine Ev.aloadN (d13 0 rfl) rfl ?_
  refine Ev.gAr V (ww hw 10 rfl) (d13 1 rfl) (j := 0) rfl ?_
  refine Ev.iloadN (d13 2 rfl) rfl ?_
  obtain ⟨b1, hr⟩ := grd_some hr
  refine Ev.ial V (j := 0) rfl rfl (d13 3 rfl) b1 ?_
  refine Ev.istDN (L' := [.val (.ref o), .val (.int a0), .val (.int (s.2 0 (ix a0))), .unset]) (d13 4 rfl) rfl rfl rfl ?_
  refine Ev.iloadN (d13 5 rfl) rfl ?_
  refine Ev.bipush (z := 13) (d13 6 rfl) rfl ?_
  refine Ev.icne (t := 21) (d13 7 rfl) rfl (fun c2 => ?_) (fun c2 => ?_)
  · replace hr := (if_pos c2).symm.trans hr
    refine Ev.aloadN (d13 8 rfl) rfl ?_
    refine Ev.iloadN (d13 9 rfl) rfl ?_
    cases hr
  · replace hr := (if_neg c2).symm.trans hr
    refine Ev.iloadN (d13 12 rfl) rfl ?_
    refine Ev.bipush (z := 14) (d13 13 rfl) rfl ?_
    refine Ev.icne (t := 34) (d13 14 rfl) rfl (fun c3 => ?_) (fun c3 => ?_)
    · replace hr := (if_pos c3).symm.trans hr
      refine Ev.aloadN (d13 15 rfl) rfl ?_
      cases hr
    · replace hr := (if_neg c3).symm.trans hr
      refine Ev.iloadN (d13 18 rfl) rfl ?_
      refine Ev.bipush (z := 11) (d13 19 rfl) rfl ?_
      refine Ev.icne (t := 48) (d13 20 rfl) rfl (fun c4 => ?_) (fun c4 => ?_)
      · replace hr := (if_pos c4).symm.trans hr
        refine Ev.aloadN (d13 21 rfl) rfl ?_
        refine Ev.iloadN (d13 22 rfl) rfl ?_
        cases hr
      · replace hr := (if_neg c4).symm.trans hr
        refine Ev.iloadN (d13 25 rfl) rfl ?_
        refine Ev.bipush (z := 12) (d13 26 rfl) rfl ?_
        refine Ev.icne (t := 77) (d13 27 rfl) rfl (fun c5 => ?_) (fun c5 => ?_)
        · replace hr := (if_pos c5).symm.trans hr
          refine Ev.aloadN (d13 28 rfl) rfl ?_
          refine Ev.aloadN (d13 29 rfl) rfl ?_
          refine Ev.gAr V (ww hw 12 rfl) (d13 30 rfl) (j := 1) rfl ?_
          refine Ev.iloadN (d13 31 rfl) rfl ?_
          refine Ev.ial V (j := 1) rfl rfl (d13 32 rfl) b1 ?_
          cases hr
        · replace hr := (if_neg c5).symm.trans hr
          refine Ev.aloadN (d13 42 rfl) rfl ?_
          refine Ev.gAr V (ww hw 44 rfl) (d13 43 rfl) (j := 17) rfl ?_
          refine Ev.iloadN (d13 44 rfl) rfl ?_
          refine Ev.aloadN (d13 45 rfl) rfl ?_
          refine Ev.iloadN (d13 46 rfl) rfl ?_
          obtain ⟨q6, hq7, hr⟩ := Option.bind_eq_some_iff.mp hr
          refine Ev.priv (y := M_buildValue) (args := [.int a0]) (rest := [.int a0, .ref (r 17)]) (gok hw) rfl nm_buildValue (ww hw 147 rfl) (ww hw 148 rfl) (ww hw 149 rfl) (ww hw 150 rfl) (lenOf pd_buildValue rfl) (d13 47 rfl) (V.2.1 s) (e_buildValue hw V hq7) (by decide) (Nat.le_of_ble_eq_true rfl) rfl ?_
          refine Ev.ias V (j := 17) rfl rfl (d13 48 rfl) b1 ?_
          revert hr
          generalize setA q6.2 17 (ix a0) q6.1 = s8
          intro hr
          replace hr := (bnd_eq _ _).symm.trans hr
          cases hr
          exact Ev.vreturn rfl (d13 49 rfl)
def f_buildVersion1_93 (n : Nat) (s : St) : Option (St) :=
  (f_undoHash n (0 : Int32) s).bind fun q1 =>
  if (q1.1 41) = 0 then
    some q1
  else
    none
set_option maxRecDepth 100000 in
theorem e_buildVersion1_93 {g : GT} {n : Nat} (hw : HW g) {K : St → MHeap} {o : Nat} {r : Nat → Nat} (V : View (GG g) Ln K o r) (s : St) (y1 : Slot) (hy1 : one1 y1 = true) (w : St) (hr : f_buildVersion1_93 n s = some w) : Ev (GG g) M_buildVersion1 93 [.val (.ref o), y1] [] (K s) (none, (K w)) := by
  unfold f_buildVersion1_93 at hr
  refine Ev.aloadN (d10 52 rfl) rfl ?_
  refine Ev.iconst (z := 0) (d10 53 rfl) rfl ?_
  obtain ⟨q1, hq2, hr⟩ := Option.bind_eq_some_iff.mp hr
  refine Ev.priv (y := M_undoHash) (args := [.int (0 : Int32)]) (rest := []) (gok hw) rfl nm_undoHash (ww hw 127 rfl) (ww hw 128 rfl) (ww hw 129 rfl) (ww hw 130 rfl) (lenOf pd_undoHash rfl) (d10 54 rfl) (V.2.1 s) (e_undoHash hw V hq2) (by decide) (Nat.le_of_ble_eq_true rfl) rfl ?_
  refine Ev.aloadN (d10 55 rfl) rfl ?_
  refine Ev.gI V (ww hw 135 rfl) (d10 56 rfl) (j := 41) rfl rfl ?_
  refine Ev.ifeq (t := 109) (d10 57 rfl) rfl (fun c3 => ?_) (fun c3 => ?_)
  · replace hr := (if_pos c3).symm.trans hr
    cases hr
    exact Ev.vreturn rfl (d10 60 rfl)
  · replace hr := (if_neg c3).symm.trans hr
    refine Ev.aloadN (d10 58 rfl) rfl ?_
    cases hr
def f_buildVersion1_68 (n : Nat) : Nat → Int32 → St → Option (St)
  | 0 => fun _ _ => none
  | k + 1 => fun x1 s =>
    if x1 < (s.1 35) then
      if x1 < (32 : Int32) then
        (f_translate n x1 s).bind fun q3 =>
        f_buildVersion1_68 n k (x1 + (1 : Int32)) q3
      else
        f_buildVersion1_93 n s
    else
      f_buildVersion1_93 n s
set_option maxRecDepth 100000 in
theorem e_buildVersion1_68 {g : GT} {n : Nat} (hw : HW g) {K : St → MHeap} {o : Nat} {r : Nat → Nat} (V : View (GG g) Ln K o r) (k : Nat) : ∀ (x1 : Int32) (s : St) (w : St), f_buildVersion1_68 n k x1 s = some w → Ev (GG g) M_buildVersion1 68 [.val (.ref o), .val (.int x1)] [] (K s) (none, (K w)) := by
  induction k with
  | zero => intro x1 s w hr; rw [f_buildVersion1_68] at hr; cases hr
  | succ k ih =>
    intro x1 s w hr
    rw [f_buildVersion1_68] at hr
    refine Ev.iloadN (d10 40 rfl) rfl ?_
    refine Ev.aloadN (d10 41 rfl) rfl ?_
    refine Ev.gI V (ww hw 86 rfl) (d10 42 rfl) (j := 35) rfl rfl ?_
    refine Ev.icge (t := 93) (d10 43 rfl) rfl (fun c1 => ?_) (fun c1 => ?_)
    · replace hr := (if_pos c1).symm.trans hr
      refine Ev.iloadN (d10 44 rfl) rfl ?_
      refine Ev.bipush (z := 32) (d10 45 rfl) rfl ?_
      refine Ev.icge (t := 93) (d10 46 rfl) rfl (fun c2 => ?_) (fun c2 => ?_)
      · replace hr := (if_pos c2).symm.trans hr
        refine Ev.aloadN (d10 47 rfl) rfl ?_
        refine Ev.iloadN (d10 48 rfl) rfl ?_
        obtain ⟨q3, hq4, hr⟩ := Option.bind_eq_some_iff.mp hr
        refine Ev.priv (y := M_translate) (args := [.int x1]) (rest := []) (gok hw) rfl nm_translate (ww hw 143 rfl) (ww hw 144 rfl) (ww hw 145 rfl) (ww hw 146 rfl) (lenOf pd_translate rfl) (d10 49 rfl) (V.2.1 s) (e_translate hw V hq4) (by decide) (Nat.le_of_ble_eq_true rfl) rfl ?_
        refine Ev.iinc (z := 1) (L' := [.val (.ref o), .val (.int (x1 + (1 : Int32)))]) (d10 50 rfl) rfl rfl rfl ?_
        refine Ev.goto (t := 68) (d10 51 rfl) rfl ?_
        exact ih (x1 + (1 : Int32)) q3  _ hr
      · replace hr := (if_neg c2).symm.trans hr
        exact e_buildVersion1_93 hw V  s (.val (.int x1)) rfl _ hr
    · replace hr := (if_neg c1).symm.trans hr
      exact e_buildVersion1_93 hw V  s (.val (.int x1)) rfl _ hr
def f_buildVersion1_42 (n : Nat) : Nat → Int32 → St → Option (St)
  | 0 => fun _ _ => none
  | k + 1 => fun x1 s =>
    if x1 < (32 : Int32) then
      grd (inb x1 32) <|
      bnd (setA s 17 (ix x1) (32 : Int32)) fun s3 =>
      f_buildVersion1_42 n k (x1 + (1 : Int32)) s3
    else
      (f_computeSetMasks n s).bind fun q4 =>
      f_buildVersion1_68 n n (0 : Int32) q4
set_option maxRecDepth 100000 in
theorem e_buildVersion1_42 {g : GT} {n : Nat} (hw : HW g) {K : St → MHeap} {o : Nat} {r : Nat → Nat} (V : View (GG g) Ln K o r) (k : Nat) : ∀ (x1 : Int32) (s : St) (w : St), f_buildVersion1_42 n k x1 s = some w → Ev (GG g) M_buildVersion1 42 [.val (.ref o), .val (.int x1)] [] (K s) (none, (K w)) := by
  induction k with
  | zero => intro x1 s w hr; rw [f_buildVersion1_42] at hr; cases hr
  | succ k ih =>
    intro x1 s w hr
    rw [f_buildVersion1_42] at hr
    refine Ev.iloadN (d10 26 rfl) rfl ?_
    refine Ev.bipush (z := 32) (d10 27 rfl) rfl ?_
    refine Ev.icge (t := 62) (d10 28 rfl) rfl (fun c1 => ?_) (fun c1 => ?_)
    · replace hr := (if_pos c1).symm.trans hr
      refine Ev.aloadN (d10 29 rfl) rfl ?_
      refine Ev.gAr V (ww hw 44 rfl) (d10 30 rfl) (j := 17) rfl ?_
      refine Ev.iloadN (d10 31 rfl) rfl ?_
      refine Ev.bipush (z := 32) (d10 32 rfl) rfl ?_
      obtain ⟨b2, hr⟩ := grd_some hr
      refine Ev.ias V (j := 17) rfl rfl (d10 33 rfl) b2 ?_
      revert hr
      generalize setA s 17 (ix x1) (32 : Int32) = s3
      intro hr
      replace hr := (bnd_eq _ _).symm.trans hr
      refine Ev.iinc (z := 1) (L' := [.val (.ref o), .val (.int (x1 + (1 : Int32)))]) (d10 34 rfl) rfl rfl rfl ?_
      refine Ev.goto (t := 42) (d10 35 rfl) rfl ?_
      exact ih (x1 + (1 : Int32)) s3  _ hr
    · replace hr := (if_neg c1).symm.trans hr
      refine Ev.aloadN (d10 36 rfl) rfl ?_
      obtain ⟨q4, hq5, hr⟩ := Option.bind_eq_some_iff.mp hr
      refine Ev.priv (y := M_computeSetMasks) (args := []) (rest := []) (gok hw) rfl nm_computeSetMasks (ww hw 139 rfl) (ww hw 140 rfl) (ww hw 141 rfl) (ww hw 142 rfl) (lenOf pd_computeSetMasks rfl) (d10 37 rfl) (V.2.1 s) (e_computeSetMasks hw V hq5) (by decide) (Nat.le_of_ble_eq_true rfl) rfl ?_
      refine Ev.iconst (z := 0) (d10 38 rfl) rfl ?_
      refine Ev.istDN (L' := [.val (.ref o), .val (.int (0 : Int32))]) (d10 39 rfl) rfl rfl rfl ?_
      exact e_buildVersion1_68 hw V  n (0 : Int32) q4  _ hr
def f_buildVersion1_22 (n : Nat) : Nat → Int32 → St → Option (St)
  | 0 => fun _ _ => none
  | k + 1 => fun x1 s =>
    if x1 < (4 : Int32) then
      grd (inb x1 4) <|
      bnd (setA s 19 (ix x1) (0 : Int32)) fun s3 =>
      f_buildVersion1_22 n k (x1 + (1 : Int32)) s3
    else
      f_buildVersion1_42 n n (0 : Int32) s
set_option maxRecDepth 100000 in
theorem e_buildVersion1_22 {g : GT} {n : Nat} (hw : HW g) {K : St → MHeap} {o : Nat} {r : Nat → Nat} (V : View (GG g) Ln K o r) (k : Nat) : ∀ (x1 : Int32) (s : St) (w : St), f_buildVersion1_22 n k x1 s = some w → Ev (GG g) M_buildVersion1 22 [.val (.ref o), .val (.int x1)] [] (K s) (none, (K w)) := by
  induction k with
  | zero => intro x1 s w hr; rw [f_buildVersion1_22] at hr; cases hr
  | succ k ih =>
    intro x1 s w hr
    rw [f_buildVersion1_22] at hr
    refine Ev.iloadN (d10 14 rfl) rfl ?_
    refine Ev.iconst (z := 4) (d10 15 rfl) rfl ?_
    refine Ev.icge (t := 40) (d10 16 rfl) rfl (fun c1 => ?_) (fun c1 => ?_)
    · replace hr := (if_pos c1).symm.trans hr
      refine Ev.aloadN (d10 17 rfl) rfl ?_
      refine Ev.gAr V (ww hw 48 rfl) (d10 18 rfl) (j := 19) rfl ?_
      refine Ev.iloadN (d10 19 rfl) rfl ?_
      refine Ev.iconst (z := 0) (d10 20 rfl) rfl ?_
      obtain ⟨b2, hr⟩ := grd_some hr
      refine Ev.ias V (j := 19) rfl rfl (d10 21 rfl) b2 ?_
      revert hr
      generalize setA s 19 (ix x1) (0 : Int32) = s3
      intro hr
      replace hr := (bnd_eq _ _).symm.trans hr
      refine Ev.iinc (z := 1) (L' := [.val (.ref o), .val (.int (x1 + (1 : Int32)))]) (d10 22 rfl) rfl rfl rfl ?_
      refine Ev.goto (t := 22) (d10 23 rfl) rfl ?_
      exact ih (x1 + (1 : Int32)) s3  _ hr
    · replace hr := (if_neg c1).symm.trans hr
      refine Ev.iconst (z := 0) (d10 24 rfl) rfl ?_
      refine Ev.istDN (L' := [.val (.ref o), .val (.int (0 : Int32))]) (d10 25 rfl) rfl rfl rfl ?_
      exact e_buildVersion1_42 hw V  n (0 : Int32) s  _ hr
def f_buildVersion1 (n : Nat) (s : St) : Option (St) :=
  (f_undoHash n (0 : Int32) s).bind fun q1 =>
  bnd (setI q1 40 (0 : Int32)) fun s3 =>
  bnd (setI s3 41 ((0 : Int32) &&& 1)) fun s4 =>
  bnd (setI s4 42 (0 : Int32)) fun s5 =>
  f_buildVersion1_22 n n (0 : Int32) s5
set_option maxRecDepth 100000 in
theorem e_buildVersion1 {g : GT} {n : Nat} {s : St} {w : St} (hw : HW g) {K : St → MHeap} {o : Nat} {r : Nat → Nat} (V : View (GG g) Ln K o r) (hr : f_buildVersion1 n s = some w) : EvC (GG g) M_buildVersion1 [.ref o] (K s) (none, (K w)) := by
  refine EvC.enter (L0 := [.val (.ref o), .unset]) pl_buildVersion1 (fun _ => rfl) rfl rfl ?_
  unfold f_buildVersion1 at hr
  refine Ev.aloadN (d10 0 rfl) rfl ?_
  refine Ev.iconst (z := 0) (d10 1 rfl) rfl ?_
  obtain ⟨q1, hq2, hr⟩ := Option.bind_eq_some_iff.mp hr
  refine Ev.priv (y := M_undoHash) (args := [.int (0 : Int32)]) (rest := []) (gok hw) rfl nm_undoHash (ww hw 127 rfl) (ww hw 128 rfl) (ww hw 129 rfl) (ww hw 130 rfl) (lenOf pd_undoHash rfl) (d10 2 rfl) (V.2.1 s) (e_undoHash hw V hq2) (by decide) (Nat.le_of_ble_eq_true rfl) rfl ?_
  refine Ev.aloadN (d10 3 rfl) rfl ?_
  refine Ev.iconst (z := 0) (d10 4 rfl) rfl ?_
  refine Ev.pI V (gok hw) (ww hw 133 rfl) (Or.inl (ww hw 134 rfl)) (d10 5 rfl) (j := 40) rfl ?_
  revert hr
  generalize setI q1 40 (0 : Int32) = s3
  intro hr
  replace hr := (bnd_eq _ _).symm.trans hr
  refine Ev.aloadN (d10 6 rfl) rfl ?_
  refine Ev.iconst (z := 0) (d10 7 rfl) rfl ?_
  refine Ev.pZ V (gok hw) (ww hw 135 rfl) (Or.inl (ww hw 136 rfl)) (d10 8 rfl) (j := 41) rfl ?_
  revert hr
  generalize setI s3 41 ((0 : Int32) &&& 1) = s4
  intro hr
  replace hr := (bnd_eq _ _).symm.trans hr
  refine Ev.aloadN (d10 9 rfl) rfl ?_
  refine Ev.iconst (z := 0) (d10 10 rfl) rfl ?_
  refine Ev.pI V (gok hw) (ww hw 137 rfl) (Or.inl (ww hw 138 rfl)) (d10 11 rfl) (j := 42) rfl ?_
  revert hr
  generalize setI s4 42 (0 : Int32) = s5
  intro hr
  replace hr := (bnd_eq _ _).symm.trans hr
  refine Ev.iconst (z := 0) (d10 12 rfl) rfl ?_
  refine Ev.istDN (L' := [.val (.ref o), .val (.int (0 : Int32))]) (d10 13 rfl) rfl rfl rfl ?_
  exact e_buildVersion1_22 hw V  n (0 : Int32) s5  _ hr
def f_compile (n : Nat) (s : St) : Option (Int32 × St) :=
  if (s.1 35) = 0 then
    some ((-6 : Int32), s)
  else
    if (s.1 36) = 0 then
      if (s.1 37) = 0 then
        (f_buildVersion0 n s).bind fun q4 =>
        (f_buildVersion1 n q4).bind fun q6 =>
        bnd (setI q6 37 ((1 : Int32) &&& 1)) fun s8 =>
        some ((0 : Int32), s8)
      else
        some ((0 : Int32), s)
    else
      some ((-7 : Int32), s)
set_option maxRecDepth 100000 in
theorem e_compile {g : GT} {n : Nat} {s : St} {w : Int32 × St} (hw : HW g) {K : St → MHeap} {o : Nat} {r : Nat → Nat} (V : View (GG g) Ln K o r) (hr : f_compile n s = some w) : EvC (GG g) M_compile [.ref o] (K s) ((some (.int w.1)), (K w.2)) := by
  refine EvC.enter (L0 := [.val (.ref o)]) pl_compile (fun h => nomatch h) rfl rfl ?_
  unfold f_compile at hr
  refine Ev.aloadN (d8 0 rfl) rfl ?_
  refine Ev.gI V (ww hw 86 rfl) (d8 1 rfl) (j := 35) rfl rfl ?_
  refine Ev.ifne (t := 10) (d8 2 rfl) rfl (fun c1 => ?_) (fun c1 => ?_)
  · replace hr := (if_pos c1).symm.trans hr
    refine Ev.bipush (z := -6) (d8 3 rfl) rfl ?_
    cases hr
    exact Ev.ireturn rfl (d8 4 rfl)
  · replace hr := (if_neg c1).symm.trans hr
    refine Ev.aloadN (d8 5 rfl) rfl ?_
    refine Ev.gI V (ww hw 108 rfl) (d8 6 rfl) (j := 36) rfl rfl ?_
    refine Ev.ifeq (t := 20) (d8 7 rfl) rfl (fun c2 => ?_) (fun c2 => ?_)
    · replace hr := (if_pos c2).symm.trans hr
      refine Ev.aloadN (d8 10 rfl) rfl ?_
      refine Ev.gI V (ww hw 110 rfl) (d8 11 rfl) (j := 37) rfl rfl ?_
      refine Ev.ifeq (t := 29) (d8 12 rfl) rfl (fun c3 => ?_) (fun c3 => ?_)
      · replace hr := (if_pos c3).symm.trans hr
        refine Ev.aloadN (d8 15 rfl) rfl ?_
        obtain ⟨q4, hq5, hr⟩ := Option.bind_eq_some_iff.mp hr
        refine Ev.priv (y := M_buildVersion0) (args := []) (rest := []) (gok hw) rfl nm_buildVersion0 (ww hw 117 rfl) (ww hw 118 rfl) (ww hw 119 rfl) (ww hw 120 rfl) (lenOf pd_buildVersion0 rfl) (d8 16 rfl) (V.2.1 s) (e_buildVersion0 hw V hq5) (by decide) (Nat.le_of_ble_eq_true rfl) rfl ?_
        refine Ev.aloadN (d8 17 rfl) rfl ?_
        obtain ⟨q6, hq7, hr⟩ := Option.bind_eq_some_iff.mp hr
        refine Ev.priv (y := M_buildVersion1) (args := []) (rest := []) (gok hw) rfl nm_buildVersion1 (ww hw 123 rfl) (ww hw 124 rfl) (ww hw 125 rfl) (ww hw 126 rfl) (lenOf pd_buildVersion1 rfl) (d8 18 rfl) (V.2.1 q4) (e_buildVersion1 hw V hq7) (by decide) (Nat.le_of_ble_eq_true rfl) rfl ?_
        refine Ev.aloadN (d8 19 rfl) rfl ?_
        refine Ev.iconst (z := 1) (d8 20 rfl) rfl ?_
        refine Ev.pZ V (gok hw) (ww hw 110 rfl) (Or.inl (ww hw 111 rfl)) (d8 21 rfl) (j := 37) rfl ?_
        revert hr
        generalize setI q6 37 ((1 : Int32) &&& 1) = s8
        intro hr
        replace hr := (bnd_eq _ _).symm.trans hr
        refine Ev.iconst (z := 0) (d8 22 rfl) rfl ?_
        cases hr
        exact Ev.ireturn rfl (d8 23 rfl)
      · replace hr := (if_neg c3).symm.trans hr
        refine Ev.iconst (z := 0) (d8 13 rfl) rfl ?_
        cases hr
        exact Ev.ireturn rfl (d8 14 rfl)
    · replace hr := (if_neg c2).symm.trans hr
      refine Ev.bipush (z := -7) (d8 8 rfl) rfl ?_
      cases hr
      exact Ev.ireturn rfl (d8 9 rfl)
def f_setInput (a0 : Int32) (a1 : Int32) (s : St) : Option (Int32 × St) :=
  if a0 < 0 then
    some ((0 : Int32), s)
  else
    if a0 < (8 : Int32) then
      grd (inb a0 8) <|
      bnd (setA s 6 (ix a0) a1) fun s4 =>
      some ((1 : Int32), s4)
    else
      some ((0 : Int32), s)
set_option maxRecDepth 100000 in
theorem e_setInput {g : GT} {a0 : Int32} {a1 : Int32} {s : St} {w : Int32 × St} (hw : HW g) {K : St → MHeap} {o : Nat} {r : Nat → Nat} (V : View (GG g) Ln K o r) (hr : f_setInput a0 a1 s = some w) : EvC (GG g) M_setInput [.ref o, .int a0, .int a1] (K s) ((some (.int w.1)), (K w.2)) := by
  refine EvC.enter (L0 := [.val (.ref o), .val (.int a0), .val (.int a1)]) pl_setInput (fun h => nomatch h) rfl rfl ?_
  unfold f_setInput at hr
  refine Ev.iloadN (d21 0 rfl) rfl ?_
  refine Ev.iflt (t := 10) (d21 1 rfl) rfl (fun c1 => ?_) (fun c1 => ?_)
  · replace hr := (if_pos c1).symm.trans hr
    refine Ev.iconst (z := 0) (d21 5 rfl) rfl ?_
    cases hr
    exact Ev.zret0 rfl (d21 6 rfl)
  · replace hr := (if_neg c1).symm.trans hr
    refine Ev.iloadN (d21 2 rfl) rfl ?_
    refine Ev.bipush (z := 8) (d21 3 rfl) rfl ?_
    refine Ev.iclt (t := 12) (d21 4 rfl) rfl (fun c2 => ?_) (fun c2 => ?_)
    · replace hr := (if_pos c2).symm.trans hr
      refine Ev.aloadN (d21 7 rfl) rfl ?_
      refine Ev.gAr V (ww hw 22 rfl) (d21 8 rfl) (j := 6) rfl ?_
      refine Ev.iloadN (d21 9 rfl) rfl ?_
      refine Ev.iloadN (d21 10 rfl) rfl ?_
      obtain ⟨b3, hr⟩ := grd_some hr
      refine Ev.ias V (j := 6) rfl rfl (d21 11 rfl) b3 ?_
      revert hr
      generalize setA s 6 (ix a0) a1 = s4
      intro hr
      replace hr := (bnd_eq _ _).symm.trans hr
      refine Ev.iconst (z := 1) (d21 12 rfl) rfl ?_
      cases hr
      exact Ev.zret1 rfl (d21 13 rfl)
    · replace hr := (if_neg c2).symm.trans hr
      refine Ev.iconst (z := 0) (d21 5 rfl) rfl ?_
      cases hr
      exact Ev.zret0 rfl (d21 6 rfl)
def f_isCompiled (s : St) : Option (Int32) :=
  some ((s.1 37) &&& 1)
set_option maxRecDepth 100000 in
theorem e_isCompiled {g : GT} {s : St} {w : Int32} (hw : HW g) {K : St → MHeap} {o : Nat} {r : Nat → Nat} (V : View (GG g) Ln K o r) (hr : f_isCompiled s = some w) : EvC (GG g) M_isCompiled [.ref o] (K s) ((some (.int w)), (K s)) := by
  refine EvC.enter (L0 := [.val (.ref o)]) pl_isCompiled (fun h => nomatch h) rfl rfl ?_
  unfold f_isCompiled at hr
  refine Ev.aloadN (d22 0 rfl) rfl ?_
  refine Ev.gI V (ww hw 110 rfl) (d22 1 rfl) (j := 37) rfl rfl ?_
  cases hr
  exact Ev.zreturn rfl (d22 2 rfl)
def f_input (s : St) (a0 : Int32) : Option (Int32) :=
  if a0 < 0 then
    some (0 : Int32)
  else
    if a0 < (8 : Int32) then
      grd (inb a0 8) <|
      some (s.2 6 (ix a0))
    else
      some (0 : Int32)
set_option maxRecDepth 100000 in
theorem e_input {g : GT} {s : St} {a0 : Int32} {w : Int32} (hw : HW g) {K : St → MHeap} {o : Nat} {r : Nat → Nat} (V : View (GG g) Ln K o r) (hr : f_input s a0 = some w) : EvC (GG g) M_input [.ref o, .int a0] (K s) ((some (.int w)), (K s)) := by
  refine EvC.enter (L0 := [.val (.ref o), .val (.int a0)]) pl_input (fun h => nomatch h) rfl rfl ?_
  unfold f_input at hr
  refine Ev.iloadN (d23 0 rfl) rfl ?_
  refine Ev.iflt (t := 10) (d23 1 rfl) rfl (fun c1 => ?_) (fun c1 => ?_)
  · replace hr := (if_pos c1).symm.trans hr
    refine Ev.iconst (z := 0) (d23 5 rfl) rfl ?_
    cases hr
    exact Ev.ireturn rfl (d23 6 rfl)
  · replace hr := (if_neg c1).symm.trans hr
    refine Ev.iloadN (d23 2 rfl) rfl ?_
    refine Ev.bipush (z := 8) (d23 3 rfl) rfl ?_
    refine Ev.iclt (t := 12) (d23 4 rfl) rfl (fun c2 => ?_) (fun c2 => ?_)
    · replace hr := (if_pos c2).symm.trans hr
      refine Ev.aloadN (d23 7 rfl) rfl ?_
      refine Ev.gAr V (ww hw 22 rfl) (d23 8 rfl) (j := 6) rfl ?_
      refine Ev.iloadN (d23 9 rfl) rfl ?_
      obtain ⟨b3, hr⟩ := grd_some hr
      refine Ev.ial V (j := 6) rfl rfl (d23 10 rfl) b3 ?_
      cases hr
      exact Ev.ireturn rfl (d23 11 rfl)
    · replace hr := (if_neg c2).symm.trans hr
      refine Ev.iconst (z := 0) (d23 5 rfl) rfl ?_
      cases hr
      exact Ev.ireturn rfl (d23 6 rfl)
def f_size (s : St) : Option (Int32) :=
  some (s.1 35)
set_option maxRecDepth 100000 in
theorem e_size {g : GT} {s : St} {w : Int32} (hw : HW g) {K : St → MHeap} {o : Nat} {r : Nat → Nat} (V : View (GG g) Ln K o r) (hr : f_size s = some w) : EvC (GG g) M_size [.ref o] (K s) ((some (.int w)), (K s)) := by
  refine EvC.enter (L0 := [.val (.ref o)]) pl_size (fun h => nomatch h) rfl rfl ?_
  unfold f_size at hr
  refine Ev.aloadN (d24 0 rfl) rfl ?_
  refine Ev.gI V (ww hw 86 rfl) (d24 1 rfl) (j := 35) rfl rfl ?_
  cases hr
  exact Ev.ireturn rfl (d24 2 rfl)
def f_instr (s : St) (a0 : Int32) (a1 : Int32) : Option (Int32) :=
  if a0 < 0 then
    some (0 : Int32)
  else
    if a0 < (s.1 35) then
      if a0 < (32 : Int32) then
        if a1 = 0 then
          grd (inb a0 32) <|
          some (s.2 0 (ix a0))
        else
          if a1 = (1 : Int32) then
            grd (inb a0 32) <|
            some (s.2 1 (ix a0))
          else
            if a1 = (2 : Int32) then
              grd (inb a0 32) <|
              some (s.2 2 (ix a0))
            else
              some (0 : Int32)
      else
        some (0 : Int32)
    else
      some (0 : Int32)
set_option maxRecDepth 100000 in
theorem e_instr {g : GT} {s : St} {a0 : Int32} {a1 : Int32} {w : Int32} (hw : HW g) {K : St → MHeap} {o : Nat} {r : Nat → Nat} (V : View (GG g) Ln K o r) (hr : f_instr s a0 a1 = some w) : EvC (GG g) M_instr [.ref o, .int a0, .int a1] (K s) ((some (.int w)), (K s)) := by
  refine EvC.enter (L0 := [.val (.ref o), .val (.int a0), .val (.int a1)]) pl_instr (fun h => nomatch h) rfl rfl ?_
  unfold f_instr at hr
  refine Ev.iloadN (d25 0 rfl) rfl ?_
  refine Ev.iflt (t := 18) (d25 1 rfl) rfl (fun c1 => ?_) (fun c1 => ?_)
  · replace hr := (if_pos c1).symm.trans hr
    refine Ev.iconst (z := 0) (d25 9 rfl) rfl ?_
    cases hr
    exact Ev.ireturn rfl (d25 10 rfl)
  · replace hr := (if_neg c1).symm.trans hr
    refine Ev.iloadN (d25 2 rfl) rfl ?_
    refine Ev.aloadN (d25 3 rfl) rfl ?_
    refine Ev.gI V (ww hw 86 rfl) (d25 4 rfl) (j := 35) rfl rfl ?_
    refine Ev.icge (t := 18) (d25 5 rfl) rfl (fun c2 => ?_) (fun c2 => ?_)
    · replace hr := (if_pos c2).symm.trans hr
      refine Ev.iloadN (d25 6 rfl) rfl ?_
      refine Ev.bipush (z := 32) (d25 7 rfl) rfl ?_
      refine Ev.iclt (t := 20) (d25 8 rfl) rfl (fun c3 => ?_) (fun c3 => ?_)
      · replace hr := (if_pos c3).symm.trans hr
        refine Ev.iloadN (d25 11 rfl) rfl ?_
        refine Ev.ifne (t := 31) (d25 12 rfl) rfl (fun c4 => ?_) (fun c4 => ?_)
        · replace hr := (if_pos c4).symm.trans hr
          refine Ev.aloadN (d25 13 rfl) rfl ?_
          refine Ev.gAr V (ww hw 10 rfl) (d25 14 rfl) (j := 0) rfl ?_
          refine Ev.iloadN (d25 15 rfl) rfl ?_
          obtain ⟨b5, hr⟩ := grd_some hr
          refine Ev.ial V (j := 0) rfl rfl (d25 16 rfl) b5 ?_
          cases hr
          exact Ev.ireturn rfl (d25 17 rfl)
        · replace hr := (if_neg c4).symm.trans hr
          refine Ev.iloadN (d25 18 rfl) rfl ?_
          refine Ev.iconst (z := 1) (d25 19 rfl) rfl ?_
          refine Ev.icne (t := 43) (d25 20 rfl) rfl (fun c6 => ?_) (fun c6 => ?_)
          · replace hr := (if_pos c6).symm.trans hr
            refine Ev.aloadN (d25 21 rfl) rfl ?_
            refine Ev.gAr V (ww hw 12 rfl) (d25 22 rfl) (j := 1) rfl ?_
            refine Ev.iloadN (d25 23 rfl) rfl ?_
            obtain ⟨b7, hr⟩ := grd_some hr
            refine Ev.ial V (j := 1) rfl rfl (d25 24 rfl) b7 ?_
            cases hr
            exact Ev.ireturn rfl (d25 25 rfl)
          · replace hr := (if_neg c6).symm.trans hr
            refine Ev.iloadN (d25 26 rfl) rfl ?_
            refine Ev.iconst (z := 2) (d25 27 rfl) rfl ?_
            refine Ev.icne (t := 55) (d25 28 rfl) rfl (fun c8 => ?_) (fun c8 => ?_)
            · replace hr := (if_pos c8).symm.trans hr
              refine Ev.aloadN (d25 29 rfl) rfl ?_
              refine Ev.gAr V (ww hw 14 rfl) (d25 30 rfl) (j := 2) rfl ?_
              refine Ev.iloadN (d25 31 rfl) rfl ?_
              obtain ⟨b9, hr⟩ := grd_some hr
              refine Ev.ial V (j := 2) rfl rfl (d25 32 rfl) b9 ?_
              cases hr
              exact Ev.ireturn rfl (d25 33 rfl)
            · replace hr := (if_neg c8).symm.trans hr
              refine Ev.iconst (z := 0) (d25 34 rfl) rfl ?_
              cases hr
              exact Ev.ireturn rfl (d25 35 rfl)
      · replace hr := (if_neg c3).symm.trans hr
        refine Ev.iconst (z := 0) (d25 9 rfl) rfl ?_
        cases hr
        exact Ev.ireturn rfl (d25 10 rfl)
    · replace hr := (if_neg c2).symm.trans hr
      refine Ev.iconst (z := 0) (d25 9 rfl) rfl ?_
      cases hr
      exact Ev.ireturn rfl (d25 10 rfl)
def f_law_125 (n : Nat) (x5 : Int32) (x6 : Int32) (x7 : Int32) (x8 : Int32) (x9 : Int32) (x10 : Int32) (x12 : Int32) (x13 : Int32) (x14 : Int32) (x15 : Int32) (x16 : Int32) (z0 : Int32) (s : St) : Option (Int32 × St) :=
  if x5 = 0 then
    if x6 = 0 then
      if x7 = x8 then
        if x9 = 0 then
          some ((0 : Int32), s)
        else
          if x10 = z0 then
            if x12 = 0 then
              if x13 = (1 : Int32) then
                if x14 = 0 then
                  if x15 = (2 : Int32) then
                    if x16 = 0 then
                      some ((1 : Int32), s)
                    else
                      some ((0 : Int32), s)
                  else
                    some ((0 : Int32), s)
                else
                  some ((0 : Int32), s)
              else
                some ((0 : Int32), s)
            else
              some ((0 : Int32), s)
          else
            some ((0 : Int32), s)
      else
        some ((0 : Int32), s)
    else
      some ((0 : Int32), s)
  else
    some ((0 : Int32), s)
set_option maxRecDepth 100000 in
theorem e_law_125 {g : GT} {n : Nat} (hw : HW g) {K : St → MHeap} {o : Nat} {r : Nat → Nat} (V : View (GG g) Ln K o r) (x5 : Int32) (x6 : Int32) (x7 : Int32) (x8 : Int32) (x9 : Int32) (x10 : Int32) (x12 : Int32) (x13 : Int32) (x14 : Int32) (x15 : Int32) (x16 : Int32) (z0 : Int32) (s : St) (y0 : Slot) (hy0 : one1 y0 = true) (y1 : Slot) (hy1 : one1 y1 = true) (y2 : Slot) (hy2 : one1 y2 = true) (y3 : Slot) (hy3 : one1 y3 = true) (y4 : Slot) (hy4 : one1 y4 = true) (y11 : Slot) (hy11 : one1 y11 = true) (y17 : Slot) (hy17 : one1 y17 = true) (w : Int32 × St) (hr : f_law_125 n x5 x6 x7 x8 x9 x10 x12 x13 x14 x15 x16 z0 s = some w) : Ev (GG g) M_law 125 [y0, y1, y2, y3, y4, .val (.int x5), .val (.int x6), .val (.int x7), .val (.int x8), .val (.int x9), .val (.int x10), y11, .val (.int x12), .val (.int x13), .val (.int x14), .val (.int x15), .val (.int x16), y17] [.int z0] (K s) ((some (.int w.1)), (K w.2)) := by
  unfold f_law_125 at hr
  refine Ev.istD (L' := [y0, y1, y2, y3, y4, .val (.int x5), .val (.int x6), .val (.int x7), .val (.int x8), .val (.int x9), .val (.int x10), y11, .val (.int x12), .val (.int x13), .val (.int x14), .val (.int x15), .val (.int x16), .val (.int z0)]) at_125 rfl hy17 rfl ?_
  refine Ev.iload at_127 rfl ?_
  refine Ev.ifne (t := 187) at_129 rfl (fun c1 => ?_) (fun c1 => ?_)
  · replace hr := (if_pos c1).symm.trans hr
    refine Ev.iload at_132 rfl ?_
    refine Ev.ifne (t := 187) at_134 rfl (fun c2 => ?_) (fun c2 => ?_)
    · replace hr := (if_pos c2).symm.trans hr
      refine Ev.iload at_137 rfl ?_
      refine Ev.iload at_139 rfl ?_
      refine Ev.icne (t := 187) at_141 rfl (fun c3 => ?_) (fun c3 => ?_)
      · replace hr := (if_pos c3).symm.trans hr
        refine Ev.iload at_144 rfl ?_
        refine Ev.ifeq (t := 187) at_146 rfl (fun c4 => ?_) (fun c4 => ?_)
        · replace hr := (if_pos c4).symm.trans hr
          refine Ev.iconst (z := 0) at_187 rfl ?_
          cases hr
          exact Ev.zret0 rfl at_188
        · replace hr := (if_neg c4).symm.trans hr
          refine Ev.iload at_149 rfl ?_
          refine Ev.iload at_151 rfl ?_
          refine Ev.icne (t := 187) at_153 rfl (fun c5 => ?_) (fun c5 => ?_)
          · replace hr := (if_pos c5).symm.trans hr
            refine Ev.iload at_156 rfl ?_
            refine Ev.ifne (t := 187) at_158 rfl (fun c6 => ?_) (fun c6 => ?_)
            · replace hr := (if_pos c6).symm.trans hr
              refine Ev.iload at_161 rfl ?_
              refine Ev.iconst (z := 1) at_163 rfl ?_
              refine Ev.icne (t := 187) at_164 rfl (fun c7 => ?_) (fun c7 => ?_)
              · replace hr := (if_pos c7).symm.trans hr
                refine Ev.iload at_167 rfl ?_
                refine Ev.ifne (t := 187) at_169 rfl (fun c8 => ?_) (fun c8 => ?_)
                · replace hr := (if_pos c8).symm.trans hr
                  refine Ev.iload at_172 rfl ?_
                  refine Ev.iconst (z := 2) at_174 rfl ?_
                  refine Ev.icne (t := 187) at_175 rfl (fun c9 => ?_) (fun c9 => ?_)
                  · replace hr := (if_pos c9).symm.trans hr
                    refine Ev.iload at_178 rfl ?_
                    refine Ev.ifne (t := 187) at_180 rfl (fun c10 => ?_) (fun c10 => ?_)
                    · replace hr := (if_pos c10).symm.trans hr
                      refine Ev.iconst (z := 1) at_183 rfl ?_
                      refine Ev.goto (t := 188) at_184 rfl ?_
                      cases hr
                      exact Ev.zret1 rfl at_188
                    · replace hr := (if_neg c10).symm.trans hr
                      refine Ev.iconst (z := 0) at_187 rfl ?_
                      cases hr
                      exact Ev.zret0 rfl at_188
                  · replace hr := (if_neg c9).symm.trans hr
                    refine Ev.iconst (z := 0) at_187 rfl ?_
                    cases hr
                    exact Ev.zret0 rfl at_188
                · replace hr := (if_neg c8).symm.trans hr
                  refine Ev.iconst (z := 0) at_187 rfl ?_
                  cases hr
                  exact Ev.zret0 rfl at_188
              · replace hr := (if_neg c7).symm.trans hr
                refine Ev.iconst (z := 0) at_187 rfl ?_
                cases hr
                exact Ev.zret0 rfl at_188
            · replace hr := (if_neg c6).symm.trans hr
              refine Ev.iconst (z := 0) at_187 rfl ?_
              cases hr
              exact Ev.zret0 rfl at_188
          · replace hr := (if_neg c5).symm.trans hr
            refine Ev.iconst (z := 0) at_187 rfl ?_
            cases hr
            exact Ev.zret0 rfl at_188
      · replace hr := (if_neg c3).symm.trans hr
        refine Ev.iconst (z := 0) at_187 rfl ?_
        cases hr
        exact Ev.zret0 rfl at_188
    · replace hr := (if_neg c2).symm.trans hr
      refine Ev.iconst (z := 0) at_187 rfl ?_
      cases hr
      exact Ev.zret0 rfl at_188
  · replace hr := (if_neg c1).symm.trans hr
    refine Ev.iconst (z := 0) at_187 rfl ?_
    cases hr
    exact Ev.zret0 rfl at_188
def f_law_51 (n : Nat) (x2 : Int32) (x3 : Int32) (x5 : Int32) (x6 : Int32) (x7 : Int32) (z0 : Int32) (s : St) : Option (Int32 × St) :=
  (f_isCompiled s).bind fun q1 =>
  (f_input s x2).bind fun q3 =>
  (f_input s (x2 ^^^ (1 : Int32))).bind fun q5 =>
  (f_add (1 : Int32) x2 (0 : Int32) s).bind fun q7 =>
  (f_isCompiled q7.2).bind fun q9 =>
  (f_size q7.2).bind fun q11 =>
  (f_instr q7.2 (0 : Int32) (2 : Int32)).bind fun q13 =>
  if z0 = 0 then
    f_law_125 n x5 x6 x7 z0 q1 q3 q5 q7.1 q9 q11 q13 (0 : Int32) q7.2
  else
    f_law_125 n x5 x6 x7 z0 q1 q3 q5 q7.1 q9 q11 q13 x3 q7.2
set_option maxRecDepth 100000 in
theorem e_law_51 {g : GT} {n : Nat} (hw : HW g) {K : St → MHeap} {o : Nat} {r : Nat → Nat} (V : View (GG g) Ln K o r) (x2 : Int32) (x3 : Int32) (x5 : Int32) (x6 : Int32) (x7 : Int32) (z0 : Int32) (s : St) (y0 : Slot) (hy0 : one1 y0 = true) (y1 : Slot) (hy1 : one1 y1 = true) (y8 : Slot) (hy8 : one1 y8 = true) (y9 : Slot) (hy9 : one1 y9 = true) (y10 : Slot) (hy10 : one1 y10 = true) (y11 : Slot) (hy11 : one1 y11 = true) (y12 : Slot) (hy12 : one1 y12 = true) (y13 : Slot) (hy13 : one1 y13 = true) (y14 : Slot) (hy14 : one1 y14 = true) (y15 : Slot) (hy15 : one1 y15 = true) (y16 : Slot) (hy16 : one1 y16 = true) (y17 : Slot) (hy17 : one1 y17 = true) (w : Int32 × St) (hr : f_law_51 n x2 x3 x5 x6 x7 z0 s = some w) : Ev (GG g) M_law 51 [y0, y1, .val (.int x2), .val (.int x3), .val (.ref o), .val (.int x5), .val (.int x6), .val (.int x7), y8, y9, y10, y11, y12, y13, y14, y15, y16, y17] [.int z0] (K s) ((some (.int w.1)), (K w.2)) := by
  unfold f_law_51 at hr
  refine Ev.istD (L' := [y0, y1, .val (.int x2), .val (.int x3), .val (.ref o), .val (.int x5), .val (.int x6), .val (.int x7), .val (.int z0), y9, y10, y11, y12, y13, y14, y15, y16, y17]) at_51 rfl hy8 rfl ?_
  refine Ev.aload at_53 rfl ?_
  obtain ⟨q1, hq2, hr⟩ := Option.bind_eq_some_iff.mp hr
  refine Ev.virt (y := M_isCompiled) (args := []) (rest := []) (gok hw) rfl nm_isCompiled (ww hw 184 rfl) (ww hw 185 rfl) (ww hw 186 rfl) (ww hw 187 rfl) (ww hw 188 rfl) (lenOf pd_isCompiled rfl) at_55 (V.2.1 s) (e_isCompiled hw V hq2) (by decide) (Nat.le_of_ble_eq_true rfl) rfl ?_
  refine Ev.istD (L' := [y0, y1, .val (.int x2), .val (.int x3), .val (.ref o), .val (.int x5), .val (.int x6), .val (.int x7), .val (.int z0), .val (.int q1), y10, y11, y12, y13, y14, y15, y16, y17]) at_58 rfl hy9 rfl ?_
  refine Ev.aload at_60 rfl ?_
  refine Ev.iloadN at_62 rfl ?_
  obtain ⟨q3, hq4, hr⟩ := Option.bind_eq_some_iff.mp hr
  refine Ev.virt (y := M_input) (args := [.int x2]) (rest := []) (gok hw) rfl nm_input (ww hw 189 rfl) (ww hw 190 rfl) (ww hw 191 rfl) (ww hw 192 rfl) (ww hw 193 rfl) (lenOf pd_input rfl) at_63 (V.2.1 s) (e_input hw V hq4) (by decide) (Nat.le_of_ble_eq_true rfl) rfl ?_
  refine Ev.istD (L' := [y0, y1, .val (.int x2), .val (.int x3), .val (.ref o), .val (.int x5), .val (.int x6), .val (.int x7), .val (.int z0), .val (.int q1), .val (.int q3), y11, y12, y13, y14, y15, y16, y17]) at_66 rfl hy10 rfl ?_
  refine Ev.iloadN at_68 rfl ?_
  refine Ev.iconst (z := 1) at_69 rfl ?_
  refine Ev.ixor at_70 ?_
  refine Ev.istD (L' := [y0, y1, .val (.int x2), .val (.int x3), .val (.ref o), .val (.int x5), .val (.int x6), .val (.int x7), .val (.int z0), .val (.int q1), .val (.int q3), .val (.int (x2 ^^^ (1 : Int32))), y12, y13, y14, y15, y16, y17]) at_71 rfl hy11 rfl ?_
  refine Ev.aload at_73 rfl ?_
  refine Ev.iload at_75 rfl ?_
  obtain ⟨q5, hq6, hr⟩ := Option.bind_eq_some_iff.mp hr
  refine Ev.virt (y := M_input) (args := [.int (x2 ^^^ (1 : Int32))]) (rest := []) (gok hw) rfl nm_input (ww hw 189 rfl) (ww hw 190 rfl) (ww hw 191 rfl) (ww hw 192 rfl) (ww hw 193 rfl) (lenOf pd_input rfl) at_77 (V.2.1 s) (e_input hw V hq6) (by decide) (Nat.le_of_ble_eq_true rfl) rfl ?_
  refine Ev.istD (L' := [y0, y1, .val (.int x2), .val (.int x3), .val (.ref o), .val (.int x5), .val (.int x6), .val (.int x7), .val (.int z0), .val (.int q1), .val (.int q3), .val (.int (x2 ^^^ (1 : Int32))), .val (.int q5), y13, y14, y15, y16, y17]) at_80 rfl hy12 rfl ?_
  refine Ev.aload at_82 rfl ?_
  refine Ev.iconst (z := 1) at_84 rfl ?_
  refine Ev.iloadN at_85 rfl ?_
  refine Ev.iconst (z := 0) at_86 rfl ?_
  obtain ⟨q7, hq8, hr⟩ := Option.bind_eq_some_iff.mp hr
  refine Ev.virt (y := M_add) (args := [.int (1 : Int32), .int x2, .int (0 : Int32)]) (rest := []) (gok hw) rfl nm_add (ww hw 81 rfl) (ww hw 82 rfl) (ww hw 83 rfl) (ww hw 84 rfl) (ww hw 85 rfl) (lenOf pd_add rfl) at_87 (V.2.1 s) (e_add hw V hq8) (by decide) (Nat.le_of_ble_eq_true rfl) rfl ?_
  refine Ev.istD (L' := [y0, y1, .val (.int x2), .val (.int x3), .val (.ref o), .val (.int x5), .val (.int x6), .val (.int x7), .val (.int z0), .val (.int q1), .val (.int q3), .val (.int (x2 ^^^ (1 : Int32))), .val (.int q5), .val (.int q7.1), y14, y15, y16, y17]) at_90 rfl hy13 rfl ?_
  refine Ev.aload at_92 rfl ?_
  obtain ⟨q9, hq10, hr⟩ := Option.bind_eq_some_iff.mp hr
  refine Ev.virt (y := M_isCompiled) (args := []) (rest := []) (gok hw) rfl nm_isCompiled (ww hw 184 rfl) (ww hw 185 rfl) (ww hw 186 rfl) (ww hw 187 rfl) (ww hw 188 rfl) (lenOf pd_isCompiled rfl) at_94 (V.2.1 q7.2) (e_isCompiled hw V hq10) (by decide) (Nat.le_of_ble_eq_true rfl) rfl ?_
  refine Ev.istD (L' := [y0, y1, .val (.int x2), .val (.int x3), .val (.ref o), .val (.int x5), .val (.int x6), .val (.int x7), .val (.int z0), .val (.int q1), .val (.int q3), .val (.int (x2 ^^^ (1 : Int32))), .val (.int q5), .val (.int q7.1), .val (.int q9), y15, y16, y17]) at_97 rfl hy14 rfl ?_
  refine Ev.aload at_99 rfl ?_
  obtain ⟨q11, hq12, hr⟩ := Option.bind_eq_some_iff.mp hr
  refine Ev.virt (y := M_size) (args := []) (rest := []) (gok hw) rfl nm_size (ww hw 194 rfl) (ww hw 195 rfl) (ww hw 196 rfl) (ww hw 197 rfl) (ww hw 198 rfl) (lenOf pd_size rfl) at_101 (V.2.1 q7.2) (e_size hw V hq12) (by decide) (Nat.le_of_ble_eq_true rfl) rfl ?_
  refine Ev.istD (L' := [y0, y1, .val (.int x2), .val (.int x3), .val (.ref o), .val (.int x5), .val (.int x6), .val (.int x7), .val (.int z0), .val (.int q1), .val (.int q3), .val (.int (x2 ^^^ (1 : Int32))), .val (.int q5), .val (.int q7.1), .val (.int q9), .val (.int q11), y16, y17]) at_104 rfl hy15 rfl ?_
  refine Ev.aload at_106 rfl ?_
  refine Ev.iconst (z := 0) at_108 rfl ?_
  refine Ev.iconst (z := 2) at_109 rfl ?_
  obtain ⟨q13, hq14, hr⟩ := Option.bind_eq_some_iff.mp hr
  refine Ev.virt (y := M_instr) (args := [.int (0 : Int32), .int (2 : Int32)]) (rest := []) (gok hw) rfl nm_instr (ww hw 199 rfl) (ww hw 200 rfl) (ww hw 201 rfl) (ww hw 202 rfl) (ww hw 203 rfl) (lenOf pd_instr rfl) at_110 (V.2.1 q7.2) (e_instr hw V hq14) (by decide) (Nat.le_of_ble_eq_true rfl) rfl ?_
  refine Ev.istD (L' := [y0, y1, .val (.int x2), .val (.int x3), .val (.ref o), .val (.int x5), .val (.int x6), .val (.int x7), .val (.int z0), .val (.int q1), .val (.int q3), .val (.int (x2 ^^^ (1 : Int32))), .val (.int q5), .val (.int q7.1), .val (.int q9), .val (.int q11), .val (.int q13), y17]) at_113 rfl hy16 rfl ?_
  refine Ev.iload at_115 rfl ?_
  refine Ev.ifeq (t := 124) at_117 rfl (fun c15 => ?_) (fun c15 => ?_)
  · replace hr := (if_pos c15).symm.trans hr
    refine Ev.iconst (z := 0) at_124 rfl ?_
    exact e_law_125 hw V  x5 x6 x7 z0 q1 q3 q5 q7.1 q9 q11 q13 (0 : Int32) q7.2 y0 hy0 y1 hy1 (.val (.int x2)) rfl (.val (.int x3)) rfl (.val (.ref o)) rfl (.val (.int (x2 ^^^ (1 : Int32)))) rfl y17 hy17 _ hr
  · replace hr := (if_neg c15).symm.trans hr
    refine Ev.iloadN at_120 rfl ?_
    refine Ev.goto (t := 125) at_121 rfl ?_
    exact e_law_125 hw V  x5 x6 x7 z0 q1 q3 q5 q7.1 q9 q11 q13 x3 q7.2 y0 hy0 y1 hy1 (.val (.int x2)) rfl (.val (.int x3)) rfl (.val (.ref o)) rfl (.val (.int (x2 ^^^ (1 : Int32)))) rfl y17 hy17 _ hr
def f_law_8 (n : Nat) (x1 : Int32) (x2 : Int32) (x3 : Int32) (s : St) : Option (Int32 × St) :=
  (f_add (1 : Int32) x1 x3 s).bind fun q1 =>
  (f_compile n q1.2).bind fun q3 =>
  (f_setInput x2 x3 q3.2).bind fun q5 =>
  if x2 < 0 then
    f_law_51 n x2 x3 q1.1 q3.1 q5.1 (0 : Int32) q5.2
  else
    if (7 : Int32) < x2 then
      f_law_51 n x2 x3 q1.1 q3.1 q5.1 (0 : Int32) q5.2
    else
      f_law_51 n x2 x3 q1.1 q3.1 q5.1 (1 : Int32) q5.2
set_option maxRecDepth 100000 in
theorem e_law_8 {g : GT} {n : Nat} (hw : HW g) {K : St → MHeap} {o : Nat} {r : Nat → Nat} (V : View (GG g) Ln K o r) (x1 : Int32) (x2 : Int32) (x3 : Int32) (s : St) (y0 : Slot) (hy0 : one1 y0 = true) (y4 : Slot) (hy4 : one1 y4 = true) (y5 : Slot) (hy5 : one1 y5 = true) (y6 : Slot) (hy6 : one1 y6 = true) (y7 : Slot) (hy7 : one1 y7 = true) (y8 : Slot) (hy8 : one1 y8 = true) (y9 : Slot) (hy9 : one1 y9 = true) (y10 : Slot) (hy10 : one1 y10 = true) (y11 : Slot) (hy11 : one1 y11 = true) (y12 : Slot) (hy12 : one1 y12 = true) (y13 : Slot) (hy13 : one1 y13 = true) (y14 : Slot) (hy14 : one1 y14 = true) (y15 : Slot) (hy15 : one1 y15 = true) (y16 : Slot) (hy16 : one1 y16 = true) (y17 : Slot) (hy17 : one1 y17 = true) (w : Int32 × St) (hr : f_law_8 n x1 x2 x3 s = some w) : Ev (GG g) M_law 8 [y0, .val (.int x1), .val (.int x2), .val (.int x3), y4, y5, y6, y7, y8, y9, y10, y11, y12, y13, y14, y15, y16, y17] [.ref o] (K s) ((some (.int w.1)), (K w.2)) := by
  unfold f_law_8 at hr
  refine Ev.astD (L' := [y0, .val (.int x1), .val (.int x2), .val (.int x3), .val (.ref o), y5, y6, y7, y8, y9, y10, y11, y12, y13, y14, y15, y16, y17]) at_8 rfl hy4 rfl ?_
  refine Ev.aload at_10 rfl ?_
  refine Ev.iconst (z := 1) at_12 rfl ?_
  refine Ev.iloadN at_13 rfl ?_
  refine Ev.iloadN at_14 rfl ?_
  obtain ⟨q1, hq2, hr⟩ := Option.bind_eq_some_iff.mp hr
  refine Ev.virt (y := M_add) (args := [.int (1 : Int32), .int x1, .int x3]) (rest := []) (gok hw) rfl nm_add (ww hw 81 rfl) (ww hw 82 rfl) (ww hw 83 rfl) (ww hw 84 rfl) (ww hw 85 rfl) (lenOf pd_add rfl) at_15 (V.2.1 s) (e_add hw V hq2) (by decide) (Nat.le_of_ble_eq_true rfl) rfl ?_
  refine Ev.istD (L' := [y0, .val (.int x1), .val (.int x2), .val (.int x3), .val (.ref o), .val (.int q1.1), y6, y7, y8, y9, y10, y11, y12, y13, y14, y15, y16, y17]) at_18 rfl hy5 rfl ?_
  refine Ev.aload at_20 rfl ?_
  obtain ⟨q3, hq4, hr⟩ := Option.bind_eq_some_iff.mp hr
  refine Ev.virt (y := M_compile) (args := []) (rest := []) (gok hw) rfl nm_compile (ww hw 112 rfl) (ww hw 113 rfl) (ww hw 114 rfl) (ww hw 115 rfl) (ww hw 116 rfl) (lenOf pd_compile rfl) at_22 (V.2.1 q1.2) (e_compile hw V hq4) (by decide) (Nat.le_of_ble_eq_true rfl) rfl ?_
  refine Ev.istD (L' := [y0, .val (.int x1), .val (.int x2), .val (.int x3), .val (.ref o), .val (.int q1.1), .val (.int q3.1), y7, y8, y9, y10, y11, y12, y13, y14, y15, y16, y17]) at_25 rfl hy6 rfl ?_
  refine Ev.aload at_27 rfl ?_
  refine Ev.iloadN at_29 rfl ?_
  refine Ev.iloadN at_30 rfl ?_
  obtain ⟨q5, hq6, hr⟩ := Option.bind_eq_some_iff.mp hr
  refine Ev.virt (y := M_setInput) (args := [.int x2, .int x3]) (rest := []) (gok hw) rfl nm_setInput (ww hw 179 rfl) (ww hw 180 rfl) (ww hw 181 rfl) (ww hw 182 rfl) (ww hw 183 rfl) (lenOf pd_setInput rfl) at_31 (V.2.1 q3.2) (e_setInput hw V hq6) (by decide) (Nat.le_of_ble_eq_true rfl) rfl ?_
  refine Ev.istD (L' := [y0, .val (.int x1), .val (.int x2), .val (.int x3), .val (.ref o), .val (.int q1.1), .val (.int q3.1), .val (.int q5.1), y8, y9, y10, y11, y12, y13, y14, y15, y16, y17]) at_34 rfl hy7 rfl ?_
  refine Ev.iloadN at_36 rfl ?_
  refine Ev.iflt (t := 50) at_37 rfl (fun c7 => ?_) (fun c7 => ?_)
  · replace hr := (if_pos c7).symm.trans hr
    refine Ev.iconst (z := 0) at_50 rfl ?_
    exact e_law_51 hw V  x2 x3 q1.1 q3.1 q5.1 (0 : Int32) q5.2 y0 hy0 (.val (.int x1)) rfl y8 hy8 y9 hy9 y10 hy10 y11 hy11 y12 hy12 y13 hy13 y14 hy14 y15 hy15 y16 hy16 y17 hy17 _ hr
  · replace hr := (if_neg c7).symm.trans hr
    refine Ev.iloadN at_40 rfl ?_
    refine Ev.bipush (z := 7) at_41 rfl ?_
    refine Ev.icgt (t := 50) at_43 rfl (fun c8 => ?_) (fun c8 => ?_)
    · replace hr := (if_pos c8).symm.trans hr
      refine Ev.iconst (z := 0) at_50 rfl ?_
      exact e_law_51 hw V  x2 x3 q1.1 q3.1 q5.1 (0 : Int32) q5.2 y0 hy0 (.val (.int x1)) rfl y8 hy8 y9 hy9 y10 hy10 y11 hy11 y12 hy12 y13 hy13 y14 hy14 y15 hy15 y16 hy16 y17 hy17 _ hr
    · replace hr := (if_neg c8).symm.trans hr
      refine Ev.iconst (z := 1) at_46 rfl ?_
      refine Ev.goto (t := 51) at_47 rfl ?_
      exact e_law_51 hw V  x2 x3 q1.1 q3.1 q5.1 (1 : Int32) q5.2 y0 hy0 (.val (.int x1)) rfl y8 hy8 y9 hy9 y10 hy10 y11 hy11 y12 hy12 y13 hy13 y14 hy14 y15 hy15 y16 hy16 y17 hy17 _ hr
def f_law (n : Nat) (a0 : Int32) (a1 : Int32) (a2 : Int32) (a3 : Int32) : Option (Int32 × St) :=
  (f_ctor a0).bind fun q1 =>
  f_law_8 n a1 a2 a3 q1
set_option maxRecDepth 100000 in
theorem e_law {g : GT} {n : Nat} {a0 : Int32} {a1 : Int32} {a2 : Int32} {a3 : Int32} {w : Int32 × St} (hw : HW g) (hk : k0 (GG g) ≤ (H0).length) (hr : f_law n a0 a1 a2 a3 = some w) : EvC (GG g) M_law [.int a0, .int a1, .int a2, .int a3] H0 ((some (.int w.1)), (KL w.2)) := by
  refine EvC.enter (L0 := [.val (.int a0), .val (.int a1), .val (.int a2), .val (.int a3), .unset, .unset, .unset, .unset, .unset, .unset, .unset, .unset, .unset, .unset, .unset, .unset, .unset, .unset]) pl_law (fun h => nomatch h) rfl rfl ?_
  unfold f_law at hr
  refine Ev.new (gok hw) (ww hw 0 rfl) at_0 (fs := dfl) rfl ?_
  refine Ev.dup at_3 rfl ?_
  refine Ev.iloadN at_4 rfl ?_
  obtain ⟨q1, hq2, hr⟩ := Option.bind_eq_some_iff.mp hr
  refine Ev.ctor (y := M_ctor) (args := [.int a0]) (rest := [.ref (H0).length]) rfl rfl nm_ctor (ww hw 3 rfl) (ww hw 4 rfl) (ww hw 5 rfl) (ww hw 2 rfl) (lenOf pd_ctor rfl) at_5 (e_ctor hw hk hq2) (by decide) (Nat.le_of_ble_eq_true rfl) rfl ?_
  exact e_law_8 hw (K := KL) (o := (H0).length) (r := rA (H0).length al) (view_of hk al_ok al_nd)  a1 a2 a3 q1 (.val (.int a0)) rfl .unset rfl .unset rfl .unset rfl .unset rfl .unset rfl .unset rfl .unset rfl .unset rfl .unset rfl .unset rfl .unset rfl .unset rfl .unset rfl .unset rfl _ hr
theorem fin_len (w : St) : (KL w).length - H0.length ≤ 80 := by
  have q : al.length = 33 := rfl
  unfold KL; rw [KH_len]; simp only [List.length_nil]; omega
theorem fin_hsl (w : St) : hsl 45 (KL w) - hsl 45 H0 ≤ 36352 := by
  have q : (al.map fun q => Ln q.1).sum = 18099 := by decide +kernel
  have z : hsl 45 [] = 0 := rfl
  unfold KL; rw [hsl_KH, q, z]; omega
set_option maxRecDepth 100000 in
theorem comes_1 (plain : ∀ i0 i1 i2 i3 : Int32, ∃ n w, f_law n i0 i1 i2 i3 = some (1, w)) {Post : Tables → Env → Array Value → State → Outcome → State → Prop} (hpost : ∀ tb e args s v u, (limb_1_1.after args s (.returned v) u = true ∧ limb_1_2.after args s (.returned v) u = true ∧ True) → FrameEnd s (.returned v) u (Jvm.fieldLocs frame_1_writes args s ++ Jvm.arrayLocs frame_1_arrays args s ++ Jvm.staticLocs frame_1_statics s) 80 36352 → Post tb e args s (.returned v) u) :
    ArmFor flags0 classFile x code maxLocals ret World_1 tables_1 room_1 Calls_1 rest_1 Pre_1 Post := by
  intro l hfl _ _ p e ha hc hk s m args below hf hA hF happ hP
  obtain ⟨hcalls, hrest, hpre⟩ := hP
  obtain ⟨-, -, -, hnamed, -, -, -, hat⟩ := (Spec.applies_iff hf).mp happ
  obtain ⟨hg, hn⟩ := and_e (Cond.before_iff.mp (show (Jvm.Cond.and given_1 narrow_1).before args s = true from hpre))
  obtain ⟨g0, hg⟩ := and_e hg
  obtain ⟨g1, hg⟩ := and_e hg
  obtain ⟨g2, hg⟩ := and_e hg
  obtain ⟨g3, hg⟩ := and_e hg
  obtain ⟨w0, w1, w2, w3, rfl⟩ : ∃ w0 w1 w2 w3 : Value, args = #[w0, w1, w2, w3] := by
    have hs : args.size = 4 := by simpa [Cond.value, given_1] using g0
    obtain ⟨L⟩ := args
    match L, hs with
    | [w0, w1, w2, w3], _ => exact ⟨w0, w1, w2, w3, rfl⟩
  have hw := fun d (hd : d ∈ tables_1) => atoms_spec (ws := Jvm.Cond.code x code maxLocals ret :: tables_1) hat d (List.mem_cons_of_mem _ hd)
  obtain ⟨i0, ei0⟩ := is_v g1
  obtain rfl : w0 = (.int i0) := Option.some.inj ei0
  obtain ⟨i1, ei1⟩ := is_v g2
  obtain rfl : w1 = (.int i1) := Option.some.inj ei1
  obtain ⟨i2, ei2⟩ := is_v g3
  obtain rfl : w2 = (.int i2) := Option.some.inj ei2
  obtain ⟨i3, ei3⟩ := is_v hg
  obtain rfl : w3 = (.int i3) := Option.some.inj ei3
  obtain ⟨n, w, hr⟩ := plain i0 i1 i2 i3
  have hE := e_law (g := (s, _, l, none, s.heap.size)) hw (Nat.le_refl _) hr
  obtain ⟨n, o, h1, h2, h3, _, L, rfl, ⟨rfl, N, -⟩, hq⟩ := hE.2 tables_1 room_1 s.heap (by decide) (by decide) (fin_len w) (fin_hsl w) ⟨rfl, Nat.le_refl _, fun a q => (nomatch q), fun i c q => by simp [H0] at q⟩ p e ha hc hk s m _ below hf ((Spec.applies_iff_loose hf).mp happ).1 ⟨rfl, State.Warmed39.refl s, rfl⟩ trivial
  exact ⟨n, _, h1, h2, h3, hpost _ _ _ _ _ _ ⟨Cond.after_iff.mpr rfl, Cond.after_iff.mpr (eq_i res_at (Term.int_eval (1)) rfl), trivial⟩ ⟨hq.1, hq.2.1, (hq.2.2.sift fun y hy => Or.inr (N y hy)).mono (fin_len w) (fin_hsl w)⟩⟩
theorem u_undoHash_2 (n : Nat) (k : Nat) (x1 : Int32) (x2 : Int32) (s : St) : f_undoHash_2 n (k + 1) x1 x2 s =
    (if x2 < (1024 : Int32) then
      if x1 < (s.1 39) then
        if 0 < (s.1 39) then
          bnd (setI s 39 ((s.1 39) - (1 : Int32))) fun s4 =>
          grd (inb (s4.1 39) 1024) <|
          if (s4.2 32 (ix (s4.1 39))) < 0 then
            f_undoHash_2 n k x1 (x2 + (1 : Int32)) s4
          else
            if (s4.2 32 (ix (s4.1 39))) < (2048 : Int32) then
              grd (inb (s4.2 32 (ix (s4.1 39))) 2048) <|
              bnd (setA s4 31 (ix (s4.2 32 (ix (s4.1 39)))) ((0 : Int32) &&& 1)) fun s9 =>
              f_undoHash_2 n k x1 (x2 + (1 : Int32)) s9
            else
              f_undoHash_2 n k x1 (x2 + (1 : Int32)) s4
        else
          f_undoHash_68 n s
      else
        f_undoHash_68 n s
    else
      f_undoHash_68 n s) := rfl
theorem u_buildVersion0_2 (n : Nat) (k : Nat) (x1 : Int32) (s : St) : f_buildVersion0_2 n (k + 1) x1 s =
    (if x1 < (s.1 35) then
      if x1 < (32 : Int32) then
        grd (inb x1 32) <|
        grd (inb x1 1056) <|
        bnd (setA s 7 (ix x1) (s.2 0 (ix x1))) fun s5 =>
        bnd (setA s5 8 (ix x1) (s5.2 1 (ix x1))) fun s6 =>
        bnd (setA s6 9 (ix x1) (s6.2 2 (ix x1))) fun s7 =>
        if (s.2 0 (ix x1)) = (13 : Int32) then
          bnd (setA s7 9 (ix x1) (s7.2 4 (ix x1))) fun s9 =>
          f_buildVersion0_93 n (f_buildVersion0_2 n k) x1 s9
        else
          if (s.2 0 (ix x1)) = (14 : Int32) then
            bnd (setA s7 8 (ix x1) (s7.2 4 (ix x1))) fun s11 =>
            f_buildVersion0_93 n (f_buildVersion0_2 n k) x1 s11
          else
            f_buildVersion0_93 n (f_buildVersion0_2 n k) x1 s7
      else
        f_buildVersion0_106 n s
    else
      f_buildVersion0_106 n s) := rfl
theorem u_lookup_17 (n : Nat) (k : Nat) (x1 : Int32) (x2 : Int32) (x3 : Int32) (x4 : Int32) (x5 : Int32) (s : St) : f_lookup_17 n (k + 1) x1 x2 x3 x4 x5 s =
    (if x5 < (2048 : Int32) then
      grd (inb ((x4 + x5) &&& (2047 : Int32)) 2048) <|
      if (s.2 31 (ix ((x4 + x5) &&& (2047 : Int32)))) = 0 then
        bnd (setI s 34 ((x4 + x5) &&& (2047 : Int32))) fun s4 =>
        some ((-1 : Int32), s4)
      else
        if (s.2 27 (ix ((x4 + x5) &&& (2047 : Int32)))) = x1 then
          if (s.2 28 (ix ((x4 + x5) &&& (2047 : Int32)))) = x2 then
            if (s.2 29 (ix ((x4 + x5) &&& (2047 : Int32)))) = x3 then
              some ((s.2 30 (ix ((x4 + x5) &&& (2047 : Int32)))), s)
            else
              f_lookup_17 n k x1 x2 x3 x4 (x5 + (1 : Int32)) s
          else
            f_lookup_17 n k x1 x2 x3 x4 (x5 + (1 : Int32)) s
        else
          f_lookup_17 n k x1 x2 x3 x4 (x5 + (1 : Int32)) s
    else
      some ((-1 : Int32), s)) := rfl
theorem u_buildVersion1_22 (n : Nat) (k : Nat) (x1 : Int32) (s : St) : f_buildVersion1_22 n (k + 1) x1 s =
    (if x1 < (4 : Int32) then
      grd (inb x1 4) <|
      bnd (setA s 19 (ix x1) (0 : Int32)) fun s3 =>
      f_buildVersion1_22 n k (x1 + (1 : Int32)) s3
    else
      f_buildVersion1_42 n n (0 : Int32) s) := rfl
theorem u_buildVersion1_42 (n : Nat) (k : Nat) (x1 : Int32) (s : St) : f_buildVersion1_42 n (k + 1) x1 s =
    (if x1 < (32 : Int32) then
      grd (inb x1 32) <|
      bnd (setA s 17 (ix x1) (32 : Int32)) fun s3 =>
      f_buildVersion1_42 n k (x1 + (1 : Int32)) s3
    else
      (f_computeSetMasks n s).bind fun q4 =>
      f_buildVersion1_68 n n (0 : Int32) q4) := rfl
theorem u_computeSetMasks_2 (n : Nat) (k : Nat) (x1 : Int32) (s : St) : f_computeSetMasks_2 n (k + 1) x1 s =
    (if x1 < (s.1 35) then
      if x1 < (32 : Int32) then
        grd (inb x1 32) <|
        bnd (setA s 18 (ix x1) (0 : Int32)) fun s4 =>
        if (s4.2 0 (ix x1)) = (13 : Int32) then
          f_computeSetMasks_51 n (f_computeSetMasks_2 n k) n x1 (s4.2 4 (ix x1)) (0 : Int32) (x1 + (1 : Int32)) s4
        else
          f_computeSetMasks_2 n k (x1 + (1 : Int32)) s4
      else
        some s
    else
      some s) := rfl
theorem u_buildVersion1_68 (n : Nat) (k : Nat) (x1 : Int32) (s : St) : f_buildVersion1_68 n (k + 1) x1 s =
    (if x1 < (s.1 35) then
      if x1 < (32 : Int32) then
        (f_translate n x1 s).bind fun q3 =>
        f_buildVersion1_68 n k (x1 + (1 : Int32)) q3
      else
        f_buildVersion1_93 n s
    else
      f_buildVersion1_93 n s) := rfl
/-! ### the plain law -/
def own_Q (s t : St) : Prop := (∀ j, j = 33 ∨ j = 35 ∨ j = 36 ∨ j = 37 → t.1 j = s.1 j) ∧ ∀ j, j ≤ 6 → t.2 j = s.2 j
theorem own_Qr (s : St) : own_Q s s := ⟨fun _ _ => rfl, fun _ _ => rfl⟩
theorem own_Qt {s t u : St} (h : own_Q s t) (g : own_Q t u) : own_Q s u := ⟨fun j hj => (g.1 j hj).trans (h.1 j hj), fun j hj => (g.2 j hj).trans (h.2 j hj)⟩
theorem own_QI {s t : St} (h : own_Q s t) (j : Nat) (v : Int32) (hj : j = 34 ∨ 38 ≤ j) : own_Q s (setI t j v) := by
  refine own_Qt h ⟨fun k hk => ?_, fun k hk => rfl⟩
  rw [setI_1, if_neg (by omega)]
theorem own_QA {s t : St} (h : own_Q s t) (j i : Nat) (v : Int32) (hj : 7 ≤ j) : own_Q s (setA t j i v) := by
  refine own_Qt h ⟨fun k hk => rfl, fun k hk => ?_⟩
  funext x
  rw [setA_2, if_neg (by omega)]
theorem own_ctor (c : Int32) : ∃ s, f_ctor c = some s ∧ (∃ N : Nat, s.1 33 = Int32.ofNat N ∧ 8 ≤ N ∧ N ≤ 32) ∧ (∀ j, j ≠ 33 → j ≠ 34 → s.1 j = 0) ∧ ∀ j x, s.2 j x = 0 := by
  have k : ∀ z : Int32, ∃ s, f_ctor_294 z zeroS = some s ∧ s.1 33 = z ∧ (∀ j, j ≠ 33 → j ≠ 34 → s.1 j = 0) ∧ ∀ j x, s.2 j x = 0 := fun z => by
    unfold f_ctor_294
    simp only [bnd_eq]
    refine ⟨_, rfl, by simp [setI_1], fun j h1 h2 => ?_, fun j x => rfl⟩
    simp [setI_1, h1, h2, zeroS]
  unfold f_ctor f_ctor_274
  by_cases q : c < 8
  · rw [if_pos q]
    obtain ⟨s, e, a, b⟩ := k 8
    refine ⟨s, ?_, ⟨8, a, by omega, by omega⟩, b⟩
    unfold f_ctor_285; rw [if_neg (by decide)]; exact e
  · rw [if_neg q]
    unfold f_ctor_285
    by_cases q2 : 32 < c
    · rw [if_pos q2]
      obtain ⟨s, e, a, b⟩ := k 32
      exact ⟨s, e, ⟨32, a, by omega, by omega⟩, b⟩
    · rw [if_neg q2]
      obtain ⟨s, e, a, b⟩ := k c
      rw [lt_I] at q q2
      have e8 : (8 : Int32).toInt = 8 := rfl
      have e32 : (32 : Int32).toInt = 32 := rfl
      obtain ⟨N, h1, h2, h3⟩ := own_nat (x := c) (lo := 8) (hi := 32) (by omega) (by omega)
      exact ⟨s, e, ⟨N, a.trans h1, h2, h3⟩, b⟩
/-- a constant is added -/
theorem own_add (a y : Int32) {s : St} {N T : Nat} (hc : s.1 33 = Int32.ofNat N) (hN : N ≤ 32) (hn : s.1 35 = Int32.ofNat T) (hT : T < N) (hd : s.1 36 = 0) :
    ∃ t, f_add 1 a y s = some (Int32.ofNat T, t) ∧ t.1 35 = Int32.ofNat (T + 1) ∧ t.1 37 = 0 ∧ (∀ j, j ≠ 35 → j ≠ 37 → t.1 j = s.1 j) ∧ t.2 0 T = 1 ∧ t.2 1 T = a ∧ t.2 2 T = 0 ∧
      (∀ j x, x ≠ T → t.2 j x = s.2 j x) ∧ ∀ j, 5 ≤ j → t.2 j = s.2 j := by
  have b : inb (Int32.ofNat T) 32 := inbN (by omega) (by omega)
  have i : ix (Int32.ofNat T) = T := ix_N (by omega)
  have l1 : Int32.ofNat T < Int32.ofNat N := ltN hT (by omega)
  have l2 : Int32.ofNat T < 32 := ltZ (z := 32) 32 rfl (by omega) (by omega)
  have l3 : ¬ Int32.ofNat T < 0 := N_neg (by omega)
  have e : f_store 1 a y s = some (Int32.ofNat T, setI (setI (setA (setA (setA (setA (setA s 0 T 1) 1 T a) 2 T 0) 3 T (-1)) 4 T (-1)) 35 (Int32.ofNat (T + 1))) 37 (0 &&& 1)) := by
    simp only [f_store, hn, l3, l2, if_true, if_false, grd_pos b, i, bnd_eq, f_usesX, show ¬ ((1 : Int32) = 14) by decide, Option.bind_some, show ¬ ((1 : Int32) = 0) by decide,
      f_store_47, f_usesY, show (1 : Int32) < 4 by decide, f_usesY_13, show ¬ ((1 : Int32) = 11) by decide, f_store_67, setA_1, hd, show ¬ (0 : Int32) < 0 by decide, f_store_109, show ¬ ((1 : Int32) = 13) by decide,
      f_store_162, f_store_234, N_succ]
  refine ⟨setI (setI (setA (setA (setA (setA (setA s 0 T 1) 1 T a) 2 T 0) 3 T (-1)) 4 T (-1)) 35 (Int32.ofNat (T + 1))) 37 (0 &&& 1), ?_, ?_, ?_, ?_, ?_, ?_, ?_, ?_, ?_⟩
  · simp only [f_add, hn, hc, l1, if_true, if_false, show ¬ (1 : Int32) < 1 by decide, show ¬ (14 : Int32) < 1 by decide, f_argumentOk, show ¬ ((1 : Int32) = 2) by decide, show ¬ ((1 : Int32) = 13) by decide, show ¬ ((1 : Int32) = 3) by decide,
      show ¬ ((1 : Int32) = 11) by decide, Option.bind_some, show ¬ ((1 : Int32) = 0) by decide, f_operandsOk, show (1 : Int32) < 4 by decide, f_operandsOk_27, show ¬ ((1 : Int32) = 10) by decide, show ¬ ((1 : Int32) = 12) by decide,
      f_add_69, show ¬ ((1 : Int32) = 14) by decide, f_add_85, e]
  · simp [setI_1]
  · simp [setI_1]
  · intro j h1 h2; simp [setI_1, setA_1, h1, h2]
  · simp [setI_2, setA_2]
  · simp [setI_2, setA_2]
  · simp [setI_2, setA_2]
  · intro j x hx; simp [setI_2, setA_2, hx]
  · intro j hj
    funext x
    simp only [setI_2, setA_2]
    rw [if_neg (by omega), if_neg (by omega), if_neg (by omega), if_neg (by omega), if_neg (by omega)]
theorem own_undo0 {n : Nat} (hn : 1 ≤ n) {s : St} (h : s.1 39 = 0) : f_undoHash n 0 s = some (setI s 34 (-1)) := by
  obtain ⟨m, rfl⟩ : ∃ m, n = m + 1 := ⟨n - 1, by omega⟩
  unfold f_undoHash
  rw [u_undoHash_2, if_pos (by decide), h, if_neg (by decide)]
  rfl
theorem own_undo1 {n : Nat} (hn : 2 ≤ n) {s : St} {H : Nat} (h : s.1 39 = 1) (hl : s.2 32 0 = Int32.ofNat H) (hH : H < 2048) : ∃ t, f_undoHash n 0 s = some t ∧ own_Q s t ∧ t.1 41 = s.1 41 := by
  obtain ⟨m, rfl⟩ : ∃ m, n = m + 2 := ⟨n - 2, by omega⟩
  unfold f_undoHash
  rw [u_undoHash_2, if_pos (by decide), h, if_pos (by decide), if_pos (by decide)]
  simp only [bnd_eq, setI_1, setI_2, if_true, show (1 : Int32) - 1 = 0 from rfl, show ix (0 : Int32) = 0 from rfl, hl]
  rw [grd_pos (by decide), if_neg (N_neg (by omega)), if_pos (ltZ (z := 2048) 2048 rfl hH (by omega)), grd_pos (inbN hH (by omega)), u_undoHash_2, if_pos (by decide)]
  simp only [setA_1, setI_1, if_true]
  rw [if_neg (by decide)]
  refine ⟨_, rfl, own_QI (own_QA (own_QI (own_Qr s) _ _ (by omega)) _ _ _ (by omega)) _ _ (by omega), ?_⟩
  simp [setI_1, setA_1]
theorem own_bv0 {n : Nat} (hn : 2 ≤ n) {s : St} (h : s.1 35 = 1) (h0 : s.2 0 0 = 1) : ∃ t, f_buildVersion0 n s = some t ∧ own_Q s t ∧ t.1 39 = s.1 39 ∧ t.2 31 = s.2 31 := by
  obtain ⟨m, rfl⟩ : ∃ m, n = m + 2 := ⟨n - 2, by omega⟩
  have i0 : ix (0 : Int32) = 0 := rfl
  unfold f_buildVersion0
  rw [u_buildVersion0_2, h, if_pos (by decide), if_pos (by decide), grd_pos (by decide), grd_pos (by decide)]
  simp only [bnd_eq, i0, h0]
  rw [if_neg (by decide), if_neg (by decide)]
  unfold f_buildVersion0_93
  rw [grd_pos (by decide), bnd_eq, u_buildVersion0_2]
  simp only [setA_1, h]
  rw [if_neg (by decide)]
  refine ⟨_, rfl, own_QI (own_QA (own_QA (own_QA (own_QA (own_Qr s) _ _ _ (by omega)) _ _ _ (by omega)) _ _ _ (by omega)) _ _ _ (by omega)) _ _ (by omega), ?_, ?_⟩
  · simp [setI_1, setA_1]
  · funext x
    simp [setI_2, setA_2]
/-- a constant's leaf, the hash table empty -/
theorem own_leaf {n : Nat} (hn : 1 ≤ n) (a : Int32) {s : St} (h39 : s.1 39 = 0) (h40 : s.1 40 = 0) (hu : ∀ x, s.2 31 x = 0) :
    ∃ (v : Int32) (t : St) (H : Nat), f_makeLeaf n 1 a 0 0 s = some (v, t) ∧ own_Q s t ∧ t.1 39 = 1 ∧ t.2 32 0 = Int32.ofNat H ∧ H < 2048 ∧ t.1 41 = s.1 41 := by
  obtain ⟨m, rfl⟩ : ∃ m, n = m + 1 := ⟨n - 1, by omega⟩
  obtain ⟨w, hw⟩ : ∃ w, f_hashOf s 1 a 0 = some w := ⟨_, rfl⟩
  obtain ⟨H, eH, -, lH⟩ : ∃ H : Nat, (w + 0) &&& 2047 = Int32.ofNat H ∧ 0 ≤ H ∧ H ≤ 2047 := by
    have := and_rng (w + 0) (m := 2047) (by omega)
    rw [show Int32.ofNat 2047 = (2047 : Int32) from rfl] at this
    exact own_nat (by omega) (by omega)
  have bH : inb (Int32.ofNat H) 2048 := inbN (by omega) (by omega)
  have iH : ix (Int32.ofNat H) = H := ix_N (by omega)
  have lk : f_lookup (m + 1) 1 a 0 s = some (-1, setI (setI s 34 (-1)) 34 (Int32.ofNat H)) := by
    unfold f_lookup
    rw [hw]
    simp only [Option.bind_some, bnd_eq]
    rw [u_lookup_17, if_pos (by decide), eH, grd_pos bH]
    simp only [setI_2, hu, if_true, bnd_eq]
  have em : ∀ u : St, u.1 40 = 0 → f_emit 1 a 0 u = some (32, setI (setA (setA (setA (setA u 7 32 1) 8 32 a) 9 32 0) 10 32 0) 40 1) := fun u hu => by
    unfold f_emit
    rw [hu, if_neg (by decide), if_pos (by decide), grd_pos (by decide)]
    simp only [bnd_eq, setA_1, hu, show (32 : Int32) + 0 = 32 from rfl, show (0 : Int32) + 1 = 1 from rfl, show ix (32 : Int32) = 32 from rfl]
  unfold f_makeLeaf
  rw [lk]
  simp only [Option.bind_some]
  rw [if_pos (by decide), em _ (by simp [setI_1, h40])]
  simp only [Option.bind_some]
  rw [grd_pos (by decide), bnd_eq]
  unfold f_insert
  simp only [bnd_eq, setA_1, setI_1, setI_2, if_true, show ix (32 : Int32) = 32 from rfl, iH, h39, show ¬ ((34 : Nat) = 40) by decide, show ¬ ((39 : Nat) = 40) by decide, show ¬ ((39 : Nat) = 34) by decide, if_false]
  rw [if_neg (N_neg (by omega)), if_pos (ltZ (z := 2048) 2048 rfl (by omega) (by omega)), if_neg (by decide), if_pos (by decide), grd_pos bH, grd_pos (by decide)]
  simp only [Option.bind_some]
  refine ⟨_, _, H, rfl, ?_, ?_, ?_, by omega, ?_⟩
  · refine own_QI (own_QA (own_QA (own_QA (own_QA (own_QA (own_QA (own_QI (own_QA (own_QI (own_QA (own_QA (own_QA (own_QA (own_QI (own_QI (own_Qr s) _ _ ?_) _ _ ?_) _ _ _ ?_) _ _ _ ?_) _ _ _ ?_) _ _ _ ?_) _ _ ?_) _ _ _ ?_) _ _ ?_) _ _ _ ?_) _ _ _ ?_) _ _ _ ?_) _ _ _ ?_) _ _ _ ?_) _ _ _ ?_) _ _ ?_ <;> omega
  · simp [setI_1, setA_1, h39]
  · simp [setI_2, setA_2, show ix (0 : Int32) = 0 from rfl]
  · simp [setI_1, setA_1]
theorem own_trans {n : Nat} (hn : 1 ≤ n) {s : St} (h0 : s.2 0 0 = 1) (h39 : s.1 39 = 0) (h40 : s.1 40 = 0) (hu : ∀ x, s.2 31 x = 0) :
    ∃ (t : St) (H : Nat), f_translate n 0 s = some t ∧ own_Q s t ∧ t.1 39 = 1 ∧ t.2 32 0 = Int32.ofNat H ∧ H < 2048 ∧ t.1 41 = s.1 41 := by
  obtain ⟨v, t, H, e, q1, q2, q3, q4, q5⟩ := own_leaf hn (s.2 1 0) h39 h40 hu
  have i0 : ix (0 : Int32) = 0 := rfl
  have b0 : inb (0 : Int32) 32 := by decide
  refine ⟨setA t 17 0 v, H, ?_, own_QA q1 _ _ _ (by omega), q2, ?_, q4, q5⟩
  · simp only [f_translate, grd_pos b0, i0, h0, show ¬ ((1 : Int32) = 13) by decide, show ¬ ((1 : Int32) = 14) by decide, show ¬ ((1 : Int32) = 11) by decide, show ¬ ((1 : Int32) = 12) by decide, if_false, if_true, f_buildValue, f_makeConst, e, Option.bind_some, bnd_eq]
  · simp [setA_2, q3]
theorem own_bv1 {n : Nat} (hn : 40 ≤ n) {s : St} (h : s.1 35 = 1) (h0 : s.2 0 0 = 1) (h39 : s.1 39 = 0) (hu : ∀ x, s.2 31 x = 0) : ∃ t, f_buildVersion1 n s = some t ∧ own_Q s t := by
  unfold f_buildVersion1
  rw [own_undo0 (by omega) h39]
  simp only [Option.bind_some, bnd_eq]
  obtain ⟨u, hu'⟩ : ∃ u, u = setI (setI (setI (setI s 34 (-1)) 40 0) 41 (0 &&& 1)) 42 0 := ⟨_, rfl⟩
  rw [← hu']
  have qu : own_Q s u := by
    rw [hu']; exact own_QI (own_QI (own_QI (own_QI (own_Qr s) _ _ (by omega)) _ _ (by omega)) _ _ (by omega)) _ _ (by omega)
  have u39 : u.1 39 = 0 := by rw [hu']; simp [setI_1, h39]
  have u40 : u.1 40 = 0 := by rw [hu']; simp [setI_1]
  have u41 : u.1 41 = 0 := by rw [hu']; simp [setI_1]
  have uu : ∀ x, u.2 31 x = 0 := by rw [hu']; exact hu
  -- what the two filling loops keep
  have l22 := loopN (F := f_buildVersion1_22 n) (N := 4) (f := fun i s => setA s 19 i 0) (fin := fun s => f_buildVersion1_42 n n 0 s)
    (fun k i s hi => by rw [u_buildVersion1_22, if_pos (ltZ (z := 4) 4 rfl hi (by omega)), grd_pos (inbN (n := 4) hi (by omega)), bnd_eq, ix_N (by omega)])
    (fun k s => by rw [u_buildVersion1_22, if_neg (by decide)]) 4 0 n u (by omega) (by omega)
  rw [itr_fill] at l22
  have l42 := fun v : St => loopN (F := f_buildVersion1_42 n) (N := 32) (f := fun i s => setA s 17 i 32) (fin := fun s => (f_computeSetMasks n s).bind fun q4 => f_buildVersion1_68 n n (0 : Int32) q4)
    (fun k i s hi => by rw [u_buildVersion1_42, if_pos (ltZ (z := 32) 32 rfl hi (by omega)), grd_pos (inbN (n := 32) hi (by omega)), bnd_eq, ix_N (by omega)])
    (fun k s => by rw [u_buildVersion1_42, if_neg (by decide)]) 32 0 n v (by omega) (by omega)
  simp only [itr_fill] at l42
  have l22' : f_buildVersion1_22 n n 0 u = f_buildVersion1_42 n n 0 (u.1, fun k x => if k = 19 ∧ x < 4 then 0 else u.2 k x) := l22
  rw [l22']
  have l42' : f_buildVersion1_42 n n 0 (u.1, fun k x => if k = 19 ∧ x < 4 then 0 else u.2 k x) = _ := l42 _
  rw [l42']
  obtain ⟨v, hv⟩ : ∃ v : St, v = ((u.1, fun k x => if k = 17 ∧ x < 32 then 32 else (if k = 19 ∧ x < 4 then 0 else u.2 k x)) : St) := ⟨_, rfl⟩
  rw [← hv]
  have qv : own_Q s v := by
    refine own_Qt qu ⟨fun j _ => by rw [hv], fun j hj => ?_⟩
    rw [hv]; funext x
    show (if j = 17 ∧ x < 32 then 32 else (if j = 19 ∧ x < 4 then 0 else u.2 j x)) = _
    rw [if_neg (by omega), if_neg (by omega)]
  have v39 : v.1 39 = 0 := by rw [hv]; exact u39
  have v40 : v.1 40 = 0 := by rw [hv]; exact u40
  have v41 : v.1 41 = 0 := by rw [hv]; exact u41
  have vn : v.1 35 = 1 := (qv.1 _ (by omega)).trans h
  have v0 : v.2 0 0 = 1 := by rw [qv.2 _ (by omega)]; exact h0
  have vu : ∀ x, v.2 31 x = 0 := fun x => by rw [hv]; simp [uu]
  obtain ⟨m, rfl⟩ : ∃ m, n = m + 2 := ⟨n - 2, by omega⟩
  have i0 : ix (0 : Int32) = 0 := rfl
  have csm : f_computeSetMasks (m + 2) v = some (setA v 18 0 0) := by
    unfold f_computeSetMasks
    rw [u_computeSetMasks_2, vn, if_pos (by decide), if_pos (by decide), grd_pos (by decide)]
    simp only [bnd_eq, i0, setA_2, show ¬ ((0 : Nat) = 18) by decide, false_and, if_false, v0]
    rw [if_neg (by decide), u_computeSetMasks_2]
    simp only [setA_1, vn]
    rw [if_neg (by decide)]
  rw [csm]
  simp only [Option.bind_some]
  obtain ⟨t, H, e, q1, q2, q3, q4, q5⟩ := own_trans (n := m + 2) (by omega) (s := setA v 18 0 0) (by simp [setA_2, v0]) (by simp [setA_1, v39]) (by simp [setA_1, v40]) (fun x => by simp [setA_2, vu])
  have qt : own_Q s t := own_Qt (own_QA qv _ _ _ (by omega)) q1
  rw [u_buildVersion1_68, setA_1, vn, if_pos (by decide), if_pos (by decide), e]
  simp only [Option.bind_some]
  have tn : t.1 35 = 1 := (qt.1 _ (by omega)).trans h
  rw [u_buildVersion1_68, tn, if_neg (by decide)]
  unfold f_buildVersion1_93
  obtain ⟨w, ew, qw, w41⟩ := own_undo1 (n := m + 2) (by omega) q2 q3 q4
  rw [ew]
  simp only [Option.bind_some]
  rw [if_pos (by rw [w41, q5, setA_1, v41])]
  exact ⟨w, rfl, own_Qt qt qw⟩
theorem own_compile {n : Nat} (hn : 40 ≤ n) {s : St} (h : s.1 35 = 1) (hd : s.1 36 = 0) (hc : s.1 37 = 0) (h0 : s.2 0 0 = 1) (h39 : s.1 39 = 0) (hu : ∀ x, s.2 31 x = 0) :
    ∃ t, f_compile n s = some (0, t) ∧ t.1 37 = 1 ∧ t.1 35 = 1 ∧ t.1 36 = 0 ∧ t.1 33 = s.1 33 ∧ ∀ j, j ≤ 6 → t.2 j = s.2 j := by
  obtain ⟨t, e, q, t39, tu⟩ := own_bv0 (n := n) (by omega) h h0
  obtain ⟨w, ew, qw⟩ := own_bv1 (n := n) hn (s := t) ((q.1 _ (by omega)).trans h) (by rw [q.2 _ (by omega)]; exact h0) (t39.trans h39) (fun x => by rw [tu]; exact hu x)
  have qs := own_Qt q qw
  unfold f_compile
  rw [h, if_neg (by decide), hd, if_pos rfl, hc, if_pos rfl, e]
  simp only [Option.bind_some, ew, bnd_eq]
  refine ⟨_, rfl, by simp [setI_1], ?_, ?_, ?_, fun j hj => ?_⟩
  · rw [setI_1, if_neg (by decide)]; exact (qs.1 _ (by omega)).trans h
  · rw [setI_1, if_neg (by decide)]; exact (qs.1 _ (by omega)).trans hd
  · rw [setI_1, if_neg (by decide)]; exact qs.1 _ (by omega)
  · rw [setI_2]; exact qs.2 j hj
theorem own_xor : ∀ K, K < 8 → Int32.ofNat K ^^^ 1 = Int32.ofNat (K ^^^ 1) ∧ K ^^^ 1 < 8 ∧ K ^^^ 1 ≠ K := by decide +kernel
theorem own_in0 {s : St} (h : ∀ x, s.2 6 x = 0) (k : Int32) : f_input s k = some 0 := by
  unfold f_input
  by_cases q : k < 0
  · rw [if_pos q]
  · rw [if_neg q]
    by_cases q2 : k < 8
    · rw [if_pos q2, grd_pos (inb_lt q q2 (by decide)), h]
    · rw [if_neg q2]
theorem plain (cap a k v : Int32) : ∃ n w, f_law n cap a k v = some (1, w) := by
  obtain ⟨s, hs, ⟨N, hN, n1, n2⟩, hz, hz2⟩ := own_ctor cap
  obtain ⟨t, et, t1, t2, t3, t4, t5, t6, t7, t8⟩ := own_add a v (s := s) hN n2 (T := 0) (hz _ (by decide) (by decide)) (by omega) (hz _ (by decide) (by decide))
  obtain ⟨u, eu, u1, u2, u3, u4, u5⟩ := own_compile (n := 40) (Nat.le_refl _) (s := t) t1 ((t3 _ (by decide) (by decide)).trans (hz _ (by decide) (by decide))) t2 t4 ((t3 _ (by decide) (by decide)).trans (hz _ (by decide) (by decide))) (fun x => by rw [t8 _ (by omega)]; exact hz2 _ x)
  have uc : u.1 33 = Int32.ofNat N := u4.trans ((t3 _ (by decide) (by decide)).trans hN)
  have ui : ∀ x, u.2 6 x = 0 := fun x => by rw [u5 _ (by omega), t8 _ (by omega)]; exact hz2 _ x
  have uy : u.2 2 0 = 0 := by rw [u5 _ (by omega)]; exact t6
  have et' : f_add 1 a v s = some (0, t) := et
  -- behind setInput
  have fin : ∀ (U : St) (z y : Int32), U.1 = u.1 → U.2 2 0 = 0 → (z = 0 ∧ y = 0 ∨ z = 1 ∧ y = v) → f_input U k = some y → f_input U (k ^^^ 1) = some 0 → ∃ w, f_law_51 40 k v 0 0 z z U = some (1, w) := by
    intro U z y hU hy hzy h1 h2
    obtain ⟨W, eW, w1, w2, w3, w4, w5, w6, w7, w8⟩ := own_add k 0 (s := U) (by rw [hU]; exact uc) n2 (T := 1) (by rw [hU]; exact u2) (by omega) (by rw [hU]; exact u3)
    have wy : W.2 2 0 = 0 := by rw [w7 _ _ (by decide)]; exact hy
    have eW' : f_add 1 k 0 U = some (1, W) := eW
    have w1' : W.1 35 = 2 := w1
    have i0 : ix (0 : Int32) = 0 := rfl
    have b0 : inb (0 : Int32) 32 := by decide
    refine ⟨W, ?_⟩
    rcases hzy with ⟨rfl, rfl⟩ | ⟨rfl, rfl⟩
    · simp [f_law_51, f_isCompiled, hU, u1, h1, h2, eW', w1', w2, f_size, f_instr, grd_pos b0, i0, wy, f_law_125]
    · simp [f_law_51, f_isCompiled, hU, u1, h1, h2, eW', w1', w2, f_size, f_instr, grd_pos b0, i0, wy, f_law_125]
  refine ⟨40, ?_⟩
  unfold f_law f_law_8
  simp only [hs, Option.bind_some, et', eu]
  by_cases q : k < 0
  · have e : f_setInput k v u = some (0, u) := by unfold f_setInput; rw [if_pos q]
    simp only [e, Option.bind_some, q, if_true]
    exact fin u 0 0 rfl uy (Or.inl ⟨rfl, rfl⟩) (own_in0 ui k) (own_in0 ui _)
  · by_cases q7 : 7 < k
    · have q8 : ¬ k < 8 := fun h => by
        rw [lt_I] at h q7
        have e7 : (7 : Int32).toInt = 7 := rfl
        have e8 : (8 : Int32).toInt = 8 := rfl
        omega
      have e : f_setInput k v u = some (0, u) := by unfold f_setInput; rw [if_neg q, if_neg q8]
      simp only [e, Option.bind_some, q, q7, if_true, if_false]
      exact fin u 0 0 rfl uy (Or.inl ⟨rfl, rfl⟩) (own_in0 ui k) (own_in0 ui _)
    · have q8 : k < 8 := by
        rw [lt_I] at q7 ⊢
        have e7 : (7 : Int32).toInt = 7 := rfl
        have e8 : (8 : Int32).toInt = 8 := rfl
        omega
      obtain ⟨K, hK, rfl⟩ := cases_N (n := 8) (by omega) q q8
      obtain ⟨x1, x2, x3⟩ := own_xor K hK
      have b : inb (Int32.ofNat K) 8 := inbN hK (by omega)
      have i : ix (Int32.ofNat K) = K := ix_N (by omega)
      have e : f_setInput (Int32.ofNat K) v u = some (1, setA u 6 K v) := by
        unfold f_setInput; rw [if_neg q, if_pos q8, grd_pos b, bnd_eq, i]
      simp only [e, Option.bind_some, q, q7, if_false]
      refine fin _ 1 v rfl ?_ (Or.inr ⟨rfl, rfl⟩) ?_ ?_
      · simp [setA_2, uy]
      · unfold f_input
        rw [if_neg q, if_pos q8, grd_pos b, i]
        simp [setA_2]
      · unfold f_input
        rw [x1, if_neg (N_neg (by omega)), if_pos (ltZ (z := 8) 8 rfl x2 (by omega)), grd_pos (inbN x2 (by omega)), ix_N (by omega)]
        simp [setA_2, x3, ui]
theorem main_1_1 : Claimed_1_1 := comes_1 plain fun _ _ _ _ _ _ h hF => ⟨h.1, hF⟩
theorem main_1_2 : Claimed_1_2 := comes_1 plain fun _ _ _ _ _ _ h hF => ⟨h.2.1, hF⟩

end Jvm.Pilot.@@N@@
namespace Jvm.Pilot.@@N@@
open Jvm Jvm.ClassFile Sem Op Lib Jvm.Free Jvm.Stand Jvm.Pilot.@@N@@.Jvm.D
/-! MADE BY PROGRAM (witnessworld.py) out of the Statement's table words and the real class files: 11 classes; the members and pool entries that the words name. The judged class is class 1, her method 1. -/
namespace start1
open Jvm.ClassFile
def u (s : String) : CpInfo := .utf8 (stringToUtf16 s)
/-- a pool by its gaps: so many unusable entries, then the entry; so many at the end -/
def gap : Nat → List CpInfo → List CpInfo
  | 0, r => r
  | n + 1, r => .unusable :: gap n r
def poolList (es : List (Nat × CpInfo)) (last : Nat) : List CpInfo := es.foldr (fun e r => gap e.1 (e.2 :: r)) (gap last [])
def pool (es : List (Nat × CpInfo)) (last : Nat) : Array CpInfo := ⟨poolList es last⟩
def fileOf (pool : Array CpInfo) (this : Nat) (attrs : Array Attribute := #[]) (ms : Array MethodInfo := #[]) (fl : Nat := 33) (sup : Nat := 0) (ifs : Array Nat := #[]) (fds : Array FieldInfo := #[]) : ClassFile where
  minorVersion := 0
  majorVersion := 65
  constantPool := pool
  accessFlags := fl
  thisClass := this
  superClass := sup
  interfaces := ifs
  fields := fds
  methods := ms
  attributes := attrs
def plain (name : String) (sup : Option ClassId) : Class where
  name := name
  kind := .ordinary
  loader := none
  accessFlags := 33
  super := sup
  interfaces := #[]
  cf := none
  fields := #[]
  methods := #[]
  instanceTypes := #[]
  staticTypes := #[]
  resolved := #[]
  callSites := []
  init := .initialized
  statics := none
  mirror := none

def pool0 : Array CpInfo := pool [(5, u "<init>"), (0, u "()V"), (1, .class_ 10), (1, u "java/lang/Object")] 113

def k0c0 : Code := { maxStack := 0, maxLocals := 1, code := object_method_1_code, exceptionTable := #[], attributes := #[] }
def k0m0 : Method := { name := "<init>", desc := "()V", sig := { parameters := [], returnType := none }, accessFlags := 1, code := some k0c0 }
/-- java/lang/Object -/
def k0 : Class := { plain "java/lang/Object" none with
  accessFlags := 33
  interfaces := #[]
  cf := some (fileOf pool0 8 #[] #[{ accessFlags := 1, nameIndex := 5, descriptorIndex := 6, attributes := #[] }] 33 0 #[] #[])
  fields := #[]
  methods := #[k0m0]
  instanceTypes := #[]
  staticTypes := #[]
  resolved := Array.replicate 124 none
  statics := none }

def pool1 : Array CpInfo := pool [(2, .class_ 4), (1, u "java/lang/Object"), (0, u "<init>"), (0, u "()V"), (0, .class_ 8), (0, u "RankReassociator"), (0, .methodref 7 10), (0, .nameAndType 5 11), (0, u "(I)V"), (0, .methodref 7 13), (0, .nameAndType 14 15), (0, u "add"), (0, u "(III)I"), (0, .methodref 7 17), (0, .nameAndType 18 19), (0, u "compile"), (0, u "()I"), (0, .methodref 7 21), (0, .nameAndType 22 23), (0, u "setInput"), (0, u "(II)Z"), (0, .methodref 7 25), (0, .nameAndType 26 27), (0, u "isCompiled"), (0, u "()Z"), (0, .methodref 7 29), (0, .nameAndType 30 31), (0, u "input"), (0, u "(I)I"), (0, .methodref 7 33), (0, .nameAndType 34 19), (0, u "size"), (0, .methodref 7 36), (0, .nameAndType 37 38), (0, u "instr"), (0, u "(II)I"), (0, .class_ 40), (0, u "RankReassociatorL2"), (2, u "law"), (0, u "(IIII)Z")] 3

def k1m0 : Method := { name := "<init>", desc := "()V", sig := { parameters := [], returnType := none }, accessFlags := 1, code := none }
def k1c1 : Code := { maxStack := 4, maxLocals := 18, code := code, exceptionTable := #[], attributes := #[] }
def k1m1 : Method := { name := "law", desc := "(IIII)Z", sig := { parameters := [.int, .int, .int, .int], returnType := some .boolean }, accessFlags := 9, code := some k1c1 }
/-- RankReassociatorL2 -/
def k1 : Class := { plain "RankReassociatorL2" (some 0) with
  accessFlags := 49
  interfaces := #[]
  cf := some (fileOf pool1 39 #[] #[{ accessFlags := 1, nameIndex := 5, descriptorIndex := 6, attributes := #[] }, { accessFlags := 9, nameIndex := 43, descriptorIndex := 44, attributes := #[] }] 49 2 #[] #[])
  fields := #[]
  methods := #[k1m0, k1m1]
  instanceTypes := #[]
  staticTypes := #[]
  resolved := Array.replicate 48 none
  statics := none }

def pool2 : Array CpInfo := pool [(1, .methodref 2 3), (0, .class_ 4), (0, .nameAndType 5 6), (0, u "java/lang/Object"), (0, u "<init>"), (0, u "()V"), (0, .fieldref 8 9), (0, .class_ 10), (0, .nameAndType 11 12), (0, u "RankReassociator"), (0, u "pOp"), (0, u "[I"), (0, .fieldref 8 14), (0, .nameAndType 15 12), (0, u "pX"), (0, .fieldref 8 17), (0, .nameAndType 18 12), (0, u "pY"), (0, .fieldref 8 20), (0, .nameAndType 21 12), (0, u "pEnc"), (0, .fieldref 8 23), (0, .nameAndType 24 12), (0, u "pMatch"), (0, .fieldref 8 26), (0, .nameAndType 27 12), (0, u "openStk"), (0, .fieldref 8 29), (0, .nameAndType 30 12), (0, u "inputs"), (0, .fieldref 8 32), (0, .nameAndType 33 12), (0, u "cOp"), (0, .fieldref 8 35), (0, .nameAndType 36 12), (0, u "cX"), (0, .fieldref 8 38), (0, .nameAndType 39 12), (0, u "cY"), (0, .fieldref 8 41), (0, .nameAndType 42 12), (0, u "rank"), (0, .fieldref 8 44), (0, .nameAndType 45 12), (0, u "slot"), (0, .fieldref 8 47), (0, .nameAndType 48 12), (0, u "cnt"), (0, .fieldref 8 50), (0, .nameAndType 51 12), (0, u "vars"), (0, .fieldref 8 53), (0, .nameAndType 54 12), (0, u "outCnt"), (0, .fieldref 8 56), (0, .nameAndType 57 12), (0, u "outVal"), (0, .fieldref 8 59), (0, .nameAndType 60 12), (0, u "varRes"), (0, .fieldref 8 62), (0, .nameAndType 63 12), (0, u "map"), (0, .fieldref 8 65), (0, .nameAndType 66 12), (0, u "setMask"), (0, .fieldref 8 68), (0, .nameAndType 69 12), (0, u "ver"), (0, .fieldref 8 71), (0, .nameAndType 72 12), (0, u "loopStk"), (0, .fieldref 8 74), (0, .nameAndType 75 12), (0, u "markStk"), (0, .fieldref 8 77), (0, .nameAndType 78 12), (0, u "lv"), (0, .fieldref 8 80), (0, .nameAndType 81 12), (0, u "ls"), (0, .fieldref 8 83), (0, .nameAndType 84 85), (0, u "lrm"), (0, u "[Z"), (0, .fieldref 8 87), (0, .nameAndType 88 12), (0, u "sN"), (0, .fieldref 8 90), (0, .nameAndType 91 12), (0, u "sS"), (0, .fieldref 8 93), (0, .nameAndType 94 12), (0, u "hOp"), (0, .fieldref 8 96), (0, .nameAndType 97 12), (0, u "hA"), (0, .fieldref 8 99), (0, .nameAndType 100 12), (0, u "hB"), (0, .fieldref 8 102), (0, .nameAndType 103 12), (0, u "hVal"), (0, .fieldref 8 105), (0, .nameAndType 106 85), (0, u "hUsed"), (0, .fieldref 8 108), (0, .nameAndType 109 12), (0, u "hLog"), (0, .fieldref 8 111), (0, .nameAndType 112 113), (0, u "cap"), (0, u "I"), (0, .fieldref 8 115), (0, .nameAndType 116 113), (0, u "hFree"), (0, .fieldref 8 118), (0, .nameAndType 119 113), (0, u "n"), (0, .methodref 8 121), (0, .nameAndType 122 123), (0, u "argumentOk"), (0, u "(II)Z"), (0, .methodref 8 125), (0, .nameAndType 126 127), (0, u "operandsOk"), (0, u "(III)Z"), (0, .fieldref 8 129), (0, .nameAndType 130 113), (0, u "depth"), (0, .methodref 8 132), (0, .nameAndType 133 134), (0, u "store"), (0, u "(III)I"), (3, u "(I)Z"), (3, .methodref 8 143), (0, .nameAndType 144 138), (0, u "usesX"), (0, .methodref 8 146), (0, .nameAndType 147 138), (0, u "usesY"), (0, .fieldref 8 149), (0, .nameAndType 150 151), (0, u "compiled"), (0, u "Z"), (0, .methodref 8 153), (0, .nameAndType 154 6), (0, u "buildVersion0"), (0, .methodref 8 156), (0, .nameAndType 157 6), (0, u "buildVersion1"), (3, u "(I)V"), (0, .fieldref 8 163), (0, .nameAndType 164 113), (0, u "len0"), (0, .fieldref 8 166), (0, .nameAndType 167 113), (0, u "len1"), (0, .methodref 8 169), (0, .nameAndType 170 161), (0, u "undoHash"), (0, .fieldref 8 172), (0, .nameAndType 173 151), (0, u "overflow"), (0, .fieldref 8 175), (0, .nameAndType 176 113), (0, u "cdepth"), (0, .methodref 8 178), (0, .nameAndType 179 6), (0, u "computeSetMasks"), (0, .methodref 8 181), (0, .nameAndType 182 161), (0, u "translate"), (15, u "(I)I"), (0, .methodref 8 200), (0, .nameAndType 201 134), (0, u "emit"), (0, .methodref 8 203), (0, .nameAndType 204 198), (0, u "buildValue"), (0, .fieldref 8 206), (0, .nameAndType 207 113), (0, u "hLogN"), (0, .methodref 8 209), (0, .nameAndType 210 198), (0, u "makeConst"), (0, .methodref 8 212), (0, .nameAndType 213 214), (0, u "makeLeaf"), (0, u "(IIII)I"), (15, u "()I"), (3, .methodref 8 235), (0, .nameAndType 236 134), (0, u "lookup"), (0, .methodref 8 238), (0, .nameAndType 239 240), (0, u "insert"), (0, u "(IIII)V"), (24, u "(II)I"), (29, u "lnum"), (2, u "sp"), (27, .integer 2654435761), (0, .integer 2246822507), (0, .integer 3266489909), (0, .integer 739982445), (0, .methodref 8 331), (0, .nameAndType 332 134), (0, u "hashOf"), (24, u "OP_CONST"), (2, u "OP_IN"), (1, u "OP_GET"), (1, u "OP_ADD"), (1, u "OP_SUB"), (1, u "OP_MUL"), (1, u "OP_AND"), (1, u "OP_OR"), (1, u "OP_XOR"), (1, u "OP_NEG"), (1, u "OP_SET"), (1, u "OP_OUT"), (1, u "OP_LOOP"), (1, u "OP_END"), (1, u "OK"), (1, u "ERR_FULL"), (1, u "ERR_OP"), (1, u "ERR_ARG"), (1, u "ERR_OPERAND"), (1, u "ERR_DEPTH"), (1, u "ERR_EMPTY"), (1, u "ERR_OPEN"), (1, u "ERR_NOT_COMPILED"), (1, u "MAX_DEPTH"), (0, u "MAX_COUNT"), (0, u "INPUTS"), (0, u "VARS"), (0, u "OUT_CAP"), (1, u "FIELD_OP"), (0, u "FIELD_X"), (0, u "FIELD_Y"), (4, u "add"), (2, u "size"), (0, u "instr"), (0, u "setInput"), (0, u "input"), (0, u "compile"), (0, u "isCompiled"), (0, u "()Z")] 6

def k2c0 : Code := { maxStack := 2, maxLocals := 3, code := prog_1_method_1_code, exceptionTable := #[], attributes := #[] }
def k2m0 : Method := { name := "<init>", desc := "(I)V", sig := { parameters := [.int], returnType := none }, accessFlags := 1, code := some k2c0 }
def k2c1 : Code := { maxStack := 4, maxLocals := 4, code := prog_1_method_3_code, exceptionTable := #[], attributes := #[] }
def k2m1 : Method := { name := "add", desc := "(III)I", sig := { parameters := [.int, .int, .int], returnType := some .int }, accessFlags := 1, code := some k2c1 }
def k2c2 : Code := { maxStack := 2, maxLocals := 3, code := prog_1_method_4_code, exceptionTable := #[], attributes := #[] }
def k2m2 : Method := { name := "argumentOk", desc := "(II)Z", sig := { parameters := [.int, .int], returnType := some .boolean }, accessFlags := 2, code := some k2c2 }
def k2c3 : Code := { maxStack := 2, maxLocals := 4, code := prog_1_method_5_code, exceptionTable := #[], attributes := #[] }
def k2m3 : Method := { name := "operandsOk", desc := "(III)Z", sig := { parameters := [.int, .int, .int], returnType := some .boolean }, accessFlags := 2, code := some k2c3 }
def k2c4 : Code := { maxStack := 2, maxLocals := 2, code := prog_1_method_8_code, exceptionTable := #[], attributes := #[] }
def k2m4 : Method := { name := "usesY", desc := "(I)Z", sig := { parameters := [.int], returnType := some .boolean }, accessFlags := 2, code := some k2c4 }
def k2c5 : Code := { maxStack := 2, maxLocals := 2, code := prog_1_method_9_code, exceptionTable := #[], attributes := #[] }
def k2m5 : Method := { name := "usesX", desc := "(I)Z", sig := { parameters := [.int], returnType := some .boolean }, accessFlags := 2, code := some k2c5 }
def k2c6 : Code := { maxStack := 5, maxLocals := 6, code := prog_1_method_10_code, exceptionTable := #[], attributes := #[] }
def k2m6 : Method := { name := "store", desc := "(III)I", sig := { parameters := [.int, .int, .int], returnType := some .int }, accessFlags := 2, code := some k2c6 }
def k2c7 : Code := { maxStack := 1, maxLocals := 1, code := prog_1_method_12_code, exceptionTable := #[], attributes := #[] }
def k2m7 : Method := { name := "size", desc := "()I", sig := { parameters := [], returnType := some .int }, accessFlags := 1, code := some k2c7 }
def k2c8 : Code := { maxStack := 2, maxLocals := 3, code := prog_1_method_14_code, exceptionTable := #[], attributes := #[] }
def k2m8 : Method := { name := "instr", desc := "(II)I", sig := { parameters := [.int, .int], returnType := some .int }, accessFlags := 1, code := some k2c8 }
def k2c9 : Code := { maxStack := 3, maxLocals := 3, code := prog_1_method_15_code, exceptionTable := #[], attributes := #[] }
def k2m9 : Method := { name := "setInput", desc := "(II)Z", sig := { parameters := [.int, .int], returnType := some .boolean }, accessFlags := 1, code := some k2c9 }
def k2c10 : Code := { maxStack := 2, maxLocals := 2, code := prog_1_method_16_code, exceptionTable := #[], attributes := #[] }
def k2m10 : Method := { name := "input", desc := "(I)I", sig := { parameters := [.int], returnType := some .int }, accessFlags := 1, code := some k2c10 }
def k2c11 : Code := { maxStack := 2, maxLocals := 1, code := prog_1_method_17_code, exceptionTable := #[], attributes := #[] }
def k2m11 : Method := { name := "compile", desc := "()I", sig := { parameters := [], returnType := some .int }, accessFlags := 1, code := some k2c11 }
def k2c12 : Code := { maxStack := 1, maxLocals := 1, code := prog_1_method_18_code, exceptionTable := #[], attributes := #[] }
def k2m12 : Method := { name := "isCompiled", desc := "()Z", sig := { parameters := [], returnType := some .boolean }, accessFlags := 1, code := some k2c12 }
def k2c13 : Code := { maxStack := 4, maxLocals := 3, code := prog_1_method_23_code, exceptionTable := #[], attributes := #[] }
def k2m13 : Method := { name := "buildVersion0", desc := "()V", sig := { parameters := [], returnType := none }, accessFlags := 2, code := some k2c13 }
def k2c14 : Code := { maxStack := 3, maxLocals := 2, code := prog_1_method_25_code, exceptionTable := #[], attributes := #[] }
def k2m14 : Method := { name := "buildVersion1", desc := "()V", sig := { parameters := [], returnType := none }, accessFlags := 2, code := some k2c14 }
def k2c15 : Code := { maxStack := 4, maxLocals := 5, code := prog_1_method_26_code, exceptionTable := #[], attributes := #[] }
def k2m15 : Method := { name := "computeSetMasks", desc := "()V", sig := { parameters := [], returnType := none }, accessFlags := 2, code := some k2c15 }
def k2c16 : Code := { maxStack := 4, maxLocals := 4, code := prog_1_method_27_code, exceptionTable := #[], attributes := #[] }
def k2m16 : Method := { name := "translate", desc := "(I)V", sig := { parameters := [.int], returnType := none }, accessFlags := 2, code := some k2c16 }
def k2c17 : Code := { maxStack := 3, maxLocals := 5, code := prog_1_method_31_code, exceptionTable := #[], attributes := #[] }
def k2m17 : Method := { name := "emit", desc := "(III)I", sig := { parameters := [.int, .int, .int], returnType := some .int }, accessFlags := 2, code := some k2c17 }
def k2c18 : Code := { maxStack := 6, maxLocals := 5, code := prog_1_method_33_code, exceptionTable := #[], attributes := #[] }
def k2m18 : Method := { name := "buildValue", desc := "(I)I", sig := { parameters := [.int], returnType := some .int }, accessFlags := 2, code := some k2c18 }
def k2c19 : Code := { maxStack := 5, maxLocals := 2, code := prog_1_method_35_code, exceptionTable := #[], attributes := #[] }
def k2m19 : Method := { name := "makeConst", desc := "(I)I", sig := { parameters := [.int], returnType := some .int }, accessFlags := 2, code := some k2c19 }
def k2c20 : Code := { maxStack := 5, maxLocals := 7, code := prog_1_method_36_code, exceptionTable := #[], attributes := #[] }
def k2m20 : Method := { name := "makeLeaf", desc := "(IIII)I", sig := { parameters := [.int, .int, .int, .int], returnType := some .int }, accessFlags := 2, code := some k2c20 }
def k2c21 : Code := { maxStack := 3, maxLocals := 5, code := prog_1_method_68_code, exceptionTable := #[], attributes := #[] }
def k2m21 : Method := { name := "hashOf", desc := "(III)I", sig := { parameters := [.int, .int, .int], returnType := some .int }, accessFlags := 2, code := some k2c21 }
def k2c22 : Code := { maxStack := 4, maxLocals := 7, code := prog_1_method_69_code, exceptionTable := #[], attributes := #[] }
def k2m22 : Method := { name := "lookup", desc := "(III)I", sig := { parameters := [.int, .int, .int], returnType := some .int }, accessFlags := 2, code := some k2c22 }
def k2c23 : Code := { maxStack := 3, maxLocals := 6, code := prog_1_method_70_code, exceptionTable := #[], attributes := #[] }
def k2m23 : Method := { name := "insert", desc := "(IIII)V", sig := { parameters := [.int, .int, .int, .int], returnType := none }, accessFlags := 2, code := some k2c23 }
def k2c24 : Code := { maxStack := 3, maxLocals := 4, code := prog_1_method_71_code, exceptionTable := #[], attributes := #[] }
def k2m24 : Method := { name := "undoHash", desc := "(I)V", sig := { parameters := [.int], returnType := none }, accessFlags := 2, code := some k2c24 }
/-- RankReassociator -/
def k2 : Class := { plain "RankReassociator" (some 0) with
  accessFlags := 49
  interfaces := #[]
  cf := some (fileOf pool2 8 #[] #[{ accessFlags := 1, nameIndex := 5, descriptorIndex := 161, attributes := #[] }, { accessFlags := 1, nameIndex := 417, descriptorIndex := 134, attributes := #[] }, { accessFlags := 2, nameIndex := 122, descriptorIndex := 123, attributes := #[] }, { accessFlags := 2, nameIndex := 126, descriptorIndex := 127, attributes := #[] }, { accessFlags := 2, nameIndex := 147, descriptorIndex := 138, attributes := #[] }, { accessFlags := 2, nameIndex := 144, descriptorIndex := 138, attributes := #[] }, { accessFlags := 2, nameIndex := 133, descriptorIndex := 134, attributes := #[] }, { accessFlags := 1, nameIndex := 420, descriptorIndex := 230, attributes := #[] }, { accessFlags := 1, nameIndex := 421, descriptorIndex := 265, attributes := #[] }, { accessFlags := 1, nameIndex := 422, descriptorIndex := 123, attributes := #[] }, { accessFlags := 1, nameIndex := 423, descriptorIndex := 198, attributes := #[] }, { accessFlags := 1, nameIndex := 424, descriptorIndex := 230, attributes := #[] }, { accessFlags := 1, nameIndex := 425, descriptorIndex := 426, attributes := #[] }, { accessFlags := 2, nameIndex := 154, descriptorIndex := 6, attributes := #[] }, { accessFlags := 2, nameIndex := 157, descriptorIndex := 6, attributes := #[] }, { accessFlags := 2, nameIndex := 179, descriptorIndex := 6, attributes := #[] }, { accessFlags := 2, nameIndex := 182, descriptorIndex := 161, attributes := #[] }, { accessFlags := 2, nameIndex := 201, descriptorIndex := 134, attributes := #[] }, { accessFlags := 2, nameIndex := 204, descriptorIndex := 198, attributes := #[] }, { accessFlags := 2, nameIndex := 210, descriptorIndex := 198, attributes := #[] }, { accessFlags := 2, nameIndex := 213, descriptorIndex := 214, attributes := #[] }, { accessFlags := 2, nameIndex := 332, descriptorIndex := 134, attributes := #[] }, { accessFlags := 2, nameIndex := 236, descriptorIndex := 134, attributes := #[] }, { accessFlags := 2, nameIndex := 239, descriptorIndex := 240, attributes := #[] }, { accessFlags := 2, nameIndex := 170, descriptorIndex := 161, attributes := #[] }] 49 2 #[] #[{ accessFlags := 25, nameIndex := 357, descriptorIndex := 113, attributes := #[] }, { accessFlags := 25, nameIndex := 360, descriptorIndex := 113, attributes := #[] }, { accessFlags := 25, nameIndex := 362, descriptorIndex := 113, attributes := #[] }, { accessFlags := 25, nameIndex := 364, descriptorIndex := 113, attributes := #[] }, { accessFlags := 25, nameIndex := 366, descriptorIndex := 113, attributes := #[] }, { accessFlags := 25, nameIndex := 368, descriptorIndex := 113, attributes := #[] }, { accessFlags := 25, nameIndex := 370, descriptorIndex := 113, attributes := #[] }, { accessFlags := 25, nameIndex := 372, descriptorIndex := 113, attributes := #[] }, { accessFlags := 25, nameIndex := 374, descriptorIndex := 113, attributes := #[] }, { accessFlags := 25, nameIndex := 376, descriptorIndex := 113, attributes := #[] }, { accessFlags := 25, nameIndex := 378, descriptorIndex := 113, attributes := #[] }, { accessFlags := 25, nameIndex := 380, descriptorIndex := 113, attributes := #[] }, { accessFlags := 25, nameIndex := 382, descriptorIndex := 113, attributes := #[] }, { accessFlags := 25, nameIndex := 384, descriptorIndex := 113, attributes := #[] }, { accessFlags := 25, nameIndex := 386, descriptorIndex := 113, attributes := #[] }, { accessFlags := 25, nameIndex := 388, descriptorIndex := 113, attributes := #[] }, { accessFlags := 25, nameIndex := 390, descriptorIndex := 113, attributes := #[] }, { accessFlags := 25, nameIndex := 392, descriptorIndex := 113, attributes := #[] }, { accessFlags := 25, nameIndex := 394, descriptorIndex := 113, attributes := #[] }, { accessFlags := 25, nameIndex := 396, descriptorIndex := 113, attributes := #[] }, { accessFlags := 25, nameIndex := 398, descriptorIndex := 113, attributes := #[] }, { accessFlags := 25, nameIndex := 400, descriptorIndex := 113, attributes := #[] }, { accessFlags := 25, nameIndex := 402, descriptorIndex := 113, attributes := #[] }, { accessFlags := 25, nameIndex := 404, descriptorIndex := 113, attributes := #[] }, { accessFlags := 25, nameIndex := 405, descriptorIndex := 113, attributes := #[] }, { accessFlags := 25, nameIndex := 406, descriptorIndex := 113, attributes := #[] }, { accessFlags := 25, nameIndex := 407, descriptorIndex := 113, attributes := #[] }, { accessFlags := 25, nameIndex := 408, descriptorIndex := 113, attributes := #[] }, { accessFlags := 25, nameIndex := 410, descriptorIndex := 113, attributes := #[] }, { accessFlags := 25, nameIndex := 411, descriptorIndex := 113, attributes := #[] }, { accessFlags := 25, nameIndex := 412, descriptorIndex := 113, attributes := #[] }, { accessFlags := 2, nameIndex := 112, descriptorIndex := 113, attributes := #[] }, { accessFlags := 2, nameIndex := 119, descriptorIndex := 113, attributes := #[] }, { accessFlags := 2, nameIndex := 130, descriptorIndex := 113, attributes := #[] }, { accessFlags := 2, nameIndex := 150, descriptorIndex := 151, attributes := #[] }, { accessFlags := 18, nameIndex := 11, descriptorIndex := 12, attributes := #[] }, { accessFlags := 18, nameIndex := 15, descriptorIndex := 12, attributes := #[] }, { accessFlags := 18, nameIndex := 18, descriptorIndex := 12, attributes := #[] }, { accessFlags := 18, nameIndex := 21, descriptorIndex := 12, attributes := #[] }, { accessFlags := 18, nameIndex := 24, descriptorIndex := 12, attributes := #[] }, { accessFlags := 18, nameIndex := 27, descriptorIndex := 12, attributes := #[] }, { accessFlags := 18, nameIndex := 30, descriptorIndex := 12, attributes := #[] }, { accessFlags := 18, nameIndex := 33, descriptorIndex := 12, attributes := #[] }, { accessFlags := 18, nameIndex := 36, descriptorIndex := 12, attributes := #[] }, { accessFlags := 18, nameIndex := 39, descriptorIndex := 12, attributes := #[] }, { accessFlags := 18, nameIndex := 42, descriptorIndex := 12, attributes := #[] }, { accessFlags := 2, nameIndex := 164, descriptorIndex := 113, attributes := #[] }, { accessFlags := 2, nameIndex := 167, descriptorIndex := 113, attributes := #[] }, { accessFlags := 18, nameIndex := 45, descriptorIndex := 12, attributes := #[] }, { accessFlags := 18, nameIndex := 48, descriptorIndex := 12, attributes := #[] }, { accessFlags := 18, nameIndex := 51, descriptorIndex := 12, attributes := #[] }, { accessFlags := 18, nameIndex := 54, descriptorIndex := 12, attributes := #[] }, { accessFlags := 18, nameIndex := 57, descriptorIndex := 12, attributes := #[] }, { accessFlags := 18, nameIndex := 60, descriptorIndex := 12, attributes := #[] }, { accessFlags := 18, nameIndex := 63, descriptorIndex := 12, attributes := #[] }, { accessFlags := 18, nameIndex := 66, descriptorIndex := 12, attributes := #[] }, { accessFlags := 18, nameIndex := 69, descriptorIndex := 12, attributes := #[] }, { accessFlags := 18, nameIndex := 72, descriptorIndex := 12, attributes := #[] }, { accessFlags := 18, nameIndex := 75, descriptorIndex := 12, attributes := #[] }, { accessFlags := 2, nameIndex := 176, descriptorIndex := 113, attributes := #[] }, { accessFlags := 2, nameIndex := 173, descriptorIndex := 151, attributes := #[] }, { accessFlags := 18, nameIndex := 78, descriptorIndex := 12, attributes := #[] }, { accessFlags := 18, nameIndex := 81, descriptorIndex := 12, attributes := #[] }, { accessFlags := 18, nameIndex := 84, descriptorIndex := 85, attributes := #[] }, { accessFlags := 2, nameIndex := 295, descriptorIndex := 113, attributes := #[] }, { accessFlags := 18, nameIndex := 88, descriptorIndex := 12, attributes := #[] }, { accessFlags := 18, nameIndex := 91, descriptorIndex := 12, attributes := #[] }, { accessFlags := 2, nameIndex := 298, descriptorIndex := 113, attributes := #[] }, { accessFlags := 18, nameIndex := 94, descriptorIndex := 12, attributes := #[] }, { accessFlags := 18, nameIndex := 97, descriptorIndex := 12, attributes := #[] }, { accessFlags := 18, nameIndex := 100, descriptorIndex := 12, attributes := #[] }, { accessFlags := 18, nameIndex := 103, descriptorIndex := 12, attributes := #[] }, { accessFlags := 18, nameIndex := 106, descriptorIndex := 85, attributes := #[] }, { accessFlags := 18, nameIndex := 109, descriptorIndex := 12, attributes := #[] }, { accessFlags := 2, nameIndex := 207, descriptorIndex := 113, attributes := #[] }, { accessFlags := 2, nameIndex := 116, descriptorIndex := 113, attributes := #[] }])
  fields := #[{ name := "OP_CONST", type := .int, accessFlags := 25, slot := 0, constantValue := 0 }, { name := "OP_IN", type := .int, accessFlags := 25, slot := 1, constantValue := 0 }, { name := "OP_GET", type := .int, accessFlags := 25, slot := 2, constantValue := 0 }, { name := "OP_ADD", type := .int, accessFlags := 25, slot := 3, constantValue := 0 }, { name := "OP_SUB", type := .int, accessFlags := 25, slot := 4, constantValue := 0 }, { name := "OP_MUL", type := .int, accessFlags := 25, slot := 5, constantValue := 0 }, { name := "OP_AND", type := .int, accessFlags := 25, slot := 6, constantValue := 0 }, { name := "OP_OR", type := .int, accessFlags := 25, slot := 7, constantValue := 0 }, { name := "OP_XOR", type := .int, accessFlags := 25, slot := 8, constantValue := 0 }, { name := "OP_NEG", type := .int, accessFlags := 25, slot := 9, constantValue := 0 }, { name := "OP_SET", type := .int, accessFlags := 25, slot := 10, constantValue := 0 }, { name := "OP_OUT", type := .int, accessFlags := 25, slot := 11, constantValue := 0 }, { name := "OP_LOOP", type := .int, accessFlags := 25, slot := 12, constantValue := 0 }, { name := "OP_END", type := .int, accessFlags := 25, slot := 13, constantValue := 0 }, { name := "OK", type := .int, accessFlags := 25, slot := 14, constantValue := 0 }, { name := "ERR_FULL", type := .int, accessFlags := 25, slot := 15, constantValue := 0 }, { name := "ERR_OP", type := .int, accessFlags := 25, slot := 16, constantValue := 0 }, { name := "ERR_ARG", type := .int, accessFlags := 25, slot := 17, constantValue := 0 }, { name := "ERR_OPERAND", type := .int, accessFlags := 25, slot := 18, constantValue := 0 }, { name := "ERR_DEPTH", type := .int, accessFlags := 25, slot := 19, constantValue := 0 }, { name := "ERR_EMPTY", type := .int, accessFlags := 25, slot := 20, constantValue := 0 }, { name := "ERR_OPEN", type := .int, accessFlags := 25, slot := 21, constantValue := 0 }, { name := "ERR_NOT_COMPILED", type := .int, accessFlags := 25, slot := 22, constantValue := 0 }, { name := "MAX_DEPTH", type := .int, accessFlags := 25, slot := 23, constantValue := 0 }, { name := "MAX_COUNT", type := .int, accessFlags := 25, slot := 24, constantValue := 0 }, { name := "INPUTS", type := .int, accessFlags := 25, slot := 25, constantValue := 0 }, { name := "VARS", type := .int, accessFlags := 25, slot := 26, constantValue := 0 }, { name := "OUT_CAP", type := .int, accessFlags := 25, slot := 27, constantValue := 0 }, { name := "FIELD_OP", type := .int, accessFlags := 25, slot := 28, constantValue := 0 }, { name := "FIELD_X", type := .int, accessFlags := 25, slot := 29, constantValue := 0 }, { name := "FIELD_Y", type := .int, accessFlags := 25, slot := 30, constantValue := 0 }, { name := "cap", type := .int, accessFlags := 2, slot := 0, constantValue := 0 }, { name := "n", type := .int, accessFlags := 2, slot := 1, constantValue := 0 }, { name := "depth", type := .int, accessFlags := 2, slot := 2, constantValue := 0 }, { name := "compiled", type := .boolean, accessFlags := 2, slot := 3, constantValue := 0 }, { name := "pOp", type := (.array .int), accessFlags := 18, slot := 4, constantValue := 0 }, { name := "pX", type := (.array .int), accessFlags := 18, slot := 5, constantValue := 0 }, { name := "pY", type := (.array .int), accessFlags := 18, slot := 6, constantValue := 0 }, { name := "pEnc", type := (.array .int), accessFlags := 18, slot := 7, constantValue := 0 }, { name := "pMatch", type := (.array .int), accessFlags := 18, slot := 8, constantValue := 0 }, { name := "openStk", type := (.array .int), accessFlags := 18, slot := 9, constantValue := 0 }, { name := "inputs", type := (.array .int), accessFlags := 18, slot := 10, constantValue := 0 }, { name := "cOp", type := (.array .int), accessFlags := 18, slot := 11, constantValue := 0 }, { name := "cX", type := (.array .int), accessFlags := 18, slot := 12, constantValue := 0 }, { name := "cY", type := (.array .int), accessFlags := 18, slot := 13, constantValue := 0 }, { name := "rank", type := (.array .int), accessFlags := 18, slot := 14, constantValue := 0 }, { name := "len0", type := .int, accessFlags := 2, slot := 15, constantValue := 0 }, { name := "len1", type := .int, accessFlags := 2, slot := 16, constantValue := 0 }, { name := "slot", type := (.array .int), accessFlags := 18, slot := 17, constantValue := 0 }, { name := "cnt", type := (.array .int), accessFlags := 18, slot := 18, constantValue := 0 }, { name := "vars", type := (.array .int), accessFlags := 18, slot := 19, constantValue := 0 }, { name := "outCnt", type := (.array .int), accessFlags := 18, slot := 20, constantValue := 0 }, { name := "outVal", type := (.array .int), accessFlags := 18, slot := 21, constantValue := 0 }, { name := "varRes", type := (.array .int), accessFlags := 18, slot := 22, constantValue := 0 }, { name := "map", type := (.array .int), accessFlags := 18, slot := 23, constantValue := 0 }, { name := "setMask", type := (.array .int), accessFlags := 18, slot := 24, constantValue := 0 }, { name := "ver", type := (.array .int), accessFlags := 18, slot := 25, constantValue := 0 }, { name := "loopStk", type := (.array .int), accessFlags := 18, slot := 26, constantValue := 0 }, { name := "markStk", type := (.array .int), accessFlags := 18, slot := 27, constantValue := 0 }, { name := "cdepth", type := .int, accessFlags := 2, slot := 28, constantValue := 0 }, { name := "overflow", type := .boolean, accessFlags := 2, slot := 29, constantValue := 0 }, { name := "lv", type := (.array .int), accessFlags := 18, slot := 30, constantValue := 0 }, { name := "ls", type := (.array .int), accessFlags := 18, slot := 31, constantValue := 0 }, { name := "lrm", type := (.array .boolean), accessFlags := 18, slot := 32, constantValue := 0 }, { name := "lnum", type := .int, accessFlags := 2, slot := 33, constantValue := 0 }, { name := "sN", type := (.array .int), accessFlags := 18, slot := 34, constantValue := 0 }, { name := "sS", type := (.array .int), accessFlags := 18, slot := 35, constantValue := 0 }, { name := "sp", type := .int, accessFlags := 2, slot := 36, constantValue := 0 }, { name := "hOp", type := (.array .int), accessFlags := 18, slot := 37, constantValue := 0 }, { name := "hA", type := (.array .int), accessFlags := 18, slot := 38, constantValue := 0 }, { name := "hB", type := (.array .int), accessFlags := 18, slot := 39, constantValue := 0 }, { name := "hVal", type := (.array .int), accessFlags := 18, slot := 40, constantValue := 0 }, { name := "hUsed", type := (.array .boolean), accessFlags := 18, slot := 41, constantValue := 0 }, { name := "hLog", type := (.array .int), accessFlags := 18, slot := 42, constantValue := 0 }, { name := "hLogN", type := .int, accessFlags := 2, slot := 43, constantValue := 0 }, { name := "hFree", type := .int, accessFlags := 2, slot := 44, constantValue := 0 }]
  methods := #[k2m0, k2m1, k2m2, k2m3, k2m4, k2m5, k2m6, k2m7, k2m8, k2m9, k2m10, k2m11, k2m12, k2m13, k2m14, k2m15, k2m16, k2m17, k2m18, k2m19, k2m20, k2m21, k2m22, k2m23, k2m24]
  instanceTypes := #[.int, .int, .int, .boolean, (.array .int), (.array .int), (.array .int), (.array .int), (.array .int), (.array .int), (.array .int), (.array .int), (.array .int), (.array .int), (.array .int), .int, .int, (.array .int), (.array .int), (.array .int), (.array .int), (.array .int), (.array .int), (.array .int), (.array .int), (.array .int), (.array .int), (.array .int), .int, .boolean, (.array .int), (.array .int), (.array .boolean), .int, (.array .int), (.array .int), .int, (.array .int), (.array .int), (.array .int), (.array .int), (.array .boolean), (.array .int), .int, .int]
  staticTypes := #[.int, .int, .int, .int, .int, .int, .int, .int, .int, .int, .int, .int, .int, .int, .int, .int, .int, .int, .int, .int, .int, .int, .int, .int, .int, .int, .int, .int, .int, .int, .int]
  resolved := Array.replicate 433 none
  statics := none }

def pool3 : Array CpInfo := pool [(1, u "java/lang/Cloneable"), (0, .class_ 1), (0, u "java/lang/Object"), (0, .class_ 3)] 3

/-- java/lang/Cloneable -/
def k3 : Class := { plain "java/lang/Cloneable" (some 0) with
  accessFlags := 1537
  interfaces := #[]
  cf := some (fileOf pool3 2 #[] #[] 1537 4 #[] #[])
  fields := #[]
  methods := #[]
  instanceTypes := #[]
  staticTypes := #[]
  resolved := Array.replicate 8 none
  statics := none }

def pool4 : Array CpInfo := pool [(1, u "java/io/Serializable"), (0, .class_ 1), (0, u "java/lang/Object"), (0, .class_ 3)] 3

/-- java/io/Serializable -/
def k4 : Class := { plain "java/io/Serializable" (some 0) with
  accessFlags := 1537
  interfaces := #[]
  cf := some (fileOf pool4 2 #[] #[] 1537 4 #[] #[])
  fields := #[]
  methods := #[]
  instanceTypes := #[]
  staticTypes := #[]
  resolved := Array.replicate 8 none
  statics := none }

/-- the primitive boolean -/
def k5 : Class := { plain "boolean" none with kind := .primitive 'Z', accessFlags := 0x411 }
/-- [Z -/
def k6 : Class := { plain "[Z" (some 0) with kind := .array 5 .boolean, interfaces := #[3, 4], accessFlags := 1041 }

/-- the primitive byte -/
def k7 : Class := { plain "byte" none with kind := .primitive 'B', accessFlags := 0x411 }
/-- [B -/
def k8 : Class := { plain "[B" (some 0) with kind := .array 7 .byte, interfaces := #[3, 4], accessFlags := 1041 }

/-- the primitive int -/
def k9 : Class := { plain "int" none with kind := .primitive 'I', accessFlags := 0x411 }
/-- [I -/
def k10 : Class := { plain "[I" (some 0) with kind := .array 9 .int, interfaces := #[3, 4], accessFlags := 1041 }

def heap : Heap := #[]
def classes : Array Class := #[k0, k1, k2, k3, k4, k5, k6, k7, k8, k9, k10]
def interned : List (Array UInt16 × Addr) := []
def slotsUsed : Nat := 0
def theMethod : MethodId := ⟨1, 1⟩
def args0 : Array Value := #[.int 5, .int 5, .int 5, .int 5]
def aboutOver (below : List Frame) : State where
  vm := { classes := classes, interned := interned.toArray }
  heap := heap
  slotsUsed := slotsUsed
  threads := #[{ frames := .invoking theMethod args0 :: below }]
def below0 : List Frame := [.native { method := ⟨0, 0⟩, args := #[] }]
def about1 : State := aboutOver below0
def p0 : Program := .bare "" "" ""
def e0 : Env := launch0.env 0 0 0
theorem w_frames : about1.frames = Frame.invoking theMethod args0 :: below0 := rfl
set_option maxRecDepth 65536 in
theorem w_args : argsFit about1.vm theMethod args0 = true := by decide +kernel
set_option maxRecDepth 65536 in
theorem w_heap : heapFits about1 = true := by decide +kernel
set_option maxRecDepth 65536 in
theorem w_runnable : about1.curStatus? = some .runnable := by decide +kernel
set_option maxRecDepth 65536 in
theorem w_alone : about1.alone = true := by decide +kernel
set_option maxRecDepth 65536 in
theorem w_named : about1.methodNamed? x = some theMethod := by decide +kernel
set_option maxRecDepth 65536 in
theorem w_hears : about1.hears theMethod below0 = true := by decide +kernel
set_option maxRecDepth 65536 in
theorem w_ripe : about1.ripe theMethod args0 below0 = true := by decide +kernel
theorem w_running : about1.status = .running := rfl
set_option maxRecDepth 65536 in
theorem w_room : about1.hasRoom e0.platform room_1 = true :=
  launch0.hasRoom_least _ room_1 (by decide +kernel) (by decide +kernel) (by decide +kernel) (by decide +kernel) (by decide +kernel) (by decide +kernel)
theorem allAtoms_all (ts : List Jvm.Cond) (a : Array Jvm.Value) (st : Jvm.State) : (allAtoms ts).before a st = ts.all (fun c => c.before a st) := by
  induction ts with
  | nil => rfl
  | cons c t ih =>
    show (Jvm.Cond.and c (allAtoms t)).before a st = _
    rw [Jvm.Cond.before_and, ih, List.all_cons]
def words1 : List Jvm.Cond := Jvm.Cond.code x code maxLocals ret :: tables_1
/-- a 'code' word, met by the world's own term for the bytes: nothing is compared byte by byte -/
theorem code_word {y : MethodName} {bytes : ByteArray} {mx : Nat} {rt : Option FieldType} {a : Array Value} {s : State} {m : MethodId} {meth : Method} {c : Code} (h1 : s.methodNamed? y = some m) (h2 : s.vm.method? m = some meth) (h3 : meth.code = some c) (h4 : c.code = bytes)
    (h5 : (c.maxLocals == mx && c.exceptionTable.isEmpty && decide (c.maxStack ≤ mostOperands) && decide (meth.sig.returnType = rt) && !meth.locks && decide (parseMethodDescriptor y.desc = some meth.sig)) = true) : (Jvm.Cond.code y bytes mx rt).before a s = true := by
  simp only [Bool.and_eq_true, beq_iff_eq, Bool.not_eq_true', decide_eq_true_eq] at h5
  obtain ⟨⟨⟨⟨⟨g1, g2⟩, g3⟩, g4⟩, g5⟩, g6⟩ := h5
  simp [Cond.before, Cond.holds, Cond.value, h1, h2, h3, h4, g1, g2, g3, g4, g5, g6]
def isCode : Jvm.Cond → Bool
  | .code _ _ _ _ => true
  | _ => false
theorem all_split {L : List Jvm.Cond} {P : Jvm.Cond → Bool} (h1 : L.all (fun c => isCode c || P c) = true) (h2 : ∀ c ∈ L.filter isCode, P c = true) : L.all P = true := by
  refine List.all_eq_true.mpr fun c hc => ?_
  have h := List.all_eq_true.mp h1 c hc
  rcases Bool.eq_false_or_eq_true (isCode c) with hi | hi
  · exact h2 c (List.mem_filter.mpr ⟨hc, hi⟩)
  · simpa [hi] using h
set_option maxRecDepth 65536 in
theorem w_c0 : (Jvm.Cond.code x code maxLocals ret).before args0 about1 = true := code_word (m := ⟨1, 1⟩) (meth := k1m1) (c := k1c1) (by decide +kernel) rfl rfl rfl (by decide +kernel)
set_option maxRecDepth 65536 in
theorem w_c1 : (Jvm.Cond.code ({ cls := "RankReassociator", name := "<init>", desc := "(I)V" } : Jvm.MethodName) prog_1_method_1_code (3 : Nat) (Option.none : Option Jvm.ClassFile.FieldType)).before args0 about1 = true := code_word (m := ⟨2, 0⟩) (meth := k2m0) (c := k2c0) (by decide +kernel) rfl rfl rfl (by decide +kernel)
set_option maxRecDepth 65536 in
theorem w_c2 : (Jvm.Cond.code ({ cls := "java/lang/Object", name := "<init>", desc := "()V" } : Jvm.MethodName) object_method_1_code (1 : Nat) (Option.none : Option Jvm.ClassFile.FieldType)).before args0 about1 = true := code_word (m := ⟨0, 0⟩) (meth := k0m0) (c := k0c0) (by decide +kernel) rfl rfl rfl (by decide +kernel)
set_option maxRecDepth 65536 in
theorem w_c3 : (Jvm.Cond.code ({ cls := "RankReassociator", name := "add", desc := "(III)I" } : Jvm.MethodName) prog_1_method_3_code (4 : Nat) (Option.some Jvm.ClassFile.FieldType.int)).before args0 about1 = true := code_word (m := ⟨2, 1⟩) (meth := k2m1) (c := k2c1) (by decide +kernel) rfl rfl rfl (by decide +kernel)
set_option maxRecDepth 65536 in
theorem w_c4 : (Jvm.Cond.code ({ cls := "RankReassociator", name := "argumentOk", desc := "(II)Z" } : Jvm.MethodName) prog_1_method_4_code (3 : Nat) (Option.some Jvm.ClassFile.FieldType.boolean)).before args0 about1 = true := code_word (m := ⟨2, 2⟩) (meth := k2m2) (c := k2c2) (by decide +kernel) rfl rfl rfl (by decide +kernel)
set_option maxRecDepth 65536 in
theorem w_c5 : (Jvm.Cond.code ({ cls := "RankReassociator", name := "operandsOk", desc := "(III)Z" } : Jvm.MethodName) prog_1_method_5_code (4 : Nat) (Option.some Jvm.ClassFile.FieldType.boolean)).before args0 about1 = true := code_word (m := ⟨2, 3⟩) (meth := k2m3) (c := k2c3) (by decide +kernel) rfl rfl rfl (by decide +kernel)
set_option maxRecDepth 65536 in
theorem w_c6 : (Jvm.Cond.code ({ cls := "RankReassociator", name := "store", desc := "(III)I" } : Jvm.MethodName) prog_1_method_10_code (6 : Nat) (Option.some Jvm.ClassFile.FieldType.int)).before args0 about1 = true := code_word (m := ⟨2, 6⟩) (meth := k2m6) (c := k2c6) (by decide +kernel) rfl rfl rfl (by decide +kernel)
set_option maxRecDepth 65536 in
theorem w_c7 : (Jvm.Cond.code ({ cls := "RankReassociator", name := "usesX", desc := "(I)Z" } : Jvm.MethodName) prog_1_method_9_code (2 : Nat) (Option.some Jvm.ClassFile.FieldType.boolean)).before args0 about1 = true := code_word (m := ⟨2, 5⟩) (meth := k2m5) (c := k2c5) (by decide +kernel) rfl rfl rfl (by decide +kernel)
set_option maxRecDepth 65536 in
theorem w_c8 : (Jvm.Cond.code ({ cls := "RankReassociator", name := "usesY", desc := "(I)Z" } : Jvm.MethodName) prog_1_method_8_code (2 : Nat) (Option.some Jvm.ClassFile.FieldType.boolean)).before args0 about1 = true := code_word (m := ⟨2, 4⟩) (meth := k2m4) (c := k2c4) (by decide +kernel) rfl rfl rfl (by decide +kernel)
set_option maxRecDepth 65536 in
theorem w_c9 : (Jvm.Cond.code ({ cls := "RankReassociator", name := "compile", desc := "()I" } : Jvm.MethodName) prog_1_method_17_code (1 : Nat) (Option.some Jvm.ClassFile.FieldType.int)).before args0 about1 = true := code_word (m := ⟨2, 11⟩) (meth := k2m11) (c := k2c11) (by decide +kernel) rfl rfl rfl (by decide +kernel)
set_option maxRecDepth 65536 in
theorem w_c10 : (Jvm.Cond.code ({ cls := "RankReassociator", name := "buildVersion0", desc := "()V" } : Jvm.MethodName) prog_1_method_23_code (3 : Nat) (Option.none : Option Jvm.ClassFile.FieldType)).before args0 about1 = true := code_word (m := ⟨2, 13⟩) (meth := k2m13) (c := k2c13) (by decide +kernel) rfl rfl rfl (by decide +kernel)
set_option maxRecDepth 65536 in
theorem w_c11 : (Jvm.Cond.code ({ cls := "RankReassociator", name := "buildVersion1", desc := "()V" } : Jvm.MethodName) prog_1_method_25_code (2 : Nat) (Option.none : Option Jvm.ClassFile.FieldType)).before args0 about1 = true := code_word (m := ⟨2, 14⟩) (meth := k2m14) (c := k2c14) (by decide +kernel) rfl rfl rfl (by decide +kernel)
set_option maxRecDepth 65536 in
theorem w_c12 : (Jvm.Cond.code ({ cls := "RankReassociator", name := "undoHash", desc := "(I)V" } : Jvm.MethodName) prog_1_method_71_code (4 : Nat) (Option.none : Option Jvm.ClassFile.FieldType)).before args0 about1 = true := code_word (m := ⟨2, 24⟩) (meth := k2m24) (c := k2c24) (by decide +kernel) rfl rfl rfl (by decide +kernel)
set_option maxRecDepth 65536 in
theorem w_c13 : (Jvm.Cond.code ({ cls := "RankReassociator", name := "computeSetMasks", desc := "()V" } : Jvm.MethodName) prog_1_method_26_code (5 : Nat) (Option.none : Option Jvm.ClassFile.FieldType)).before args0 about1 = true := code_word (m := ⟨2, 15⟩) (meth := k2m15) (c := k2c15) (by decide +kernel) rfl rfl rfl (by decide +kernel)
set_option maxRecDepth 65536 in
theorem w_c14 : (Jvm.Cond.code ({ cls := "RankReassociator", name := "translate", desc := "(I)V" } : Jvm.MethodName) prog_1_method_27_code (4 : Nat) (Option.none : Option Jvm.ClassFile.FieldType)).before args0 about1 = true := code_word (m := ⟨2, 16⟩) (meth := k2m16) (c := k2c16) (by decide +kernel) rfl rfl rfl (by decide +kernel)
set_option maxRecDepth 65536 in
theorem w_c15 : (Jvm.Cond.code ({ cls := "RankReassociator", name := "buildValue", desc := "(I)I" } : Jvm.MethodName) prog_1_method_33_code (5 : Nat) (Option.some Jvm.ClassFile.FieldType.int)).before args0 about1 = true := code_word (m := ⟨2, 18⟩) (meth := k2m18) (c := k2c18) (by decide +kernel) rfl rfl rfl (by decide +kernel)
set_option maxRecDepth 65536 in
theorem w_c16 : (Jvm.Cond.code ({ cls := "RankReassociator", name := "makeConst", desc := "(I)I" } : Jvm.MethodName) prog_1_method_35_code (2 : Nat) (Option.some Jvm.ClassFile.FieldType.int)).before args0 about1 = true := code_word (m := ⟨2, 19⟩) (meth := k2m19) (c := k2c19) (by decide +kernel) rfl rfl rfl (by decide +kernel)
set_option maxRecDepth 65536 in
theorem w_c17 : (Jvm.Cond.code ({ cls := "RankReassociator", name := "makeLeaf", desc := "(IIII)I" } : Jvm.MethodName) prog_1_method_36_code (7 : Nat) (Option.some Jvm.ClassFile.FieldType.int)).before args0 about1 = true := code_word (m := ⟨2, 20⟩) (meth := k2m20) (c := k2c20) (by decide +kernel) rfl rfl rfl (by decide +kernel)
set_option maxRecDepth 65536 in
theorem w_c18 : (Jvm.Cond.code ({ cls := "RankReassociator", name := "lookup", desc := "(III)I" } : Jvm.MethodName) prog_1_method_69_code (7 : Nat) (Option.some Jvm.ClassFile.FieldType.int)).before args0 about1 = true := code_word (m := ⟨2, 22⟩) (meth := k2m22) (c := k2c22) (by decide +kernel) rfl rfl rfl (by decide +kernel)
set_option maxRecDepth 65536 in
theorem w_c19 : (Jvm.Cond.code ({ cls := "RankReassociator", name := "hashOf", desc := "(III)I" } : Jvm.MethodName) prog_1_method_68_code (5 : Nat) (Option.some Jvm.ClassFile.FieldType.int)).before args0 about1 = true := code_word (m := ⟨2, 21⟩) (meth := k2m21) (c := k2c21) (by decide +kernel) rfl rfl rfl (by decide +kernel)
set_option maxRecDepth 65536 in
theorem w_c20 : (Jvm.Cond.code ({ cls := "RankReassociator", name := "emit", desc := "(III)I" } : Jvm.MethodName) prog_1_method_31_code (5 : Nat) (Option.some Jvm.ClassFile.FieldType.int)).before args0 about1 = true := code_word (m := ⟨2, 17⟩) (meth := k2m17) (c := k2c17) (by decide +kernel) rfl rfl rfl (by decide +kernel)
set_option maxRecDepth 65536 in
theorem w_c21 : (Jvm.Cond.code ({ cls := "RankReassociator", name := "insert", desc := "(IIII)V" } : Jvm.MethodName) prog_1_method_70_code (6 : Nat) (Option.none : Option Jvm.ClassFile.FieldType)).before args0 about1 = true := code_word (m := ⟨2, 23⟩) (meth := k2m23) (c := k2c23) (by decide +kernel) rfl rfl rfl (by decide +kernel)
set_option maxRecDepth 65536 in
theorem w_c22 : (Jvm.Cond.code ({ cls := "RankReassociator", name := "setInput", desc := "(II)Z" } : Jvm.MethodName) prog_1_method_15_code (3 : Nat) (Option.some Jvm.ClassFile.FieldType.boolean)).before args0 about1 = true := code_word (m := ⟨2, 9⟩) (meth := k2m9) (c := k2c9) (by decide +kernel) rfl rfl rfl (by decide +kernel)
set_option maxRecDepth 65536 in
theorem w_c23 : (Jvm.Cond.code ({ cls := "RankReassociator", name := "isCompiled", desc := "()Z" } : Jvm.MethodName) prog_1_method_18_code (1 : Nat) (Option.some Jvm.ClassFile.FieldType.boolean)).before args0 about1 = true := code_word (m := ⟨2, 12⟩) (meth := k2m12) (c := k2c12) (by decide +kernel) rfl rfl rfl (by decide +kernel)
set_option maxRecDepth 65536 in
theorem w_c24 : (Jvm.Cond.code ({ cls := "RankReassociator", name := "input", desc := "(I)I" } : Jvm.MethodName) prog_1_method_16_code (2 : Nat) (Option.some Jvm.ClassFile.FieldType.int)).before args0 about1 = true := code_word (m := ⟨2, 10⟩) (meth := k2m10) (c := k2c10) (by decide +kernel) rfl rfl rfl (by decide +kernel)
set_option maxRecDepth 65536 in
theorem w_c25 : (Jvm.Cond.code ({ cls := "RankReassociator", name := "size", desc := "()I" } : Jvm.MethodName) prog_1_method_12_code (1 : Nat) (Option.some Jvm.ClassFile.FieldType.int)).before args0 about1 = true := code_word (m := ⟨2, 7⟩) (meth := k2m7) (c := k2c7) (by decide +kernel) rfl rfl rfl (by decide +kernel)
set_option maxRecDepth 65536 in
theorem w_c26 : (Jvm.Cond.code ({ cls := "RankReassociator", name := "instr", desc := "(II)I" } : Jvm.MethodName) prog_1_method_14_code (3 : Nat) (Option.some Jvm.ClassFile.FieldType.int)).before args0 about1 = true := code_word (m := ⟨2, 8⟩) (meth := k2m8) (c := k2c8) (by decide +kernel) rfl rfl rfl (by decide +kernel)
def codes1 : List Jvm.Cond := [Jvm.Cond.code x code maxLocals ret, Jvm.Cond.code ({ cls := "RankReassociator", name := "<init>", desc := "(I)V" } : Jvm.MethodName) prog_1_method_1_code (3 : Nat) (Option.none : Option Jvm.ClassFile.FieldType), Jvm.Cond.code ({ cls := "java/lang/Object", name := "<init>", desc := "()V" } : Jvm.MethodName) object_method_1_code (1 : Nat) (Option.none : Option Jvm.ClassFile.FieldType), Jvm.Cond.code ({ cls := "RankReassociator", name := "add", desc := "(III)I" } : Jvm.MethodName) prog_1_method_3_code (4 : Nat) (Option.some Jvm.ClassFile.FieldType.int), Jvm.Cond.code ({ cls := "RankReassociator", name := "argumentOk", desc := "(II)Z" } : Jvm.MethodName) prog_1_method_4_code (3 : Nat) (Option.some Jvm.ClassFile.FieldType.boolean), Jvm.Cond.code ({ cls := "RankReassociator", name := "operandsOk", desc := "(III)Z" } : Jvm.MethodName) prog_1_method_5_code (4 : Nat) (Option.some Jvm.ClassFile.FieldType.boolean), Jvm.Cond.code ({ cls := "RankReassociator", name := "store", desc := "(III)I" } : Jvm.MethodName) prog_1_method_10_code (6 : Nat) (Option.some Jvm.ClassFile.FieldType.int), Jvm.Cond.code ({ cls := "RankReassociator", name := "usesX", desc := "(I)Z" } : Jvm.MethodName) prog_1_method_9_code (2 : Nat) (Option.some Jvm.ClassFile.FieldType.boolean), Jvm.Cond.code ({ cls := "RankReassociator", name := "usesY", desc := "(I)Z" } : Jvm.MethodName) prog_1_method_8_code (2 : Nat) (Option.some Jvm.ClassFile.FieldType.boolean), Jvm.Cond.code ({ cls := "RankReassociator", name := "compile", desc := "()I" } : Jvm.MethodName) prog_1_method_17_code (1 : Nat) (Option.some Jvm.ClassFile.FieldType.int), Jvm.Cond.code ({ cls := "RankReassociator", name := "buildVersion0", desc := "()V" } : Jvm.MethodName) prog_1_method_23_code (3 : Nat) (Option.none : Option Jvm.ClassFile.FieldType), Jvm.Cond.code ({ cls := "RankReassociator", name := "buildVersion1", desc := "()V" } : Jvm.MethodName) prog_1_method_25_code (2 : Nat) (Option.none : Option Jvm.ClassFile.FieldType), Jvm.Cond.code ({ cls := "RankReassociator", name := "undoHash", desc := "(I)V" } : Jvm.MethodName) prog_1_method_71_code (4 : Nat) (Option.none : Option Jvm.ClassFile.FieldType), Jvm.Cond.code ({ cls := "RankReassociator", name := "computeSetMasks", desc := "()V" } : Jvm.MethodName) prog_1_method_26_code (5 : Nat) (Option.none : Option Jvm.ClassFile.FieldType), Jvm.Cond.code ({ cls := "RankReassociator", name := "translate", desc := "(I)V" } : Jvm.MethodName) prog_1_method_27_code (4 : Nat) (Option.none : Option Jvm.ClassFile.FieldType), Jvm.Cond.code ({ cls := "RankReassociator", name := "buildValue", desc := "(I)I" } : Jvm.MethodName) prog_1_method_33_code (5 : Nat) (Option.some Jvm.ClassFile.FieldType.int), Jvm.Cond.code ({ cls := "RankReassociator", name := "makeConst", desc := "(I)I" } : Jvm.MethodName) prog_1_method_35_code (2 : Nat) (Option.some Jvm.ClassFile.FieldType.int), Jvm.Cond.code ({ cls := "RankReassociator", name := "makeLeaf", desc := "(IIII)I" } : Jvm.MethodName) prog_1_method_36_code (7 : Nat) (Option.some Jvm.ClassFile.FieldType.int), Jvm.Cond.code ({ cls := "RankReassociator", name := "lookup", desc := "(III)I" } : Jvm.MethodName) prog_1_method_69_code (7 : Nat) (Option.some Jvm.ClassFile.FieldType.int), Jvm.Cond.code ({ cls := "RankReassociator", name := "hashOf", desc := "(III)I" } : Jvm.MethodName) prog_1_method_68_code (5 : Nat) (Option.some Jvm.ClassFile.FieldType.int), Jvm.Cond.code ({ cls := "RankReassociator", name := "emit", desc := "(III)I" } : Jvm.MethodName) prog_1_method_31_code (5 : Nat) (Option.some Jvm.ClassFile.FieldType.int), Jvm.Cond.code ({ cls := "RankReassociator", name := "insert", desc := "(IIII)V" } : Jvm.MethodName) prog_1_method_70_code (6 : Nat) (Option.none : Option Jvm.ClassFile.FieldType), Jvm.Cond.code ({ cls := "RankReassociator", name := "setInput", desc := "(II)Z" } : Jvm.MethodName) prog_1_method_15_code (3 : Nat) (Option.some Jvm.ClassFile.FieldType.boolean), Jvm.Cond.code ({ cls := "RankReassociator", name := "isCompiled", desc := "()Z" } : Jvm.MethodName) prog_1_method_18_code (1 : Nat) (Option.some Jvm.ClassFile.FieldType.boolean), Jvm.Cond.code ({ cls := "RankReassociator", name := "input", desc := "(I)I" } : Jvm.MethodName) prog_1_method_16_code (2 : Nat) (Option.some Jvm.ClassFile.FieldType.int), Jvm.Cond.code ({ cls := "RankReassociator", name := "size", desc := "()I" } : Jvm.MethodName) prog_1_method_12_code (1 : Nat) (Option.some Jvm.ClassFile.FieldType.int), Jvm.Cond.code ({ cls := "RankReassociator", name := "instr", desc := "(II)I" } : Jvm.MethodName) prog_1_method_14_code (3 : Nat) (Option.some Jvm.ClassFile.FieldType.int)]
set_option maxRecDepth 65536 in
theorem codes_eq : words1.filter isCode = codes1 := rfl
theorem w_codes : ∀ c ∈ words1.filter isCode, c.before args0 about1 = true := by
  rw [codes_eq]
  intro c hc
  simp only [codes1, List.mem_cons, List.not_mem_nil, or_false] at hc
  rcases hc with rfl | rfl | rfl | rfl | rfl | rfl | rfl | rfl | rfl | rfl | rfl | rfl | rfl | rfl | rfl | rfl | rfl | rfl | rfl | rfl | rfl | rfl | rfl | rfl | rfl | rfl | rfl
  · exact w_c0
  · exact w_c1
  · exact w_c2
  · exact w_c3
  · exact w_c4
  · exact w_c5
  · exact w_c6
  · exact w_c7
  · exact w_c8
  · exact w_c9
  · exact w_c10
  · exact w_c11
  · exact w_c12
  · exact w_c13
  · exact w_c14
  · exact w_c15
  · exact w_c16
  · exact w_c17
  · exact w_c18
  · exact w_c19
  · exact w_c20
  · exact w_c21
  · exact w_c22
  · exact w_c23
  · exact w_c24
  · exact w_c25
  · exact w_c26
set_option maxRecDepth 65536 in
theorem w_t1 : (words1.take 24).all (fun c => isCode c || c.before args0 about1) = true := by decide +kernel
set_option maxRecDepth 65536 in
theorem w_t2 : ((words1.drop 24).take 24).all (fun c => isCode c || c.before args0 about1) = true := by decide +kernel
set_option maxRecDepth 65536 in
theorem w_t3 : (((words1.drop 24).drop 24).take 24).all (fun c => isCode c || c.before args0 about1) = true := by decide +kernel
set_option maxRecDepth 65536 in
theorem w_t4 : ((((words1.drop 24).drop 24).drop 24).take 24).all (fun c => isCode c || c.before args0 about1) = true := by decide +kernel
set_option maxRecDepth 65536 in
theorem w_t5 : (((((words1.drop 24).drop 24).drop 24).drop 24).take 24).all (fun c => isCode c || c.before args0 about1) = true := by decide +kernel
set_option maxRecDepth 65536 in
theorem w_t6 : ((((((words1.drop 24).drop 24).drop 24).drop 24).drop 24).take 24).all (fun c => isCode c || c.before args0 about1) = true := by decide +kernel
set_option maxRecDepth 65536 in
theorem w_t7 : (((((((words1.drop 24).drop 24).drop 24).drop 24).drop 24).drop 24).take 24).all (fun c => isCode c || c.before args0 about1) = true := by decide +kernel
set_option maxRecDepth 65536 in
theorem w_t8 : ((((((((words1.drop 24).drop 24).drop 24).drop 24).drop 24).drop 24).drop 24).take 24).all (fun c => isCode c || c.before args0 about1) = true := by decide +kernel
set_option maxRecDepth 65536 in
theorem w_t9 : ((((((((words1.drop 24).drop 24).drop 24).drop 24).drop 24).drop 24).drop 24).drop 24).all (fun c => isCode c || c.before args0 about1) = true := by decide +kernel
theorem w_tables : (allAtoms (Jvm.Cond.code x code maxLocals ret :: tables_1)).before args0 about1 = true := by
  rw [allAtoms_all]
  show words1.all (fun c => c.before args0 about1) = true
  refine all_split ?_ w_codes
  rw [← List.take_append_drop 24 words1, List.all_append, w_t1, ← List.take_append_drop 24 (words1.drop 24), List.all_append, w_t2, ← List.take_append_drop 24 ((words1.drop 24).drop 24), List.all_append, w_t3, ← List.take_append_drop 24 (((words1.drop 24).drop 24).drop 24), List.all_append, w_t4, ← List.take_append_drop 24 ((((words1.drop 24).drop 24).drop 24).drop 24), List.all_append, w_t5, ← List.take_append_drop 24 (((((words1.drop 24).drop 24).drop 24).drop 24).drop 24), List.all_append, w_t6, ← List.take_append_drop 24 ((((((words1.drop 24).drop 24).drop 24).drop 24).drop 24).drop 24), List.all_append, w_t7, ← List.take_append_drop 24 (((((((words1.drop 24).drop 24).drop 24).drop 24).drop 24).drop 24).drop 24), List.all_append, w_t8, w_t9]
  rfl
set_option maxRecDepth 65536 in
theorem w_case : (Jvm.Cond.and given_1 narrow_1).before args0 about1 = true := by decide +kernel
theorem w_applies : (headSpec (Jvm.Cond.code x code maxLocals ret :: tables_1) room_1).applies x e0.platform about1 = true :=
  (Spec.applies_iff w_frames).mpr ⟨w_running, w_runnable, w_alone, w_named, w_hears, w_ripe, w_room, w_tables⟩
theorem atStart : AtStart classFile x code maxLocals ret World_1 tables_1 room_1 Calls_1 rest_1 Pre_1 launch0 p0 e0 about1 theMethod args0 below0 :=
  ⟨lists_1, trivial, launch0.admits_env _ _ _, launch0.least_env, fairChoices_fair.cas, fairChoices_fair.clock, w_frames, w_args, w_heap, w_applies, trivial, trivial, w_case⟩
end start1
theorem witness_1 : WitnessClaimed_1 := ⟨start1.p0, start1.e0, start1.about1, start1.theMethod, start1.args0, start1.below0, start1.atStart⟩
end Jvm.Pilot.@@N@@
