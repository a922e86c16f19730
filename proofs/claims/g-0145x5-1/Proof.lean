import JvmDerived
import JvmDerived.Pilot.@@N@@Statement
import JvmDerived.Pilot.@@N@@Code
set_option linter.unusedVariables false
set_option linter.unusedSimpArgs false
namespace Jvm.Own
open Sem ClassFile Op Lib Jvm.Stand Jvm.Free Jvm.LawKit Jvm.RoadKit
/-! ## 1. Small heaps: a list of cells: an object of the one class (its fields in order), or an array (of booleans, of ints) -/
abbrev MCell := List Value ⊕ (Bool × List Int32)
abbrev MHeap := List MCell
abbrev Fd := String × String × FieldType
/-- start, its arguments, launch, the script's place, the heap's first length, the class, its fields, its slots -/
abbrev Ctx := State × Array Value × Launch × Option Nat × Nat × String × List Fd × Nat
abbrev gZ (G : Ctx) : State := G.1
abbrev gA (G : Ctx) : Array Value := G.2.1
abbrev gL (G : Ctx) : Launch := G.2.2.1
abbrev gS (G : Ctx) : Option Nat := G.2.2.2.1
abbrev gN (G : Ctx) : Nat := G.2.2.2.2.1
abbrev gC (G : Ctx) : String := G.2.2.2.2.2.1
abbrev gF (G : Ctx) : List Fd := G.2.2.2.2.2.2.1
abbrev gK (G : Ctx) : Nat := G.2.2.2.2.2.2.2
/-- a method: name, bytes, locals, result, frames and words that it needs -/
abbrev Mi := MethodName × ByteArray × Nat × Option FieldType × Nat × Nat
abbrev mN (M : Mi) : MethodName := M.1
abbrev mB (M : Mi) : ByteArray := M.2.1
abbrev mL (M : Mi) : Nat := M.2.2.1
abbrev mR (M : Mi) : Option FieldType := M.2.2.2.1
abbrev mF (M : Mi) : Nat := M.2.2.2.2.1
abbrev mW (M : Mi) : Nat := M.2.2.2.2.2
def rhoA (sa : Option Nat) (n0 i : Nat) : Nat := match sa with
  | none => n0 + i
  | some a => match i with
    | 0 => a
    | j + 1 => n0 + j
def k0A (sa : Option Nat) : Nat := match sa with
  | none => 0
  | some _ => 1
def rho (G : Ctx) (i : Nat) : Nat := rhoA (gS G) (gN G) i
def k0 (G : Ctx) : Nat := k0A (gS G)
def tr (G : Ctx) : Value → Value
  | .ref i => .ref (rho G i)
  | v => v
def trS (G : Ctx) : Slot → Slot
  | .val v => .val (tr G v)
  | s => s
theorem tr_cat (G : Ctx) (v : Value) : (tr G v).category = v.category := by cases v <;> rfl
theorem tr_cats (G : Ctx) (S : List Value) : ((S.map (tr G)).map fun v => v.category).sum = (S.map fun v => v.category).sum := by
  rw [List.map_map]
  congr 1
  exact List.map_congr_left fun v _ => tr_cat G v
def kd : Bool → FieldType
  | true => .boolean
  | false => .int
def CellAt (G : Ctx) (hr : Heap) (a : Nat) : MCell → Prop
  | .inl fs => Exa (gZ G) hr a (gC G) ∧ fs.length = (gF G).length ∧ ∀ (j : Nat) (n d : String) (ty : FieldType) (v : Value), (gF G)[j]? = some (n, d, ty) → fs[j]? = some v → Fld (gZ G) hr a (gC G) n d (tr G v)
  | .inr bx => ∃ c : Cell, Arr (gZ G) hr a c (kd bx.1) ∧ c.slots = (bx.2.map Value.int).toArray
def Rel (G : Ctx) (hr : Heap) (h : MHeap) : Prop :=
  hr.size + k0 G = gN G + h.length ∧ k0 G ≤ h.length ∧ (∀ a, gS G = some a → a < gN G) ∧ ∀ i c, h[i]? = some c → CellAt G hr (rho G i) c
/-- what the sheet says of the class -/
def GOk (G : Ctx) : Prop :=
  (∀ (j : Nat) (n d : String) (ty : FieldType), (gF G)[j]? = some (n, d, ty) → Laid (gZ G) (gA G) (gC G) (gC G) n d ∧ parseFieldDescriptor d = some ty) ∧
  (∀ (j j' : Nat) (f f' : Fd), (gF G)[j]? = some f → (gF G)[j']? = some f' → j ≠ j' → f.1 ≠ f'.1) ∧
  (Cond.instantiable (gC G) (gK G)).before (gA G) (gZ G) = true ∧ (Cond.initialized (gC G)).before (gA G) (gZ G) = true
theorem rhoA_inj {sa : Option Nat} {n0 i j : Nat} (h : ∀ a, sa = some a → a < n0) (e : rhoA sa n0 i = rhoA sa n0 j) : i = j := by
  cases sa with
  | none => simp only [rhoA] at e; omega
  | some a =>
    have := h a rfl
    cases i <;> cases j <;> simp only [rhoA] at e <;> omega
theorem rho_inj {G : Ctx} {i j : Nat} (h : ∀ a, gS G = some a → a < gN G) (e : rho G i = rho G j) : i = j := rhoA_inj h e
theorem rhoA_new {sa : Option Nat} {n0 i : Nat} (h : k0A sa ≤ i) : rhoA sa n0 i = n0 + (i - k0A sa) := by
  cases sa with
  | none => simp only [rhoA, k0A]; omega
  | some a =>
    cases i with
    | zero => simp only [k0A] at h; omega
    | succ j => simp only [rhoA, k0A]; omega
theorem rho_new {G : Ctx} {i : Nat} (h : k0 G ≤ i) : rho G i = gN G + (i - k0 G) := rhoA_new h
theorem rho_ge {G : Ctx} {i : Nat} (h : k0 G ≤ i) : gN G ≤ rho G i := by rw [rho_new h]; omega
theorem CellAt.other {G : Ctx} {hr hr' : Heap} {a b : Nat} {sl : Nat} {v : Value} (W : Wr hr hr' a sl v) (hne : b ≠ a) : ∀ {c : MCell}, CellAt G hr b c → CellAt G hr' b c
  | .inl _, ⟨h1, h2, h3⟩ => ⟨h1.wr W, h2, fun j n d ty v hf hv => Fld.other W (h3 j n d ty v hf hv) (Or.inl hne)⟩
  | .inr _, ⟨c, h1, h2⟩ => ⟨c, h1.other W hne, h2⟩
theorem CellAt.ext {G : Ctx} {hr hr' : Heap} {b : Nat} (E : Ext hr hr') : ∀ {c : MCell}, CellAt G hr b c → CellAt G hr' b c
  | .inl _, ⟨h1, h2, h3⟩ => ⟨h1.ext E, h2, fun j n d ty v hf hv => Fld.ext E (h3 j n d ty v hf hv)⟩
  | .inr _, ⟨c, h1, h2⟩ => ⟨c, h1.ext E, h2⟩
theorem Rel.push {G : Ctx} {hr hr' : Heap} {h : MHeap} {c : MCell} (R : Rel G hr h) (E : Ext hr hr') (hs : hr'.size = hr.size + 1) (hc : CellAt G hr' hr.size c) : Rel G hr' (h ++ [c]) := by
  obtain ⟨h1, h2, h3, h4⟩ := R
  refine ⟨by rw [List.length_append, List.length_singleton]; omega, by rw [List.length_append]; omega, h3, fun i c' hi => ?_⟩
  rcases Nat.lt_or_ge i h.length with q | q
  · rw [List.getElem?_append_left q] at hi
    exact (h4 i c' hi).ext E
  · have hi2 := hi
    rw [List.getElem?_append_right q] at hi2
    have : i - h.length = 0 := by
      rcases Nat.eq_zero_or_pos (i - h.length) with z | z
      · exact z
      · rw [List.getElem?_eq_none (by simp; omega)] at hi2; cases hi2
    have e : i = h.length := by omega
    subst e
    rw [Nat.sub_self] at hi2
    cases hi2
    have : rho G h.length = hr.size := by rw [rho_new h2]; omega
    rw [this]; exact hc
theorem Rel.wrArr {G : Ctx} {hr hr' : Heap} {h : MHeap} {i j : Nat} {b : Bool} {xs : List Int32} {x : Int32} (R : Rel G hr h) (hi : h[i]? = some (.inr (b, xs))) (W : Wr hr hr' (rho G i) j (.int x)) : Rel G hr' (h.set i (.inr (b, xs.set j x))) := by
  obtain ⟨h1, h2, h3, h4⟩ := R
  refine ⟨by rw [W.size, List.length_set]; exact h1, by rw [List.length_set]; exact h2, h3, fun k c' hk => ?_⟩
  by_cases e : i = k
  · subst e
    rw [List.getElem?_set_self (List.getElem?_eq_some_iff.mp hi).1] at hk
    cases hk
    obtain ⟨c, A, hs⟩ := h4 i _ hi
    refine ⟨c.setSlot j (.int x), A.same W, ?_⟩
    show c.slots.setIfInBounds j (.int x) = _
    rw [hs]
    simp [List.map_set]
  · rw [List.getElem?_set_ne e] at hk
    exact (h4 k c' hk).other W fun q => e (rho_inj h3 q).symm
theorem Rel.wrFld {G : Ctx} {hr hr' : Heap} {h : MHeap} {i j : Nat} {fs : List Value} {n d : String} {ty : FieldType} {v : Value} (R : Rel G hr h) (K : GOk G) (hi : h[i]? = some (.inl fs)) (hF : (gF G)[j]? = some (n, d, ty)) (W : Wr hr hr' (rho G i) (Jvm.RoadKit.slotOf (gZ G) (gC G) n d) (tr G v)) : Rel G hr' (h.set i (.inl (fs.set j v))) := by
  obtain ⟨h1, h2, h3, h4⟩ := R
  refine ⟨by rw [W.size, List.length_set]; exact h1, by rw [List.length_set]; exact h2, h3, fun k c' hk => ?_⟩
  by_cases e : i = k
  · subst e
    rw [List.getElem?_set_self (List.getElem?_eq_some_iff.mp hi).1] at hk
    cases hk
    obtain ⟨e1, e2, e3⟩ := h4 i _ hi
    refine ⟨e1.wr W, by rw [List.length_set]; exact e2, fun j' n' d' ty' v' hf' hv' => ?_⟩
    by_cases q : j = j'
    · subst q
      cases hF.symm.trans hf'
      have hlt : j < fs.length := by rw [e2]; exact (List.getElem?_eq_some_iff.mp hF).1
      rw [List.getElem?_set_self hlt] at hv'
      cases hv'
      obtain ⟨w, hw⟩ : ∃ w, fs[j]? = some w := ⟨_, List.getElem?_eq_getElem hlt⟩
      exact Fld.same W (e3 j n d ty w hF hw)
    · rw [List.getElem?_set_ne q] at hv'
      refine Fld.other W (e3 j' n' d' ty' v' hf' hv') (Or.inr ?_)
      exact slot_ne (K.1 j' n' d' ty' hf').1 (K.1 j n d ty hF).1 (K.2.1 j' j _ _ hf' hF (Ne.symm q)) (K.1 j' n' d' ty' hf').2 (K.1 j n d ty hF).2
  · rw [List.getElem?_set_ne e] at hk
    exact (h4 k c' hk).other W fun q => e (rho_inj h3 q).symm
def csl (k : Nat) : MCell → Nat
  | .inl _ => k
  | .inr bx => bx.2.length
def hsl (k : Nat) (h : MHeap) : Nat := (h.map (csl k)).sum
theorem hsl_push (k : Nat) (h : MHeap) (c : MCell) : hsl k (h ++ [c]) = hsl k h + csl k c := by simp [hsl]
theorem hsl_set (k : Nat) : ∀ (h : MHeap) (i : Nat) (c c' : MCell), h[i]? = some c → csl k c' = csl k c → hsl k (h.set i c') = hsl k h
  | [], _, _, _, h, _ => by simp at h
  | a :: t, 0, c, c', h, e => by simp at h; subst h; simp [hsl, e]
  | a :: t, i + 1, c, c', h, e => by
    have := hsl_set k t i c c' (by simpa using h) e
    simp only [hsl, List.set_cons_succ, List.map_cons, List.sum_cons] at this ⊢
    omega
/-! ## 2. Storing a local variable, on lists -/
def lsetAt (l : List Slot) (i : Nat) (x : Slot) : Option (List Slot) := if i < l.length then some (l.set i x) else none
def lstoreSelf (l : List Slot) (i : Nat) (v : Value) : Option (List Slot) :=
  match lsetAt l i (.val v) with
  | none => none
  | some l => if v.category = 2 then
      (match l[i + 1]? with
      | none => none
      | some (.val old) => if old.category = 2 then (match lsetAt l (i + 2) .unset with | none => none | some l2 => lsetAt l2 (i + 1) .second) else lsetAt l (i + 1) .second
      | some _ => lsetAt l (i + 1) .second)
    else some l
def mst (l : List Slot) (i : Nat) (v : Value) : Option (List Slot) :=
  match l[i]? with
  | none => none
  | some .second => (match lsetAt l (i - 1) .unset with | none => none | some l2 => lstoreSelf l2 i v)
  | some (.val old) => if old.category = 2 then (match lsetAt l (i + 1) .unset with | none => none | some l2 => lstoreSelf l2 i v) else lstoreSelf l i v
  | some .unset => lstoreSelf l i v
def arL (G : Ctx) (l : List Slot) : Array Slot := (l.map (trS G)).toArray
theorem setAt_map (G : Ctx) (l : List Slot) (i : Nat) (x : Slot) : setAt (arL G l) i (trS G x) = (lsetAt l i x).map (arL G) := by
  unfold setAt lsetAt arL
  by_cases h : i < l.length <;> simp [h, List.map_set]
theorem arL_get (G : Ctx) (l : List Slot) (i : Nat) : (arL G l)[i]? = (l[i]?).map (trS G) := by simp [arL]
theorem storeSelf_map (G : Ctx) (l : List Slot) (i : Nat) (v : Value) : storeSelf (arL G l) i (tr G v) = (lstoreSelf l i v).map (arL G) := by
  unfold storeSelf lstoreSelf
  have e := setAt_map G l i (.val v)
  simp only [trS] at e
  rw [e]
  cases h1 : lsetAt l i (.val v) with
  | none => rfl
  | some l1 =>
    simp only [Option.map_some, Option.bind_eq_bind, Option.bind_some, tr_cat]
    by_cases hc : v.category = 2
    · simp only [hc, if_true, arL_get]
      cases h2 : l1[i + 1]? with
      | none => rfl
      | some sl =>
        simp only [Option.map_some, Option.bind_some]
        have u2 := setAt_map G l1 (i + 2) .unset
        have s1 := setAt_map G l1 (i + 1) .second
        simp only [trS] at u2 s1
        cases sl with
        | unset => exact s1
        | second => exact s1
        | val old =>
          simp only [trS, tr_cat]
          by_cases hq : old.category = 2
          · simp only [hq, if_true, u2]
            cases h3 : lsetAt l1 (i + 2) .unset with
            | none => rfl
            | some l2 =>
              have s2 := setAt_map G l2 (i + 1) .second
              simp only [trS] at s2
              exact s2
          · simp only [hq, if_false]
            exact s1
    · simp only [hc, if_false]
      rfl
theorem mst_map (G : Ctx) (l : List Slot) (i : Nat) (v : Value) : storeLocals (arL G l) i (tr G v) = (mst l i v).map (arL G) := by
  unfold storeLocals mst
  simp only [arL_get]
  cases h1 : l[i]? with
  | none => rfl
  | some sl =>
    simp only [Option.map_some, Option.bind_eq_bind, Option.bind_some]
    have u1 := setAt_map G l (i - 1) .unset
    have u2 := setAt_map G l (i + 1) .unset
    simp only [trS] at u1 u2
    cases sl with
    | unset => exact storeSelf_map G l i v
    | second =>
      simp only [trS, u1]
      cases h3 : lsetAt l (i - 1) .unset with
      | none => rfl
      | some l2 => exact storeSelf_map G l2 i v
    | val old =>
      simp only [trS, tr_cat]
      by_cases hq : old.category = 2
      · simp only [hq, if_true, u2]
        cases h3 : lsetAt l (i + 1) .unset with
        | none => rfl
        | some l2 => exact storeSelf_map G l2 i v
      · simp only [hq, if_false]
        exact storeSelf_map G l i v
theorem lsetAt_len {l l' : List Slot} {i : Nat} {x : Slot} (h : lsetAt l i x = some l') : l'.length = l.length := by
  unfold lsetAt at h; split at h
  · cases h; simp
  · cases h
theorem lstoreSelf_len {l l' : List Slot} {i : Nat} {v : Value} (h : lstoreSelf l i v = some l') : l'.length = l.length := by
  unfold lstoreSelf at h
  split at h
  · cases h
  · rename_i l1 h1
    have e1 := lsetAt_len h1
    split at h
    · split at h
      · cases h
      · split at h
        · split at h
          · cases h
          · rename_i h2; rw [lsetAt_len h, lsetAt_len h2, e1]
        · rw [lsetAt_len h, e1]
      · rw [lsetAt_len h, e1]
    · cases h; exact e1
theorem mst_len {l l' : List Slot} {i : Nat} {v : Value} (h : mst l i v = some l') : l'.length = l.length := by
  unfold mst at h
  split at h
  · cases h
  · split at h
    · cases h
    · rename_i h2; rw [lstoreSelf_len h, lsetAt_len h2]
  · split at h
    · split at h
      · cases h
      · rename_i h2; rw [lstoreSelf_len h, lsetAt_len h2]
    · exact lstoreSelf_len h
  · exact lstoreSelf_len h
theorem st_of {G : Ctx} {l l' : List Slot} {i : Nat} {v : Value} (h : mst l i v = some l') : storeLocals (arL G l) i (tr G v) = some (arL G l') := by rw [mst_map, h]; rfl
theorem ld_of {G : Ctx} {l : List Slot} {i : Nat} {s : Slot} (h : l[i]? = some s) : (arL G l)[i]? = some (trS G s) := by rw [arL_get, h]; rfl
/-! ## 3. What a run of a body from a point does -/
def Ev (G : Ctx) (M : Mi) (pc : Nat) (L : List Slot) (S : List Value) (h : MHeap) (r : Option Value × MHeap) : Prop :=
  (h.length ≤ r.2.length ∧ hsl (gK G) h ≤ hsl (gK G) r.2) ∧
  ∀ (p : Program) (e : Env) (R : Room) (s : State) (m : MethodId) (args : Array Value) (below : List Frame) (meth : Method) (c : Code) (T : State) (locs : List Loc) (cells slots : Nat),
    Stand p (gL G) e R s m args below meth c T locs cells slots → p.tables.exec = Jvm.exec → (gZ G).Warmed39 s.vm → s.vm.findClass (mN M).cls = some m.cls →
    c.code = mB M → c.maxLocals = mL M → meth.sig.returnType = mR M → meth.name = (mN M).name → L.length = mL M → mF M ≤ R.frames → mW M ≤ R.locals →
    s.heap.size + cells = T.heap.size → Rel G T.heap h → Fr (gN G) locs → cells + (r.2.length - h.length) ≤ R.cells → slots + (hsl (gK G) r.2 - hsl (gK G) h) ≤ R.slots →
    ∃ T' locs', Stand p (gL G) e R s m args below meth c T' locs' (cells + (r.2.length - h.length)) (slots + (hsl (gK G) r.2 - hsl (gK G) h)) ∧ Rel G T'.heap r.2 ∧ Fr (gN G) locs' ∧
      ∀ fs, (∀ (f : JFrame) (acts : List Action), f.method = m → f.locked = none → f.entered = [] → (doReturn e (T'.setTop f) acts (r.1.map (tr G))).1 = T'.setFrames fs) →
        Steps p.tables e below (T.setTop (mkF m pc (arL G L) (S.map (tr G)))) (T'.setFrames fs)
/-- a whole call -/
def EvC (G : Ctx) (y : Mi) (args : List Value) (h : MHeap) (r : Option Value × MHeap) : Prop :=
  (h.length ≤ r.2.length ∧ hsl (gK G) h ≤ hsl (gK G) r.2) ∧
  ∀ (ws : List Jvm.Cond) (R : Room) (hr : Heap), mF y ≤ R.frames → mW y ≤ R.locals → r.2.length - h.length ≤ R.cells → hsl (gK G) r.2 - hsl (gK G) h ≤ R.slots → Rel G hr h →
    MetFree (gL G) (mN y) (head1 (Jvm.Cond.code (mN y) (mB y) (mL y) (mR y) :: ws) R) (fun a U => a = (args.map (tr G)).toArray ∧ (gZ G).Warmed39 U.vm ∧ U.heap = hr) (fun _ _ _ _ _ => True)
      (fun _ U o U' => ∃ v L, o = .returned v ∧ (v = r.1.map (tr G) ∧ Fr (gN G) L ∧ Rel G U'.heap r.2) ∧ FrameEnd U o U' L (r.2.length - h.length) (hsl (gK G) r.2 - hsl (gK G) h))
section Rules
variable {G : Ctx} {M : Mi} {pc : Nat} {L : List Slot} {S : List Value} {h : MHeap} {r : Option Value × MHeap}
theorem Ev.gen {pc' : Nat} {L' : List Slot} {S' : List Value} {h' : MHeap} (hm1 : h.length ≤ h'.length) (hm2 : hsl (gK G) h ≤ hsl (gK G) h') (hL : L'.length = L.length) (hn : Ev G M pc' L' S' h' r)
    (st : ∀ {p : Program} {e : Env} {R : Room} {s : State} {m : MethodId} {args : Array Value} {below : List Frame} {meth : Method} {c : Code} {T : State} {locs : List Loc} {cells slots : Nat},
      Stand p (gL G) e R s m args below meth c T locs cells slots → p.tables.exec = Jvm.exec → (gZ G).Warmed39 s.vm → s.vm.findClass (mN M).cls = some m.cls →
      c.code = mB M → c.maxLocals = mL M → meth.name = (mN M).name → L.length = mL M → mF M ≤ R.frames → mW M ≤ R.locals →
      s.heap.size + cells = T.heap.size → Rel G T.heap h → Fr (gN G) locs → cells + (h'.length - h.length) ≤ R.cells → slots + (hsl (gK G) h' - hsl (gK G) h) ≤ R.slots →
      ∃ T' locs', Stand p (gL G) e R s m args below meth c T' locs' (cells + (h'.length - h.length)) (slots + (hsl (gK G) h' - hsl (gK G) h)) ∧ Rel G T'.heap h' ∧ Fr (gN G) locs' ∧
        ∀ target, Steps p.tables e below (T'.setTop (mkF m pc' (arL G L') (S'.map (tr G)))) target → Steps p.tables e below (T.setTop (mkF m pc (arL G L) (S.map (tr G)))) target) :
    Ev G M pc L S h r := by
  obtain ⟨⟨g1, g2⟩, hn⟩ := hn
  refine ⟨⟨Nat.le_trans hm1 g1, Nat.le_trans hm2 g2⟩, ?_⟩
  intro p e R s m args below meth c T locs cells slots X hx hZ hown hby hml hret hnm hLm hfr hlo hsz hR hF hc hs
  obtain ⟨T1, locs1, X1, R1, F1, st1⟩ := st X hx hZ hown hby hml hnm hLm hfr hlo hsz hR hF (by omega) (by omega)
  have hsz1 : s.heap.size + (cells + (h'.length - h.length)) = T1.heap.size := by
    have a1 := hR.1
    have a2 := R1.1
    omega
  obtain ⟨T2, locs2, X2, R2, F2, st2⟩ := hn p e R s m args below meth c T1 locs1 _ _ X1 hx hZ hown hby hml hret hnm (hL.trans hLm) hfr hlo hsz1 R1 F1 (by omega) (by omega)
  refine ⟨T2, locs2, ?_, R2, F2, fun fs hl => st1 _ (st2 fs hl)⟩
  have e1 : cells + (h'.length - h.length) + (r.2.length - h'.length) = cells + (r.2.length - h.length) := by omega
  have e2 : slots + (hsl (gK G) h' - hsl (gK G) h) + (hsl (gK G) r.2 - hsl (gK G) h') = slots + (hsl (gK G) r.2 - hsl (gK G) h) := by omega
  rw [e1, e2] at X2
  exact X2
/-- a step that leaves the heap -/
theorem Ev.same {pc' : Nat} {L' : List Slot} {S' : List Value} (hL : L'.length = L.length) (hn : Ev G M pc' L' S' h r)
    (st : ∀ {p : Program} {e : Env} {R : Room} {s : State} {m : MethodId} {args : Array Value} {below : List Frame} {meth : Method} {c : Code} {T : State} {locs : List Loc} {cells slots : Nat},
      Stand p (gL G) e R s m args below meth c T locs cells slots → p.tables.exec = Jvm.exec → (gZ G).Warmed39 s.vm → s.vm.findClass (mN M).cls = some m.cls →
      c.code = mB M → c.maxLocals = mL M → L.length = mL M → mF M ≤ R.frames → mW M ≤ R.locals → Rel G T.heap h →
      ∃ T', Stand p (gL G) e R s m args below meth c T' locs cells slots ∧ T'.heap = T.heap ∧
        ∀ target, Steps p.tables e below (T'.setTop (mkF m pc' (arL G L') (S'.map (tr G)))) target → Steps p.tables e below (T.setTop (mkF m pc (arL G L) (S.map (tr G)))) target) :
    Ev G M pc L S h r := by
  refine Ev.gen (Nat.le_refl _) (Nat.le_refl _) hL hn ?_
  intro p e R s m args below meth c T locs cells slots X hx hZ hown hby hml hnm hLm hfr hlo hsz hR hF hc hs
  obtain ⟨T', X', e', st'⟩ := st X hx hZ hown hby hml hLm hfr hlo hR
  refine ⟨T', locs, ?_, by rw [e']; exact hR, hF, st'⟩
  rw [Nat.sub_self, Nat.sub_self, Nat.add_zero, Nat.add_zero]
  exact X'
/-- a step that leaves all but the frame -/
theorem Ev.pure {pc' : Nat} {L' : List Slot} {S' : List Value} (hL : L'.length = L.length) (hn : Ev G M pc' L' S' h r)
    (st : ∀ {p : Program} {e : Env} {R : Room} {s : State} {m : MethodId} {args : Array Value} {below : List Frame} {meth : Method} {c : Code} {T : State} {locs : List Loc} {cells slots : Nat},
      Stand p (gL G) e R s m args below meth c T locs cells slots → p.tables.exec = Jvm.exec → (gZ G).Warmed39 s.vm → s.vm.findClass (mN M).cls = some m.cls →
      c.code = mB M → ∀ target, Steps p.tables e below (T.setTop (mkF m pc' (arL G L') (S'.map (tr G)))) target → Steps p.tables e below (T.setTop (mkF m pc (arL G L) (S.map (tr G)))) target) :
    Ev G M pc L S h r :=
  Ev.same hL hn fun {p e R s m args below meth c T locs cells slots} X hx hZ hown hby hml hLm hfr hlo hR => ⟨T, X, rfl, st X hx hZ hown hby⟩
/-! ### loads, stores, constants -/
theorem Ev.iload {k : Nat} {v : Int32} (hd : decode (mB M) pc = .ok (.iload k, 2)) (hl : L[k]? = some (.val (.int v))) (hn : Ev G M (pc + 2) L (.int v :: S) h r) : Ev G M pc L S h r :=
  Ev.pure rfl hn fun {_ _ _ _ m _ _ _ _ _ _ _ _} X hx hZ hown hby target q => XS.iload (g := mkF m pc (arL G L) (List.map (tr G) S)) X.here hx rfl (hb hby hd) (ld_of hl) q
theorem Ev.iloadN {k : Fin 4} {v : Int32} (hd : decode (mB M) pc = .ok (.iload_n k, 1)) (hl : L[k.val]? = some (.val (.int v))) (hn : Ev G M (pc + 1) L (.int v :: S) h r) : Ev G M pc L S h r :=
  Ev.pure rfl hn fun {_ _ _ _ m _ _ _ _ _ _ _ _} X hx hZ hown hby target q => XS.iloadN (g := mkF m pc (arL G L) (List.map (tr G) S)) X.here hx rfl (hb hby hd) (ld_of hl) q
theorem Ev.aload {k : Nat} {v : Nat} (hd : decode (mB M) pc = .ok (.aload k, 2)) (hl : L[k]? = some (.val (.ref v))) (hn : Ev G M (pc + 2) L (.ref v :: S) h r) : Ev G M pc L S h r :=
  Ev.pure rfl hn fun {_ _ _ _ m _ _ _ _ _ _ _ _} X hx hZ hown hby target q => XS.aload (g := mkF m pc (arL G L) (List.map (tr G) S)) X.here hx rfl (hb hby hd) (ld_of hl) rfl q
theorem Ev.aloadN {k : Fin 4} {v : Nat} (hd : decode (mB M) pc = .ok (.aload_n k, 1)) (hl : L[k.val]? = some (.val (.ref v))) (hn : Ev G M (pc + 1) L (.ref v :: S) h r) : Ev G M pc L S h r :=
  Ev.pure rfl hn fun {_ _ _ _ m _ _ _ _ _ _ _ _} X hx hZ hown hby target q => XS.aloadN (g := mkF m pc (arL G L) (List.map (tr G) S)) X.here hx rfl (hb hby hd) (ld_of hl) rfl q
theorem Ev.lload {k : Nat} {v : Int64} (hd : decode (mB M) pc = .ok (.lload k, 2)) (hl : L[k]? = some (.val (.long v))) (hn : Ev G M (pc + 2) L (.long v :: S) h r) : Ev G M pc L S h r :=
  Ev.pure rfl hn fun {_ _ _ _ m _ _ _ _ _ _ _ _} X hx hZ hown hby target q => XT.lload (g := mkF m pc (arL G L) (List.map (tr G) S)) X.here hx rfl (hb hby hd) (ld_of hl) q
theorem Ev.lloadN {k : Fin 4} {v : Int64} (hd : decode (mB M) pc = .ok (.lload_n k, 1)) (hl : L[k.val]? = some (.val (.long v))) (hn : Ev G M (pc + 1) L (.long v :: S) h r) : Ev G M pc L S h r :=
  Ev.pure rfl hn fun {_ _ _ _ m _ _ _ _ _ _ _ _} X hx hZ hown hby target q => XT.lloadN (g := mkF m pc (arL G L) (List.map (tr G) S)) X.here hx rfl (hb hby hd) (ld_of hl) q
theorem Ev.istore {k : Nat} {v : Int32} {L' : List Slot} (hd : decode (mB M) pc = .ok (.istore k, 2)) (hl : mst L k (.int v) = some L') (hn : Ev G M (pc + 2) L' S h r) : Ev G M pc L (.int v :: S) h r :=
  Ev.pure (mst_len hl) hn fun {_ _ _ _ m _ _ _ _ _ _ _ _} X hx hZ hown hby target q => XS.istore (g := mkF m pc (arL G L) (List.map (tr G) (Value.int v :: S))) X.here hx rfl (hb hby hd) rfl (st_of hl) q
theorem Ev.istoreN {k : Fin 4} {v : Int32} {L' : List Slot} (hd : decode (mB M) pc = .ok (.istore_n k, 1)) (hl : mst L k.val (.int v) = some L') (hn : Ev G M (pc + 1) L' S h r) : Ev G M pc L (.int v :: S) h r :=
  Ev.pure (mst_len hl) hn fun {_ _ _ _ m _ _ _ _ _ _ _ _} X hx hZ hown hby target q => XS.istoreN (g := mkF m pc (arL G L) (List.map (tr G) (Value.int v :: S))) X.here hx rfl (hb hby hd) rfl (st_of hl) q
theorem Ev.astore {k v : Nat} {L' : List Slot} (hd : decode (mB M) pc = .ok (.astore k, 2)) (hl : mst L k (.ref v) = some L') (hn : Ev G M (pc + 2) L' S h r) : Ev G M pc L (.ref v :: S) h r :=
  Ev.pure (mst_len hl) hn fun {_ _ _ _ m _ _ _ _ _ _ _ _} X hx hZ hown hby target q => XS.astore (g := mkF m pc (arL G L) (List.map (tr G) (Value.ref v :: S))) X.here hx rfl (hb hby hd) rfl rfl (st_of hl) q
theorem Ev.astoreN {k : Fin 4} {v : Nat} {L' : List Slot} (hd : decode (mB M) pc = .ok (.astore_n k, 1)) (hl : mst L k.val (.ref v) = some L') (hn : Ev G M (pc + 1) L' S h r) : Ev G M pc L (.ref v :: S) h r :=
  Ev.pure (mst_len hl) hn fun {_ _ _ _ m _ _ _ _ _ _ _ _} X hx hZ hown hby target q => XS.astoreN (g := mkF m pc (arL G L) (List.map (tr G) (Value.ref v :: S))) X.here hx rfl (hb hby hd) rfl rfl (st_of hl) q
theorem Ev.lstore {k : Nat} {v : Int64} {L' : List Slot} (hd : decode (mB M) pc = .ok (.lstore k, 2)) (hl : mst L k (.long v) = some L') (hn : Ev G M (pc + 2) L' S h r) : Ev G M pc L (.long v :: S) h r :=
  Ev.pure (mst_len hl) hn fun {_ _ _ _ m _ _ _ _ _ _ _ _} X hx hZ hown hby target q => XT.lstore (g := mkF m pc (arL G L) (List.map (tr G) (Value.long v :: S))) X.here hx rfl (hb hby hd) rfl (st_of hl) q
theorem Ev.lstoreN {k : Fin 4} {v : Int64} {L' : List Slot} (hd : decode (mB M) pc = .ok (.lstore_n k, 1)) (hl : mst L k.val (.long v) = some L') (hn : Ev G M (pc + 1) L' S h r) : Ev G M pc L (.long v :: S) h r :=
  Ev.pure (mst_len hl) hn fun {_ _ _ _ m _ _ _ _ _ _ _ _} X hx hZ hown hby target q => XT.lstoreN (g := mkF m pc (arL G L) (List.map (tr G) (Value.long v :: S))) X.here hx rfl (hb hby hd) rfl (st_of hl) q
theorem Ev.iconst {i : Int} {z : Int32} (hd : decode (mB M) pc = .ok (.iconst i, 1)) (hz : Int32.ofInt i = z) (hn : Ev G M (pc + 1) L (.int z :: S) h r) : Ev G M pc L S h r :=
  Ev.pure rfl (hz ▸ hn) fun {_ _ _ _ m _ _ _ _ _ _ _ _} X hx hZ hown hby target q => XS.iconst (g := mkF m pc (arL G L) (List.map (tr G) S)) X.here hx rfl (hb hby hd) q
theorem Ev.bipush {i : Int} {z : Int32} (hd : decode (mB M) pc = .ok (.bipush i, 2)) (hz : (Int8.ofInt i).toInt32 = z) (hn : Ev G M (pc + 2) L (.int z :: S) h r) : Ev G M pc L S h r :=
  Ev.pure rfl (hz ▸ hn) fun {_ _ _ _ m _ _ _ _ _ _ _ _} X hx hZ hown hby target q => XS.bipush (g := mkF m pc (arL G L) (List.map (tr G) S)) X.here hx rfl (hb hby hd) q
theorem Ev.sipush {i : Int} {z : Int32} (hd : decode (mB M) pc = .ok (.sipush i, 3)) (hz : (Int16.ofInt i).toInt32 = z) (hn : Ev G M (pc + 3) L (.int z :: S) h r) : Ev G M pc L S h r :=
  Ev.pure rfl (hz ▸ hn) fun {_ _ _ _ m _ _ _ _ _ _ _ _} X hx hZ hown hby target q => XS.sipush (g := mkF m pc (arL G L) (List.map (tr G) S)) X.here hx rfl (hb hby hd) q
theorem Ev.lconst {k : Fin 2} {z : Int64} (hd : decode (mB M) pc = .ok (.lconst k, 1)) (hz : Int64.ofNat k = z) (hn : Ev G M (pc + 1) L (.long z :: S) h r) : Ev G M pc L S h r :=
  Ev.pure rfl (hz ▸ hn) fun {_ _ _ _ m _ _ _ _ _ _ _ _} X hx hZ hown hby target q => XT.lconst (g := mkF m pc (arL G L) (List.map (tr G) S)) X.here hx rfl (hb hby hd) q
theorem Ev.ldc {k : Nat} {v : Int32} (w : (Jvm.Cond.constant (mN M).cls k v).before (gA G) (gZ G) = true) (hd : decode (mB M) pc = .ok (.ldc k, 2)) (hn : Ev G M (pc + 2) L (.int v :: S) h r) : Ev G M pc L S h r :=
  Ev.pure rfl hn fun {_ _ _ _ m _ _ _ _ _ _ _ _} X hx hZ hown hby target q => X.ldcInt hx hown (mvT hZ w) (g := mkF m pc (arL G L) (List.map (tr G) S)) rfl (hb hby hd) target q
theorem Ev.ldcW {k : Nat} {v : Int32} (w : (Jvm.Cond.constant (mN M).cls k v).before (gA G) (gZ G) = true) (hd : decode (mB M) pc = .ok (.ldc_w k, 3)) (hn : Ev G M (pc + 3) L (.int v :: S) h r) : Ev G M pc L S h r :=
  Ev.pure rfl hn fun {_ _ _ _ m _ _ _ _ _ _ _ _} X hx hZ hown hby target q => X.ldcwInt hx hown (mvT hZ w) (g := mkF m pc (arL G L) (List.map (tr G) S)) rfl (hb hby hd) target q
theorem Ev.ldcL {k : Nat} {v : Int64} (w : (Jvm.Cond.constantLong (mN M).cls k v).before (gA G) (gZ G) = true) (hd : decode (mB M) pc = .ok (.ldc2_w k, 3)) (hn : Ev G M (pc + 3) L (.long v :: S) h r) : Ev G M pc L S h r :=
  Ev.pure rfl hn fun {_ _ _ _ m _ _ _ _ _ _ _ _} X hx hZ hown hby target q => X.ldc2Long hx hown (mvT hZ w) (g := mkF m pc (arL G L) (List.map (tr G) S)) rfl (hb hby hd) target q
/-! ### reckoning -/
theorem Ev.iadd {x y : Int32} (hd : decode (mB M) pc = .ok (.iadd, 1)) (hn : Ev G M (pc + 1) L (.int (x + y) :: S) h r) : Ev G M pc L (.int y :: .int x :: S) h r :=
  Ev.pure rfl hn fun {_ _ _ _ m _ _ _ _ _ _ _ _} X hx hZ hown hby target q => XS.iadd (g := mkF m pc (arL G L) (List.map (tr G) (Value.int y :: Value.int x :: S))) X.here hx rfl (hb hby hd) rfl q
theorem Ev.isub {x y : Int32} (hd : decode (mB M) pc = .ok (.isub, 1)) (hn : Ev G M (pc + 1) L (.int (x - y) :: S) h r) : Ev G M pc L (.int y :: .int x :: S) h r :=
  Ev.pure rfl hn fun {_ _ _ _ m _ _ _ _ _ _ _ _} X hx hZ hown hby target q => XS.isub (g := mkF m pc (arL G L) (List.map (tr G) (Value.int y :: Value.int x :: S))) X.here hx rfl (hb hby hd) rfl q
theorem Ev.imul {x y : Int32} (hd : decode (mB M) pc = .ok (.imul, 1)) (hn : Ev G M (pc + 1) L (.int (x * y) :: S) h r) : Ev G M pc L (.int y :: .int x :: S) h r :=
  Ev.pure rfl hn fun {_ _ _ _ m _ _ _ _ _ _ _ _} X hx hZ hown hby target q => XS.imul (g := mkF m pc (arL G L) (List.map (tr G) (Value.int y :: Value.int x :: S))) X.here hx rfl (hb hby hd) rfl q
theorem Ev.idiv {x y : Int32} (hd : decode (mB M) pc = .ok (.idiv, 1)) (hy : y ≠ 0) (hn : Ev G M (pc + 1) L (.int (x / y) :: S) h r) : Ev G M pc L (.int y :: .int x :: S) h r :=
  Ev.pure rfl hn fun {_ _ _ _ m _ _ _ _ _ _ _ _} X hx hZ hown hby target q => XS.idiv (g := mkF m pc (arL G L) (List.map (tr G) (Value.int y :: Value.int x :: S))) X.here hx rfl (hb hby hd) rfl hy q
theorem Ev.irem {x y : Int32} (hd : decode (mB M) pc = .ok (.irem, 1)) (hy : y ≠ 0) (hn : Ev G M (pc + 1) L (.int (x % y) :: S) h r) : Ev G M pc L (.int y :: .int x :: S) h r :=
  Ev.pure rfl hn fun {_ _ _ _ m _ _ _ _ _ _ _ _} X hx hZ hown hby target q => iremM (g := mkF m pc (arL G L) (List.map (tr G) (Value.int y :: Value.int x :: S))) X hx rfl (hb hby hd) rfl hy q
theorem Ev.ineg {x : Int32} (hd : decode (mB M) pc = .ok (.ineg, 1)) (hn : Ev G M (pc + 1) L (.int (-x) :: S) h r) : Ev G M pc L (.int x :: S) h r :=
  Ev.pure rfl hn fun {_ _ _ _ m _ _ _ _ _ _ _ _} X hx hZ hown hby target q => XS.ineg (g := mkF m pc (arL G L) (List.map (tr G) (Value.int x :: S))) X.here hx rfl (hb hby hd) rfl q
theorem Ev.iand {x y : Int32} (hd : decode (mB M) pc = .ok (.iand, 1)) (hn : Ev G M (pc + 1) L (.int (x &&& y) :: S) h r) : Ev G M pc L (.int y :: .int x :: S) h r :=
  Ev.pure rfl hn fun {_ _ _ _ m _ _ _ _ _ _ _ _} X hx hZ hown hby target q => XS.iand (g := mkF m pc (arL G L) (List.map (tr G) (Value.int y :: Value.int x :: S))) X.here hx rfl (hb hby hd) rfl q
theorem Ev.ior {x y : Int32} (hd : decode (mB M) pc = .ok (.ior, 1)) (hn : Ev G M (pc + 1) L (.int (x ||| y) :: S) h r) : Ev G M pc L (.int y :: .int x :: S) h r :=
  Ev.pure rfl hn fun {_ _ _ _ m _ _ _ _ _ _ _ _} X hx hZ hown hby target q => XT.ior (g := mkF m pc (arL G L) (List.map (tr G) (Value.int y :: Value.int x :: S))) X.here hx rfl (hb hby hd) rfl q
theorem Ev.ixor {x y : Int32} (hd : decode (mB M) pc = .ok (.ixor, 1)) (hn : Ev G M (pc + 1) L (.int (x ^^^ y) :: S) h r) : Ev G M pc L (.int y :: .int x :: S) h r :=
  Ev.pure rfl hn fun {_ _ _ _ m _ _ _ _ _ _ _ _} X hx hZ hown hby target q => XT.ixor (g := mkF m pc (arL G L) (List.map (tr G) (Value.int y :: Value.int x :: S))) X.here hx rfl (hb hby hd) rfl q
theorem Ev.ishl {x y : Int32} (hd : decode (mB M) pc = .ok (.ishl, 1)) (hn : Ev G M (pc + 1) L (.int (x <<< (y &&& 31)) :: S) h r) : Ev G M pc L (.int y :: .int x :: S) h r :=
  Ev.pure rfl hn fun {_ _ _ _ m _ _ _ _ _ _ _ _} X hx hZ hown hby target q => XT.ishl (g := mkF m pc (arL G L) (List.map (tr G) (Value.int y :: Value.int x :: S))) X.here hx rfl (hb hby hd) rfl q
theorem Ev.ishr {x y : Int32} (hd : decode (mB M) pc = .ok (.ishr, 1)) (hn : Ev G M (pc + 1) L (.int (x >>> (y &&& 31)) :: S) h r) : Ev G M pc L (.int y :: .int x :: S) h r :=
  Ev.pure rfl hn fun {_ _ _ _ m _ _ _ _ _ _ _ _} X hx hZ hown hby target q => XT.ishr (g := mkF m pc (arL G L) (List.map (tr G) (Value.int y :: Value.int x :: S))) X.here hx rfl (hb hby hd) rfl q
theorem Ev.iushr {x y : Int32} (hd : decode (mB M) pc = .ok (.iushr, 1)) (hn : Ev G M (pc + 1) L (.int (XT.ushr x y) :: S) h r) : Ev G M pc L (.int y :: .int x :: S) h r :=
  Ev.pure rfl hn fun {_ _ _ _ m _ _ _ _ _ _ _ _} X hx hZ hown hby target q => XT.iushr (g := mkF m pc (arL G L) (List.map (tr G) (Value.int y :: Value.int x :: S))) X.here hx rfl (hb hby hd) rfl q
theorem Ev.ladd {x y : Int64} (hd : decode (mB M) pc = .ok (.ladd, 1)) (hn : Ev G M (pc + 1) L (.long (x + y) :: S) h r) : Ev G M pc L (.long y :: .long x :: S) h r :=
  Ev.pure rfl hn fun {_ _ _ _ m _ _ _ _ _ _ _ _} X hx hZ hown hby target q => XT.ladd (g := mkF m pc (arL G L) (List.map (tr G) (Value.long y :: Value.long x :: S))) X.here hx rfl (hb hby hd) rfl q
theorem Ev.lsub {x y : Int64} (hd : decode (mB M) pc = .ok (.lsub, 1)) (hn : Ev G M (pc + 1) L (.long (x - y) :: S) h r) : Ev G M pc L (.long y :: .long x :: S) h r :=
  Ev.pure rfl hn fun {_ _ _ _ m _ _ _ _ _ _ _ _} X hx hZ hown hby target q => XT.lsub (g := mkF m pc (arL G L) (List.map (tr G) (Value.long y :: Value.long x :: S))) X.here hx rfl (hb hby hd) rfl q
theorem Ev.lmul {x y : Int64} (hd : decode (mB M) pc = .ok (.lmul, 1)) (hn : Ev G M (pc + 1) L (.long (x * y) :: S) h r) : Ev G M pc L (.long y :: .long x :: S) h r :=
  Ev.pure rfl hn fun {_ _ _ _ m _ _ _ _ _ _ _ _} X hx hZ hown hby target q => XT.lmul (g := mkF m pc (arL G L) (List.map (tr G) (Value.long y :: Value.long x :: S))) X.here hx rfl (hb hby hd) rfl q
theorem Ev.ldiv {x y : Int64} (hd : decode (mB M) pc = .ok (.ldiv, 1)) (hy : y ≠ 0) (hn : Ev G M (pc + 1) L (.long (x / y) :: S) h r) : Ev G M pc L (.long y :: .long x :: S) h r :=
  Ev.pure rfl hn fun {_ _ _ _ m _ _ _ _ _ _ _ _} X hx hZ hown hby target q => XT.ldiv (g := mkF m pc (arL G L) (List.map (tr G) (Value.long y :: Value.long x :: S))) X.here hx rfl (hb hby hd) rfl hy q
theorem Ev.lneg {x : Int64} (hd : decode (mB M) pc = .ok (.lneg, 1)) (hn : Ev G M (pc + 1) L (.long (-x) :: S) h r) : Ev G M pc L (.long x :: S) h r :=
  Ev.pure rfl hn fun {_ _ _ _ m _ _ _ _ _ _ _ _} X hx hZ hown hby target q => XT.lneg (g := mkF m pc (arL G L) (List.map (tr G) (Value.long x :: S))) X.here hx rfl (hb hby hd) rfl q
theorem Ev.land {x y : Int64} (hd : decode (mB M) pc = .ok (.land, 1)) (hn : Ev G M (pc + 1) L (.long (x &&& y) :: S) h r) : Ev G M pc L (.long y :: .long x :: S) h r :=
  Ev.pure rfl hn fun {_ _ _ _ m _ _ _ _ _ _ _ _} X hx hZ hown hby target q => XT.land (g := mkF m pc (arL G L) (List.map (tr G) (Value.long y :: Value.long x :: S))) X.here hx rfl (hb hby hd) rfl q
theorem Ev.lor {x y : Int64} (hd : decode (mB M) pc = .ok (.lor, 1)) (hn : Ev G M (pc + 1) L (.long (x ||| y) :: S) h r) : Ev G M pc L (.long y :: .long x :: S) h r :=
  Ev.pure rfl hn fun {_ _ _ _ m _ _ _ _ _ _ _ _} X hx hZ hown hby target q => XT.lor (g := mkF m pc (arL G L) (List.map (tr G) (Value.long y :: Value.long x :: S))) X.here hx rfl (hb hby hd) rfl q
theorem Ev.lxor {x y : Int64} (hd : decode (mB M) pc = .ok (.lxor, 1)) (hn : Ev G M (pc + 1) L (.long (x ^^^ y) :: S) h r) : Ev G M pc L (.long y :: .long x :: S) h r :=
  Ev.pure rfl hn fun {_ _ _ _ m _ _ _ _ _ _ _ _} X hx hZ hown hby target q => XT.lxor (g := mkF m pc (arL G L) (List.map (tr G) (Value.long y :: Value.long x :: S))) X.here hx rfl (hb hby hd) rfl q
theorem Ev.lshl {x : Int64} {y : Int32} (hd : decode (mB M) pc = .ok (.lshl, 1)) (hn : Ev G M (pc + 1) L (.long (x <<< (y.toInt64 &&& 63)) :: S) h r) : Ev G M pc L (.int y :: .long x :: S) h r :=
  Ev.pure rfl hn fun {_ _ _ _ m _ _ _ _ _ _ _ _} X hx hZ hown hby target q => XT.lshl (g := mkF m pc (arL G L) (List.map (tr G) (Value.int y :: Value.long x :: S))) X.here hx rfl (hb hby hd) rfl q
theorem Ev.lushr {x : Int64} {y : Int32} (hd : decode (mB M) pc = .ok (.lushr, 1)) (hn : Ev G M (pc + 1) L (.long (XT.ushrL x y) :: S) h r) : Ev G M pc L (.int y :: .long x :: S) h r :=
  Ev.pure rfl hn fun {_ _ _ _ m _ _ _ _ _ _ _ _} X hx hZ hown hby target q => XT.lushr (g := mkF m pc (arL G L) (List.map (tr G) (Value.int y :: Value.long x :: S))) X.here hx rfl (hb hby hd) rfl q
theorem Ev.lcmp {x y : Int64} (hd : decode (mB M) pc = .ok (.lcmp, 1)) (hn : Ev G M (pc + 1) L (.int (XT.cmpL x y) :: S) h r) : Ev G M pc L (.long y :: .long x :: S) h r :=
  Ev.pure rfl hn fun {_ _ _ _ m _ _ _ _ _ _ _ _} X hx hZ hown hby target q => XT.lcmp (g := mkF m pc (arL G L) (List.map (tr G) (Value.long y :: Value.long x :: S))) X.here hx rfl (hb hby hd) rfl q
theorem Ev.i2l {x : Int32} (hd : decode (mB M) pc = .ok (.i2l, 1)) (hn : Ev G M (pc + 1) L (.long x.toInt64 :: S) h r) : Ev G M pc L (.int x :: S) h r :=
  Ev.pure rfl hn fun {_ _ _ _ m _ _ _ _ _ _ _ _} X hx hZ hown hby target q => XT.i2l (g := mkF m pc (arL G L) (List.map (tr G) (Value.int x :: S))) X.here hx rfl (hb hby hd) rfl q
theorem Ev.l2i {x : Int64} (hd : decode (mB M) pc = .ok (.l2i, 1)) (hn : Ev G M (pc + 1) L (.int x.toInt32 :: S) h r) : Ev G M pc L (.long x :: S) h r :=
  Ev.pure rfl hn fun {_ _ _ _ m _ _ _ _ _ _ _ _} X hx hZ hown hby target q => XT.l2i (g := mkF m pc (arL G L) (List.map (tr G) (Value.long x :: S))) X.here hx rfl (hb hby hd) rfl q
theorem Ev.i2b {x : Int32} (hd : decode (mB M) pc = .ok (.i2b, 1)) (hn : Ev G M (pc + 1) L (.int x.toInt8.toInt32 :: S) h r) : Ev G M pc L (.int x :: S) h r :=
  Ev.pure rfl hn fun {_ _ _ _ m _ _ _ _ _ _ _ _} X hx hZ hown hby target q => XT.i2b (g := mkF m pc (arL G L) (List.map (tr G) (Value.int x :: S))) X.here hx rfl (hb hby hd) rfl q
theorem Ev.iinc {k : Nat} {i : Int} {x z : Int32} {L' : List Slot} (hd : decode (mB M) pc = .ok (.iinc k i, 3)) (hl : L[k]? = some (.val (.int x))) (hz : Int32.ofInt i = z) (hl' : mst L k (.int (x + z)) = some L') (hn : Ev G M (pc + 3) L' S h r) : Ev G M pc L S h r :=
  Ev.pure (mst_len hl') hn fun {_ _ _ _ m _ _ _ _ _ _ _ _} X hx hZ hown hby target q => XS.iinc (g := mkF m pc (arL G L) (List.map (tr G) S)) X.here hx rfl (hb hby hd) (ld_of hl) (by rw [hz]; exact st_of hl') q
theorem iincW {tb : Tables} [Ours tb] {e : Env} {below : List Frame} {T target : State} {m : MethodId} {c : Code} {g : JFrame} (h : At T m c below) (hx : tb.exec = Jvm.exec) (hg : g.method = m) {k : Nat} {cst : Int} {x : Int32} {l' : Array Slot} (hd : decode c.code g.pc = .ok (.iinc k cst, 6)) (hl : g.locals[k]? = some (.val (.int x))) (hl' : storeLocals g.locals k (.int (x + Int32.ofInt cst)) = some l')
    (hr : Steps tb e below (T.setTop { g with pc := g.pc + 6, locals := l' }) target) : Steps tb e below (T.setTop g) target := by
  subst hg
  jvm_step h [h.top, hx, hd, hl, hl']
  exact hr
theorem Ev.iincW {k : Nat} {i : Int} {x z : Int32} {L' : List Slot} (hd : decode (mB M) pc = .ok (.iinc k i, 6)) (hl : L[k]? = some (.val (.int x))) (hz : Int32.ofInt i = z) (hl' : mst L k (.int (x + z)) = some L') (hn : Ev G M (pc + 6) L' S h r) : Ev G M pc L S h r :=
  Ev.pure (mst_len hl') hn fun {_ _ _ _ m _ _ _ _ _ _ _ _} X hx hZ hown hby target q => Own.iincW (g := mkF m pc (arL G L) (List.map (tr G) S)) X.here hx rfl (hb hby hd) (ld_of hl) (by rw [hz]; exact st_of hl') q
theorem Ev.dup {x : Value} (hd : decode (mB M) pc = .ok (.dup, 1)) (hc : x.category = 1) (hn : Ev G M (pc + 1) L (x :: x :: S) h r) : Ev G M pc L (x :: S) h r :=
  Ev.pure rfl hn fun {_ _ _ _ m _ _ _ _ _ _ _ _} X hx hZ hown hby target q => XS.dup (g := mkF m pc (arL G L) (List.map (tr G) (x :: S))) X.here hx rfl (hb hby hd) rfl ((tr_cat G x).trans hc) q
theorem Ev.dup2 {x y : Value} (hd : decode (mB M) pc = .ok (.dup2, 1)) (hc : x.category = 1) (hc' : y.category = 1) (hn : Ev G M (pc + 1) L (x :: y :: x :: y :: S) h r) : Ev G M pc L (x :: y :: S) h r :=
  Ev.pure rfl hn fun {_ _ _ _ m _ _ _ _ _ _ _ _} X hx hZ hown hby target q => XT.dup2 (g := mkF m pc (arL G L) (List.map (tr G) (x :: y :: S))) X.here hx rfl (hb hby hd) rfl ((tr_cat G x).trans hc) ((tr_cat G y).trans hc') q
theorem Ev.pop {x : Value} (hd : decode (mB M) pc = .ok (.pop, 1)) (hc : x.category = 1) (hn : Ev G M (pc + 1) L S h r) : Ev G M pc L (x :: S) h r :=
  Ev.pure rfl hn fun {_ _ _ _ m _ _ _ _ _ _ _ _} X hx hZ hown hby target q => XT.pop (g := mkF m pc (arL G L) (List.map (tr G) (x :: S))) X.here hx rfl (hb hby hd) rfl ((tr_cat G x).trans hc) q
/-! ### branches -/
theorem Ev.goto {o : Int} {t : Nat} (hd : decode (mB M) pc = .ok (.goto o, 3)) (hp : (pc : Int) + o = (t : Int)) (hn : Ev G M t L S h r) : Ev G M pc L S h r :=
  Ev.pure rfl hn fun {_ _ _ _ m _ _ _ _ _ _ _ _} X hx hZ hown hby target q => XS.goto (g := mkF m pc (arL G L) (List.map (tr G) S)) X.here hx rfl rfl (hb hby hd) (by rw [hp]; exact Int.natCast_nonneg t) (by rw [hp]; rfl) q
theorem Ev.ifc {cd : ClassFile.Cond} {x : Int32} {o : Int} {t : Nat} (hd : decode (mB M) pc = .ok (.ifCond cd o, 3)) (hp : (pc : Int) + o = (t : Int)) (h1 : ifCond.holds cd x = true → Ev G M t L S h r) (h2 : ifCond.holds cd x = false → Ev G M (pc + 3) L S h r) : Ev G M pc L (.int x :: S) h r := by
  cases hc : ifCond.holds cd x with
  | true => exact Ev.pure rfl (h1 hc) fun {_ _ _ _ m _ _ _ _ _ _ _ _} X hx hZ hown hby target q => XS.ifYes (g := mkF m pc (arL G L) (List.map (tr G) (Value.int x :: S))) X.here hx rfl rfl (hb hby hd) rfl hc (by rw [hp]; exact Int.natCast_nonneg t) (by rw [hp]; rfl) q
  | false => exact Ev.pure rfl (h2 hc) fun {_ _ _ _ m _ _ _ _ _ _ _ _} X hx hZ hown hby target q => XS.ifNo (g := mkF m pc (arL G L) (List.map (tr G) (Value.int x :: S))) X.here hx rfl (hb hby hd) rfl hc q
theorem Ev.icc {cd : ClassFile.Cond} {x y : Int32} {o : Int} {t : Nat} (hd : decode (mB M) pc = .ok (.if_icmp cd o, 3)) (hp : (pc : Int) + o = (t : Int)) (h1 : if_icmp.holds cd x y = true → Ev G M t L S h r) (h2 : if_icmp.holds cd x y = false → Ev G M (pc + 3) L S h r) : Ev G M pc L (.int y :: .int x :: S) h r := by
  cases hc : if_icmp.holds cd x y with
  | true => exact Ev.pure rfl (h1 hc) fun {_ _ _ _ m _ _ _ _ _ _ _ _} X hx hZ hown hby target q => XS.icmpYes (g := mkF m pc (arL G L) (List.map (tr G) (Value.int y :: Value.int x :: S))) X.here hx rfl rfl (hb hby hd) rfl hc (by rw [hp]; exact Int.natCast_nonneg t) (by rw [hp]; rfl) q
  | false => exact Ev.pure rfl (h2 hc) fun {_ _ _ _ m _ _ _ _ _ _ _ _} X hx hZ hown hby target q => XS.icmpNo (g := mkF m pc (arL G L) (List.map (tr G) (Value.int y :: Value.int x :: S))) X.here hx rfl (hb hby hd) rfl hc q
theorem Ev.iclt {x y : Int32} {o : Int} {t : Nat} (hd : decode (mB M) pc = .ok (.if_icmp .lt o, 3)) (hp : (pc : Int) + o = (t : Int)) (h1 : x < y → Ev G M t L S h r) (h2 : ¬ x < y → Ev G M (pc + 3) L S h r) : Ev G M pc L (.int y :: .int x :: S) h r :=
  Ev.icc hd hp (fun q => h1 (by simpa [if_icmp.holds] using q)) (fun q => h2 (by simpa [if_icmp.holds] using q))
theorem Ev.icge {x y : Int32} {o : Int} {t : Nat} (hd : decode (mB M) pc = .ok (.if_icmp .ge o, 3)) (hp : (pc : Int) + o = (t : Int)) (h1 : x < y → Ev G M (pc + 3) L S h r) (h2 : ¬ x < y → Ev G M t L S h r) : Ev G M pc L (.int y :: .int x :: S) h r :=
  Ev.icc hd hp (fun q => h2 (by simpa [if_icmp.holds] using q)) (fun q => h1 (by simpa [if_icmp.holds] using q))
theorem Ev.icgt {x y : Int32} {o : Int} {t : Nat} (hd : decode (mB M) pc = .ok (.if_icmp .gt o, 3)) (hp : (pc : Int) + o = (t : Int)) (h1 : y < x → Ev G M t L S h r) (h2 : ¬ y < x → Ev G M (pc + 3) L S h r) : Ev G M pc L (.int y :: .int x :: S) h r :=
  Ev.icc hd hp (fun q => h1 (by simpa [if_icmp.holds] using q)) (fun q => h2 (by simpa [if_icmp.holds] using q))
theorem Ev.icle {x y : Int32} {o : Int} {t : Nat} (hd : decode (mB M) pc = .ok (.if_icmp .le o, 3)) (hp : (pc : Int) + o = (t : Int)) (h1 : y < x → Ev G M (pc + 3) L S h r) (h2 : ¬ y < x → Ev G M t L S h r) : Ev G M pc L (.int y :: .int x :: S) h r :=
  Ev.icc hd hp (fun q => h2 (by simpa [if_icmp.holds] using q)) (fun q => h1 (by simpa [if_icmp.holds] using q))
theorem Ev.iceq {x y : Int32} {o : Int} {t : Nat} (hd : decode (mB M) pc = .ok (.if_icmp .eq o, 3)) (hp : (pc : Int) + o = (t : Int)) (h1 : x = y → Ev G M t L S h r) (h2 : ¬ x = y → Ev G M (pc + 3) L S h r) : Ev G M pc L (.int y :: .int x :: S) h r :=
  Ev.icc hd hp (fun q => h1 (by simpa [if_icmp.holds] using q)) (fun q => h2 (by simpa [if_icmp.holds] using q))
theorem Ev.icne {x y : Int32} {o : Int} {t : Nat} (hd : decode (mB M) pc = .ok (.if_icmp .ne o, 3)) (hp : (pc : Int) + o = (t : Int)) (h1 : x = y → Ev G M (pc + 3) L S h r) (h2 : ¬ x = y → Ev G M t L S h r) : Ev G M pc L (.int y :: .int x :: S) h r :=
  Ev.icc hd hp (fun q => h2 (by simpa [if_icmp.holds] using q)) (fun q => h1 (by simpa [if_icmp.holds] using q))
theorem Ev.iflt {x : Int32} {o : Int} {t : Nat} (hd : decode (mB M) pc = .ok (.ifCond .lt o, 3)) (hp : (pc : Int) + o = (t : Int)) (h1 : x < 0 → Ev G M t L S h r) (h2 : ¬ x < 0 → Ev G M (pc + 3) L S h r) : Ev G M pc L (.int x :: S) h r :=
  Ev.ifc hd hp (fun q => h1 (by simpa [ifCond.holds] using q)) (fun q => h2 (by simpa [ifCond.holds] using q))
theorem Ev.ifge {x : Int32} {o : Int} {t : Nat} (hd : decode (mB M) pc = .ok (.ifCond .ge o, 3)) (hp : (pc : Int) + o = (t : Int)) (h1 : x < 0 → Ev G M (pc + 3) L S h r) (h2 : ¬ x < 0 → Ev G M t L S h r) : Ev G M pc L (.int x :: S) h r :=
  Ev.ifc hd hp (fun q => h2 (by simpa [ifCond.holds] using q)) (fun q => h1 (by simpa [ifCond.holds] using q))
theorem Ev.ifgt {x : Int32} {o : Int} {t : Nat} (hd : decode (mB M) pc = .ok (.ifCond .gt o, 3)) (hp : (pc : Int) + o = (t : Int)) (h1 : 0 < x → Ev G M t L S h r) (h2 : ¬ 0 < x → Ev G M (pc + 3) L S h r) : Ev G M pc L (.int x :: S) h r :=
  Ev.ifc hd hp (fun q => h1 (by simpa [ifCond.holds] using q)) (fun q => h2 (by simpa [ifCond.holds] using q))
theorem Ev.ifle {x : Int32} {o : Int} {t : Nat} (hd : decode (mB M) pc = .ok (.ifCond .le o, 3)) (hp : (pc : Int) + o = (t : Int)) (h1 : 0 < x → Ev G M (pc + 3) L S h r) (h2 : ¬ 0 < x → Ev G M t L S h r) : Ev G M pc L (.int x :: S) h r :=
  Ev.ifc hd hp (fun q => h2 (by simpa [ifCond.holds] using q)) (fun q => h1 (by simpa [ifCond.holds] using q))
theorem Ev.ifeq {x : Int32} {o : Int} {t : Nat} (hd : decode (mB M) pc = .ok (.ifCond .eq o, 3)) (hp : (pc : Int) + o = (t : Int)) (h1 : x = 0 → Ev G M t L S h r) (h2 : ¬ x = 0 → Ev G M (pc + 3) L S h r) : Ev G M pc L (.int x :: S) h r :=
  Ev.ifc hd hp (fun q => h1 (by simpa [ifCond.holds] using q)) (fun q => h2 (by simpa [ifCond.holds] using q))
theorem Ev.ifne {x : Int32} {o : Int} {t : Nat} (hd : decode (mB M) pc = .ok (.ifCond .ne o, 3)) (hp : (pc : Int) + o = (t : Int)) (h1 : x = 0 → Ev G M (pc + 3) L S h r) (h2 : ¬ x = 0 → Ev G M t L S h r) : Ev G M pc L (.int x :: S) h r :=
  Ev.ifc hd hp (fun q => h2 (by simpa [ifCond.holds] using q)) (fun q => h1 (by simpa [ifCond.holds] using q))
theorem Ev.tswIn {x : Int32} {dflt low high : Int} {offs : Array Int} {len t : Nat} {o : Int} (hd : decode (mB M) pc = .ok (.tableswitch dflt low high offs, len)) (hin : ¬ (x.toInt < low ∨ x.toInt > high)) (ho : offs[(x.toInt - low).toNat]? = some o) (hp : (pc : Int) + o = (t : Int)) (hn : Ev G M t L S h r) : Ev G M pc L (.int x :: S) h r :=
  Ev.pure rfl hn fun {_ _ _ _ m _ _ _ _ _ _ _ _} X hx hZ hown hby target q => XS.tswIn (g := mkF m pc (arL G L) (List.map (tr G) (Value.int x :: S))) X.here hx rfl rfl (hb hby hd) rfl hin ho (by rw [hp]; exact Int.natCast_nonneg t) (by rw [hp]; rfl) q
theorem Ev.tswOut {x : Int32} {dflt low high : Int} {offs : Array Int} {len t : Nat} (hd : decode (mB M) pc = .ok (.tableswitch dflt low high offs, len)) (hout : x.toInt < low ∨ x.toInt > high) (hp : (pc : Int) + dflt = (t : Int)) (hn : Ev G M t L S h r) : Ev G M pc L (.int x :: S) h r :=
  Ev.pure rfl hn fun {_ _ _ _ m _ _ _ _ _ _ _ _} X hx hZ hown hby target q => XS.tswOut (g := mkF m pc (arL G L) (List.map (tr G) (Value.int x :: S))) X.here hx rfl rfl (hb hby hd) rfl hout (by rw [hp]; exact Int.natCast_nonneg t) (by rw [hp]; rfl) q
/-! ### fields -/
theorem Ev.getfield {idx j i : Nat} {n d : String} {ty : FieldType} {fs : List Value} {v : Value} (w : (Jvm.Cond.fieldLink (mN M).cls idx (gC G) n d).before (gA G) (gZ G) = true) (hd : decode (mB M) pc = .ok (.getfield idx, 3))
    (hF : (gF G)[j]? = some (n, d, ty)) (hi : h[i]? = some (.inl fs)) (hv : fs[j]? = some v) (hn : Ev G M (pc + 3) L (v :: S) h r) : Ev G M pc L (.ref i :: S) h r := by
  refine Ev.same rfl hn ?_
  intro p e R s m args below meth c T locs cells slots X hx hZ hown hby hml hLm hfr hlo hR
  obtain ⟨-, -, h3⟩ := hR.2.2.2 i _ hi
  obtain ⟨T', X', e', st⟩ := getF X hx hZ hown (host := "") (Or.inl w) Via.refl rfl (h3 j n d ty v hF hv) (g := mkF m pc (arL G L) ((Value.ref i :: S).map (tr G))) rfl rfl (hb hby hd)
  exact ⟨T', X', e', st⟩
def mput : FieldType → Value → Option Value
  | .int, .int z => some (.int z)
  | .boolean, .int z => some (.int (z &&& 1))
  | .array _, .ref a => some (.ref a)
  | _, _ => none
theorem mput_spec {G : Ctx} {ty : FieldType} {v v' : Value} (h : mput ty v = some v') : narrow ty (tr G v) = tr G v' ∧ fits ty (tr G v') = true := by
  unfold mput at h
  split at h
  · cases h; exact ⟨rfl, rfl⟩
  · cases h; exact ⟨rfl, fits_nar_bool _⟩
  · cases h; exact ⟨rfl, rfl⟩
  · cases h
theorem Ev.putfield {idx j i : Nat} {n d : String} {ty : FieldType} {fs : List Value} {v v' : Value} (K : GOk G) (w : (Jvm.Cond.fieldLink (mN M).cls idx (gC G) n d).before (gA G) (gZ G) = true)
    (wl : (Jvm.Cond.lays (gC G) (gC G) n d).before (gA G) (gZ G) = true ∨ ((Jvm.Cond.laysFinal (gC G) (gC G) n d).before (gA G) (gZ G) = true ∧ (mN M).cls = gC G ∧ (mN M).name = "<init>"))
    (hd : decode (mB M) pc = .ok (.putfield idx, 3)) (hF : (gF G)[j]? = some (n, d, ty)) (hk : k0 G ≤ i) (hi : h[i]? = some (.inl fs)) (hp : mput ty v = some v') (hn : Ev G M (pc + 3) L S (h.set i (.inl (fs.set j v'))) r) : Ev G M pc L (v :: .ref i :: S) h r := by
  have hs := hsl_set (gK G) h i (.inl fs) (.inl (fs.set j v')) hi rfl
  refine Ev.gen (by rw [List.length_set]; exact Nat.le_refl _) (by rw [hs]; exact Nat.le_refl _) rfl hn ?_
  intro p e R s m args below meth c T locs cells slots X hx hZ hown hby hml hnm hLm hfr hlo hsz hR hFr hc hsq
  obtain ⟨e1, e2, e3⟩ := hR.2.2.2 i _ hi
  obtain ⟨q1, q2⟩ := mput_spec (G := G) hp
  have hlt : j < fs.length := by rw [e2]; exact (List.getElem?_eq_some_iff.mp hF).1
  have F := e3 j n d ty _ hF (List.getElem?_eq_getElem hlt)
  obtain ⟨T', h', X', eT', W, st⟩ := putFN X hx hZ hown w Via.refl rfl F e1 (wl.imp id fun ⟨a, b, c⟩ => ⟨a, b, by rw [hnm]; exact c⟩) K.2.2.1 (K.1 j n d ty hF).2 q1 q2 (g := mkF m pc (arL G L) ((v :: Value.ref i :: S).map (tr G))) rfl rfl (hb hby hd)
  refine ⟨T', _, ?_, ?_, Fr.snoc X' hFr (rho_ge hk), st⟩
  · rw [hs, List.length_set, Nat.sub_self, Nat.sub_self, Nat.add_zero, Nat.add_zero]; exact X'
  · rw [eT']; exact hR.wrFld K hi hF W
/-! ### arrays -/
theorem get_arr {xs : List Int32} {c : Cell} (hs : c.slots = (xs.map Value.int).toArray) (k : Nat) : c.slots[k]? = (xs[k]?).map Value.int := by rw [hs]; simp
theorem arr_size {xs : List Int32} {c : Cell} (hs : c.slots = (xs.map Value.int).toArray) : c.slots.size = xs.length := by rw [hs]; simp
theorem Ev.arraylength {i : Nat} {b : Bool} {xs : List Int32} (hd : decode (mB M) pc = .ok (.arraylength, 1)) (hi : h[i]? = some (.inr (b, xs))) (hn : Ev G M (pc + 1) L (.int xs.length.toInt32 :: S) h r) : Ev G M pc L (.ref i :: S) h r := by
  refine Ev.same rfl hn ?_
  intro p e R s m args below meth c T locs cells slots X hx hZ hown hby hml hLm hfr hlo hR
  obtain ⟨cl, A, hs⟩ := hR.2.2.2 i _ hi
  refine ⟨T, X, rfl, fun target k => X.arraylength hx A.1 (State.isArrayOf_alike hZ.alike A.2.1) (g := mkF m pc (arL G L) ((Value.ref i :: S).map (tr G))) rfl rfl (hb hby hd) target ?_⟩
  rw [arr_size hs]; exact k
theorem Ev.iaload {i : Nat} {xs : List Int32} {j v : Int32} (hd : decode (mB M) pc = .ok (.iaload, 1)) (hi : h[i]? = some (.inr (false, xs))) (hj : ¬ j < 0) (hv : xs[j.toNatClampNeg]? = some v) (hn : Ev G M (pc + 1) L (.int v :: S) h r) : Ev G M pc L (.int j :: .ref i :: S) h r := by
  refine Ev.same rfl hn ?_
  intro p e R s m args below meth c T locs cells slots X hx hZ hown hby hml hLm hfr hlo hR
  obtain ⟨cl, A, hs⟩ := hR.2.2.2 i _ hi
  have hlt := (List.getElem?_eq_some_iff.mp hv).1
  exact ⟨T, X, rfl, fun target k => X.iaload hx A.1 (State.isArrayOf_alike hZ.alike A.2.1) A.2.2 (fun q => q.elim hj fun q => absurd (arr_size hs ▸ q) (Nat.not_le.mpr hlt)) (by rw [get_arr hs, hv]; rfl) (g := mkF m pc (arL G L) ((Value.int j :: Value.ref i :: S).map (tr G))) rfl rfl (hb hby hd) target k⟩
theorem Ev.baload {i : Nat} {xs : List Int32} {j v : Int32} (hd : decode (mB M) pc = .ok (.baload, 1)) (hi : h[i]? = some (.inr (true, xs))) (hj : ¬ j < 0) (hv : xs[j.toNatClampNeg]? = some v) (hn : Ev G M (pc + 1) L (.int v :: S) h r) : Ev G M pc L (.int j :: .ref i :: S) h r := by
  refine Ev.same rfl hn ?_
  intro p e R s m args below meth c T locs cells slots X hx hZ hown hby hml hLm hfr hlo hR
  obtain ⟨cl, A, hs⟩ := hR.2.2.2 i _ hi
  have hlt := (List.getElem?_eq_some_iff.mp hv).1
  exact ⟨T, X, rfl, fun target k => X.baloadBooleans hx A.1 (State.isArrayOf_alike hZ.alike A.2.1) A.2.2 (fun q => q.elim hj fun q => absurd (arr_size hs ▸ q) (Nat.not_le.mpr hlt)) (by rw [get_arr hs, hv]; rfl) (g := mkF m pc (arL G L) ((Value.int j :: Value.ref i :: S).map (tr G))) rfl rfl (hb hby hd) target k⟩
theorem Ev.iastore {i : Nat} {xs : List Int32} {j v : Int32} (hd : decode (mB M) pc = .ok (.iastore, 1)) (hk : k0 G ≤ i) (hi : h[i]? = some (.inr (false, xs))) (hj : ¬ j < 0) (hlt : j.toNatClampNeg < xs.length) (hn : Ev G M (pc + 1) L S (h.set i (.inr (false, xs.set j.toNatClampNeg v))) r) : Ev G M pc L (.int v :: .int j :: .ref i :: S) h r := by
  have hs := hsl_set (gK G) h i (.inr (false, xs)) (.inr (false, xs.set j.toNatClampNeg v)) hi (by simp [csl])
  refine Ev.gen (by rw [List.length_set]; exact Nat.le_refl _) (by rw [hs]; exact Nat.le_refl _) rfl hn ?_
  intro p e R s m args below meth c T locs cells slots X hx hZ hown hby hml hnm hLm hfr hlo hsz hR hFr hc hsq
  obtain ⟨cl, A, hsz'⟩ := hR.2.2.2 i _ hi
  obtain ⟨T', h', X', eT', W, st⟩ := stI X hx hZ rfl A (j := j) (x := v) (fun q => q.elim hj fun q => absurd (arr_size hsz' ▸ q) (Nat.not_le.mpr hlt)) (g := mkF m pc (arL G L) ((Value.int v :: Value.int j :: Value.ref i :: S).map (tr G))) rfl rfl (hb hby hd)
  refine ⟨T', _, ?_, ?_, Fr.snoc X' hFr (rho_ge hk), st⟩
  · rw [hs, List.length_set, Nat.sub_self, Nat.sub_self, Nat.add_zero, Nat.add_zero]; exact X'
  · rw [eT']; exact hR.wrArr hi W
theorem Ev.bastore {i : Nat} {xs : List Int32} {j v : Int32} (hd : decode (mB M) pc = .ok (.bastore, 1)) (hk : k0 G ≤ i) (hi : h[i]? = some (.inr (true, xs))) (hj : ¬ j < 0) (hlt : j.toNatClampNeg < xs.length) (hn : Ev G M (pc + 1) L S (h.set i (.inr (true, xs.set j.toNatClampNeg (v &&& 1)))) r) : Ev G M pc L (.int v :: .int j :: .ref i :: S) h r := by
  have hs := hsl_set (gK G) h i (.inr (true, xs)) (.inr (true, xs.set j.toNatClampNeg (v &&& 1))) hi (by simp [csl])
  refine Ev.gen (by rw [List.length_set]; exact Nat.le_refl _) (by rw [hs]; exact Nat.le_refl _) rfl hn ?_
  intro p e R s m args below meth c T locs cells slots X hx hZ hown hby hml hnm hLm hfr hlo hsz hR hFr hc hsq
  obtain ⟨cl, A, hsz'⟩ := hR.2.2.2 i _ hi
  obtain ⟨T', h', X', eT', W, st⟩ := stZ X hx hZ rfl A (j := j) (x := v) (fun q => q.elim hj fun q => absurd (arr_size hsz' ▸ q) (Nat.not_le.mpr hlt)) (g := mkF m pc (arL G L) ((Value.int v :: Value.int j :: Value.ref i :: S).map (tr G))) rfl rfl (hb hby hd)
  refine ⟨T', _, ?_, ?_, Fr.snoc X' hFr (rho_ge hk), st⟩
  · rw [hs, List.length_set, Nat.sub_self, Nat.sub_self, Nat.add_zero, Nat.add_zero]; exact X'
  · rw [eT']; exact hR.wrArr hi W
/-! ### making -/
theorem Ev.new {idx : Nat} {fs : List Value} (K : GOk G) (w : (Jvm.Cond.classLink (mN M).cls idx (gC G)).before (gA G) (gZ G) = true) (hd : decode (mB M) pc = .ok (.new idx, 3)) (hf : fs = (gF G).map fun f => defaultValue f.2.2)
    (hn : Ev G M (pc + 3) L (.ref h.length :: S) (h ++ [.inl fs]) r) : Ev G M pc L S h r := by
  subst hf
  have hs := hsl_push (gK G) h (.inl ((gF G).map fun f => defaultValue f.2.2))
  refine Ev.gen (by simp) (by rw [hs]; exact Nat.le_add_right _ _) rfl hn ?_
  intro p e R s m args below meth c T locs cells slots X hx hZ hown hby hml hnm hLm hfr hlo hsz hR hFr hc hsq
  have el : (h ++ [(.inl ((gF G).map fun f => defaultValue f.2.2) : MCell)]).length - h.length = 1 := by simp
  have es : hsl (gK G) (h ++ [.inl ((gF G).map fun f => defaultValue f.2.2)]) - hsl (gK G) h = gK G := by rw [hs]; simp [csl]
  rw [el] at hc
  rw [es] at hsq
  obtain ⟨T', h', X', eT', E, A, D, -, st⟩ := newO X hx hZ hown w K.2.2.1 K.2.2.2 rfl (g := mkF m pc (arL G L) (S.map (tr G))) rfl (hb hby hd) hc hsq
  rw [el, es]
  have hrho : rho G h.length = T.heap.size := by rw [rho_new hR.2.1]; have := hR.1; have := hR.2.1; omega
  refine ⟨T', _, X', ?_, hFr, fun target k => st target ?_⟩
  · rw [eT']
    refine hR.push E ?_ ⟨A, by simp, fun j n d ty v hf hv => ?_⟩
    · have h1 := X'.heapSize
      have h2 : T.heap.size < h'.size := A.lt
      rw [eT'] at h1
      omega
    · rw [List.getElem?_map, hf] at hv
      cases hv
      have := D (K.1 j n d ty hf).1 (K.1 j n d ty hf).2
      have e : tr G (defaultValue ty) = defaultValue ty := by cases ty <;> rfl
      rw [e]; exact this
  · rw [← hrho]; exact k
theorem Ev.newarray {aty : ArrayType} {b : Bool} {n : Int32} {k : Nat} (w : (Jvm.Cond.arrayClass (newarray.typeOf aty)).before (gA G) (gZ G) = true) (hb' : newarray.typeOf aty = kd b) (hd : decode (mB M) pc = .ok (.newarray aty, 2)) (hn0 : ¬ n < 0) (hk : n.toNatClampNeg = k) (hcap : k ≤ 67108864)
    (hn : Ev G M (pc + 2) L (.ref h.length :: S) (h ++ [.inr (b, List.replicate k 0)]) r) : Ev G M pc L (.int n :: S) h r := by
  subst hk
  have hs := hsl_push (gK G) h (.inr (b, List.replicate n.toNatClampNeg 0))
  refine Ev.gen (by simp) (by rw [hs]; exact Nat.le_add_right _ _) rfl hn ?_
  intro p e R s m args below meth c T locs cells slots X hx hZ hown hby hml hnm hLm hfr hlo hsz hR hFr hc hsq
  have el : (h ++ [(.inr (b, List.replicate n.toNatClampNeg 0) : MCell)]).length - h.length = 1 := by simp
  have es : hsl (gK G) (h ++ [.inr (b, List.replicate n.toNatClampNeg 0)]) - hsl (gK G) h = n.toNatClampNeg := by rw [hs]; simp [csl]
  rw [el] at hc
  rw [es] at hsq
  obtain ⟨T', h', cA, X', eT', E, A, st⟩ := newP X hx hZ w rfl (g := mkF m pc (arL G L) ((Value.int n :: S).map (tr G))) rfl (hb hby hd) rfl hn0 (cap := n.toNatClampNeg) (Nat.le_refl _) (by omega) hc hsq
  rw [el, es]
  have hrho : rho G h.length = T.heap.size := by rw [rho_new hR.2.1]; have := hR.1; have := hR.2.1; omega
  refine ⟨T', _, X', ?_, hFr, fun target k => st target ?_⟩
  · rw [eT']
    refine hR.push E ?_ ⟨_, hb' ▸ A, ?_⟩
    · have h1 := X'.heapSize
      have h2 : T.heap.size < h'.size := A.lt
      rw [eT'] at h1
      omega
    · have e0 : defaultValue (kd b) = .int 0 := by cases b <;> rfl
      show Array.replicate n.toNatClampNeg (defaultValue (kd b)) = _
      rw [e0]
      simp
  · rw [← hrho]; exact k
theorem Ev.initO {idx i : Nat} (w1 : (Jvm.Cond.methodLink (mN M).cls idx Lib.objectInit).before (gA G) (gZ G) = true) (w2 : (Jvm.Cond.instanceMethod Lib.objectInit).before (gA G) (gZ G) = true) (w3 : (Jvm.Cond.code Lib.objectInit ⟨#[0xb1]⟩ 1 none).before (gA G) (gZ G) = true)
    (hd : decode (mB M) pc = .ok (.invokespecial idx, 3)) (hf : 1 ≤ mF M) (hl : (S.map fun v => v.category).sum + 12 ≤ mW M) (hn : Ev G M (pc + 3) L S h r) : Ev G M pc L (.ref i :: S) h r := by
  refine Ev.same rfl hn ?_
  intro p e R s m args below meth c T locs cells slots X hx hZ hown hby hml hLm hfr hlo hR
  obtain ⟨T', X', e', st⟩ := RoadKit.initO X hx hZ hown w1 w2 w3 rfl (g := mkF m pc (arL G L) ((Value.ref i :: S).map (tr G))) rfl (by rw [hml, ← hLm]; simp [arL]) (a := rho G i) (rest := S.map (tr G)) rfl (hb hby hd) (Nat.le_trans hf hfr) (W := (S.map fun v => v.category).sum) (by rw [tr_cats]; show 2 * 0 + _ ≤ _; omega) (by omega)
  exact ⟨T', X', e', st⟩
/-! ### calls -/
def notMH (y : Mi) : Prop := (mN y).cls ≠ "java/lang/invoke/MethodHandle" ∧ (mN y).cls ≠ "java/lang/invoke/VarHandle"
theorem mapRev (G : Ctx) (args : List Value) : (args.reverse).map (tr G) = (args.map (tr G)).reverse := by simp
theorem vList (G : Ctx) (v : Option Value) (S : List Value) : (v.map (tr G)).toList ++ S.map (tr G) = (v.toList ++ S).map (tr G) := by cases v <;> simp
theorem back_of_evc {p : Program} {e : Env} {R : Room} {s : State} {args0 : Array Value} {below : List Frame} {y : Mi} {args : List Value} {r1 : Option Value × MHeap} {hr : Heap} {W : Nat} (hC : EvC G y args h r1) (hR : Rel G hr h) (hZ : (gZ G).Warmed39 s.vm)
    (wc : (Jvm.Cond.code (mN y) (mB y) (mL y) (mR y)).before (gA G) (gZ G) = true) (wz : (Jvm.Cond.initialized (mN y).cls).before (gA G) (gZ G) = true) (hf : mF y + 1 ≤ R.frames) (hl : W + (mL y + 11) + mW y ≤ R.locals) :
    Back (gL G) R p e below s args0 (mN y) 3 W (fun A a => a = (args.map (tr G)).toArray ∧ A.U.heap = hr ∧ A.cells + (r1.2.length - h.length) ≤ R.cells ∧ A.slots + (hsl (gK G) r1.2 - hsl (gK G) h) ≤ R.slots)
      (fun A _ v B => ∃ L, (v = r1.1.map (tr G) ∧ Fr (gN G) L ∧ Rel G B.U.heap r1.2) ∧ B.locs = A.locs ++ L ∧ B.cells = A.cells + (r1.2.length - h.length) ∧ B.slots = A.slots + (hsl (gK G) r1.2 - hsl (gK G) h)) :=
  backOf (Q := fun v hp L => v = r1.1.map (tr G) ∧ Fr (gN G) L ∧ Rel G hp r1.2) (rm := { frames := mF y, cells := r1.2.length - h.length, slots := hsl (gK G) r1.2 - hsl (gK G) h, locals := mW y })
    (hC.2 [] { frames := mF y, cells := r1.2.length - h.length, slots := hsl (gK G) r1.2 - hsl (gK G) h, locals := mW y } hr (Nat.le_refl _) (Nat.le_refl _) (Nat.le_refl _) (Nat.le_refl _) hR) hZ wc wz hf hl
/-- a private method of the class -/
theorem Ev.priv {y : Mi} {idx i : Nat} {args rest : List Value} {v : Option Value} {h1 : MHeap} {fs : List Value} (K : GOk G) (hcls : (mN y).cls = gC G) (hy : notMH y)
    (wl : (Jvm.Cond.methodLink (mN M).cls idx (mN y)).before (gA G) (gZ G) = true) (wi : (Jvm.Cond.instanceMethod (mN y)).before (gA G) (gZ G) = true) (wp : (Jvm.Cond.privateMethod (mN y)).before (gA G) (gZ G) = true)
    (wc : (Jvm.Cond.code (mN y) (mB y) (mL y) (mR y)).before (gA G) (gZ G) = true) (hlen : ∀ sig, parseMethodDescriptor (mN y).desc = some sig → args.length = sig.parameters.length)
    (hd : decode (mB M) pc = .ok (.invokevirtual idx, 3)) (hi : h[i]? = some (.inl fs)) (hC : EvC G y (.ref i :: args) h (v, h1)) (hfr : mF y + 1 ≤ mF M) (hlo : (rest.map fun v => v.category).sum + (mL y + 11) + mW y ≤ mW M)
    (hS : S = args.reverse ++ .ref i :: rest) (hn : Ev G M (pc + 3) L (v.toList ++ rest) h1 r) : Ev G M pc L S h r := by
  subst hS
  refine Ev.gen hC.1.1 hC.1.2 rfl hn ?_
  intro p e R s m args0 below meth c T locs cells slots X hx hZ hown hby hml hnm hLm hfr' hlo' hsz hR hFr hc hsq
  obtain ⟨e1, -, -⟩ := hR.2.2.2 i _ hi
  obtain ⟨cell, hcell, hobj⟩ := e1.cell
  have hwi : (Jvm.Cond.instanceMethod (mN y)).before args0 s = true := mvT hZ wi
  have hpr := Jvm.Cond.privateMethod_at (mvP hZ wp (args := #[]))
  have hsel : (Jvm.Cond.selects (mN y).cls (mN y) (mN y)).before args0 s = true := by
    obtain ⟨c0, k0', q1, q2, -, q4, -⟩ := Jvm.Cond.instantiable_spec (mvT hZ K.2.2.1 (args := #[]) (s := s))
    refine selects_self_of_private (c := c0) (k := k0') (by rw [hcls]; exact q1) q2 ?_ hpr hwi hy
    simp only [Bool.or_eq_false_iff] at q4
    exact q4.1
  obtain ⟨v', vm1, ⟨T', L', k', n'⟩, -, X', ⟨Lc, ⟨rfl, hF', hR'⟩, l1, l2, l3⟩, st⟩ := X.privateBack hx (y := mN y) hown (mvT hZ wl) hwi hsel hpr (mvT hZ wc) hy
    (back_of_evc (W := (rest.map fun v => v.category).sum) hC hR hZ wc (hcls ▸ K.2.2.2) (Nat.le_trans hfr hfr') (Nat.le_trans hlo hlo')) (g := mkF m pc (arL G L) ((args.reverse ++ Value.ref i :: rest).map (tr G))) rfl (by rw [hml, ← hLm]; simp [arL]) (Steps.refl _) hcell hobj
    (argsL := args.map (tr G)) (rest := rest.map (tr G)) (fun sig hsig => by rw [List.length_map]; exact hlen sig hsig) (by simp [tr]) (by rw [tr_cats]; show 2 * 0 + _ ≤ _; omega) (hb hby hd) (fun vm1 hW1 => ⟨rfl, rfl, hc, hsq⟩)
  dsimp only [Pt.U, Pt.locs, Pt.cells, Pt.slots] at X' l1 l2 l3 st hR'
  subst l1 l2 l3
  refine ⟨T', _, X', hR', hFr.app hF', fun target k => st.trans ?_⟩
  rw [vList]
  exact k
/-- a method of the class that no one overrides -/
theorem Ev.virt {y : Mi} {idx i : Nat} {args rest : List Value} {v : Option Value} {h1 : MHeap} {fs : List Value} (K : GOk G) (hcls : (mN y).cls = gC G) (hy : notMH y)
    (wl : (Jvm.Cond.methodLink (mN M).cls idx (mN y)).before (gA G) (gZ G) = true) (wd : (Jvm.Cond.declares (mN y)).before (gA G) (gZ G) = true) (wi : (Jvm.Cond.instanceMethod (mN y)).before (gA G) (gZ G) = true) (ws : (Jvm.Cond.selects (gC G) (mN y) (mN y)).before (gA G) (gZ G) = true)
    (wc : (Jvm.Cond.code (mN y) (mB y) (mL y) (mR y)).before (gA G) (gZ G) = true) (hlen : ∀ sig, parseMethodDescriptor (mN y).desc = some sig → args.length = sig.parameters.length)
    (hd : decode (mB M) pc = .ok (.invokevirtual idx, 3)) (hi : h[i]? = some (.inl fs)) (hC : EvC G y (.ref i :: args) h (v, h1)) (hfr : mF y + 1 ≤ mF M) (hlo : (rest.map fun v => v.category).sum + (mL y + 11) + mW y ≤ mW M)
    (hS : S = args.reverse ++ .ref i :: rest) (hn : Ev G M (pc + 3) L (v.toList ++ rest) h1 r) : Ev G M pc L S h r := by
  subst hS
  refine Ev.gen hC.1.1 hC.1.2 rfl hn ?_
  intro p e R s m args0 below meth c T locs cells slots X hx hZ hown hby hml hnm hLm hfr' hlo' hsz hR hFr hc hsq
  obtain ⟨e1, -, -⟩ := hR.2.2.2 i _ hi
  obtain ⟨cq, kq, qa, qb, qc⟩ := isOf (T := T) hZ rfl e1
  obtain ⟨v', vm1, ⟨T', L', k', n'⟩, -, X', ⟨Lc, ⟨rfl, hF', hR'⟩, l1, l2, l3⟩, st⟩ := X.virtualBack hx (y := mN y) (z := mN y) hown (mvT hZ wl) (mvT hZ wd) (notFace_of_selects (args := #[]) (mvT hZ ws)) (mvT hZ ws) (mvT hZ wi) hy
    (back_of_evc (W := (rest.map fun v => v.category).sum) hC hR hZ wc (hcls ▸ K.2.2.2) (Nat.le_trans hfr hfr') (Nat.le_trans hlo hlo')) qa qc (g := mkF m pc (arL G L) ((args.reverse ++ Value.ref i :: rest).map (tr G))) rfl (by rw [hml, ← hLm]; simp [arL]) (Steps.refl _)
    (argsL := args.map (tr G)) (rest := rest.map (tr G)) (fun sig hsig => by rw [List.length_map]; exact hlen sig hsig) (by simp [tr]) (by rw [tr_cats]; show 2 * 0 + _ ≤ _; omega) (hb hby hd) (fun vm1 hW1 => ⟨rfl, rfl, hc, hsq⟩)
  dsimp only [Pt.U, Pt.locs, Pt.cells, Pt.slots] at X' l1 l2 l3 st hR'
  subst l1 l2 l3
  refine ⟨T', _, X', hR', hFr.app hF', fun target k => st.trans ?_⟩
  rw [vList]
  exact k
/-- a constructor -/
theorem Ev.ctor {y : Mi} {idx i : Nat} {args rest : List Value} {v : Option Value} {h1 : MHeap} (hy1 : (mN y).name = "<init>") (hret : mR y = none) (hy : notMH y)
    (wl : (Jvm.Cond.methodLink (mN M).cls idx (mN y)).before (gA G) (gZ G) = true) (wi : (Jvm.Cond.instanceMethod (mN y)).before (gA G) (gZ G) = true)
    (wc : (Jvm.Cond.code (mN y) (mB y) (mL y) (mR y)).before (gA G) (gZ G) = true) (wz : (Jvm.Cond.initialized (mN y).cls).before (gA G) (gZ G) = true) (hlen : ∀ sig, parseMethodDescriptor (mN y).desc = some sig → args.length = sig.parameters.length)
    (hd : decode (mB M) pc = .ok (.invokespecial idx, 3)) (hC : EvC G y (.ref i :: args) h (v, h1)) (hfr : mF y + 1 ≤ mF M) (hlo : (rest.map fun v => v.category).sum + (mL y + 11) + mW y ≤ mW M)
    (hS : S = args.reverse ++ .ref i :: rest) (hn : Ev G M (pc + 3) L (v.toList ++ rest) h1 r) : Ev G M pc L S h r := by
  subst hS
  refine Ev.gen hC.1.1 hC.1.2 rfl hn ?_
  intro p e R s m args0 below meth c T locs cells slots X hx hZ hown hby hml hnm hLm hfr' hlo' hsz hR hFr hc hsq
  obtain ⟨v', vm1, ⟨T', L', k', n'⟩, -, X', ⟨Lc, ⟨rfl, hF', hR'⟩, l1, l2, l3⟩, st⟩ := X.specialBack hx (y := mN y) hy1 hown (mvT hZ wl) (mvT hZ wi) (mvT hZ (hret ▸ wc)) hy
    (back_of_evc (W := (rest.map fun v => v.category).sum) hC hR hZ wc wz (Nat.le_trans hfr hfr') (Nat.le_trans hlo hlo')) (g := mkF m pc (arL G L) ((args.reverse ++ Value.ref i :: rest).map (tr G))) rfl (by rw [hml, ← hLm]; simp [arL]) (Steps.refl _)
    (a := rho G i) (argsL := args.map (tr G)) (rest := rest.map (tr G)) (fun sig hsig => by rw [List.length_map]; exact hlen sig hsig) (by simp [tr]) (by rw [tr_cats]; show 2 * 0 + _ ≤ _; omega) (hb hby hd) (fun vm1 hW1 => ⟨rfl, rfl, hc, hsq⟩)
  dsimp only [Pt.U, Pt.locs, Pt.cells, Pt.slots] at X' l1 l2 l3 st hR'
  subst l1 l2 l3
  refine ⟨T', _, X', hR', hFr.app hF', fun target k => st.trans ?_⟩
  rw [vList]
  exact k
/-- a static method -/
theorem Ev.stat {y : Mi} {idx : Nat} {args rest : List Value} {v : Option Value} {h1 : MHeap} (hy : notMH y)
    (wl : (Jvm.Cond.methodLink (mN M).cls idx (mN y)).before (gA G) (gZ G) = true) (wst : (Jvm.Cond.static (mN y)).before (gA G) (gZ G) = true) (wz : (Jvm.Cond.initialized (mN y).cls).before (gA G) (gZ G) = true)
    (wc : (Jvm.Cond.code (mN y) (mB y) (mL y) (mR y)).before (gA G) (gZ G) = true) (hlen : ∀ sig, parseMethodDescriptor (mN y).desc = some sig → args.length = sig.parameters.length)
    (hd : decode (mB M) pc = .ok (.invokestatic idx, 3)) (hC : EvC G y args h (v, h1)) (hfr : mF y + 1 ≤ mF M) (hlo : (rest.map fun v => v.category).sum + (mL y + 11) + mW y ≤ mW M)
    (hS : S = args.reverse ++ rest) (hn : Ev G M (pc + 3) L (v.toList ++ rest) h1 r) : Ev G M pc L S h r := by
  subst hS
  refine Ev.gen hC.1.1 hC.1.2 rfl hn ?_
  intro p e R s m args0 below meth c T locs cells slots X hx hZ hown hby hml hnm hLm hfr' hlo' hsz hR hFr hc hsq
  obtain ⟨v', vm1, ⟨T', L', k', n'⟩, -, X', ⟨Lc, ⟨rfl, hF', hR'⟩, l1, l2, l3⟩, st⟩ := Jvm.LawKit.callS X hx (y := mN y) hown (mvT hZ wl) (mvT hZ wst) (mvT hZ wz) (mvT hZ wc) hy
    (back_of_evc (W := (rest.map fun v => v.category).sum) hC hR hZ wc wz (Nat.le_trans hfr hfr') (Nat.le_trans hlo hlo')) (g := mkF m pc (arL G L) ((args.reverse ++ rest).map (tr G))) rfl (by rw [hml, ← hLm]; simp [arL])
    (argsL := args.map (tr G)) (rest := rest.map (tr G)) (fun sig hsig => by rw [List.length_map]; exact hlen sig hsig) (by simp) (by rw [tr_cats]; show 2 * 0 + _ ≤ _; omega) (hb hby hd) (fun vm1 hW1 => ⟨rfl, rfl, hc, hsq⟩)
  dsimp only [Pt.U, Pt.locs, Pt.cells, Pt.slots] at X' l1 l2 l3 st hR'
  subst l1 l2 l3
  refine ⟨T', _, X', hR', hFr.app hF', fun target k => st target ?_⟩
  rw [vList]
  exact k
/-! ### returns -/
theorem Ev.ret {v : Option Value} (st : ∀ {p : Program} {e : Env} {R : Room} {s : State} {m : MethodId} {args : Array Value} {below : List Frame} {meth : Method} {c : Code} {T : State} {locs : List Loc} {cells slots : Nat},
      Stand p (gL G) e R s m args below meth c T locs cells slots → p.tables.exec = Jvm.exec → c.code = mB M → meth.sig.returnType = mR M → ∀ fs,
      (∀ (f : JFrame) (acts : List Action), f.method = m → f.locked = none → f.entered = [] → (doReturn e (T.setTop f) acts (v.map (tr G))).1 = T.setFrames fs) → Steps p.tables e below (T.setTop (mkF m pc (arL G L) (S.map (tr G)))) (T.setFrames fs)) :
    Ev G M pc L S h (v, h) := by
  refine ⟨⟨Nat.le_refl _, Nat.le_refl _⟩, ?_⟩
  intro p e R s m args below meth c T locs cells slots X hx hZ hown hby hml hret hnm hLm hfr hlo hsz hR hF hc hs
  refine ⟨T, locs, ?_, hR, hF, st X hx hby hret⟩
  rw [Nat.sub_self, Nat.sub_self, Nat.add_zero, Nat.add_zero]
  exact X
theorem Ev.ireturn {z : Int32} (hret : mR M = some .int) (hd : decode (mB M) pc = .ok (.ireturn, 1)) : Ev G M pc L (.int z :: S) h (some (.int z), h) :=
  Ev.ret fun X hx hby hr fs hl => retOut X hx (hr.trans hret) rfl (Or.inl ⟨rfl, Or.inl rfl, z, rfl⟩) (hb hby hd) hl
theorem Ev.zreturn {z : Int32} (hret : mR M = some .boolean) (hd : decode (mB M) pc = .ok (.ireturn, 1)) : Ev G M pc L (.int z :: S) h (some (.int (z &&& 1)), h) :=
  Ev.ret fun X hx hby hr fs hl => retN X hx (t := .boolean) (hr.trans hret) (Or.inl rfl) (hb hby hd) hl
theorem Ev.lreturn {z : Int64} (hret : mR M = some .long) (hd : decode (mB M) pc = .ok (.lreturn, 1)) : Ev G M pc L (.long z :: S) h (some (.long z), h) :=
  Ev.ret fun X hx hby hr fs hl => retOut X hx (hr.trans hret) rfl (Or.inr (Or.inl ⟨rfl, rfl, z, rfl⟩)) (hb hby hd) hl
theorem Ev.vreturn (hret : mR M = none) (hd : decode (mB M) pc = .ok (.return_, 1)) : Ev G M pc L [] h (none, h) :=
  Ev.ret fun X hx hby hr fs hl => X.returnOut hx (hr.trans hret) (hb hby hd) hl
/-! ### entering -/
def margs : List Value → List Slot
  | [] => []
  | v :: vs => if v.category = 2 then .val v :: .second :: margs vs else .val v :: margs vs
theorem margs_fold (vs : List Value) : ∀ acc : Array Slot, vs.foldl (init := acc) (fun acc v => if v.category = 2 then (acc.push (.val v)).push .second else acc.push (.val v)) = acc ++ (margs vs).toArray := by
  induction vs with
  | nil => intro acc; simp [margs]
  | cons v vs ih =>
    intro acc
    rw [List.foldl_cons, ih]
    by_cases h : v.category = 2
    · simp [margs, h]
    · simp [margs, h]
theorem margs_map (G : Ctx) : ∀ vs : List Value, margs (vs.map (tr G)) = (margs vs).map (trS G)
  | [] => rfl
  | v :: vs => by
    have ih := margs_map G vs
    by_cases h : v.category = 2
    · simp only [List.map_cons, margs, tr_cat, h, if_true, ih]; rfl
    · simp only [List.map_cons, margs, tr_cat, h, if_false, ih]; rfl
def ment (args : List Value) (k : Nat) : List Slot := margs args ++ List.replicate (k - (margs args).length) .unset
theorem entry_eq (G : Ctx) (m : MethodId) (args : List Value) (k : Nat) : entryFrame m (args.map (tr G)).toArray k = mkF m 0 (arL G (ment args k)) [] := by
  have e : argsToLocals (args.map (tr G)).toArray k = arL G (ment args k) := by
    unfold argsToLocals arL ment
    have q := margs_fold (args.map (tr G)) #[]
    rw [List.foldl_toArray']
    · rw [q, margs_map]
      simp [trS]
    · simp
  unfold entryFrame
  rw [e]
theorem EvC.enter {y : Mi} {args : List Value} {L0 : List Slot} (hp : plainFor (mN y) = true) (hv : mR y = none → r.1 = none) (hL : ment args (mL y) = L0) (hlen : L0.length = mL y) (hn : Ev G y 0 L0 [] h r) : EvC G y args h r := by
  subst hL
  refine ⟨hn.1, fun ws R hr hf hl hc hs hR => ?_⟩
  refine MetFree.of_bodySF hp hisR ?_
  intro p e s m args' below meth c s₁ Bd hml0 hP hK
  obtain ⟨rfl, hZ, hh⟩ := hP
  have X0 : Stand p (gL G) e R s m _ below meth c s₁ [] 0 0 := Stand.of_body Bd
  have e0 : s₁.heap = hr := by rw [← hh, Bd.state]; rfl
  obtain ⟨T', locs', X', R', F', st⟩ := hn.2 p e R s m _ below meth c s₁ [] 0 0 X0 Bd.exec hZ (findClass_of_methodNamed Bd.named) Bd.bytes hml0 Bd.returns (name_of_methodNamed Bd.named Bd.method).1 hlen hf hl (by rw [e0, hh]; rfl) (by rw [e0]; exact hR) (Fr.nil _) (by omega) (by omega)
  rw [Nat.zero_add, Nat.zero_add] at X'
  obtain ⟨fs, hret, hrun, hended, hW, hsame⟩ := X'.leave (v := r.1.map (tr G)) (fun q => by rw [hv (Bd.returns.symm.trans q)]; rfl)
  refine ⟨_, _, castTop (entry_eq G m args (mL y)) (st fs hret), hrun, hended, _, _, rfl, ⟨rfl, F', ?_⟩, ⟨_, rfl⟩, hW, hsame⟩
  exact R'
end Rules
end Jvm.Own
namespace Jvm.Own
open Sem ClassFile Op Lib Jvm.Stand Jvm.Free Jvm.LawKit Jvm.RoadKit
/-! ## 4. An object as two functions: its ints by the field's number, its arrays by the field's number and the place -/
abbrev St := (Nat → Int32) × (Nat → Nat → Int32)
def setI (s : St) (j : Nat) (z : Int32) : St := (fun k => if k = j then z else s.1 k, s.2)
def setA (s : St) (j i : Nat) (z : Int32) : St := (s.1, fun k x => if k = j ∧ x = i then z else s.2 k x)
def zeroS : St := (fun _ => 0, fun _ _ => 0)
theorem setI_1 (s : St) (j : Nat) (z : Int32) (k : Nat) : (setI s j z).1 k = if k = j then z else s.1 k := rfl
theorem setI_2 (s : St) (j : Nat) (z : Int32) : (setI s j z).2 = s.2 := rfl
theorem setA_1 (s : St) (j i : Nat) (z : Int32) : (setA s j i z).1 = s.1 := rfl
theorem setA_2 (s : St) (j i : Nat) (z : Int32) (k x : Nat) : (setA s j i z).2 k x = if k = j ∧ x = i then z else s.2 k x := rfl
def ix (j : Int32) : Nat := j.toNatClampNeg
/-- the place j lies in an array of n -/
def inb (j : Int32) (n : Nat) : Prop := ¬ j < 0 ∧ ix j < n
instance (j : Int32) (n : Nat) : Decidable (inb j n) := inferInstanceAs (Decidable (_ ∧ _))
def bnd {α β : Type} (x : α) (f : α → β) : β := f x
theorem bnd_eq {α β : Type} (x : α) (f : α → β) : bnd x f = f x := rfl
def tab (n : Nat) (f : Nat → Int32) : List Int32 := (List.range n).map f
theorem tab_len (n : Nat) (f : Nat → Int32) : (tab n f).length = n := by simp [tab]
theorem tab_get {n : Nat} {f : Nat → Int32} {i : Nat} (h : i < n) : (tab n f)[i]? = some (f i) := by simp [tab, h]
theorem tab_set {n : Nat} {f : Nat → Int32} {i : Nat} {z : Int32} : (tab n f).set i z = tab n (fun x => if x = i then z else f x) := by
  apply List.ext_getElem?
  intro k
  rw [List.getElem?_set]
  by_cases h : i = k
  · subst h
    by_cases q : i < n
    · simp [tab, q]
    · simp [tab, q]
  · by_cases q : k < n
    · simp [tab, q, h, Ne.symm h]
    · simp [tab, q, h]
theorem tab_zero (n : Nat) : tab n (fun _ => 0) = List.replicate n 0 := by
  apply List.ext_getElem?
  intro k
  by_cases q : k < n <;> simp [tab, q]
theorem tab_of (xs : List Int32) : xs = tab xs.length (fun i => xs.getD i 0) := by
  apply List.ext_getElem?
  intro k
  by_cases q : k < xs.length
  · simp [tab, q]
  · simp [tab, q]
def isA : FieldType → Bool
  | .array _ => true
  | _ => false
def isB : FieldType → Bool
  | .boolean => true
  | _ => false
def fv1 (r : Nat → Nat) (s : St) (j : Nat) (f : Fd) : Value := match f.2.2 with
  | .array _ => .ref (r j)
  | _ => .int (s.1 j)
def fvA (r : Nat → Nat) (s : St) : Nat → List Fd → List Value
  | _, [] => []
  | j, f :: fs => fv1 r s j f :: fvA r s (j + 1) fs
theorem fvA_get (r : Nat → Nat) (s : St) : ∀ (F : List Fd) (k j : Nat), (fvA r s k F)[j]? = (F[j]?).map (fv1 r s (k + j))
  | [], _, _ => by simp [fvA]
  | f :: fs, k, 0 => by simp [fvA]
  | f :: fs, k, j + 1 => by
    have := fvA_get r s fs (k + 1) j
    simp only [fvA, List.getElem?_cons_succ, this]
    rw [show k + 1 + j = k + (j + 1) by omega]
theorem fvA_len (r : Nat → Nat) (s : St) : ∀ (F : List Fd) (k : Nat), (fvA r s k F).length = F.length
  | [], _ => rfl
  | f :: fs, k => by simp [fvA, fvA_len r s fs (k + 1)]
theorem fvA_set {r : Nat → Nat} {s : St} {F : List Fd} {j : Nat} {f : Fd} {z : Int32} (hF : F[j]? = some f) (ht : isA f.2.2 = false) : (fvA r s 0 F).set j (.int z) = fvA r (setI s j z) 0 F := by
  apply List.ext_getElem?
  intro k
  rw [List.getElem?_set, fvA_get, fvA_get, Nat.zero_add]
  by_cases h : j = k
  · subst h
    simp only [if_true, fvA_len, (List.getElem?_eq_some_iff.mp hF).1, hF, Option.map_some]
    congr 1
    unfold fv1
    split
    · rename_i t e; rw [e] at ht; cases ht
    · simp [setI_1]
  · simp only [h, if_false]
    cases F[k]? with
    | none => rfl
    | some g =>
      simp only [Option.map_some]
      congr 1
      unfold fv1
      split
      · rfl
      · rw [setI_1, if_neg (Ne.symm h)]
theorem fvA_same (r : Nat → Nat) {s s' : St} (h : s.1 = s'.1) : ∀ (F : List Fd) (k : Nat), fvA r s k F = fvA r s' k F
  | [], _ => rfl
  | f :: fs, k => by
    simp only [fvA, fvA_same r h fs (k + 1)]
    congr 1
    unfold fv1
    split
    · rfl
    · rw [h]
/-- the heap K s shows the object at o, its arrays at r, as s tells -/
def View (G : Ctx) (Ln : Nat → Nat) (K : St → MHeap) (o : Nat) (r : Nat → Nat) : Prop :=
  k0 G ≤ o ∧ (∀ s, (K s)[o]? = some (.inl (fvA r s 0 (gF G)))) ∧
  (∀ s j f z, (gF G)[j]? = some f → isA f.2.2 = false → (K s).set o (.inl ((fvA r s 0 (gF G)).set j (.int z))) = K (setI s j z)) ∧
  (∀ j n d t, (gF G)[j]? = some (n, d, .array t) → k0 G ≤ r j ∧ (∀ s, (K s)[r j]? = some (.inr (isB t, tab (Ln j) (s.2 j)))) ∧ ∀ s i z, i < Ln j → (K s).set (r j) (.inr (isB t, (tab (Ln j) (s.2 j)).set i z)) = K (setA s j i z))
section ViewRules
variable {G : Ctx} {M : Mi} {pc : Nat} {L : List Slot} {S : List Value} {rr : Option Value × MHeap} {Ln : Nat → Nat} {K : St → MHeap} {o : Nat} {r : Nat → Nat} {s : St}
theorem Ev.gI {idx j : Nat} {n d : String} {ty : FieldType} (V : View G Ln K o r) (w : (Jvm.Cond.fieldLink (mN M).cls idx (gC G) n d).before (gA G) (gZ G) = true) (hd : decode (mB M) pc = .ok (.getfield idx, 3)) (hF : (gF G)[j]? = some (n, d, ty)) (ht : isA ty = false)
    (hn : Ev G M (pc + 3) L (.int (s.1 j) :: S) (K s) rr) : Ev G M pc L (.ref o :: S) (K s) rr :=
  Ev.getfield w hd hF (V.2.1 s) (v := .int (s.1 j)) (by rw [fvA_get, hF, Nat.zero_add]; simp only [Option.map_some, fv1]; cases ty <;> first | rfl | cases ht) hn
theorem Ev.gAr {idx j : Nat} {n d : String} {t : FieldType} (V : View G Ln K o r) (w : (Jvm.Cond.fieldLink (mN M).cls idx (gC G) n d).before (gA G) (gZ G) = true) (hd : decode (mB M) pc = .ok (.getfield idx, 3)) (hF : (gF G)[j]? = some (n, d, .array t))
    (hn : Ev G M (pc + 3) L (.ref (r j) :: S) (K s) rr) : Ev G M pc L (.ref o :: S) (K s) rr :=
  Ev.getfield w hd hF (V.2.1 s) (v := .ref (r j)) (by rw [fvA_get, hF, Nat.zero_add]; rfl) hn
theorem Ev.pI {idx j : Nat} {n d : String} {z : Int32} (V : View G Ln K o r) (Kk : GOk G) (w : (Jvm.Cond.fieldLink (mN M).cls idx (gC G) n d).before (gA G) (gZ G) = true)
    (wl : (Jvm.Cond.lays (gC G) (gC G) n d).before (gA G) (gZ G) = true ∨ ((Jvm.Cond.laysFinal (gC G) (gC G) n d).before (gA G) (gZ G) = true ∧ (mN M).cls = gC G ∧ (mN M).name = "<init>"))
    (hd : decode (mB M) pc = .ok (.putfield idx, 3)) (hF : (gF G)[j]? = some (n, d, .int)) (hn : Ev G M (pc + 3) L S (K (setI s j z)) rr) : Ev G M pc L (.int z :: .ref o :: S) (K s) rr := by
  refine Ev.putfield Kk w wl hd hF V.1 (V.2.1 s) (v' := .int z) rfl ?_
  rw [V.2.2.1 s j _ z hF rfl]; exact hn
theorem Ev.pZ {idx j : Nat} {n d : String} {z : Int32} (V : View G Ln K o r) (Kk : GOk G) (w : (Jvm.Cond.fieldLink (mN M).cls idx (gC G) n d).before (gA G) (gZ G) = true)
    (wl : (Jvm.Cond.lays (gC G) (gC G) n d).before (gA G) (gZ G) = true ∨ ((Jvm.Cond.laysFinal (gC G) (gC G) n d).before (gA G) (gZ G) = true ∧ (mN M).cls = gC G ∧ (mN M).name = "<init>"))
    (hd : decode (mB M) pc = .ok (.putfield idx, 3)) (hF : (gF G)[j]? = some (n, d, .boolean)) (hn : Ev G M (pc + 3) L S (K (setI s j (z &&& 1))) rr) : Ev G M pc L (.int z :: .ref o :: S) (K s) rr := by
  refine Ev.putfield Kk w wl hd hF V.1 (V.2.1 s) (v' := .int (z &&& 1)) rfl ?_
  rw [V.2.2.1 s j _ _ hF rfl]; exact hn
theorem Ev.ial {j : Nat} {n d : String} {i : Int32} {N : Nat} (V : View G Ln K o r) (hF : (gF G)[j]? = some (n, d, .array .int)) (hN : Ln j = N) (hd : decode (mB M) pc = .ok (.iaload, 1)) (hb : inb i N) (hn : Ev G M (pc + 1) L (.int (s.2 j (ix i)) :: S) (K s) rr) : Ev G M pc L (.int i :: .ref (r j) :: S) (K s) rr :=
  Ev.iaload hd ((V.2.2.2 j n d _ hF).2.1 s) hb.1 (tab_get (hN ▸ hb.2)) hn
theorem Ev.bal {j : Nat} {n d : String} {i : Int32} {N : Nat} (V : View G Ln K o r) (hF : (gF G)[j]? = some (n, d, .array .boolean)) (hN : Ln j = N) (hd : decode (mB M) pc = .ok (.baload, 1)) (hb : inb i N) (hn : Ev G M (pc + 1) L (.int (s.2 j (ix i)) :: S) (K s) rr) : Ev G M pc L (.int i :: .ref (r j) :: S) (K s) rr :=
  Ev.baload hd ((V.2.2.2 j n d _ hF).2.1 s) hb.1 (tab_get (hN ▸ hb.2)) hn
theorem Ev.ias {j : Nat} {n d : String} {i z : Int32} {N : Nat} (V : View G Ln K o r) (hF : (gF G)[j]? = some (n, d, .array .int)) (hN : Ln j = N) (hd : decode (mB M) pc = .ok (.iastore, 1)) (hb : inb i N) (hn : Ev G M (pc + 1) L S (K (setA s j (ix i) z)) rr) : Ev G M pc L (.int z :: .int i :: .ref (r j) :: S) (K s) rr := by
  obtain ⟨q1, q2, q3⟩ := V.2.2.2 j n d _ hF
  refine Ev.iastore hd q1 (q2 s) hb.1 (by rw [tab_len, hN]; exact hb.2) ?_
  have := q3 s (ix i) z (hN ▸ hb.2)
  exact this ▸ hn
theorem Ev.bas {j : Nat} {n d : String} {i z : Int32} {N : Nat} (V : View G Ln K o r) (hF : (gF G)[j]? = some (n, d, .array .boolean)) (hN : Ln j = N) (hd : decode (mB M) pc = .ok (.bastore, 1)) (hb : inb i N) (hn : Ev G M (pc + 1) L S (K (setA s j (ix i) (z &&& 1))) rr) : Ev G M pc L (.int z :: .int i :: .ref (r j) :: S) (K s) rr := by
  obtain ⟨q1, q2, q3⟩ := V.2.2.2 j n d _ hF
  refine Ev.bastore hd q1 (q2 s) hb.1 (by rw [tab_len, hN]; exact hb.2) ?_
  have := q3 s (ix i) (z &&& 1) (hN ▸ hb.2)
  exact this ▸ hn
theorem Ev.sal {h : MHeap} {i : Int32} {N k : Nat} {f : Nat → Int32} (hs : h[k]? = some (.inr (false, tab N f))) (hd : decode (mB M) pc = .ok (.iaload, 1)) (hb : inb i N) (hn : Ev G M (pc + 1) L (.int (f (ix i)) :: S) h rr) : Ev G M pc L (.int i :: .ref k :: S) h rr :=
  Ev.iaload hd hs hb.1 (tab_get hb.2) hn
theorem Ev.sln {h : MHeap} {N k : Nat} {f : Nat → Int32} (hs : h[k]? = some (.inr (false, tab N f))) (hd : decode (mB M) pc = .ok (.arraylength, 1)) (hn : Ev G M (pc + 1) L (.int N.toInt32 :: S) h rr) : Ev G M pc L (.ref k :: S) h rr :=
  Ev.arraylength hd hs (by rw [tab_len]; exact hn)
theorem Ev.zret1 {h : MHeap} (hret : mR M = some .boolean) (hd : decode (mB M) pc = .ok (.ireturn, 1)) : Ev G M pc L (.int 1 :: S) h (some (.int 1), h) := Ev.zreturn hret hd
theorem Ev.zret0 {h : MHeap} (hret : mR M = some .boolean) (hd : decode (mB M) pc = .ok (.ireturn, 1)) : Ev G M pc L (.int 0 :: S) h (some (.int 0), h) := Ev.zreturn hret hd
/-- a slot over which an int may be stored at once -/
def one1 : Slot → Bool
  | .unset => true
  | .val v => v.category == 1
  | .second => false
theorem mst_one {l : List Slot} {i : Nat} {v : Value} {o : Slot} (ho : l[i]? = some o) (h1 : one1 o = true) (hv : v.category = 1) : mst l i v = some (l.set i (.val v)) := by
  have hlt := (List.getElem?_eq_some_iff.mp ho).1
  have e : lstoreSelf l i v = some (l.set i (.val v)) := by simp [lstoreSelf, lsetAt, hlt, hv]
  unfold mst
  rw [ho]
  cases o with
  | unset => exact e
  | second => cases h1
  | val w =>
    have : w.category = 1 := by simpa [one1] using h1
    simp only [this]
    exact e
theorem Ev.istD {k : Nat} {v : Int32} {L' : List Slot} {o : Slot} {h : MHeap} (hd : decode (mB M) pc = .ok (.istore k, 2)) (ho : L[k]? = some o) (h1 : one1 o = true) (hl : L.set k (.val (.int v)) = L') (hn : Ev G M (pc + 2) L' S h rr) : Ev G M pc L (.int v :: S) h rr :=
  Ev.istore hd (by rw [mst_one ho h1 rfl, hl]) hn
theorem Ev.istDN {k : Fin 4} {v : Int32} {L' : List Slot} {o : Slot} {h : MHeap} (hd : decode (mB M) pc = .ok (.istore_n k, 1)) (ho : L[k.val]? = some o) (h1 : one1 o = true) (hl : L.set k.val (.val (.int v)) = L') (hn : Ev G M (pc + 1) L' S h rr) : Ev G M pc L (.int v :: S) h rr :=
  Ev.istoreN hd (by rw [mst_one ho h1 rfl, hl]) hn
/-- a pair of slots over which a long may be stored at once -/
def two2 (a b : Slot) : Prop := (one1 a = true ∧ one1 b = true) ∨ (∃ x, a = .val (.long x) ∧ b = .second)
theorem set_set2 {l : List Slot} {i : Nat} {a b c : Slot} : ((l.set (i + 1) a).set i b).set (i + 1) c = (l.set i b).set (i + 1) c := by
  rw [List.set_comm _ _ (by omega : i + 1 ≠ i), List.set_set]
theorem mst_two {l : List Slot} {i : Nat} {v : Int64} {o o' : Slot} (ho : l[i]? = some o) (ho' : l[i + 1]? = some o') (h2 : two2 o o') : mst l i (.long v) = some ((l.set i (.val (.long v))).set (i + 1) .second) := by
  have hlt := (List.getElem?_eq_some_iff.mp ho).1
  have hlt' := (List.getElem?_eq_some_iff.mp ho').1
  rcases h2 with ⟨h1, h1'⟩ | ⟨x, rfl, rfl⟩
  · have e : lstoreSelf l i (.long v) = some ((l.set i (.val (.long v))).set (i + 1) .second) := by
      have q : (l.set i (.val (.long v)))[i + 1]? = some o' := by rw [List.getElem?_set_ne (by omega)]; exact ho'
      have hcat : (Value.long v).category = 2 := rfl
      simp only [lstoreSelf, lsetAt, hlt, if_true, hcat, q]
      cases o' with
      | unset => simp [hlt']
      | second => cases h1'
      | val w =>
        have : w.category = 1 := by simpa [one1] using h1'
        simp [this, hlt']
    unfold mst
    rw [ho]
    cases o with
    | unset => exact e
    | second => cases h1
    | val w =>
      have : w.category = 1 := by simpa [one1] using h1
      simp only [this]
      exact e
  · unfold mst
    rw [ho]
    have q : ((l.set (i + 1) Slot.unset).set i (.val (.long v)))[i + 1]? = some .unset := by
      rw [List.getElem?_set_ne (by omega), List.getElem?_set_self hlt']
    simp only [Value.category, if_true, lsetAt, hlt', lstoreSelf, List.length_set, hlt, q, set_set2]
theorem Ev.lstD {k : Nat} {v : Int64} {L' : List Slot} {o o' : Slot} {h : MHeap} (hd : decode (mB M) pc = .ok (.lstore k, 2)) (ho : L[k]? = some o) (ho' : L[k + 1]? = some o') (h2 : two2 o o') (hl : (L.set k (.val (.long v))).set (k + 1) .second = L') (hn : Ev G M (pc + 2) L' S h rr) : Ev G M pc L (.long v :: S) h rr :=
  Ev.lstore hd (by rw [mst_two ho ho' h2, hl]) hn
theorem Ev.lstDN {k : Fin 4} {v : Int64} {L' : List Slot} {o o' : Slot} {h : MHeap} (hd : decode (mB M) pc = .ok (.lstore_n k, 1)) (ho : L[k.val]? = some o) (ho' : L[k.val + 1]? = some o') (h2 : two2 o o') (hl : (L.set k.val (.val (.long v))).set (k.val + 1) .second = L') (hn : Ev G M (pc + 1) L' S h rr) : Ev G M pc L (.long v :: S) h rr :=
  Ev.lstoreN hd (by rw [mst_two ho ho' h2, hl]) hn
end ViewRules
/-! ## 5. One object among others -/
/-- al: the array fields in the order in which the constructor makes them, each with 'of booleans' -/
def rA (o : Nat) (al : List (Nat × Bool)) (j : Nat) : Nat := o + 1 + al.findIdx (fun q => q.1 == j)
def arr1 (Ln : Nat → Nat) (s : St) (q : Nat × Bool) : MCell := .inr (q.2, tab (Ln q.1) (s.2 q.1))
def KO (F : List Fd) (al : List (Nat × Bool)) (Ln : Nat → Nat) (o : Nat) (s : St) : MHeap := .inl (fvA (rA o al) s 0 F) :: al.map (arr1 Ln s)
def KH (F : List Fd) (al : List (Nat × Bool)) (Ln : Nat → Nat) (pre post : MHeap) (s : St) : MHeap := pre ++ (KO F al Ln pre.length s ++ post)
def alOk (F : List Fd) (al : List (Nat × Bool)) : Bool := (List.range F.length).all (fun j => match F[j]? with
  | some (_, _, .array t) => al[al.findIdx (fun q => q.1 == j)]? == some (j, isB t)
  | _ => true)
theorem KO_len {F : List Fd} {al : List (Nat × Bool)} {Ln : Nat → Nat} {o : Nat} {s : St} : (KO F al Ln o s).length = al.length + 1 := by simp [KO]
theorem app_get (pre post l : MHeap) (k : Nat) (h : k < l.length) : (pre ++ (l ++ post))[pre.length + k]? = l[k]? := by
  rw [List.getElem?_append_right (by omega), Nat.add_sub_cancel_left, List.getElem?_append_left h]
theorem app_set (pre post l : MHeap) (k : Nat) (c : MCell) (h : k < l.length) : (pre ++ (l ++ post)).set (pre.length + k) c = pre ++ (l.set k c ++ post) := by
  rw [List.set_append_right _ _ (by omega), Nat.add_sub_cancel_left, List.set_append_left _ _ h]
theorem view_of {G : Ctx} {al : List (Nat × Bool)} {Ln : Nat → Nat} {pre post : MHeap} (hk : k0 G ≤ pre.length) (h1 : alOk (gF G) al = true) (h2 : (al.map (·.1)).Nodup) :
    View G Ln (KH (gF G) al Ln pre post) pre.length (rA pre.length al) := by
  refine ⟨hk, fun s => ?_, fun s j f z hF ht => ?_, fun j n d t hF => ?_⟩
  · have := app_get pre post (KO (gF G) al Ln pre.length s) 0 (by rw [KO_len]; omega)
    exact this
  · have := app_set pre post (KO (gF G) al Ln pre.length s) 0 (.inl ((fvA (rA pre.length al) s 0 (gF G)).set j (.int z))) (by rw [KO_len]; omega)
    refine Eq.trans this ?_
    show pre ++ ((.inl _ :: al.map (arr1 Ln s)) ++ post) = pre ++ ((.inl _ :: al.map (arr1 Ln (setI s j z))) ++ post)
    rw [fvA_set hF ht]
    rfl
  · have hj : j < (gF G).length := (List.getElem?_eq_some_iff.mp hF).1
    have hq := List.all_eq_true.mp h1 j (List.mem_range.mpr hj)
    simp only [hF, beq_iff_eq] at hq
    have hlt := (List.getElem?_eq_some_iff.mp hq).1
    have hlen : ∀ s, al.findIdx (fun q => q.1 == j) + 1 < (KO (gF G) al Ln pre.length s).length := fun s => by rw [KO_len]; omega
    have hr : rA pre.length al j = pre.length + (al.findIdx (fun q => q.1 == j) + 1) := by unfold rA; omega
    refine ⟨by rw [hr]; omega, fun s => ?_, fun s i z hi => ?_⟩
    · rw [hr]
      refine (app_get pre post _ _ (hlen s)).trans ?_
      show (al.map (arr1 Ln s))[al.findIdx fun q => q.1 == j]? = _
      rw [List.getElem?_map, hq]
      rfl
    · rw [hr]
      refine (app_set pre post _ _ _ (hlen s)).trans ?_
      show pre ++ ((.inl (fvA (rA pre.length al) s 0 (gF G)) :: (al.map (arr1 Ln s)).set (al.findIdx fun q => q.1 == j) (.inr (isB t, (tab (Ln j) (s.2 j)).set i z))) ++ post) = pre ++ ((.inl (fvA (rA pre.length al) (setA s j i z) 0 (gF G)) :: al.map (arr1 Ln (setA s j i z))) ++ post)
      rw [fvA_same (s := s) (s' := setA s j i z) _ rfl]
      congr 3
      apply List.ext_getElem?
      intro k
      rw [List.getElem?_set, List.getElem?_map, List.getElem?_map, List.length_map]
      by_cases e : al.findIdx (fun q => q.1 == j) = k
      · subst e
        simp only [if_true, hlt, hq, Option.map_some, arr1, tab_set]
        congr 4
        funext x
        rw [setA_2]
        simp
      · simp only [e, if_false]
        cases hk2 : al[k]? with
        | none => rfl
        | some q =>
          simp only [Option.map_some, arr1]
          have ne : q.1 ≠ j := fun hqj => by
            have a1 : (al.map (·.1))[al.findIdx (fun q => q.1 == j)]? = some j := by rw [List.getElem?_map, hq]; rfl
            have a2 : (al.map (·.1))[k]? = some j := by rw [List.getElem?_map, hk2]; simp [hqj]
            have := (List.getElem?_inj (by rw [List.length_map]; exact hlt) h2).mp (a1.trans a2.symm)
            exact e this
          congr 4
          funext x
          rw [setA_2]
          simp [ne]
/-! ### while the constructor makes the arrays -/
def cons (pre : MHeap) (fs : List Value) (as : List (Bool × List Int32)) : MHeap := pre ++ (.inl fs :: as.map .inr)
section ConsRules
variable {G : Ctx} {M : Mi} {pc : Nat} {L : List Slot} {S : List Value} {rr : Option Value × MHeap} {pre : MHeap} {fs fs' : List Value} {as : List (Bool × List Int32)}
theorem cons_get : (cons pre fs as)[pre.length]? = some (.inl fs) := by unfold cons; rw [List.getElem?_append_right (Nat.le_refl _), Nat.sub_self]; rfl
theorem cons_set (c : List Value) : (cons pre fs as).set pre.length (.inl c) = cons pre c as := by unfold cons; rw [List.set_append_right _ _ (Nat.le_refl _), Nat.sub_self]; rfl
theorem cons_len : (cons pre fs as).length = pre.length + 1 + as.length := by simp [cons]; omega
theorem cons_push (b : Bool) (xs : List Int32) : cons pre fs as ++ [.inr (b, xs)] = cons pre fs (as ++ [(b, xs)]) := by simp [cons]
theorem Ev.cput {idx j : Nat} {n d : String} {ty : FieldType} {v v' : Value} (K : GOk G) (hk : k0 G ≤ pre.length) (w : (Jvm.Cond.fieldLink (mN M).cls idx (gC G) n d).before (gA G) (gZ G) = true)
    (wl : (Jvm.Cond.lays (gC G) (gC G) n d).before (gA G) (gZ G) = true ∨ ((Jvm.Cond.laysFinal (gC G) (gC G) n d).before (gA G) (gZ G) = true ∧ (mN M).cls = gC G ∧ (mN M).name = "<init>"))
    (hd : decode (mB M) pc = .ok (.putfield idx, 3)) (hF : (gF G)[j]? = some (n, d, ty)) (hp : mput ty v = some v') (hs : fs.set j v' = fs') (hn : Ev G M (pc + 3) L S (cons pre fs' as) rr) : Ev G M pc L (v :: .ref pre.length :: S) (cons pre fs as) rr := by
  subst hs
  refine Ev.putfield K w wl hd hF hk cons_get hp ?_
  rw [cons_set]; exact hn
theorem Ev.cget {idx j : Nat} {n d : String} {ty : FieldType} {v : Value} (w : (Jvm.Cond.fieldLink (mN M).cls idx (gC G) n d).before (gA G) (gZ G) = true) (hd : decode (mB M) pc = .ok (.getfield idx, 3)) (hF : (gF G)[j]? = some (n, d, ty)) (hv : fs[j]? = some v)
    (hn : Ev G M (pc + 3) L (v :: S) (cons pre fs as) rr) : Ev G M pc L (.ref pre.length :: S) (cons pre fs as) rr := Ev.getfield w hd hF cons_get hv hn
theorem Ev.cnew {aty : ArrayType} {b : Bool} {n : Int32} {k q : Nat} {as' : List (Bool × List Int32)} (w : (Jvm.Cond.arrayClass (newarray.typeOf aty)).before (gA G) (gZ G) = true) (hb' : newarray.typeOf aty = kd b) (hd : decode (mB M) pc = .ok (.newarray aty, 2)) (hn0 : ¬ n < 0) (hk : n.toNatClampNeg = k) (hcap : k ≤ 67108864)
    (hq : as.length = q) (has : as ++ [(b, tab k (fun _ => 0))] = as') (hn : Ev G M (pc + 2) L (.ref (pre.length + 1 + q) :: S) (cons pre fs as') rr) : Ev G M pc L (.int n :: S) (cons pre fs as) rr := by
  subst hq has
  refine Ev.newarray w hb' hd hn0 hk hcap ?_
  rw [cons_push, cons_len, ← tab_zero]; exact hn
end ConsRules
theorem forall_get {P : Nat → Fd → Prop} : ∀ (F : List Fd) (k : Nat), (∀ j f, F[j]? = some f → P (k + j) f) → True := fun _ _ _ => trivial
def AllF (P : Fd → Prop) : List Fd → Prop
  | [] => True
  | f :: fs => P f ∧ AllF P fs
theorem AllF.mem {P : Fd → Prop} : ∀ {F : List Fd}, AllF P F → ∀ f ∈ F, P f
  | _ :: _, ⟨h1, h2⟩, f, hf => (List.mem_cons.mp hf).elim (fun e => e ▸ h1) (AllF.mem h2 f)
theorem gok_of {G : Ctx} (h1 : AllF (fun f => Laid (gZ G) (gA G) (gC G) (gC G) f.1 f.2.1 ∧ parseFieldDescriptor f.2.1 = some f.2.2) (gF G)) (h2 : ((gF G).map (·.1)).Nodup)
    (h3 : (Jvm.Cond.instantiable (gC G) (gK G)).before (gA G) (gZ G) = true) (h4 : (Jvm.Cond.initialized (gC G)).before (gA G) (gZ G) = true) : GOk G := by
  refine ⟨fun j n d ty hF => h1.mem _ (List.mem_of_getElem? hF), fun j j' f f' hF hF' ne e => ne ?_, h3, h4⟩
  have a1 : ((gF G).map (·.1))[j]? = some f.1 := by rw [List.getElem?_map, hF]; rfl
  have a2 : ((gF G).map (·.1))[j']? = some f.1 := by rw [List.getElem?_map, hF', e]; rfl
  exact (List.getElem?_inj (by rw [List.length_map]; exact (List.getElem?_eq_some_iff.mp hF).1) h2).mp (a1.trans a2.symm)
end Jvm.Own
namespace Jvm.Own
open Sem ClassFile Op Lib Jvm.Stand Jvm.Free Jvm.LawKit Jvm.RoadKit
def grd {α : Type} (c : Prop) [Decidable c] (x : Option α) : Option α := if c then x else none
theorem grd_some {α : Type} {c : Prop} [Decidable c] {x : Option α} {w : α} (h : grd c x = some w) : c ∧ x = some w := by
  unfold grd at h; split at h
  · exact ⟨by assumption, h⟩
  · cases h
theorem grd_pos {α : Type} {c : Prop} [Decidable c] {x : Option α} (h : c) : grd c x = x := if_pos h
theorem KH_len (F : List Fd) (al : List (Nat × Bool)) (Ln : Nat → Nat) (pre post : MHeap) (s : St) : (KH F al Ln pre post s).length = pre.length + (al.length + 1 + post.length) := by simp [KH, KO]; omega
theorem hsl_app (k : Nat) (a b : MHeap) : hsl k (a ++ b) = hsl k a + hsl k b := by simp [hsl]
theorem hsl_arr (k : Nat) (Ln : Nat → Nat) (s : St) : ∀ al : List (Nat × Bool), hsl k (al.map (arr1 Ln s)) = (al.map fun q => Ln q.1).sum
  | [] => rfl
  | q :: al => by
    have := hsl_arr k Ln s al
    simp only [hsl, List.map_cons, List.sum_cons] at this ⊢
    rw [this]
    simp [arr1, csl, tab_len]
theorem hsl_KH (k : Nat) (F : List Fd) (al : List (Nat × Bool)) (Ln : Nat → Nat) (pre post : MHeap) (s : St) : hsl k (KH F al Ln pre post s) = hsl k pre + (k + (al.map fun q => Ln q.1).sum + hsl k post) := by
  unfold KH
  rw [hsl_app, hsl_app]
  have : hsl k (KO F al Ln pre.length s) = k + (al.map fun q => Ln q.1).sum := by
    have := hsl_arr k Ln s al
    simp only [KO, hsl, List.map_cons, List.sum_cons, csl] at this ⊢
    rw [this]
  rw [this]
theorem ne_lit {x z : Int32} {k : Int} (h : ¬ x = z) (e : z.toInt = k) : x.toInt ≠ k := fun q => h (Int32.toInt_inj.mp (q.trans e.symm))
section
variable {G : Ctx} {M : Mi} {pc : Nat} {L : List Slot} {S : List Value} {rr : Option Value × MHeap}
theorem Ev.astD {k v : Nat} {L' : List Slot} {o : Slot} {h : MHeap} (hd : decode (mB M) pc = .ok (.astore k, 2)) (ho : L[k]? = some o) (h1 : one1 o = true) (hl : L.set k (.val (.ref v)) = L') (hn : Ev G M (pc + 2) L' S h rr) : Ev G M pc L (.ref v :: S) h rr :=
  Ev.astore hd (by rw [mst_one ho h1 rfl, hl]) hn
theorem Ev.astDN {k : Fin 4} {v : Nat} {L' : List Slot} {o : Slot} {h : MHeap} (hd : decode (mB M) pc = .ok (.astore_n k, 1)) (ho : L[k.val]? = some o) (h1 : one1 o = true) (hl : L.set k.val (.val (.ref v)) = L') (hn : Ev G M (pc + 1) L' S h rr) : Ev G M pc L (.ref v :: S) h rr :=
  Ev.astoreN hd (by rw [mst_one ho h1 rfl, hl]) hn
end
end Jvm.Own
namespace Jvm.Own
open Sem ClassFile Op Lib Jvm.Stand Jvm.Free Jvm.LawKit Jvm.RoadKit
section
variable {G : Ctx} {M : Mi} {pc : Nat} {L : List Slot} {S : List Value} {rr : Option Value × MHeap}
theorem mst_T {l : List Slot} {i : Nat} {v : Value} {o o' : Slot} (ho : l[i]? = some o) (ho' : l[i + 1]? = some o') (h2 : two2 o o') (hv : v.category = 1) : ∃ b, one1 b = true ∧ mst l i v = some ((l.set i (.val v)).set (i + 1) b) := by
  have hlt := (List.getElem?_eq_some_iff.mp ho).1
  have hlt' := (List.getElem?_eq_some_iff.mp ho').1
  rcases h2 with ⟨h1, h1'⟩ | ⟨x, rfl, rfl⟩
  · refine ⟨o', h1', ?_⟩
    rw [mst_one ho h1 hv]
    congr 1
    apply List.ext_getElem?
    intro k
    by_cases e : i + 1 = k
    · subst e
      rw [List.getElem?_set_self (by simpa using hlt'), List.getElem?_set_ne (by omega), ho']
    · rw [List.getElem?_set_ne e]
  · refine ⟨.unset, rfl, ?_⟩
    unfold mst
    rw [ho]
    have c2 : (Value.long x).category = 2 := rfl
    simp only [c2, if_true, lsetAt, hlt', lstoreSelf, List.length_set, hlt, hv]
    rw [List.set_comm _ _ (by omega : i + 1 ≠ i)]
    simp
theorem Ev.istT {k : Nat} {v : Int32} {L' : Slot → List Slot} {o o' : Slot} {h : MHeap} (hd : decode (mB M) pc = .ok (.istore k, 2)) (ho : L[k]? = some o) (ho' : L[k + 1]? = some o') (h2 : two2 o o') (hl : ∀ b, (L.set k (.val (.int v))).set (k + 1) b = L' b) (hn : ∀ b, one1 b = true → Ev G M (pc + 2) (L' b) S h rr) : Ev G M pc L (.int v :: S) h rr := by
  obtain ⟨b, h1, e⟩ := mst_T (v := .int v) ho ho' h2 rfl
  exact Ev.istore hd e (by rw [hl]; exact hn b h1)
theorem Ev.istTN {k : Fin 4} {v : Int32} {L' : Slot → List Slot} {o o' : Slot} {h : MHeap} (hd : decode (mB M) pc = .ok (.istore_n k, 1)) (ho : L[k.val]? = some o) (ho' : L[k.val + 1]? = some o') (h2 : two2 o o') (hl : ∀ b, (L.set k.val (.val (.int v))).set (k.val + 1) b = L' b) (hn : ∀ b, one1 b = true → Ev G M (pc + 1) (L' b) S h rr) : Ev G M pc L (.int v :: S) h rr := by
  obtain ⟨b, h1, e⟩ := mst_T (v := .int v) ho ho' h2 rfl
  exact Ev.istoreN hd e (by rw [hl]; exact hn b h1)
end
section
variable {G : Ctx} {Ln : Nat → Nat} {K : St → MHeap} {o len : Nat} {r : Nat → Nat} {F : List Fd} {al : List (Nat × Bool)}
theorem View.le (V : View G Ln K o r) (s : St) : k0 G ≤ (K s).length := Nat.le_trans V.1 (Nat.le_of_lt (List.getElem?_eq_some_iff.mp (V.2.1 s)).1)
theorem View.app (V : View G Ln K o r) (X : MHeap) : View G Ln (fun s => K s ++ X) o r := by
  refine ⟨V.1, fun s => ?_, fun s j f z hF ht => ?_, fun j n d t hF => ?_⟩
  · show (K s ++ X)[o]? = _
    rw [List.getElem?_append_left (List.getElem?_eq_some_iff.mp (V.2.1 s)).1]; exact V.2.1 s
  · show (K s ++ X).set o _ = _
    rw [List.set_append_left _ _ (List.getElem?_eq_some_iff.mp (V.2.1 s)).1, V.2.2.1 s j f z hF ht]
  · obtain ⟨q1, q2, q3⟩ := V.2.2.2 j n d t hF
    refine ⟨q1, fun s => ?_, fun s i z hi => ?_⟩
    · show (K s ++ X)[r j]? = _
      rw [List.getElem?_append_left (List.getElem?_eq_some_iff.mp (q2 s)).1]; exact q2 s
    · show (K s ++ X).set (r j) _ = _
      rw [List.set_append_left _ _ (List.getElem?_eq_some_iff.mp (q2 s)).1, q3 s i z hi]
theorem View.app2 (V : View G Ln K o r) (hl : ∀ s, (K s).length = len) (t : St) : View G Ln (fun s => KH F al Ln (K s) [] t) o r := by
  have e : (fun s => KH F al Ln (K s) [] t) = fun s => K s ++ (KO F al Ln len t ++ []) := by
    funext s; unfold KH; rw [hl]
  rw [e]
  exact V.app _
theorem app2_get (V : View G Ln K o r) {s t : St} {c : MCell} (h : (K s)[0]? = some c) : (KH F al Ln (K s) [] t)[0]? = some c := by
  unfold KH
  rw [List.getElem?_append_left (List.getElem?_eq_some_iff.mp h).1]; exact h
end
end Jvm.Own
namespace Jvm.Own
open Sem ClassFile Op Lib Jvm.Stand Jvm.Free Jvm.LawKit Jvm.RoadKit
def toI : Value → Int32
  | .int z => z
  | _ => 0
theorem script_rel {s : State} {a : Nat} {cl : Cell} {args : Array Value} {l : Launch} {C : String} {F : List Fd} {k : Nat} (hf : Fit s) (A : Arr s s.heap a cl .int) :
    ∃ xs : List Int32, xs.length = cl.slots.size ∧ Rel (s, args, l, some a, s.heap.size, C, F, k) s.heap [.inr (false, tab xs.length (fun i => xs.getD i 0))] := by
  have hl : (cl.slots.toList.map toI).length = cl.slots.size := by simp
  refine ⟨cl.slots.toList.map toI, hl, rfl, Nat.le_refl _, fun a' q => by cases q; exact A.lt, fun i c q => ?_⟩
  match i, q with
  | 0, q =>
    cases q
    refine ⟨cl, A, ?_⟩
    rw [← tab_of]
    apply Array.ext'
    apply List.ext_getElem?
    intro j
    simp only [List.map_map, List.getElem?_map]
    cases hj : cl.slots.toList[j]? with
    | none => rfl
    | some v =>
      have hj' : cl.slots[j]? = some v := by simpa using hj
      obtain ⟨hlt, hv⟩ := Array.getElem?_eq_some_iff.mp hj'
      have q := hf A.1 hlt
      obtain ⟨hs, kk, hk, comp, hkind⟩ := A.2.1
      have e : s.slotType? cl.cls cl.vm j = some .int := by
        cases hq : cl.vm <;> first | exact absurd hq (hs _) | simp [State.slotType?, hk, hkind]
      have q2 : fits .int v = true := by rw [hv] at q; simpa [State.fitsSlot, e] using q
      obtain ⟨z, rfl⟩ := fit_I q2 (Or.inl rfl)
      rfl
theorem script_len {s : State} {args : Array Value} {t : Term} {a : Nat} {cl : Cell} (A : Arr s s.heap a cl .int) (ea : t.eval args s none [] s = some (.ref a)) (h1 : (Jvm.Cond.isInt (.length t)).value args s none s [] = some true) (h2 : (Jvm.Cond.le (.length t) (.int 260)).value args s none s [] = some true) : cl.slots.size ≤ 260 := by
  obtain ⟨z, ez⟩ := is_v h1
  have ha := A.fin (Vm.Alike.refl s.vm)
  have hlen : cl.slots.size < 2 ^ 31 := by
    rcases Nat.lt_or_ge cl.slots.size (2 ^ 31) with q | q
    · exact q
    · simp [Term.eval, ea, ha, Nat.not_lt.mpr q] at ez
  have e1 := len_f ea ha hlen
  have q : cl.slots.size.toInt32 ≤ 260 := by
    have := Cond.le_ints e1 (Term.int_eval (260 : Int32)) (args := args) (first := s) (o := none) (s := s) (idx := [])
    exact gotT this h2
  have q2 := Int32.le_iff_toInt_le.mp q
  rw [len_toInt hlen] at q2
  have : (260 : Int32).toInt = 260 := by decide
  omega
end Jvm.Own
namespace Jvm.Own
open Sem ClassFile Op Lib Jvm.Stand Jvm.Free Jvm.LawKit Jvm.RoadKit
def decs (b : ByteArray) : List (Nat × Instr × Nat) → Bool
  | [] => true
  | q :: t => decide (decode b q.1 = .ok (q.2.1, q.2.2)) && decs b t
theorem dget {b : ByteArray} : ∀ {l : List (Nat × Instr × Nat)}, decs b l = true → ∀ {k p : Nat} {i : Instr} {n : Nat}, l[k]? = some (p, i, n) → decode b p = .ok (i, n)
  | [], _, k, _, _, _, hk => by simp at hk
  | q :: t, h, 0, p, i, n, hk => by
    simp only [decs, Bool.and_eq_true, decide_eq_true_eq] at h
    simp only [List.getElem?_cons_zero, Option.some.injEq] at hk
    subst hk
    exact h.1
  | q :: t, h, k + 1, p, i, n, hk => by
    simp only [decs, Bool.and_eq_true] at h
    exact dget h.2 (by simpa using hk)
end Jvm.Own
namespace Jvm.Own
/-! ## 6. Ints of 32 bits and naturals -/
theorem N_toInt {i : Nat} (h : i < 2147483648) : (Int32.ofNat i).toInt = i := Int32.toInt_ofNat_of_lt h
theorem N_lt {i j : Nat} (hi : i < 2147483648) (hj : j < 2147483648) : Int32.ofNat i < Int32.ofNat j ↔ i < j := by
  rw [Int32.lt_iff_toInt_lt, N_toInt hi, N_toInt hj]; omega
theorem N_inj {i j : Nat} (hi : i < 2147483648) (hj : j < 2147483648) : Int32.ofNat i = Int32.ofNat j ↔ i = j := by
  rw [← Int32.toInt_inj, N_toInt hi, N_toInt hj]; omega
theorem N_succ (i : Nat) : Int32.ofNat i + 1 = Int32.ofNat (i + 1) := (Int32.ofNat_add i 1).symm
theorem N_add (i j : Nat) : Int32.ofNat i + Int32.ofNat j = Int32.ofNat (i + j) := (Int32.ofNat_add i j).symm
theorem N_mul (i j : Nat) : Int32.ofNat i * Int32.ofNat j = Int32.ofNat (i * j) := (Int32.ofNat_mul i j).symm
theorem N_neg {i : Nat} (h : i < 2147483648) : ¬ Int32.ofNat i < 0 := by
  rw [Int32.lt_iff_toInt_lt, N_toInt h]; simp
theorem ix_N {i : Nat} (h : i < 2147483648) : ix (Int32.ofNat i) = i := by
  unfold ix Int32.toNatClampNeg; rw [N_toInt h]; simp
theorem inb_N {i n : Nat} (h : i < 2147483648) : inb (Int32.ofNat i) n ↔ i < n := by
  unfold inb; rw [ix_N h]; exact ⟨fun q => q.2, fun q => ⟨N_neg h, q⟩⟩
theorem ix_toInt {x : Int32} (h : ¬ x < 0) : (ix x : Int) = x.toInt := by
  unfold ix Int32.toNatClampNeg
  rw [Int32.lt_iff_toInt_lt] at h
  have : (0 : Int32).toInt = 0 := rfl
  omega
theorem ix_lt (x : Int32) : ix x < 2147483648 := by
  unfold ix Int32.toNatClampNeg
  have := Int32.toInt_lt x
  omega
theorem N_ix {x : Int32} (h : ¬ x < 0) : Int32.ofNat (ix x) = x := by
  rw [← Int32.toInt_inj, N_toInt (ix_lt x), ix_toInt h]
theorem ix_eq {x y : Int32} (hx : ¬ x < 0) (hy : ¬ y < 0) : ix x = ix y ↔ x = y := by
  refine ⟨fun e => ?_, fun e => e ▸ rfl⟩
  rw [← N_ix hx, ← N_ix hy, e]
theorem rng (x : Int32) : -2147483648 ≤ x.toInt ∧ x.toInt < 2147483648 := ⟨Int32.le_toInt x, Int32.toInt_lt x⟩
theorem lt_I {x y : Int32} : x < y ↔ x.toInt < y.toInt := Int32.lt_iff_toInt_lt
theorem le_I {x y : Int32} : x ≤ y ↔ x.toInt ≤ y.toInt := Int32.le_iff_toInt_le
theorem eq_I {x y : Int32} : x = y ↔ x.toInt = y.toInt := Int32.toInt_inj.symm
theorem bmod_eq {x : Int} (h1 : -2147483648 ≤ x) (h2 : x < 2147483648) : x.bmod (2 ^ 32) = x := by
  apply Int.bmod_eq_of_le <;> omega
theorem add_I {x y : Int32} (h1 : -2147483648 ≤ x.toInt + y.toInt) (h2 : x.toInt + y.toInt < 2147483648) : (x + y).toInt = x.toInt + y.toInt := by
  rw [Int32.toInt_add]; exact bmod_eq h1 h2
theorem sub_I {x y : Int32} (h1 : -2147483648 ≤ x.toInt - y.toInt) (h2 : x.toInt - y.toInt < 2147483648) : (x - y).toInt = x.toInt - y.toInt := by
  rw [Int32.toInt_sub]; exact bmod_eq h1 h2
theorem mul_I {x y : Int32} (h1 : -2147483648 ≤ x.toInt * y.toInt) (h2 : x.toInt * y.toInt < 2147483648) : (x * y).toInt = x.toInt * y.toInt := by
  rw [Int32.toInt_mul]; exact bmod_eq h1 h2
theorem inb_I {x : Int32} {n : Nat} (h1 : 0 ≤ x.toInt) (h2 : x.toInt < n) : inb x n := by
  have h : ¬ x < 0 := by rw [lt_I]; have : (0 : Int32).toInt = 0 := rfl; omega
  refine ⟨h, ?_⟩
  have := ix_toInt h
  omega
/-- an int between 0 and n is one of them -/
theorem cases_N {x : Int32} {n : Nat} (hn : n < 2147483648) (h0 : ¬ x < 0) (h1 : x < Int32.ofNat n) : ∃ i, i < n ∧ x = Int32.ofNat i := by
  refine ⟨ix x, ?_, (N_ix h0).symm⟩
  have a := ix_toInt h0
  rw [lt_I, N_toInt hn] at h1
  omega
/-! ## 7. Loops that count from i to N -/
def itr {α : Type} (f : Nat → α → α) : Nat → Nat → α → α
  | _, 0, s => s
  | i, m + 1, s => itr f (i + 1) m (f i s)
theorem loopN {α β : Type} {F : Nat → Int32 → α → Option β} {N : Nat} {f : Nat → α → α} {fin : α → Option β}
    (hF : ∀ k i s, i < N → F (k + 1) (Int32.ofNat i) s = F k (Int32.ofNat i + 1) (f i s)) (hE : ∀ k s, F (k + 1) (Int32.ofNat N) s = fin s) :
    ∀ m i k s, i + m = N → m < k → F k (Int32.ofNat i) s = fin (itr f i m s) := by
  intro m
  induction m with
  | zero =>
    intro i k s hi hk
    obtain ⟨k, rfl⟩ : ∃ k', k = k' + 1 := ⟨k - 1, by omega⟩
    have : i = N := by omega
    subst this
    exact hE k s
  | succ m ih =>
    intro i k s hi hk
    obtain ⟨k, rfl⟩ : ∃ k', k = k' + 1 := ⟨k - 1, by omega⟩
    rw [hF k i s (by omega), N_succ]
    exact ih (i + 1) k _ (by omega) (by omega)
theorem itr_ind {α : Type} {f : Nat → α → α} {P : Nat → α → Prop} {N : Nat} (h : ∀ i s, i < N → P i s → P (i + 1) (f i s)) : ∀ m i s, i + m = N → P i s → P N (itr f i m s) := by
  intro m
  induction m with
  | zero => intro i s hi hp; have : i = N := by omega
            subst this; exact hp
  | succ m ih => intro i s hi hp; exact ih (i + 1) _ (by omega) (h i s (by omega) hp)
theorem itr_pt {f : Nat → St → St} {u : Nat → Int32 → Int32} (h1 : ∀ i s, (f i s).1 = s.1) (h2 : ∀ i s k x, (f i s).2 k x = if x = i then u k (s.2 k x) else s.2 k x) :
    ∀ m i s, itr f i m s = (s.1, fun k x => if i ≤ x ∧ x < i + m then u k (s.2 k x) else s.2 k x) := by
  intro m
  induction m with
  | zero =>
    intro i s
    refine Prod.ext rfl ?_
    funext k x
    have : ¬ (i ≤ x ∧ x < i + 0) := by omega
    simp only [this, if_false]
    rfl
  | succ m ih =>
    intro i s
    show itr f (i + 1) m (f i s) = _
    rw [ih]
    refine Prod.ext (h1 i s) ?_
    funext k x
    simp only [h2]
    by_cases e : x = i
    · subst e
      have a : ¬ (x + 1 ≤ x ∧ x < x + 1 + m) := by omega
      have b : x ≤ x ∧ x < x + (m + 1) := by omega
      simp only [a, b, if_false, if_true, and_self]
    · have : (i + 1 ≤ x ∧ x < i + 1 + m) ↔ (i ≤ x ∧ x < i + (m + 1)) := by omega
      simp only [this, e, if_false]
theorem itr_fill (K : Nat) (z : Int32) (m : Nat) (s : St) : itr (fun i s => setA s K i z) 0 m s = (s.1, fun k x => if k = K ∧ x < m then z else s.2 k x) := by
  rw [itr_pt (f := fun i s => setA s K i z) (u := fun k v => if k = K then z else v) (fun _ _ => rfl) (fun i s j x => by
    simp only [setA_2]
    by_cases e : x = i <;> by_cases e1 : j = K <;> simp [e, e1])]
  refine Prod.ext rfl ?_
  funext k x
  have : (0 ≤ x ∧ x < 0 + m) ↔ x < m := by omega
  simp only [this]
  by_cases e : x < m <;> by_cases e1 : k = K <;> simp [e, e1]
theorem and_rng (x : Int32) {m : Nat} (hm : m < 2147483648) : 0 ≤ (x &&& Int32.ofNat m).toInt ∧ (x &&& Int32.ofNat m).toInt ≤ m := by
  have h1 : (x &&& Int32.ofNat m).toBitVec.toNat ≤ m := by
    rw [Int32.toBitVec_and, BitVec.toNat_and]
    refine Nat.le_trans Nat.and_le_right ?_
    show (BitVec.ofNat 32 m).toNat ≤ m
    rw [BitVec.toNat_ofNat]
    exact Nat.mod_le _ _
  have h2 : (x &&& Int32.ofNat m).toInt = ((x &&& Int32.ofNat m).toBitVec.toNat : Int) := by
    show (x &&& Int32.ofNat m).toBitVec.toInt = _
    exact BitVec.toInt_eq_toNat_of_lt (by omega)
  omega
theorem idx8 {o p : Int32} (h0 : ¬ o < 0) (h3 : ¬ 3 < o) : inb (o * 8 + (p &&& 7)) 32 := by
  have a := and_rng p (m := 7) (by omega)
  rw [show Int32.ofNat 7 = (7 : Int32) from rfl] at a
  rw [lt_I] at h0 h3
  have e0 : (0 : Int32).toInt = 0 := rfl
  have e3 : (3 : Int32).toInt = 3 := rfl
  have e8 : (8 : Int32).toInt = 8 := rfl
  have em : (o * 8).toInt = o.toInt * 8 := by rw [mul_I] <;> rw [e8] <;> omega
  have ea : (o * 8 + (p &&& 7)).toInt = o.toInt * 8 + (p &&& 7).toInt := by rw [add_I] <;> rw [em] <;> omega
  exact inb_I (by omega) (by omega)
theorem idx8' {o p : Int32} (h0 : ¬ o < 0) (h3 : ¬ 3 < o) (g0 : ¬ p < 0) (g7 : ¬ 7 < p) : inb (o * 8 + p) 32 ∧ (o * 8 + p).toInt = o.toInt * 8 + p.toInt := by
  rw [lt_I] at h0 h3 g0 g7
  have e0 : (0 : Int32).toInt = 0 := rfl
  have e3 : (3 : Int32).toInt = 3 := rfl
  have e7 : (7 : Int32).toInt = 7 := rfl
  have e8 : (8 : Int32).toInt = 8 := rfl
  have em : (o * 8).toInt = o.toInt * 8 := by rw [mul_I] <;> rw [e8] <;> omega
  have ea : (o * 8 + p).toInt = o.toInt * 8 + p.toInt := by rw [add_I] <;> rw [em] <;> omega
  exact ⟨inb_I (by omega) (by omega), ea⟩
theorem inb_le {x : Int32} {m : Int32} {n : Nat} (h0 : ¬ x < 0) (h1 : ¬ m < x) (hm : m.toInt < n) : inb x n := by
  rw [lt_I] at h0 h1
  have e0 : (0 : Int32).toInt = 0 := rfl
  exact inb_I (by omega) (by omega)
theorem inb_lt {x : Int32} {m : Int32} {n : Nat} (h0 : ¬ x < 0) (h1 : x < m) (hm : m.toInt ≤ n) : inb x n := by
  rw [lt_I] at h0 h1
  have e0 : (0 : Int32).toInt = 0 := rfl
  exact inb_I (by omega) (by omega)
theorem rem_N {a N : Nat} (ha : a < 2147483648) (hN : N < 2147483648) (h0 : 0 < N) : Int32.ofNat a % Int32.ofNat N = Int32.ofNat (a % N) := by
  have h1 : a % N < N := Nat.mod_lt _ h0
  rw [← Int32.toInt_inj, Int32.toInt_mod, N_toInt ha, N_toInt hN, N_toInt (by omega)]
  rw [Int.tmod_eq_emod_of_nonneg (by omega)]
  rfl
/-- the rule of a loop that counts from i to N: P before each turn; Q of what it gives -/
theorem loopP {α β : Type} {F : Nat → Int32 → α → Option β} {N : Nat} {P : Nat → α → Prop} {Q : β → Prop}
    (hF : ∀ k i s, i < N → P i s → (∃ s', F (k + 1) (Int32.ofNat i) s = F k (Int32.ofNat i + 1) s' ∧ P (i + 1) s') ∨ ∃ r, F (k + 1) (Int32.ofNat i) s = some r ∧ Q r)
    (hE : ∀ k s, P N s → ∃ r, F (k + 1) (Int32.ofNat N) s = some r ∧ Q r) :
    ∀ m i k s, i + m = N → m < k → P i s → ∃ r, F k (Int32.ofNat i) s = some r ∧ Q r := by
  intro m
  induction m with
  | zero =>
    intro i k s hi hk hp
    obtain ⟨k, rfl⟩ : ∃ k', k = k' + 1 := ⟨k - 1, by omega⟩
    have : i = N := by omega
    subst this
    exact hE k s hp
  | succ m ih =>
    intro i k s hi hk hp
    obtain ⟨k, rfl⟩ : ∃ k', k = k' + 1 := ⟨k - 1, by omega⟩
    rcases hF k i s (by omega) hp with ⟨s', e, hp'⟩ | h
    · rw [e, N_succ]
      exact ih (i + 1) k s' (by omega) (by omega) hp'
    · exact h
theorem ltN {i j : Nat} (h : i < j) (hj : j < 2147483648) : Int32.ofNat i < Int32.ofNat j := (N_lt (by omega) hj).mpr h
theorem ltZ {i : Nat} {z : Int32} (N : Nat) (hz : Int32.ofNat N = z) (h : i < N) (hN : N < 2147483648) : Int32.ofNat i < z := hz ▸ ltN h hN
theorem nltN {i : Nat} (hi : i < 2147483648) : ¬ Int32.ofNat i < Int32.ofNat i := fun q => by rw [N_lt hi hi] at q; omega
theorem inbN {i n : Nat} (h : i < n) (hi : i < 2147483648) : inb (Int32.ofNat i) n := (inb_N hi).mpr h
def own_cl (a lo hi : Int32) : Int32 := if a < lo then lo else if hi < a then hi else a
theorem own_cl_rng {a lo hi : Int32} (h : ¬ hi < lo) : lo.toInt ≤ (own_cl a lo hi).toInt ∧ (own_cl a lo hi).toInt ≤ hi.toInt := by
  unfold own_cl
  rw [lt_I] at h
  split
  · omega
  · rename_i q; rw [lt_I] at q
    split
    · omega
    · rename_i q2; rw [lt_I] at q2; omega
theorem own_nat {x : Int32} {lo hi : Nat} (h1 : (lo : Int) ≤ x.toInt) (h2 : x.toInt ≤ hi) : ∃ N : Nat, x = Int32.ofNat N ∧ lo ≤ N ∧ N ≤ hi := by
  have := rng x
  refine ⟨x.toInt.toNat, ?_, by omega, by omega⟩
  rw [← Int32.toInt_inj, N_toInt (by omega)]; omega
theorem own_clN (a : Int32) {lo hi : Nat} (h : lo ≤ hi) (hi' : hi < 2147483648) : ∃ N : Nat, own_cl a (Int32.ofNat lo) (Int32.ofNat hi) = Int32.ofNat N ∧ lo ≤ N ∧ N ≤ hi := by
  have q := own_cl_rng (a := a) (lo := Int32.ofNat lo) (hi := Int32.ofNat hi) (fun q => by rw [N_lt (by omega) (by omega)] at q; omega)
  rw [N_toInt (by omega), N_toInt (by omega)] at q
  exact own_nat q.1 q.2
end Jvm.Own
namespace Jvm.Pilot.@@N@@
open Jvm Jvm.ClassFile Sem Op Lib Jvm.Free Jvm.Stand Jvm.LawKit Jvm.RoadKit Bundle Jvm.Pilot.@@N@@.Jvm.D Jvm.Own
theorem own_ip {α : Type} {c : Prop} [Decidable c] {x y w : α} (h : c) (e : (if c then x else y) = w) : x = w := (if_pos h).symm.trans e
theorem own_iq {α : Type} {c : Prop} [Decidable c] {x y w : α} (h : ¬ c) (e : (if c then x else y) = w) : y = w := (if_neg h).symm.trans e
/-! ### the class and its words (printed by a program of this repo) -/
abbrev GT := State × Array Value × Launch × Option Addr × Nat
def flds : List Fd := [("pOp", "[I", FieldType.array FieldType.int), ("pX", "[I", FieldType.array FieldType.int), ("pY", "[I", FieldType.array FieldType.int), ("pEnc", "[I", FieldType.array FieldType.int), ("pMatch", "[I", FieldType.array FieldType.int), ("openStk", "[I", FieldType.array FieldType.int), ("inputs", "[I", FieldType.array FieldType.int), ("cOp", "[I", FieldType.array FieldType.int), ("cX", "[I", FieldType.array FieldType.int), ("cY", "[I", FieldType.array FieldType.int), ("rank", "[I", FieldType.array FieldType.int), ("slot", "[I", FieldType.array FieldType.int), ("cnt", "[I", FieldType.array FieldType.int), ("vars", "[I", FieldType.array FieldType.int), ("outCnt", "[I", FieldType.array FieldType.int), ("outVal", "[I", FieldType.array FieldType.int), ("varRes", "[I", FieldType.array FieldType.int), ("map", "[I", FieldType.array FieldType.int), ("setMask", "[I", FieldType.array FieldType.int), ("ver", "[I", FieldType.array FieldType.int), ("loopStk", "[I", FieldType.array FieldType.int), ("markStk", "[I", FieldType.array FieldType.int), ("lv", "[I", FieldType.array FieldType.int), ("ls", "[I", FieldType.array FieldType.int), ("lrm", "[Z", FieldType.array FieldType.boolean), ("sN", "[I", FieldType.array FieldType.int), ("sS", "[I", FieldType.array FieldType.int), ("hOp", "[I", FieldType.array FieldType.int), ("hA", "[I", FieldType.array FieldType.int), ("hB", "[I", FieldType.array FieldType.int), ("hVal", "[I", FieldType.array FieldType.int), ("hUsed", "[Z", FieldType.array FieldType.boolean), ("hLog", "[I", FieldType.array FieldType.int), ("cap", "I", FieldType.int), ("hFree", "I", FieldType.int), ("n", "I", FieldType.int), ("depth", "I", FieldType.int), ("compiled", "Z", FieldType.boolean), ("len0", "I", FieldType.int), ("hLogN", "I", FieldType.int), ("len1", "I", FieldType.int), ("overflow", "Z", FieldType.boolean), ("cdepth", "I", FieldType.int), ("lnum", "I", FieldType.int), ("sp", "I", FieldType.int)]
def GG (g : GT) : Ctx := (g.1, g.2.1, g.2.2.1, g.2.2.2.1, g.2.2.2.2, "RankReassociator", flds, 45)
def HW (g : GT) : Prop := ∀ d ∈ tables_1, d.before g.2.1 g.1 = true
def al : List (Nat × Bool) := [(0, false), (1, false), (2, false), (3, false), (4, false), (5, false), (6, false), (7, false), (8, false), (9, false), (10, false), (11, false), (12, false), (13, false), (14, false), (15, false), (16, false), (17, false), (18, false), (19, false), (20, false), (21, false), (22, false), (23, false), (24, true), (25, false), (26, false), (27, false), (28, false), (29, false), (30, false), (31, true), (32, false)]
def Ln (j : Nat) : Nat := [32, 32, 32, 32, 32, 3, 8, 1056, 1056, 1056, 1056, 1056, 1056, 4, 2, 64, 8, 32, 32, 4, 3, 3, 16, 16, 16, 64, 64, 2048, 2048, 2048, 2048, 2048, 1024, 0, 0, 0, 0, 0, 0, 0, 0, 0, 0, 0, 0].getD j 0
def dfl : List Value := [.null, .null, .null, .null, .null, .null, .null, .null, .null, .null, .null, .null, .null, .null, .null, .null, .null, .null, .null, .null, .null, .null, .null, .null, .null, .null, .null, .null, .null, .null, .null, .null, .null, .int 0, .int 0, .int 0, .int 0, .int 0, .int 0, .int 0, .int 0, .int 0, .int 0, .int 0, .int 0]
theorem ww {g : GT} (hw : HW g) (k : Nat) {d : Jvm.Cond} (h : tables_1[k]? = some d) : d.before (gA (GG g)) (gZ (GG g)) = true := hw _ (List.mem_of_getElem? h)
theorem fld_nd : (flds.map (·.1)).Nodup := by decide +kernel
theorem al_ok : alOk flds al = true := by decide +kernel
theorem al_nd : (al.map (·.1)).Nodup := by decide +kernel
theorem gok {g : GT} (hw : HW g) : GOk (GG g) := gok_of ⟨⟨Or.inr (ww hw 11 rfl), by decide⟩, ⟨Or.inr (ww hw 13 rfl), by decide⟩, ⟨Or.inr (ww hw 15 rfl), by decide⟩, ⟨Or.inr (ww hw 17 rfl), by decide⟩, ⟨Or.inr (ww hw 19 rfl), by decide⟩, ⟨Or.inr (ww hw 21 rfl), by decide⟩, ⟨Or.inr (ww hw 23 rfl), by decide⟩, ⟨Or.inr (ww hw 25 rfl), by decide⟩, ⟨Or.inr (ww hw 27 rfl), by decide⟩, ⟨Or.inr (ww hw 29 rfl), by decide⟩, ⟨Or.inr (ww hw 31 rfl), by decide⟩, ⟨Or.inr (ww hw 33 rfl), by decide⟩, ⟨Or.inr (ww hw 35 rfl), by decide⟩, ⟨Or.inr (ww hw 37 rfl), by decide⟩, ⟨Or.inr (ww hw 39 rfl), by decide⟩, ⟨Or.inr (ww hw 41 rfl), by decide⟩, ⟨Or.inr (ww hw 43 rfl), by decide⟩, ⟨Or.inr (ww hw 45 rfl), by decide⟩, ⟨Or.inr (ww hw 47 rfl), by decide⟩, ⟨Or.inr (ww hw 49 rfl), by decide⟩, ⟨Or.inr (ww hw 51 rfl), by decide⟩, ⟨Or.inr (ww hw 53 rfl), by decide⟩, ⟨Or.inr (ww hw 55 rfl), by decide⟩, ⟨Or.inr (ww hw 57 rfl), by decide⟩, ⟨Or.inr (ww hw 60 rfl), by decide⟩, ⟨Or.inr (ww hw 62 rfl), by decide⟩, ⟨Or.inr (ww hw 64 rfl), by decide⟩, ⟨Or.inr (ww hw 66 rfl), by decide⟩, ⟨Or.inr (ww hw 68 rfl), by decide⟩, ⟨Or.inr (ww hw 70 rfl), by decide⟩, ⟨Or.inr (ww hw 72 rfl), by decide⟩, ⟨Or.inr (ww hw 74 rfl), by decide⟩, ⟨Or.inr (ww hw 76 rfl), by decide⟩, ⟨Or.inl (ww hw 78 rfl), by decide⟩, ⟨Or.inl (ww hw 80 rfl), by decide⟩, ⟨Or.inl (ww hw 92 rfl), by decide⟩, ⟨Or.inl (ww hw 114 rfl), by decide⟩, ⟨Or.inl (ww hw 116 rfl), by decide⟩, ⟨Or.inl (ww hw 135 rfl), by decide⟩, ⟨Or.inl (ww hw 145 rfl), by decide⟩, ⟨Or.inl (ww hw 147 rfl), by decide⟩, ⟨Or.inl (ww hw 149 rfl), by decide⟩, ⟨Or.inl (ww hw 151 rfl), by decide⟩, ⟨Or.inl (ww hw 205 rfl), by decide⟩, ⟨Or.inl (ww hw 207 rfl), by decide⟩, trivial⟩ fld_nd (ww hw 1 rfl) (ww hw 2 rfl)
theorem pcls : plainName "RankReassociator" = true := by first | (simp [plainName, overriddenIn]; done) | decide +kernel
theorem pclsL : plainName "RankReassociatorL3" = true := by first | (simp [plainName, overriddenIn]; done) | decide +kernel
theorem nmh : "RankReassociator" ≠ "java/lang/invoke/MethodHandle" ∧ "RankReassociator" ≠ "java/lang/invoke/VarHandle" := by decide
theorem nmhL : "RankReassociatorL3" ≠ "java/lang/invoke/MethodHandle" ∧ "RankReassociatorL3" ≠ "java/lang/invoke/VarHandle" := by decide
def M_ctor : Mi := ((⟨"RankReassociator", "<init>", "(I)V"⟩ : MethodName), prog_1_method_1_code, 3, none, 1, 12)
theorem pl_ctor : plainFor (mN M_ctor) = true := plainFor_of_name pcls
theorem nm_ctor : notMH M_ctor := nmh
theorem pd_ctor : parseMethodDescriptor (mN M_ctor).desc = some ⟨[.int], none⟩ := by decide +kernel
def M_setInput : Mi := ((⟨"RankReassociator", "setInput", "(II)Z"⟩ : MethodName), prog_1_method_15_code, 3, (some .boolean), 0, 0)
theorem pl_setInput : plainFor (mN M_setInput) = true := plainFor_of_name pcls
theorem nm_setInput : notMH M_setInput := nmh
theorem pd_setInput : parseMethodDescriptor (mN M_setInput).desc = some ⟨[.int, .int], some .boolean⟩ := by decide +kernel
def M_argumentOk : Mi := ((⟨"RankReassociator", "argumentOk", "(II)Z"⟩ : MethodName), prog_1_method_4_code, 3, (some .boolean), 0, 0)
theorem pl_argumentOk : plainFor (mN M_argumentOk) = true := plainFor_of_name pcls
theorem nm_argumentOk : notMH M_argumentOk := nmh
theorem pd_argumentOk : parseMethodDescriptor (mN M_argumentOk).desc = some ⟨[.int, .int], some .boolean⟩ := by decide +kernel
def M_isOpen : Mi := ((⟨"RankReassociator", "isOpen", "(I)Z"⟩ : MethodName), prog_1_method_7_code, 3, (some .boolean), 0, 0)
theorem pl_isOpen : plainFor (mN M_isOpen) = true := plainFor_of_name pcls
theorem nm_isOpen : notMH M_isOpen := nmh
theorem pd_isOpen : parseMethodDescriptor (mN M_isOpen).desc = some ⟨[.int], some .boolean⟩ := by decide +kernel
def M_visible : Mi := ((⟨"RankReassociator", "visible", "(I)Z"⟩ : MethodName), prog_1_method_6_code, 4, (some .boolean), 1, 14)
theorem pl_visible : plainFor (mN M_visible) = true := plainFor_of_name pcls
theorem nm_visible : notMH M_visible := nmh
theorem pd_visible : parseMethodDescriptor (mN M_visible).desc = some ⟨[.int], some .boolean⟩ := by decide +kernel
def M_operandsOk : Mi := ((⟨"RankReassociator", "operandsOk", "(III)Z"⟩ : MethodName), prog_1_method_5_code, 4, (some .boolean), 2, 29)
theorem pl_operandsOk : plainFor (mN M_operandsOk) = true := plainFor_of_name pcls
theorem nm_operandsOk : notMH M_operandsOk := nmh
theorem pd_operandsOk : parseMethodDescriptor (mN M_operandsOk).desc = some ⟨[.int, .int, .int], some .boolean⟩ := by decide +kernel
def M_usesX : Mi := ((⟨"RankReassociator", "usesX", "(I)Z"⟩ : MethodName), prog_1_method_9_code, 2, (some .boolean), 0, 0)
theorem pl_usesX : plainFor (mN M_usesX) = true := plainFor_of_name pcls
theorem nm_usesX : notMH M_usesX := nmh
theorem pd_usesX : parseMethodDescriptor (mN M_usesX).desc = some ⟨[.int], some .boolean⟩ := by decide +kernel
def M_usesY : Mi := ((⟨"RankReassociator", "usesY", "(I)Z"⟩ : MethodName), prog_1_method_8_code, 2, (some .boolean), 0, 0)
theorem pl_usesY : plainFor (mN M_usesY) = true := plainFor_of_name pcls
theorem nm_usesY : notMH M_usesY := nmh
theorem pd_usesY : parseMethodDescriptor (mN M_usesY).desc = some ⟨[.int], some .boolean⟩ := by decide +kernel
def M_store : Mi := ((⟨"RankReassociator", "store", "(III)I"⟩ : MethodName), prog_1_method_10_code, 6, (some .int), 1, 15)
theorem pl_store : plainFor (mN M_store) = true := plainFor_of_name pcls
theorem nm_store : notMH M_store := nmh
theorem pd_store : parseMethodDescriptor (mN M_store).desc = some ⟨[.int, .int, .int], some .int⟩ := by decide +kernel
def M_add : Mi := ((⟨"RankReassociator", "add", "(III)I"⟩ : MethodName), prog_1_method_3_code, 4, (some .int), 3, 44)
theorem pl_add : plainFor (mN M_add) = true := plainFor_of_name pcls
theorem nm_add : notMH M_add := nmh
theorem pd_add : parseMethodDescriptor (mN M_add).desc = some ⟨[.int, .int, .int], some .int⟩ := by decide +kernel
def M_buildVersion0 : Mi := ((⟨"RankReassociator", "buildVersion0", "()V"⟩ : MethodName), prog_1_method_23_code, 3, none, 0, 0)
theorem pl_buildVersion0 : plainFor (mN M_buildVersion0) = true := plainFor_of_name pcls
theorem nm_buildVersion0 : notMH M_buildVersion0 := nmh
theorem pd_buildVersion0 : parseMethodDescriptor (mN M_buildVersion0).desc = some ⟨[], none⟩ := by decide +kernel
def M_undoHash : Mi := ((⟨"RankReassociator", "undoHash", "(I)V"⟩ : MethodName), prog_1_method_71_code, 4, none, 0, 0)
theorem pl_undoHash : plainFor (mN M_undoHash) = true := plainFor_of_name pcls
theorem nm_undoHash : notMH M_undoHash := nmh
theorem pd_undoHash : parseMethodDescriptor (mN M_undoHash).desc = some ⟨[.int], none⟩ := by decide +kernel
def M_computeSetMasks : Mi := ((⟨"RankReassociator", "computeSetMasks", "()V"⟩ : MethodName), prog_1_method_26_code, 5, none, 0, 0)
theorem pl_computeSetMasks : plainFor (mN M_computeSetMasks) = true := plainFor_of_name pcls
theorem nm_computeSetMasks : notMH M_computeSetMasks := nmh
theorem pd_computeSetMasks : parseMethodDescriptor (mN M_computeSetMasks).desc = some ⟨[], none⟩ := by decide +kernel
def M_emit : Mi := ((⟨"RankReassociator", "emit", "(III)I"⟩ : MethodName), prog_1_method_31_code, 5, (some .int), 0, 0)
theorem pl_emit : plainFor (mN M_emit) = true := plainFor_of_name pcls
theorem nm_emit : notMH M_emit := nmh
theorem pd_emit : parseMethodDescriptor (mN M_emit).desc = some ⟨[.int, .int, .int], some .int⟩ := by decide +kernel
def M_enterLoop : Mi := ((⟨"RankReassociator", "enterLoop", "(I)V"⟩ : MethodName), prog_1_method_29_code, 4, none, 1, 16)
theorem pl_enterLoop : plainFor (mN M_enterLoop) = true := plainFor_of_name pcls
theorem nm_enterLoop : notMH M_enterLoop := nmh
theorem pd_enterLoop : parseMethodDescriptor (mN M_enterLoop).desc = some ⟨[.int], none⟩ := by decide +kernel
def M_leaveLoop : Mi := ((⟨"RankReassociator", "leaveLoop", "()V"⟩ : MethodName), prog_1_method_30_code, 3, none, 1, 16)
theorem pl_leaveLoop : plainFor (mN M_leaveLoop) = true := plainFor_of_name pcls
theorem nm_leaveLoop : notMH M_leaveLoop := nmh
theorem pd_leaveLoop : parseMethodDescriptor (mN M_leaveLoop).desc = some ⟨[], none⟩ := by decide +kernel
def M_mapAt : Mi := ((⟨"RankReassociator", "mapAt", "(I)I"⟩ : MethodName), prog_1_method_32_code, 2, (some .int), 0, 0)
theorem pl_mapAt : plainFor (mN M_mapAt) = true := plainFor_of_name pcls
theorem nm_mapAt : notMH M_mapAt := nmh
theorem pd_mapAt : parseMethodDescriptor (mN M_mapAt).desc = some ⟨[.int], some .int⟩ := by decide +kernel
def M_translateSet : Mi := ((⟨"RankReassociator", "translateSet", "(I)V"⟩ : MethodName), prog_1_method_28_code, 4, none, 1, 16)
theorem pl_translateSet : plainFor (mN M_translateSet) = true := plainFor_of_name pcls
theorem nm_translateSet : notMH M_translateSet := nmh
theorem pd_translateSet : parseMethodDescriptor (mN M_translateSet).desc = some ⟨[.int], none⟩ := by decide +kernel
def M_hashOf : Mi := ((⟨"RankReassociator", "hashOf", "(III)I"⟩ : MethodName), prog_1_method_68_code, 5, (some .int), 0, 0)
theorem pl_hashOf : plainFor (mN M_hashOf) = true := plainFor_of_name pcls
theorem nm_hashOf : notMH M_hashOf := nmh
theorem pd_hashOf : parseMethodDescriptor (mN M_hashOf).desc = some ⟨[.int, .int, .int], some .int⟩ := by decide +kernel
def M_lookup : Mi := ((⟨"RankReassociator", "lookup", "(III)I"⟩ : MethodName), prog_1_method_69_code, 7, (some .int), 1, 16)
theorem pl_lookup : plainFor (mN M_lookup) = true := plainFor_of_name pcls
theorem nm_lookup : notMH M_lookup := nmh
theorem pd_lookup : parseMethodDescriptor (mN M_lookup).desc = some ⟨[.int, .int, .int], some .int⟩ := by decide +kernel
def M_insert : Mi := ((⟨"RankReassociator", "insert", "(IIII)V"⟩ : MethodName), prog_1_method_70_code, 6, none, 0, 0)
theorem pl_insert : plainFor (mN M_insert) = true := plainFor_of_name pcls
theorem nm_insert : notMH M_insert := nmh
theorem pd_insert : parseMethodDescriptor (mN M_insert).desc = some ⟨[.int, .int, .int, .int], none⟩ := by decide +kernel
def M_makeLeaf : Mi := ((⟨"RankReassociator", "makeLeaf", "(IIII)I"⟩ : MethodName), prog_1_method_36_code, 7, (some .int), 2, 34)
theorem pl_makeLeaf : plainFor (mN M_makeLeaf) = true := plainFor_of_name pcls
theorem nm_makeLeaf : notMH M_makeLeaf := nmh
theorem pd_makeLeaf : parseMethodDescriptor (mN M_makeLeaf).desc = some ⟨[.int, .int, .int, .int], some .int⟩ := by decide +kernel
def M_makeConst : Mi := ((⟨"RankReassociator", "makeConst", "(I)I"⟩ : MethodName), prog_1_method_35_code, 2, (some .int), 3, 52)
theorem pl_makeConst : plainFor (mN M_makeConst) = true := plainFor_of_name pcls
theorem nm_makeConst : notMH M_makeConst := nmh
theorem pd_makeConst : parseMethodDescriptor (mN M_makeConst).desc = some ⟨[.int], some .int⟩ := by decide +kernel
def M_familyOf : Mi := ((⟨"RankReassociator", "familyOf", "(I)I"⟩ : MethodName), prog_1_method_34_code, 2, (some .int), 0, 0)
theorem pl_familyOf : plainFor (mN M_familyOf) = true := plainFor_of_name pcls
theorem nm_familyOf : notMH M_familyOf := nmh
theorem pd_familyOf : parseMethodDescriptor (mN M_familyOf).desc = some ⟨[.int], some .int⟩ := by decide +kernel
def M_push : Mi := ((⟨"RankReassociator", "push", "(II)Z"⟩ : MethodName), prog_1_method_59_code, 3, (some .boolean), 0, 0)
theorem pl_push : plainFor (mN M_push) = true := plainFor_of_name pcls
theorem nm_push : notMH M_push := nmh
theorem pd_push : parseMethodDescriptor (mN M_push).desc = some ⟨[.int, .int], some .boolean⟩ := by decide +kernel
def M_expandSum : Mi := ((⟨"RankReassociator", "expandSum", "(III)I"⟩ : MethodName), prog_1_method_58_code, 5, (some .int), 1, 14)
theorem pl_expandSum : plainFor (mN M_expandSum) = true := plainFor_of_name pcls
theorem nm_expandSum : notMH M_expandSum := nmh
theorem pd_expandSum : parseMethodDescriptor (mN M_expandSum).desc = some ⟨[.int, .int, .int], some .int⟩ := by decide +kernel
def M_expand : Mi := ((⟨"RankReassociator", "expand", "(III)I"⟩ : MethodName), prog_1_method_57_code, 5, (some .int), 2, 30)
theorem pl_expand : plainFor (mN M_expand) = true := plainFor_of_name pcls
theorem nm_expand : notMH M_expand := nmh
theorem pd_expand : parseMethodDescriptor (mN M_expand).desc = some ⟨[.int, .int, .int], some .int⟩ := by decide +kernel
def M_addLeaf : Mi := ((⟨"RankReassociator", "addLeaf", "(II)Z"⟩ : MethodName), prog_1_method_60_code, 3, (some .boolean), 0, 0)
theorem pl_addLeaf : plainFor (mN M_addLeaf) = true := plainFor_of_name pcls
theorem nm_addLeaf : notMH M_addLeaf := nmh
theorem pd_addLeaf : parseMethodDescriptor (mN M_addLeaf).desc = some ⟨[.int, .int], some .boolean⟩ := by decide +kernel
def M_flatten : Mi := ((⟨"RankReassociator", "flatten", "(II)Z"⟩ : MethodName), prog_1_method_56_code, 8, (some .boolean), 3, 46)
theorem pl_flatten : plainFor (mN M_flatten) = true := plainFor_of_name pcls
theorem nm_flatten : notMH M_flatten := nmh
theorem pd_flatten : parseMethodDescriptor (mN M_flatten).desc = some ⟨[.int, .int], some .boolean⟩ := by decide +kernel
def M_rankOf : Mi := ((⟨"RankReassociator", "rankOf", "(I)I"⟩ : MethodName), prog_1_method_51_code, 2, (some .int), 0, 0)
theorem pl_rankOf : plainFor (mN M_rankOf) = true := plainFor_of_name pcls
theorem nm_rankOf : notMH M_rankOf := nmh
theorem pd_rankOf : parseMethodDescriptor (mN M_rankOf).desc = some ⟨[.int], some .int⟩ := by decide +kernel
def M_before : Mi := ((⟨"RankReassociator", "before", "(II)Z"⟩ : MethodName), prog_1_method_63_code, 5, (some .boolean), 1, 13)
theorem pl_before : plainFor (mN M_before) = true := plainFor_of_name pcls
theorem nm_before : notMH M_before := nmh
theorem pd_before : parseMethodDescriptor (mN M_before).desc = some ⟨[.int, .int], some .boolean⟩ := by decide +kernel
def M_sortLeaves : Mi := ((⟨"RankReassociator", "sortLeaves", "()V"⟩ : MethodName), prog_1_method_62_code, 5, none, 2, 29)
theorem pl_sortLeaves : plainFor (mN M_sortLeaves) = true := plainFor_of_name pcls
theorem nm_sortLeaves : notMH M_sortLeaves := nmh
theorem pd_sortLeaves : parseMethodDescriptor (mN M_sortLeaves).desc = some ⟨[], none⟩ := by decide +kernel
def M_isConst : Mi := ((⟨"RankReassociator", "isConst", "(I)Z"⟩ : MethodName), prog_1_method_47_code, 2, (some .boolean), 0, 0)
theorem pl_isConst : plainFor (mN M_isConst) = true := plainFor_of_name pcls
theorem nm_isConst : notMH M_isConst := nmh
theorem pd_isConst : parseMethodDescriptor (mN M_isConst).desc = some ⟨[.int], some .boolean⟩ := by decide +kernel
def M_constOf : Mi := ((⟨"RankReassociator", "constOf", "(I)I"⟩ : MethodName), prog_1_method_48_code, 2, (some .int), 0, 0)
theorem pl_constOf : plainFor (mN M_constOf) = true := plainFor_of_name pcls
theorem nm_constOf : notMH M_constOf := nmh
theorem pd_constOf : parseMethodDescriptor (mN M_constOf).desc = some ⟨[.int], some .int⟩ := by decide +kernel
def M_removeRepeats : Mi := ((⟨"RankReassociator", "removeRepeats", "(I)V"⟩ : MethodName), prog_1_method_67_code, 4, none, 0, 0)
theorem pl_removeRepeats : plainFor (mN M_removeRepeats) = true := plainFor_of_name pcls
theorem nm_removeRepeats : notMH M_removeRepeats := nmh
theorem pd_removeRepeats : parseMethodDescriptor (mN M_removeRepeats).desc = some ⟨[.int], none⟩ := by decide +kernel
def M_fold : Mi := ((⟨"RankReassociator", "fold", "(III)I"⟩ : MethodName), prog_1_method_53_code, 4, (some .int), 0, 0)
theorem pl_fold : plainFor (mN M_fold) = true := plainFor_of_name pcls
theorem nm_fold : notMH M_fold := nmh
theorem pd_fold : parseMethodDescriptor (mN M_fold).desc = some ⟨[.int, .int, .int], some .int⟩ := by decide +kernel
def M_isConstValue : Mi := ((⟨"RankReassociator", "isConstValue", "(II)Z"⟩ : MethodName), prog_1_method_49_code, 3, (some .boolean), 1, 13)
theorem pl_isConstValue : plainFor (mN M_isConstValue) = true := plainFor_of_name pcls
theorem nm_isConstValue : notMH M_isConstValue := nmh
theorem pd_isConstValue : parseMethodDescriptor (mN M_isConstValue).desc = some ⟨[.int, .int], some .boolean⟩ := by decide +kernel
def M_isNegOf : Mi := ((⟨"RankReassociator", "isNegOf", "(II)Z"⟩ : MethodName), prog_1_method_50_code, 3, (some .boolean), 0, 0)
theorem pl_isNegOf : plainFor (mN M_isNegOf) = true := plainFor_of_name pcls
theorem nm_isNegOf : notMH M_isNegOf := nmh
theorem pd_isNegOf : parseMethodDescriptor (mN M_isNegOf).desc = some ⟨[.int, .int], some .boolean⟩ := by decide +kernel
def M_simplifyAdd : Mi := ((⟨"RankReassociator", "simplifyAdd", "(II)I"⟩ : MethodName), prog_1_method_41_code, 3, (some .int), 4, 65)
theorem pl_simplifyAdd : plainFor (mN M_simplifyAdd) = true := plainFor_of_name pcls
theorem nm_simplifyAdd : notMH M_simplifyAdd := nmh
theorem pd_simplifyAdd : parseMethodDescriptor (mN M_simplifyAdd).desc = some ⟨[.int, .int], some .int⟩ := by decide +kernel
def M_simplifySub : Mi := ((⟨"RankReassociator", "simplifySub", "(II)I"⟩ : MethodName), prog_1_method_42_code, 3, (some .int), 4, 65)
theorem pl_simplifySub : plainFor (mN M_simplifySub) = true := plainFor_of_name pcls
theorem nm_simplifySub : notMH M_simplifySub := nmh
theorem pd_simplifySub : parseMethodDescriptor (mN M_simplifySub).desc = some ⟨[.int, .int], some .int⟩ := by decide +kernel
def M_simplifyMul : Mi := ((⟨"RankReassociator", "simplifyMul", "(II)I"⟩ : MethodName), prog_1_method_43_code, 3, (some .int), 2, 27)
theorem pl_simplifyMul : plainFor (mN M_simplifyMul) = true := plainFor_of_name pcls
theorem nm_simplifyMul : notMH M_simplifyMul := nmh
theorem pd_simplifyMul : parseMethodDescriptor (mN M_simplifyMul).desc = some ⟨[.int, .int], some .int⟩ := by decide +kernel
def M_simplify : Mi := ((⟨"RankReassociator", "simplify", "(III)I"⟩ : MethodName), prog_1_method_40_code, 4, (some .int), 5, 79)
theorem pl_simplify : plainFor (mN M_simplify) = true := plainFor_of_name pcls
theorem nm_simplify : notMH M_simplify := nmh
theorem pd_simplify : parseMethodDescriptor (mN M_simplify).desc = some ⟨[.int, .int, .int], some .int⟩ := by decide +kernel
def M_isCommutative : Mi := ((⟨"RankReassociator", "isCommutative", "(I)Z"⟩ : MethodName), prog_1_method_52_code, 2, (some .boolean), 0, 0)
theorem pl_isCommutative : plainFor (mN M_isCommutative) = true := plainFor_of_name pcls
theorem nm_isCommutative : notMH M_isCommutative := nmh
theorem pd_isCommutative : parseMethodDescriptor (mN M_isCommutative).desc = some ⟨[.int], some .boolean⟩ := by decide +kernel
def M_emitBin : Mi := ((⟨"RankReassociator", "emitBin", "(III)I"⟩ : MethodName), prog_1_method_39_code, 8, (some .int), 2, 34)
theorem pl_emitBin : plainFor (mN M_emitBin) = true := plainFor_of_name pcls
theorem nm_emitBin : notMH M_emitBin := nmh
theorem pd_emitBin : parseMethodDescriptor (mN M_emitBin).desc = some ⟨[.int, .int, .int], some .int⟩ := by decide +kernel
def M_makeBin : Mi := ((⟨"RankReassociator", "makeBin", "(III)I"⟩ : MethodName), prog_1_method_38_code, 7, (some .int), 6, 94)
theorem pl_makeBin : plainFor (mN M_makeBin) = true := plainFor_of_name pcls
theorem nm_makeBin : notMH M_makeBin := nmh
theorem pd_makeBin : parseMethodDescriptor (mN M_makeBin).desc = some ⟨[.int, .int, .int], some .int⟩ := by decide +kernel
def M_sumStep : Mi := ((⟨"RankReassociator", "sumStep", "(III)I"⟩ : MethodName), prog_1_method_65_code, 4, (some .int), 7, 112)
theorem pl_sumStep : plainFor (mN M_sumStep) = true := plainFor_of_name pcls
theorem nm_sumStep : notMH M_sumStep := nmh
theorem pd_sumStep : parseMethodDescriptor (mN M_sumStep).desc = some ⟨[.int, .int, .int], some .int⟩ := by decide +kernel
def M_rebuildSum : Mi := ((⟨"RankReassociator", "rebuildSum", "()I"⟩ : MethodName), prog_1_method_64_code, 4, (some .int), 8, 127)
theorem pl_rebuildSum : plainFor (mN M_rebuildSum) = true := plainFor_of_name pcls
theorem nm_rebuildSum : notMH M_rebuildSum := nmh
theorem pd_rebuildSum : parseMethodDescriptor (mN M_rebuildSum).desc = some ⟨[], some .int⟩ := by decide +kernel
def M_identityOf : Mi := ((⟨"RankReassociator", "identityOf", "(I)I"⟩ : MethodName), prog_1_method_54_code, 2, (some .int), 0, 0)
theorem pl_identityOf : plainFor (mN M_identityOf) = true := plainFor_of_name pcls
theorem nm_identityOf : notMH M_identityOf := nmh
theorem pd_identityOf : parseMethodDescriptor (mN M_identityOf).desc = some ⟨[.int], some .int⟩ := by decide +kernel
def M_absorberOf : Mi := ((⟨"RankReassociator", "absorberOf", "(I)I"⟩ : MethodName), prog_1_method_55_code, 2, (some .int), 1, 13)
theorem pl_absorberOf : plainFor (mN M_absorberOf) = true := plainFor_of_name pcls
theorem nm_absorberOf : notMH M_absorberOf := nmh
theorem pd_absorberOf : parseMethodDescriptor (mN M_absorberOf).desc = some ⟨[.int], some .int⟩ := by decide +kernel
def M_rebuildChain : Mi := ((⟨"RankReassociator", "rebuildChain", "(I)I"⟩ : MethodName), prog_1_method_66_code, 6, (some .int), 7, 112)
theorem pl_rebuildChain : plainFor (mN M_rebuildChain) = true := plainFor_of_name pcls
theorem nm_rebuildChain : notMH M_rebuildChain := nmh
theorem pd_rebuildChain : parseMethodDescriptor (mN M_rebuildChain).desc = some ⟨[.int], some .int⟩ := by decide +kernel
def M_buildValue : Mi := ((⟨"RankReassociator", "buildValue", "(I)I"⟩ : MethodName), prog_1_method_33_code, 5, (some .int), 9, 142)
theorem pl_buildValue : plainFor (mN M_buildValue) = true := plainFor_of_name pcls
theorem nm_buildValue : notMH M_buildValue := nmh
theorem pd_buildValue : parseMethodDescriptor (mN M_buildValue).desc = some ⟨[.int], some .int⟩ := by decide +kernel
def M_translate : Mi := ((⟨"RankReassociator", "translate", "(I)V"⟩ : MethodName), prog_1_method_27_code, 4, none, 10, 160)
theorem pl_translate : plainFor (mN M_translate) = true := plainFor_of_name pcls
theorem nm_translate : notMH M_translate := nmh
theorem pd_translate : parseMethodDescriptor (mN M_translate).desc = some ⟨[.int], none⟩ := by decide +kernel
def M_buildVersion1 : Mi := ((⟨"RankReassociator", "buildVersion1", "()V"⟩ : MethodName), prog_1_method_25_code, 2, none, 11, 175)
theorem pl_buildVersion1 : plainFor (mN M_buildVersion1) = true := plainFor_of_name pcls
theorem nm_buildVersion1 : notMH M_buildVersion1 := nmh
theorem pd_buildVersion1 : parseMethodDescriptor (mN M_buildVersion1).desc = some ⟨[], none⟩ := by decide +kernel
def M_compile : Mi := ((⟨"RankReassociator", "compile", "()I"⟩ : MethodName), prog_1_method_17_code, 1, (some .int), 12, 188)
theorem pl_compile : plainFor (mN M_compile) = true := plainFor_of_name pcls
theorem nm_compile : notMH M_compile := nmh
theorem pd_compile : parseMethodDescriptor (mN M_compile).desc = some ⟨[], some .int⟩ := by decide +kernel
def M_resetRun : Mi := ((⟨"RankReassociator", "resetRun", "(III)V"⟩ : MethodName), prog_1_method_73_code, 5, none, 0, 0)
theorem pl_resetRun : plainFor (mN M_resetRun) = true := plainFor_of_name pcls
theorem nm_resetRun : notMH M_resetRun := nmh
theorem pd_resetRun : parseMethodDescriptor (mN M_resetRun).desc = some ⟨[.int, .int, .int], none⟩ := by decide +kernel
def M_stepLoop : Mi := ((⟨"RankReassociator", "stepLoop", "(I)I"⟩ : MethodName), prog_1_method_75_code, 4, (some .int), 0, 0)
theorem pl_stepLoop : plainFor (mN M_stepLoop) = true := plainFor_of_name pcls
theorem nm_stepLoop : notMH M_stepLoop := nmh
theorem pd_stepLoop : parseMethodDescriptor (mN M_stepLoop).desc = some ⟨[.int], some .int⟩ := by decide +kernel
def M_stepEnd : Mi := ((⟨"RankReassociator", "stepEnd", "(I)I"⟩ : MethodName), prog_1_method_76_code, 3, (some .int), 0, 0)
theorem pl_stepEnd : plainFor (mN M_stepEnd) = true := plainFor_of_name pcls
theorem nm_stepEnd : notMH M_stepEnd := nmh
theorem pd_stepEnd : parseMethodDescriptor (mN M_stepEnd).desc = some ⟨[.int], some .int⟩ := by decide +kernel
def M_slotAt : Mi := ((⟨"RankReassociator", "slotAt", "(I)I"⟩ : MethodName), prog_1_method_79_code, 2, (some .int), 0, 0)
theorem pl_slotAt : plainFor (mN M_slotAt) = true := plainFor_of_name pcls
theorem nm_slotAt : notMH M_slotAt := nmh
theorem pd_slotAt : parseMethodDescriptor (mN M_slotAt).desc = some ⟨[.int], some .int⟩ := by decide +kernel
def M_stepOut : Mi := ((⟨"RankReassociator", "stepOut", "(II)V"⟩ : MethodName), prog_1_method_77_code, 5, none, 0, 0)
theorem pl_stepOut : plainFor (mN M_stepOut) = true := plainFor_of_name pcls
theorem nm_stepOut : notMH M_stepOut := nmh
theorem pd_stepOut : parseMethodDescriptor (mN M_stepOut).desc = some ⟨[.int, .int], none⟩ := by decide +kernel
def M_evalValue : Mi := ((⟨"RankReassociator", "evalValue", "(I)I"⟩ : MethodName), prog_1_method_78_code, 5, (some .int), 1, 15)
theorem pl_evalValue : plainFor (mN M_evalValue) = true := plainFor_of_name pcls
theorem nm_evalValue : notMH M_evalValue := nmh
theorem pd_evalValue : parseMethodDescriptor (mN M_evalValue).desc = some ⟨[.int], some .int⟩ := by decide +kernel
def M_step : Mi := ((⟨"RankReassociator", "step", "(II)I"⟩ : MethodName), prog_1_method_74_code, 5, (some .int), 2, 33)
theorem pl_step : plainFor (mN M_step) = true := plainFor_of_name pcls
theorem nm_step : notMH M_step := nmh
theorem pd_step : parseMethodDescriptor (mN M_step).desc = some ⟨[.int, .int], some .int⟩ := by decide +kernel
def M_execute : Mi := ((⟨"RankReassociator", "execute", "(I)V"⟩ : MethodName), prog_1_method_72_code, 8, none, 3, 49)
theorem pl_execute : plainFor (mN M_execute) = true := plainFor_of_name pcls
theorem nm_execute : notMH M_execute := nmh
theorem pd_execute : parseMethodDescriptor (mN M_execute).desc = some ⟨[.int], none⟩ := by decide +kernel
def M_run : Mi := ((⟨"RankReassociator", "run", "()I"⟩ : MethodName), prog_1_method_19_code, 1, (some .int), 4, 68)
theorem pl_run : plainFor (mN M_run) = true := plainFor_of_name pcls
theorem nm_run : notMH M_run := nmh
theorem pd_run : parseMethodDescriptor (mN M_run).desc = some ⟨[], some .int⟩ := by decide +kernel
def M_outputCount : Mi := ((⟨"RankReassociator", "outputCount", "(I)I"⟩ : MethodName), prog_1_method_20_code, 2, (some .int), 0, 0)
theorem pl_outputCount : plainFor (mN M_outputCount) = true := plainFor_of_name pcls
theorem nm_outputCount : notMH M_outputCount := nmh
theorem pd_outputCount : parseMethodDescriptor (mN M_outputCount).desc = some ⟨[.int], some .int⟩ := by decide +kernel
def M_variable : Mi := ((⟨"RankReassociator", "variable", "(II)I"⟩ : MethodName), prog_1_method_22_code, 3, (some .int), 0, 0)
theorem pl_variable : plainFor (mN M_variable) = true := plainFor_of_name pcls
theorem nm_variable : notMH M_variable := nmh
theorem pd_variable : parseMethodDescriptor (mN M_variable).desc = some ⟨[.int, .int], some .int⟩ := by decide +kernel
def M_output : Mi := ((⟨"RankReassociator", "output", "(II)I"⟩ : MethodName), prog_1_method_21_code, 4, (some .int), 0, 0)
theorem pl_output : plainFor (mN M_output) = true := plainFor_of_name pcls
theorem nm_output : notMH M_output := nmh
theorem pd_output : parseMethodDescriptor (mN M_output).desc = some ⟨[.int, .int], some .int⟩ := by decide +kernel
def M_law : Mi := (x, code, maxLocals, ret, 13, 201)
theorem pl_law : plainFor (mN M_law) = true := plainFor_of_name (by first | (simp [plainName, overriddenIn, x]; done) | decide +kernel)
def c0 : List (Nat × Instr × Nat) := [(0, .aload_n 0, 1), (1, .invokespecial 1, 3), (4, .aload_n 0, 1), (5, .bipush 32, 2), (7, .newarray .int, 2), (9, .putfield 7, 3), (12, .aload_n 0, 1), (13, .bipush 32, 2), (15, .newarray .int, 2), (17, .putfield 13, 3), (20, .aload_n 0, 1), (21, .bipush 32, 2), (23, .newarray .int, 2), (25, .putfield 16, 3), (28, .aload_n 0, 1), (29, .bipush 32, 2), (31, .newarray .int, 2), (33, .putfield 19, 3), (36, .aload_n 0, 1), (37, .bipush 32, 2), (39, .newarray .int, 2), (41, .putfield 22, 3), (44, .aload_n 0, 1), (45, .iconst 3, 1), (46, .newarray .int, 2), (48, .putfield 25, 3), (51, .aload_n 0, 1), (52, .bipush 8, 2), (54, .newarray .int, 2), (56, .putfield 28, 3), (59, .aload_n 0, 1), (60, .sipush 1056, 3), (63, .newarray .int, 2), (65, .putfield 31, 3), (68, .aload_n 0, 1), (69, .sipush 1056, 3), (72, .newarray .int, 2), (74, .putfield 34, 3), (77, .aload_n 0, 1), (78, .sipush 1056, 3), (81, .newarray .int, 2), (83, .putfield 37, 3), (86, .aload_n 0, 1), (87, .sipush 1056, 3), (90, .newarray .int, 2), (92, .putfield 40, 3), (95, .aload_n 0, 1), (96, .sipush 1056, 3), (99, .newarray .int, 2), (101, .putfield 43, 3), (104, .aload_n 0, 1), (105, .sipush 1056, 3), (108, .newarray .int, 2), (110, .putfield 46, 3), (113, .aload_n 0, 1), (114, .iconst 4, 1), (115, .newarray .int, 2), (117, .putfield 49, 3), (120, .aload_n 0, 1), (121, .iconst 2, 1), (122, .newarray .int, 2), (124, .putfield 52, 3), (127, .aload_n 0, 1), (128, .bipush 64, 2), (130, .newarray .int, 2), (132, .putfield 55, 3), (135, .aload_n 0, 1), (136, .bipush 8, 2), (138, .newarray .int, 2), (140, .putfield 58, 3), (143, .aload_n 0, 1), (144, .bipush 32, 2), (146, .newarray .int, 2), (148, .putfield 61, 3), (151, .aload_n 0, 1), (152, .bipush 32, 2), (154, .newarray .int, 2), (156, .putfield 64, 3), (159, .aload_n 0, 1), (160, .iconst 4, 1), (161, .newarray .int, 2), (163, .putfield 67, 3), (166, .aload_n 0, 1), (167, .iconst 3, 1), (168, .newarray .int, 2), (170, .putfield 70, 3), (173, .aload_n 0, 1), (174, .iconst 3, 1), (175, .newarray .int, 2), (177, .putfield 73, 3), (180, .aload_n 0, 1), (181, .bipush 16, 2), (183, .newarray .int, 2), (185, .putfield 76, 3), (188, .aload_n 0, 1), (189, .bipush 16, 2), (191, .newarray .int, 2), (193, .putfield 79, 3), (196, .aload_n 0, 1), (197, .bipush 16, 2), (199, .newarray .boolean, 2), (201, .putfield 82, 3), (204, .aload_n 0, 1), (205, .bipush 64, 2), (207, .newarray .int, 2), (209, .putfield 86, 3), (212, .aload_n 0, 1), (213, .bipush 64, 2), (215, .newarray .int, 2), (217, .putfield 89, 3), (220, .aload_n 0, 1), (221, .sipush 2048, 3), (224, .newarray .int, 2), (226, .putfield 92, 3), (229, .aload_n 0, 1), (230, .sipush 2048, 3), (233, .newarray .int, 2), (235, .putfield 95, 3), (238, .aload_n 0, 1), (239, .sipush 2048, 3), (242, .newarray .int, 2), (244, .putfield 98, 3), (247, .aload_n 0, 1), (248, .sipush 2048, 3), (251, .newarray .int, 2), (253, .putfield 101, 3), (256, .aload_n 0, 1), (257, .sipush 2048, 3), (260, .newarray .boolean, 2), (262, .putfield 104, 3), (265, .aload_n 0, 1), (266, .sipush 1024, 3), (269, .newarray .int, 2), (271, .putfield 107, 3), (274, .iload_n 1, 1), (275, .istore_n 2, 1), (276, .iload_n 2, 1), (277, .bipush 8, 2), (279, .if_icmp .ge 6, 3), (282, .bipush 8, 2), (284, .istore_n 2, 1), (285, .iload_n 2, 1), (286, .bipush 32, 2), (288, .if_icmp .le 6, 3), (291, .bipush 32, 2), (293, .istore_n 2, 1), (294, .aload_n 0, 1), (295, .iload_n 2, 1), (296, .putfield 110, 3), (299, .aload_n 0, 1), (300, .iconst (-1), 1), (301, .putfield 114, 3), (304, .return_, 1)]
theorem D0 : decs prog_1_method_1_code c0 = true := by decide +kernel
theorem d0 (k : Nat) {p : Nat} {i : Instr} {n : Nat} (h : c0[k]? = some (p, i, n)) : decode prog_1_method_1_code p = .ok (i, n) := dget D0 h
def c2 : List (Nat × Instr × Nat) := [(0, .iload_n 1, 1), (1, .ifCond .lt 9, 3), (4, .iload_n 1, 1), (5, .bipush 8, 2), (7, .if_icmp .lt 5, 3), (10, .iconst 0, 1), (11, .ireturn, 1), (12, .aload_n 0, 1), (13, .getfield 28, 3), (16, .iload_n 1, 1), (17, .iload_n 2, 1), (18, .iastore, 1), (19, .iconst 1, 1), (20, .ireturn, 1)]
theorem D2 : decs prog_1_method_15_code c2 = true := by decide +kernel
theorem d2 (k : Nat) {p : Nat} {i : Instr} {n : Nat} (h : c2[k]? = some (p, i, n)) : decode prog_1_method_15_code p = .ok (i, n) := dget D2 h
def c4 : List (Nat × Instr × Nat) := [(0, .iload_n 1, 1), (1, .iconst 2, 1), (2, .if_icmp .ne 19, 3), (5, .iload_n 2, 1), (6, .ifCond .lt 13, 3), (9, .iload_n 2, 1), (10, .bipush 8, 2), (12, .if_icmp .ge 7, 3), (15, .iconst 1, 1), (16, .goto 4, 3), (19, .iconst 0, 1), (20, .ireturn, 1), (21, .iload_n 1, 1), (22, .bipush 13, 2), (24, .if_icmp .ne 19, 3), (27, .iload_n 2, 1), (28, .ifCond .lt 13, 3), (31, .iload_n 2, 1), (32, .bipush 7, 2), (34, .if_icmp .gt 7, 3), (37, .iconst 1, 1), (38, .goto 4, 3), (41, .iconst 0, 1), (42, .ireturn, 1), (43, .iload_n 1, 1), (44, .iconst 3, 1), (45, .if_icmp .eq 9, 3), (48, .iload_n 1, 1), (49, .bipush 11, 2), (51, .if_icmp .ne 18, 3), (54, .iload_n 2, 1), (55, .ifCond .lt 12, 3), (58, .iload_n 2, 1), (59, .iconst 4, 1), (60, .if_icmp .ge 7, 3), (63, .iconst 1, 1), (64, .goto 4, 3), (67, .iconst 0, 1), (68, .ireturn, 1), (69, .iconst 1, 1), (70, .ireturn, 1)]
theorem D4 : decs prog_1_method_4_code c4 = true := by decide +kernel
theorem d4 (k : Nat) {p : Nat} {i : Instr} {n : Nat} (h : c4[k]? = some (p, i, n)) : decode prog_1_method_4_code p = .ok (i, n) := dget D4 h
def c10 : List (Nat × Instr × Nat) := [(0, .iconst 0, 1), (1, .istore_n 2, 1), (2, .iload_n 2, 1), (3, .aload_n 0, 1), (4, .getfield 128, 3), (7, .if_icmp .ge 26, 3), (10, .iload_n 2, 1), (11, .iconst 3, 1), (12, .if_icmp .ge 21, 3), (15, .aload_n 0, 1), (16, .getfield 25, 3), (19, .iload_n 2, 1), (20, .iaload, 1), (21, .iload_n 1, 1), (22, .if_icmp .ne 5, 3), (25, .iconst 1, 1), (26, .ireturn, 1), (27, .iinc 2 1, 3), (30, .goto (-28), 3), (33, .iconst 0, 1), (34, .ireturn, 1)]
theorem D10 : decs prog_1_method_7_code c10 = true := by decide +kernel
theorem d10 (k : Nat) {p : Nat} {i : Instr} {n : Nat} (h : c10[k]? = some (p, i, n)) : decode prog_1_method_7_code p = .ok (i, n) := dget D10 h
def c9 : List (Nat × Instr × Nat) := [(0, .iload_n 1, 1), (1, .ifCond .lt 17, 3), (4, .iload_n 1, 1), (5, .aload_n 0, 1), (6, .getfield 117, 3), (9, .if_icmp .ge 9, 3), (12, .iload_n 1, 1), (13, .bipush 32, 2), (15, .if_icmp .lt 5, 3), (18, .iconst 0, 1), (19, .ireturn, 1), (20, .aload_n 0, 1), (21, .getfield 7, 3), (24, .iload_n 1, 1), (25, .iaload, 1), (26, .istore_n 2, 1), (27, .iload_n 2, 1), (28, .iconst 1, 1), (29, .if_icmp .lt 9, 3), (32, .iload_n 2, 1), (33, .bipush 10, 2), (35, .if_icmp .le 5, 3), (38, .iconst 0, 1), (39, .ireturn, 1), (40, .aload_n 0, 1), (41, .getfield 19, 3), (44, .iload_n 1, 1), (45, .iaload, 1), (46, .istore_n 3, 1), (47, .iload_n 3, 1), (48, .ifCond .ge 5, 3), (51, .iconst 1, 1), (52, .ireturn, 1), (53, .aload_n 0, 1), (54, .iload_n 3, 1), (55, .invokevirtual 139, 3), (58, .ireturn, 1)]
theorem D9 : decs prog_1_method_6_code c9 = true := by decide +kernel
theorem d9 (k : Nat) {p : Nat} {i : Instr} {n : Nat} (h : c9[k]? = some (p, i, n)) : decode prog_1_method_6_code p = .ok (i, n) := dget D9 h
def c5 : List (Nat × Instr × Nat) := [(0, .iload_n 1, 1), (1, .iconst 4, 1), (2, .if_icmp .lt 25, 3), (5, .iload_n 1, 1), (6, .bipush 9, 2), (8, .if_icmp .gt 19, 3), (11, .aload_n 0, 1), (12, .iload_n 2, 1), (13, .invokevirtual 135, 3), (16, .ifCond .ne 5, 3), (19, .iconst 0, 1), (20, .ireturn, 1), (21, .aload_n 0, 1), (22, .iload_n 3, 1), (23, .invokevirtual 135, 3), (26, .ireturn, 1), (27, .iload_n 1, 1), (28, .bipush 10, 2), (30, .if_icmp .eq 9, 3), (33, .iload_n 1, 1), (34, .bipush 12, 2), (36, .if_icmp .ne 9, 3), (39, .aload_n 0, 1), (40, .iload_n 2, 1), (41, .invokevirtual 135, 3), (44, .ireturn, 1), (45, .iload_n 1, 1), (46, .bipush 11, 2), (48, .if_icmp .ne 9, 3), (51, .aload_n 0, 1), (52, .iload_n 3, 1), (53, .invokevirtual 135, 3), (56, .ireturn, 1), (57, .iconst 1, 1), (58, .ireturn, 1)]
theorem D5 : decs prog_1_method_5_code c5 = true := by decide +kernel
theorem d5 (k : Nat) {p : Nat} {i : Instr} {n : Nat} (h : c5[k]? = some (p, i, n)) : decode prog_1_method_5_code p = .ok (i, n) := dget D5 h
def c7 : List (Nat × Instr × Nat) := [(0, .iload_n 1, 1), (1, .bipush 14, 2), (3, .if_icmp .eq 7, 3), (6, .iconst 1, 1), (7, .goto 4, 3), (10, .iconst 0, 1), (11, .ireturn, 1)]
theorem D7 : decs prog_1_method_9_code c7 = true := by decide +kernel
theorem d7 (k : Nat) {p : Nat} {i : Instr} {n : Nat} (h : c7[k]? = some (p, i, n)) : decode prog_1_method_9_code p = .ok (i, n) := dget D7 h
def c8 : List (Nat × Instr × Nat) := [(0, .iload_n 1, 1), (1, .iconst 4, 1), (2, .if_icmp .lt 11, 3), (5, .iload_n 1, 1), (6, .bipush 9, 2), (8, .if_icmp .gt 5, 3), (11, .iconst 1, 1), (12, .ireturn, 1), (13, .iload_n 1, 1), (14, .bipush 11, 2), (16, .if_icmp .ne 7, 3), (19, .iconst 1, 1), (20, .goto 4, 3), (23, .iconst 0, 1), (24, .ireturn, 1)]
theorem D8 : decs prog_1_method_8_code c8 = true := by decide +kernel
theorem d8 (k : Nat) {p : Nat} {i : Instr} {n : Nat} (h : c8[k]? = some (p, i, n)) : decode prog_1_method_8_code p = .ok (i, n) := dget D8 h
def c6 : List (Nat × Instr × Nat) := [(0, .aload_n 0, 1), (1, .getfield 117, 3), (4, .istore 4, 2), (6, .iload 4, 2), (8, .ifCond .lt 10, 3), (11, .iload 4, 2), (13, .bipush 32, 2), (15, .if_icmp .lt 5, 3), (18, .iconst (-1), 1), (19, .ireturn, 1), (20, .aload_n 0, 1), (21, .getfield 7, 3), (24, .iload 4, 2), (26, .iload_n 1, 1), (27, .iastore, 1), (28, .aload_n 0, 1), (29, .getfield 13, 3), (32, .iload 4, 2), (34, .aload_n 0, 1), (35, .iload_n 1, 1), (36, .invokevirtual 142, 3), (39, .ifCond .eq 7, 3), (42, .iload_n 2, 1), (43, .goto 4, 3), (46, .iconst 0, 1), (47, .iastore, 1), (48, .aload_n 0, 1), (49, .getfield 16, 3), (52, .iload 4, 2), (54, .aload_n 0, 1), (55, .iload_n 1, 1), (56, .invokevirtual 145, 3), (59, .ifCond .eq 7, 3), (62, .iload_n 3, 1), (63, .goto 4, 3), (66, .iconst 0, 1), (67, .iastore, 1), (68, .aload_n 0, 1), (69, .getfield 19, 3), (72, .iload 4, 2), (74, .iconst (-1), 1), (75, .iastore, 1), (76, .aload_n 0, 1), (77, .getfield 128, 3), (80, .ifCond .le 29, 3), (83, .aload_n 0, 1), (84, .getfield 128, 3), (87, .iconst 3, 1), (88, .if_icmp .gt 21, 3), (91, .aload_n 0, 1), (92, .getfield 19, 3), (95, .iload 4, 2), (97, .aload_n 0, 1), (98, .getfield 25, 3), (101, .aload_n 0, 1), (102, .getfield 128, 3), (105, .iconst 1, 1), (106, .isub, 1), (107, .iaload, 1), (108, .iastore, 1), (109, .aload_n 0, 1), (110, .getfield 22, 3), (113, .iload 4, 2), (115, .iconst (-1), 1), (116, .iastore, 1), (117, .iload_n 1, 1), (118, .bipush 13, 2), (120, .if_icmp .ne 42, 3), (123, .aload_n 0, 1), (124, .getfield 128, 3), (127, .ifCond .lt 35, 3), (130, .aload_n 0, 1), (131, .getfield 128, 3), (134, .iconst 3, 1), (135, .if_icmp .ge 27, 3), (138, .aload_n 0, 1), (139, .getfield 25, 3), (142, .aload_n 0, 1), (143, .getfield 128, 3), (146, .iload 4, 2), (148, .iastore, 1), (149, .aload_n 0, 1), (150, .dup, 1), (151, .getfield 128, 3), (154, .iconst 1, 1), (155, .iadd, 1), (156, .putfield 128, 3), (159, .goto 75, 3), (162, .iload_n 1, 1), (163, .bipush 14, 2), (165, .if_icmp .ne 69, 3), (168, .aload_n 0, 1), (169, .getfield 128, 3), (172, .ifCond .le 62, 3), (175, .aload_n 0, 1), (176, .getfield 128, 3), (179, .iconst 3, 1), (180, .if_icmp .gt 54, 3), (183, .aload_n 0, 1), (184, .dup, 1), (185, .getfield 128, 3), (188, .iconst 1, 1), (189, .isub, 1), (190, .putfield 128, 3), (193, .aload_n 0, 1), (194, .getfield 25, 3), (197, .aload_n 0, 1), (198, .getfield 128, 3), (201, .iaload, 1), (202, .istore 5, 2), (204, .aload_n 0, 1), (205, .getfield 22, 3), (208, .iload 4, 2), (210, .iload 5, 2), (212, .iastore, 1), (213, .iload 5, 2), (215, .ifCond .lt 19, 3), (218, .iload 5, 2), (220, .bipush 32, 2), (222, .if_icmp .ge 12, 3), (225, .aload_n 0, 1), (226, .getfield 22, 3), (229, .iload 5, 2), (231, .iload 4, 2), (233, .iastore, 1), (234, .aload_n 0, 1), (235, .dup, 1), (236, .getfield 117, 3), (239, .iconst 1, 1), (240, .iadd, 1), (241, .putfield 117, 3), (244, .aload_n 0, 1), (245, .iconst 0, 1), (246, .putfield 148, 3), (249, .iload 4, 2), (251, .ireturn, 1)]
theorem D6 : decs prog_1_method_10_code c6 = true := by decide +kernel
theorem d6 (k : Nat) {p : Nat} {i : Instr} {n : Nat} (h : c6[k]? = some (p, i, n)) : decode prog_1_method_10_code p = .ok (i, n) := dget D6 h
def c3 : List (Nat × Instr × Nat) := [(0, .aload_n 0, 1), (1, .getfield 117, 3), (4, .aload_n 0, 1), (5, .getfield 110, 3), (8, .if_icmp .lt 5, 3), (11, .iconst (-1), 1), (12, .ireturn, 1), (13, .iload_n 1, 1), (14, .iconst 1, 1), (15, .if_icmp .lt 9, 3), (18, .iload_n 1, 1), (19, .bipush 14, 2), (21, .if_icmp .le 6, 3), (24, .bipush (-2), 2), (26, .ireturn, 1), (27, .aload_n 0, 1), (28, .iload_n 1, 1), (29, .iload_n 2, 1), (30, .invokevirtual 120, 3), (33, .ifCond .ne 6, 3), (36, .bipush (-3), 2), (38, .ireturn, 1), (39, .aload_n 0, 1), (40, .iload_n 1, 1), (41, .iload_n 2, 1), (42, .iload_n 3, 1), (43, .invokevirtual 124, 3), (46, .ifCond .ne 6, 3), (49, .bipush (-4), 2), (51, .ireturn, 1), (52, .iload_n 1, 1), (53, .bipush 13, 2), (55, .if_icmp .ne 14, 3), (58, .aload_n 0, 1), (59, .getfield 128, 3), (62, .iconst 3, 1), (63, .if_icmp .lt 6, 3), (66, .bipush (-5), 2), (68, .ireturn, 1), (69, .iload_n 1, 1), (70, .bipush 14, 2), (72, .if_icmp .ne 13, 3), (75, .aload_n 0, 1), (76, .getfield 128, 3), (79, .ifCond .gt 6, 3), (82, .bipush (-5), 2), (84, .ireturn, 1), (85, .aload_n 0, 1), (86, .iload_n 1, 1), (87, .iload_n 2, 1), (88, .iload_n 3, 1), (89, .invokevirtual 131, 3), (92, .ireturn, 1)]
theorem D3 : decs prog_1_method_3_code c3 = true := by decide +kernel
theorem d3 (k : Nat) {p : Nat} {i : Instr} {n : Nat} (h : c3[k]? = some (p, i, n)) : decode prog_1_method_3_code p = .ok (i, n) := dget D3 h
def c12 : List (Nat × Instr × Nat) := [(0, .iconst 0, 1), (1, .istore_n 1, 1), (2, .iload_n 1, 1), (3, .aload_n 0, 1), (4, .getfield 117, 3), (7, .if_icmp .ge 99, 3), (10, .iload_n 1, 1), (11, .bipush 32, 2), (13, .if_icmp .ge 93, 3), (16, .aload_n 0, 1), (17, .getfield 7, 3), (20, .iload_n 1, 1), (21, .iaload, 1), (22, .istore_n 2, 1), (23, .aload_n 0, 1), (24, .getfield 31, 3), (27, .iload_n 1, 1), (28, .iload_n 2, 1), (29, .iastore, 1), (30, .aload_n 0, 1), (31, .getfield 34, 3), (34, .iload_n 1, 1), (35, .aload_n 0, 1), (36, .getfield 13, 3), (39, .iload_n 1, 1), (40, .iaload, 1), (41, .iastore, 1), (42, .aload_n 0, 1), (43, .getfield 37, 3), (46, .iload_n 1, 1), (47, .aload_n 0, 1), (48, .getfield 16, 3), (51, .iload_n 1, 1), (52, .iaload, 1), (53, .iastore, 1), (54, .iload_n 2, 1), (55, .bipush 13, 2), (57, .if_icmp .ne 18, 3), (60, .aload_n 0, 1), (61, .getfield 37, 3), (64, .iload_n 1, 1), (65, .aload_n 0, 1), (66, .getfield 22, 3), (69, .iload_n 1, 1), (70, .iaload, 1), (71, .iastore, 1), (72, .goto 21, 3), (75, .iload_n 2, 1), (76, .bipush 14, 2), (78, .if_icmp .ne 15, 3), (81, .aload_n 0, 1), (82, .getfield 34, 3), (85, .iload_n 1, 1), (86, .aload_n 0, 1), (87, .getfield 22, 3), (90, .iload_n 1, 1), (91, .iaload, 1), (92, .iastore, 1), (93, .aload_n 0, 1), (94, .getfield 40, 3), (97, .iload_n 1, 1), (98, .iconst 0, 1), (99, .iastore, 1), (100, .iinc 1 1, 3), (103, .goto (-101), 3), (106, .aload_n 0, 1), (107, .aload_n 0, 1), (108, .getfield 117, 3), (111, .putfield 162, 3), (114, .return_, 1)]
theorem D12 : decs prog_1_method_23_code c12 = true := by decide +kernel
theorem d12 (k : Nat) {p : Nat} {i : Instr} {n : Nat} (h : c12[k]? = some (p, i, n)) : decode prog_1_method_23_code p = .ok (i, n) := dget D12 h
def c14 : List (Nat × Instr × Nat) := [(0, .iconst 0, 1), (1, .istore_n 2, 1), (2, .iload_n 2, 1), (3, .sipush 1024, 3), (6, .if_icmp .ge 62, 3), (9, .aload_n 0, 1), (10, .getfield 205, 3), (13, .iload_n 1, 1), (14, .if_icmp .le 54, 3), (17, .aload_n 0, 1), (18, .getfield 205, 3), (21, .ifCond .le 47, 3), (24, .aload_n 0, 1), (25, .dup, 1), (26, .getfield 205, 3), (29, .iconst 1, 1), (30, .isub, 1), (31, .putfield 205, 3), (34, .aload_n 0, 1), (35, .getfield 107, 3), (38, .aload_n 0, 1), (39, .getfield 205, 3), (42, .iaload, 1), (43, .istore_n 3, 1), (44, .iload_n 3, 1), (45, .ifCond .lt 17, 3), (48, .iload_n 3, 1), (49, .sipush 2048, 3), (52, .if_icmp .ge 10, 3), (55, .aload_n 0, 1), (56, .getfield 104, 3), (59, .iload_n 3, 1), (60, .iconst 0, 1), (61, .bastore, 1), (62, .iinc 2 1, 3), (65, .goto (-63), 3), (68, .aload_n 0, 1), (69, .iconst (-1), 1), (70, .putfield 114, 3), (73, .return_, 1)]
theorem D14 : decs prog_1_method_71_code c14 = true := by decide +kernel
theorem d14 (k : Nat) {p : Nat} {i : Instr} {n : Nat} (h : c14[k]? = some (p, i, n)) : decode prog_1_method_71_code p = .ok (i, n) := dget D14 h
def c15 : List (Nat × Instr × Nat) := [(0, .iconst 0, 1), (1, .istore_n 1, 1), (2, .iload_n 1, 1), (3, .aload_n 0, 1), (4, .getfield 117, 3), (7, .if_icmp .ge 102, 3), (10, .iload_n 1, 1), (11, .bipush 32, 2), (13, .if_icmp .ge 96, 3), (16, .aload_n 0, 1), (17, .getfield 64, 3), (20, .iload_n 1, 1), (21, .iconst 0, 1), (22, .iastore, 1), (23, .aload_n 0, 1), (24, .getfield 7, 3), (27, .iload_n 1, 1), (28, .iaload, 1), (29, .bipush 13, 2), (31, .if_icmp .eq 6, 3), (34, .goto 69, 3), (37, .aload_n 0, 1), (38, .getfield 22, 3), (41, .iload_n 1, 1), (42, .iaload, 1), (43, .istore_n 2, 1), (44, .iconst 0, 1), (45, .istore_n 3, 1), (46, .iload_n 1, 1), (47, .iconst 1, 1), (48, .iadd, 1), (49, .istore 4, 2), (51, .iload 4, 2), (53, .iload_n 2, 1), (54, .if_icmp .ge 42, 3), (57, .iload 4, 2), (59, .bipush 32, 2), (61, .if_icmp .ge 35, 3), (64, .aload_n 0, 1), (65, .getfield 7, 3), (68, .iload 4, 2), (70, .iaload, 1), (71, .bipush 11, 2), (73, .if_icmp .ne 17, 3), (76, .iload_n 3, 1), (77, .iconst 1, 1), (78, .aload_n 0, 1), (79, .getfield 13, 3), (82, .iload 4, 2), (84, .iaload, 1), (85, .iconst 3, 1), (86, .iand, 1), (87, .ishl, 1), (88, .ior, 1), (89, .istore_n 3, 1), (90, .iinc 4 1, 3), (93, .goto (-42), 3), (96, .aload_n 0, 1), (97, .getfield 64, 3), (100, .iload_n 1, 1), (101, .iload_n 3, 1), (102, .iastore, 1), (103, .iinc 1 1, 3), (106, .goto (-104), 3), (109, .return_, 1)]
theorem D15 : decs prog_1_method_26_code c15 = true := by decide +kernel
theorem d15 (k : Nat) {p : Nat} {i : Instr} {n : Nat} (h : c15[k]? = some (p, i, n)) : decode prog_1_method_26_code p = .ok (i, n) := dget D15 h
def c21 : List (Nat × Instr × Nat) := [(0, .aload_n 0, 1), (1, .getfield 165, 3), (4, .ifCond .lt 13, 3), (7, .aload_n 0, 1), (8, .getfield 165, 3), (11, .sipush 1024, 3), (14, .if_icmp .lt 11, 3), (17, .aload_n 0, 1), (18, .iconst 1, 1), (19, .putfield 171, 3), (22, .bipush 32, 2), (24, .ireturn, 1), (25, .bipush 32, 2), (27, .aload_n 0, 1), (28, .getfield 165, 3), (31, .iadd, 1), (32, .istore 4, 2), (34, .aload_n 0, 1), (35, .getfield 31, 3), (38, .iload 4, 2), (40, .iload_n 1, 1), (41, .iastore, 1), (42, .aload_n 0, 1), (43, .getfield 34, 3), (46, .iload 4, 2), (48, .iload_n 2, 1), (49, .iastore, 1), (50, .aload_n 0, 1), (51, .getfield 37, 3), (54, .iload 4, 2), (56, .iload_n 3, 1), (57, .iastore, 1), (58, .aload_n 0, 1), (59, .getfield 40, 3), (62, .iload 4, 2), (64, .iconst 0, 1), (65, .iastore, 1), (66, .aload_n 0, 1), (67, .dup, 1), (68, .getfield 165, 3), (71, .iconst 1, 1), (72, .iadd, 1), (73, .putfield 165, 3), (76, .iload 4, 2), (78, .ireturn, 1)]
theorem D21 : decs prog_1_method_31_code c21 = true := by decide +kernel
theorem d21 (k : Nat) {p : Nat} {i : Instr} {n : Nat} (h : c21[k]? = some (p, i, n)) : decode prog_1_method_31_code p = .ok (i, n) := dget D21 h
def c24 : List (Nat × Instr × Nat) := [(0, .aload_n 0, 1), (1, .getfield 64, 3), (4, .iload_n 1, 1), (5, .iaload, 1), (6, .istore_n 2, 1), (7, .iconst 0, 1), (8, .istore_n 3, 1), (9, .iload_n 3, 1), (10, .iconst 4, 1), (11, .if_icmp .ge 31, 3), (14, .iload_n 2, 1), (15, .iload_n 3, 1), (16, .ishr, 1), (17, .iconst 1, 1), (18, .iand, 1), (19, .ifCond .eq 17, 3), (22, .aload_n 0, 1), (23, .getfield 67, 3), (26, .iload_n 3, 1), (27, .aload_n 0, 1), (28, .getfield 67, 3), (31, .iload_n 3, 1), (32, .iaload, 1), (33, .iconst 1, 1), (34, .iadd, 1), (35, .iastore, 1), (36, .iinc 3 1, 3), (39, .goto (-30), 3), (42, .aload_n 0, 1), (43, .bipush 13, 2), (45, .aload_n 0, 1), (46, .getfield 13, 3), (49, .iload_n 1, 1), (50, .iaload, 1), (51, .iconst 0, 1), (52, .invokevirtual 199, 3), (55, .istore_n 3, 1), (56, .aload_n 0, 1), (57, .getfield 174, 3), (60, .ifCond .lt 44, 3), (63, .aload_n 0, 1), (64, .getfield 174, 3), (67, .iconst 3, 1), (68, .if_icmp .ge 36, 3), (71, .aload_n 0, 1), (72, .getfield 70, 3), (75, .aload_n 0, 1), (76, .getfield 174, 3), (79, .iload_n 3, 1), (80, .iastore, 1), (81, .aload_n 0, 1), (82, .getfield 73, 3), (85, .aload_n 0, 1), (86, .getfield 174, 3), (89, .aload_n 0, 1), (90, .getfield 205, 3), (93, .iastore, 1), (94, .aload_n 0, 1), (95, .dup, 1), (96, .getfield 174, 3), (99, .iconst 1, 1), (100, .iadd, 1), (101, .putfield 174, 3), (104, .return_, 1)]
theorem D24 : decs prog_1_method_29_code c24 = true := by decide +kernel
theorem d24 (k : Nat) {p : Nat} {i : Instr} {n : Nat} (h : c24[k]? = some (p, i, n)) : decode prog_1_method_29_code p = .ok (i, n) := dget D24 h
def c49 : List (Nat × Instr × Nat) := [(0, .aload_n 0, 1), (1, .getfield 174, 3), (4, .ifCond .le 11, 3), (7, .aload_n 0, 1), (8, .getfield 174, 3), (11, .iconst 3, 1), (12, .if_icmp .le 4, 3), (15, .return_, 1), (16, .aload_n 0, 1), (17, .dup, 1), (18, .getfield 174, 3), (21, .iconst 1, 1), (22, .isub, 1), (23, .putfield 174, 3), (26, .aload_n 0, 1), (27, .getfield 70, 3), (30, .aload_n 0, 1), (31, .getfield 174, 3), (34, .iaload, 1), (35, .istore_n 1, 1), (36, .aload_n 0, 1), (37, .bipush 14, 2), (39, .iload_n 1, 1), (40, .iconst 0, 1), (41, .invokevirtual 199, 3), (44, .istore_n 2, 1), (45, .iload_n 1, 1), (46, .ifCond .lt 17, 3), (49, .iload_n 1, 1), (50, .sipush 1056, 3), (53, .if_icmp .ge 10, 3), (56, .aload_n 0, 1), (57, .getfield 37, 3), (60, .iload_n 1, 1), (61, .iload_n 2, 1), (62, .iastore, 1), (63, .aload_n 0, 1), (64, .aload_n 0, 1), (65, .getfield 73, 3), (68, .aload_n 0, 1), (69, .getfield 174, 3), (72, .iaload, 1), (73, .invokevirtual 168, 3), (76, .return_, 1)]
theorem D49 : decs prog_1_method_30_code c49 = true := by decide +kernel
theorem d49 (k : Nat) {p : Nat} {i : Instr} {n : Nat} (h : c49[k]? = some (p, i, n)) : decode prog_1_method_30_code p = .ok (i, n) := dget D49 h
def c30 : List (Nat × Instr × Nat) := [(0, .iload_n 1, 1), (1, .ifCond .lt 9, 3), (4, .iload_n 1, 1), (5, .bipush 32, 2), (7, .if_icmp .lt 6, 3), (10, .bipush 32, 2), (12, .ireturn, 1), (13, .aload_n 0, 1), (14, .getfield 61, 3), (17, .iload_n 1, 1), (18, .iaload, 1), (19, .ireturn, 1)]
theorem D30 : decs prog_1_method_32_code c30 = true := by decide +kernel
theorem d30 (k : Nat) {p : Nat} {i : Instr} {n : Nat} (h : c30[k]? = some (p, i, n)) : decode prog_1_method_32_code p = .ok (i, n) := dget D30 h
def c48 : List (Nat × Instr × Nat) := [(0, .aload_n 0, 1), (1, .getfield 13, 3), (4, .iload_n 1, 1), (5, .iaload, 1), (6, .iconst 3, 1), (7, .iand, 1), (8, .istore_n 2, 1), (9, .aload_n 0, 1), (10, .aload_n 0, 1), (11, .getfield 16, 3), (14, .iload_n 1, 1), (15, .iaload, 1), (16, .invokevirtual 195, 3), (19, .istore_n 3, 1), (20, .aload_n 0, 1), (21, .bipush 11, 2), (23, .iload_n 2, 1), (24, .iload_n 3, 1), (25, .invokevirtual 199, 3), (28, .pop, 1), (29, .aload_n 0, 1), (30, .getfield 67, 3), (33, .iload_n 2, 1), (34, .aload_n 0, 1), (35, .getfield 67, 3), (38, .iload_n 2, 1), (39, .iaload, 1), (40, .iconst 1, 1), (41, .iadd, 1), (42, .iastore, 1), (43, .return_, 1)]
theorem D48 : decs prog_1_method_28_code c48 = true := by decide +kernel
theorem d48 (k : Nat) {p : Nat} {i : Instr} {n : Nat} (h : c48[k]? = some (p, i, n)) : decode prog_1_method_28_code p = .ok (i, n) := dget D48 h
def c20 : List (Nat × Instr × Nat) := [(0, .iload_n 1, 1), (1, .ldc_w 326, 3), (4, .imul, 1), (5, .iload_n 2, 1), (6, .ldc_w 327, 3), (9, .imul, 1), (10, .iadd, 1), (11, .istore 4, 2), (13, .iload 4, 2), (15, .iload_n 3, 1), (16, .ldc_w 328, 3), (19, .imul, 1), (20, .ixor, 1), (21, .istore 4, 2), (23, .iload 4, 2), (25, .iload 4, 2), (27, .bipush 15, 2), (29, .iushr, 1), (30, .ixor, 1), (31, .istore 4, 2), (33, .iload 4, 2), (35, .ldc_w 329, 3), (38, .imul, 1), (39, .istore 4, 2), (41, .iload 4, 2), (43, .iload 4, 2), (45, .bipush 13, 2), (47, .iushr, 1), (48, .ixor, 1), (49, .istore 4, 2), (51, .iload 4, 2), (53, .sipush 2047, 3), (56, .iand, 1), (57, .ireturn, 1)]
theorem D20 : decs prog_1_method_68_code c20 = true := by decide +kernel
theorem d20 (k : Nat) {p : Nat} {i : Instr} {n : Nat} (h : c20[k]? = some (p, i, n)) : decode prog_1_method_68_code p = .ok (i, n) := dget D20 h
def c19 : List (Nat × Instr × Nat) := [(0, .aload_n 0, 1), (1, .iload_n 1, 1), (2, .iload_n 2, 1), (3, .iload_n 3, 1), (4, .invokevirtual 330, 3), (7, .istore 4, 2), (9, .aload_n 0, 1), (10, .iconst (-1), 1), (11, .putfield 114, 3), (14, .iconst 0, 1), (15, .istore 5, 2), (17, .iload 5, 2), (19, .sipush 2048, 3), (22, .if_icmp .ge 79, 3), (25, .iload 4, 2), (27, .iload 5, 2), (29, .iadd, 1), (30, .sipush 2047, 3), (33, .iand, 1), (34, .istore 6, 2), (36, .aload_n 0, 1), (37, .getfield 104, 3), (40, .iload 6, 2), (42, .baload, 1), (43, .ifCond .ne 11, 3), (46, .aload_n 0, 1), (47, .iload 6, 2), (49, .putfield 114, 3), (52, .iconst (-1), 1), (53, .ireturn, 1), (54, .aload_n 0, 1), (55, .getfield 92, 3), (58, .iload 6, 2), (60, .iaload, 1), (61, .iload_n 1, 1), (62, .if_icmp .ne 33, 3), (65, .aload_n 0, 1), (66, .getfield 95, 3), (69, .iload 6, 2), (71, .iaload, 1), (72, .iload_n 2, 1), (73, .if_icmp .ne 22, 3), (76, .aload_n 0, 1), (77, .getfield 98, 3), (80, .iload 6, 2), (82, .iaload, 1), (83, .iload_n 3, 1), (84, .if_icmp .ne 11, 3), (87, .aload_n 0, 1), (88, .getfield 101, 3), (91, .iload 6, 2), (93, .iaload, 1), (94, .ireturn, 1), (95, .iinc 5 1, 3), (98, .goto (-81), 3), (101, .iconst (-1), 1), (102, .ireturn, 1)]
theorem D19 : decs prog_1_method_69_code c19 = true := by decide +kernel
theorem d19 (k : Nat) {p : Nat} {i : Instr} {n : Nat} (h : c19[k]? = some (p, i, n)) : decode prog_1_method_69_code p = .ok (i, n) := dget D19 h
def c22 : List (Nat × Instr × Nat) := [(0, .aload_n 0, 1), (1, .getfield 114, 3), (4, .istore 5, 2), (6, .aload_n 0, 1), (7, .iconst (-1), 1), (8, .putfield 114, 3), (11, .iload 5, 2), (13, .ifCond .lt 28, 3), (16, .iload 5, 2), (18, .sipush 2048, 3), (21, .if_icmp .ge 20, 3), (24, .aload_n 0, 1), (25, .getfield 205, 3), (28, .ifCond .lt 13, 3), (31, .aload_n 0, 1), (32, .getfield 205, 3), (35, .sipush 1024, 3), (38, .if_icmp .lt 4, 3), (41, .return_, 1), (42, .aload_n 0, 1), (43, .getfield 92, 3), (46, .iload 5, 2), (48, .iload_n 1, 1), (49, .iastore, 1), (50, .aload_n 0, 1), (51, .getfield 95, 3), (54, .iload 5, 2), (56, .iload_n 2, 1), (57, .iastore, 1), (58, .aload_n 0, 1), (59, .getfield 98, 3), (62, .iload 5, 2), (64, .iload_n 3, 1), (65, .iastore, 1), (66, .aload_n 0, 1), (67, .getfield 101, 3), (70, .iload 5, 2), (72, .iload 4, 2), (74, .iastore, 1), (75, .aload_n 0, 1), (76, .getfield 104, 3), (79, .iload 5, 2), (81, .iconst 1, 1), (82, .bastore, 1), (83, .aload_n 0, 1), (84, .getfield 107, 3), (87, .aload_n 0, 1), (88, .getfield 205, 3), (91, .iload 5, 2), (93, .iastore, 1), (94, .aload_n 0, 1), (95, .dup, 1), (96, .getfield 205, 3), (99, .iconst 1, 1), (100, .iadd, 1), (101, .putfield 205, 3), (104, .return_, 1)]
theorem D22 : decs prog_1_method_70_code c22 = true := by decide +kernel
theorem d22 (k : Nat) {p : Nat} {i : Instr} {n : Nat} (h : c22[k]? = some (p, i, n)) : decode prog_1_method_70_code p = .ok (i, n) := dget D22 h
def c18 : List (Nat × Instr × Nat) := [(0, .aload_n 0, 1), (1, .iload_n 1, 1), (2, .iload_n 2, 1), (3, .iload_n 3, 1), (4, .invokevirtual 234, 3), (7, .istore 5, 2), (9, .iload 5, 2), (11, .ifCond .lt 6, 3), (14, .iload 5, 2), (16, .ireturn, 1), (17, .aload_n 0, 1), (18, .iload_n 1, 1), (19, .iload_n 2, 1), (20, .iconst 0, 1), (21, .invokevirtual 199, 3), (24, .istore 6, 2), (26, .aload_n 0, 1), (27, .getfield 40, 3), (30, .iload 6, 2), (32, .iload 4, 2), (34, .iastore, 1), (35, .aload_n 0, 1), (36, .iload_n 1, 1), (37, .iload_n 2, 1), (38, .iload_n 3, 1), (39, .iload 6, 2), (41, .invokevirtual 237, 3), (44, .iload 6, 2), (46, .ireturn, 1)]
theorem D18 : decs prog_1_method_36_code c18 = true := by decide +kernel
theorem d18 (k : Nat) {p : Nat} {i : Instr} {n : Nat} (h : c18[k]? = some (p, i, n)) : decode prog_1_method_36_code p = .ok (i, n) := dget D18 h
def c23 : List (Nat × Instr × Nat) := [(0, .aload_n 0, 1), (1, .iconst 1, 1), (2, .iload_n 1, 1), (3, .iconst 0, 1), (4, .iconst 0, 1), (5, .invokevirtual 211, 3), (8, .ireturn, 1)]
theorem D23 : decs prog_1_method_35_code c23 = true := by decide +kernel
theorem d23 (k : Nat) {p : Nat} {i : Instr} {n : Nat} (h : c23[k]? = some (p, i, n)) : decode prog_1_method_35_code p = .ok (i, n) := dget D23 h
def c25 : List (Nat × Instr × Nat) := [(0, .iload_n 1, 1), (1, .iconst 5, 1), (2, .if_icmp .eq 9, 3), (5, .iload_n 1, 1), (6, .bipush 10, 2), (8, .if_icmp .ne 5, 3), (11, .iconst 4, 1), (12, .ireturn, 1), (13, .iload_n 1, 1), (14, .ireturn, 1)]
theorem D25 : decs prog_1_method_34_code c25 = true := by decide +kernel
theorem d25 (k : Nat) {p : Nat} {i : Instr} {n : Nat} (h : c25[k]? = some (p, i, n)) : decode prog_1_method_34_code p = .ok (i, n) := dget D25 h
def c27 : List (Nat × Instr × Nat) := [(0, .aload_n 0, 1), (1, .getfield 296, 3), (4, .ifCond .lt 12, 3), (7, .aload_n 0, 1), (8, .getfield 296, 3), (11, .bipush 64, 2), (13, .if_icmp .lt 5, 3), (16, .iconst 0, 1), (17, .ireturn, 1), (18, .aload_n 0, 1), (19, .getfield 86, 3), (22, .aload_n 0, 1), (23, .getfield 296, 3), (26, .iload_n 1, 1), (27, .iastore, 1), (28, .aload_n 0, 1), (29, .getfield 89, 3), (32, .aload_n 0, 1), (33, .getfield 296, 3), (36, .iload_n 2, 1), (37, .iastore, 1), (38, .aload_n 0, 1), (39, .dup, 1), (40, .getfield 296, 3), (43, .iconst 1, 1), (44, .iadd, 1), (45, .putfield 296, 3), (48, .iconst 1, 1), (49, .ireturn, 1)]
theorem D27 : decs prog_1_method_59_code c27 = true := by decide +kernel
theorem d27 (k : Nat) {p : Nat} {i : Instr} {n : Nat} (h : c27[k]? = some (p, i, n)) : decode prog_1_method_59_code p = .ok (i, n) := dget D27 h
def c29 : List (Nat × Instr × Nat) := [(0, .iload_n 3, 1), (1, .iconst 4, 1), (2, .if_icmp .eq 8, 3), (5, .iload_n 3, 1), (6, .iconst 5, 1), (7, .if_icmp .ne 52, 3), (10, .iload_n 3, 1), (11, .iconst 4, 1), (12, .if_icmp .ne 7, 3), (15, .iload_n 2, 1), (16, .goto 6, 3), (19, .iconst 0, 1), (20, .iload_n 2, 1), (21, .isub, 1), (22, .istore 4, 2), (24, .aload_n 0, 1), (25, .aload_n 0, 1), (26, .getfield 16, 3), (29, .iload_n 1, 1), (30, .iaload, 1), (31, .iload 4, 2), (33, .invokevirtual 299, 3), (36, .ifCond .ne 5, 3), (39, .iconst (-1), 1), (40, .ireturn, 1), (41, .aload_n 0, 1), (42, .aload_n 0, 1), (43, .getfield 13, 3), (46, .iload_n 1, 1), (47, .iaload, 1), (48, .iload_n 2, 1), (49, .invokevirtual 299, 3), (52, .ifCond .ne 5, 3), (55, .iconst (-1), 1), (56, .ireturn, 1), (57, .iconst 1, 1), (58, .ireturn, 1), (59, .iload_n 3, 1), (60, .bipush 10, 2), (62, .if_icmp .ne 23, 3), (65, .aload_n 0, 1), (66, .aload_n 0, 1), (67, .getfield 13, 3), (70, .iload_n 1, 1), (71, .iaload, 1), (72, .iconst 0, 1), (73, .iload_n 2, 1), (74, .isub, 1), (75, .invokevirtual 299, 3), (78, .ifCond .ne 5, 3), (81, .iconst (-1), 1), (82, .ireturn, 1), (83, .iconst 1, 1), (84, .ireturn, 1), (85, .iconst 0, 1), (86, .ireturn, 1)]
theorem D29 : decs prog_1_method_58_code c29 = true := by decide +kernel
theorem d29 (k : Nat) {p : Nat} {i : Instr} {n : Nat} (h : c29[k]? = some (p, i, n)) : decode prog_1_method_58_code p = .ok (i, n) := dget D29 h
def c28 : List (Nat × Instr × Nat) := [(0, .iload_n 1, 1), (1, .ifCond .lt 17, 3), (4, .iload_n 1, 1), (5, .aload_n 0, 1), (6, .getfield 117, 3), (9, .if_icmp .ge 9, 3), (12, .iload_n 1, 1), (13, .bipush 32, 2), (15, .if_icmp .lt 5, 3), (18, .iconst 0, 1), (19, .ireturn, 1), (20, .aload_n 0, 1), (21, .getfield 7, 3), (24, .iload_n 1, 1), (25, .iaload, 1), (26, .istore 4, 2), (28, .iload_n 3, 1), (29, .iconst 4, 1), (30, .if_icmp .ne 12, 3), (33, .aload_n 0, 1), (34, .iload_n 1, 1), (35, .iload_n 2, 1), (36, .iload 4, 2), (38, .invokevirtual 308, 3), (41, .ireturn, 1), (42, .iload 4, 2), (44, .iload_n 3, 1), (45, .if_icmp .eq 5, 3), (48, .iconst 0, 1), (49, .ireturn, 1), (50, .aload_n 0, 1), (51, .aload_n 0, 1), (52, .getfield 16, 3), (55, .iload_n 1, 1), (56, .iaload, 1), (57, .iload_n 2, 1), (58, .invokevirtual 299, 3), (61, .ifCond .ne 5, 3), (64, .iconst (-1), 1), (65, .ireturn, 1), (66, .aload_n 0, 1), (67, .aload_n 0, 1), (68, .getfield 13, 3), (71, .iload_n 1, 1), (72, .iaload, 1), (73, .iload_n 2, 1), (74, .invokevirtual 299, 3), (77, .ifCond .ne 5, 3), (80, .iconst (-1), 1), (81, .ireturn, 1), (82, .iconst 1, 1), (83, .ireturn, 1)]
theorem D28 : decs prog_1_method_57_code c28 = true := by decide +kernel
theorem d28 (k : Nat) {p : Nat} {i : Instr} {n : Nat} (h : c28[k]? = some (p, i, n)) : decode prog_1_method_57_code p = .ok (i, n) := dget D28 h
def c31 : List (Nat × Instr × Nat) := [(0, .aload_n 0, 1), (1, .getfield 293, 3), (4, .ifCond .lt 12, 3), (7, .aload_n 0, 1), (8, .getfield 293, 3), (11, .bipush 16, 2), (13, .if_icmp .lt 5, 3), (16, .iconst 0, 1), (17, .ireturn, 1), (18, .aload_n 0, 1), (19, .getfield 76, 3), (22, .aload_n 0, 1), (23, .getfield 293, 3), (26, .iload_n 1, 1), (27, .iastore, 1), (28, .aload_n 0, 1), (29, .getfield 79, 3), (32, .aload_n 0, 1), (33, .getfield 293, 3), (36, .iload_n 2, 1), (37, .iastore, 1), (38, .aload_n 0, 1), (39, .getfield 82, 3), (42, .aload_n 0, 1), (43, .getfield 293, 3), (46, .iconst 0, 1), (47, .bastore, 1), (48, .aload_n 0, 1), (49, .dup, 1), (50, .getfield 293, 3), (53, .iconst 1, 1), (54, .iadd, 1), (55, .putfield 293, 3), (58, .iconst 1, 1), (59, .ireturn, 1)]
theorem D31 : decs prog_1_method_60_code c31 = true := by decide +kernel
theorem d31 (k : Nat) {p : Nat} {i : Instr} {n : Nat} (h : c31[k]? = some (p, i, n)) : decode prog_1_method_60_code p = .ok (i, n) := dget D31 h
def c26 : List (Nat × Instr × Nat) := [(0, .aload_n 0, 1), (1, .iconst 0, 1), (2, .putfield 293, 3), (5, .aload_n 0, 1), (6, .iconst 0, 1), (7, .putfield 296, 3), (10, .aload_n 0, 1), (11, .iload_n 1, 1), (12, .iconst 1, 1), (13, .invokevirtual 299, 3), (16, .ifCond .ne 5, 3), (19, .iconst 0, 1), (20, .ireturn, 1), (21, .iconst 0, 1), (22, .istore_n 3, 1), (23, .iload_n 3, 1), (24, .sipush 256, 3), (27, .if_icmp .ge 92, 3), (30, .aload_n 0, 1), (31, .getfield 296, 3), (34, .ifCond .le 85, 3), (37, .aload_n 0, 1), (38, .dup, 1), (39, .getfield 296, 3), (42, .iconst 1, 1), (43, .isub, 1), (44, .putfield 296, 3), (47, .aload_n 0, 1), (48, .getfield 86, 3), (51, .aload_n 0, 1), (52, .getfield 296, 3), (55, .iaload, 1), (56, .istore 4, 2), (58, .aload_n 0, 1), (59, .getfield 89, 3), (62, .aload_n 0, 1), (63, .getfield 296, 3), (66, .iaload, 1), (67, .istore 5, 2), (69, .aload_n 0, 1), (70, .iload 4, 2), (72, .iload 5, 2), (74, .iload_n 2, 1), (75, .invokevirtual 302, 3), (78, .istore 6, 2), (80, .iload 6, 2), (82, .ifCond .ge 5, 3), (85, .iconst 0, 1), (86, .ireturn, 1), (87, .iload 6, 2), (89, .ifCond .ne 24, 3), (92, .aload_n 0, 1), (93, .iload 4, 2), (95, .invokevirtual 195, 3), (98, .istore 7, 2), (100, .aload_n 0, 1), (101, .iload 7, 2), (103, .iload 5, 2), (105, .invokevirtual 305, 3), (108, .ifCond .ne 5, 3), (111, .iconst 0, 1), (112, .ireturn, 1), (113, .iinc 3 1, 3), (116, .goto (-93), 3), (119, .aload_n 0, 1), (120, .getfield 296, 3), (123, .ifCond .ne 7, 3), (126, .iconst 1, 1), (127, .goto 4, 3), (130, .iconst 0, 1), (131, .ireturn, 1)]
theorem D26 : decs prog_1_method_56_code c26 = true := by decide +kernel
theorem d26 (k : Nat) {p : Nat} {i : Instr} {n : Nat} (h : c26[k]? = some (p, i, n)) : decode prog_1_method_56_code p = .ok (i, n) := dget D26 h
def c34 : List (Nat × Instr × Nat) := [(0, .iload_n 1, 1), (1, .ifCond .lt 10, 3), (4, .iload_n 1, 1), (5, .sipush 1056, 3), (8, .if_icmp .lt 5, 3), (11, .iconst 0, 1), (12, .ireturn, 1), (13, .aload_n 0, 1), (14, .getfield 40, 3), (17, .iload_n 1, 1), (18, .iaload, 1), (19, .ireturn, 1)]
theorem D34 : decs prog_1_method_51_code c34 = true := by decide +kernel
theorem d34 (k : Nat) {p : Nat} {i : Instr} {n : Nat} (h : c34[k]? = some (p, i, n)) : decode prog_1_method_51_code p = .ok (i, n) := dget D34 h
def c33 : List (Nat × Instr × Nat) := [(0, .aload_n 0, 1), (1, .iload_n 1, 1), (2, .invokevirtual 247, 3), (5, .istore_n 3, 1), (6, .aload_n 0, 1), (7, .iload_n 2, 1), (8, .invokevirtual 247, 3), (11, .istore 4, 2), (13, .iload_n 3, 1), (14, .iload 4, 2), (16, .if_icmp .eq 15, 3), (19, .iload_n 3, 1), (20, .iload 4, 2), (22, .if_icmp .ge 7, 3), (25, .iconst 1, 1), (26, .goto 4, 3), (29, .iconst 0, 1), (30, .ireturn, 1), (31, .iload_n 1, 1), (32, .iload_n 2, 1), (33, .if_icmp .ge 7, 3), (36, .iconst 1, 1), (37, .goto 4, 3), (40, .iconst 0, 1), (41, .ireturn, 1)]
theorem D33 : decs prog_1_method_63_code c33 = true := by decide +kernel
theorem d33 (k : Nat) {p : Nat} {i : Instr} {n : Nat} (h : c33[k]? = some (p, i, n)) : decode prog_1_method_63_code p = .ok (i, n) := dget D33 h
def c32 : List (Nat × Instr × Nat) := [(0, .iconst 1, 1), (1, .istore_n 1, 1), (2, .iload_n 1, 1), (3, .aload_n 0, 1), (4, .getfield 293, 3), (7, .if_icmp .ge 108, 3), (10, .iload_n 1, 1), (11, .bipush 16, 2), (13, .if_icmp .ge 102, 3), (16, .aload_n 0, 1), (17, .getfield 76, 3), (20, .iload_n 1, 1), (21, .iaload, 1), (22, .istore_n 2, 1), (23, .aload_n 0, 1), (24, .getfield 79, 3), (27, .iload_n 1, 1), (28, .iaload, 1), (29, .istore_n 3, 1), (30, .iload_n 1, 1), (31, .istore 4, 2), (33, .iload 4, 2), (35, .ifCond .le 58, 3), (38, .aload_n 0, 1), (39, .iload_n 2, 1), (40, .aload_n 0, 1), (41, .getfield 76, 3), (44, .iload 4, 2), (46, .iconst 1, 1), (47, .isub, 1), (48, .iaload, 1), (49, .invokevirtual 311, 3), (52, .ifCond .eq 41, 3), (55, .aload_n 0, 1), (56, .getfield 76, 3), (59, .iload 4, 2), (61, .aload_n 0, 1), (62, .getfield 76, 3), (65, .iload 4, 2), (67, .iconst 1, 1), (68, .isub, 1), (69, .iaload, 1), (70, .iastore, 1), (71, .aload_n 0, 1), (72, .getfield 79, 3), (75, .iload 4, 2), (77, .aload_n 0, 1), (78, .getfield 79, 3), (81, .iload 4, 2), (83, .iconst 1, 1), (84, .isub, 1), (85, .iaload, 1), (86, .iastore, 1), (87, .iinc 4 (-1), 3), (90, .goto (-57), 3), (93, .aload_n 0, 1), (94, .getfield 76, 3), (97, .iload 4, 2), (99, .iload_n 2, 1), (100, .iastore, 1), (101, .aload_n 0, 1), (102, .getfield 79, 3), (105, .iload 4, 2), (107, .iload_n 3, 1), (108, .iastore, 1), (109, .iinc 1 1, 3), (112, .goto (-110), 3), (115, .return_, 1)]
theorem D32 : decs prog_1_method_62_code c32 = true := by decide +kernel
theorem d32 (k : Nat) {p : Nat} {i : Instr} {n : Nat} (h : c32[k]? = some (p, i, n)) : decode prog_1_method_62_code p = .ok (i, n) := dget D32 h
def c36 : List (Nat × Instr × Nat) := [(0, .iload_n 1, 1), (1, .ifCond .lt 10, 3), (4, .iload_n 1, 1), (5, .sipush 1056, 3), (8, .if_icmp .lt 5, 3), (11, .iconst 0, 1), (12, .ireturn, 1), (13, .aload_n 0, 1), (14, .getfield 31, 3), (17, .iload_n 1, 1), (18, .iaload, 1), (19, .iconst 1, 1), (20, .if_icmp .ne 7, 3), (23, .iconst 1, 1), (24, .goto 4, 3), (27, .iconst 0, 1), (28, .ireturn, 1)]
theorem D36 : decs prog_1_method_47_code c36 = true := by decide +kernel
theorem d36 (k : Nat) {p : Nat} {i : Instr} {n : Nat} (h : c36[k]? = some (p, i, n)) : decode prog_1_method_47_code p = .ok (i, n) := dget D36 h
def c47 : List (Nat × Instr × Nat) := [(0, .iload_n 1, 1), (1, .ifCond .lt 10, 3), (4, .iload_n 1, 1), (5, .sipush 1056, 3), (8, .if_icmp .lt 5, 3), (11, .iconst 0, 1), (12, .ireturn, 1), (13, .aload_n 0, 1), (14, .getfield 34, 3), (17, .iload_n 1, 1), (18, .iaload, 1), (19, .ireturn, 1)]
theorem D47 : decs prog_1_method_48_code c47 = true := by decide +kernel
theorem d47 (k : Nat) {p : Nat} {i : Instr} {n : Nat} (h : c47[k]? = some (p, i, n)) : decode prog_1_method_48_code p = .ok (i, n) := dget D47 h
def c37 : List (Nat × Instr × Nat) := [(0, .iconst 0, 1), (1, .istore_n 2, 1), (2, .iload_n 2, 1), (3, .aload_n 0, 1), (4, .getfield 293, 3), (7, .if_icmp .ge 122, 3), (10, .iload_n 2, 1), (11, .bipush 16, 2), (13, .if_icmp .ge 116, 3), (16, .aload_n 0, 1), (17, .getfield 82, 3), (20, .iload_n 2, 1), (21, .baload, 1), (22, .ifCond .eq 6, 3), (25, .goto 98, 3), (28, .iload_n 2, 1), (29, .iconst 1, 1), (30, .iadd, 1), (31, .istore_n 3, 1), (32, .iload_n 3, 1), (33, .aload_n 0, 1), (34, .getfield 293, 3), (37, .if_icmp .ge 86, 3), (40, .iload_n 3, 1), (41, .bipush 16, 2), (43, .if_icmp .ge 80, 3), (46, .aload_n 0, 1), (47, .getfield 82, 3), (50, .iload_n 3, 1), (51, .baload, 1), (52, .ifCond .ne 65, 3), (55, .aload_n 0, 1), (56, .getfield 76, 3), (59, .iload_n 3, 1), (60, .iaload, 1), (61, .aload_n 0, 1), (62, .getfield 76, 3), (65, .iload_n 2, 1), (66, .iaload, 1), (67, .if_icmp .eq 6, 3), (70, .goto 47, 3), (73, .iload_n 1, 1), (74, .ifCond .ne 21, 3), (77, .aload_n 0, 1), (78, .getfield 79, 3), (81, .iload_n 3, 1), (82, .iaload, 1), (83, .aload_n 0, 1), (84, .getfield 79, 3), (87, .iload_n 2, 1), (88, .iaload, 1), (89, .if_icmp .ne 6, 3), (92, .goto 25, 3), (95, .aload_n 0, 1), (96, .getfield 82, 3), (99, .iload_n 3, 1), (100, .iconst 1, 1), (101, .bastore, 1), (102, .iload_n 1, 1), (103, .iconst 2, 1), (104, .if_icmp .eq 13, 3), (107, .aload_n 0, 1), (108, .getfield 82, 3), (111, .iload_n 2, 1), (112, .iconst 1, 1), (113, .bastore, 1), (114, .goto 9, 3), (117, .iinc 3 1, 3), (120, .goto (-88), 3), (123, .iinc 2 1, 3), (126, .goto (-124), 3), (129, .return_, 1)]
theorem D37 : decs prog_1_method_67_code c37 = true := by decide +kernel
theorem d37 (k : Nat) {p : Nat} {i : Instr} {n : Nat} (h : c37[k]? = some (p, i, n)) : decode prog_1_method_67_code p = .ok (i, n) := dget D37 h
def c61 : List (Nat × Instr × Nat) := [(0, .iload_n 1, 1), (1, .iconst 4, 1), (2, .if_icmp .ne 7, 3), (5, .iload_n 2, 1), (6, .iload_n 3, 1), (7, .iadd, 1), (8, .ireturn, 1), (9, .iload_n 1, 1), (10, .iconst 5, 1), (11, .if_icmp .ne 7, 3), (14, .iload_n 2, 1), (15, .iload_n 3, 1), (16, .isub, 1), (17, .ireturn, 1), (18, .iload_n 1, 1), (19, .bipush 6, 2), (21, .if_icmp .ne 7, 3), (24, .iload_n 2, 1), (25, .iload_n 3, 1), (26, .imul, 1), (27, .ireturn, 1), (28, .iload_n 1, 1), (29, .bipush 7, 2), (31, .if_icmp .ne 7, 3), (34, .iload_n 2, 1), (35, .iload_n 3, 1), (36, .iand, 1), (37, .ireturn, 1), (38, .iload_n 1, 1), (39, .bipush 8, 2), (41, .if_icmp .ne 7, 3), (44, .iload_n 2, 1), (45, .iload_n 3, 1), (46, .ior, 1), (47, .ireturn, 1), (48, .iload_n 1, 1), (49, .bipush 9, 2), (51, .if_icmp .ne 7, 3), (54, .iload_n 2, 1), (55, .iload_n 3, 1), (56, .ixor, 1), (57, .ireturn, 1), (58, .iconst 0, 1), (59, .ireturn, 1)]
theorem D61 : decs prog_1_method_53_code c61 = true := by decide +kernel
theorem d61 (k : Nat) {p : Nat} {i : Instr} {n : Nat} (h : c61[k]? = some (p, i, n)) : decode prog_1_method_53_code p = .ok (i, n) := dget D61 h
def c42 : List (Nat × Instr × Nat) := [(0, .aload_n 0, 1), (1, .iload_n 1, 1), (2, .invokevirtual 241, 3), (5, .ifCond .ne 5, 3), (8, .iconst 0, 1), (9, .ireturn, 1), (10, .aload_n 0, 1), (11, .getfield 34, 3), (14, .iload_n 1, 1), (15, .iaload, 1), (16, .iload_n 2, 1), (17, .if_icmp .ne 7, 3), (20, .iconst 1, 1), (21, .goto 4, 3), (24, .iconst 0, 1), (25, .ireturn, 1)]
theorem D42 : decs prog_1_method_49_code c42 = true := by decide +kernel
theorem d42 (k : Nat) {p : Nat} {i : Instr} {n : Nat} (h : c42[k]? = some (p, i, n)) : decode prog_1_method_49_code p = .ok (i, n) := dget D42 h
def c43 : List (Nat × Instr × Nat) := [(0, .iload_n 1, 1), (1, .bipush 32, 2), (3, .if_icmp .lt 10, 3), (6, .iload_n 1, 1), (7, .sipush 1056, 3), (10, .if_icmp .lt 5, 3), (13, .iconst 0, 1), (14, .ireturn, 1), (15, .aload_n 0, 1), (16, .getfield 31, 3), (19, .iload_n 1, 1), (20, .iaload, 1), (21, .bipush 10, 2), (23, .if_icmp .ne 17, 3), (26, .aload_n 0, 1), (27, .getfield 34, 3), (30, .iload_n 1, 1), (31, .iaload, 1), (32, .iload_n 2, 1), (33, .if_icmp .ne 7, 3), (36, .iconst 1, 1), (37, .goto 4, 3), (40, .iconst 0, 1), (41, .ireturn, 1)]
theorem D43 : decs prog_1_method_50_code c43 = true := by decide +kernel
theorem d43 (k : Nat) {p : Nat} {i : Instr} {n : Nat} (h : c43[k]? = some (p, i, n)) : decode prog_1_method_50_code p = .ok (i, n) := dget D43 h
def c41 : List (Nat × Instr × Nat) := [(0, .aload_n 0, 1), (1, .iload_n 1, 1), (2, .iconst 0, 1), (3, .invokevirtual 281, 3), (6, .ifCond .eq 5, 3), (9, .iload_n 2, 1), (10, .ireturn, 1), (11, .aload_n 0, 1), (12, .iload_n 2, 1), (13, .iconst 0, 1), (14, .invokevirtual 281, 3), (17, .ifCond .eq 5, 3), (20, .iload_n 1, 1), (21, .ireturn, 1), (22, .aload_n 0, 1), (23, .iload_n 1, 1), (24, .iload_n 2, 1), (25, .invokevirtual 284, 3), (28, .ifCond .ne 12, 3), (31, .aload_n 0, 1), (32, .iload_n 2, 1), (33, .iload_n 1, 1), (34, .invokevirtual 284, 3), (37, .ifCond .eq 9, 3), (40, .aload_n 0, 1), (41, .iconst 0, 1), (42, .invokevirtual 208, 3), (45, .ireturn, 1), (46, .iconst (-1), 1), (47, .ireturn, 1)]
theorem D41 : decs prog_1_method_41_code c41 = true := by decide +kernel
theorem d41 (k : Nat) {p : Nat} {i : Instr} {n : Nat} (h : c41[k]? = some (p, i, n)) : decode prog_1_method_41_code p = .ok (i, n) := dget D41 h
def c46 : List (Nat × Instr × Nat) := [(0, .aload_n 0, 1), (1, .iload_n 2, 1), (2, .iconst 0, 1), (3, .invokevirtual 281, 3), (6, .ifCond .eq 5, 3), (9, .iload_n 1, 1), (10, .ireturn, 1), (11, .iload_n 1, 1), (12, .iload_n 2, 1), (13, .if_icmp .ne 9, 3), (16, .aload_n 0, 1), (17, .iconst 0, 1), (18, .invokevirtual 208, 3), (21, .ireturn, 1), (22, .aload_n 0, 1), (23, .iload_n 1, 1), (24, .iconst 0, 1), (25, .invokevirtual 281, 3), (28, .ifCond .eq 9, 3), (31, .aload_n 0, 1), (32, .iload_n 2, 1), (33, .invokevirtual 287, 3), (36, .ireturn, 1), (37, .iconst (-1), 1), (38, .ireturn, 1)]
theorem D46 : decs prog_1_method_42_code c46 = true := by decide +kernel
theorem d46 (k : Nat) {p : Nat} {i : Instr} {n : Nat} (h : c46[k]? = some (p, i, n)) : decode prog_1_method_42_code p = .ok (i, n) := dget D46 h
def c53 : List (Nat × Instr × Nat) := [(0, .aload_n 0, 1), (1, .iload_n 1, 1), (2, .iconst 0, 1), (3, .invokevirtual 281, 3), (6, .ifCond .eq 5, 3), (9, .iload_n 1, 1), (10, .ireturn, 1), (11, .aload_n 0, 1), (12, .iload_n 2, 1), (13, .iconst 0, 1), (14, .invokevirtual 281, 3), (17, .ifCond .eq 5, 3), (20, .iload_n 2, 1), (21, .ireturn, 1), (22, .aload_n 0, 1), (23, .iload_n 1, 1), (24, .iconst 1, 1), (25, .invokevirtual 281, 3), (28, .ifCond .eq 5, 3), (31, .iload_n 2, 1), (32, .ireturn, 1), (33, .aload_n 0, 1), (34, .iload_n 2, 1), (35, .iconst 1, 1), (36, .invokevirtual 281, 3), (39, .ifCond .eq 5, 3), (42, .iload_n 1, 1), (43, .ireturn, 1), (44, .aload_n 0, 1), (45, .iload_n 1, 1), (46, .iconst (-1), 1), (47, .invokevirtual 281, 3), (50, .ifCond .eq 9, 3), (53, .aload_n 0, 1), (54, .iload_n 2, 1), (55, .invokevirtual 287, 3), (58, .ireturn, 1), (59, .aload_n 0, 1), (60, .iload_n 2, 1), (61, .iconst (-1), 1), (62, .invokevirtual 281, 3), (65, .ifCond .eq 9, 3), (68, .aload_n 0, 1), (69, .iload_n 1, 1), (70, .invokevirtual 287, 3), (73, .ireturn, 1), (74, .iconst (-1), 1), (75, .ireturn, 1)]
theorem D53 : decs prog_1_method_43_code c53 = true := by decide +kernel
theorem d53 (k : Nat) {p : Nat} {i : Instr} {n : Nat} (h : c53[k]? = some (p, i, n)) : decode prog_1_method_43_code p = .ok (i, n) := dget D53 h
def c40 : List (Nat × Instr × Nat) := [(0, .iload_n 1, 1), (1, .iconst 4, 1), (2, .if_icmp .ne 10, 3), (5, .aload_n 0, 1), (6, .iload_n 2, 1), (7, .iload_n 3, 1), (8, .invokevirtual 262, 3), (11, .ireturn, 1), (12, .iload_n 1, 1), (13, .iconst 5, 1), (14, .if_icmp .ne 10, 3), (17, .aload_n 0, 1), (18, .iload_n 2, 1), (19, .iload_n 3, 1), (20, .invokevirtual 266, 3), (23, .ireturn, 1), (24, .iload_n 1, 1), (25, .bipush 6, 2), (27, .if_icmp .ne 10, 3), (30, .aload_n 0, 1), (31, .iload_n 2, 1), (32, .iload_n 3, 1), (33, .invokevirtual 269, 3), (36, .ireturn, 1), (37, .iload_n 1, 1), (38, .bipush 7, 2), (40, .if_icmp .ne 10, 3), (43, .aload_n 0, 1), (44, .iload_n 2, 1), (45, .iload_n 3, 1), (46, .invokevirtual 272, 3), (49, .ireturn, 1), (50, .iload_n 1, 1), (51, .bipush 8, 2), (53, .if_icmp .ne 10, 3), (56, .aload_n 0, 1), (57, .iload_n 2, 1), (58, .iload_n 3, 1), (59, .invokevirtual 275, 3), (62, .ireturn, 1), (63, .iload_n 1, 1), (64, .bipush 9, 2), (66, .if_icmp .ne 10, 3), (69, .aload_n 0, 1), (70, .iload_n 2, 1), (71, .iload_n 3, 1), (72, .invokevirtual 278, 3), (75, .ireturn, 1), (76, .iconst (-1), 1), (77, .ireturn, 1)]
theorem D40 : decs prog_1_method_40_code c40 = true := by decide +kernel
theorem d40 (k : Nat) {p : Nat} {i : Instr} {n : Nat} (h : c40[k]? = some (p, i, n)) : decode prog_1_method_40_code p = .ok (i, n) := dget D40 h
def c44 : List (Nat × Instr × Nat) := [(0, .iload_n 1, 1), (1, .iconst 4, 1), (2, .if_icmp .eq 27, 3), (5, .iload_n 1, 1), (6, .bipush 6, 2), (8, .if_icmp .eq 21, 3), (11, .iload_n 1, 1), (12, .bipush 7, 2), (14, .if_icmp .eq 15, 3), (17, .iload_n 1, 1), (18, .bipush 8, 2), (20, .if_icmp .eq 9, 3), (23, .iload_n 1, 1), (24, .bipush 9, 2), (26, .if_icmp .ne 7, 3), (29, .iconst 1, 1), (30, .goto 4, 3), (33, .iconst 0, 1), (34, .ireturn, 1)]
theorem D44 : decs prog_1_method_52_code c44 = true := by decide +kernel
theorem d44 (k : Nat) {p : Nat} {i : Instr} {n : Nat} (h : c44[k]? = some (p, i, n)) : decode prog_1_method_52_code p = .ok (i, n) := dget D44 h
def c45 : List (Nat × Instr × Nat) := [(0, .aload_n 0, 1), (1, .iload_n 1, 1), (2, .iload_n 2, 1), (3, .iload_n 3, 1), (4, .invokevirtual 234, 3), (7, .istore 4, 2), (9, .iload 4, 2), (11, .ifCond .lt 6, 3), (14, .iload 4, 2), (16, .ireturn, 1), (17, .aload_n 0, 1), (18, .iload_n 1, 1), (19, .iload_n 2, 1), (20, .iload_n 3, 1), (21, .invokevirtual 199, 3), (24, .istore 5, 2), (26, .aload_n 0, 1), (27, .iload_n 2, 1), (28, .invokevirtual 247, 3), (31, .istore 6, 2), (33, .aload_n 0, 1), (34, .iload_n 3, 1), (35, .invokevirtual 247, 3), (38, .istore 7, 2), (40, .aload_n 0, 1), (41, .getfield 40, 3), (44, .iload 5, 2), (46, .iload 6, 2), (48, .iload 7, 2), (50, .if_icmp .le 8, 3), (53, .iload 6, 2), (55, .goto 5, 3), (58, .iload 7, 2), (60, .iastore, 1), (61, .aload_n 0, 1), (62, .iload_n 1, 1), (63, .iload_n 2, 1), (64, .iload_n 3, 1), (65, .iload 5, 2), (67, .invokevirtual 237, 3), (70, .iload 5, 2), (72, .ireturn, 1)]
theorem D45 : decs prog_1_method_39_code c45 = true := by decide +kernel
theorem d45 (k : Nat) {p : Nat} {i : Instr} {n : Nat} (h : c45[k]? = some (p, i, n)) : decode prog_1_method_39_code p = .ok (i, n) := dget D45 h
def c39 : List (Nat × Instr × Nat) := [(0, .aload_n 0, 1), (1, .iload_n 2, 1), (2, .invokevirtual 241, 3), (5, .ifCond .eq 43, 3), (8, .aload_n 0, 1), (9, .iload_n 3, 1), (10, .invokevirtual 241, 3), (13, .ifCond .eq 35, 3), (16, .aload_n 0, 1), (17, .iload_n 2, 1), (18, .invokevirtual 244, 3), (21, .istore 4, 2), (23, .aload_n 0, 1), (24, .iload_n 3, 1), (25, .invokevirtual 244, 3), (28, .istore 5, 2), (30, .aload_n 0, 1), (31, .iload_n 1, 1), (32, .iload 4, 2), (34, .iload 5, 2), (36, .invokevirtual 250, 3), (39, .istore 6, 2), (41, .aload_n 0, 1), (42, .iload 6, 2), (44, .invokevirtual 208, 3), (47, .ireturn, 1), (48, .aload_n 0, 1), (49, .iload_n 1, 1), (50, .iload_n 2, 1), (51, .iload_n 3, 1), (52, .invokevirtual 253, 3), (55, .istore 4, 2), (57, .iload 4, 2), (59, .ifCond .lt 6, 3), (62, .iload 4, 2), (64, .ireturn, 1), (65, .aload_n 0, 1), (66, .iload_n 1, 1), (67, .invokevirtual 256, 3), (70, .ifCond .eq 16, 3), (73, .iload_n 2, 1), (74, .iload_n 3, 1), (75, .if_icmp .le 11, 3), (78, .aload_n 0, 1), (79, .iload_n 1, 1), (80, .iload_n 3, 1), (81, .iload_n 2, 1), (82, .invokevirtual 259, 3), (85, .ireturn, 1), (86, .aload_n 0, 1), (87, .iload_n 1, 1), (88, .iload_n 2, 1), (89, .iload_n 3, 1), (90, .invokevirtual 259, 3), (93, .ireturn, 1)]
theorem D39 : decs prog_1_method_38_code c39 = true := by decide +kernel
theorem d39 (k : Nat) {p : Nat} {i : Instr} {n : Nat} (h : c39[k]? = some (p, i, n)) : decode prog_1_method_38_code p = .ok (i, n) := dget D39 h
def c38 : List (Nat × Instr × Nat) := [(0, .iload_n 1, 1), (1, .ifCond .ge 15, 3), (4, .iload_n 3, 1), (5, .ifCond .le 5, 3), (8, .iload_n 2, 1), (9, .ireturn, 1), (10, .aload_n 0, 1), (11, .iload_n 2, 1), (12, .invokevirtual 287, 3), (15, .ireturn, 1), (16, .aload_n 0, 1), (17, .iload_n 3, 1), (18, .ifCond .le 7, 3), (21, .iconst 4, 1), (22, .goto 4, 3), (25, .iconst 5, 1), (26, .iload_n 1, 1), (27, .iload_n 2, 1), (28, .invokevirtual 320, 3), (31, .ireturn, 1)]
theorem D38 : decs prog_1_method_65_code c38 = true := by decide +kernel
theorem d38 (k : Nat) {p : Nat} {i : Instr} {n : Nat} (h : c38[k]? = some (p, i, n)) : decode prog_1_method_65_code p = .ok (i, n) := dget D38 h
def c35 : List (Nat × Instr × Nat) := [(0, .iconst 0, 1), (1, .istore_n 1, 1), (2, .iconst 0, 1), (3, .istore_n 2, 1), (4, .iload_n 2, 1), (5, .aload_n 0, 1), (6, .getfield 293, 3), (9, .if_icmp .ge 65, 3), (12, .iload_n 2, 1), (13, .bipush 16, 2), (15, .if_icmp .ge 59, 3), (18, .aload_n 0, 1), (19, .aload_n 0, 1), (20, .getfield 76, 3), (23, .iload_n 2, 1), (24, .iaload, 1), (25, .invokevirtual 241, 3), (28, .ifCond .eq 40, 3), (31, .aload_n 0, 1), (32, .aload_n 0, 1), (33, .getfield 76, 3), (36, .iload_n 2, 1), (37, .iaload, 1), (38, .invokevirtual 244, 3), (41, .istore_n 3, 1), (42, .aload_n 0, 1), (43, .getfield 79, 3), (46, .iload_n 2, 1), (47, .iaload, 1), (48, .ifCond .le 9, 3), (51, .iload_n 1, 1), (52, .iload_n 3, 1), (53, .iadd, 1), (54, .goto 6, 3), (57, .iload_n 1, 1), (58, .iload_n 3, 1), (59, .isub, 1), (60, .istore_n 1, 1), (61, .aload_n 0, 1), (62, .getfield 82, 3), (65, .iload_n 2, 1), (66, .iconst 1, 1), (67, .bastore, 1), (68, .iinc 2 1, 3), (71, .goto (-67), 3), (74, .aload_n 0, 1), (75, .iconst 0, 1), (76, .invokevirtual 314, 3), (79, .iconst (-1), 1), (80, .istore_n 2, 1), (81, .iload_n 1, 1), (82, .ifCond .eq 9, 3), (85, .aload_n 0, 1), (86, .iload_n 1, 1), (87, .invokevirtual 208, 3), (90, .istore_n 2, 1), (91, .iconst 0, 1), (92, .istore_n 3, 1), (93, .iload_n 3, 1), (94, .aload_n 0, 1), (95, .getfield 293, 3), (98, .if_icmp .ge 45, 3), (101, .iload_n 3, 1), (102, .bipush 16, 2), (104, .if_icmp .ge 39, 3), (107, .aload_n 0, 1), (108, .getfield 82, 3), (111, .iload_n 3, 1), (112, .baload, 1), (113, .ifCond .eq 6, 3), (116, .goto 21, 3), (119, .aload_n 0, 1), (120, .iload_n 2, 1), (121, .aload_n 0, 1), (122, .getfield 76, 3), (125, .iload_n 3, 1), (126, .iaload, 1), (127, .aload_n 0, 1), (128, .getfield 79, 3), (131, .iload_n 3, 1), (132, .iaload, 1), (133, .invokevirtual 317, 3), (136, .istore_n 2, 1), (137, .iinc 3 1, 3), (140, .goto (-47), 3), (143, .iload_n 2, 1), (144, .ifCond .ge 9, 3), (147, .aload_n 0, 1), (148, .iconst 0, 1), (149, .invokevirtual 208, 3), (152, .istore_n 2, 1), (153, .iload_n 2, 1), (154, .ireturn, 1)]
theorem D35 : decs prog_1_method_64_code c35 = true := by decide +kernel
theorem d35 (k : Nat) {p : Nat} {i : Instr} {n : Nat} (h : c35[k]? = some (p, i, n)) : decode prog_1_method_64_code p = .ok (i, n) := dget D35 h
def c51 : List (Nat × Instr × Nat) := [(0, .iload_n 1, 1), (1, .bipush 6, 2), (3, .if_icmp .ne 5, 3), (6, .iconst 1, 1), (7, .ireturn, 1), (8, .iload_n 1, 1), (9, .bipush 7, 2), (11, .if_icmp .ne 5, 3), (14, .iconst (-1), 1), (15, .ireturn, 1), (16, .iconst 0, 1), (17, .ireturn, 1)]
theorem D51 : decs prog_1_method_54_code c51 = true := by decide +kernel
theorem d51 (k : Nat) {p : Nat} {i : Instr} {n : Nat} (h : c51[k]? = some (p, i, n)) : decode prog_1_method_54_code p = .ok (i, n) := dget D51 h
def c52 : List (Nat × Instr × Nat) := [(0, .iload_n 1, 1), (1, .bipush 8, 2), (3, .if_icmp .ne 5, 3), (6, .iconst (-1), 1), (7, .ireturn, 1), (8, .iload_n 1, 1), (9, .bipush 6, 2), (11, .if_icmp .eq 9, 3), (14, .iload_n 1, 1), (15, .bipush 7, 2), (17, .if_icmp .ne 5, 3), (20, .iconst 0, 1), (21, .ireturn, 1), (22, .aload_n 0, 1), (23, .iload_n 1, 1), (24, .invokevirtual 290, 3), (27, .ireturn, 1)]
theorem D52 : decs prog_1_method_55_code c52 = true := by decide +kernel
theorem d52 (k : Nat) {p : Nat} {i : Instr} {n : Nat} (h : c52[k]? = some (p, i, n)) : decode prog_1_method_55_code p = .ok (i, n) := dget D52 h
def c50 : List (Nat × Instr × Nat) := [(0, .aload_n 0, 1), (1, .iload_n 1, 1), (2, .invokevirtual 290, 3), (5, .istore_n 2, 1), (6, .iload_n 2, 1), (7, .istore_n 3, 1), (8, .iconst 0, 1), (9, .istore 4, 2), (11, .iload 4, 2), (13, .aload_n 0, 1), (14, .getfield 293, 3), (17, .if_icmp .ge 60, 3), (20, .iload 4, 2), (22, .bipush 16, 2), (24, .if_icmp .ge 53, 3), (27, .aload_n 0, 1), (28, .aload_n 0, 1), (29, .getfield 76, 3), (32, .iload 4, 2), (34, .iaload, 1), (35, .invokevirtual 241, 3), (38, .ifCond .eq 33, 3), (41, .aload_n 0, 1), (42, .aload_n 0, 1), (43, .getfield 76, 3), (46, .iload 4, 2), (48, .iaload, 1), (49, .invokevirtual 244, 3), (52, .istore 5, 2), (54, .aload_n 0, 1), (55, .iload_n 1, 1), (56, .iload_n 3, 1), (57, .iload 5, 2), (59, .invokevirtual 250, 3), (62, .istore_n 3, 1), (63, .aload_n 0, 1), (64, .getfield 82, 3), (67, .iload 4, 2), (69, .iconst 1, 1), (70, .bastore, 1), (71, .iinc 4 1, 3), (74, .goto (-63), 3), (77, .iload_n 1, 1), (78, .bipush 9, 2), (80, .if_icmp .eq 18, 3), (83, .iload_n 3, 1), (84, .aload_n 0, 1), (85, .iload_n 1, 1), (86, .invokevirtual 323, 3), (89, .if_icmp .ne 9, 3), (92, .aload_n 0, 1), (93, .iload_n 3, 1), (94, .invokevirtual 208, 3), (97, .ireturn, 1), (98, .iload_n 1, 1), (99, .bipush 9, 2), (101, .if_icmp .ne 11, 3), (104, .aload_n 0, 1), (105, .iconst 1, 1), (106, .invokevirtual 314, 3), (109, .goto 20, 3), (112, .iload_n 1, 1), (113, .bipush 7, 2), (115, .if_icmp .eq 9, 3), (118, .iload_n 1, 1), (119, .bipush 8, 2), (121, .if_icmp .ne 8, 3), (124, .aload_n 0, 1), (125, .iconst 2, 1), (126, .invokevirtual 314, 3), (129, .iconst (-1), 1), (130, .istore 4, 2), (132, .iload_n 3, 1), (133, .iload_n 2, 1), (134, .if_icmp .eq 10, 3), (137, .aload_n 0, 1), (138, .iload_n 3, 1), (139, .invokevirtual 208, 3), (142, .istore 4, 2), (144, .iconst 0, 1), (145, .istore 5, 2), (147, .iload 5, 2), (149, .aload_n 0, 1), (150, .getfield 293, 3), (153, .if_icmp .ge 60, 3), (156, .iload 5, 2), (158, .bipush 16, 2), (160, .if_icmp .ge 53, 3), (163, .aload_n 0, 1), (164, .getfield 82, 3), (167, .iload 5, 2), (169, .baload, 1), (170, .ifCond .eq 6, 3), (173, .goto 34, 3), (176, .iload 4, 2), (178, .ifCond .ge 13, 3), (181, .aload_n 0, 1), (182, .getfield 76, 3), (185, .iload 5, 2), (187, .iaload, 1), (188, .goto 17, 3), (191, .aload_n 0, 1), (192, .iload_n 1, 1), (193, .iload 4, 2), (195, .aload_n 0, 1), (196, .getfield 76, 3), (199, .iload 5, 2), (201, .iaload, 1), (202, .invokevirtual 320, 3), (205, .istore 4, 2), (207, .iinc 5 1, 3), (210, .goto (-63), 3), (213, .iload 4, 2), (215, .ifCond .ge 10, 3), (218, .aload_n 0, 1), (219, .iload_n 2, 1), (220, .invokevirtual 208, 3), (223, .istore 4, 2), (225, .iload 4, 2), (227, .ireturn, 1)]
theorem D50 : decs prog_1_method_66_code c50 = true := by decide +kernel
theorem d50 (k : Nat) {p : Nat} {i : Instr} {n : Nat} (h : c50[k]? = some (p, i, n)) : decode prog_1_method_66_code p = .ok (i, n) := dget D50 h
def c17 : List (Nat × Instr × Nat) := [(0, .aload_n 0, 1), (1, .getfield 7, 3), (4, .iload_n 1, 1), (5, .iaload, 1), (6, .istore_n 2, 1), (7, .aload_n 0, 1), (8, .getfield 13, 3), (11, .iload_n 1, 1), (12, .iaload, 1), (13, .istore_n 3, 1), (14, .iload_n 2, 1), (15, .iconst 1, 1), (16, .if_icmp .ne 9, 3), (19, .aload_n 0, 1), (20, .iload_n 3, 1), (21, .invokevirtual 208, 3), (24, .ireturn, 1), (25, .iload_n 2, 1), (26, .iconst 2, 1), (27, .if_icmp .ne 15, 3), (30, .aload_n 0, 1), (31, .iconst 2, 1), (32, .iload_n 3, 1), (33, .bipush 7, 2), (35, .iand, 1), (36, .iconst 0, 1), (37, .iconst 1, 1), (38, .invokevirtual 211, 3), (41, .ireturn, 1), (42, .iload_n 2, 1), (43, .iconst 3, 1), (44, .if_icmp .ne 35, 3), (47, .iconst 2, 1), (48, .aload_n 0, 1), (49, .getfield 174, 3), (52, .bipush 64, 2), (54, .imul, 1), (55, .iadd, 1), (56, .iload_n 1, 1), (57, .iadd, 1), (58, .istore 4, 2), (60, .aload_n 0, 1), (61, .iconst 3, 1), (62, .iload_n 3, 1), (63, .iconst 3, 1), (64, .iand, 1), (65, .aload_n 0, 1), (66, .getfield 67, 3), (69, .iload_n 3, 1), (70, .iconst 3, 1), (71, .iand, 1), (72, .iaload, 1), (73, .iload 4, 2), (75, .invokevirtual 211, 3), (78, .ireturn, 1), (79, .aload_n 0, 1), (80, .iload_n 2, 1), (81, .invokevirtual 215, 3), (84, .istore 4, 2), (86, .aload_n 0, 1), (87, .iload_n 1, 1), (88, .iload 4, 2), (90, .invokevirtual 218, 3), (93, .ifCond .ne 8, 3), (96, .aload_n 0, 1), (97, .iload_n 1, 1), (98, .invokevirtual 221, 3), (101, .aload_n 0, 1), (102, .invokevirtual 224, 3), (105, .iload 4, 2), (107, .iconst 4, 1), (108, .if_icmp .ne 8, 3), (111, .aload_n 0, 1), (112, .invokevirtual 227, 3), (115, .ireturn, 1), (116, .aload_n 0, 1), (117, .iload 4, 2), (119, .invokevirtual 231, 3), (122, .ireturn, 1)]
theorem D17 : decs prog_1_method_33_code c17 = true := by decide +kernel
theorem d17 (k : Nat) {p : Nat} {i : Instr} {n : Nat} (h : c17[k]? = some (p, i, n)) : decode prog_1_method_33_code p = .ok (i, n) := dget D17 h
def c16 : List (Nat × Instr × Nat) := [(0, .aload_n 0, 1), (1, .getfield 7, 3), (4, .iload_n 1, 1), (5, .iaload, 1), (6, .istore_n 2, 1), (7, .iload_n 2, 1), (8, .bipush 13, 2), (10, .if_icmp .ne 11, 3), (13, .aload_n 0, 1), (14, .iload_n 1, 1), (15, .invokevirtual 186, 3), (18, .goto 70, 3), (21, .iload_n 2, 1), (22, .bipush 14, 2), (24, .if_icmp .ne 10, 3), (27, .aload_n 0, 1), (28, .invokevirtual 189, 3), (31, .goto 57, 3), (34, .iload_n 2, 1), (35, .bipush 11, 2), (37, .if_icmp .ne 11, 3), (40, .aload_n 0, 1), (41, .iload_n 1, 1), (42, .invokevirtual 192, 3), (45, .goto 43, 3), (48, .iload_n 2, 1), (49, .bipush 12, 2), (51, .if_icmp .ne 26, 3), (54, .aload_n 0, 1), (55, .aload_n 0, 1), (56, .getfield 13, 3), (59, .iload_n 1, 1), (60, .iaload, 1), (61, .invokevirtual 195, 3), (64, .istore_n 3, 1), (65, .aload_n 0, 1), (66, .bipush 12, 2), (68, .iload_n 3, 1), (69, .iconst 0, 1), (70, .invokevirtual 199, 3), (73, .pop, 1), (74, .goto 14, 3), (77, .aload_n 0, 1), (78, .getfield 61, 3), (81, .iload_n 1, 1), (82, .aload_n 0, 1), (83, .iload_n 1, 1), (84, .invokevirtual 202, 3), (87, .iastore, 1), (88, .return_, 1)]
theorem D16 : decs prog_1_method_27_code c16 = true := by decide +kernel
theorem d16 (k : Nat) {p : Nat} {i : Instr} {n : Nat} (h : c16[k]? = some (p, i, n)) : decode prog_1_method_27_code p = .ok (i, n) := dget D16 h
def c13 : List (Nat × Instr × Nat) := [(0, .aload_n 0, 1), (1, .iconst 0, 1), (2, .invokevirtual 168, 3), (5, .aload_n 0, 1), (6, .iconst 0, 1), (7, .putfield 165, 3), (10, .aload_n 0, 1), (11, .iconst 0, 1), (12, .putfield 171, 3), (15, .aload_n 0, 1), (16, .iconst 0, 1), (17, .putfield 174, 3), (20, .iconst 0, 1), (21, .istore_n 1, 1), (22, .iload_n 1, 1), (23, .iconst 4, 1), (24, .if_icmp .ge 16, 3), (27, .aload_n 0, 1), (28, .getfield 67, 3), (31, .iload_n 1, 1), (32, .iconst 0, 1), (33, .iastore, 1), (34, .iinc 1 1, 3), (37, .goto (-15), 3), (40, .iconst 0, 1), (41, .istore_n 1, 1), (42, .iload_n 1, 1), (43, .bipush 32, 2), (45, .if_icmp .ge 17, 3), (48, .aload_n 0, 1), (49, .getfield 61, 3), (52, .iload_n 1, 1), (53, .bipush 32, 2), (55, .iastore, 1), (56, .iinc 1 1, 3), (59, .goto (-17), 3), (62, .aload_n 0, 1), (63, .invokevirtual 177, 3), (66, .iconst 0, 1), (67, .istore_n 1, 1), (68, .iload_n 1, 1), (69, .aload_n 0, 1), (70, .getfield 117, 3), (73, .if_icmp .ge 20, 3), (76, .iload_n 1, 1), (77, .bipush 32, 2), (79, .if_icmp .ge 14, 3), (82, .aload_n 0, 1), (83, .iload_n 1, 1), (84, .invokevirtual 180, 3), (87, .iinc 1 1, 3), (90, .goto (-22), 3), (93, .aload_n 0, 1), (94, .iconst 0, 1), (95, .invokevirtual 168, 3), (98, .aload_n 0, 1), (99, .getfield 171, 3), (102, .ifCond .eq 7, 3), (105, .aload_n 0, 1), (106, .invokevirtual 183, 3), (109, .return_, 1)]
theorem D13 : decs prog_1_method_25_code c13 = true := by decide +kernel
theorem d13 (k : Nat) {p : Nat} {i : Instr} {n : Nat} (h : c13[k]? = some (p, i, n)) : decode prog_1_method_25_code p = .ok (i, n) := dget D13 h
def c11 : List (Nat × Instr × Nat) := [(0, .aload_n 0, 1), (1, .getfield 117, 3), (4, .ifCond .ne 6, 3), (7, .bipush (-6), 2), (9, .ireturn, 1), (10, .aload_n 0, 1), (11, .getfield 128, 3), (14, .ifCond .eq 6, 3), (17, .bipush (-7), 2), (19, .ireturn, 1), (20, .aload_n 0, 1), (21, .getfield 148, 3), (24, .ifCond .eq 5, 3), (27, .iconst 0, 1), (28, .ireturn, 1), (29, .aload_n 0, 1), (30, .invokevirtual 152, 3), (33, .aload_n 0, 1), (34, .invokevirtual 155, 3), (37, .aload_n 0, 1), (38, .iconst 1, 1), (39, .putfield 148, 3), (42, .iconst 0, 1), (43, .ireturn, 1)]
theorem D11 : decs prog_1_method_17_code c11 = true := by decide +kernel
theorem d11 (k : Nat) {p : Nat} {i : Instr} {n : Nat} (h : c11[k]? = some (p, i, n)) : decode prog_1_method_17_code p = .ok (i, n) := dget D11 h
def c56 : List (Nat × Instr × Nat) := [(0, .iload_n 2, 1), (1, .istore 4, 2), (3, .iload 4, 2), (5, .iload_n 3, 1), (6, .if_icmp .ge 33, 3), (9, .iload 4, 2), (11, .sipush 1056, 3), (14, .if_icmp .ge 25, 3), (17, .aload_n 0, 1), (18, .getfield 43, 3), (21, .iload 4, 2), (23, .iconst 0, 1), (24, .iastore, 1), (25, .aload_n 0, 1), (26, .getfield 46, 3), (29, .iload 4, 2), (31, .iconst 0, 1), (32, .iastore, 1), (33, .iinc 4 1, 3), (36, .goto (-33), 3), (39, .iconst 0, 1), (40, .istore 4, 2), (42, .iload 4, 2), (44, .iconst 4, 1), (45, .if_icmp .ge 17, 3), (48, .aload_n 0, 1), (49, .getfield 49, 3), (52, .iload 4, 2), (54, .iconst 0, 1), (55, .iastore, 1), (56, .iinc 4 1, 3), (59, .goto (-17), 3), (62, .aload_n 0, 1), (63, .getfield 52, 3), (66, .iload_n 1, 1), (67, .iconst 0, 1), (68, .iastore, 1), (69, .iconst 0, 1), (70, .istore 4, 2), (72, .iload 4, 2), (74, .bipush 32, 2), (76, .if_icmp .ge 22, 3), (79, .aload_n 0, 1), (80, .getfield 55, 3), (83, .iload_n 1, 1), (84, .bipush 32, 2), (86, .imul, 1), (87, .iload 4, 2), (89, .iadd, 1), (90, .iconst 0, 1), (91, .iastore, 1), (92, .iinc 4 1, 3), (95, .goto (-23), 3), (98, .return_, 1)]
theorem D56 : decs prog_1_method_73_code c56 = true := by decide +kernel
theorem d56 (k : Nat) {p : Nat} {i : Instr} {n : Nat} (h : c56[k]? = some (p, i, n)) : decode prog_1_method_73_code p = .ok (i, n) := dget D56 h
def c59 : List (Nat × Instr × Nat) := [(0, .aload_n 0, 1), (1, .getfield 34, 3), (4, .iload_n 1, 1), (5, .iaload, 1), (6, .istore_n 2, 1), (7, .iload_n 2, 1), (8, .ifCond .le 14, 3), (11, .aload_n 0, 1), (12, .getfield 46, 3), (15, .iload_n 1, 1), (16, .iload_n 2, 1), (17, .iastore, 1), (18, .iload_n 1, 1), (19, .iconst 1, 1), (20, .iadd, 1), (21, .ireturn, 1), (22, .aload_n 0, 1), (23, .getfield 37, 3), (26, .iload_n 1, 1), (27, .iaload, 1), (28, .istore_n 3, 1), (29, .iload_n 3, 1), (30, .iload_n 1, 1), (31, .if_icmp .le 14, 3), (34, .iload_n 3, 1), (35, .sipush 1056, 3), (38, .if_icmp .ge 7, 3), (41, .iload_n 3, 1), (42, .iconst 1, 1), (43, .iadd, 1), (44, .ireturn, 1), (45, .sipush 1056, 3), (48, .ireturn, 1)]
theorem D59 : decs prog_1_method_75_code c59 = true := by decide +kernel
theorem d59 (k : Nat) {p : Nat} {i : Instr} {n : Nat} (h : c59[k]? = some (p, i, n)) : decode prog_1_method_75_code p = .ok (i, n) := dget D59 h
def c63 : List (Nat × Instr × Nat) := [(0, .aload_n 0, 1), (1, .getfield 34, 3), (4, .iload_n 1, 1), (5, .iaload, 1), (6, .istore_n 2, 1), (7, .iload_n 2, 1), (8, .ifCond .lt 8, 3), (11, .iload_n 2, 1), (12, .iload_n 1, 1), (13, .if_icmp .lt 7, 3), (16, .iload_n 1, 1), (17, .iconst 1, 1), (18, .iadd, 1), (19, .ireturn, 1), (20, .aload_n 0, 1), (21, .getfield 46, 3), (24, .iload_n 2, 1), (25, .aload_n 0, 1), (26, .getfield 46, 3), (29, .iload_n 2, 1), (30, .iaload, 1), (31, .iconst 1, 1), (32, .isub, 1), (33, .iastore, 1), (34, .aload_n 0, 1), (35, .getfield 46, 3), (38, .iload_n 2, 1), (39, .iaload, 1), (40, .ifCond .le 7, 3), (43, .iload_n 2, 1), (44, .iconst 1, 1), (45, .iadd, 1), (46, .ireturn, 1), (47, .iload_n 1, 1), (48, .iconst 1, 1), (49, .iadd, 1), (50, .ireturn, 1)]
theorem D63 : decs prog_1_method_76_code c63 = true := by decide +kernel
theorem d63 (k : Nat) {p : Nat} {i : Instr} {n : Nat} (h : c63[k]? = some (p, i, n)) : decode prog_1_method_76_code p = .ok (i, n) := dget D63 h
def c60 : List (Nat × Instr × Nat) := [(0, .iload_n 1, 1), (1, .ifCond .lt 10, 3), (4, .iload_n 1, 1), (5, .sipush 1056, 3), (8, .if_icmp .lt 5, 3), (11, .iconst 0, 1), (12, .ireturn, 1), (13, .aload_n 0, 1), (14, .getfield 43, 3), (17, .iload_n 1, 1), (18, .iaload, 1), (19, .ireturn, 1)]
theorem D60 : decs prog_1_method_79_code c60 = true := by decide +kernel
theorem d60 (k : Nat) {p : Nat} {i : Instr} {n : Nat} (h : c60[k]? = some (p, i, n)) : decode prog_1_method_79_code p = .ok (i, n) := dget D60 h
def c62 : List (Nat × Instr × Nat) := [(0, .iload_n 1, 1), (1, .iconst 1, 1), (2, .iand, 1), (3, .istore_n 3, 1), (4, .aload_n 0, 1), (5, .getfield 52, 3), (8, .iload_n 3, 1), (9, .iaload, 1), (10, .istore 4, 2), (12, .iload 4, 2), (14, .ifCond .lt 23, 3), (17, .iload 4, 2), (19, .bipush 32, 2), (21, .if_icmp .ge 16, 3), (24, .aload_n 0, 1), (25, .getfield 55, 3), (28, .iload_n 3, 1), (29, .bipush 32, 2), (31, .imul, 1), (32, .iload 4, 2), (34, .iadd, 1), (35, .iload_n 2, 1), (36, .iastore, 1), (37, .aload_n 0, 1), (38, .getfield 52, 3), (41, .iload_n 3, 1), (42, .iload 4, 2), (44, .iconst 1, 1), (45, .iadd, 1), (46, .iastore, 1), (47, .return_, 1)]
theorem D62 : decs prog_1_method_77_code c62 = true := by decide +kernel
theorem d62 (k : Nat) {p : Nat} {i : Instr} {n : Nat} (h : c62[k]? = some (p, i, n)) : decode prog_1_method_77_code p = .ok (i, n) := dget D62 h
def c58 : List (Nat × Instr × Nat) := [(0, .aload_n 0, 1), (1, .getfield 31, 3), (4, .iload_n 1, 1), (5, .iaload, 1), (6, .istore_n 2, 1), (7, .iload_n 2, 1), (8, .iconst 1, 1), (9, .if_icmp .ne 10, 3), (12, .aload_n 0, 1), (13, .getfield 34, 3), (16, .iload_n 1, 1), (17, .iaload, 1), (18, .ireturn, 1), (19, .iload_n 2, 1), (20, .iconst 2, 1), (21, .if_icmp .ne 18, 3), (24, .aload_n 0, 1), (25, .getfield 28, 3), (28, .aload_n 0, 1), (29, .getfield 34, 3), (32, .iload_n 1, 1), (33, .iaload, 1), (34, .bipush 7, 2), (36, .iand, 1), (37, .iaload, 1), (38, .ireturn, 1), (39, .iload_n 2, 1), (40, .iconst 3, 1), (41, .if_icmp .ne 17, 3), (44, .aload_n 0, 1), (45, .getfield 49, 3), (48, .aload_n 0, 1), (49, .getfield 34, 3), (52, .iload_n 1, 1), (53, .iaload, 1), (54, .iconst 3, 1), (55, .iand, 1), (56, .iaload, 1), (57, .ireturn, 1), (58, .aload_n 0, 1), (59, .aload_n 0, 1), (60, .getfield 34, 3), (63, .iload_n 1, 1), (64, .iaload, 1), (65, .invokevirtual 347, 3), (68, .istore_n 3, 1), (69, .iload_n 2, 1), (70, .bipush 10, 2), (72, .if_icmp .ne 7, 3), (75, .iconst 0, 1), (76, .iload_n 3, 1), (77, .isub, 1), (78, .ireturn, 1), (79, .aload_n 0, 1), (80, .aload_n 0, 1), (81, .getfield 37, 3), (84, .iload_n 1, 1), (85, .iaload, 1), (86, .invokevirtual 347, 3), (89, .istore 4, 2), (91, .aload_n 0, 1), (92, .iload_n 2, 1), (93, .iload_n 3, 1), (94, .iload 4, 2), (96, .invokevirtual 250, 3), (99, .ireturn, 1)]
theorem D58 : decs prog_1_method_78_code c58 = true := by decide +kernel
theorem d58 (k : Nat) {p : Nat} {i : Instr} {n : Nat} (h : c58[k]? = some (p, i, n)) : decode prog_1_method_78_code p = .ok (i, n) := dget D58 h
def c57 : List (Nat × Instr × Nat) := [(0, .iload_n 2, 1), (1, .ifCond .lt 10, 3), (4, .iload_n 2, 1), (5, .sipush 1056, 3), (8, .if_icmp .lt 7, 3), (11, .sipush 1056, 3), (14, .ireturn, 1), (15, .aload_n 0, 1), (16, .getfield 31, 3), (19, .iload_n 2, 1), (20, .iaload, 1), (21, .istore_n 3, 1), (22, .iload_n 3, 1), (23, .bipush 13, 2), (25, .if_icmp .ne 9, 3), (28, .aload_n 0, 1), (29, .iload_n 2, 1), (30, .invokevirtual 341, 3), (33, .ireturn, 1), (34, .iload_n 3, 1), (35, .bipush 14, 2), (37, .if_icmp .ne 9, 3), (40, .aload_n 0, 1), (41, .iload_n 2, 1), (42, .invokevirtual 344, 3), (45, .ireturn, 1), (46, .iload_n 3, 1), (47, .bipush 11, 2), (49, .if_icmp .ne 34, 3), (52, .aload_n 0, 1), (53, .aload_n 0, 1), (54, .getfield 37, 3), (57, .iload_n 2, 1), (58, .iaload, 1), (59, .invokevirtual 347, 3), (62, .istore 4, 2), (64, .aload_n 0, 1), (65, .getfield 49, 3), (68, .aload_n 0, 1), (69, .getfield 34, 3), (72, .iload_n 2, 1), (73, .iaload, 1), (74, .iconst 3, 1), (75, .iand, 1), (76, .iload 4, 2), (78, .iastore, 1), (79, .iload_n 2, 1), (80, .iconst 1, 1), (81, .iadd, 1), (82, .ireturn, 1), (83, .iload_n 3, 1), (84, .bipush 12, 2), (86, .if_icmp .ne 26, 3), (89, .aload_n 0, 1), (90, .aload_n 0, 1), (91, .getfield 34, 3), (94, .iload_n 2, 1), (95, .iaload, 1), (96, .invokevirtual 347, 3), (99, .istore 4, 2), (101, .aload_n 0, 1), (102, .iload_n 1, 1), (103, .iload 4, 2), (105, .invokevirtual 350, 3), (108, .iload_n 2, 1), (109, .iconst 1, 1), (110, .iadd, 1), (111, .ireturn, 1), (112, .aload_n 0, 1), (113, .getfield 43, 3), (116, .iload_n 2, 1), (117, .aload_n 0, 1), (118, .iload_n 2, 1), (119, .invokevirtual 354, 3), (122, .iastore, 1), (123, .iload_n 2, 1), (124, .iconst 1, 1), (125, .iadd, 1), (126, .ireturn, 1)]
theorem D57 : decs prog_1_method_74_code c57 = true := by decide +kernel
theorem d57 (k : Nat) {p : Nat} {i : Instr} {n : Nat} (h : c57[k]? = some (p, i, n)) : decode prog_1_method_74_code p = .ok (i, n) := dget D57 h
def c55 : List (Nat × Instr × Nat) := [(0, .iload_n 1, 1), (1, .iconst 1, 1), (2, .iand, 1), (3, .istore_n 2, 1), (4, .iload_n 2, 1), (5, .ifCond .ne 7, 3), (8, .iconst 0, 1), (9, .goto 5, 3), (12, .bipush 32, 2), (14, .istore_n 3, 1), (15, .iload_n 2, 1), (16, .ifCond .ne 10, 3), (19, .aload_n 0, 1), (20, .getfield 162, 3), (23, .goto 7, 3), (26, .aload_n 0, 1), (27, .getfield 165, 3), (30, .istore 4, 2), (32, .iload_n 3, 1), (33, .iload 4, 2), (35, .iadd, 1), (36, .istore 5, 2), (38, .iload 5, 2), (40, .sipush 1056, 3), (43, .if_icmp .le 8, 3), (46, .sipush 1056, 3), (49, .istore 5, 2), (51, .aload_n 0, 1), (52, .iload_n 2, 1), (53, .iload_n 3, 1), (54, .iload 5, 2), (56, .invokevirtual 333, 3), (59, .iload_n 3, 1), (60, .istore 6, 2), (62, .iconst 0, 1), (63, .istore 7, 2), (65, .iload 7, 2), (67, .ldc_w 337, 3), (70, .if_icmp .ge 25, 3), (73, .iload 6, 2), (75, .iload 5, 2), (77, .if_icmp .ge 18, 3), (80, .aload_n 0, 1), (81, .iload_n 2, 1), (82, .iload 6, 2), (84, .invokevirtual 338, 3), (87, .istore 6, 2), (89, .iinc 7 1, 3), (92, .goto (-27), 3), (95, .iconst 0, 1), (96, .istore 7, 2), (98, .iload 7, 2), (100, .iconst 4, 1), (101, .if_icmp .ge 27, 3), (104, .aload_n 0, 1), (105, .getfield 58, 3), (108, .iload_n 2, 1), (109, .iconst 4, 1), (110, .imul, 1), (111, .iload 7, 2), (113, .iadd, 1), (114, .aload_n 0, 1), (115, .getfield 49, 3), (118, .iload 7, 2), (120, .iaload, 1), (121, .iastore, 1), (122, .iinc 7 1, 3), (125, .goto (-27), 3), (128, .return_, 1)]
theorem D55 : decs prog_1_method_72_code c55 = true := by decide +kernel
theorem d55 (k : Nat) {p : Nat} {i : Instr} {n : Nat} (h : c55[k]? = some (p, i, n)) : decode prog_1_method_72_code p = .ok (i, n) := dget D55 h
def c54 : List (Nat × Instr × Nat) := [(0, .aload_n 0, 1), (1, .getfield 148, 3), (4, .ifCond .ne 6, 3), (7, .bipush (-8), 2), (9, .ireturn, 1), (10, .aload_n 0, 1), (11, .iconst 0, 1), (12, .invokevirtual 158, 3), (15, .aload_n 0, 1), (16, .iconst 1, 1), (17, .invokevirtual 158, 3), (20, .iconst 0, 1), (21, .ireturn, 1)]
theorem D54 : decs prog_1_method_19_code c54 = true := by decide +kernel
theorem d54 (k : Nat) {p : Nat} {i : Instr} {n : Nat} (h : c54[k]? = some (p, i, n)) : decode prog_1_method_19_code p = .ok (i, n) := dget D54 h
def c64 : List (Nat × Instr × Nat) := [(0, .iload_n 1, 1), (1, .ifCond .eq 10, 3), (4, .iload_n 1, 1), (5, .iconst 1, 1), (6, .if_icmp .eq 5, 3), (9, .iconst 0, 1), (10, .ireturn, 1), (11, .aload_n 0, 1), (12, .getfield 52, 3), (15, .iload_n 1, 1), (16, .iaload, 1), (17, .ireturn, 1)]
theorem D64 : decs prog_1_method_20_code c64 = true := by decide +kernel
theorem d64 (k : Nat) {p : Nat} {i : Instr} {n : Nat} (h : c64[k]? = some (p, i, n)) : decode prog_1_method_20_code p = .ok (i, n) := dget D64 h
def c65 : List (Nat × Instr × Nat) := [(0, .iload_n 1, 1), (1, .ifCond .eq 10, 3), (4, .iload_n 1, 1), (5, .iconst 1, 1), (6, .if_icmp .eq 5, 3), (9, .iconst 0, 1), (10, .ireturn, 1), (11, .iload_n 2, 1), (12, .ifCond .lt 8, 3), (15, .iload_n 2, 1), (16, .iconst 4, 1), (17, .if_icmp .lt 5, 3), (20, .iconst 0, 1), (21, .ireturn, 1), (22, .aload_n 0, 1), (23, .getfield 58, 3), (26, .iload_n 1, 1), (27, .iconst 4, 1), (28, .imul, 1), (29, .iload_n 2, 1), (30, .iadd, 1), (31, .iaload, 1), (32, .ireturn, 1)]
theorem D65 : decs prog_1_method_22_code c65 = true := by decide +kernel
theorem d65 (k : Nat) {p : Nat} {i : Instr} {n : Nat} (h : c65[k]? = some (p, i, n)) : decode prog_1_method_22_code p = .ok (i, n) := dget D65 h
def c66 : List (Nat × Instr × Nat) := [(0, .iload_n 1, 1), (1, .ifCond .eq 10, 3), (4, .iload_n 1, 1), (5, .iconst 1, 1), (6, .if_icmp .eq 5, 3), (9, .iconst 0, 1), (10, .ireturn, 1), (11, .aload_n 0, 1), (12, .getfield 52, 3), (15, .iload_n 1, 1), (16, .iaload, 1), (17, .istore_n 3, 1), (18, .iload_n 3, 1), (19, .bipush 32, 2), (21, .if_icmp .le 6, 3), (24, .bipush 32, 2), (26, .istore_n 3, 1), (27, .iload_n 2, 1), (28, .ifCond .lt 8, 3), (31, .iload_n 2, 1), (32, .iload_n 3, 1), (33, .if_icmp .lt 5, 3), (36, .iconst 0, 1), (37, .ireturn, 1), (38, .aload_n 0, 1), (39, .getfield 55, 3), (42, .iload_n 1, 1), (43, .bipush 32, 2), (45, .imul, 1), (46, .iload_n 2, 1), (47, .iadd, 1), (48, .iaload, 1), (49, .ireturn, 1)]
theorem D66 : decs prog_1_method_21_code c66 = true := by decide +kernel
theorem d66 (k : Nat) {p : Nat} {i : Instr} {n : Nat} (h : c66[k]? = some (p, i, n)) : decode prog_1_method_21_code p = .ok (i, n) := dget D66 h
def H0 : MHeap := []
def KL (s : St) : MHeap := KH flds al Ln H0 [] s
def f_ctor_294 (x2 : Int32) (s : St) : Option (St) :=
  bnd (setI s 33 x2) fun s1 =>
  bnd (setI s1 34 (-1 : Int32)) fun s2 =>
  some s2
set_option maxRecDepth 100000 in
theorem e_ctor_294 {g : GT} (hw : HW g) {K : St → MHeap} {o : Nat} {r : Nat → Nat} (V : View (GG g) Ln K o r) (x2 : Int32) (s : St) (y1 : Slot) (hy1 : one1 y1 = true) (w : St) (hr : f_ctor_294 x2 s = some w) : Ev (GG g) M_ctor 294 [.val (.ref o), y1, .val (.int x2)] [] (K s) (none, (K w)) := by
  unfold f_ctor_294 at hr
  refine Ev.aloadN (d0 146 rfl) rfl ?_
  refine Ev.iloadN (d0 147 rfl) rfl ?_
  refine Ev.pI V (gok hw) (ww hw 77 rfl) (Or.inl (ww hw 78 rfl)) (d0 148 rfl) (j := 33) rfl ?_
  revert hr
  generalize setI s 33 x2 = s1
  intro hr
  replace hr := (bnd_eq _ _).symm.trans hr
  refine Ev.aloadN (d0 149 rfl) rfl ?_
  refine Ev.iconst (z := -1) (d0 150 rfl) rfl ?_
  refine Ev.pI V (gok hw) (ww hw 79 rfl) (Or.inl (ww hw 80 rfl)) (d0 151 rfl) (j := 34) rfl ?_
  revert hr
  generalize setI s1 34 (-1 : Int32) = s2
  intro hr
  replace hr := (bnd_eq _ _).symm.trans hr
  cases hr
  exact Ev.vreturn rfl (d0 152 rfl)
def f_ctor_285 (x2 : Int32) (s : St) : Option (St) :=
  if (32 : Int32) < x2 then
    f_ctor_294 (32 : Int32) s
  else
    f_ctor_294 x2 s
set_option maxRecDepth 100000 in
theorem e_ctor_285 {g : GT} (hw : HW g) {K : St → MHeap} {o : Nat} {r : Nat → Nat} (V : View (GG g) Ln K o r) (x2 : Int32) (s : St) (y1 : Slot) (hy1 : one1 y1 = true) (w : St) (hr : f_ctor_285 x2 s = some w) : Ev (GG g) M_ctor 285 [.val (.ref o), y1, .val (.int x2)] [] (K s) (none, (K w)) := by
  unfold f_ctor_285 at hr
  refine Ev.iloadN (d0 141 rfl) rfl ?_
  refine Ev.bipush (z := 32) (d0 142 rfl) rfl ?_
  refine Ev.icle (t := 294) (d0 143 rfl) rfl (fun c1 => ?_) (fun c1 => ?_)
  · replace hr := own_ip c1 hr
    refine Ev.bipush (z := 32) (d0 144 rfl) rfl ?_
    refine Ev.istDN (L' := [.val (.ref o), y1, .val (.int (32 : Int32))]) (d0 145 rfl) rfl rfl rfl ?_
    exact e_ctor_294 hw V  (32 : Int32) s y1 hy1 _ hr
  · replace hr := own_iq c1 hr
    exact e_ctor_294 hw V  x2 s y1 hy1 _ hr
def f_ctor_274 (x1 : Int32) (s : St) : Option (St) :=
  if x1 < (8 : Int32) then
    f_ctor_285 (8 : Int32) s
  else
    f_ctor_285 x1 s
set_option maxRecDepth 100000 in
theorem e_ctor_274 {g : GT} (hw : HW g) {K : St → MHeap} {o : Nat} {r : Nat → Nat} (V : View (GG g) Ln K o r) (x1 : Int32) (s : St) (y2 : Slot) (hy2 : one1 y2 = true) (w : St) (hr : f_ctor_274 x1 s = some w) : Ev (GG g) M_ctor 274 [.val (.ref o), .val (.int x1), y2] [] (K s) (none, (K w)) := by
  unfold f_ctor_274 at hr
  refine Ev.iloadN (d0 134 rfl) rfl ?_
  refine Ev.istDN (L' := [.val (.ref o), .val (.int x1), .val (.int x1)]) (d0 135 rfl) rfl hy2 rfl ?_
  refine Ev.iloadN (d0 136 rfl) rfl ?_
  refine Ev.bipush (z := 8) (d0 137 rfl) rfl ?_
  refine Ev.icge (t := 285) (d0 138 rfl) rfl (fun c1 => ?_) (fun c1 => ?_)
  · replace hr := own_ip c1 hr
    refine Ev.bipush (z := 8) (d0 139 rfl) rfl ?_
    refine Ev.istDN (L' := [.val (.ref o), .val (.int x1), .val (.int (8 : Int32))]) (d0 140 rfl) rfl rfl rfl ?_
    exact e_ctor_285 hw V  (8 : Int32) s (.val (.int x1)) rfl _ hr
  · replace hr := own_iq c1 hr
    exact e_ctor_285 hw V  x1 s (.val (.int x1)) rfl _ hr
def f_ctor (a0 : Int32) : Option (St) :=
  f_ctor_274 a0 zeroS
set_option maxRecDepth 100000 in
theorem e_ctor {g : GT} {a0 : Int32} {w : St} (hw : HW g) {pre : MHeap} (hk : k0 (GG g) ≤ pre.length) (hr : f_ctor a0 = some w) : EvC (GG g) M_ctor [.ref pre.length, .int a0] (pre ++ [.inl dfl]) (none, KH flds al Ln pre [] w) := by
  refine EvC.enter (L0 := [.val (.ref pre.length), .val (.int a0), .unset]) pl_ctor (fun _ => rfl) rfl rfl ?_
  unfold f_ctor at hr
  refine Ev.aloadN (d0 0 rfl) rfl ?_
  refine Ev.initO (ww hw 6 rfl) (ww hw 7 rfl) (ww hw 8 rfl) (d0 1 rfl) (by decide) (Nat.le_of_ble_eq_true rfl) ?_
  show Ev (GG g) M_ctor 4 _ _ (cons pre dfl []) _
  refine Ev.aloadN (d0 2 rfl) rfl ?_
  refine Ev.bipush (z := 32) (d0 3 rfl) rfl ?_
  refine Ev.cnew (aty := .int) (b := false) (k := 32) (q := 0) (as' := [(false, tab 32 (fun _ => 0))]) (ww hw 9 rfl) rfl (d0 4 rfl) (by decide) rfl (by decide) rfl rfl ?_
  refine Ev.cput (v' := .ref (pre.length + 1 + 0)) (fs' := [.ref (pre.length + 1 + 0), .null, .null, .null, .null, .null, .null, .null, .null, .null, .null, .null, .null, .null, .null, .null, .null, .null, .null, .null, .null, .null, .null, .null, .null, .null, .null, .null, .null, .null, .null, .null, .null, .int 0, .int 0, .int 0, .int 0, .int 0, .int 0, .int 0, .int 0, .int 0, .int 0, .int 0, .int 0]) (gok hw) hk (ww hw 10 rfl) (Or.inr ⟨ww hw 11 rfl, rfl, rfl⟩) (d0 5 rfl) (j := 0) rfl rfl rfl ?_
  refine Ev.aloadN (d0 6 rfl) rfl ?_
  refine Ev.bipush (z := 32) (d0 7 rfl) rfl ?_
  refine Ev.cnew (aty := .int) (b := false) (k := 32) (q := 1) (as' := [(false, tab 32 (fun _ => 0)), (false, tab 32 (fun _ => 0))]) (ww hw 9 rfl) rfl (d0 8 rfl) (by decide) rfl (by decide) rfl rfl ?_
  refine Ev.cput (v' := .ref (pre.length + 1 + 1)) (fs' := [.ref (pre.length + 1 + 0), .ref (pre.length + 1 + 1), .null, .null, .null, .null, .null, .null, .null, .null, .null, .null, .null, .null, .null, .null, .null, .null, .null, .null, .null, .null, .null, .null, .null, .null, .null, .null, .null, .null, .null, .null, .null, .int 0, .int 0, .int 0, .int 0, .int 0, .int 0, .int 0, .int 0, .int 0, .int 0, .int 0, .int 0]) (gok hw) hk (ww hw 12 rfl) (Or.inr ⟨ww hw 13 rfl, rfl, rfl⟩) (d0 9 rfl) (j := 1) rfl rfl rfl ?_
  refine Ev.aloadN (d0 10 rfl) rfl ?_
  refine Ev.bipush (z := 32) (d0 11 rfl) rfl ?_
  refine Ev.cnew (aty := .int) (b := false) (k := 32) (q := 2) (as' := [(false, tab 32 (fun _ => 0)), (false, tab 32 (fun _ => 0)), (false, tab 32 (fun _ => 0))]) (ww hw 9 rfl) rfl (d0 12 rfl) (by decide) rfl (by decide) rfl rfl ?_
  refine Ev.cput (v' := .ref (pre.length + 1 + 2)) (fs' := [.ref (pre.length + 1 + 0), .ref (pre.length + 1 + 1), .ref (pre.length + 1 + 2), .null, .null, .null, .null, .null, .null, .null, .null, .null, .null, .null, .null, .null, .null, .null, .null, .null, .null, .null, .null, .null, .null, .null, .null, .null, .null, .null, .null, .null, .null, .int 0, .int 0, .int 0, .int 0, .int 0, .int 0, .int 0, .int 0, .int 0, .int 0, .int 0, .int 0]) (gok hw) hk (ww hw 14 rfl) (Or.inr ⟨ww hw 15 rfl, rfl, rfl⟩) (d0 13 rfl) (j := 2) rfl rfl rfl ?_
  refine Ev.aloadN (d0 14 rfl) rfl ?_
  refine Ev.bipush (z := 32) (d0 15 rfl) rfl ?_
  refine Ev.cnew (aty := .int) (b := false) (k := 32) (q := 3) (as' := [(false, tab 32 (fun _ => 0)), (false, tab 32 (fun _ => 0)), (false, tab 32 (fun _ => 0)), (false, tab 32 (fun _ => 0))]) (ww hw 9 rfl) rfl (d0 16 rfl) (by decide) rfl (by decide) rfl rfl ?_
  refine Ev.cput (v' := .ref (pre.length + 1 + 3)) (fs' := [.ref (pre.length + 1 + 0), .ref (pre.length + 1 + 1), .ref (pre.length + 1 + 2), .ref (pre.length + 1 + 3), .null, .null, .null, .null, .null, .null, .null, .null, .null, .null, .null, .null, .null, .null, .null, .null, .null, .null, .null, .null, .null, .null, .null, .null, .null, .null, .null, .null, .null, .int 0, .int 0, .int 0, .int 0, .int 0, .int 0, .int 0, .int 0, .int 0, .int 0, .int 0, .int 0]) (gok hw) hk (ww hw 16 rfl) (Or.inr ⟨ww hw 17 rfl, rfl, rfl⟩) (d0 17 rfl) (j := 3) rfl rfl rfl ?_
  refine Ev.aloadN (d0 18 rfl) rfl ?_
  refine Ev.bipush (z := 32) (d0 19 rfl) rfl ?_
  refine Ev.cnew (aty := .int) (b := false) (k := 32) (q := 4) (as' := [(false, tab 32 (fun _ => 0)), (false, tab 32 (fun _ => 0)), (false, tab 32 (fun _ => 0)), (false, tab 32 (fun _ => 0)), (false, tab 32 (fun _ => 0))]) (ww hw 9 rfl) rfl (d0 20 rfl) (by decide) rfl (by decide) rfl rfl ?_
  refine Ev.cput (v' := .ref (pre.length + 1 + 4)) (fs' := [.ref (pre.length + 1 + 0), .ref (pre.length + 1 + 1), .ref (pre.length + 1 + 2), .ref (pre.length + 1 + 3), .ref (pre.length + 1 + 4), .null, .null, .null, .null, .null, .null, .null, .null, .null, .null, .null, .null, .null, .null, .null, .null, .null, .null, .null, .null, .null, .null, .null, .null, .null, .null, .null, .null, .int 0, .int 0, .int 0, .int 0, .int 0, .int 0, .int 0, .int 0, .int 0, .int 0, .int 0, .int 0]) (gok hw) hk (ww hw 18 rfl) (Or.inr ⟨ww hw 19 rfl, rfl, rfl⟩) (d0 21 rfl) (j := 4) rfl rfl rfl ?_
  refine Ev.aloadN (d0 22 rfl) rfl ?_
  refine Ev.iconst (z := 3) (d0 23 rfl) rfl ?_
  refine Ev.cnew (aty := .int) (b := false) (k := 3) (q := 5) (as' := [(false, tab 32 (fun _ => 0)), (false, tab 32 (fun _ => 0)), (false, tab 32 (fun _ => 0)), (false, tab 32 (fun _ => 0)), (false, tab 32 (fun _ => 0)), (false, tab 3 (fun _ => 0))]) (ww hw 9 rfl) rfl (d0 24 rfl) (by decide) rfl (by decide) rfl rfl ?_
  refine Ev.cput (v' := .ref (pre.length + 1 + 5)) (fs' := [.ref (pre.length + 1 + 0), .ref (pre.length + 1 + 1), .ref (pre.length + 1 + 2), .ref (pre.length + 1 + 3), .ref (pre.length + 1 + 4), .ref (pre.length + 1 + 5), .null, .null, .null, .null, .null, .null, .null, .null, .null, .null, .null, .null, .null, .null, .null, .null, .null, .null, .null, .null, .null, .null, .null, .null, .null, .null, .null, .int 0, .int 0, .int 0, .int 0, .int 0, .int 0, .int 0, .int 0, .int 0, .int 0, .int 0, .int 0]) (gok hw) hk (ww hw 20 rfl) (Or.inr ⟨ww hw 21 rfl, rfl, rfl⟩) (d0 25 rfl) (j := 5) rfl rfl rfl ?_
  refine Ev.aloadN (d0 26 rfl) rfl ?_
  refine Ev.bipush (z := 8) (d0 27 rfl) rfl ?_
  refine Ev.cnew (aty := .int) (b := false) (k := 8) (q := 6) (as' := [(false, tab 32 (fun _ => 0)), (false, tab 32 (fun _ => 0)), (false, tab 32 (fun _ => 0)), (false, tab 32 (fun _ => 0)), (false, tab 32 (fun _ => 0)), (false, tab 3 (fun _ => 0)), (false, tab 8 (fun _ => 0))]) (ww hw 9 rfl) rfl (d0 28 rfl) (by decide) rfl (by decide) rfl rfl ?_
  refine Ev.cput (v' := .ref (pre.length + 1 + 6)) (fs' := [.ref (pre.length + 1 + 0), .ref (pre.length + 1 + 1), .ref (pre.length + 1 + 2), .ref (pre.length + 1 + 3), .ref (pre.length + 1 + 4), .ref (pre.length + 1 + 5), .ref (pre.length + 1 + 6), .null, .null, .null, .null, .null, .null, .null, .null, .null, .null, .null, .null, .null, .null, .null, .null, .null, .null, .null, .null, .null, .null, .null, .null, .null, .null, .int 0, .int 0, .int 0, .int 0, .int 0, .int 0, .int 0, .int 0, .int 0, .int 0, .int 0, .int 0]) (gok hw) hk (ww hw 22 rfl) (Or.inr ⟨ww hw 23 rfl, rfl, rfl⟩) (d0 29 rfl) (j := 6) rfl rfl rfl ?_
  refine Ev.aloadN (d0 30 rfl) rfl ?_
  refine Ev.sipush (z := 1056) (d0 31 rfl) rfl ?_
  refine Ev.cnew (aty := .int) (b := false) (k := 1056) (q := 7) (as' := [(false, tab 32 (fun _ => 0)), (false, tab 32 (fun _ => 0)), (false, tab 32 (fun _ => 0)), (false, tab 32 (fun _ => 0)), (false, tab 32 (fun _ => 0)), (false, tab 3 (fun _ => 0)), (false, tab 8 (fun _ => 0)), (false, tab 1056 (fun _ => 0))]) (ww hw 9 rfl) rfl (d0 32 rfl) (by decide) rfl (by decide) rfl rfl ?_
  refine Ev.cput (v' := .ref (pre.length + 1 + 7)) (fs' := [.ref (pre.length + 1 + 0), .ref (pre.length + 1 + 1), .ref (pre.length + 1 + 2), .ref (pre.length + 1 + 3), .ref (pre.length + 1 + 4), .ref (pre.length + 1 + 5), .ref (pre.length + 1 + 6), .ref (pre.length + 1 + 7), .null, .null, .null, .null, .null, .null, .null, .null, .null, .null, .null, .null, .null, .null, .null, .null, .null, .null, .null, .null, .null, .null, .null, .null, .null, .int 0, .int 0, .int 0, .int 0, .int 0, .int 0, .int 0, .int 0, .int 0, .int 0, .int 0, .int 0]) (gok hw) hk (ww hw 24 rfl) (Or.inr ⟨ww hw 25 rfl, rfl, rfl⟩) (d0 33 rfl) (j := 7) rfl rfl rfl ?_
  refine Ev.aloadN (d0 34 rfl) rfl ?_
  refine Ev.sipush (z := 1056) (d0 35 rfl) rfl ?_
  refine Ev.cnew (aty := .int) (b := false) (k := 1056) (q := 8) (as' := [(false, tab 32 (fun _ => 0)), (false, tab 32 (fun _ => 0)), (false, tab 32 (fun _ => 0)), (false, tab 32 (fun _ => 0)), (false, tab 32 (fun _ => 0)), (false, tab 3 (fun _ => 0)), (false, tab 8 (fun _ => 0)), (false, tab 1056 (fun _ => 0)), (false, tab 1056 (fun _ => 0))]) (ww hw 9 rfl) rfl (d0 36 rfl) (by decide) rfl (by decide) rfl rfl ?_
  refine Ev.cput (v' := .ref (pre.length + 1 + 8)) (fs' := [.ref (pre.length + 1 + 0), .ref (pre.length + 1 + 1), .ref (pre.length + 1 + 2), .ref (pre.length + 1 + 3), .ref (pre.length + 1 + 4), .ref (pre.length + 1 + 5), .ref (pre.length + 1 + 6), .ref (pre.length + 1 + 7), .ref (pre.length + 1 + 8), .null, .null, .null, .null, .null, .null, .null, .null, .null, .null, .null, .null, .null, .null, .null, .null, .null, .null, .null, .null, .null, .null, .null, .null, .int 0, .int 0, .int 0, .int 0, .int 0, .int 0, .int 0, .int 0, .int 0, .int 0, .int 0, .int 0]) (gok hw) hk (ww hw 26 rfl) (Or.inr ⟨ww hw 27 rfl, rfl, rfl⟩) (d0 37 rfl) (j := 8) rfl rfl rfl ?_
  refine Ev.aloadN (d0 38 rfl) rfl ?_
  refine Ev.sipush (z := 1056) (d0 39 rfl) rfl ?_
  refine Ev.cnew (aty := .int) (b := false) (k := 1056) (q := 9) (as' := [(false, tab 32 (fun _ => 0)), (false, tab 32 (fun _ => 0)), (false, tab 32 (fun _ => 0)), (false, tab 32 (fun _ => 0)), (false, tab 32 (fun _ => 0)), (false, tab 3 (fun _ => 0)), (false, tab 8 (fun _ => 0)), (false, tab 1056 (fun _ => 0)), (false, tab 1056 (fun _ => 0)), (false, tab 1056 (fun _ => 0))]) (ww hw 9 rfl) rfl (d0 40 rfl) (by decide) rfl (by decide) rfl rfl ?_
  refine Ev.cput (v' := .ref (pre.length + 1 + 9)) (fs' := [.ref (pre.length + 1 + 0), .ref (pre.length + 1 + 1), .ref (pre.length + 1 + 2), .ref (pre.length + 1 + 3), .ref (pre.length + 1 + 4), .ref (pre.length + 1 + 5), .ref (pre.length + 1 + 6), .ref (pre.length + 1 + 7), .ref (pre.length + 1 + 8), .ref (pre.length + 1 + 9), .null, .null, .null, .null, .null, .null, .null, .null, .null, .null, .null, .null, .null, .null, .null, .null, .null, .null, .null, .null, .null, .null, .null, .int 0, .int 0, .int 0, .int 0, .int 0, .int 0, .int 0, .int 0, .int 0, .int 0, .int 0, .int 0]) (gok hw) hk (ww hw 28 rfl) (Or.inr ⟨ww hw 29 rfl, rfl, rfl⟩) (d0 41 rfl) (j := 9) rfl rfl rfl ?_
  refine Ev.aloadN (d0 42 rfl) rfl ?_
  refine Ev.sipush (z := 1056) (d0 43 rfl) rfl ?_
  refine Ev.cnew (aty := .int) (b := false) (k := 1056) (q := 10) (as' := [(false, tab 32 (fun _ => 0)), (false, tab 32 (fun _ => 0)), (false, tab 32 (fun _ => 0)), (false, tab 32 (fun _ => 0)), (false, tab 32 (fun _ => 0)), (false, tab 3 (fun _ => 0)), (false, tab 8 (fun _ => 0)), (false, tab 1056 (fun _ => 0)), (false, tab 1056 (fun _ => 0)), (false, tab 1056 (fun _ => 0)), (false, tab 1056 (fun _ => 0))]) (ww hw 9 rfl) rfl (d0 44 rfl) (by decide) rfl (by decide) rfl rfl ?_
  refine Ev.cput (v' := .ref (pre.length + 1 + 10)) (fs' := [.ref (pre.length + 1 + 0), .ref (pre.length + 1 + 1), .ref (pre.length + 1 + 2), .ref (pre.length + 1 + 3), .ref (pre.length + 1 + 4), .ref (pre.length + 1 + 5), .ref (pre.length + 1 + 6), .ref (pre.length + 1 + 7), .ref (pre.length + 1 + 8), .ref (pre.length + 1 + 9), .ref (pre.length + 1 + 10), .null, .null, .null, .null, .null, .null, .null, .null, .null, .null, .null, .null, .null, .null, .null, .null, .null, .null, .null, .null, .null, .null, .int 0, .int 0, .int 0, .int 0, .int 0, .int 0, .int 0, .int 0, .int 0, .int 0, .int 0, .int 0]) (gok hw) hk (ww hw 30 rfl) (Or.inr ⟨ww hw 31 rfl, rfl, rfl⟩) (d0 45 rfl) (j := 10) rfl rfl rfl ?_
  refine Ev.aloadN (d0 46 rfl) rfl ?_
  refine Ev.sipush (z := 1056) (d0 47 rfl) rfl ?_
  refine Ev.cnew (aty := .int) (b := false) (k := 1056) (q := 11) (as' := [(false, tab 32 (fun _ => 0)), (false, tab 32 (fun _ => 0)), (false, tab 32 (fun _ => 0)), (false, tab 32 (fun _ => 0)), (false, tab 32 (fun _ => 0)), (false, tab 3 (fun _ => 0)), (false, tab 8 (fun _ => 0)), (false, tab 1056 (fun _ => 0)), (false, tab 1056 (fun _ => 0)), (false, tab 1056 (fun _ => 0)), (false, tab 1056 (fun _ => 0)), (false, tab 1056 (fun _ => 0))]) (ww hw 9 rfl) rfl (d0 48 rfl) (by decide) rfl (by decide) rfl rfl ?_
  refine Ev.cput (v' := .ref (pre.length + 1 + 11)) (fs' := [.ref (pre.length + 1 + 0), .ref (pre.length + 1 + 1), .ref (pre.length + 1 + 2), .ref (pre.length + 1 + 3), .ref (pre.length + 1 + 4), .ref (pre.length + 1 + 5), .ref (pre.length + 1 + 6), .ref (pre.length + 1 + 7), .ref (pre.length + 1 + 8), .ref (pre.length + 1 + 9), .ref (pre.length + 1 + 10), .ref (pre.length + 1 + 11), .null, .null, .null, .null, .null, .null, .null, .null, .null, .null, .null, .null, .null, .null, .null, .null, .null, .null, .null, .null, .null, .int 0, .int 0, .int 0, .int 0, .int 0, .int 0, .int 0, .int 0, .int 0, .int 0, .int 0, .int 0]) (gok hw) hk (ww hw 32 rfl) (Or.inr ⟨ww hw 33 rfl, rfl, rfl⟩) (d0 49 rfl) (j := 11) rfl rfl rfl ?_
  refine Ev.aloadN (d0 50 rfl) rfl ?_
  refine Ev.sipush (z := 1056) (d0 51 rfl) rfl ?_
  refine Ev.cnew (aty := .int) (b := false) (k := 1056) (q := 12) (as' := [(false, tab 32 (fun _ => 0)), (false, tab 32 (fun _ => 0)), (false, tab 32 (fun _ => 0)), (false, tab 32 (fun _ => 0)), (false, tab 32 (fun _ => 0)), (false, tab 3 (fun _ => 0)), (false, tab 8 (fun _ => 0)), (false, tab 1056 (fun _ => 0)), (false, tab 1056 (fun _ => 0)), (false, tab 1056 (fun _ => 0)), (false, tab 1056 (fun _ => 0)), (false, tab 1056 (fun _ => 0)), (false, tab 1056 (fun _ => 0))]) (ww hw 9 rfl) rfl (d0 52 rfl) (by decide) rfl (by decide) rfl rfl ?_
  refine Ev.cput (v' := .ref (pre.length + 1 + 12)) (fs' := [.ref (pre.length + 1 + 0), .ref (pre.length + 1 + 1), .ref (pre.length + 1 + 2), .ref (pre.length + 1 + 3), .ref (pre.length + 1 + 4), .ref (pre.length + 1 + 5), .ref (pre.length + 1 + 6), .ref (pre.length + 1 + 7), .ref (pre.length + 1 + 8), .ref (pre.length + 1 + 9), .ref (pre.length + 1 + 10), .ref (pre.length + 1 + 11), .ref (pre.length + 1 + 12), .null, .null, .null, .null, .null, .null, .null, .null, .null, .null, .null, .null, .null, .null, .null, .null, .null, .null, .null, .null, .int 0, .int 0, .int 0, .int 0, .int 0, .int 0, .int 0, .int 0, .int 0, .int 0, .int 0, .int 0]) (gok hw) hk (ww hw 34 rfl) (Or.inr ⟨ww hw 35 rfl, rfl, rfl⟩) (d0 53 rfl) (j := 12) rfl rfl rfl ?_
  refine Ev.aloadN (d0 54 rfl) rfl ?_
  refine Ev.iconst (z := 4) (d0 55 rfl) rfl ?_
  refine Ev.cnew (aty := .int) (b := false) (k := 4) (q := 13) (as' := [(false, tab 32 (fun _ => 0)), (false, tab 32 (fun _ => 0)), (false, tab 32 (fun _ => 0)), (false, tab 32 (fun _ => 0)), (false, tab 32 (fun _ => 0)), (false, tab 3 (fun _ => 0)), (false, tab 8 (fun _ => 0)), (false, tab 1056 (fun _ => 0)), (false, tab 1056 (fun _ => 0)), (false, tab 1056 (fun _ => 0)), (false, tab 1056 (fun _ => 0)), (false, tab 1056 (fun _ => 0)), (false, tab 1056 (fun _ => 0)), (false, tab 4 (fun _ => 0))]) (ww hw 9 rfl) rfl (d0 56 rfl) (by decide) rfl (by decide) rfl rfl ?_
  refine Ev.cput (v' := .ref (pre.length + 1 + 13)) (fs' := [.ref (pre.length + 1 + 0), .ref (pre.length + 1 + 1), .ref (pre.length + 1 + 2), .ref (pre.length + 1 + 3), .ref (pre.length + 1 + 4), .ref (pre.length + 1 + 5), .ref (pre.length + 1 + 6), .ref (pre.length + 1 + 7), .ref (pre.length + 1 + 8), .ref (pre.length + 1 + 9), .ref (pre.length + 1 + 10), .ref (pre.length + 1 + 11), .ref (pre.length + 1 + 12), .ref (pre.length + 1 + 13), .null, .null, .null, .null, .null, .null, .null, .null, .null, .null, .null, .null, .null, .null, .null, .null, .null, .null, .null, .int 0, .int 0, .int 0, .int 0, .int 0, .int 0, .int 0, .int 0, .int 0, .int 0, .int 0, .int 0]) (gok hw) hk (ww hw 36 rfl) (Or.inr ⟨ww hw 37 rfl, rfl, rfl⟩) (d0 57 rfl) (j := 13) rfl rfl rfl ?_
  refine Ev.aloadN (d0 58 rfl) rfl ?_
  refine Ev.iconst (z := 2) (d0 59 rfl) rfl ?_
  refine Ev.cnew (aty := .int) (b := false) (k := 2) (q := 14) (as' := [(false, tab 32 (fun _ => 0)), (false, tab 32 (fun _ => 0)), (false, tab 32 (fun _ => 0)), (false, tab 32 (fun _ => 0)), (false, tab 32 (fun _ => 0)), (false, tab 3 (fun _ => 0)), (false, tab 8 (fun _ => 0)), (false, tab 1056 (fun _ => 0)), (false, tab 1056 (fun _ => 0)), (false, tab 1056 (fun _ => 0)), (false, tab 1056 (fun _ => 0)), (false, tab 1056 (fun _ => 0)), (false, tab 1056 (fun _ => 0)), (false, tab 4 (fun _ => 0)), (false, tab 2 (fun _ => 0))]) (ww hw 9 rfl) rfl (d0 60 rfl) (by decide) rfl (by decide) rfl rfl ?_
  refine Ev.cput (v' := .ref (pre.length + 1 + 14)) (fs' := [.ref (pre.length + 1 + 0), .ref (pre.length + 1 + 1), .ref (pre.length + 1 + 2), .ref (pre.length + 1 + 3), .ref (pre.length + 1 + 4), .ref (pre.length + 1 + 5), .ref (pre.length + 1 + 6), .ref (pre.length + 1 + 7), .ref (pre.length + 1 + 8), .ref (pre.length + 1 + 9), .ref (pre.length + 1 + 10), .ref (pre.length + 1 + 11), .ref (pre.length + 1 + 12), .ref (pre.length + 1 + 13), .ref (pre.length + 1 + 14), .null, .null, .null, .null, .null, .null, .null, .null, .null, .null, .null, .null, .null, .null, .null, .null, .null, .null, .int 0, .int 0, .int 0, .int 0, .int 0, .int 0, .int 0, .int 0, .int 0, .int 0, .int 0, .int 0]) (gok hw) hk (ww hw 38 rfl) (Or.inr ⟨ww hw 39 rfl, rfl, rfl⟩) (d0 61 rfl) (j := 14) rfl rfl rfl ?_
  refine Ev.aloadN (d0 62 rfl) rfl ?_
  refine Ev.bipush (z := 64) (d0 63 rfl) rfl ?_
  refine Ev.cnew (aty := .int) (b := false) (k := 64) (q := 15) (as' := [(false, tab 32 (fun _ => 0)), (false, tab 32 (fun _ => 0)), (false, tab 32 (fun _ => 0)), (false, tab 32 (fun _ => 0)), (false, tab 32 (fun _ => 0)), (false, tab 3 (fun _ => 0)), (false, tab 8 (fun _ => 0)), (false, tab 1056 (fun _ => 0)), (false, tab 1056 (fun _ => 0)), (false, tab 1056 (fun _ => 0)), (false, tab 1056 (fun _ => 0)), (false, tab 1056 (fun _ => 0)), (false, tab 1056 (fun _ => 0)), (false, tab 4 (fun _ => 0)), (false, tab 2 (fun _ => 0)), (false, tab 64 (fun _ => 0))]) (ww hw 9 rfl) rfl (d0 64 rfl) (by decide) rfl (by decide) rfl rfl ?_
  refine Ev.cput (v' := .ref (pre.length + 1 + 15)) (fs' := [.ref (pre.length + 1 + 0), .ref (pre.length + 1 + 1), .ref (pre.length + 1 + 2), .ref (pre.length + 1 + 3), .ref (pre.length + 1 + 4), .ref (pre.length + 1 + 5), .ref (pre.length + 1 + 6), .ref (pre.length + 1 + 7), .ref (pre.length + 1 + 8), .ref (pre.length + 1 + 9), .ref (pre.length + 1 + 10), .ref (pre.length + 1 + 11), .ref (pre.length + 1 + 12), .ref (pre.length + 1 + 13), .ref (pre.length + 1 + 14), .ref (pre.length + 1 + 15), .null, .null, .null, .null, .null, .null, .null, .null, .null, .null, .null, .null, .null, .null, .null, .null, .null, .int 0, .int 0, .int 0, .int 0, .int 0, .int 0, .int 0, .int 0, .int 0, .int 0, .int 0, .int 0]) (gok hw) hk (ww hw 40 rfl) (Or.inr ⟨ww hw 41 rfl, rfl, rfl⟩) (d0 65 rfl) (j := 15) rfl rfl rfl ?_
  refine Ev.aloadN (d0 66 rfl) rfl ?_
  refine Ev.bipush (z := 8) (d0 67 rfl) rfl ?_
  refine Ev.cnew (aty := .int) (b := false) (k := 8) (q := 16) (as' := [(false, tab 32 (fun _ => 0)), (false, tab 32 (fun _ => 0)), (false, tab 32 (fun _ => 0)), (false, tab 32 (fun _ => 0)), (false, tab 32 (fun _ => 0)), (false, tab 3 (fun _ => 0)), (false, tab 8 (fun _ => 0)), (false, tab 1056 (fun _ => 0)), (false, tab 1056 (fun _ => 0)), (false, tab 1056 (fun _ => 0)), (false, tab 1056 (fun _ => 0)), (false, tab 1056 (fun _ => 0)), (false, tab 1056 (fun _ => 0)), (false, tab 4 (fun _ => 0)), (false, tab 2 (fun _ => 0)), (false, tab 64 (fun _ => 0)), (false, tab 8 (fun _ => 0))]) (ww hw 9 rfl) rfl (d0 68 rfl) (by decide) rfl (by decide) rfl rfl ?_
  refine Ev.cput (v' := .ref (pre.length + 1 + 16)) (fs' := [.ref (pre.length + 1 + 0), .ref (pre.length + 1 + 1), .ref (pre.length + 1 + 2), .ref (pre.length + 1 + 3), .ref (pre.length + 1 + 4), .ref (pre.length + 1 + 5), .ref (pre.length + 1 + 6), .ref (pre.length + 1 + 7), .ref (pre.length + 1 + 8), .ref (pre.length + 1 + 9), .ref (pre.length + 1 + 10), .ref (pre.length + 1 + 11), .ref (pre.length + 1 + 12), .ref (pre.length + 1 + 13), .ref (pre.length + 1 + 14), .ref (pre.length + 1 + 15), .ref (pre.length + 1 + 16), .null, .null, .null, .null, .null, .null, .null, .null, .null, .null, .null, .null, .null, .null, .null, .null, .int 0, .int 0, .int 0, .int 0, .int 0, .int 0, .int 0, .int 0, .int 0, .int 0, .int 0, .int 0]) (gok hw) hk (ww hw 42 rfl) (Or.inr ⟨ww hw 43 rfl, rfl, rfl⟩) (d0 69 rfl) (j := 16) rfl rfl rfl ?_
  refine Ev.aloadN (d0 70 rfl) rfl ?_
  refine Ev.bipush (z := 32) (d0 71 rfl) rfl ?_
  refine Ev.cnew (aty := .int) (b := false) (k := 32) (q := 17) (as' := [(false, tab 32 (fun _ => 0)), (false, tab 32 (fun _ => 0)), (false, tab 32 (fun _ => 0)), (false, tab 32 (fun _ => 0)), (false, tab 32 (fun _ => 0)), (false, tab 3 (fun _ => 0)), (false, tab 8 (fun _ => 0)), (false, tab 1056 (fun _ => 0)), (false, tab 1056 (fun _ => 0)), (false, tab 1056 (fun _ => 0)), (false, tab 1056 (fun _ => 0)), (false, tab 1056 (fun _ => 0)), (false, tab 1056 (fun _ => 0)), (false, tab 4 (fun _ => 0)), (false, tab 2 (fun _ => 0)), (false, tab 64 (fun _ => 0)), (false, tab 8 (fun _ => 0)), (false, tab 32 (fun _ => 0))]) (ww hw 9 rfl) rfl (d0 72 rfl) (by decide) rfl (by decide) rfl rfl ?_
  refine Ev.cput (v' := .ref (pre.length + 1 + 17)) (fs' := [.ref (pre.length + 1 + 0), .ref (pre.length + 1 + 1), .ref (pre.length + 1 + 2), .ref (pre.length + 1 + 3), .ref (pre.length + 1 + 4), .ref (pre.length + 1 + 5), .ref (pre.length + 1 + 6), .ref (pre.length + 1 + 7), .ref (pre.length + 1 + 8), .ref (pre.length + 1 + 9), .ref (pre.length + 1 + 10), .ref (pre.length + 1 + 11), .ref (pre.length + 1 + 12), .ref (pre.length + 1 + 13), .ref (pre.length + 1 + 14), .ref (pre.length + 1 + 15), .ref (pre.length + 1 + 16), .ref (pre.length + 1 + 17), .null, .null, .null, .null, .null, .null, .null, .null, .null, .null, .null, .null, .null, .null, .null, .int 0, .int 0, .int 0, .int 0, .int 0, .int 0, .int 0, .int 0, .int 0, .int 0, .int 0, .int 0]) (gok hw) hk (ww hw 44 rfl) (Or.inr ⟨ww hw 45 rfl, rfl, rfl⟩) (d0 73 rfl) (j := 17) rfl rfl rfl ?_
  refine Ev.aloadN (d0 74 rfl) rfl ?_
  refine Ev.bipush (z := 32) (d0 75 rfl) rfl ?_
  refine Ev.cnew (aty := .int) (b := false) (k := 32) (q := 18) (as' := [(false, tab 32 (fun _ => 0)), (false, tab 32 (fun _ => 0)), (false, tab 32 (fun _ => 0)), (false, tab 32 (fun _ => 0)), (false, tab 32 (fun _ => 0)), (false, tab 3 (fun _ => 0)), (false, tab 8 (fun _ => 0)), (false, tab 1056 (fun _ => 0)), (false, tab 1056 (fun _ => 0)), (false, tab 1056 (fun _ => 0)), (false, tab 1056 (fun _ => 0)), (false, tab 1056 (fun _ => 0)), (false, tab 1056 (fun _ => 0)), (false, tab 4 (fun _ => 0)), (false, tab 2 (fun _ => 0)), (false, tab 64 (fun _ => 0)), (false, tab 8 (fun _ => 0)), (false, tab 32 (fun _ => 0)), (false, tab 32 (fun _ => 0))]) (ww hw 9 rfl) rfl (d0 76 rfl) (by decide) rfl (by decide) rfl rfl ?_
  refine Ev.cput (v' := .ref (pre.length + 1 + 18)) (fs' := [.ref (pre.length + 1 + 0), .ref (pre.length + 1 + 1), .ref (pre.length + 1 + 2), .ref (pre.length + 1 + 3), .ref (pre.length + 1 + 4), .ref (pre.length + 1 + 5), .ref (pre.length + 1 + 6), .ref (pre.length + 1 + 7), .ref (pre.length + 1 + 8), .ref (pre.length + 1 + 9), .ref (pre.length + 1 + 10), .ref (pre.length + 1 + 11), .ref (pre.length + 1 + 12), .ref (pre.length + 1 + 13), .ref (pre.length + 1 + 14), .ref (pre.length + 1 + 15), .ref (pre.length + 1 + 16), .ref (pre.length + 1 + 17), .ref (pre.length + 1 + 18), .null, .null, .null, .null, .null, .null, .null, .null, .null, .null, .null, .null, .null, .null, .int 0, .int 0, .int 0, .int 0, .int 0, .int 0, .int 0, .int 0, .int 0, .int 0, .int 0, .int 0]) (gok hw) hk (ww hw 46 rfl) (Or.inr ⟨ww hw 47 rfl, rfl, rfl⟩) (d0 77 rfl) (j := 18) rfl rfl rfl ?_
  refine Ev.aloadN (d0 78 rfl) rfl ?_
  refine Ev.iconst (z := 4) (d0 79 rfl) rfl ?_
  refine Ev.cnew (aty := .int) (b := false) (k := 4) (q := 19) (as' := [(false, tab 32 (fun _ => 0)), (false, tab 32 (fun _ => 0)), (false, tab 32 (fun _ => 0)), (false, tab 32 (fun _ => 0)), (false, tab 32 (fun _ => 0)), (false, tab 3 (fun _ => 0)), (false, tab 8 (fun _ => 0)), (false, tab 1056 (fun _ => 0)), (false, tab 1056 (fun _ => 0)), (false, tab 1056 (fun _ => 0)), (false, tab 1056 (fun _ => 0)), (false, tab 1056 (fun _ => 0)), (false, tab 1056 (fun _ => 0)), (false, tab 4 (fun _ => 0)), (false, tab 2 (fun _ => 0)), (false, tab 64 (fun _ => 0)), (false, tab 8 (fun _ => 0)), (false, tab 32 (fun _ => 0)), (false, tab 32 (fun _ => 0)), (false, tab 4 (fun _ => 0))]) (ww hw 9 rfl) rfl (d0 80 rfl) (by decide) rfl (by decide) rfl rfl ?_
  refine Ev.cput (v' := .ref (pre.length + 1 + 19)) (fs' := [.ref (pre.length + 1 + 0), .ref (pre.length + 1 + 1), .ref (pre.length + 1 + 2), .ref (pre.length + 1 + 3), .ref (pre.length + 1 + 4), .ref (pre.length + 1 + 5), .ref (pre.length + 1 + 6), .ref (pre.length + 1 + 7), .ref (pre.length + 1 + 8), .ref (pre.length + 1 + 9), .ref (pre.length + 1 + 10), .ref (pre.length + 1 + 11), .ref (pre.length + 1 + 12), .ref (pre.length + 1 + 13), .ref (pre.length + 1 + 14), .ref (pre.length + 1 + 15), .ref (pre.length + 1 + 16), .ref (pre.length + 1 + 17), .ref (pre.length + 1 + 18), .ref (pre.length + 1 + 19), .null, .null, .null, .null, .null, .null, .null, .null, .null, .null, .null, .null, .null, .int 0, .int 0, .int 0, .int 0, .int 0, .int 0, .int 0, .int 0, .int 0, .int 0, .int 0, .int 0]) (gok hw) hk (ww hw 48 rfl) (Or.inr ⟨ww hw 49 rfl, rfl, rfl⟩) (d0 81 rfl) (j := 19) rfl rfl rfl ?_
  refine Ev.aloadN (d0 82 rfl) rfl ?_
  refine Ev.iconst (z := 3) (d0 83 rfl) rfl ?_
  refine Ev.cnew (aty := .int) (b := false) (k := 3) (q := 20) (as' := [(false, tab 32 (fun _ => 0)), (false, tab 32 (fun _ => 0)), (false, tab 32 (fun _ => 0)), (false, tab 32 (fun _ => 0)), (false, tab 32 (fun _ => 0)), (false, tab 3 (fun _ => 0)), (false, tab 8 (fun _ => 0)), (false, tab 1056 (fun _ => 0)), (false, tab 1056 (fun _ => 0)), (false, tab 1056 (fun _ => 0)), (false, tab 1056 (fun _ => 0)), (false, tab 1056 (fun _ => 0)), (false, tab 1056 (fun _ => 0)), (false, tab 4 (fun _ => 0)), (false, tab 2 (fun _ => 0)), (false, tab 64 (fun _ => 0)), (false, tab 8 (fun _ => 0)), (false, tab 32 (fun _ => 0)), (false, tab 32 (fun _ => 0)), (false, tab 4 (fun _ => 0)), (false, tab 3 (fun _ => 0))]) (ww hw 9 rfl) rfl (d0 84 rfl) (by decide) rfl (by decide) rfl rfl ?_
  refine Ev.cput (v' := .ref (pre.length + 1 + 20)) (fs' := [.ref (pre.length + 1 + 0), .ref (pre.length + 1 + 1), .ref (pre.length + 1 + 2), .ref (pre.length + 1 + 3), .ref (pre.length + 1 + 4), .ref (pre.length + 1 + 5), .ref (pre.length + 1 + 6), .ref (pre.length + 1 + 7), .ref (pre.length + 1 + 8), .ref (pre.length + 1 + 9), .ref (pre.length + 1 + 10), .ref (pre.length + 1 + 11), .ref (pre.length + 1 + 12), .ref (pre.length + 1 + 13), .ref (pre.length + 1 + 14), .ref (pre.length + 1 + 15), .ref (pre.length + 1 + 16), .ref (pre.length + 1 + 17), .ref (pre.length + 1 + 18), .ref (pre.length + 1 + 19), .ref (pre.length + 1 + 20), .null, .null, .null, .null, .null, .null, .null, .null, .null, .null, .null, .null, .int 0, .int 0, .int 0, .int 0, .int 0, .int 0, .int 0, .int 0, .int 0, .int 0, .int 0, .int 0]) (gok hw) hk (ww hw 50 rfl) (Or.inr ⟨ww hw 51 rfl, rfl, rfl⟩) (d0 85 rfl) (j := 20) rfl rfl rfl ?_
  refine Ev.aloadN (d0 86 rfl) rfl ?_
  refine Ev.iconst (z := 3) (d0 87 rfl) rfl ?_
  refine Ev.cnew (aty := .int) (b := false) (k := 3) (q := 21) (as' := [(false, tab 32 (fun _ => 0)), (false, tab 32 (fun _ => 0)), (false, tab 32 (fun _ => 0)), (false, tab 32 (fun _ => 0)), (false, tab 32 (fun _ => 0)), (false, tab 3 (fun _ => 0)), (false, tab 8 (fun _ => 0)), (false, tab 1056 (fun _ => 0)), (false, tab 1056 (fun _ => 0)), (false, tab 1056 (fun _ => 0)), (false, tab 1056 (fun _ => 0)), (false, tab 1056 (fun _ => 0)), (false, tab 1056 (fun _ => 0)), (false, tab 4 (fun _ => 0)), (false, tab 2 (fun _ => 0)), (false, tab 64 (fun _ => 0)), (false, tab 8 (fun _ => 0)), (false, tab 32 (fun _ => 0)), (false, tab 32 (fun _ => 0)), (false, tab 4 (fun _ => 0)), (false, tab 3 (fun _ => 0)), (false, tab 3 (fun _ => 0))]) (ww hw 9 rfl) rfl (d0 88 rfl) (by decide) rfl (by decide) rfl rfl ?_
  refine Ev.cput (v' := .ref (pre.length + 1 + 21)) (fs' := [.ref (pre.length + 1 + 0), .ref (pre.length + 1 + 1), .ref (pre.length + 1 + 2), .ref (pre.length + 1 + 3), .ref (pre.length + 1 + 4), .ref (pre.length + 1 + 5), .ref (pre.length + 1 + 6), .ref (pre.length + 1 + 7), .ref (pre.length + 1 + 8), .ref (pre.length + 1 + 9), .ref (pre.length + 1 + 10), .ref (pre.length + 1 + 11), .ref (pre.length + 1 + 12), .ref (pre.length + 1 + 13), .ref (pre.length + 1 + 14), .ref (pre.length + 1 + 15), .ref (pre.length + 1 + 16), .ref (pre.length + 1 + 17), .ref (pre.length + 1 + 18), .ref (pre.length + 1 + 19), .ref (pre.length + 1 + 20), .ref (pre.length + 1 + 21), .null, .null, .null, .null, .null, .null, .null, .null, .null, .null, .null, .int 0, .int 0, .int 0, .int 0, .int 0, .int 0, .int 0, .int 0, .int 0, .int 0, .int 0, .int 0]) (gok hw) hk (ww hw 52 rfl) (Or.inr ⟨ww hw 53 rfl, rfl, rfl⟩) (d0 89 rfl) (j := 21) rfl rfl rfl ?_
  refine Ev.aloadN (d0 90 rfl) rfl ?_
  refine Ev.bipush (z := 16) (d0 91 rfl) rfl ?_
  refine Ev.cnew (aty := .int) (b := false) (k := 16) (q := 22) (as' := [(false, tab 32 (fun _ => 0)), (false, tab 32 (fun _ => 0)), (false, tab 32 (fun _ => 0)), (false, tab 32 (fun _ => 0)), (false, tab 32 (fun _ => 0)), (false, tab 3 (fun _ => 0)), (false, tab 8 (fun _ => 0)), (false, tab 1056 (fun _ => 0)), (false, tab 1056 (fun _ => 0)), (false, tab 1056 (fun _ => 0)), (false, tab 1056 (fun _ => 0)), (false, tab 1056 (fun _ => 0)), (false, tab 1056 (fun _ => 0)), (false, tab 4 (fun _ => 0)), (false, tab 2 (fun _ => 0)), (false, tab 64 (fun _ => 0)), (false, tab 8 (fun _ => 0)), (false, tab 32 (fun _ => 0)), (false, tab 32 (fun _ => 0)), (false, tab 4 (fun _ => 0)), (false, tab 3 (fun _ => 0)), (false, tab 3 (fun _ => 0)), (false, tab 16 (fun _ => 0))]) (ww hw 9 rfl) rfl (d0 92 rfl) (by decide) rfl (by decide) rfl rfl ?_
  refine Ev.cput (v' := .ref (pre.length + 1 + 22)) (fs' := [.ref (pre.length + 1 + 0), .ref (pre.length + 1 + 1), .ref (pre.length + 1 + 2), .ref (pre.length + 1 + 3), .ref (pre.length + 1 + 4), .ref (pre.length + 1 + 5), .ref (pre.length + 1 + 6), .ref (pre.length + 1 + 7), .ref (pre.length + 1 + 8), .ref (pre.length + 1 + 9), .ref (pre.length + 1 + 10), .ref (pre.length + 1 + 11), .ref (pre.length + 1 + 12), .ref (pre.length + 1 + 13), .ref (pre.length + 1 + 14), .ref (pre.length + 1 + 15), .ref (pre.length + 1 + 16), .ref (pre.length + 1 + 17), .ref (pre.length + 1 + 18), .ref (pre.length + 1 + 19), .ref (pre.length + 1 + 20), .ref (pre.length + 1 + 21), .ref (pre.length + 1 + 22), .null, .null, .null, .null, .null, .null, .null, .null, .null, .null, .int 0, .int 0, .int 0, .int 0, .int 0, .int 0, .int 0, .int 0, .int 0, .int 0, .int 0, .int 0]) (gok hw) hk (ww hw 54 rfl) (Or.inr ⟨ww hw 55 rfl, rfl, rfl⟩) (d0 93 rfl) (j := 22) rfl rfl rfl ?_
  refine Ev.aloadN (d0 94 rfl) rfl ?_
  refine Ev.bipush (z := 16) (d0 95 rfl) rfl ?_
  refine Ev.cnew (aty := .int) (b := false) (k := 16) (q := 23) (as' := [(false, tab 32 (fun _ => 0)), (false, tab 32 (fun _ => 0)), (false, tab 32 (fun _ => 0)), (false, tab 32 (fun _ => 0)), (false, tab 32 (fun _ => 0)), (false, tab 3 (fun _ => 0)), (false, tab 8 (fun _ => 0)), (false, tab 1056 (fun _ => 0)), (false, tab 1056 (fun _ => 0)), (false, tab 1056 (fun _ => 0)), (false, tab 1056 (fun _ => 0)), (false, tab 1056 (fun _ => 0)), (false, tab 1056 (fun _ => 0)), (false, tab 4 (fun _ => 0)), (false, tab 2 (fun _ => 0)), (false, tab 64 (fun _ => 0)), (false, tab 8 (fun _ => 0)), (false, tab 32 (fun _ => 0)), (false, tab 32 (fun _ => 0)), (false, tab 4 (fun _ => 0)), (false, tab 3 (fun _ => 0)), (false, tab 3 (fun _ => 0)), (false, tab 16 (fun _ => 0)), (false, tab 16 (fun _ => 0))]) (ww hw 9 rfl) rfl (d0 96 rfl) (by decide) rfl (by decide) rfl rfl ?_
  refine Ev.cput (v' := .ref (pre.length + 1 + 23)) (fs' := [.ref (pre.length + 1 + 0), .ref (pre.length + 1 + 1), .ref (pre.length + 1 + 2), .ref (pre.length + 1 + 3), .ref (pre.length + 1 + 4), .ref (pre.length + 1 + 5), .ref (pre.length + 1 + 6), .ref (pre.length + 1 + 7), .ref (pre.length + 1 + 8), .ref (pre.length + 1 + 9), .ref (pre.length + 1 + 10), .ref (pre.length + 1 + 11), .ref (pre.length + 1 + 12), .ref (pre.length + 1 + 13), .ref (pre.length + 1 + 14), .ref (pre.length + 1 + 15), .ref (pre.length + 1 + 16), .ref (pre.length + 1 + 17), .ref (pre.length + 1 + 18), .ref (pre.length + 1 + 19), .ref (pre.length + 1 + 20), .ref (pre.length + 1 + 21), .ref (pre.length + 1 + 22), .ref (pre.length + 1 + 23), .null, .null, .null, .null, .null, .null, .null, .null, .null, .int 0, .int 0, .int 0, .int 0, .int 0, .int 0, .int 0, .int 0, .int 0, .int 0, .int 0, .int 0]) (gok hw) hk (ww hw 56 rfl) (Or.inr ⟨ww hw 57 rfl, rfl, rfl⟩) (d0 97 rfl) (j := 23) rfl rfl rfl ?_
  refine Ev.aloadN (d0 98 rfl) rfl ?_
  refine Ev.bipush (z := 16) (d0 99 rfl) rfl ?_
  refine Ev.cnew (aty := .boolean) (b := true) (k := 16) (q := 24) (as' := [(false, tab 32 (fun _ => 0)), (false, tab 32 (fun _ => 0)), (false, tab 32 (fun _ => 0)), (false, tab 32 (fun _ => 0)), (false, tab 32 (fun _ => 0)), (false, tab 3 (fun _ => 0)), (false, tab 8 (fun _ => 0)), (false, tab 1056 (fun _ => 0)), (false, tab 1056 (fun _ => 0)), (false, tab 1056 (fun _ => 0)), (false, tab 1056 (fun _ => 0)), (false, tab 1056 (fun _ => 0)), (false, tab 1056 (fun _ => 0)), (false, tab 4 (fun _ => 0)), (false, tab 2 (fun _ => 0)), (false, tab 64 (fun _ => 0)), (false, tab 8 (fun _ => 0)), (false, tab 32 (fun _ => 0)), (false, tab 32 (fun _ => 0)), (false, tab 4 (fun _ => 0)), (false, tab 3 (fun _ => 0)), (false, tab 3 (fun _ => 0)), (false, tab 16 (fun _ => 0)), (false, tab 16 (fun _ => 0)), (true, tab 16 (fun _ => 0))]) (ww hw 58 rfl) rfl (d0 100 rfl) (by decide) rfl (by decide) rfl rfl ?_
  refine Ev.cput (v' := .ref (pre.length + 1 + 24)) (fs' := [.ref (pre.length + 1 + 0), .ref (pre.length + 1 + 1), .ref (pre.length + 1 + 2), .ref (pre.length + 1 + 3), .ref (pre.length + 1 + 4), .ref (pre.length + 1 + 5), .ref (pre.length + 1 + 6), .ref (pre.length + 1 + 7), .ref (pre.length + 1 + 8), .ref (pre.length + 1 + 9), .ref (pre.length + 1 + 10), .ref (pre.length + 1 + 11), .ref (pre.length + 1 + 12), .ref (pre.length + 1 + 13), .ref (pre.length + 1 + 14), .ref (pre.length + 1 + 15), .ref (pre.length + 1 + 16), .ref (pre.length + 1 + 17), .ref (pre.length + 1 + 18), .ref (pre.length + 1 + 19), .ref (pre.length + 1 + 20), .ref (pre.length + 1 + 21), .ref (pre.length + 1 + 22), .ref (pre.length + 1 + 23), .ref (pre.length + 1 + 24), .null, .null, .null, .null, .null, .null, .null, .null, .int 0, .int 0, .int 0, .int 0, .int 0, .int 0, .int 0, .int 0, .int 0, .int 0, .int 0, .int 0]) (gok hw) hk (ww hw 59 rfl) (Or.inr ⟨ww hw 60 rfl, rfl, rfl⟩) (d0 101 rfl) (j := 24) rfl rfl rfl ?_
  refine Ev.aloadN (d0 102 rfl) rfl ?_
  refine Ev.bipush (z := 64) (d0 103 rfl) rfl ?_
  refine Ev.cnew (aty := .int) (b := false) (k := 64) (q := 25) (as' := [(false, tab 32 (fun _ => 0)), (false, tab 32 (fun _ => 0)), (false, tab 32 (fun _ => 0)), (false, tab 32 (fun _ => 0)), (false, tab 32 (fun _ => 0)), (false, tab 3 (fun _ => 0)), (false, tab 8 (fun _ => 0)), (false, tab 1056 (fun _ => 0)), (false, tab 1056 (fun _ => 0)), (false, tab 1056 (fun _ => 0)), (false, tab 1056 (fun _ => 0)), (false, tab 1056 (fun _ => 0)), (false, tab 1056 (fun _ => 0)), (false, tab 4 (fun _ => 0)), (false, tab 2 (fun _ => 0)), (false, tab 64 (fun _ => 0)), (false, tab 8 (fun _ => 0)), (false, tab 32 (fun _ => 0)), (false, tab 32 (fun _ => 0)), (false, tab 4 (fun _ => 0)), (false, tab 3 (fun _ => 0)), (false, tab 3 (fun _ => 0)), (false, tab 16 (fun _ => 0)), (false, tab 16 (fun _ => 0)), (true, tab 16 (fun _ => 0)), (false, tab 64 (fun _ => 0))]) (ww hw 9 rfl) rfl (d0 104 rfl) (by decide) rfl (by decide) rfl rfl ?_
  refine Ev.cput (v' := .ref (pre.length + 1 + 25)) (fs' := [.ref (pre.length + 1 + 0), .ref (pre.length + 1 + 1), .ref (pre.length + 1 + 2), .ref (pre.length + 1 + 3), .ref (pre.length + 1 + 4), .ref (pre.length + 1 + 5), .ref (pre.length + 1 + 6), .ref (pre.length + 1 + 7), .ref (pre.length + 1 + 8), .ref (pre.length + 1 + 9), .ref (pre.length + 1 + 10), .ref (pre.length + 1 + 11), .ref (pre.length + 1 + 12), .ref (pre.length + 1 + 13), .ref (pre.length + 1 + 14), .ref (pre.length + 1 + 15), .ref (pre.length + 1 + 16), .ref (pre.length + 1 + 17), .ref (pre.length + 1 + 18), .ref (pre.length + 1 + 19), .ref (pre.length + 1 + 20), .ref (pre.length + 1 + 21), .ref (pre.length + 1 + 22), .ref (pre.length + 1 + 23), .ref (pre.length + 1 + 24), .ref (pre.length + 1 + 25), .null, .null, .null, .null, .null, .null, .null, .int 0, .int 0, .int 0, .int 0, .int 0, .int 0, .int 0, .int 0, .int 0, .int 0, .int 0, .int 0]) (gok hw) hk (ww hw 61 rfl) (Or.inr ⟨ww hw 62 rfl, rfl, rfl⟩) (d0 105 rfl) (j := 25) rfl rfl rfl ?_
  refine Ev.aloadN (d0 106 rfl) rfl ?_
  refine Ev.bipush (z := 64) (d0 107 rfl) rfl ?_
  refine Ev.cnew (aty := .int) (b := false) (k := 64) (q := 26) (as' := [(false, tab 32 (fun _ => 0)), (false, tab 32 (fun _ => 0)), (false, tab 32 (fun _ => 0)), (false, tab 32 (fun _ => 0)), (false, tab 32 (fun _ => 0)), (false, tab 3 (fun _ => 0)), (false, tab 8 (fun _ => 0)), (false, tab 1056 (fun _ => 0)), (false, tab 1056 (fun _ => 0)), (false, tab 1056 (fun _ => 0)), (false, tab 1056 (fun _ => 0)), (false, tab 1056 (fun _ => 0)), (false, tab 1056 (fun _ => 0)), (false, tab 4 (fun _ => 0)), (false, tab 2 (fun _ => 0)), (false, tab 64 (fun _ => 0)), (false, tab 8 (fun _ => 0)), (false, tab 32 (fun _ => 0)), (false, tab 32 (fun _ => 0)), (false, tab 4 (fun _ => 0)), (false, tab 3 (fun _ => 0)), (false, tab 3 (fun _ => 0)), (false, tab 16 (fun _ => 0)), (false, tab 16 (fun _ => 0)), (true, tab 16 (fun _ => 0)), (false, tab 64 (fun _ => 0)), (false, tab 64 (fun _ => 0))]) (ww hw 9 rfl) rfl (d0 108 rfl) (by decide) rfl (by decide) rfl rfl ?_
  refine Ev.cput (v' := .ref (pre.length + 1 + 26)) (fs' := [.ref (pre.length + 1 + 0), .ref (pre.length + 1 + 1), .ref (pre.length + 1 + 2), .ref (pre.length + 1 + 3), .ref (pre.length + 1 + 4), .ref (pre.length + 1 + 5), .ref (pre.length + 1 + 6), .ref (pre.length + 1 + 7), .ref (pre.length + 1 + 8), .ref (pre.length + 1 + 9), .ref (pre.length + 1 + 10), .ref (pre.length + 1 + 11), .ref (pre.length + 1 + 12), .ref (pre.length + 1 + 13), .ref (pre.length + 1 + 14), .ref (pre.length + 1 + 15), .ref (pre.length + 1 + 16), .ref (pre.length + 1 + 17), .ref (pre.length + 1 + 18), .ref (pre.length + 1 + 19), .ref (pre.length + 1 + 20), .ref (pre.length + 1 + 21), .ref (pre.length + 1 + 22), .ref (pre.length + 1 + 23), .ref (pre.length + 1 + 24), .ref (pre.length + 1 + 25), .ref (pre.length + 1 + 26), .null, .null, .null, .null, .null, .null, .int 0, .int 0, .int 0, .int 0, .int 0, .int 0, .int 0, .int 0, .int 0, .int 0, .int 0, .int 0]) (gok hw) hk (ww hw 63 rfl) (Or.inr ⟨ww hw 64 rfl, rfl, rfl⟩) (d0 109 rfl) (j := 26) rfl rfl rfl ?_
  refine Ev.aloadN (d0 110 rfl) rfl ?_
  refine Ev.sipush (z := 2048) (d0 111 rfl) rfl ?_
  refine Ev.cnew (aty := .int) (b := false) (k := 2048) (q := 27) (as' := [(false, tab 32 (fun _ => 0)), (false, tab 32 (fun _ => 0)), (false, tab 32 (fun _ => 0)), (false, tab 32 (fun _ => 0)), (false, tab 32 (fun _ => 0)), (false, tab 3 (fun _ => 0)), (false, tab 8 (fun _ => 0)), (false, tab 1056 (fun _ => 0)), (false, tab 1056 (fun _ => 0)), (false, tab 1056 (fun _ => 0)), (false, tab 1056 (fun _ => 0)), (false, tab 1056 (fun _ => 0)), (false, tab 1056 (fun _ => 0)), (false, tab 4 (fun _ => 0)), (false, tab 2 (fun _ => 0)), (false, tab 64 (fun _ => 0)), (false, tab 8 (fun _ => 0)), (false, tab 32 (fun _ => 0)), (false, tab 32 (fun _ => 0)), (false, tab 4 (fun _ => 0)), (false, tab 3 (fun _ => 0)), (false, tab 3 (fun _ => 0)), (false, tab 16 (fun _ => 0)), (false, tab 16 (fun _ => 0)), (true, tab 16 (fun _ => 0)), (false, tab 64 (fun _ => 0)), (false, tab 64 (fun _ => 0)), (false, tab 2048 (fun _ => 0))]) (ww hw 9 rfl) rfl (d0 112 rfl) (by decide) rfl (by decide) rfl rfl ?_
  refine Ev.cput (v' := .ref (pre.length + 1 + 27)) (fs' := [.ref (pre.length + 1 + 0), .ref (pre.length + 1 + 1), .ref (pre.length + 1 + 2), .ref (pre.length + 1 + 3), .ref (pre.length + 1 + 4), .ref (pre.length + 1 + 5), .ref (pre.length + 1 + 6), .ref (pre.length + 1 + 7), .ref (pre.length + 1 + 8), .ref (pre.length + 1 + 9), .ref (pre.length + 1 + 10), .ref (pre.length + 1 + 11), .ref (pre.length + 1 + 12), .ref (pre.length + 1 + 13), .ref (pre.length + 1 + 14), .ref (pre.length + 1 + 15), .ref (pre.length + 1 + 16), .ref (pre.length + 1 + 17), .ref (pre.length + 1 + 18), .ref (pre.length + 1 + 19), .ref (pre.length + 1 + 20), .ref (pre.length + 1 + 21), .ref (pre.length + 1 + 22), .ref (pre.length + 1 + 23), .ref (pre.length + 1 + 24), .ref (pre.length + 1 + 25), .ref (pre.length + 1 + 26), .ref (pre.length + 1 + 27), .null, .null, .null, .null, .null, .int 0, .int 0, .int 0, .int 0, .int 0, .int 0, .int 0, .int 0, .int 0, .int 0, .int 0, .int 0]) (gok hw) hk (ww hw 65 rfl) (Or.inr ⟨ww hw 66 rfl, rfl, rfl⟩) (d0 113 rfl) (j := 27) rfl rfl rfl ?_
  refine Ev.aloadN (d0 114 rfl) rfl ?_
  refine Ev.sipush (z := 2048) (d0 115 rfl) rfl ?_
  refine Ev.cnew (aty := .int) (b := false) (k := 2048) (q := 28) (as' := [(false, tab 32 (fun _ => 0)), (false, tab 32 (fun _ => 0)), (false, tab 32 (fun _ => 0)), (false, tab 32 (fun _ => 0)), (false, tab 32 (fun _ => 0)), (false, tab 3 (fun _ => 0)), (false, tab 8 (fun _ => 0)), (false, tab 1056 (fun _ => 0)), (false, tab 1056 (fun _ => 0)), (false, tab 1056 (fun _ => 0)), (false, tab 1056 (fun _ => 0)), (false, tab 1056 (fun _ => 0)), (false, tab 1056 (fun _ => 0)), (false, tab 4 (fun _ => 0)), (false, tab 2 (fun _ => 0)), (false, tab 64 (fun _ => 0)), (false, tab 8 (fun _ => 0)), (false, tab 32 (fun _ => 0)), (false, tab 32 (fun _ => 0)), (false, tab 4 (fun _ => 0)), (false, tab 3 (fun _ => 0)), (false, tab 3 (fun _ => 0)), (false, tab 16 (fun _ => 0)), (false, tab 16 (fun _ => 0)), (true, tab 16 (fun _ => 0)), (false, tab 64 (fun _ => 0)), (false, tab 64 (fun _ => 0)), (false, tab 2048 (fun _ => 0)), (false, tab 2048 (fun _ => 0))]) (ww hw 9 rfl) rfl (d0 116 rfl) (by decide) rfl (by decide) rfl rfl ?_
  refine Ev.cput (v' := .ref (pre.length + 1 + 28)) (fs' := [.ref (pre.length + 1 + 0), .ref (pre.length + 1 + 1), .ref (pre.length + 1 + 2), .ref (pre.length + 1 + 3), .ref (pre.length + 1 + 4), .ref (pre.length + 1 + 5), .ref (pre.length + 1 + 6), .ref (pre.length + 1 + 7), .ref (pre.length + 1 + 8), .ref (pre.length + 1 + 9), .ref (pre.length + 1 + 10), .ref (pre.length + 1 + 11), .ref (pre.length + 1 + 12), .ref (pre.length + 1 + 13), .ref (pre.length + 1 + 14), .ref (pre.length + 1 + 15), .ref (pre.length + 1 + 16), .ref (pre.length + 1 + 17), .ref (pre.length + 1 + 18), .ref (pre.length + 1 + 19), .ref (pre.length + 1 + 20), .ref (pre.length + 1 + 21), .ref (pre.length + 1 + 22), .ref (pre.length + 1 + 23), .ref (pre.length + 1 + 24), .ref (pre.length + 1 + 25), .ref (pre.length + 1 + 26), .ref (pre.length + 1 + 27), .ref (pre.length + 1 + 28), .null, .null, .null, .null, .int 0, .int 0, .int 0, .int 0, .int 0, .int 0, .int 0, .int 0, .int 0, .int 0, .int 0, .int 0]) (gok hw) hk (ww hw 67 rfl) (Or.inr ⟨ww hw 68 rfl, rfl, rfl⟩) (d0 117 rfl) (j := 28) rfl rfl rfl ?_
  refine Ev.aloadN (d0 118 rfl) rfl ?_
  refine Ev.sipush (z := 2048) (d0 119 rfl) rfl ?_
  refine Ev.cnew (aty := .int) (b := false) (k := 2048) (q := 29) (as' := [(false, tab 32 (fun _ => 0)), (false, tab 32 (fun _ => 0)), (false, tab 32 (fun _ => 0)), (false, tab 32 (fun _ => 0)), (false, tab 32 (fun _ => 0)), (false, tab 3 (fun _ => 0)), (false, tab 8 (fun _ => 0)), (false, tab 1056 (fun _ => 0)), (false, tab 1056 (fun _ => 0)), (false, tab 1056 (fun _ => 0)), (false, tab 1056 (fun _ => 0)), (false, tab 1056 (fun _ => 0)), (false, tab 1056 (fun _ => 0)), (false, tab 4 (fun _ => 0)), (false, tab 2 (fun _ => 0)), (false, tab 64 (fun _ => 0)), (false, tab 8 (fun _ => 0)), (false, tab 32 (fun _ => 0)), (false, tab 32 (fun _ => 0)), (false, tab 4 (fun _ => 0)), (false, tab 3 (fun _ => 0)), (false, tab 3 (fun _ => 0)), (false, tab 16 (fun _ => 0)), (false, tab 16 (fun _ => 0)), (true, tab 16 (fun _ => 0)), (false, tab 64 (fun _ => 0)), (false, tab 64 (fun _ => 0)), (false, tab 2048 (fun _ => 0)), (false, tab 2048 (fun _ => 0)), (false, tab 2048 (fun _ => 0))]) (ww hw 9 rfl) rfl (d0 120 rfl) (by decide) rfl (by decide) rfl rfl ?_
  refine Ev.cput (v' := .ref (pre.length + 1 + 29)) (fs' := [.ref (pre.length + 1 + 0), .ref (pre.length + 1 + 1), .ref (pre.length + 1 + 2), .ref (pre.length + 1 + 3), .ref (pre.length + 1 + 4), .ref (pre.length + 1 + 5), .ref (pre.length + 1 + 6), .ref (pre.length + 1 + 7), .ref (pre.length + 1 + 8), .ref (pre.length + 1 + 9), .ref (pre.length + 1 + 10), .ref (pre.length + 1 + 11), .ref (pre.length + 1 + 12), .ref (pre.length + 1 + 13), .ref (pre.length + 1 + 14), .ref (pre.length + 1 + 15), .ref (pre.length + 1 + 16), .ref (pre.length + 1 + 17), .ref (pre.length + 1 + 18), .ref (pre.length + 1 + 19), .ref (pre.length + 1 + 20), .ref (pre.length + 1 + 21), .ref (pre.length + 1 + 22), .ref (pre.length + 1 + 23), .ref (pre.length + 1 + 24), .ref (pre.length + 1 + 25), .ref (pre.length + 1 + 26), .ref (pre.length + 1 + 27), .ref (pre.length + 1 + 28), .ref (pre.length + 1 + 29), .null, .null, .null, .int 0, .int 0, .int 0, .int 0, .int 0, .int 0, .int 0, .int 0, .int 0, .int 0, .int 0, .int 0]) (gok hw) hk (ww hw 69 rfl) (Or.inr ⟨ww hw 70 rfl, rfl, rfl⟩) (d0 121 rfl) (j := 29) rfl rfl rfl ?_
  refine Ev.aloadN (d0 122 rfl) rfl ?_
  refine Ev.sipush (z := 2048) (d0 123 rfl) rfl ?_
  refine Ev.cnew (aty := .int) (b := false) (k := 2048) (q := 30) (as' := [(false, tab 32 (fun _ => 0)), (false, tab 32 (fun _ => 0)), (false, tab 32 (fun _ => 0)), (false, tab 32 (fun _ => 0)), (false, tab 32 (fun _ => 0)), (false, tab 3 (fun _ => 0)), (false, tab 8 (fun _ => 0)), (false, tab 1056 (fun _ => 0)), (false, tab 1056 (fun _ => 0)), (false, tab 1056 (fun _ => 0)), (false, tab 1056 (fun _ => 0)), (false, tab 1056 (fun _ => 0)), (false, tab 1056 (fun _ => 0)), (false, tab 4 (fun _ => 0)), (false, tab 2 (fun _ => 0)), (false, tab 64 (fun _ => 0)), (false, tab 8 (fun _ => 0)), (false, tab 32 (fun _ => 0)), (false, tab 32 (fun _ => 0)), (false, tab 4 (fun _ => 0)), (false, tab 3 (fun _ => 0)), (false, tab 3 (fun _ => 0)), (false, tab 16 (fun _ => 0)), (false, tab 16 (fun _ => 0)), (true, tab 16 (fun _ => 0)), (false, tab 64 (fun _ => 0)), (false, tab 64 (fun _ => 0)), (false, tab 2048 (fun _ => 0)), (false, tab 2048 (fun _ => 0)), (false, tab 2048 (fun _ => 0)), (false, tab 2048 (fun _ => 0))]) (ww hw 9 rfl) rfl (d0 124 rfl) (by decide) rfl (by decide) rfl rfl ?_
  refine Ev.cput (v' := .ref (pre.length + 1 + 30)) (fs' := [.ref (pre.length + 1 + 0), .ref (pre.length + 1 + 1), .ref (pre.length + 1 + 2), .ref (pre.length + 1 + 3), .ref (pre.length + 1 + 4), .ref (pre.length + 1 + 5), .ref (pre.length + 1 + 6), .ref (pre.length + 1 + 7), .ref (pre.length + 1 + 8), .ref (pre.length + 1 + 9), .ref (pre.length + 1 + 10), .ref (pre.length + 1 + 11), .ref (pre.length + 1 + 12), .ref (pre.length + 1 + 13), .ref (pre.length + 1 + 14), .ref (pre.length + 1 + 15), .ref (pre.length + 1 + 16), .ref (pre.length + 1 + 17), .ref (pre.length + 1 + 18), .ref (pre.length + 1 + 19), .ref (pre.length + 1 + 20), .ref (pre.length + 1 + 21), .ref (pre.length + 1 + 22), .ref (pre.length + 1 + 23), .ref (pre.length + 1 + 24), .ref (pre.length + 1 + 25), .ref (pre.length + 1 + 26), .ref (pre.length + 1 + 27), .ref (pre.length + 1 + 28), .ref (pre.length + 1 + 29), .ref (pre.length + 1 + 30), .null, .null, .int 0, .int 0, .int 0, .int 0, .int 0, .int 0, .int 0, .int 0, .int 0, .int 0, .int 0, .int 0]) (gok hw) hk (ww hw 71 rfl) (Or.inr ⟨ww hw 72 rfl, rfl, rfl⟩) (d0 125 rfl) (j := 30) rfl rfl rfl ?_
  refine Ev.aloadN (d0 126 rfl) rfl ?_
  refine Ev.sipush (z := 2048) (d0 127 rfl) rfl ?_
  refine Ev.cnew (aty := .boolean) (b := true) (k := 2048) (q := 31) (as' := [(false, tab 32 (fun _ => 0)), (false, tab 32 (fun _ => 0)), (false, tab 32 (fun _ => 0)), (false, tab 32 (fun _ => 0)), (false, tab 32 (fun _ => 0)), (false, tab 3 (fun _ => 0)), (false, tab 8 (fun _ => 0)), (false, tab 1056 (fun _ => 0)), (false, tab 1056 (fun _ => 0)), (false, tab 1056 (fun _ => 0)), (false, tab 1056 (fun _ => 0)), (false, tab 1056 (fun _ => 0)), (false, tab 1056 (fun _ => 0)), (false, tab 4 (fun _ => 0)), (false, tab 2 (fun _ => 0)), (false, tab 64 (fun _ => 0)), (false, tab 8 (fun _ => 0)), (false, tab 32 (fun _ => 0)), (false, tab 32 (fun _ => 0)), (false, tab 4 (fun _ => 0)), (false, tab 3 (fun _ => 0)), (false, tab 3 (fun _ => 0)), (false, tab 16 (fun _ => 0)), (false, tab 16 (fun _ => 0)), (true, tab 16 (fun _ => 0)), (false, tab 64 (fun _ => 0)), (false, tab 64 (fun _ => 0)), (false, tab 2048 (fun _ => 0)), (false, tab 2048 (fun _ => 0)), (false, tab 2048 (fun _ => 0)), (false, tab 2048 (fun _ => 0)), (true, tab 2048 (fun _ => 0))]) (ww hw 58 rfl) rfl (d0 128 rfl) (by decide) rfl (by decide) rfl rfl ?_
  refine Ev.cput (v' := .ref (pre.length + 1 + 31)) (fs' := [.ref (pre.length + 1 + 0), .ref (pre.length + 1 + 1), .ref (pre.length + 1 + 2), .ref (pre.length + 1 + 3), .ref (pre.length + 1 + 4), .ref (pre.length + 1 + 5), .ref (pre.length + 1 + 6), .ref (pre.length + 1 + 7), .ref (pre.length + 1 + 8), .ref (pre.length + 1 + 9), .ref (pre.length + 1 + 10), .ref (pre.length + 1 + 11), .ref (pre.length + 1 + 12), .ref (pre.length + 1 + 13), .ref (pre.length + 1 + 14), .ref (pre.length + 1 + 15), .ref (pre.length + 1 + 16), .ref (pre.length + 1 + 17), .ref (pre.length + 1 + 18), .ref (pre.length + 1 + 19), .ref (pre.length + 1 + 20), .ref (pre.length + 1 + 21), .ref (pre.length + 1 + 22), .ref (pre.length + 1 + 23), .ref (pre.length + 1 + 24), .ref (pre.length + 1 + 25), .ref (pre.length + 1 + 26), .ref (pre.length + 1 + 27), .ref (pre.length + 1 + 28), .ref (pre.length + 1 + 29), .ref (pre.length + 1 + 30), .ref (pre.length + 1 + 31), .null, .int 0, .int 0, .int 0, .int 0, .int 0, .int 0, .int 0, .int 0, .int 0, .int 0, .int 0, .int 0]) (gok hw) hk (ww hw 73 rfl) (Or.inr ⟨ww hw 74 rfl, rfl, rfl⟩) (d0 129 rfl) (j := 31) rfl rfl rfl ?_
  refine Ev.aloadN (d0 130 rfl) rfl ?_
  refine Ev.sipush (z := 1024) (d0 131 rfl) rfl ?_
  refine Ev.cnew (aty := .int) (b := false) (k := 1024) (q := 32) (as' := [(false, tab 32 (fun _ => 0)), (false, tab 32 (fun _ => 0)), (false, tab 32 (fun _ => 0)), (false, tab 32 (fun _ => 0)), (false, tab 32 (fun _ => 0)), (false, tab 3 (fun _ => 0)), (false, tab 8 (fun _ => 0)), (false, tab 1056 (fun _ => 0)), (false, tab 1056 (fun _ => 0)), (false, tab 1056 (fun _ => 0)), (false, tab 1056 (fun _ => 0)), (false, tab 1056 (fun _ => 0)), (false, tab 1056 (fun _ => 0)), (false, tab 4 (fun _ => 0)), (false, tab 2 (fun _ => 0)), (false, tab 64 (fun _ => 0)), (false, tab 8 (fun _ => 0)), (false, tab 32 (fun _ => 0)), (false, tab 32 (fun _ => 0)), (false, tab 4 (fun _ => 0)), (false, tab 3 (fun _ => 0)), (false, tab 3 (fun _ => 0)), (false, tab 16 (fun _ => 0)), (false, tab 16 (fun _ => 0)), (true, tab 16 (fun _ => 0)), (false, tab 64 (fun _ => 0)), (false, tab 64 (fun _ => 0)), (false, tab 2048 (fun _ => 0)), (false, tab 2048 (fun _ => 0)), (false, tab 2048 (fun _ => 0)), (false, tab 2048 (fun _ => 0)), (true, tab 2048 (fun _ => 0)), (false, tab 1024 (fun _ => 0))]) (ww hw 9 rfl) rfl (d0 132 rfl) (by decide) rfl (by decide) rfl rfl ?_
  refine Ev.cput (v' := .ref (pre.length + 1 + 32)) (fs' := [.ref (pre.length + 1 + 0), .ref (pre.length + 1 + 1), .ref (pre.length + 1 + 2), .ref (pre.length + 1 + 3), .ref (pre.length + 1 + 4), .ref (pre.length + 1 + 5), .ref (pre.length + 1 + 6), .ref (pre.length + 1 + 7), .ref (pre.length + 1 + 8), .ref (pre.length + 1 + 9), .ref (pre.length + 1 + 10), .ref (pre.length + 1 + 11), .ref (pre.length + 1 + 12), .ref (pre.length + 1 + 13), .ref (pre.length + 1 + 14), .ref (pre.length + 1 + 15), .ref (pre.length + 1 + 16), .ref (pre.length + 1 + 17), .ref (pre.length + 1 + 18), .ref (pre.length + 1 + 19), .ref (pre.length + 1 + 20), .ref (pre.length + 1 + 21), .ref (pre.length + 1 + 22), .ref (pre.length + 1 + 23), .ref (pre.length + 1 + 24), .ref (pre.length + 1 + 25), .ref (pre.length + 1 + 26), .ref (pre.length + 1 + 27), .ref (pre.length + 1 + 28), .ref (pre.length + 1 + 29), .ref (pre.length + 1 + 30), .ref (pre.length + 1 + 31), .ref (pre.length + 1 + 32), .int 0, .int 0, .int 0, .int 0, .int 0, .int 0, .int 0, .int 0, .int 0, .int 0, .int 0, .int 0]) (gok hw) hk (ww hw 75 rfl) (Or.inr ⟨ww hw 76 rfl, rfl, rfl⟩) (d0 133 rfl) (j := 32) rfl rfl rfl ?_
  show Ev (GG g) M_ctor 274 [.val (.ref pre.length), .val (.int a0), .unset] [] (KH flds al Ln pre [] zeroS) _
  exact e_ctor_274 hw (K := KH flds al Ln pre []) (o := pre.length) (r := rA pre.length al) (view_of hk al_ok al_nd) a0 zeroS .unset rfl _ hr
def f_setInput (a0 a1 : Int32) (s : St) : Option (Int32 × St) :=
  if a0 < 0 then
    some ((0 : Int32), s)
  else
    if a0 < (8 : Int32) then
      grd (inb a0 8) <|
      bnd (setA s 6 (ix a0) a1) fun s4 =>
      some ((1 : Int32), s4)
    else
      some ((0 : Int32), s)
set_option maxRecDepth 100000 in
theorem e_setInput {g : GT} {a0 : Int32} {a1 : Int32} {s : St} {w : Int32 × St} (hw : HW g) {K : St → MHeap} {o : Nat} {r : Nat → Nat} (V : View (GG g) Ln K o r) (hr : f_setInput a0 a1 s = some w) : EvC (GG g) M_setInput [.ref o, .int a0, .int a1] (K s) ((some (.int w.1)), (K w.2)) := by
  refine EvC.enter (L0 := [.val (.ref o), .val (.int a0), .val (.int a1)]) pl_setInput (fun h => nomatch h) rfl rfl ?_
  unfold f_setInput at hr
  refine Ev.iloadN (d2 0 rfl) rfl ?_
  refine Ev.iflt (t := 10) (d2 1 rfl) rfl (fun c1 => ?_) (fun c1 => ?_)
  · replace hr := own_ip c1 hr
    refine Ev.iconst (z := 0) (d2 5 rfl) rfl ?_
    cases hr
    exact Ev.zret0 rfl (d2 6 rfl)
  · replace hr := own_iq c1 hr
    refine Ev.iloadN (d2 2 rfl) rfl ?_
    refine Ev.bipush (z := 8) (d2 3 rfl) rfl ?_
    refine Ev.iclt (t := 12) (d2 4 rfl) rfl (fun c2 => ?_) (fun c2 => ?_)
    · replace hr := own_ip c2 hr
      refine Ev.aloadN (d2 7 rfl) rfl ?_
      refine Ev.gAr V (ww hw 22 rfl) (d2 8 rfl) (j := 6) rfl ?_
      refine Ev.iloadN (d2 9 rfl) rfl ?_
      refine Ev.iloadN (d2 10 rfl) rfl ?_
      obtain ⟨b3, hr⟩ := grd_some hr
      refine Ev.ias V (j := 6) rfl rfl (d2 11 rfl) b3 ?_
      revert hr
      generalize setA s 6 (ix a0) a1 = s4
      intro hr
      replace hr := (bnd_eq _ _).symm.trans hr
      refine Ev.iconst (z := 1) (d2 12 rfl) rfl ?_
      cases hr
      exact Ev.zret1 rfl (d2 13 rfl)
    · replace hr := own_iq c2 hr
      refine Ev.iconst (z := 0) (d2 5 rfl) rfl ?_
      cases hr
      exact Ev.zret0 rfl (d2 6 rfl)
def f_argumentOk_54 (s : St) (x2 : Int32) : Option (Int32) :=
  if x2 < 0 then
    some (0 : Int32)
  else
    if x2 < (4 : Int32) then
      some (1 : Int32)
    else
      some (0 : Int32)
set_option maxRecDepth 100000 in
theorem e_argumentOk_54 {g : GT} {s : St} (hw : HW g) {K : St → MHeap} {o : Nat} {r : Nat → Nat} (V : View (GG g) Ln K o r) (x2 : Int32) (y0 : Slot) (hy0 : one1 y0 = true) (y1 : Slot) (hy1 : one1 y1 = true) (w : Int32) (hr : f_argumentOk_54 s x2 = some w) : Ev (GG g) M_argumentOk 54 [y0, y1, .val (.int x2)] [] (K s) ((some (.int w)), (K s)) := by
  unfold f_argumentOk_54 at hr
  refine Ev.iloadN (d4 30 rfl) rfl ?_
  refine Ev.iflt (t := 67) (d4 31 rfl) rfl (fun c1 => ?_) (fun c1 => ?_)
  · replace hr := own_ip c1 hr
    refine Ev.iconst (z := 0) (d4 37 rfl) rfl ?_
    cases hr
    exact Ev.zret0 rfl (d4 38 rfl)
  · replace hr := own_iq c1 hr
    refine Ev.iloadN (d4 32 rfl) rfl ?_
    refine Ev.iconst (z := 4) (d4 33 rfl) rfl ?_
    refine Ev.icge (t := 67) (d4 34 rfl) rfl (fun c2 => ?_) (fun c2 => ?_)
    · replace hr := own_ip c2 hr
      refine Ev.iconst (z := 1) (d4 35 rfl) rfl ?_
      refine Ev.goto (t := 68) (d4 36 rfl) rfl ?_
      cases hr
      exact Ev.zret1 rfl (d4 38 rfl)
    · replace hr := own_iq c2 hr
      refine Ev.iconst (z := 0) (d4 37 rfl) rfl ?_
      cases hr
      exact Ev.zret0 rfl (d4 38 rfl)
def f_argumentOk (s : St) (a0 a1 : Int32) : Option (Int32) :=
  if a0 = (2 : Int32) then
    if a1 < 0 then
      some (0 : Int32)
    else
      if a1 < (8 : Int32) then
        some (1 : Int32)
      else
        some (0 : Int32)
  else
    if a0 = (13 : Int32) then
      if a1 < 0 then
        some (0 : Int32)
      else
        if (7 : Int32) < a1 then
          some (0 : Int32)
        else
          some (1 : Int32)
    else
      if a0 = (3 : Int32) then
        f_argumentOk_54 s a1
      else
        if a0 = (11 : Int32) then
          f_argumentOk_54 s a1
        else
          some (1 : Int32)
set_option maxRecDepth 100000 in
theorem e_argumentOk {g : GT} {s : St} {a0 : Int32} {a1 : Int32} {w : Int32} (hw : HW g) {K : St → MHeap} {o : Nat} {r : Nat → Nat} (V : View (GG g) Ln K o r) (hr : f_argumentOk s a0 a1 = some w) : EvC (GG g) M_argumentOk [.ref o, .int a0, .int a1] (K s) ((some (.int w)), (K s)) := by
  refine EvC.enter (L0 := [.val (.ref o), .val (.int a0), .val (.int a1)]) pl_argumentOk (fun h => nomatch h) rfl rfl ?_
  unfold f_argumentOk at hr
  refine Ev.iloadN (d4 0 rfl) rfl ?_
  refine Ev.iconst (z := 2) (d4 1 rfl) rfl ?_
  refine Ev.icne (t := 21) (d4 2 rfl) rfl (fun c1 => ?_) (fun c1 => ?_)
  · replace hr := own_ip c1 hr
    refine Ev.iloadN (d4 3 rfl) rfl ?_
    refine Ev.iflt (t := 19) (d4 4 rfl) rfl (fun c2 => ?_) (fun c2 => ?_)
    · replace hr := own_ip c2 hr
      refine Ev.iconst (z := 0) (d4 10 rfl) rfl ?_
      cases hr
      exact Ev.zret0 rfl (d4 11 rfl)
    · replace hr := own_iq c2 hr
      refine Ev.iloadN (d4 5 rfl) rfl ?_
      refine Ev.bipush (z := 8) (d4 6 rfl) rfl ?_
      refine Ev.icge (t := 19) (d4 7 rfl) rfl (fun c3 => ?_) (fun c3 => ?_)
      · replace hr := own_ip c3 hr
        refine Ev.iconst (z := 1) (d4 8 rfl) rfl ?_
        refine Ev.goto (t := 20) (d4 9 rfl) rfl ?_
        cases hr
        exact Ev.zret1 rfl (d4 11 rfl)
      · replace hr := own_iq c3 hr
        refine Ev.iconst (z := 0) (d4 10 rfl) rfl ?_
        cases hr
        exact Ev.zret0 rfl (d4 11 rfl)
  · replace hr := own_iq c1 hr
    refine Ev.iloadN (d4 12 rfl) rfl ?_
    refine Ev.bipush (z := 13) (d4 13 rfl) rfl ?_
    refine Ev.icne (t := 43) (d4 14 rfl) rfl (fun c4 => ?_) (fun c4 => ?_)
    · replace hr := own_ip c4 hr
      refine Ev.iloadN (d4 15 rfl) rfl ?_
      refine Ev.iflt (t := 41) (d4 16 rfl) rfl (fun c5 => ?_) (fun c5 => ?_)
      · replace hr := own_ip c5 hr
        refine Ev.iconst (z := 0) (d4 22 rfl) rfl ?_
        cases hr
        exact Ev.zret0 rfl (d4 23 rfl)
      · replace hr := own_iq c5 hr
        refine Ev.iloadN (d4 17 rfl) rfl ?_
        refine Ev.bipush (z := 7) (d4 18 rfl) rfl ?_
        refine Ev.icgt (t := 41) (d4 19 rfl) rfl (fun c6 => ?_) (fun c6 => ?_)
        · replace hr := own_ip c6 hr
          refine Ev.iconst (z := 0) (d4 22 rfl) rfl ?_
          cases hr
          exact Ev.zret0 rfl (d4 23 rfl)
        · replace hr := own_iq c6 hr
          refine Ev.iconst (z := 1) (d4 20 rfl) rfl ?_
          refine Ev.goto (t := 42) (d4 21 rfl) rfl ?_
          cases hr
          exact Ev.zret1 rfl (d4 23 rfl)
    · replace hr := own_iq c4 hr
      refine Ev.iloadN (d4 24 rfl) rfl ?_
      refine Ev.iconst (z := 3) (d4 25 rfl) rfl ?_
      refine Ev.iceq (t := 54) (d4 26 rfl) rfl (fun c7 => ?_) (fun c7 => ?_)
      · replace hr := own_ip c7 hr
        exact e_argumentOk_54 hw V  a1 (.val (.ref o)) rfl (.val (.int a0)) rfl _ hr
      · replace hr := own_iq c7 hr
        refine Ev.iloadN (d4 27 rfl) rfl ?_
        refine Ev.bipush (z := 11) (d4 28 rfl) rfl ?_
        refine Ev.icne (t := 69) (d4 29 rfl) rfl (fun c8 => ?_) (fun c8 => ?_)
        · replace hr := own_ip c8 hr
          exact e_argumentOk_54 hw V  a1 (.val (.ref o)) rfl (.val (.int a0)) rfl _ hr
        · replace hr := own_iq c8 hr
          refine Ev.iconst (z := 1) (d4 39 rfl) rfl ?_
          cases hr
          exact Ev.zret1 rfl (d4 40 rfl)
def f_isOpen_2 (n : Nat) (s : St) : Nat → Int32 → Int32 → Option (Int32)
  | 0 => fun _ _ => none
  | k + 1 => fun x1 x2 =>
    if x2 < (s.1 36) then
      if x2 < (3 : Int32) then
        grd (inb x2 3) <|
        if (s.2 5 (ix x2)) = x1 then
          some (1 : Int32)
        else
          f_isOpen_2 n s k x1 (x2 + (1 : Int32))
      else
        some (0 : Int32)
    else
      some (0 : Int32)
set_option maxRecDepth 100000 in
theorem e_isOpen_2 {g : GT} {n : Nat} {s : St} (hw : HW g) {K : St → MHeap} {o : Nat} {r : Nat → Nat} (V : View (GG g) Ln K o r) (k : Nat) : ∀ (x1 x2 w : Int32), f_isOpen_2 n s k x1 x2 = some w → Ev (GG g) M_isOpen 2 [.val (.ref o), .val (.int x1), .val (.int x2)] [] (K s) ((some (.int w)), (K s)) := by
  induction k with
  | zero => intro x1 x2 w hr; rw [f_isOpen_2] at hr; cases hr
  | succ k ih =>
    intro x1 x2 w hr
    rw [f_isOpen_2] at hr
    refine Ev.iloadN (d10 2 rfl) rfl ?_
    refine Ev.aloadN (d10 3 rfl) rfl ?_
    refine Ev.gI V (ww hw 113 rfl) (d10 4 rfl) (j := 36) rfl rfl ?_
    refine Ev.icge (t := 33) (d10 5 rfl) rfl (fun c1 => ?_) (fun c1 => ?_)
    · replace hr := own_ip c1 hr
      refine Ev.iloadN (d10 6 rfl) rfl ?_
      refine Ev.iconst (z := 3) (d10 7 rfl) rfl ?_
      refine Ev.icge (t := 33) (d10 8 rfl) rfl (fun c2 => ?_) (fun c2 => ?_)
      · replace hr := own_ip c2 hr
        refine Ev.aloadN (d10 9 rfl) rfl ?_
        refine Ev.gAr V (ww hw 20 rfl) (d10 10 rfl) (j := 5) rfl ?_
        refine Ev.iloadN (d10 11 rfl) rfl ?_
        obtain ⟨b3, hr⟩ := grd_some hr
        refine Ev.ial V (j := 5) rfl rfl (d10 12 rfl) b3 ?_
        refine Ev.iloadN (d10 13 rfl) rfl ?_
        refine Ev.icne (t := 27) (d10 14 rfl) rfl (fun c4 => ?_) (fun c4 => ?_)
        · replace hr := own_ip c4 hr
          refine Ev.iconst (z := 1) (d10 15 rfl) rfl ?_
          cases hr
          exact Ev.zret1 rfl (d10 16 rfl)
        · replace hr := own_iq c4 hr
          refine Ev.iinc (z := 1) (L' := [.val (.ref o), .val (.int x1), .val (.int (x2 + (1 : Int32)))]) (d10 17 rfl) rfl rfl rfl ?_
          refine Ev.goto (t := 2) (d10 18 rfl) rfl ?_
          exact ih x1 (x2 + (1 : Int32))  _ hr
      · replace hr := own_iq c2 hr
        refine Ev.iconst (z := 0) (d10 19 rfl) rfl ?_
        cases hr
        exact Ev.zret0 rfl (d10 20 rfl)
    · replace hr := own_iq c1 hr
      refine Ev.iconst (z := 0) (d10 19 rfl) rfl ?_
      cases hr
      exact Ev.zret0 rfl (d10 20 rfl)
def f_isOpen (n : Nat) (s : St) (a0 : Int32) : Option (Int32) :=
  f_isOpen_2 n s n a0 (0 : Int32)
set_option maxRecDepth 100000 in
theorem e_isOpen {g : GT} {n : Nat} {s : St} {a0 : Int32} {w : Int32} (hw : HW g) {K : St → MHeap} {o : Nat} {r : Nat → Nat} (V : View (GG g) Ln K o r) (hr : f_isOpen n s a0 = some w) : EvC (GG g) M_isOpen [.ref o, .int a0] (K s) ((some (.int w)), (K s)) := by
  refine EvC.enter (L0 := [.val (.ref o), .val (.int a0), .unset]) pl_isOpen (fun h => nomatch h) rfl rfl ?_
  unfold f_isOpen at hr
  refine Ev.iconst (z := 0) (d10 0 rfl) rfl ?_
  refine Ev.istDN (L' := [.val (.ref o), .val (.int a0), .val (.int (0 : Int32))]) (d10 1 rfl) rfl rfl rfl ?_
  exact e_isOpen_2 hw V  n a0 (0 : Int32)  _ hr
def f_visible (n : Nat) (s : St) (a0 : Int32) : Option (Int32) :=
  if a0 < 0 then
    some (0 : Int32)
  else
    if a0 < (s.1 35) then
      if a0 < (32 : Int32) then
        grd (inb a0 32) <|
        if (s.2 0 (ix a0)) < (1 : Int32) then
          some (0 : Int32)
        else
          if (10 : Int32) < (s.2 0 (ix a0)) then
            some (0 : Int32)
          else
            if (s.2 3 (ix a0)) < 0 then
              some (1 : Int32)
            else
              (f_isOpen n s (s.2 3 (ix a0))).bind fun q8 =>
              some (q8 &&& 1)
      else
        some (0 : Int32)
    else
      some (0 : Int32)
set_option maxRecDepth 100000 in
theorem e_visible {g : GT} {n : Nat} {s : St} {a0 : Int32} {w : Int32} (hw : HW g) {K : St → MHeap} {o : Nat} {r : Nat → Nat} (V : View (GG g) Ln K o r) (hr : f_visible n s a0 = some w) : EvC (GG g) M_visible [.ref o, .int a0] (K s) ((some (.int w)), (K s)) := by
  refine EvC.enter (L0 := [.val (.ref o), .val (.int a0), .unset, .unset]) pl_visible (fun h => nomatch h) rfl rfl ?_
  unfold f_visible at hr
  refine Ev.iloadN (d9 0 rfl) rfl ?_
  refine Ev.iflt (t := 18) (d9 1 rfl) rfl (fun c1 => ?_) (fun c1 => ?_)
  · replace hr := own_ip c1 hr
    refine Ev.iconst (z := 0) (d9 9 rfl) rfl ?_
    cases hr
    exact Ev.zret0 rfl (d9 10 rfl)
  · replace hr := own_iq c1 hr
    refine Ev.iloadN (d9 2 rfl) rfl ?_
    refine Ev.aloadN (d9 3 rfl) rfl ?_
    refine Ev.gI V (ww hw 91 rfl) (d9 4 rfl) (j := 35) rfl rfl ?_
    refine Ev.icge (t := 18) (d9 5 rfl) rfl (fun c2 => ?_) (fun c2 => ?_)
    · replace hr := own_ip c2 hr
      refine Ev.iloadN (d9 6 rfl) rfl ?_
      refine Ev.bipush (z := 32) (d9 7 rfl) rfl ?_
      refine Ev.iclt (t := 20) (d9 8 rfl) rfl (fun c3 => ?_) (fun c3 => ?_)
      · replace hr := own_ip c3 hr
        refine Ev.aloadN (d9 11 rfl) rfl ?_
        refine Ev.gAr V (ww hw 10 rfl) (d9 12 rfl) (j := 0) rfl ?_
        refine Ev.iloadN (d9 13 rfl) rfl ?_
        obtain ⟨b4, hr⟩ := grd_some hr
        refine Ev.ial V (j := 0) rfl rfl (d9 14 rfl) b4 ?_
        refine Ev.istDN (L' := [.val (.ref o), .val (.int a0), .val (.int (s.2 0 (ix a0))), .unset]) (d9 15 rfl) rfl rfl rfl ?_
        refine Ev.iloadN (d9 16 rfl) rfl ?_
        refine Ev.iconst (z := 1) (d9 17 rfl) rfl ?_
        refine Ev.iclt (t := 38) (d9 18 rfl) rfl (fun c5 => ?_) (fun c5 => ?_)
        · replace hr := own_ip c5 hr
          refine Ev.iconst (z := 0) (d9 22 rfl) rfl ?_
          cases hr
          exact Ev.zret0 rfl (d9 23 rfl)
        · replace hr := own_iq c5 hr
          refine Ev.iloadN (d9 19 rfl) rfl ?_
          refine Ev.bipush (z := 10) (d9 20 rfl) rfl ?_
          refine Ev.icle (t := 40) (d9 21 rfl) rfl (fun c6 => ?_) (fun c6 => ?_)
          · replace hr := own_ip c6 hr
            refine Ev.iconst (z := 0) (d9 22 rfl) rfl ?_
            cases hr
            exact Ev.zret0 rfl (d9 23 rfl)
          · replace hr := own_iq c6 hr
            refine Ev.aloadN (d9 24 rfl) rfl ?_
            refine Ev.gAr V (ww hw 16 rfl) (d9 25 rfl) (j := 3) rfl ?_
            refine Ev.iloadN (d9 26 rfl) rfl ?_
            refine Ev.ial V (j := 3) rfl rfl (d9 27 rfl) b4 ?_
            refine Ev.istDN (L' := [.val (.ref o), .val (.int a0), .val (.int (s.2 0 (ix a0))), .val (.int (s.2 3 (ix a0)))]) (d9 28 rfl) rfl rfl rfl ?_
            refine Ev.iloadN (d9 29 rfl) rfl ?_
            refine Ev.ifge (t := 53) (d9 30 rfl) rfl (fun c7 => ?_) (fun c7 => ?_)
            · replace hr := own_ip c7 hr
              refine Ev.iconst (z := 1) (d9 31 rfl) rfl ?_
              cases hr
              exact Ev.zret1 rfl (d9 32 rfl)
            · replace hr := own_iq c7 hr
              refine Ev.aloadN (d9 33 rfl) rfl ?_
              refine Ev.iloadN (d9 34 rfl) rfl ?_
              obtain ⟨q8, hq9, hr⟩ := Option.bind_eq_some_iff.mp hr
              refine Ev.priv (y := M_isOpen) (args := [.int (s.2 3 (ix a0))]) (rest := []) (gok hw) rfl nm_isOpen (ww hw 121 rfl) (ww hw 122 rfl) (ww hw 123 rfl) (ww hw 124 rfl) (lenOf pd_isOpen rfl) (d9 35 rfl) (V.2.1 s) (e_isOpen hw V hq9) (by decide) (Nat.le_of_ble_eq_true rfl) rfl ?_
              cases hr
              exact Ev.zreturn rfl (d9 36 rfl)
      · replace hr := own_iq c3 hr
        refine Ev.iconst (z := 0) (d9 9 rfl) rfl ?_
        cases hr
        exact Ev.zret0 rfl (d9 10 rfl)
    · replace hr := own_iq c2 hr
      refine Ev.iconst (z := 0) (d9 9 rfl) rfl ?_
      cases hr
      exact Ev.zret0 rfl (d9 10 rfl)
def f_operandsOk_39 (n : Nat) (s : St) (x2 : Int32) : Option (Int32) :=
  (f_visible n s x2).bind fun q1 =>
  some (q1 &&& 1)
set_option maxRecDepth 100000 in
theorem e_operandsOk_39 {g : GT} {n : Nat} {s : St} (hw : HW g) {K : St → MHeap} {o : Nat} {r : Nat → Nat} (V : View (GG g) Ln K o r) (x2 : Int32) (y1 : Slot) (hy1 : one1 y1 = true) (y3 : Slot) (hy3 : one1 y3 = true) (w : Int32) (hr : f_operandsOk_39 n s x2 = some w) : Ev (GG g) M_operandsOk 39 [.val (.ref o), y1, .val (.int x2), y3] [] (K s) ((some (.int w)), (K s)) := by
  unfold f_operandsOk_39 at hr
  refine Ev.aloadN (d5 22 rfl) rfl ?_
  refine Ev.iloadN (d5 23 rfl) rfl ?_
  obtain ⟨q1, hq2, hr⟩ := Option.bind_eq_some_iff.mp hr
  refine Ev.priv (y := M_visible) (args := [.int x2]) (rest := []) (gok hw) rfl nm_visible (ww hw 117 rfl) (ww hw 118 rfl) (ww hw 119 rfl) (ww hw 120 rfl) (lenOf pd_visible rfl) (d5 24 rfl) (V.2.1 s) (e_visible hw V hq2) (by decide) (Nat.le_of_ble_eq_true rfl) rfl ?_
  cases hr
  exact Ev.zreturn rfl (d5 25 rfl)
def f_operandsOk_27 (n : Nat) (s : St) (x1 x2 x3 : Int32) : Option (Int32) :=
  if x1 = (10 : Int32) then
    f_operandsOk_39 n s x2
  else
    if x1 = (12 : Int32) then
      f_operandsOk_39 n s x2
    else
      if x1 = (11 : Int32) then
        (f_visible n s x3).bind fun q4 =>
        some (q4 &&& 1)
      else
        some (1 : Int32)
set_option maxRecDepth 100000 in
theorem e_operandsOk_27 {g : GT} {n : Nat} {s : St} (hw : HW g) {K : St → MHeap} {o : Nat} {r : Nat → Nat} (V : View (GG g) Ln K o r) (x1 x2 x3 w : Int32) (hr : f_operandsOk_27 n s x1 x2 x3 = some w) : Ev (GG g) M_operandsOk 27 [.val (.ref o), .val (.int x1), .val (.int x2), .val (.int x3)] [] (K s) ((some (.int w)), (K s)) := by
  unfold f_operandsOk_27 at hr
  refine Ev.iloadN (d5 16 rfl) rfl ?_
  refine Ev.bipush (z := 10) (d5 17 rfl) rfl ?_
  refine Ev.iceq (t := 39) (d5 18 rfl) rfl (fun c1 => ?_) (fun c1 => ?_)
  · replace hr := own_ip c1 hr
    exact e_operandsOk_39 hw V  x2 (.val (.int x1)) rfl (.val (.int x3)) rfl _ hr
  · replace hr := own_iq c1 hr
    refine Ev.iloadN (d5 19 rfl) rfl ?_
    refine Ev.bipush (z := 12) (d5 20 rfl) rfl ?_
    refine Ev.icne (t := 45) (d5 21 rfl) rfl (fun c2 => ?_) (fun c2 => ?_)
    · replace hr := own_ip c2 hr
      exact e_operandsOk_39 hw V  x2 (.val (.int x1)) rfl (.val (.int x3)) rfl _ hr
    · replace hr := own_iq c2 hr
      refine Ev.iloadN (d5 26 rfl) rfl ?_
      refine Ev.bipush (z := 11) (d5 27 rfl) rfl ?_
      refine Ev.icne (t := 57) (d5 28 rfl) rfl (fun c3 => ?_) (fun c3 => ?_)
      · replace hr := own_ip c3 hr
        refine Ev.aloadN (d5 29 rfl) rfl ?_
        refine Ev.iloadN (d5 30 rfl) rfl ?_
        obtain ⟨q4, hq5, hr⟩ := Option.bind_eq_some_iff.mp hr
        refine Ev.priv (y := M_visible) (args := [.int x3]) (rest := []) (gok hw) rfl nm_visible (ww hw 117 rfl) (ww hw 118 rfl) (ww hw 119 rfl) (ww hw 120 rfl) (lenOf pd_visible rfl) (d5 31 rfl) (V.2.1 s) (e_visible hw V hq5) (by decide) (Nat.le_of_ble_eq_true rfl) rfl ?_
        cases hr
        exact Ev.zreturn rfl (d5 32 rfl)
      · replace hr := own_iq c3 hr
        refine Ev.iconst (z := 1) (d5 33 rfl) rfl ?_
        cases hr
        exact Ev.zret1 rfl (d5 34 rfl)
def f_operandsOk (n : Nat) (s : St) (a0 a1 a2 : Int32) : Option (Int32) :=
  if a0 < (4 : Int32) then
    f_operandsOk_27 n s a0 a1 a2
  else
    if (9 : Int32) < a0 then
      f_operandsOk_27 n s a0 a1 a2
    else
      (f_visible n s a1).bind fun q3 =>
      if q3 = 0 then
        some (0 : Int32)
      else
        (f_visible n s a2).bind fun q6 =>
        some (q6 &&& 1)
set_option maxRecDepth 100000 in
theorem e_operandsOk {g : GT} {n : Nat} {s : St} {a0 : Int32} {a1 : Int32} {a2 : Int32} {w : Int32} (hw : HW g) {K : St → MHeap} {o : Nat} {r : Nat → Nat} (V : View (GG g) Ln K o r) (hr : f_operandsOk n s a0 a1 a2 = some w) : EvC (GG g) M_operandsOk [.ref o, .int a0, .int a1, .int a2] (K s) ((some (.int w)), (K s)) := by
  refine EvC.enter (L0 := [.val (.ref o), .val (.int a0), .val (.int a1), .val (.int a2)]) pl_operandsOk (fun h => nomatch h) rfl rfl ?_
  unfold f_operandsOk at hr
  refine Ev.iloadN (d5 0 rfl) rfl ?_
  refine Ev.iconst (z := 4) (d5 1 rfl) rfl ?_
  refine Ev.iclt (t := 27) (d5 2 rfl) rfl (fun c1 => ?_) (fun c1 => ?_)
  · replace hr := own_ip c1 hr
    exact e_operandsOk_27 hw V  a0 a1 a2  _ hr
  · replace hr := own_iq c1 hr
    refine Ev.iloadN (d5 3 rfl) rfl ?_
    refine Ev.bipush (z := 9) (d5 4 rfl) rfl ?_
    refine Ev.icgt (t := 27) (d5 5 rfl) rfl (fun c2 => ?_) (fun c2 => ?_)
    · replace hr := own_ip c2 hr
      exact e_operandsOk_27 hw V  a0 a1 a2  _ hr
    · replace hr := own_iq c2 hr
      refine Ev.aloadN (d5 6 rfl) rfl ?_
      refine Ev.iloadN (d5 7 rfl) rfl ?_
      obtain ⟨q3, hq4, hr⟩ := Option.bind_eq_some_iff.mp hr
      refine Ev.priv (y := M_visible) (args := [.int a1]) (rest := []) (gok hw) rfl nm_visible (ww hw 117 rfl) (ww hw 118 rfl) (ww hw 119 rfl) (ww hw 120 rfl) (lenOf pd_visible rfl) (d5 8 rfl) (V.2.1 s) (e_visible hw V hq4) (by decide) (Nat.le_of_ble_eq_true rfl) rfl ?_
      refine Ev.ifne (t := 21) (d5 9 rfl) rfl (fun c5 => ?_) (fun c5 => ?_)
      · replace hr := own_ip c5 hr
        refine Ev.iconst (z := 0) (d5 10 rfl) rfl ?_
        cases hr
        exact Ev.zret0 rfl (d5 11 rfl)
      · replace hr := own_iq c5 hr
        refine Ev.aloadN (d5 12 rfl) rfl ?_
        refine Ev.iloadN (d5 13 rfl) rfl ?_
        obtain ⟨q6, hq7, hr⟩ := Option.bind_eq_some_iff.mp hr
        refine Ev.priv (y := M_visible) (args := [.int a2]) (rest := []) (gok hw) rfl nm_visible (ww hw 117 rfl) (ww hw 118 rfl) (ww hw 119 rfl) (ww hw 120 rfl) (lenOf pd_visible rfl) (d5 14 rfl) (V.2.1 s) (e_visible hw V hq7) (by decide) (Nat.le_of_ble_eq_true rfl) rfl ?_
        cases hr
        exact Ev.zreturn rfl (d5 15 rfl)
def f_usesX (s : St) (a0 : Int32) : Option (Int32) :=
  if a0 = (14 : Int32) then
    some (0 : Int32)
  else
    some (1 : Int32)
set_option maxRecDepth 100000 in
theorem e_usesX {g : GT} {s : St} {a0 : Int32} {w : Int32} (hw : HW g) {K : St → MHeap} {o : Nat} {r : Nat → Nat} (V : View (GG g) Ln K o r) (hr : f_usesX s a0 = some w) : EvC (GG g) M_usesX [.ref o, .int a0] (K s) ((some (.int w)), (K s)) := by
  refine EvC.enter (L0 := [.val (.ref o), .val (.int a0)]) pl_usesX (fun h => nomatch h) rfl rfl ?_
  unfold f_usesX at hr
  refine Ev.iloadN (d7 0 rfl) rfl ?_
  refine Ev.bipush (z := 14) (d7 1 rfl) rfl ?_
  refine Ev.iceq (t := 10) (d7 2 rfl) rfl (fun c1 => ?_) (fun c1 => ?_)
  · replace hr := own_ip c1 hr
    refine Ev.iconst (z := 0) (d7 5 rfl) rfl ?_
    cases hr
    exact Ev.zret0 rfl (d7 6 rfl)
  · replace hr := own_iq c1 hr
    refine Ev.iconst (z := 1) (d7 3 rfl) rfl ?_
    refine Ev.goto (t := 11) (d7 4 rfl) rfl ?_
    cases hr
    exact Ev.zret1 rfl (d7 6 rfl)
def f_usesY_13 (s : St) (x1 : Int32) : Option (Int32) :=
  if x1 = (11 : Int32) then
    some (1 : Int32)
  else
    some (0 : Int32)
set_option maxRecDepth 100000 in
theorem e_usesY_13 {g : GT} {s : St} (hw : HW g) {K : St → MHeap} {o : Nat} {r : Nat → Nat} (V : View (GG g) Ln K o r) (x1 : Int32) (y0 : Slot) (hy0 : one1 y0 = true) (w : Int32) (hr : f_usesY_13 s x1 = some w) : Ev (GG g) M_usesY 13 [y0, .val (.int x1)] [] (K s) ((some (.int w)), (K s)) := by
  unfold f_usesY_13 at hr
  refine Ev.iloadN (d8 8 rfl) rfl ?_
  refine Ev.bipush (z := 11) (d8 9 rfl) rfl ?_
  refine Ev.icne (t := 23) (d8 10 rfl) rfl (fun c1 => ?_) (fun c1 => ?_)
  · replace hr := own_ip c1 hr
    refine Ev.iconst (z := 1) (d8 11 rfl) rfl ?_
    refine Ev.goto (t := 24) (d8 12 rfl) rfl ?_
    cases hr
    exact Ev.zret1 rfl (d8 14 rfl)
  · replace hr := own_iq c1 hr
    refine Ev.iconst (z := 0) (d8 13 rfl) rfl ?_
    cases hr
    exact Ev.zret0 rfl (d8 14 rfl)
def f_usesY (s : St) (a0 : Int32) : Option (Int32) :=
  if a0 < (4 : Int32) then
    f_usesY_13 s a0
  else
    if (9 : Int32) < a0 then
      f_usesY_13 s a0
    else
      some (1 : Int32)
set_option maxRecDepth 100000 in
theorem e_usesY {g : GT} {s : St} {a0 : Int32} {w : Int32} (hw : HW g) {K : St → MHeap} {o : Nat} {r : Nat → Nat} (V : View (GG g) Ln K o r) (hr : f_usesY s a0 = some w) : EvC (GG g) M_usesY [.ref o, .int a0] (K s) ((some (.int w)), (K s)) := by
  refine EvC.enter (L0 := [.val (.ref o), .val (.int a0)]) pl_usesY (fun h => nomatch h) rfl rfl ?_
  unfold f_usesY at hr
  refine Ev.iloadN (d8 0 rfl) rfl ?_
  refine Ev.iconst (z := 4) (d8 1 rfl) rfl ?_
  refine Ev.iclt (t := 13) (d8 2 rfl) rfl (fun c1 => ?_) (fun c1 => ?_)
  · replace hr := own_ip c1 hr
    exact e_usesY_13 hw V  a0 (.val (.ref o)) rfl _ hr
  · replace hr := own_iq c1 hr
    refine Ev.iloadN (d8 3 rfl) rfl ?_
    refine Ev.bipush (z := 9) (d8 4 rfl) rfl ?_
    refine Ev.icgt (t := 13) (d8 5 rfl) rfl (fun c2 => ?_) (fun c2 => ?_)
    · replace hr := own_ip c2 hr
      exact e_usesY_13 hw V  a0 (.val (.ref o)) rfl _ hr
    · replace hr := own_iq c2 hr
      refine Ev.iconst (z := 1) (d8 6 rfl) rfl ?_
      cases hr
      exact Ev.zret1 rfl (d8 7 rfl)
def f_store_234 (x4 : Int32) (s : St) : Option (Int32 × St) :=
  bnd (setI s 35 ((s.1 35) + (1 : Int32))) fun s1 =>
  bnd (setI s1 37 ((0 : Int32) &&& 1)) fun s2 =>
  some (x4, s2)
set_option maxRecDepth 100000 in
theorem e_store_234 {g : GT} (hw : HW g) {K : St → MHeap} {o : Nat} {r : Nat → Nat} (V : View (GG g) Ln K o r) (x4 : Int32) (s : St) (y1 : Slot) (hy1 : one1 y1 = true) (y2 : Slot) (hy2 : one1 y2 = true) (y3 : Slot) (hy3 : one1 y3 = true) (y5 : Slot) (hy5 : one1 y5 = true) (w : Int32 × St) (hr : f_store_234 x4 s = some w) : Ev (GG g) M_store 234 [.val (.ref o), y1, y2, y3, .val (.int x4), y5] [] (K s) ((some (.int w.1)), (K w.2)) := by
  unfold f_store_234 at hr
  refine Ev.aloadN (d6 125 rfl) rfl ?_
  refine Ev.dup (d6 126 rfl) rfl ?_
  refine Ev.gI V (ww hw 91 rfl) (d6 127 rfl) (j := 35) rfl rfl ?_
  refine Ev.iconst (z := 1) (d6 128 rfl) rfl ?_
  refine Ev.iadd (d6 129 rfl) ?_
  refine Ev.pI V (gok hw) (ww hw 91 rfl) (Or.inl (ww hw 92 rfl)) (d6 130 rfl) (j := 35) rfl ?_
  revert hr
  generalize setI s 35 ((s.1 35) + (1 : Int32)) = s1
  intro hr
  replace hr := (bnd_eq _ _).symm.trans hr
  refine Ev.aloadN (d6 131 rfl) rfl ?_
  refine Ev.iconst (z := 0) (d6 132 rfl) rfl ?_
  refine Ev.pZ V (gok hw) (ww hw 115 rfl) (Or.inl (ww hw 116 rfl)) (d6 133 rfl) (j := 37) rfl ?_
  revert hr
  generalize setI s1 37 ((0 : Int32) &&& 1) = s2
  intro hr
  replace hr := (bnd_eq _ _).symm.trans hr
  refine Ev.iload (d6 134 rfl) rfl ?_
  cases hr
  exact Ev.ireturn rfl (d6 135 rfl)
def f_store_162 (x1 x4 : Int32) (s : St) : Option (Int32 × St) :=
  if x1 = (14 : Int32) then
    if 0 < (s.1 36) then
      if (3 : Int32) < (s.1 36) then
        f_store_234 x4 s
      else
        bnd (setI s 36 ((s.1 36) - (1 : Int32))) fun s4 =>
        grd (inb (s4.1 36) 3) <|
        grd (inb x4 32) <|
        bnd (setA s4 4 (ix x4) (s4.2 5 (ix (s4.1 36)))) fun s7 =>
        if (s4.2 5 (ix (s4.1 36))) < 0 then
          f_store_234 x4 s7
        else
          if (s4.2 5 (ix (s4.1 36))) < (32 : Int32) then
            grd (inb (s4.2 5 (ix (s4.1 36))) 32) <|
            bnd (setA s7 4 (ix (s4.2 5 (ix (s4.1 36)))) x4) fun s11 =>
            f_store_234 x4 s11
          else
            f_store_234 x4 s7
    else
      f_store_234 x4 s
  else
    f_store_234 x4 s
set_option maxRecDepth 100000 in
theorem e_store_162 {g : GT} (hw : HW g) {K : St → MHeap} {o : Nat} {r : Nat → Nat} (V : View (GG g) Ln K o r) (x1 x4 : Int32) (s : St) (y2 : Slot) (hy2 : one1 y2 = true) (y3 : Slot) (hy3 : one1 y3 = true) (y5 : Slot) (hy5 : one1 y5 = true) (w : Int32 × St) (hr : f_store_162 x1 x4 s = some w) : Ev (GG g) M_store 162 [.val (.ref o), .val (.int x1), y2, y3, .val (.int x4), y5] [] (K s) ((some (.int w.1)), (K w.2)) := by
  unfold f_store_162 at hr
  refine Ev.iloadN (d6 88 rfl) rfl ?_
  refine Ev.bipush (z := 14) (d6 89 rfl) rfl ?_
  refine Ev.icne (t := 234) (d6 90 rfl) rfl (fun c1 => ?_) (fun c1 => ?_)
  · replace hr := own_ip c1 hr
    refine Ev.aloadN (d6 91 rfl) rfl ?_
    refine Ev.gI V (ww hw 113 rfl) (d6 92 rfl) (j := 36) rfl rfl ?_
    refine Ev.ifle (t := 234) (d6 93 rfl) rfl (fun c2 => ?_) (fun c2 => ?_)
    · replace hr := own_ip c2 hr
      refine Ev.aloadN (d6 94 rfl) rfl ?_
      refine Ev.gI V (ww hw 113 rfl) (d6 95 rfl) (j := 36) rfl rfl ?_
      refine Ev.iconst (z := 3) (d6 96 rfl) rfl ?_
      refine Ev.icgt (t := 234) (d6 97 rfl) rfl (fun c3 => ?_) (fun c3 => ?_)
      · replace hr := own_ip c3 hr
        exact e_store_234 hw V  x4 s (.val (.int x1)) rfl y2 hy2 y3 hy3 y5 hy5 _ hr
      · replace hr := own_iq c3 hr
        refine Ev.aloadN (d6 98 rfl) rfl ?_
        refine Ev.dup (d6 99 rfl) rfl ?_
        refine Ev.gI V (ww hw 113 rfl) (d6 100 rfl) (j := 36) rfl rfl ?_
        refine Ev.iconst (z := 1) (d6 101 rfl) rfl ?_
        refine Ev.isub (d6 102 rfl) ?_
        refine Ev.pI V (gok hw) (ww hw 113 rfl) (Or.inl (ww hw 114 rfl)) (d6 103 rfl) (j := 36) rfl ?_
        revert hr
        generalize setI s 36 ((s.1 36) - (1 : Int32)) = s4
        intro hr
        replace hr := (bnd_eq _ _).symm.trans hr
        refine Ev.aloadN (d6 104 rfl) rfl ?_
        refine Ev.gAr V (ww hw 20 rfl) (d6 105 rfl) (j := 5) rfl ?_
        refine Ev.aloadN (d6 106 rfl) rfl ?_
        refine Ev.gI V (ww hw 113 rfl) (d6 107 rfl) (j := 36) rfl rfl ?_
        obtain ⟨b5, hr⟩ := grd_some hr
        refine Ev.ial V (j := 5) rfl rfl (d6 108 rfl) b5 ?_
        refine Ev.istD (L' := [.val (.ref o), .val (.int x1), y2, y3, .val (.int x4), .val (.int (s4.2 5 (ix (s4.1 36))))]) (d6 109 rfl) rfl hy5 rfl ?_
        refine Ev.aloadN (d6 110 rfl) rfl ?_
        refine Ev.gAr V (ww hw 18 rfl) (d6 111 rfl) (j := 4) rfl ?_
        refine Ev.iload (d6 112 rfl) rfl ?_
        refine Ev.iload (d6 113 rfl) rfl ?_
        obtain ⟨b6, hr⟩ := grd_some hr
        refine Ev.ias V (j := 4) rfl rfl (d6 114 rfl) b6 ?_
        revert hr
        generalize setA s4 4 (ix x4) (s4.2 5 (ix (s4.1 36))) = s7
        intro hr
        replace hr := (bnd_eq _ _).symm.trans hr
        refine Ev.iload (d6 115 rfl) rfl ?_
        refine Ev.iflt (t := 234) (d6 116 rfl) rfl (fun c8 => ?_) (fun c8 => ?_)
        · replace hr := own_ip c8 hr
          exact e_store_234 hw V  x4 s7 (.val (.int x1)) rfl y2 hy2 y3 hy3 (.val (.int (s4.2 5 (ix (s4.1 36))))) rfl _ hr
        · replace hr := own_iq c8 hr
          refine Ev.iload (d6 117 rfl) rfl ?_
          refine Ev.bipush (z := 32) (d6 118 rfl) rfl ?_
          refine Ev.icge (t := 234) (d6 119 rfl) rfl (fun c9 => ?_) (fun c9 => ?_)
          · replace hr := own_ip c9 hr
            refine Ev.aloadN (d6 120 rfl) rfl ?_
            refine Ev.gAr V (ww hw 18 rfl) (d6 121 rfl) (j := 4) rfl ?_
            refine Ev.iload (d6 122 rfl) rfl ?_
            refine Ev.iload (d6 123 rfl) rfl ?_
            obtain ⟨b10, hr⟩ := grd_some hr
            refine Ev.ias V (j := 4) rfl rfl (d6 124 rfl) b10 ?_
            revert hr
            generalize setA s7 4 (ix (s4.2 5 (ix (s4.1 36)))) x4 = s11
            intro hr
            replace hr := (bnd_eq _ _).symm.trans hr
            exact e_store_234 hw V  x4 s11 (.val (.int x1)) rfl y2 hy2 y3 hy3 (.val (.int (s4.2 5 (ix (s4.1 36))))) rfl _ hr
          · replace hr := own_iq c9 hr
            exact e_store_234 hw V  x4 s7 (.val (.int x1)) rfl y2 hy2 y3 hy3 (.val (.int (s4.2 5 (ix (s4.1 36))))) rfl _ hr
    · replace hr := own_iq c2 hr
      exact e_store_234 hw V  x4 s (.val (.int x1)) rfl y2 hy2 y3 hy3 y5 hy5 _ hr
  · replace hr := own_iq c1 hr
    exact e_store_234 hw V  x4 s (.val (.int x1)) rfl y2 hy2 y3 hy3 y5 hy5 _ hr
def f_store_109 (x1 x4 : Int32) (s : St) : Option (Int32 × St) :=
  grd (inb x4 32) <|
  bnd (setA s 4 (ix x4) (-1 : Int32)) fun s2 =>
  if x1 = (13 : Int32) then
    if (s2.1 36) < 0 then
      f_store_162 x1 x4 s2
    else
      if (s2.1 36) < (3 : Int32) then
        grd (inb (s2.1 36) 3) <|
        bnd (setA s2 5 (ix (s2.1 36)) x4) fun s7 =>
        bnd (setI s7 36 ((s7.1 36) + (1 : Int32))) fun s8 =>
        f_store_234 x4 s8
      else
        f_store_162 x1 x4 s2
  else
    f_store_162 x1 x4 s2
set_option maxRecDepth 100000 in
theorem e_store_109 {g : GT} (hw : HW g) {K : St → MHeap} {o : Nat} {r : Nat → Nat} (V : View (GG g) Ln K o r) (x1 x4 : Int32) (s : St) (y2 : Slot) (hy2 : one1 y2 = true) (y3 : Slot) (hy3 : one1 y3 = true) (y5 : Slot) (hy5 : one1 y5 = true) (w : Int32 × St) (hr : f_store_109 x1 x4 s = some w) : Ev (GG g) M_store 109 [.val (.ref o), .val (.int x1), y2, y3, .val (.int x4), y5] [] (K s) ((some (.int w.1)), (K w.2)) := by
  unfold f_store_109 at hr
  refine Ev.aloadN (d6 60 rfl) rfl ?_
  refine Ev.gAr V (ww hw 18 rfl) (d6 61 rfl) (j := 4) rfl ?_
  refine Ev.iload (d6 62 rfl) rfl ?_
  refine Ev.iconst (z := -1) (d6 63 rfl) rfl ?_
  obtain ⟨b1, hr⟩ := grd_some hr
  refine Ev.ias V (j := 4) rfl rfl (d6 64 rfl) b1 ?_
  revert hr
  generalize setA s 4 (ix x4) (-1 : Int32) = s2
  intro hr
  replace hr := (bnd_eq _ _).symm.trans hr
  refine Ev.iloadN (d6 65 rfl) rfl ?_
  refine Ev.bipush (z := 13) (d6 66 rfl) rfl ?_
  refine Ev.icne (t := 162) (d6 67 rfl) rfl (fun c3 => ?_) (fun c3 => ?_)
  · replace hr := own_ip c3 hr
    refine Ev.aloadN (d6 68 rfl) rfl ?_
    refine Ev.gI V (ww hw 113 rfl) (d6 69 rfl) (j := 36) rfl rfl ?_
    refine Ev.iflt (t := 162) (d6 70 rfl) rfl (fun c4 => ?_) (fun c4 => ?_)
    · replace hr := own_ip c4 hr
      exact e_store_162 hw V  x1 x4 s2 y2 hy2 y3 hy3 y5 hy5 _ hr
    · replace hr := own_iq c4 hr
      refine Ev.aloadN (d6 71 rfl) rfl ?_
      refine Ev.gI V (ww hw 113 rfl) (d6 72 rfl) (j := 36) rfl rfl ?_
      refine Ev.iconst (z := 3) (d6 73 rfl) rfl ?_
      refine Ev.icge (t := 162) (d6 74 rfl) rfl (fun c5 => ?_) (fun c5 => ?_)
      · replace hr := own_ip c5 hr
        refine Ev.aloadN (d6 75 rfl) rfl ?_
        refine Ev.gAr V (ww hw 20 rfl) (d6 76 rfl) (j := 5) rfl ?_
        refine Ev.aloadN (d6 77 rfl) rfl ?_
        refine Ev.gI V (ww hw 113 rfl) (d6 78 rfl) (j := 36) rfl rfl ?_
        refine Ev.iload (d6 79 rfl) rfl ?_
        obtain ⟨b6, hr⟩ := grd_some hr
        refine Ev.ias V (j := 5) rfl rfl (d6 80 rfl) b6 ?_
        revert hr
        generalize setA s2 5 (ix (s2.1 36)) x4 = s7
        intro hr
        replace hr := (bnd_eq _ _).symm.trans hr
        refine Ev.aloadN (d6 81 rfl) rfl ?_
        refine Ev.dup (d6 82 rfl) rfl ?_
        refine Ev.gI V (ww hw 113 rfl) (d6 83 rfl) (j := 36) rfl rfl ?_
        refine Ev.iconst (z := 1) (d6 84 rfl) rfl ?_
        refine Ev.iadd (d6 85 rfl) ?_
        refine Ev.pI V (gok hw) (ww hw 113 rfl) (Or.inl (ww hw 114 rfl)) (d6 86 rfl) (j := 36) rfl ?_
        revert hr
        generalize setI s7 36 ((s7.1 36) + (1 : Int32)) = s8
        intro hr
        replace hr := (bnd_eq _ _).symm.trans hr
        refine Ev.goto (t := 234) (d6 87 rfl) rfl ?_
        exact e_store_234 hw V  x4 s8 (.val (.int x1)) rfl y2 hy2 y3 hy3 y5 hy5 _ hr
      · replace hr := own_iq c5 hr
        exact e_store_162 hw V  x1 x4 s2 y2 hy2 y3 hy3 y5 hy5 _ hr
  · replace hr := own_iq c3 hr
    exact e_store_162 hw V  x1 x4 s2 y2 hy2 y3 hy3 y5 hy5 _ hr
def f_store_67 (x1 x4 z0 z1 : Int32) (s : St) : Option (Int32 × St) :=
  grd (inb z1 32) <|
  bnd (setA s 2 (ix z1) z0) fun s2 =>
  grd (inb x4 32) <|
  bnd (setA s2 3 (ix x4) (-1 : Int32)) fun s4 =>
  if 0 < (s4.1 36) then
    if (3 : Int32) < (s4.1 36) then
      f_store_109 x1 x4 s4
    else
      grd (inb ((s4.1 36) - (1 : Int32)) 3) <|
      bnd (setA s4 3 (ix x4) (s4.2 5 (ix ((s4.1 36) - (1 : Int32))))) fun s8 =>
      f_store_109 x1 x4 s8
  else
    f_store_109 x1 x4 s4
set_option maxRecDepth 100000 in
theorem e_store_67 {g : GT} (hw : HW g) {K : St → MHeap} {o : Nat} {r : Nat → Nat} (V : View (GG g) Ln K o r) (x1 x4 z0 z1 : Int32) (s : St) (y2 : Slot) (hy2 : one1 y2 = true) (y3 : Slot) (hy3 : one1 y3 = true) (y5 : Slot) (hy5 : one1 y5 = true) (w : Int32 × St) (hr : f_store_67 x1 x4 z0 z1 s = some w) : Ev (GG g) M_store 67 [.val (.ref o), .val (.int x1), y2, y3, .val (.int x4), y5] [.int z0, .int z1, .ref (r 2)] (K s) ((some (.int w.1)), (K w.2)) := by
  unfold f_store_67 at hr
  obtain ⟨b1, hr⟩ := grd_some hr
  refine Ev.ias V (j := 2) rfl rfl (d6 36 rfl) b1 ?_
  revert hr
  generalize setA s 2 (ix z1) z0 = s2
  intro hr
  replace hr := (bnd_eq _ _).symm.trans hr
  refine Ev.aloadN (d6 37 rfl) rfl ?_
  refine Ev.gAr V (ww hw 16 rfl) (d6 38 rfl) (j := 3) rfl ?_
  refine Ev.iload (d6 39 rfl) rfl ?_
  refine Ev.iconst (z := -1) (d6 40 rfl) rfl ?_
  obtain ⟨b3, hr⟩ := grd_some hr
  refine Ev.ias V (j := 3) rfl rfl (d6 41 rfl) b3 ?_
  revert hr
  generalize setA s2 3 (ix x4) (-1 : Int32) = s4
  intro hr
  replace hr := (bnd_eq _ _).symm.trans hr
  refine Ev.aloadN (d6 42 rfl) rfl ?_
  refine Ev.gI V (ww hw 113 rfl) (d6 43 rfl) (j := 36) rfl rfl ?_
  refine Ev.ifle (t := 109) (d6 44 rfl) rfl (fun c5 => ?_) (fun c5 => ?_)
  · replace hr := own_ip c5 hr
    refine Ev.aloadN (d6 45 rfl) rfl ?_
    refine Ev.gI V (ww hw 113 rfl) (d6 46 rfl) (j := 36) rfl rfl ?_
    refine Ev.iconst (z := 3) (d6 47 rfl) rfl ?_
    refine Ev.icgt (t := 109) (d6 48 rfl) rfl (fun c6 => ?_) (fun c6 => ?_)
    · replace hr := own_ip c6 hr
      exact e_store_109 hw V  x1 x4 s4 y2 hy2 y3 hy3 y5 hy5 _ hr
    · replace hr := own_iq c6 hr
      refine Ev.aloadN (d6 49 rfl) rfl ?_
      refine Ev.gAr V (ww hw 16 rfl) (d6 50 rfl) (j := 3) rfl ?_
      refine Ev.iload (d6 51 rfl) rfl ?_
      refine Ev.aloadN (d6 52 rfl) rfl ?_
      refine Ev.gAr V (ww hw 20 rfl) (d6 53 rfl) (j := 5) rfl ?_
      refine Ev.aloadN (d6 54 rfl) rfl ?_
      refine Ev.gI V (ww hw 113 rfl) (d6 55 rfl) (j := 36) rfl rfl ?_
      refine Ev.iconst (z := 1) (d6 56 rfl) rfl ?_
      refine Ev.isub (d6 57 rfl) ?_
      obtain ⟨b7, hr⟩ := grd_some hr
      refine Ev.ial V (j := 5) rfl rfl (d6 58 rfl) b7 ?_
      refine Ev.ias V (j := 3) rfl rfl (d6 59 rfl) b3 ?_
      revert hr
      generalize setA s4 3 (ix x4) (s4.2 5 (ix ((s4.1 36) - (1 : Int32)))) = s8
      intro hr
      replace hr := (bnd_eq _ _).symm.trans hr
      exact e_store_109 hw V  x1 x4 s8 y2 hy2 y3 hy3 y5 hy5 _ hr
  · replace hr := own_iq c5 hr
    exact e_store_109 hw V  x1 x4 s4 y2 hy2 y3 hy3 y5 hy5 _ hr
def f_store_47 (x1 x3 x4 z0 z1 : Int32) (s : St) : Option (Int32 × St) :=
  grd (inb z1 32) <|
  bnd (setA s 1 (ix z1) z0) fun s2 =>
  (f_usesY s2 x1).bind fun q3 =>
  if q3 = 0 then
    f_store_67 x1 x4 (0 : Int32) x4 s2
  else
    f_store_67 x1 x4 x3 x4 s2
set_option maxRecDepth 100000 in
theorem e_store_47 {g : GT} (hw : HW g) {K : St → MHeap} {o : Nat} {r : Nat → Nat} (V : View (GG g) Ln K o r) (x1 x3 x4 z0 z1 : Int32) (s : St) (y2 : Slot) (hy2 : one1 y2 = true) (y5 : Slot) (hy5 : one1 y5 = true) (w : Int32 × St) (hr : f_store_47 x1 x3 x4 z0 z1 s = some w) : Ev (GG g) M_store 47 [.val (.ref o), .val (.int x1), y2, .val (.int x3), .val (.int x4), y5] [.int z0, .int z1, .ref (r 1)] (K s) ((some (.int w.1)), (K w.2)) := by
  unfold f_store_47 at hr
  obtain ⟨b1, hr⟩ := grd_some hr
  refine Ev.ias V (j := 1) rfl rfl (d6 25 rfl) b1 ?_
  revert hr
  generalize setA s 1 (ix z1) z0 = s2
  intro hr
  replace hr := (bnd_eq _ _).symm.trans hr
  refine Ev.aloadN (d6 26 rfl) rfl ?_
  refine Ev.gAr V (ww hw 14 rfl) (d6 27 rfl) (j := 2) rfl ?_
  refine Ev.iload (d6 28 rfl) rfl ?_
  refine Ev.aloadN (d6 29 rfl) rfl ?_
  refine Ev.iloadN (d6 30 rfl) rfl ?_
  obtain ⟨q3, hq4, hr⟩ := Option.bind_eq_some_iff.mp hr
  refine Ev.priv (y := M_usesY) (args := [.int x1]) (rest := [.int x4, .ref (r 2)]) (gok hw) rfl nm_usesY (ww hw 109 rfl) (ww hw 110 rfl) (ww hw 111 rfl) (ww hw 112 rfl) (lenOf pd_usesY rfl) (d6 31 rfl) (V.2.1 s2) (e_usesY hw V hq4) (by decide) (Nat.le_of_ble_eq_true rfl) rfl ?_
  refine Ev.ifeq (t := 66) (d6 32 rfl) rfl (fun c5 => ?_) (fun c5 => ?_)
  · replace hr := own_ip c5 hr
    refine Ev.iconst (z := 0) (d6 35 rfl) rfl ?_
    exact e_store_67 hw V  x1 x4 (0 : Int32) x4 s2 y2 hy2 (.val (.int x3)) rfl y5 hy5 _ hr
  · replace hr := own_iq c5 hr
    refine Ev.iloadN (d6 33 rfl) rfl ?_
    refine Ev.goto (t := 67) (d6 34 rfl) rfl ?_
    exact e_store_67 hw V  x1 x4 x3 x4 s2 y2 hy2 (.val (.int x3)) rfl y5 hy5 _ hr
def f_store (a0 a1 a2 : Int32) (s : St) : Option (Int32 × St) :=
  if (s.1 35) < 0 then
    some ((-1 : Int32), s)
  else
    if (s.1 35) < (32 : Int32) then
      grd (inb (s.1 35) 32) <|
      bnd (setA s 0 (ix (s.1 35)) a0) fun s4 =>
      (f_usesX s4 a0).bind fun q5 =>
      if q5 = 0 then
        f_store_47 a0 a2 (s.1 35) (0 : Int32) (s.1 35) s4
      else
        f_store_47 a0 a2 (s.1 35) a1 (s.1 35) s4
    else
      some ((-1 : Int32), s)
set_option maxRecDepth 100000 in
theorem e_store {g : GT} {a0 : Int32} {a1 : Int32} {a2 : Int32} {s : St} {w : Int32 × St} (hw : HW g) {K : St → MHeap} {o : Nat} {r : Nat → Nat} (V : View (GG g) Ln K o r) (hr : f_store a0 a1 a2 s = some w) : EvC (GG g) M_store [.ref o, .int a0, .int a1, .int a2] (K s) ((some (.int w.1)), (K w.2)) := by
  refine EvC.enter (L0 := [.val (.ref o), .val (.int a0), .val (.int a1), .val (.int a2), .unset, .unset]) pl_store (fun h => nomatch h) rfl rfl ?_
  unfold f_store at hr
  refine Ev.aloadN (d6 0 rfl) rfl ?_
  refine Ev.gI V (ww hw 91 rfl) (d6 1 rfl) (j := 35) rfl rfl ?_
  refine Ev.istD (L' := [.val (.ref o), .val (.int a0), .val (.int a1), .val (.int a2), .val (.int (s.1 35)), .unset]) (d6 2 rfl) rfl rfl rfl ?_
  refine Ev.iload (d6 3 rfl) rfl ?_
  refine Ev.iflt (t := 18) (d6 4 rfl) rfl (fun c1 => ?_) (fun c1 => ?_)
  · replace hr := own_ip c1 hr
    refine Ev.iconst (z := -1) (d6 8 rfl) rfl ?_
    cases hr
    exact Ev.ireturn rfl (d6 9 rfl)
  · replace hr := own_iq c1 hr
    refine Ev.iload (d6 5 rfl) rfl ?_
    refine Ev.bipush (z := 32) (d6 6 rfl) rfl ?_
    refine Ev.iclt (t := 20) (d6 7 rfl) rfl (fun c2 => ?_) (fun c2 => ?_)
    · replace hr := own_ip c2 hr
      refine Ev.aloadN (d6 10 rfl) rfl ?_
      refine Ev.gAr V (ww hw 10 rfl) (d6 11 rfl) (j := 0) rfl ?_
      refine Ev.iload (d6 12 rfl) rfl ?_
      refine Ev.iloadN (d6 13 rfl) rfl ?_
      obtain ⟨b3, hr⟩ := grd_some hr
      refine Ev.ias V (j := 0) rfl rfl (d6 14 rfl) b3 ?_
      revert hr
      generalize setA s 0 (ix (s.1 35)) a0 = s4
      intro hr
      replace hr := (bnd_eq _ _).symm.trans hr
      refine Ev.aloadN (d6 15 rfl) rfl ?_
      refine Ev.gAr V (ww hw 12 rfl) (d6 16 rfl) (j := 1) rfl ?_
      refine Ev.iload (d6 17 rfl) rfl ?_
      refine Ev.aloadN (d6 18 rfl) rfl ?_
      refine Ev.iloadN (d6 19 rfl) rfl ?_
      obtain ⟨q5, hq6, hr⟩ := Option.bind_eq_some_iff.mp hr
      refine Ev.priv (y := M_usesX) (args := [.int a0]) (rest := [.int (s.1 35), .ref (r 1)]) (gok hw) rfl nm_usesX (ww hw 105 rfl) (ww hw 106 rfl) (ww hw 107 rfl) (ww hw 108 rfl) (lenOf pd_usesX rfl) (d6 20 rfl) (V.2.1 s4) (e_usesX hw V hq6) (by decide) (Nat.le_of_ble_eq_true rfl) rfl ?_
      refine Ev.ifeq (t := 46) (d6 21 rfl) rfl (fun c7 => ?_) (fun c7 => ?_)
      · replace hr := own_ip c7 hr
        refine Ev.iconst (z := 0) (d6 24 rfl) rfl ?_
        exact e_store_47 hw V  a0 a2 (s.1 35) (0 : Int32) (s.1 35) s4 (.val (.int a1)) rfl .unset rfl _ hr
      · replace hr := own_iq c7 hr
        refine Ev.iloadN (d6 22 rfl) rfl ?_
        refine Ev.goto (t := 47) (d6 23 rfl) rfl ?_
        exact e_store_47 hw V  a0 a2 (s.1 35) a1 (s.1 35) s4 (.val (.int a1)) rfl .unset rfl _ hr
    · replace hr := own_iq c2 hr
      refine Ev.iconst (z := -1) (d6 8 rfl) rfl ?_
      cases hr
      exact Ev.ireturn rfl (d6 9 rfl)
def f_add_85 (n : Nat) (x1 x2 x3 : Int32) (s : St) : Option (Int32 × St) :=
  (f_store x1 x2 x3 s).bind fun q1 =>
  some (q1.1, q1.2)
set_option maxRecDepth 100000 in
theorem e_add_85 {g : GT} {n : Nat} (hw : HW g) {K : St → MHeap} {o : Nat} {r : Nat → Nat} (V : View (GG g) Ln K o r) (x1 x2 x3 : Int32) (s : St) (w : Int32 × St) (hr : f_add_85 n x1 x2 x3 s = some w) : Ev (GG g) M_add 85 [.val (.ref o), .val (.int x1), .val (.int x2), .val (.int x3)] [] (K s) ((some (.int w.1)), (K w.2)) := by
  unfold f_add_85 at hr
  refine Ev.aloadN (d3 47 rfl) rfl ?_
  refine Ev.iloadN (d3 48 rfl) rfl ?_
  refine Ev.iloadN (d3 49 rfl) rfl ?_
  refine Ev.iloadN (d3 50 rfl) rfl ?_
  obtain ⟨q1, hq2, hr⟩ := Option.bind_eq_some_iff.mp hr
  refine Ev.priv (y := M_store) (args := [.int x1, .int x2, .int x3]) (rest := []) (gok hw) rfl nm_store (ww hw 101 rfl) (ww hw 102 rfl) (ww hw 103 rfl) (ww hw 104 rfl) (lenOf pd_store rfl) (d3 51 rfl) (V.2.1 s) (e_store hw V hq2) (by decide) (Nat.le_of_ble_eq_true rfl) rfl ?_
  cases hr
  exact Ev.ireturn rfl (d3 52 rfl)
def f_add_69 (n : Nat) (x1 x2 x3 : Int32) (s : St) : Option (Int32 × St) :=
  if x1 = (14 : Int32) then
    if 0 < (s.1 36) then
      f_add_85 n x1 x2 x3 s
    else
      some ((-5 : Int32), s)
  else
    f_add_85 n x1 x2 x3 s
set_option maxRecDepth 100000 in
theorem e_add_69 {g : GT} {n : Nat} (hw : HW g) {K : St → MHeap} {o : Nat} {r : Nat → Nat} (V : View (GG g) Ln K o r) (x1 x2 x3 : Int32) (s : St) (w : Int32 × St) (hr : f_add_69 n x1 x2 x3 s = some w) : Ev (GG g) M_add 69 [.val (.ref o), .val (.int x1), .val (.int x2), .val (.int x3)] [] (K s) ((some (.int w.1)), (K w.2)) := by
  unfold f_add_69 at hr
  refine Ev.iloadN (d3 39 rfl) rfl ?_
  refine Ev.bipush (z := 14) (d3 40 rfl) rfl ?_
  refine Ev.icne (t := 85) (d3 41 rfl) rfl (fun c1 => ?_) (fun c1 => ?_)
  · replace hr := own_ip c1 hr
    refine Ev.aloadN (d3 42 rfl) rfl ?_
    refine Ev.gI V (ww hw 113 rfl) (d3 43 rfl) (j := 36) rfl rfl ?_
    refine Ev.ifgt (t := 85) (d3 44 rfl) rfl (fun c2 => ?_) (fun c2 => ?_)
    · replace hr := own_ip c2 hr
      exact e_add_85 hw V  x1 x2 x3 s  _ hr
    · replace hr := own_iq c2 hr
      refine Ev.bipush (z := -5) (d3 45 rfl) rfl ?_
      cases hr
      exact Ev.ireturn rfl (d3 46 rfl)
  · replace hr := own_iq c1 hr
    exact e_add_85 hw V  x1 x2 x3 s  _ hr
def f_add (n : Nat) (a0 a1 a2 : Int32) (s : St) : Option (Int32 × St) :=
  if (s.1 35) < (s.1 33) then
    if a0 < (1 : Int32) then
      some ((-2 : Int32), s)
    else
      if (14 : Int32) < a0 then
        some ((-2 : Int32), s)
      else
        (f_argumentOk s a0 a1).bind fun q4 =>
        if q4 = 0 then
          some ((-3 : Int32), s)
        else
          (f_operandsOk n s a0 a1 a2).bind fun q7 =>
          if q7 = 0 then
            some ((-4 : Int32), s)
          else
            if a0 = (13 : Int32) then
              if (s.1 36) < (3 : Int32) then
                f_add_69 n a0 a1 a2 s
              else
                some ((-5 : Int32), s)
            else
              f_add_69 n a0 a1 a2 s
  else
    some ((-1 : Int32), s)
set_option maxRecDepth 100000 in
theorem e_add {g : GT} {n : Nat} {a0 : Int32} {a1 : Int32} {a2 : Int32} {s : St} {w : Int32 × St} (hw : HW g) {K : St → MHeap} {o : Nat} {r : Nat → Nat} (V : View (GG g) Ln K o r) (hr : f_add n a0 a1 a2 s = some w) : EvC (GG g) M_add [.ref o, .int a0, .int a1, .int a2] (K s) ((some (.int w.1)), (K w.2)) := by
  refine EvC.enter (L0 := [.val (.ref o), .val (.int a0), .val (.int a1), .val (.int a2)]) pl_add (fun h => nomatch h) rfl rfl ?_
  unfold f_add at hr
  refine Ev.aloadN (d3 0 rfl) rfl ?_
  refine Ev.gI V (ww hw 91 rfl) (d3 1 rfl) (j := 35) rfl rfl ?_
  refine Ev.aloadN (d3 2 rfl) rfl ?_
  refine Ev.gI V (ww hw 77 rfl) (d3 3 rfl) (j := 33) rfl rfl ?_
  refine Ev.iclt (t := 13) (d3 4 rfl) rfl (fun c1 => ?_) (fun c1 => ?_)
  · replace hr := own_ip c1 hr
    refine Ev.iloadN (d3 7 rfl) rfl ?_
    refine Ev.iconst (z := 1) (d3 8 rfl) rfl ?_
    refine Ev.iclt (t := 24) (d3 9 rfl) rfl (fun c2 => ?_) (fun c2 => ?_)
    · replace hr := own_ip c2 hr
      refine Ev.bipush (z := -2) (d3 13 rfl) rfl ?_
      cases hr
      exact Ev.ireturn rfl (d3 14 rfl)
    · replace hr := own_iq c2 hr
      refine Ev.iloadN (d3 10 rfl) rfl ?_
      refine Ev.bipush (z := 14) (d3 11 rfl) rfl ?_
      refine Ev.icle (t := 27) (d3 12 rfl) rfl (fun c3 => ?_) (fun c3 => ?_)
      · replace hr := own_ip c3 hr
        refine Ev.bipush (z := -2) (d3 13 rfl) rfl ?_
        cases hr
        exact Ev.ireturn rfl (d3 14 rfl)
      · replace hr := own_iq c3 hr
        refine Ev.aloadN (d3 15 rfl) rfl ?_
        refine Ev.iloadN (d3 16 rfl) rfl ?_
        refine Ev.iloadN (d3 17 rfl) rfl ?_
        obtain ⟨q4, hq5, hr⟩ := Option.bind_eq_some_iff.mp hr
        refine Ev.priv (y := M_argumentOk) (args := [.int a0, .int a1]) (rest := []) (gok hw) rfl nm_argumentOk (ww hw 93 rfl) (ww hw 94 rfl) (ww hw 95 rfl) (ww hw 96 rfl) (lenOf pd_argumentOk rfl) (d3 18 rfl) (V.2.1 s) (e_argumentOk hw V hq5) (by decide) (Nat.le_of_ble_eq_true rfl) rfl ?_
        refine Ev.ifne (t := 39) (d3 19 rfl) rfl (fun c6 => ?_) (fun c6 => ?_)
        · replace hr := own_ip c6 hr
          refine Ev.bipush (z := -3) (d3 20 rfl) rfl ?_
          cases hr
          exact Ev.ireturn rfl (d3 21 rfl)
        · replace hr := own_iq c6 hr
          refine Ev.aloadN (d3 22 rfl) rfl ?_
          refine Ev.iloadN (d3 23 rfl) rfl ?_
          refine Ev.iloadN (d3 24 rfl) rfl ?_
          refine Ev.iloadN (d3 25 rfl) rfl ?_
          obtain ⟨q7, hq8, hr⟩ := Option.bind_eq_some_iff.mp hr
          refine Ev.priv (y := M_operandsOk) (args := [.int a0, .int a1, .int a2]) (rest := []) (gok hw) rfl nm_operandsOk (ww hw 97 rfl) (ww hw 98 rfl) (ww hw 99 rfl) (ww hw 100 rfl) (lenOf pd_operandsOk rfl) (d3 26 rfl) (V.2.1 s) (e_operandsOk hw V hq8) (by decide) (Nat.le_of_ble_eq_true rfl) rfl ?_
          refine Ev.ifne (t := 52) (d3 27 rfl) rfl (fun c9 => ?_) (fun c9 => ?_)
          · replace hr := own_ip c9 hr
            refine Ev.bipush (z := -4) (d3 28 rfl) rfl ?_
            cases hr
            exact Ev.ireturn rfl (d3 29 rfl)
          · replace hr := own_iq c9 hr
            refine Ev.iloadN (d3 30 rfl) rfl ?_
            refine Ev.bipush (z := 13) (d3 31 rfl) rfl ?_
            refine Ev.icne (t := 69) (d3 32 rfl) rfl (fun c10 => ?_) (fun c10 => ?_)
            · replace hr := own_ip c10 hr
              refine Ev.aloadN (d3 33 rfl) rfl ?_
              refine Ev.gI V (ww hw 113 rfl) (d3 34 rfl) (j := 36) rfl rfl ?_
              refine Ev.iconst (z := 3) (d3 35 rfl) rfl ?_
              refine Ev.iclt (t := 69) (d3 36 rfl) rfl (fun c11 => ?_) (fun c11 => ?_)
              · replace hr := own_ip c11 hr
                exact e_add_69 hw V  a0 a1 a2 s  _ hr
              · replace hr := own_iq c11 hr
                refine Ev.bipush (z := -5) (d3 37 rfl) rfl ?_
                cases hr
                exact Ev.ireturn rfl (d3 38 rfl)
            · replace hr := own_iq c10 hr
              exact e_add_69 hw V  a0 a1 a2 s  _ hr
  · replace hr := own_iq c1 hr
    refine Ev.iconst (z := -1) (d3 5 rfl) rfl ?_
    cases hr
    exact Ev.ireturn rfl (d3 6 rfl)
def f_buildVersion0_93 (n : Nat) (k2 : Int32 → St → Option (St)) (x1 : Int32) (s : St) : Option (St) :=
  grd (inb x1 1056) <|
  bnd (setA s 10 (ix x1) (0 : Int32)) fun s2 =>
  k2 (x1 + (1 : Int32)) s2
set_option maxRecDepth 100000 in
theorem e_buildVersion0_93 {g : GT} {n : Nat} (hw : HW g) {K : St → MHeap} {o : Nat} {r : Nat → Nat} (V : View (GG g) Ln K o r) {k2 : Int32 → St → Option (St)} (hk2 : ∀ (x1 : Int32) (s : St) (y2 : Slot) (hy2 : one1 y2 = true) (w : St), k2 x1 s = some w → Ev (GG g) M_buildVersion0 2 [.val (.ref o), .val (.int x1), y2] [] (K s) (none, (K w))) (x1 : Int32) (s : St) (y2 : Slot) (hy2 : one1 y2 = true) (w : St) (hr : f_buildVersion0_93 n k2 x1 s = some w) : Ev (GG g) M_buildVersion0 93 [.val (.ref o), .val (.int x1), y2] [] (K s) (none, (K w)) := by
  unfold f_buildVersion0_93 at hr
  refine Ev.aloadN (d12 58 rfl) rfl ?_
  refine Ev.gAr V (ww hw 30 rfl) (d12 59 rfl) (j := 10) rfl ?_
  refine Ev.iloadN (d12 60 rfl) rfl ?_
  refine Ev.iconst (z := 0) (d12 61 rfl) rfl ?_
  obtain ⟨b1, hr⟩ := grd_some hr
  refine Ev.ias V (j := 10) rfl rfl (d12 62 rfl) b1 ?_
  revert hr
  generalize setA s 10 (ix x1) (0 : Int32) = s2
  intro hr
  replace hr := (bnd_eq _ _).symm.trans hr
  refine Ev.iinc (z := 1) (L' := [.val (.ref o), .val (.int (x1 + (1 : Int32))), y2]) (d12 63 rfl) rfl rfl rfl ?_
  refine Ev.goto (t := 2) (d12 64 rfl) rfl ?_
  exact hk2 (x1 + (1 : Int32)) s2 y2 hy2 _ hr
def f_buildVersion0_106 (n : Nat) (s : St) : Option (St) :=
  bnd (setI s 38 (s.1 35)) fun s1 =>
  some s1
set_option maxRecDepth 100000 in
theorem e_buildVersion0_106 {g : GT} {n : Nat} (hw : HW g) {K : St → MHeap} {o : Nat} {r : Nat → Nat} (V : View (GG g) Ln K o r) (s : St) (y1 : Slot) (hy1 : one1 y1 = true) (y2 : Slot) (hy2 : one1 y2 = true) (w : St) (hr : f_buildVersion0_106 n s = some w) : Ev (GG g) M_buildVersion0 106 [.val (.ref o), y1, y2] [] (K s) (none, (K w)) := by
  unfold f_buildVersion0_106 at hr
  refine Ev.aloadN (d12 65 rfl) rfl ?_
  refine Ev.aloadN (d12 66 rfl) rfl ?_
  refine Ev.gI V (ww hw 91 rfl) (d12 67 rfl) (j := 35) rfl rfl ?_
  refine Ev.pI V (gok hw) (ww hw 134 rfl) (Or.inl (ww hw 135 rfl)) (d12 68 rfl) (j := 38) rfl ?_
  revert hr
  generalize setI s 38 (s.1 35) = s1
  intro hr
  replace hr := (bnd_eq _ _).symm.trans hr
  cases hr
  exact Ev.vreturn rfl (d12 69 rfl)
def f_buildVersion0_2 (n : Nat) : Nat → Int32 → St → Option (St)
  | 0 => fun _ _ => none
  | k + 1 => fun x1 s =>
    if x1 < (s.1 35) then
      if x1 < (32 : Int32) then
        grd (inb x1 32) <|
        grd (inb x1 1056) <|
        bnd (setA s 7 (ix x1) (s.2 0 (ix x1))) fun s5 =>
        bnd (setA s5 8 (ix x1) (s5.2 1 (ix x1))) fun s6 =>
        bnd (setA s6 9 (ix x1) (s6.2 2 (ix x1))) fun s7 =>
        if (s.2 0 (ix x1)) = (13 : Int32) then
          bnd (setA s7 9 (ix x1) (s7.2 4 (ix x1))) fun s9 =>
          f_buildVersion0_93 n (f_buildVersion0_2 n k) x1 s9
        else
          if (s.2 0 (ix x1)) = (14 : Int32) then
            bnd (setA s7 8 (ix x1) (s7.2 4 (ix x1))) fun s11 =>
            f_buildVersion0_93 n (f_buildVersion0_2 n k) x1 s11
          else
            f_buildVersion0_93 n (f_buildVersion0_2 n k) x1 s7
      else
        f_buildVersion0_106 n s
    else
      f_buildVersion0_106 n s
set_option maxRecDepth 100000 in
theorem e_buildVersion0_2 {g : GT} {n : Nat} (hw : HW g) {K : St → MHeap} {o : Nat} {r : Nat → Nat} (V : View (GG g) Ln K o r) (k : Nat) : ∀ (x1 : Int32) (s : St) (y2 : Slot) (hy2 : one1 y2 = true) (w : St), f_buildVersion0_2 n k x1 s = some w → Ev (GG g) M_buildVersion0 2 [.val (.ref o), .val (.int x1), y2] [] (K s) (none, (K w)) := by
  induction k with
  | zero => intro x1 s y2 hy2 w hr; rw [f_buildVersion0_2] at hr; cases hr
  | succ k ih =>
    intro x1 s y2 hy2 w hr
    rw [f_buildVersion0_2] at hr
    refine Ev.iloadN (d12 2 rfl) rfl ?_
    refine Ev.aloadN (d12 3 rfl) rfl ?_
    refine Ev.gI V (ww hw 91 rfl) (d12 4 rfl) (j := 35) rfl rfl ?_
    refine Ev.icge (t := 106) (d12 5 rfl) rfl (fun c1 => ?_) (fun c1 => ?_)
    · replace hr := own_ip c1 hr
      refine Ev.iloadN (d12 6 rfl) rfl ?_
      refine Ev.bipush (z := 32) (d12 7 rfl) rfl ?_
      refine Ev.icge (t := 106) (d12 8 rfl) rfl (fun c2 => ?_) (fun c2 => ?_)
      · replace hr := own_ip c2 hr
        refine Ev.aloadN (d12 9 rfl) rfl ?_
        refine Ev.gAr V (ww hw 10 rfl) (d12 10 rfl) (j := 0) rfl ?_
        refine Ev.iloadN (d12 11 rfl) rfl ?_
        obtain ⟨b3, hr⟩ := grd_some hr
        refine Ev.ial V (j := 0) rfl rfl (d12 12 rfl) b3 ?_
        refine Ev.istDN (L' := [.val (.ref o), .val (.int x1), .val (.int (s.2 0 (ix x1)))]) (d12 13 rfl) rfl hy2 rfl ?_
        refine Ev.aloadN (d12 14 rfl) rfl ?_
        refine Ev.gAr V (ww hw 24 rfl) (d12 15 rfl) (j := 7) rfl ?_
        refine Ev.iloadN (d12 16 rfl) rfl ?_
        refine Ev.iloadN (d12 17 rfl) rfl ?_
        obtain ⟨b4, hr⟩ := grd_some hr
        refine Ev.ias V (j := 7) rfl rfl (d12 18 rfl) b4 ?_
        revert hr
        generalize setA s 7 (ix x1) (s.2 0 (ix x1)) = s5
        intro hr
        replace hr := (bnd_eq _ _).symm.trans hr
        refine Ev.aloadN (d12 19 rfl) rfl ?_
        refine Ev.gAr V (ww hw 26 rfl) (d12 20 rfl) (j := 8) rfl ?_
        refine Ev.iloadN (d12 21 rfl) rfl ?_
        refine Ev.aloadN (d12 22 rfl) rfl ?_
        refine Ev.gAr V (ww hw 12 rfl) (d12 23 rfl) (j := 1) rfl ?_
        refine Ev.iloadN (d12 24 rfl) rfl ?_
        refine Ev.ial V (j := 1) rfl rfl (d12 25 rfl) b3 ?_
        refine Ev.ias V (j := 8) rfl rfl (d12 26 rfl) b4 ?_
        revert hr
        generalize setA s5 8 (ix x1) (s5.2 1 (ix x1)) = s6
        intro hr
        replace hr := (bnd_eq _ _).symm.trans hr
        refine Ev.aloadN (d12 27 rfl) rfl ?_
        refine Ev.gAr V (ww hw 28 rfl) (d12 28 rfl) (j := 9) rfl ?_
        refine Ev.iloadN (d12 29 rfl) rfl ?_
        refine Ev.aloadN (d12 30 rfl) rfl ?_
        refine Ev.gAr V (ww hw 14 rfl) (d12 31 rfl) (j := 2) rfl ?_
        refine Ev.iloadN (d12 32 rfl) rfl ?_
        refine Ev.ial V (j := 2) rfl rfl (d12 33 rfl) b3 ?_
        refine Ev.ias V (j := 9) rfl rfl (d12 34 rfl) b4 ?_
        revert hr
        generalize setA s6 9 (ix x1) (s6.2 2 (ix x1)) = s7
        intro hr
        replace hr := (bnd_eq _ _).symm.trans hr
        refine Ev.iloadN (d12 35 rfl) rfl ?_
        refine Ev.bipush (z := 13) (d12 36 rfl) rfl ?_
        refine Ev.icne (t := 75) (d12 37 rfl) rfl (fun c8 => ?_) (fun c8 => ?_)
        · replace hr := own_ip c8 hr
          refine Ev.aloadN (d12 38 rfl) rfl ?_
          refine Ev.gAr V (ww hw 28 rfl) (d12 39 rfl) (j := 9) rfl ?_
          refine Ev.iloadN (d12 40 rfl) rfl ?_
          refine Ev.aloadN (d12 41 rfl) rfl ?_
          refine Ev.gAr V (ww hw 18 rfl) (d12 42 rfl) (j := 4) rfl ?_
          refine Ev.iloadN (d12 43 rfl) rfl ?_
          refine Ev.ial V (j := 4) rfl rfl (d12 44 rfl) b3 ?_
          refine Ev.ias V (j := 9) rfl rfl (d12 45 rfl) b4 ?_
          revert hr
          generalize setA s7 9 (ix x1) (s7.2 4 (ix x1)) = s9
          intro hr
          replace hr := (bnd_eq _ _).symm.trans hr
          refine Ev.goto (t := 93) (d12 46 rfl) rfl ?_
          exact e_buildVersion0_93 hw V ih x1 s9 (.val (.int (s.2 0 (ix x1)))) rfl _ hr
        · replace hr := own_iq c8 hr
          refine Ev.iloadN (d12 47 rfl) rfl ?_
          refine Ev.bipush (z := 14) (d12 48 rfl) rfl ?_
          refine Ev.icne (t := 93) (d12 49 rfl) rfl (fun c10 => ?_) (fun c10 => ?_)
          · replace hr := own_ip c10 hr
            refine Ev.aloadN (d12 50 rfl) rfl ?_
            refine Ev.gAr V (ww hw 26 rfl) (d12 51 rfl) (j := 8) rfl ?_
            refine Ev.iloadN (d12 52 rfl) rfl ?_
            refine Ev.aloadN (d12 53 rfl) rfl ?_
            refine Ev.gAr V (ww hw 18 rfl) (d12 54 rfl) (j := 4) rfl ?_
            refine Ev.iloadN (d12 55 rfl) rfl ?_
            refine Ev.ial V (j := 4) rfl rfl (d12 56 rfl) b3 ?_
            refine Ev.ias V (j := 8) rfl rfl (d12 57 rfl) b4 ?_
            revert hr
            generalize setA s7 8 (ix x1) (s7.2 4 (ix x1)) = s11
            intro hr
            replace hr := (bnd_eq _ _).symm.trans hr
            exact e_buildVersion0_93 hw V ih x1 s11 (.val (.int (s.2 0 (ix x1)))) rfl _ hr
          · replace hr := own_iq c10 hr
            exact e_buildVersion0_93 hw V ih x1 s7 (.val (.int (s.2 0 (ix x1)))) rfl _ hr
      · replace hr := own_iq c2 hr
        exact e_buildVersion0_106 hw V  s (.val (.int x1)) rfl y2 hy2 _ hr
    · replace hr := own_iq c1 hr
      exact e_buildVersion0_106 hw V  s (.val (.int x1)) rfl y2 hy2 _ hr
def f_buildVersion0 (n : Nat) (s : St) : Option (St) :=
  f_buildVersion0_2 n n (0 : Int32) s
set_option maxRecDepth 100000 in
theorem e_buildVersion0 {g : GT} {n : Nat} {s : St} {w : St} (hw : HW g) {K : St → MHeap} {o : Nat} {r : Nat → Nat} (V : View (GG g) Ln K o r) (hr : f_buildVersion0 n s = some w) : EvC (GG g) M_buildVersion0 [.ref o] (K s) (none, (K w)) := by
  refine EvC.enter (L0 := [.val (.ref o), .unset, .unset]) pl_buildVersion0 (fun _ => rfl) rfl rfl ?_
  unfold f_buildVersion0 at hr
  refine Ev.iconst (z := 0) (d12 0 rfl) rfl ?_
  refine Ev.istDN (L' := [.val (.ref o), .val (.int (0 : Int32)), .unset]) (d12 1 rfl) rfl rfl rfl ?_
  exact e_buildVersion0_2 hw V  n (0 : Int32) s .unset rfl _ hr
def f_undoHash_68 (n : Nat) (s : St) : Option (St) :=
  bnd (setI s 34 (-1 : Int32)) fun s1 =>
  some s1
set_option maxRecDepth 100000 in
theorem e_undoHash_68 {g : GT} {n : Nat} (hw : HW g) {K : St → MHeap} {o : Nat} {r : Nat → Nat} (V : View (GG g) Ln K o r) (s : St) (y1 : Slot) (hy1 : one1 y1 = true) (y2 : Slot) (hy2 : one1 y2 = true) (y3 : Slot) (hy3 : one1 y3 = true) (w : St) (hr : f_undoHash_68 n s = some w) : Ev (GG g) M_undoHash 68 [.val (.ref o), y1, y2, y3] [] (K s) (none, (K w)) := by
  unfold f_undoHash_68 at hr
  refine Ev.aloadN (d14 36 rfl) rfl ?_
  refine Ev.iconst (z := -1) (d14 37 rfl) rfl ?_
  refine Ev.pI V (gok hw) (ww hw 79 rfl) (Or.inl (ww hw 80 rfl)) (d14 38 rfl) (j := 34) rfl ?_
  revert hr
  generalize setI s 34 (-1 : Int32) = s1
  intro hr
  replace hr := (bnd_eq _ _).symm.trans hr
  cases hr
  exact Ev.vreturn rfl (d14 39 rfl)
def f_undoHash_2 (n : Nat) : Nat → Int32 → Int32 → St → Option (St)
  | 0 => fun _ _ _ => none
  | k + 1 => fun x1 x2 s =>
    if x2 < (1024 : Int32) then
      if x1 < (s.1 39) then
        if 0 < (s.1 39) then
          bnd (setI s 39 ((s.1 39) - (1 : Int32))) fun s4 =>
          grd (inb (s4.1 39) 1024) <|
          if (s4.2 32 (ix (s4.1 39))) < 0 then
            f_undoHash_2 n k x1 (x2 + (1 : Int32)) s4
          else
            if (s4.2 32 (ix (s4.1 39))) < (2048 : Int32) then
              grd (inb (s4.2 32 (ix (s4.1 39))) 2048) <|
              bnd (setA s4 31 (ix (s4.2 32 (ix (s4.1 39)))) ((0 : Int32) &&& 1)) fun s9 =>
              f_undoHash_2 n k x1 (x2 + (1 : Int32)) s9
            else
              f_undoHash_2 n k x1 (x2 + (1 : Int32)) s4
        else
          f_undoHash_68 n s
      else
        f_undoHash_68 n s
    else
      f_undoHash_68 n s
set_option maxRecDepth 100000 in
theorem e_undoHash_2 {g : GT} {n : Nat} (hw : HW g) {K : St → MHeap} {o : Nat} {r : Nat → Nat} (V : View (GG g) Ln K o r) (k : Nat) : ∀ (x1 x2 : Int32) (s : St) (y3 : Slot) (hy3 : one1 y3 = true) (w : St), f_undoHash_2 n k x1 x2 s = some w → Ev (GG g) M_undoHash 2 [.val (.ref o), .val (.int x1), .val (.int x2), y3] [] (K s) (none, (K w)) := by
  induction k with
  | zero => intro x1 x2 s y3 hy3 w hr; rw [f_undoHash_2] at hr; cases hr
  | succ k ih =>
    intro x1 x2 s y3 hy3 w hr
    rw [f_undoHash_2] at hr
    refine Ev.iloadN (d14 2 rfl) rfl ?_
    refine Ev.sipush (z := 1024) (d14 3 rfl) rfl ?_
    refine Ev.icge (t := 68) (d14 4 rfl) rfl (fun c1 => ?_) (fun c1 => ?_)
    · replace hr := own_ip c1 hr
      refine Ev.aloadN (d14 5 rfl) rfl ?_
      refine Ev.gI V (ww hw 144 rfl) (d14 6 rfl) (j := 39) rfl rfl ?_
      refine Ev.iloadN (d14 7 rfl) rfl ?_
      refine Ev.icle (t := 68) (d14 8 rfl) rfl (fun c2 => ?_) (fun c2 => ?_)
      · replace hr := own_ip c2 hr
        refine Ev.aloadN (d14 9 rfl) rfl ?_
        refine Ev.gI V (ww hw 144 rfl) (d14 10 rfl) (j := 39) rfl rfl ?_
        refine Ev.ifle (t := 68) (d14 11 rfl) rfl (fun c3 => ?_) (fun c3 => ?_)
        · replace hr := own_ip c3 hr
          refine Ev.aloadN (d14 12 rfl) rfl ?_
          refine Ev.dup (d14 13 rfl) rfl ?_
          refine Ev.gI V (ww hw 144 rfl) (d14 14 rfl) (j := 39) rfl rfl ?_
          refine Ev.iconst (z := 1) (d14 15 rfl) rfl ?_
          refine Ev.isub (d14 16 rfl) ?_
          refine Ev.pI V (gok hw) (ww hw 144 rfl) (Or.inl (ww hw 145 rfl)) (d14 17 rfl) (j := 39) rfl ?_
          revert hr
          generalize setI s 39 ((s.1 39) - (1 : Int32)) = s4
          intro hr
          replace hr := (bnd_eq _ _).symm.trans hr
          refine Ev.aloadN (d14 18 rfl) rfl ?_
          refine Ev.gAr V (ww hw 75 rfl) (d14 19 rfl) (j := 32) rfl ?_
          refine Ev.aloadN (d14 20 rfl) rfl ?_
          refine Ev.gI V (ww hw 144 rfl) (d14 21 rfl) (j := 39) rfl rfl ?_
          obtain ⟨b5, hr⟩ := grd_some hr
          refine Ev.ial V (j := 32) rfl rfl (d14 22 rfl) b5 ?_
          refine Ev.istDN (L' := [.val (.ref o), .val (.int x1), .val (.int x2), .val (.int (s4.2 32 (ix (s4.1 39))))]) (d14 23 rfl) rfl hy3 rfl ?_
          refine Ev.iloadN (d14 24 rfl) rfl ?_
          refine Ev.iflt (t := 62) (d14 25 rfl) rfl (fun c6 => ?_) (fun c6 => ?_)
          · replace hr := own_ip c6 hr
            refine Ev.iinc (z := 1) (L' := [.val (.ref o), .val (.int x1), .val (.int (x2 + (1 : Int32))), .val (.int (s4.2 32 (ix (s4.1 39))))]) (d14 34 rfl) rfl rfl rfl ?_
            refine Ev.goto (t := 2) (d14 35 rfl) rfl ?_
            exact ih x1 (x2 + (1 : Int32)) s4 (.val (.int (s4.2 32 (ix (s4.1 39))))) rfl _ hr
          · replace hr := own_iq c6 hr
            refine Ev.iloadN (d14 26 rfl) rfl ?_
            refine Ev.sipush (z := 2048) (d14 27 rfl) rfl ?_
            refine Ev.icge (t := 62) (d14 28 rfl) rfl (fun c7 => ?_) (fun c7 => ?_)
            · replace hr := own_ip c7 hr
              refine Ev.aloadN (d14 29 rfl) rfl ?_
              refine Ev.gAr V (ww hw 73 rfl) (d14 30 rfl) (j := 31) rfl ?_
              refine Ev.iloadN (d14 31 rfl) rfl ?_
              refine Ev.iconst (z := 0) (d14 32 rfl) rfl ?_
              obtain ⟨b8, hr⟩ := grd_some hr
              refine Ev.bas V (j := 31) rfl rfl (d14 33 rfl) b8 ?_
              revert hr
              generalize setA s4 31 (ix (s4.2 32 (ix (s4.1 39)))) ((0 : Int32) &&& 1) = s9
              intro hr
              replace hr := (bnd_eq _ _).symm.trans hr
              refine Ev.iinc (z := 1) (L' := [.val (.ref o), .val (.int x1), .val (.int (x2 + (1 : Int32))), .val (.int (s4.2 32 (ix (s4.1 39))))]) (d14 34 rfl) rfl rfl rfl ?_
              refine Ev.goto (t := 2) (d14 35 rfl) rfl ?_
              exact ih x1 (x2 + (1 : Int32)) s9 (.val (.int (s4.2 32 (ix (s4.1 39))))) rfl _ hr
            · replace hr := own_iq c7 hr
              refine Ev.iinc (z := 1) (L' := [.val (.ref o), .val (.int x1), .val (.int (x2 + (1 : Int32))), .val (.int (s4.2 32 (ix (s4.1 39))))]) (d14 34 rfl) rfl rfl rfl ?_
              refine Ev.goto (t := 2) (d14 35 rfl) rfl ?_
              exact ih x1 (x2 + (1 : Int32)) s4 (.val (.int (s4.2 32 (ix (s4.1 39))))) rfl _ hr
        · replace hr := own_iq c3 hr
          exact e_undoHash_68 hw V  s (.val (.int x1)) rfl (.val (.int x2)) rfl y3 hy3 _ hr
      · replace hr := own_iq c2 hr
        exact e_undoHash_68 hw V  s (.val (.int x1)) rfl (.val (.int x2)) rfl y3 hy3 _ hr
    · replace hr := own_iq c1 hr
      exact e_undoHash_68 hw V  s (.val (.int x1)) rfl (.val (.int x2)) rfl y3 hy3 _ hr
def f_undoHash (n : Nat) (a0 : Int32) (s : St) : Option (St) :=
  f_undoHash_2 n n a0 (0 : Int32) s
set_option maxRecDepth 100000 in
theorem e_undoHash {g : GT} {n : Nat} {a0 : Int32} {s : St} {w : St} (hw : HW g) {K : St → MHeap} {o : Nat} {r : Nat → Nat} (V : View (GG g) Ln K o r) (hr : f_undoHash n a0 s = some w) : EvC (GG g) M_undoHash [.ref o, .int a0] (K s) (none, (K w)) := by
  refine EvC.enter (L0 := [.val (.ref o), .val (.int a0), .unset, .unset]) pl_undoHash (fun _ => rfl) rfl rfl ?_
  unfold f_undoHash at hr
  refine Ev.iconst (z := 0) (d14 0 rfl) rfl ?_
  refine Ev.istDN (L' := [.val (.ref o), .val (.int a0), .val (.int (0 : Int32)), .unset]) (d14 1 rfl) rfl rfl rfl ?_
  exact e_undoHash_2 hw V  n a0 (0 : Int32) s .unset rfl _ hr
def f_computeSetMasks_96 (n : Nat) (k2 : Int32 → St → Option (St)) (x1 x3 : Int32) (s : St) : Option (St) :=
  grd (inb x1 32) <|
  bnd (setA s 18 (ix x1) x3) fun s2 =>
  k2 (x1 + (1 : Int32)) s2
set_option maxRecDepth 100000 in
theorem e_computeSetMasks_96 {g : GT} {n : Nat} (hw : HW g) {K : St → MHeap} {o : Nat} {r : Nat → Nat} (V : View (GG g) Ln K o r) {k2 : Int32 → St → Option (St)} (hk2 : ∀ (x1 : Int32) (s : St) (y2 : Slot) (hy2 : one1 y2 = true) (y3 : Slot) (hy3 : one1 y3 = true) (y4 : Slot) (hy4 : one1 y4 = true) (w : St), k2 x1 s = some w → Ev (GG g) M_computeSetMasks 2 [.val (.ref o), .val (.int x1), y2, y3, y4] [] (K s) (none, (K w))) (x1 x3 : Int32) (s : St) (y2 : Slot) (hy2 : one1 y2 = true) (y4 : Slot) (hy4 : one1 y4 = true) (w : St) (hr : f_computeSetMasks_96 n k2 x1 x3 s = some w) : Ev (GG g) M_computeSetMasks 96 [.val (.ref o), .val (.int x1), y2, .val (.int x3), y4] [] (K s) (none, (K w)) := by
  unfold f_computeSetMasks_96 at hr
  refine Ev.aloadN (d15 57 rfl) rfl ?_
  refine Ev.gAr V (ww hw 46 rfl) (d15 58 rfl) (j := 18) rfl ?_
  refine Ev.iloadN (d15 59 rfl) rfl ?_
  refine Ev.iloadN (d15 60 rfl) rfl ?_
  obtain ⟨b1, hr⟩ := grd_some hr
  refine Ev.ias V (j := 18) rfl rfl (d15 61 rfl) b1 ?_
  revert hr
  generalize setA s 18 (ix x1) x3 = s2
  intro hr
  replace hr := (bnd_eq _ _).symm.trans hr
  refine Ev.iinc (z := 1) (L' := [.val (.ref o), .val (.int (x1 + (1 : Int32))), y2, .val (.int x3), y4]) (d15 62 rfl) rfl rfl rfl ?_
  refine Ev.goto (t := 2) (d15 63 rfl) rfl ?_
  exact hk2 (x1 + (1 : Int32)) s2 y2 hy2 (.val (.int x3)) rfl y4 hy4 _ hr
def f_computeSetMasks_51 (n : Nat) (k2 : Int32 → St → Option (St)) : Nat → Int32 → Int32 → Int32 → Int32 → St → Option (St)
  | 0 => fun _ _ _ _ _ => none
  | k + 1 => fun x1 x2 x3 x4 s =>
    if x4 < x2 then
      if x4 < (32 : Int32) then
        grd (inb x4 32) <|
        if (s.2 0 (ix x4)) = (11 : Int32) then
          bnd (x3 ||| ((1 : Int32) <<< (((s.2 1 (ix x4)) &&& (3 : Int32)) &&& 31))) fun v5 =>
          f_computeSetMasks_51 n k2 k x1 x2 v5 (x4 + (1 : Int32)) s
        else
          f_computeSetMasks_51 n k2 k x1 x2 x3 (x4 + (1 : Int32)) s
      else
        f_computeSetMasks_96 n k2 x1 x3 s
    else
      f_computeSetMasks_96 n k2 x1 x3 s
set_option maxRecDepth 100000 in
theorem e_computeSetMasks_51 {g : GT} {n : Nat} (hw : HW g) {K : St → MHeap} {o : Nat} {r : Nat → Nat} (V : View (GG g) Ln K o r) {k2 : Int32 → St → Option (St)} (hk2 : ∀ (x1 : Int32) (s : St) (y2 : Slot) (hy2 : one1 y2 = true) (y3 : Slot) (hy3 : one1 y3 = true) (y4 : Slot) (hy4 : one1 y4 = true) (w : St), k2 x1 s = some w → Ev (GG g) M_computeSetMasks 2 [.val (.ref o), .val (.int x1), y2, y3, y4] [] (K s) (none, (K w))) (k : Nat) : ∀ (x1 x2 x3 x4 : Int32) (s : St) (w : St), f_computeSetMasks_51 n k2 k x1 x2 x3 x4 s = some w → Ev (GG g) M_computeSetMasks 51 [.val (.ref o), .val (.int x1), .val (.int x2), .val (.int x3), .val (.int x4)] [] (K s) (none, (K w)) := by
  induction k with
  | zero => intro x1 x2 x3 x4 s w hr; rw [f_computeSetMasks_51] at hr; cases hr
  | succ k ih =>
    intro x1 x2 x3 x4 s w hr
    rw [f_computeSetMasks_51] at hr
    refine Ev.iload (d15 32 rfl) rfl ?_
    refine Ev.iloadN (d15 33 rfl) rfl ?_
    refine Ev.icge (t := 96) (d15 34 rfl) rfl (fun c1 => ?_) (fun c1 => ?_)
    · replace hr := own_ip c1 hr
      refine Ev.iload (d15 35 rfl) rfl ?_
      refine Ev.bipush (z := 32) (d15 36 rfl) rfl ?_
      refine Ev.icge (t := 96) (d15 37 rfl) rfl (fun c2 => ?_) (fun c2 => ?_)
      · replace hr := own_ip c2 hr
        refine Ev.aloadN (d15 38 rfl) rfl ?_
        refine Ev.gAr V (ww hw 10 rfl) (d15 39 rfl) (j := 0) rfl ?_
        refine Ev.iload (d15 40 rfl) rfl ?_
        obtain ⟨b3, hr⟩ := grd_some hr
        refine Ev.ial V (j := 0) rfl rfl (d15 41 rfl) b3 ?_
        refine Ev.bipush (z := 11) (d15 42 rfl) rfl ?_
        refine Ev.icne (t := 90) (d15 43 rfl) rfl (fun c4 => ?_) (fun c4 => ?_)
        · replace hr := own_ip c4 hr
          refine Ev.iloadN (d15 44 rfl) rfl ?_
          refine Ev.iconst (z := 1) (d15 45 rfl) rfl ?_
          refine Ev.aloadN (d15 46 rfl) rfl ?_
          refine Ev.gAr V (ww hw 12 rfl) (d15 47 rfl) (j := 1) rfl ?_
          refine Ev.iload (d15 48 rfl) rfl ?_
          refine Ev.ial V (j := 1) rfl rfl (d15 49 rfl) b3 ?_
          refine Ev.iconst (z := 3) (d15 50 rfl) rfl ?_
          refine Ev.iand (d15 51 rfl) ?_
          refine Ev.ishl (d15 52 rfl) ?_
          refine Ev.ior (d15 53 rfl) ?_
          revert hr
          generalize (x3 ||| ((1 : Int32) <<< (((s.2 1 (ix x4)) &&& (3 : Int32)) &&& 31))) = v5
          intro hr
          replace hr := (bnd_eq _ _).symm.trans hr
          refine Ev.istDN (L' := [.val (.ref o), .val (.int x1), .val (.int x2), .val (.int v5), .val (.int x4)]) (d15 54 rfl) rfl rfl rfl ?_
          refine Ev.iinc (z := 1) (L' := [.val (.ref o), .val (.int x1), .val (.int x2), .val (.int v5), .val (.int (x4 + (1 : Int32)))]) (d15 55 rfl) rfl rfl rfl ?_
          refine Ev.goto (t := 51) (d15 56 rfl) rfl ?_
          exact ih x1 x2 v5 (x4 + (1 : Int32)) s  _ hr
        · replace hr := own_iq c4 hr
          refine Ev.iinc (z := 1) (L' := [.val (.ref o), .val (.int x1), .val (.int x2), .val (.int x3), .val (.int (x4 + (1 : Int32)))]) (d15 55 rfl) rfl rfl rfl ?_
          refine Ev.goto (t := 51) (d15 56 rfl) rfl ?_
          exact ih x1 x2 x3 (x4 + (1 : Int32)) s  _ hr
      · replace hr := own_iq c2 hr
        exact e_computeSetMasks_96 hw V hk2 x1 x3 s (.val (.int x2)) rfl (.val (.int x4)) rfl _ hr
    · replace hr := own_iq c1 hr
      exact e_computeSetMasks_96 hw V hk2 x1 x3 s (.val (.int x2)) rfl (.val (.int x4)) rfl _ hr
def f_computeSetMasks_2 (n : Nat) : Nat → Int32 → St → Option (St)
  | 0 => fun _ _ => none
  | k + 1 => fun x1 s =>
    if x1 < (s.1 35) then
      if x1 < (32 : Int32) then
        grd (inb x1 32) <|
        bnd (setA s 18 (ix x1) (0 : Int32)) fun s4 =>
        if (s4.2 0 (ix x1)) = (13 : Int32) then
          f_computeSetMasks_51 n (f_computeSetMasks_2 n k) n x1 (s4.2 4 (ix x1)) (0 : Int32) (x1 + (1 : Int32)) s4
        else
          f_computeSetMasks_2 n k (x1 + (1 : Int32)) s4
      else
        some s
    else
      some s
set_option maxRecDepth 100000 in
theorem e_computeSetMasks_2 {g : GT} {n : Nat} (hw : HW g) {K : St → MHeap} {o : Nat} {r : Nat → Nat} (V : View (GG g) Ln K o r) (k : Nat) : ∀ (x1 : Int32) (s : St) (y2 : Slot) (hy2 : one1 y2 = true) (y3 : Slot) (hy3 : one1 y3 = true) (y4 : Slot) (hy4 : one1 y4 = true) (w : St), f_computeSetMasks_2 n k x1 s = some w → Ev (GG g) M_computeSetMasks 2 [.val (.ref o), .val (.int x1), y2, y3, y4] [] (K s) (none, (K w)) := by
  induction k with
  | zero => intro x1 s y2 hy2 y3 hy3 y4 hy4 w hr; rw [f_computeSetMasks_2] at hr; cases hr
  | succ k ih =>
    intro x1 s y2 hy2 y3 hy3 y4 hy4 w hr
    rw [f_computeSetMasks_2] at hr
    refine Ev.iloadN (d15 2 rfl) rfl ?_
    refine Ev.aloadN (d15 3 rfl) rfl ?_
    refine Ev.gI V (ww hw 91 rfl) (d15 4 rfl) (j := 35) rfl rfl ?_
    refine Ev.icge (t := 109) (d15 5 rfl) rfl (fun c1 => ?_) (fun c1 => ?_)
    · replace hr := own_ip c1 hr
      refine Ev.iloadN (d15 6 rfl) rfl ?_
      refine Ev.bipush (z := 32) (d15 7 rfl) rfl ?_
      refine Ev.icge (t := 109) (d15 8 rfl) rfl (fun c2 => ?_) (fun c2 => ?_)
      · replace hr := own_ip c2 hr
        refine Ev.aloadN (d15 9 rfl) rfl ?_
        refine Ev.gAr V (ww hw 46 rfl) (d15 10 rfl) (j := 18) rfl ?_
        refine Ev.iloadN (d15 11 rfl) rfl ?_
        refine Ev.iconst (z := 0) (d15 12 rfl) rfl ?_
        obtain ⟨b3, hr⟩ := grd_some hr
        refine Ev.ias V (j := 18) rfl rfl (d15 13 rfl) b3 ?_
        revert hr
        generalize setA s 18 (ix x1) (0 : Int32) = s4
        intro hr
        replace hr := (bnd_eq _ _).symm.trans hr
        refine Ev.aloadN (d15 14 rfl) rfl ?_
        refine Ev.gAr V (ww hw 10 rfl) (d15 15 rfl) (j := 0) rfl ?_
        refine Ev.iloadN (d15 16 rfl) rfl ?_
        refine Ev.ial V (j := 0) rfl rfl (d15 17 rfl) b3 ?_
        refine Ev.bipush (z := 13) (d15 18 rfl) rfl ?_
        refine Ev.iceq (t := 37) (d15 19 rfl) rfl (fun c5 => ?_) (fun c5 => ?_)
        · replace hr := own_ip c5 hr
          refine Ev.aloadN (d15 21 rfl) rfl ?_
          refine Ev.gAr V (ww hw 18 rfl) (d15 22 rfl) (j := 4) rfl ?_
          refine Ev.iloadN (d15 23 rfl) rfl ?_
          refine Ev.ial V (j := 4) rfl rfl (d15 24 rfl) b3 ?_
          refine Ev.istDN (L' := [.val (.ref o), .val (.int x1), .val (.int (s4.2 4 (ix x1))), y3, y4]) (d15 25 rfl) rfl hy2 rfl ?_
          refine Ev.iconst (z := 0) (d15 26 rfl) rfl ?_
          refine Ev.istDN (L' := [.val (.ref o), .val (.int x1), .val (.int (s4.2 4 (ix x1))), .val (.int (0 : Int32)), y4]) (d15 27 rfl) rfl hy3 rfl ?_
          refine Ev.iloadN (d15 28 rfl) rfl ?_
          refine Ev.iconst (z := 1) (d15 29 rfl) rfl ?_
          refine Ev.iadd (d15 30 rfl) ?_
          refine Ev.istD (L' := [.val (.ref o), .val (.int x1), .val (.int (s4.2 4 (ix x1))), .val (.int (0 : Int32)), .val (.int (x1 + (1 : Int32)))]) (d15 31 rfl) rfl hy4 rfl ?_
          exact e_computeSetMasks_51 hw V ih n x1 (s4.2 4 (ix x1)) (0 : Int32) (x1 + (1 : Int32)) s4  _ hr
        · replace hr := own_iq c5 hr
          refine Ev.goto (t := 103) (d15 20 rfl) rfl ?_
          refine Ev.iinc (z := 1) (L' := [.val (.ref o), .val (.int (x1 + (1 : Int32))), y2, y3, y4]) (d15 62 rfl) rfl rfl rfl ?_
          refine Ev.goto (t := 2) (d15 63 rfl) rfl ?_
          exact ih (x1 + (1 : Int32)) s4 y2 hy2 y3 hy3 y4 hy4 _ hr
      · replace hr := own_iq c2 hr
        cases hr
        exact Ev.vreturn rfl (d15 64 rfl)
    · replace hr := own_iq c1 hr
      cases hr
      exact Ev.vreturn rfl (d15 64 rfl)
def f_computeSetMasks (n : Nat) (s : St) : Option (St) :=
  f_computeSetMasks_2 n n (0 : Int32) s
set_option maxRecDepth 100000 in
theorem e_computeSetMasks {g : GT} {n : Nat} {s : St} {w : St} (hw : HW g) {K : St → MHeap} {o : Nat} {r : Nat → Nat} (V : View (GG g) Ln K o r) (hr : f_computeSetMasks n s = some w) : EvC (GG g) M_computeSetMasks [.ref o] (K s) (none, (K w)) := by
  refine EvC.enter (L0 := [.val (.ref o), .unset, .unset, .unset, .unset]) pl_computeSetMasks (fun _ => rfl) rfl rfl ?_
  unfold f_computeSetMasks at hr
  refine Ev.iconst (z := 0) (d15 0 rfl) rfl ?_
  refine Ev.istDN (L' := [.val (.ref o), .val (.int (0 : Int32)), .unset, .unset, .unset]) (d15 1 rfl) rfl rfl rfl ?_
  exact e_computeSetMasks_2 hw V  n (0 : Int32) s .unset rfl .unset rfl .unset rfl _ hr
def f_emit_17 (s : St) : Option (Int32 × St) :=
  bnd (setI s 41 ((1 : Int32) &&& 1)) fun s1 =>
  some ((32 : Int32), s1)
set_option maxRecDepth 100000 in
theorem e_emit_17 {g : GT} (hw : HW g) {K : St → MHeap} {o : Nat} {r : Nat → Nat} (V : View (GG g) Ln K o r) (s : St) (y1 : Slot) (hy1 : one1 y1 = true) (y2 : Slot) (hy2 : one1 y2 = true) (y3 : Slot) (hy3 : one1 y3 = true) (y4 : Slot) (hy4 : one1 y4 = true) (w : Int32 × St) (hr : f_emit_17 s = some w) : Ev (GG g) M_emit 17 [.val (.ref o), y1, y2, y3, y4] [] (K s) ((some (.int w.1)), (K w.2)) := by
  unfold f_emit_17 at hr
  refine Ev.aloadN (d21 7 rfl) rfl ?_
  refine Ev.iconst (z := 1) (d21 8 rfl) rfl ?_
  refine Ev.pZ V (gok hw) (ww hw 148 rfl) (Or.inl (ww hw 149 rfl)) (d21 9 rfl) (j := 41) rfl ?_
  revert hr
  generalize setI s 41 ((1 : Int32) &&& 1) = s1
  intro hr
  replace hr := (bnd_eq _ _).symm.trans hr
  refine Ev.bipush (z := 32) (d21 10 rfl) rfl ?_
  cases hr
  exact Ev.ireturn rfl (d21 11 rfl)
def f_emit (a0 a1 a2 : Int32) (s : St) : Option (Int32 × St) :=
  if (s.1 40) < 0 then
    f_emit_17 s
  else
    if (s.1 40) < (1024 : Int32) then
      grd (inb ((32 : Int32) + (s.1 40)) 1056) <|
      bnd (setA s 7 (ix ((32 : Int32) + (s.1 40))) a0) fun s4 =>
      bnd (setA s4 8 (ix ((32 : Int32) + (s.1 40))) a1) fun s5 =>
      bnd (setA s5 9 (ix ((32 : Int32) + (s.1 40))) a2) fun s6 =>
      bnd (setA s6 10 (ix ((32 : Int32) + (s.1 40))) (0 : Int32)) fun s7 =>
      bnd (setI s7 40 ((s7.1 40) + (1 : Int32))) fun s8 =>
      some (((32 : Int32) + (s.1 40)), s8)
    else
      f_emit_17 s
set_option maxRecDepth 100000 in
theorem e_emit {g : GT} {a0 : Int32} {a1 : Int32} {a2 : Int32} {s : St} {w : Int32 × St} (hw : HW g) {K : St → MHeap} {o : Nat} {r : Nat → Nat} (V : View (GG g) Ln K o r) (hr : f_emit a0 a1 a2 s = some w) : EvC (GG g) M_emit [.ref o, .int a0, .int a1, .int a2] (K s) ((some (.int w.1)), (K w.2)) := by
  refine EvC.enter (L0 := [.val (.ref o), .val (.int a0), .val (.int a1), .val (.int a2), .unset]) pl_emit (fun h => nomatch h) rfl rfl ?_
  unfold f_emit at hr
  refine Ev.aloadN (d21 0 rfl) rfl ?_
  refine Ev.gI V (ww hw 146 rfl) (d21 1 rfl) (j := 40) rfl rfl ?_
  refine Ev.iflt (t := 17) (d21 2 rfl) rfl (fun c1 => ?_) (fun c1 => ?_)
  · replace hr := own_ip c1 hr
    exact e_emit_17 hw V  s (.val (.int a0)) rfl (.val (.int a1)) rfl (.val (.int a2)) rfl .unset rfl _ hr
  · replace hr := own_iq c1 hr
    refine Ev.aloadN (d21 3 rfl) rfl ?_
    refine Ev.gI V (ww hw 146 rfl) (d21 4 rfl) (j := 40) rfl rfl ?_
    refine Ev.sipush (z := 1024) (d21 5 rfl) rfl ?_
    refine Ev.iclt (t := 25) (d21 6 rfl) rfl (fun c2 => ?_) (fun c2 => ?_)
    · replace hr := own_ip c2 hr
      refine Ev.bipush (z := 32) (d21 12 rfl) rfl ?_
      refine Ev.aloadN (d21 13 rfl) rfl ?_
      refine Ev.gI V (ww hw 146 rfl) (d21 14 rfl) (j := 40) rfl rfl ?_
      refine Ev.iadd (d21 15 rfl) ?_
      refine Ev.istD (L' := [.val (.ref o), .val (.int a0), .val (.int a1), .val (.int a2), .val (.int ((32 : Int32) + (s.1 40)))]) (d21 16 rfl) rfl rfl rfl ?_
      refine Ev.aloadN (d21 17 rfl) rfl ?_
      refine Ev.gAr V (ww hw 24 rfl) (d21 18 rfl) (j := 7) rfl ?_
      refine Ev.iload (d21 19 rfl) rfl ?_
      refine Ev.iloadN (d21 20 rfl) rfl ?_
      obtain ⟨b3, hr⟩ := grd_some hr
      refine Ev.ias V (j := 7) rfl rfl (d21 21 rfl) b3 ?_
      revert hr
      generalize setA s 7 (ix ((32 : Int32) + (s.1 40))) a0 = s4
      intro hr
      replace hr := (bnd_eq _ _).symm.trans hr
      refine Ev.aloadN (d21 22 rfl) rfl ?_
      refine Ev.gAr V (ww hw 26 rfl) (d21 23 rfl) (j := 8) rfl ?_
      refine Ev.iload (d21 24 rfl) rfl ?_
      refine Ev.iloadN (d21 25 rfl) rfl ?_
      refine Ev.ias V (j := 8) rfl rfl (d21 26 rfl) b3 ?_
      revert hr
      generalize setA s4 8 (ix ((32 : Int32) + (s.1 40))) a1 = s5
      intro hr
      replace hr := (bnd_eq _ _).symm.trans hr
      refine Ev.aloadN (d21 27 rfl) rfl ?_
      refine Ev.gAr V (ww hw 28 rfl) (d21 28 rfl) (j := 9) rfl ?_
      refine Ev.iload (d21 29 rfl) rfl ?_
      refine Ev.iloadN (d21 30 rfl) rfl ?_
      refine Ev.ias V (j := 9) rfl rfl (d21 31 rfl) b3 ?_
      revert hr
      generalize setA s5 9 (ix ((32 : Int32) + (s.1 40))) a2 = s6
      intro hr
      replace hr := (bnd_eq _ _).symm.trans hr
      refine Ev.aloadN (d21 32 rfl) rfl ?_
      refine Ev.gAr V (ww hw 30 rfl) (d21 33 rfl) (j := 10) rfl ?_
      refine Ev.iload (d21 34 rfl) rfl ?_
      refine Ev.iconst (z := 0) (d21 35 rfl) rfl ?_
      refine Ev.ias V (j := 10) rfl rfl (d21 36 rfl) b3 ?_
      revert hr
      generalize setA s6 10 (ix ((32 : Int32) + (s.1 40))) (0 : Int32) = s7
      intro hr
      replace hr := (bnd_eq _ _).symm.trans hr
      refine Ev.aloadN (d21 37 rfl) rfl ?_
      refine Ev.dup (d21 38 rfl) rfl ?_
      refine Ev.gI V (ww hw 146 rfl) (d21 39 rfl) (j := 40) rfl rfl ?_
      refine Ev.iconst (z := 1) (d21 40 rfl) rfl ?_
      refine Ev.iadd (d21 41 rfl) ?_
      refine Ev.pI V (gok hw) (ww hw 146 rfl) (Or.inl (ww hw 147 rfl)) (d21 42 rfl) (j := 40) rfl ?_
      revert hr
      generalize setI s7 40 ((s7.1 40) + (1 : Int32)) = s8
      intro hr
      replace hr := (bnd_eq _ _).symm.trans hr
      refine Ev.iload (d21 43 rfl) rfl ?_
      cases hr
      exact Ev.ireturn rfl (d21 44 rfl)
    · replace hr := own_iq c2 hr
      exact e_emit_17 hw V  s (.val (.int a0)) rfl (.val (.int a1)) rfl (.val (.int a2)) rfl .unset rfl _ hr
def f_enterLoop_9 (n : Nat) : Nat → Int32 → Int32 → Int32 → St → Option (St)
  | 0 => fun _ _ _ _ => none
  | k + 1 => fun x1 x2 x3 s =>
    if x3 < (4 : Int32) then
      if ((x2 >>> (x3 &&& 31)) &&& (1 : Int32)) = 0 then
        f_enterLoop_9 n k x1 x2 (x3 + (1 : Int32)) s
      else
        grd (inb x3 4) <|
        bnd (setA s 19 (ix x3) ((s.2 19 (ix x3)) + (1 : Int32))) fun s4 =>
        f_enterLoop_9 n k x1 x2 (x3 + (1 : Int32)) s4
    else
      grd (inb x1 32) <|
      (f_emit (13 : Int32) (s.2 1 (ix x1)) (0 : Int32) s).bind fun q6 =>
      if (q6.2.1 42) < 0 then
        some q6.2
      else
        if (q6.2.1 42) < (3 : Int32) then
          grd (inb (q6.2.1 42) 3) <|
          bnd (setA q6.2 20 (ix (q6.2.1 42)) q6.1) fun s11 =>
          grd (inb (s11.1 42) 3) <|
          bnd (setA s11 21 (ix (s11.1 42)) (s11.1 39)) fun s13 =>
          bnd (setI s13 42 ((s13.1 42) + (1 : Int32))) fun s14 =>
          some s14
        else
          some q6.2
set_option maxRecDepth 100000 in
theorem e_enterLoop_9 {g : GT} {n : Nat} (hw : HW g) {K : St → MHeap} {o : Nat} {r : Nat → Nat} (V : View (GG g) Ln K o r) (k : Nat) : ∀ (x1 x2 x3 : Int32) (s : St) (w : St), f_enterLoop_9 n k x1 x2 x3 s = some w → Ev (GG g) M_enterLoop 9 [.val (.ref o), .val (.int x1), .val (.int x2), .val (.int x3)] [] (K s) (none, (K w)) := by
  induction k with
  | zero => intro x1 x2 x3 s w hr; rw [f_enterLoop_9] at hr; cases hr
  | succ k ih =>
    intro x1 x2 x3 s w hr
    rw [f_enterLoop_9] at hr
    refine Ev.iloadN (d24 7 rfl) rfl ?_
    refine Ev.iconst (z := 4) (d24 8 rfl) rfl ?_
    refine Ev.icge (t := 42) (d24 9 rfl) rfl (fun c1 => ?_) (fun c1 => ?_)
    · replace hr := own_ip c1 hr
      refine Ev.iloadN (d24 10 rfl) rfl ?_
      refine Ev.iloadN (d24 11 rfl) rfl ?_
      refine Ev.ishr (d24 12 rfl) ?_
      refine Ev.iconst (z := 1) (d24 13 rfl) rfl ?_
      refine Ev.iand (d24 14 rfl) ?_
      refine Ev.ifeq (t := 36) (d24 15 rfl) rfl (fun c2 => ?_) (fun c2 => ?_)
      · replace hr := own_ip c2 hr
        refine Ev.iinc (z := 1) (L' := [.val (.ref o), .val (.int x1), .val (.int x2), .val (.int (x3 + (1 : Int32)))]) (d24 26 rfl) rfl rfl rfl ?_
        refine Ev.goto (t := 9) (d24 27 rfl) rfl ?_
        exact ih x1 x2 (x3 + (1 : Int32)) s  _ hr
      · replace hr := own_iq c2 hr
        refine Ev.aloadN (d24 16 rfl) rfl ?_
        refine Ev.gAr V (ww hw 48 rfl) (d24 17 rfl) (j := 19) rfl ?_
        refine Ev.iloadN (d24 18 rfl) rfl ?_
        refine Ev.aloadN (d24 19 rfl) rfl ?_
        refine Ev.gAr V (ww hw 48 rfl) (d24 20 rfl) (j := 19) rfl ?_
        refine Ev.iloadN (d24 21 rfl) rfl ?_
        obtain ⟨b3, hr⟩ := grd_some hr
        refine Ev.ial V (j := 19) rfl rfl (d24 22 rfl) b3 ?_
        refine Ev.iconst (z := 1) (d24 23 rfl) rfl ?_
        refine Ev.iadd (d24 24 rfl) ?_
        refine Ev.ias V (j := 19) rfl rfl (d24 25 rfl) b3 ?_
        revert hr
        generalize setA s 19 (ix x3) ((s.2 19 (ix x3)) + (1 : Int32)) = s4
        intro hr
        replace hr := (bnd_eq _ _).symm.trans hr
        refine Ev.iinc (z := 1) (L' := [.val (.ref o), .val (.int x1), .val (.int x2), .val (.int (x3 + (1 : Int32)))]) (d24 26 rfl) rfl rfl rfl ?_
        refine Ev.goto (t := 9) (d24 27 rfl) rfl ?_
        exact ih x1 x2 (x3 + (1 : Int32)) s4  _ hr
    · replace hr := own_iq c1 hr
      refine Ev.aloadN (d24 28 rfl) rfl ?_
      refine Ev.bipush (z := 13) (d24 29 rfl) rfl ?_
      refine Ev.aloadN (d24 30 rfl) rfl ?_
      refine Ev.gAr V (ww hw 12 rfl) (d24 31 rfl) (j := 1) rfl ?_
      refine Ev.iloadN (d24 32 rfl) rfl ?_
      obtain ⟨b5, hr⟩ := grd_some hr
      refine Ev.ial V (j := 1) rfl rfl (d24 33 rfl) b5 ?_
      refine Ev.iconst (z := 0) (d24 34 rfl) rfl ?_
      obtain ⟨q6, hq7, hr⟩ := Option.bind_eq_some_iff.mp hr
      refine Ev.priv (y := M_emit) (args := [.int (13 : Int32), .int (s.2 1 (ix x1)), .int (0 : Int32)]) (rest := []) (gok hw) rfl nm_emit (ww hw 180 rfl) (ww hw 181 rfl) (ww hw 182 rfl) (ww hw 183 rfl) (lenOf pd_emit rfl) (d24 35 rfl) (V.2.1 s) (e_emit hw V hq7) (by decide) (Nat.le_of_ble_eq_true rfl) rfl ?_
      refine Ev.istDN (L' := [.val (.ref o), .val (.int x1), .val (.int x2), .val (.int q6.1)]) (d24 36 rfl) rfl rfl rfl ?_
      refine Ev.aloadN (d24 37 rfl) rfl ?_
      refine Ev.gI V (ww hw 150 rfl) (d24 38 rfl) (j := 42) rfl rfl ?_
      refine Ev.iflt (t := 104) (d24 39 rfl) rfl (fun c8 => ?_) (fun c8 => ?_)
      · replace hr := own_ip c8 hr
        cases hr
        exact Ev.vreturn rfl (d24 63 rfl)
      · replace hr := own_iq c8 hr
        refine Ev.aloadN (d24 40 rfl) rfl ?_
        refine Ev.gI V (ww hw 150 rfl) (d24 41 rfl) (j := 42) rfl rfl ?_
        refine Ev.iconst (z := 3) (d24 42 rfl) rfl ?_
        refine Ev.icge (t := 104) (d24 43 rfl) rfl (fun c9 => ?_) (fun c9 => ?_)
        · replace hr := own_ip c9 hr
          refine Ev.aloadN (d24 44 rfl) rfl ?_
          refine Ev.gAr V (ww hw 50 rfl) (d24 45 rfl) (j := 20) rfl ?_
          refine Ev.aloadN (d24 46 rfl) rfl ?_
          refine Ev.gI V (ww hw 150 rfl) (d24 47 rfl) (j := 42) rfl rfl ?_
          refine Ev.iloadN (d24 48 rfl) rfl ?_
          obtain ⟨b10, hr⟩ := grd_some hr
          refine Ev.ias V (j := 20) rfl rfl (d24 49 rfl) b10 ?_
          revert hr
          generalize setA q6.2 20 (ix (q6.2.1 42)) q6.1 = s11
          intro hr
          replace hr := (bnd_eq _ _).symm.trans hr
          refine Ev.aloadN (d24 50 rfl) rfl ?_
          refine Ev.gAr V (ww hw 52 rfl) (d24 51 rfl) (j := 21) rfl ?_
          refine Ev.aloadN (d24 52 rfl) rfl ?_
          refine Ev.gI V (ww hw 150 rfl) (d24 53 rfl) (j := 42) rfl rfl ?_
          refine Ev.aloadN (d24 54 rfl) rfl ?_
          refine Ev.gI V (ww hw 144 rfl) (d24 55 rfl) (j := 39) rfl rfl ?_
          obtain ⟨b12, hr⟩ := grd_some hr
          refine Ev.ias V (j := 21) rfl rfl (d24 56 rfl) b12 ?_
          revert hr
          generalize setA s11 21 (ix (s11.1 42)) (s11.1 39) = s13
          intro hr
          replace hr := (bnd_eq _ _).symm.trans hr
          refine Ev.aloadN (d24 57 rfl) rfl ?_
          refine Ev.dup (d24 58 rfl) rfl ?_
          refine Ev.gI V (ww hw 150 rfl) (d24 59 rfl) (j := 42) rfl rfl ?_
          refine Ev.iconst (z := 1) (d24 60 rfl) rfl ?_
          refine Ev.iadd (d24 61 rfl) ?_
          refine Ev.pI V (gok hw) (ww hw 150 rfl) (Or.inl (ww hw 151 rfl)) (d24 62 rfl) (j := 42) rfl ?_
          revert hr
          generalize setI s13 42 ((s13.1 42) + (1 : Int32)) = s14
          intro hr
          replace hr := (bnd_eq _ _).symm.trans hr
          cases hr
          exact Ev.vreturn rfl (d24 63 rfl)
        · replace hr := own_iq c9 hr
          cases hr
          exact Ev.vreturn rfl (d24 63 rfl)
def f_enterLoop (n : Nat) (a0 : Int32) (s : St) : Option (St) :=
  grd (inb a0 32) <|
  f_enterLoop_9 n n a0 (s.2 18 (ix a0)) (0 : Int32) s
set_option maxRecDepth 100000 in
theorem e_enterLoop {g : GT} {n : Nat} {a0 : Int32} {s : St} {w : St} (hw : HW g) {K : St → MHeap} {o : Nat} {r : Nat → Nat} (V : View (GG g) Ln K o r) (hr : f_enterLoop n a0 s = some w) : EvC (GG g) M_enterLoop [.ref o, .int a0] (K s) (none, (K w)) := by
  refine EvC.enter (L0 := [.val (.ref o), .val (.int a0), .unset, .unset]) pl_enterLoop (fun _ => rfl) rfl rfl ?_
  unfold f_enterLoop at hr
  refine Ev.aloadN (d24 0 rfl) rfl ?_
  refine Ev.gAr V (ww hw 46 rfl) (d24 1 rfl) (j := 18) rfl ?_
  refine Ev.iloadN (d24 2 rfl) rfl ?_
  obtain ⟨b1, hr⟩ := grd_some hr
  refine Ev.ial V (j := 18) rfl rfl (d24 3 rfl) b1 ?_
  refine Ev.istDN (L' := [.val (.ref o), .val (.int a0), .val (.int (s.2 18 (ix a0))), .unset]) (d24 4 rfl) rfl rfl rfl ?_
  refine Ev.iconst (z := 0) (d24 5 rfl) rfl ?_
  refine Ev.istDN (L' := [.val (.ref o), .val (.int a0), .val (.int (s.2 18 (ix a0))), .val (.int (0 : Int32))]) (d24 6 rfl) rfl rfl rfl ?_
  exact e_enterLoop_9 hw V  n a0 (s.2 18 (ix a0)) (0 : Int32) s  _ hr
def f_leaveLoop_63 (n : Nat) (s : St) : Option (St) :=
  grd (inb (s.1 42) 3) <|
  (f_undoHash n (s.2 21 (ix (s.1 42))) s).bind fun q2 =>
  some q2
set_option maxRecDepth 100000 in
theorem e_leaveLoop_63 {g : GT} {n : Nat} (hw : HW g) {K : St → MHeap} {o : Nat} {r : Nat → Nat} (V : View (GG g) Ln K o r) (s : St) (y1 : Slot) (hy1 : one1 y1 = true) (y2 : Slot) (hy2 : one1 y2 = true) (w : St) (hr : f_leaveLoop_63 n s = some w) : Ev (GG g) M_leaveLoop 63 [.val (.ref o), y1, y2] [] (K s) (none, (K w)) := by
  unfold f_leaveLoop_63 at hr
  refine Ev.aloadN (d49 36 rfl) rfl ?_
  refine Ev.aloadN (d49 37 rfl) rfl ?_
  refine Ev.gAr V (ww hw 52 rfl) (d49 38 rfl) (j := 21) rfl ?_
  refine Ev.aloadN (d49 39 rfl) rfl ?_
  refine Ev.gI V (ww hw 150 rfl) (d49 40 rfl) (j := 42) rfl rfl ?_
  obtain ⟨b1, hr⟩ := grd_some hr
  refine Ev.ial V (j := 21) rfl rfl (d49 41 rfl) b1 ?_
  obtain ⟨q2, hq3, hr⟩ := Option.bind_eq_some_iff.mp hr
  refine Ev.priv (y := M_undoHash) (args := [.int (s.2 21 (ix (s.1 42)))]) (rest := []) (gok hw) rfl nm_undoHash (ww hw 140 rfl) (ww hw 141 rfl) (ww hw 142 rfl) (ww hw 143 rfl) (lenOf pd_undoHash rfl) (d49 42 rfl) (V.2.1 s) (e_undoHash hw V hq3) (by decide) (Nat.le_of_ble_eq_true rfl) rfl ?_
  cases hr
  exact Ev.vreturn rfl (d49 43 rfl)
def f_leaveLoop (n : Nat) (s : St) : Option (St) :=
  if 0 < (s.1 42) then
    if (3 : Int32) < (s.1 42) then
      some s
    else
      bnd (setI s 42 ((s.1 42) - (1 : Int32))) fun s3 =>
      grd (inb (s3.1 42) 3) <|
      (f_emit (14 : Int32) (s3.2 20 (ix (s3.1 42))) (0 : Int32) s3).bind fun q5 =>
      if (s3.2 20 (ix (s3.1 42))) < 0 then
        f_leaveLoop_63 n q5.2
      else
        if (s3.2 20 (ix (s3.1 42))) < (1056 : Int32) then
          grd (inb (s3.2 20 (ix (s3.1 42))) 1056) <|
          bnd (setA q5.2 9 (ix (s3.2 20 (ix (s3.1 42)))) q5.1) fun s10 =>
          f_leaveLoop_63 n s10
        else
          f_leaveLoop_63 n q5.2
  else
    some s
set_option maxRecDepth 100000 in
theorem e_leaveLoop {g : GT} {n : Nat} {s : St} {w : St} (hw : HW g) {K : St → MHeap} {o : Nat} {r : Nat → Nat} (V : View (GG g) Ln K o r) (hr : f_leaveLoop n s = some w) : EvC (GG g) M_leaveLoop [.ref o] (K s) (none, (K w)) := by
  refine EvC.enter (L0 := [.val (.ref o), .unset, .unset]) pl_leaveLoop (fun _ => rfl) rfl rfl ?_
  unfold f_leaveLoop at hr
  refine Ev.aloadN (d49 0 rfl) rfl ?_
  refine Ev.gI V (ww hw 150 rfl) (d49 1 rfl) (j := 42) rfl rfl ?_
  refine Ev.ifle (t := 15) (d49 2 rfl) rfl (fun c1 => ?_) (fun c1 => ?_)
  · replace hr := own_ip c1 hr
    refine Ev.aloadN (d49 3 rfl) rfl ?_
    refine Ev.gI V (ww hw 150 rfl) (d49 4 rfl) (j := 42) rfl rfl ?_
    refine Ev.iconst (z := 3) (d49 5 rfl) rfl ?_
    refine Ev.icle (t := 16) (d49 6 rfl) rfl (fun c2 => ?_) (fun c2 => ?_)
    · replace hr := own_ip c2 hr
      cases hr
      exact Ev.vreturn rfl (d49 7 rfl)
    · replace hr := own_iq c2 hr
      refine Ev.aloadN (d49 8 rfl) rfl ?_
      refine Ev.dup (d49 9 rfl) rfl ?_
      refine Ev.gI V (ww hw 150 rfl) (d49 10 rfl) (j := 42) rfl rfl ?_
      refine Ev.iconst (z := 1) (d49 11 rfl) rfl ?_
      refine Ev.isub (d49 12 rfl) ?_
      refine Ev.pI V (gok hw) (ww hw 150 rfl) (Or.inl (ww hw 151 rfl)) (d49 13 rfl) (j := 42) rfl ?_
      revert hr
      generalize setI s 42 ((s.1 42) - (1 : Int32)) = s3
      intro hr
      replace hr := (bnd_eq _ _).symm.trans hr
      refine Ev.aloadN (d49 14 rfl) rfl ?_
      refine Ev.gAr V (ww hw 50 rfl) (d49 15 rfl) (j := 20) rfl ?_
      refine Ev.aloadN (d49 16 rfl) rfl ?_
      refine Ev.gI V (ww hw 150 rfl) (d49 17 rfl) (j := 42) rfl rfl ?_
      obtain ⟨b4, hr⟩ := grd_some hr
      refine Ev.ial V (j := 20) rfl rfl (d49 18 rfl) b4 ?_
      refine Ev.istDN (L' := [.val (.ref o), .val (.int (s3.2 20 (ix (s3.1 42)))), .unset]) (d49 19 rfl) rfl rfl rfl ?_
      refine Ev.aloadN (d49 20 rfl) rfl ?_
      refine Ev.bipush (z := 14) (d49 21 rfl) rfl ?_
      refine Ev.iloadN (d49 22 rfl) rfl ?_
      refine Ev.iconst (z := 0) (d49 23 rfl) rfl ?_
      obtain ⟨q5, hq6, hr⟩ := Option.bind_eq_some_iff.mp hr
      refine Ev.priv (y := M_emit) (args := [.int (14 : Int32), .int (s3.2 20 (ix (s3.1 42))), .int (0 : Int32)]) (rest := []) (gok hw) rfl nm_emit (ww hw 180 rfl) (ww hw 181 rfl) (ww hw 182 rfl) (ww hw 183 rfl) (lenOf pd_emit rfl) (d49 24 rfl) (V.2.1 s3) (e_emit hw V hq6) (by decide) (Nat.le_of_ble_eq_true rfl) rfl ?_
      refine Ev.istDN (L' := [.val (.ref o), .val (.int (s3.2 20 (ix (s3.1 42)))), .val (.int q5.1)]) (d49 25 rfl) rfl rfl rfl ?_
      refine Ev.iloadN (d49 26 rfl) rfl ?_
      refine Ev.iflt (t := 63) (d49 27 rfl) rfl (fun c7 => ?_) (fun c7 => ?_)
      · replace hr := own_ip c7 hr
        exact e_leaveLoop_63 hw V  q5.2 (.val (.int (s3.2 20 (ix (s3.1 42))))) rfl (.val (.int q5.1)) rfl _ hr
      · replace hr := own_iq c7 hr
        refine Ev.iloadN (d49 28 rfl) rfl ?_
        refine Ev.sipush (z := 1056) (d49 29 rfl) rfl ?_
        refine Ev.icge (t := 63) (d49 30 rfl) rfl (fun c8 => ?_) (fun c8 => ?_)
        · replace hr := own_ip c8 hr
          refine Ev.aloadN (d49 31 rfl) rfl ?_
          refine Ev.gAr V (ww hw 28 rfl) (d49 32 rfl) (j := 9) rfl ?_
          refine Ev.iloadN (d49 33 rfl) rfl ?_
          refine Ev.iloadN (d49 34 rfl) rfl ?_
          obtain ⟨b9, hr⟩ := grd_some hr
          refine Ev.ias V (j := 9) rfl rfl (d49 35 rfl) b9 ?_
          revert hr
          generalize setA q5.2 9 (ix (s3.2 20 (ix (s3.1 42)))) q5.1 = s10
          intro hr
          replace hr := (bnd_eq _ _).symm.trans hr
          exact e_leaveLoop_63 hw V  s10 (.val (.int (s3.2 20 (ix (s3.1 42))))) rfl (.val (.int q5.1)) rfl _ hr
        · replace hr := own_iq c8 hr
          exact e_leaveLoop_63 hw V  q5.2 (.val (.int (s3.2 20 (ix (s3.1 42))))) rfl (.val (.int q5.1)) rfl _ hr
  · replace hr := own_iq c1 hr
    cases hr
    exact Ev.vreturn rfl (d49 7 rfl)
def f_mapAt (s : St) (a0 : Int32) : Option (Int32) :=
  if a0 < 0 then
    some (32 : Int32)
  else
    if a0 < (32 : Int32) then
      grd (inb a0 32) <|
      some (s.2 17 (ix a0))
    else
      some (32 : Int32)
set_option maxRecDepth 100000 in
theorem e_mapAt {g : GT} {s : St} {a0 : Int32} {w : Int32} (hw : HW g) {K : St → MHeap} {o : Nat} {r : Nat → Nat} (V : View (GG g) Ln K o r) (hr : f_mapAt s a0 = some w) : EvC (GG g) M_mapAt [.ref o, .int a0] (K s) ((some (.int w)), (K s)) := by
  refine EvC.enter (L0 := [.val (.ref o), .val (.int a0)]) pl_mapAt (fun h => nomatch h) rfl rfl ?_
  unfold f_mapAt at hr
  refine Ev.iloadN (d30 0 rfl) rfl ?_
  refine Ev.iflt (t := 10) (d30 1 rfl) rfl (fun c1 => ?_) (fun c1 => ?_)
  · replace hr := own_ip c1 hr
    refine Ev.bipush (z := 32) (d30 5 rfl) rfl ?_
    cases hr
    exact Ev.ireturn rfl (d30 6 rfl)
  · replace hr := own_iq c1 hr
    refine Ev.iloadN (d30 2 rfl) rfl ?_
    refine Ev.bipush (z := 32) (d30 3 rfl) rfl ?_
    refine Ev.iclt (t := 13) (d30 4 rfl) rfl (fun c2 => ?_) (fun c2 => ?_)
    · replace hr := own_ip c2 hr
      refine Ev.aloadN (d30 7 rfl) rfl ?_
      refine Ev.gAr V (ww hw 44 rfl) (d30 8 rfl) (j := 17) rfl ?_
      refine Ev.iloadN (d30 9 rfl) rfl ?_
      obtain ⟨b3, hr⟩ := grd_some hr
      refine Ev.ial V (j := 17) rfl rfl (d30 10 rfl) b3 ?_
      cases hr
      exact Ev.ireturn rfl (d30 11 rfl)
    · replace hr := own_iq c2 hr
      refine Ev.bipush (z := 32) (d30 5 rfl) rfl ?_
      cases hr
      exact Ev.ireturn rfl (d30 6 rfl)
def f_translateSet (a0 : Int32) (s : St) : Option (St) :=
  grd (inb a0 32) <|
  (f_mapAt s (s.2 2 (ix a0))).bind fun q2 =>
  (f_emit (11 : Int32) ((s.2 1 (ix a0)) &&& (3 : Int32)) q2 s).bind fun q4 =>
  grd (inb ((s.2 1 (ix a0)) &&& (3 : Int32)) 4) <|
  bnd (setA q4.2 19 (ix ((s.2 1 (ix a0)) &&& (3 : Int32))) ((q4.2.2 19 (ix ((s.2 1 (ix a0)) &&& (3 : Int32)))) + (1 : Int32))) fun s7 =>
  some s7
set_option maxRecDepth 100000 in
theorem e_translateSet {g : GT} {a0 : Int32} {s : St} {w : St} (hw : HW g) {K : St → MHeap} {o : Nat} {r : Nat → Nat} (V : View (GG g) Ln K o r) (hr : f_translateSet a0 s = some w) : EvC (GG g) M_translateSet [.ref o, .int a0] (K s) (none, (K w)) := by
  refine EvC.enter (L0 := [.val (.ref o), .val (.int a0), .unset, .unset]) pl_translateSet (fun _ => rfl) rfl rfl ?_
  unfold f_translateSet at hr
  refine Ev.aloadN (d48 0 rfl) rfl ?_
  refine Ev.gAr V (ww hw 12 rfl) (d48 1 rfl) (j := 1) rfl ?_
  refine Ev.iloadN (d48 2 rfl) rfl ?_
  obtain ⟨b1, hr⟩ := grd_some hr
  refine Ev.ial V (j := 1) rfl rfl (d48 3 rfl) b1 ?_
  refine Ev.iconst (z := 3) (d48 4 rfl) rfl ?_
  refine Ev.iand (d48 5 rfl) ?_
  refine Ev.istDN (L' := [.val (.ref o), .val (.int a0), .val (.int ((s.2 1 (ix a0)) &&& (3 : Int32))), .unset]) (d48 6 rfl) rfl rfl rfl ?_
  refine Ev.aloadN (d48 7 rfl) rfl ?_
  refine Ev.aloadN (d48 8 rfl) rfl ?_
  refine Ev.gAr V (ww hw 14 rfl) (d48 9 rfl) (j := 2) rfl ?_
  refine Ev.iloadN (d48 10 rfl) rfl ?_
  refine Ev.ial V (j := 2) rfl rfl (d48 11 rfl) b1 ?_
  obtain ⟨q2, hq3, hr⟩ := Option.bind_eq_some_iff.mp hr
  refine Ev.priv (y := M_mapAt) (args := [.int (s.2 2 (ix a0))]) (rest := []) (gok hw) rfl nm_mapAt (ww hw 220 rfl) (ww hw 221 rfl) (ww hw 222 rfl) (ww hw 223 rfl) (lenOf pd_mapAt rfl) (d48 12 rfl) (V.2.1 s) (e_mapAt hw V hq3) (by decide) (Nat.le_of_ble_eq_true rfl) rfl ?_
  refine Ev.istDN (L' := [.val (.ref o), .val (.int a0), .val (.int ((s.2 1 (ix a0)) &&& (3 : Int32))), .val (.int q2)]) (d48 13 rfl) rfl rfl rfl ?_
  refine Ev.aloadN (d48 14 rfl) rfl ?_
  refine Ev.bipush (z := 11) (d48 15 rfl) rfl ?_
  refine Ev.iloadN (d48 16 rfl) rfl ?_
  refine Ev.iloadN (d48 17 rfl) rfl ?_
  obtain ⟨q4, hq5, hr⟩ := Option.bind_eq_some_iff.mp hr
  refine Ev.priv (y := M_emit) (args := [.int (11 : Int32), .int ((s.2 1 (ix a0)) &&& (3 : Int32)), .int q2]) (rest := []) (gok hw) rfl nm_emit (ww hw 180 rfl) (ww hw 181 rfl) (ww hw 182 rfl) (ww hw 183 rfl) (lenOf pd_emit rfl) (d48 18 rfl) (V.2.1 s) (e_emit hw V hq5) (by decide) (Nat.le_of_ble_eq_true rfl) rfl ?_
  refine Ev.pop (d48 19 rfl) rfl ?_
  refine Ev.aloadN (d48 20 rfl) rfl ?_
  refine Ev.gAr V (ww hw 48 rfl) (d48 21 rfl) (j := 19) rfl ?_
  refine Ev.iloadN (d48 22 rfl) rfl ?_
  refine Ev.aloadN (d48 23 rfl) rfl ?_
  refine Ev.gAr V (ww hw 48 rfl) (d48 24 rfl) (j := 19) rfl ?_
  refine Ev.iloadN (d48 25 rfl) rfl ?_
  obtain ⟨b6, hr⟩ := grd_some hr
  refine Ev.ial V (j := 19) rfl rfl (d48 26 rfl) b6 ?_
  refine Ev.iconst (z := 1) (d48 27 rfl) rfl ?_
  refine Ev.iadd (d48 28 rfl) ?_
  refine Ev.ias V (j := 19) rfl rfl (d48 29 rfl) b6 ?_
  revert hr
  generalize setA q4.2 19 (ix ((s.2 1 (ix a0)) &&& (3 : Int32))) ((q4.2.2 19 (ix ((s.2 1 (ix a0)) &&& (3 : Int32)))) + (1 : Int32)) = s7
  intro hr
  replace hr := (bnd_eq _ _).symm.trans hr
  cases hr
  exact Ev.vreturn rfl (d48 30 rfl)
def f_hashOf (s : St) (a0 a1 a2 : Int32) : Option (Int32) :=
  bnd ((a0 * (-1640531535 : Int32)) + (a1 * (-2048144789 : Int32))) fun v1 =>
  bnd ((v1 ^^^ (a2 * (-1028477387 : Int32))) ^^^ (XT.ushr (v1 ^^^ (a2 * (-1028477387 : Int32))) (15 : Int32))) fun v2 =>
  bnd ((v2 * (739982445 : Int32)) ^^^ (XT.ushr (v2 * (739982445 : Int32)) (13 : Int32))) fun v3 =>
  some (v3 &&& (2047 : Int32))
set_option maxRecDepth 100000 in
theorem e_hashOf {g : GT} {s : St} {a0 : Int32} {a1 : Int32} {a2 : Int32} {w : Int32} (hw : HW g) {K : St → MHeap} {o : Nat} {r : Nat → Nat} (V : View (GG g) Ln K o r) (hr : f_hashOf s a0 a1 a2 = some w) : EvC (GG g) M_hashOf [.ref o, .int a0, .int a1, .int a2] (K s) ((some (.int w)), (K s)) := by
  refine EvC.enter (L0 := [.val (.ref o), .val (.int a0), .val (.int a1), .val (.int a2), .unset]) pl_hashOf (fun h => nomatch h) rfl rfl ?_
  unfold f_hashOf at hr
  refine Ev.iloadN (d20 0 rfl) rfl ?_
  refine Ev.ldcW (ww hw 176 rfl) (d20 1 rfl) ?_
  refine Ev.imul (d20 2 rfl) ?_
  refine Ev.iloadN (d20 3 rfl) rfl ?_
  refine Ev.ldcW (ww hw 177 rfl) (d20 4 rfl) ?_
  refine Ev.imul (d20 5 rfl) ?_
  refine Ev.iadd (d20 6 rfl) ?_
  revert hr
  generalize ((a0 * (-1640531535 : Int32)) + (a1 * (-2048144789 : Int32))) = v1
  intro hr
  replace hr := (bnd_eq _ _).symm.trans hr
  refine Ev.istD (L' := [.val (.ref o), .val (.int a0), .val (.int a1), .val (.int a2), .val (.int v1)]) (d20 7 rfl) rfl rfl rfl ?_
  refine Ev.iload (d20 8 rfl) rfl ?_
  refine Ev.iloadN (d20 9 rfl) rfl ?_
  refine Ev.ldcW (ww hw 178 rfl) (d20 10 rfl) ?_
  refine Ev.imul (d20 11 rfl) ?_
  refine Ev.ixor (d20 12 rfl) ?_
  refine Ev.istD (L' := [.val (.ref o), .val (.int a0), .val (.int a1), .val (.int a2), .val (.int (v1 ^^^ (a2 * (-1028477387 : Int32))))]) (d20 13 rfl) rfl rfl rfl ?_
  refine Ev.iload (d20 14 rfl) rfl ?_
  refine Ev.iload (d20 15 rfl) rfl ?_
  refine Ev.bipush (z := 15) (d20 16 rfl) rfl ?_
  refine Ev.iushr (d20 17 rfl) ?_
  refine Ev.ixor (d20 18 rfl) ?_
  revert hr
  generalize ((v1 ^^^ (a2 * (-1028477387 : Int32))) ^^^ (XT.ushr (v1 ^^^ (a2 * (-1028477387 : Int32))) (15 : Int32))) = v2
  intro hr
  replace hr := (bnd_eq _ _).symm.trans hr
  refine Ev.istD (L' := [.val (.ref o), .val (.int a0), .val (.int a1), .val (.int a2), .val (.int v2)]) (d20 19 rfl) rfl rfl rfl ?_
  refine Ev.iload (d20 20 rfl) rfl ?_
  refine Ev.ldcW (ww hw 179 rfl) (d20 21 rfl) ?_
  refine Ev.imul (d20 22 rfl) ?_
  refine Ev.istD (L' := [.val (.ref o), .val (.int a0), .val (.int a1), .val (.int a2), .val (.int (v2 * (739982445 : Int32)))]) (d20 23 rfl) rfl rfl rfl ?_
  refine Ev.iload (d20 24 rfl) rfl ?_
  refine Ev.iload (d20 25 rfl) rfl ?_
  refine Ev.bipush (z := 13) (d20 26 rfl) rfl ?_
  refine Ev.iushr (d20 27 rfl) ?_
  refine Ev.ixor (d20 28 rfl) ?_
  revert hr
  generalize ((v2 * (739982445 : Int32)) ^^^ (XT.ushr (v2 * (739982445 : Int32)) (13 : Int32))) = v3
  intro hr
  replace hr := (bnd_eq _ _).symm.trans hr
  refine Ev.istD (L' := [.val (.ref o), .val (.int a0), .val (.int a1), .val (.int a2), .val (.int v3)]) (d20 29 rfl) rfl rfl rfl ?_
  refine Ev.iload (d20 30 rfl) rfl ?_
  refine Ev.sipush (z := 2047) (d20 31 rfl) rfl ?_
  refine Ev.iand (d20 32 rfl) ?_
  cases hr
  exact Ev.ireturn rfl (d20 33 rfl)
def f_lookup_17 (n : Nat) : Nat → Int32 → Int32 → Int32 → Int32 → Int32 → St → Option (Int32 × St)
  | 0 => fun _ _ _ _ _ _ => none
  | k + 1 => fun x1 x2 x3 x4 x5 s =>
    if x5 < (2048 : Int32) then
      grd (inb ((x4 + x5) &&& (2047 : Int32)) 2048) <|
      if (s.2 31 (ix ((x4 + x5) &&& (2047 : Int32)))) = 0 then
        bnd (setI s 34 ((x4 + x5) &&& (2047 : Int32))) fun s4 =>
        some ((-1 : Int32), s4)
      else
        if (s.2 27 (ix ((x4 + x5) &&& (2047 : Int32)))) = x1 then
          if (s.2 28 (ix ((x4 + x5) &&& (2047 : Int32)))) = x2 then
            if (s.2 29 (ix ((x4 + x5) &&& (2047 : Int32)))) = x3 then
              some ((s.2 30 (ix ((x4 + x5) &&& (2047 : Int32)))), s)
            else
              f_lookup_17 n k x1 x2 x3 x4 (x5 + (1 : Int32)) s
          else
            f_lookup_17 n k x1 x2 x3 x4 (x5 + (1 : Int32)) s
        else
          f_lookup_17 n k x1 x2 x3 x4 (x5 + (1 : Int32)) s
    else
      some ((-1 : Int32), s)
set_option maxRecDepth 100000 in
theorem e_lookup_17 {g : GT} {n : Nat} (hw : HW g) {K : St → MHeap} {o : Nat} {r : Nat → Nat} (V : View (GG g) Ln K o r) (k : Nat) : ∀ (x1 x2 x3 x4 x5 : Int32) (s : St) (y6 : Slot) (hy6 : one1 y6 = true) (w : Int32 × St), f_lookup_17 n k x1 x2 x3 x4 x5 s = some w → Ev (GG g) M_lookup 17 [.val (.ref o), .val (.int x1), .val (.int x2), .val (.int x3), .val (.int x4), .val (.int x5), y6] [] (K s) ((some (.int w.1)), (K w.2)) := by
  induction k with
  | zero => intro x1 x2 x3 x4 x5 s y6 hy6 w hr; rw [f_lookup_17] at hr; cases hr
  | succ k ih =>
    intro x1 x2 x3 x4 x5 s y6 hy6 w hr
    rw [f_lookup_17] at hr
    refine Ev.iload (d19 11 rfl) rfl ?_
    refine Ev.sipush (z := 2048) (d19 12 rfl) rfl ?_
    refine Ev.icge (t := 101) (d19 13 rfl) rfl (fun c1 => ?_) (fun c1 => ?_)
    · replace hr := own_ip c1 hr
      refine Ev.iload (d19 14 rfl) rfl ?_
      refine Ev.iload (d19 15 rfl) rfl ?_
      refine Ev.iadd (d19 16 rfl) ?_
      refine Ev.sipush (z := 2047) (d19 17 rfl) rfl ?_
      refine Ev.iand (d19 18 rfl) ?_
      refine Ev.istD (L' := [.val (.ref o), .val (.int x1), .val (.int x2), .val (.int x3), .val (.int x4), .val (.int x5), .val (.int ((x4 + x5) &&& (2047 : Int32)))]) (d19 19 rfl) rfl hy6 rfl ?_
      refine Ev.aloadN (d19 20 rfl) rfl ?_
      refine Ev.gAr V (ww hw 73 rfl) (d19 21 rfl) (j := 31) rfl ?_
      refine Ev.iload (d19 22 rfl) rfl ?_
      obtain ⟨b2, hr⟩ := grd_some hr
      refine Ev.bal V (j := 31) rfl rfl (d19 23 rfl) b2 ?_
      refine Ev.ifne (t := 54) (d19 24 rfl) rfl (fun c3 => ?_) (fun c3 => ?_)
      · replace hr := own_ip c3 hr
        refine Ev.aloadN (d19 25 rfl) rfl ?_
        refine Ev.iload (d19 26 rfl) rfl ?_
        refine Ev.pI V (gok hw) (ww hw 79 rfl) (Or.inl (ww hw 80 rfl)) (d19 27 rfl) (j := 34) rfl ?_
        revert hr
        generalize setI s 34 ((x4 + x5) &&& (2047 : Int32)) = s4
        intro hr
        replace hr := (bnd_eq _ _).symm.trans hr
        refine Ev.iconst (z := -1) (d19 28 rfl) rfl ?_
        cases hr
        exact Ev.ireturn rfl (d19 29 rfl)
      · replace hr := own_iq c3 hr
        refine Ev.aloadN (d19 30 rfl) rfl ?_
        refine Ev.gAr V (ww hw 65 rfl) (d19 31 rfl) (j := 27) rfl ?_
        refine Ev.iload (d19 32 rfl) rfl ?_
        refine Ev.ial V (j := 27) rfl rfl (d19 33 rfl) b2 ?_
        refine Ev.iloadN (d19 34 rfl) rfl ?_
        refine Ev.icne (t := 95) (d19 35 rfl) rfl (fun c5 => ?_) (fun c5 => ?_)
        · replace hr := own_ip c5 hr
          refine Ev.aloadN (d19 36 rfl) rfl ?_
          refine Ev.gAr V (ww hw 67 rfl) (d19 37 rfl) (j := 28) rfl ?_
          refine Ev.iload (d19 38 rfl) rfl ?_
          refine Ev.ial V (j := 28) rfl rfl (d19 39 rfl) b2 ?_
          refine Ev.iloadN (d19 40 rfl) rfl ?_
          refine Ev.icne (t := 95) (d19 41 rfl) rfl (fun c6 => ?_) (fun c6 => ?_)
          · replace hr := own_ip c6 hr
            refine Ev.aloadN (d19 42 rfl) rfl ?_
            refine Ev.gAr V (ww hw 69 rfl) (d19 43 rfl) (j := 29) rfl ?_
            refine Ev.iload (d19 44 rfl) rfl ?_
            refine Ev.ial V (j := 29) rfl rfl (d19 45 rfl) b2 ?_
            refine Ev.iloadN (d19 46 rfl) rfl ?_
            refine Ev.icne (t := 95) (d19 47 rfl) rfl (fun c7 => ?_) (fun c7 => ?_)
            · replace hr := own_ip c7 hr
              refine Ev.aloadN (d19 48 rfl) rfl ?_
              refine Ev.gAr V (ww hw 71 rfl) (d19 49 rfl) (j := 30) rfl ?_
              refine Ev.iload (d19 50 rfl) rfl ?_
              refine Ev.ial V (j := 30) rfl rfl (d19 51 rfl) b2 ?_
              cases hr
              exact Ev.ireturn rfl (d19 52 rfl)
            · replace hr := own_iq c7 hr
              refine Ev.iinc (z := 1) (L' := [.val (.ref o), .val (.int x1), .val (.int x2), .val (.int x3), .val (.int x4), .val (.int (x5 + (1 : Int32))), .val (.int ((x4 + x5) &&& (2047 : Int32)))]) (d19 53 rfl) rfl rfl rfl ?_
              refine Ev.goto (t := 17) (d19 54 rfl) rfl ?_
              exact ih x1 x2 x3 x4 (x5 + (1 : Int32)) s (.val (.int ((x4 + x5) &&& (2047 : Int32)))) rfl _ hr
          · replace hr := own_iq c6 hr
            refine Ev.iinc (z := 1) (L' := [.val (.ref o), .val (.int x1), .val (.int x2), .val (.int x3), .val (.int x4), .val (.int (x5 + (1 : Int32))), .val (.int ((x4 + x5) &&& (2047 : Int32)))]) (d19 53 rfl) rfl rfl rfl ?_
            refine Ev.goto (t := 17) (d19 54 rfl) rfl ?_
            exact ih x1 x2 x3 x4 (x5 + (1 : Int32)) s (.val (.int ((x4 + x5) &&& (2047 : Int32)))) rfl _ hr
        · replace hr := own_iq c5 hr
          refine Ev.iinc (z := 1) (L' := [.val (.ref o), .val (.int x1), .val (.int x2), .val (.int x3), .val (.int x4), .val (.int (x5 + (1 : Int32))), .val (.int ((x4 + x5) &&& (2047 : Int32)))]) (d19 53 rfl) rfl rfl rfl ?_
          refine Ev.goto (t := 17) (d19 54 rfl) rfl ?_
          exact ih x1 x2 x3 x4 (x5 + (1 : Int32)) s (.val (.int ((x4 + x5) &&& (2047 : Int32)))) rfl _ hr
    · replace hr := own_iq c1 hr
      refine Ev.iconst (z := -1) (d19 55 rfl) rfl ?_
      cases hr
      exact Ev.ireturn rfl (d19 56 rfl)
def f_lookup (n : Nat) (a0 a1 a2 : Int32) (s : St) : Option (Int32 × St) :=
  (f_hashOf s a0 a1 a2).bind fun q1 =>
  bnd (setI s 34 (-1 : Int32)) fun s3 =>
  f_lookup_17 n n a0 a1 a2 q1 (0 : Int32) s3
set_option maxRecDepth 100000 in
theorem e_lookup {g : GT} {n : Nat} {a0 : Int32} {a1 : Int32} {a2 : Int32} {s : St} {w : Int32 × St} (hw : HW g) {K : St → MHeap} {o : Nat} {r : Nat → Nat} (V : View (GG g) Ln K o r) (hr : f_lookup n a0 a1 a2 s = some w) : EvC (GG g) M_lookup [.ref o, .int a0, .int a1, .int a2] (K s) ((some (.int w.1)), (K w.2)) := by
  refine EvC.enter (L0 := [.val (.ref o), .val (.int a0), .val (.int a1), .val (.int a2), .unset, .unset, .unset]) pl_lookup (fun h => nomatch h) rfl rfl ?_
  unfold f_lookup at hr
  refine Ev.aloadN (d19 0 rfl) rfl ?_
  refine Ev.iloadN (d19 1 rfl) rfl ?_
  refine Ev.iloadN (d19 2 rfl) rfl ?_
  refine Ev.iloadN (d19 3 rfl) rfl ?_
  obtain ⟨q1, hq2, hr⟩ := Option.bind_eq_some_iff.mp hr
  refine Ev.priv (y := M_hashOf) (args := [.int a0, .int a1, .int a2]) (rest := []) (gok hw) rfl nm_hashOf (ww hw 172 rfl) (ww hw 173 rfl) (ww hw 174 rfl) (ww hw 175 rfl) (lenOf pd_hashOf rfl) (d19 4 rfl) (V.2.1 s) (e_hashOf hw V hq2) (by decide) (Nat.le_of_ble_eq_true rfl) rfl ?_
  refine Ev.istD (L' := [.val (.ref o), .val (.int a0), .val (.int a1), .val (.int a2), .val (.int q1), .unset, .unset]) (d19 5 rfl) rfl rfl rfl ?_
  refine Ev.aloadN (d19 6 rfl) rfl ?_
  refine Ev.iconst (z := -1) (d19 7 rfl) rfl ?_
  refine Ev.pI V (gok hw) (ww hw 79 rfl) (Or.inl (ww hw 80 rfl)) (d19 8 rfl) (j := 34) rfl ?_
  revert hr
  generalize setI s 34 (-1 : Int32) = s3
  intro hr
  replace hr := (bnd_eq _ _).symm.trans hr
  refine Ev.iconst (z := 0) (d19 9 rfl) rfl ?_
  refine Ev.istD (L' := [.val (.ref o), .val (.int a0), .val (.int a1), .val (.int a2), .val (.int q1), .val (.int (0 : Int32)), .unset]) (d19 10 rfl) rfl rfl rfl ?_
  exact e_lookup_17 hw V  n a0 a1 a2 q1 (0 : Int32) s3 .unset rfl _ hr
def f_insert (a0 a1 a2 a3 : Int32) (s : St) : Option (St) :=
  bnd (setI s 34 (-1 : Int32)) fun s1 =>
  if (s.1 34) < 0 then
    some s1
  else
    if (s.1 34) < (2048 : Int32) then
      if (s1.1 39) < 0 then
        some s1
      else
        if (s1.1 39) < (1024 : Int32) then
          grd (inb (s.1 34) 2048) <|
          bnd (setA s1 27 (ix (s.1 34)) a0) fun s7 =>
          bnd (setA s7 28 (ix (s.1 34)) a1) fun s8 =>
          bnd (setA s8 29 (ix (s.1 34)) a2) fun s9 =>
          bnd (setA s9 30 (ix (s.1 34)) a3) fun s10 =>
          bnd (setA s10 31 (ix (s.1 34)) ((1 : Int32) &&& 1)) fun s11 =>
          grd (inb (s11.1 39) 1024) <|
          bnd (setA s11 32 (ix (s11.1 39)) (s.1 34)) fun s13 =>
          bnd (setI s13 39 ((s13.1 39) + (1 : Int32))) fun s14 =>
          some s14
        else
          some s1
    else
      some s1
set_option maxRecDepth 100000 in
theorem e_insert {g : GT} {a0 : Int32} {a1 : Int32} {a2 : Int32} {a3 : Int32} {s : St} {w : St} (hw : HW g) {K : St → MHeap} {o : Nat} {r : Nat → Nat} (V : View (GG g) Ln K o r) (hr : f_insert a0 a1 a2 a3 s = some w) : EvC (GG g) M_insert [.ref o, .int a0, .int a1, .int a2, .int a3] (K s) (none, (K w)) := by
  refine EvC.enter (L0 := [.val (.ref o), .val (.int a0), .val (.int a1), .val (.int a2), .val (.int a3), .unset]) pl_insert (fun _ => rfl) rfl rfl ?_
  unfold f_insert at hr
  refine Ev.aloadN (d22 0 rfl) rfl ?_
  refine Ev.gI V (ww hw 79 rfl) (d22 1 rfl) (j := 34) rfl rfl ?_
  refine Ev.istD (L' := [.val (.ref o), .val (.int a0), .val (.int a1), .val (.int a2), .val (.int a3), .val (.int (s.1 34))]) (d22 2 rfl) rfl rfl rfl ?_
  refine Ev.aloadN (d22 3 rfl) rfl ?_
  refine Ev.iconst (z := -1) (d22 4 rfl) rfl ?_
  refine Ev.pI V (gok hw) (ww hw 79 rfl) (Or.inl (ww hw 80 rfl)) (d22 5 rfl) (j := 34) rfl ?_
  revert hr
  generalize setI s 34 (-1 : Int32) = s1
  intro hr
  replace hr := (bnd_eq _ _).symm.trans hr
  refine Ev.iload (d22 6 rfl) rfl ?_
  refine Ev.iflt (t := 41) (d22 7 rfl) rfl (fun c2 => ?_) (fun c2 => ?_)
  · replace hr := own_ip c2 hr
    cases hr
    exact Ev.vreturn rfl (d22 18 rfl)
  · replace hr := own_iq c2 hr
    refine Ev.iload (d22 8 rfl) rfl ?_
    refine Ev.sipush (z := 2048) (d22 9 rfl) rfl ?_
    refine Ev.icge (t := 41) (d22 10 rfl) rfl (fun c3 => ?_) (fun c3 => ?_)
    · replace hr := own_ip c3 hr
      refine Ev.aloadN (d22 11 rfl) rfl ?_
      refine Ev.gI V (ww hw 144 rfl) (d22 12 rfl) (j := 39) rfl rfl ?_
      refine Ev.iflt (t := 41) (d22 13 rfl) rfl (fun c4 => ?_) (fun c4 => ?_)
      · replace hr := own_ip c4 hr
        cases hr
        exact Ev.vreturn rfl (d22 18 rfl)
      · replace hr := own_iq c4 hr
        refine Ev.aloadN (d22 14 rfl) rfl ?_
        refine Ev.gI V (ww hw 144 rfl) (d22 15 rfl) (j := 39) rfl rfl ?_
        refine Ev.sipush (z := 1024) (d22 16 rfl) rfl ?_
        refine Ev.iclt (t := 42) (d22 17 rfl) rfl (fun c5 => ?_) (fun c5 => ?_)
        · replace hr := own_ip c5 hr
          refine Ev.aloadN (d22 19 rfl) rfl ?_
          refine Ev.gAr V (ww hw 65 rfl) (d22 20 rfl) (j := 27) rfl ?_
          refine Ev.iload (d22 21 rfl) rfl ?_
          refine Ev.iloadN (d22 22 rfl) rfl ?_
          obtain ⟨b6, hr⟩ := grd_some hr
          refine Ev.ias V (j := 27) rfl rfl (d22 23 rfl) b6 ?_
          revert hr
          generalize setA s1 27 (ix (s.1 34)) a0 = s7
          intro hr
          replace hr := (bnd_eq _ _).symm.trans hr
          refine Ev.aloadN (d22 24 rfl) rfl ?_
          refine Ev.gAr V (ww hw 67 rfl) (d22 25 rfl) (j := 28) rfl ?_
          refine Ev.iload (d22 26 rfl) rfl ?_
          refine Ev.iloadN (d22 27 rfl) rfl ?_
          refine Ev.ias V (j := 28) rfl rfl (d22 28 rfl) b6 ?_
          revert hr
          generalize setA s7 28 (ix (s.1 34)) a1 = s8
          intro hr
          replace hr := (bnd_eq _ _).symm.trans hr
          refine Ev.aloadN (d22 29 rfl) rfl ?_
          refine Ev.gAr V (ww hw 69 rfl) (d22 30 rfl) (j := 29) rfl ?_
          refine Ev.iload (d22 31 rfl) rfl ?_
          refine Ev.iloadN (d22 32 rfl) rfl ?_
          refine Ev.ias V (j := 29) rfl rfl (d22 33 rfl) b6 ?_
          revert hr
          generalize setA s8 29 (ix (s.1 34)) a2 = s9
          intro hr
          replace hr := (bnd_eq _ _).symm.trans hr
          refine Ev.aloadN (d22 34 rfl) rfl ?_
          refine Ev.gAr V (ww hw 71 rfl) (d22 35 rfl) (j := 30) rfl ?_
          refine Ev.iload (d22 36 rfl) rfl ?_
          refine Ev.iload (d22 37 rfl) rfl ?_
          refine Ev.ias V (j := 30) rfl rfl (d22 38 rfl) b6 ?_
          revert hr
          generalize setA s9 30 (ix (s.1 34)) a3 = s10
          intro hr
          replace hr := (bnd_eq _ _).symm.trans hr
          refine Ev.aloadN (d22 39 rfl) rfl ?_
          refine Ev.gAr V (ww hw 73 rfl) (d22 40 rfl) (j := 31) rfl ?_
          refine Ev.iload (d22 41 rfl) rfl ?_
          refine Ev.iconst (z := 1) (d22 42 rfl) rfl ?_
          refine Ev.bas V (j := 31) rfl rfl (d22 43 rfl) b6 ?_
          revert hr
          generalize setA s10 31 (ix (s.1 34)) ((1 : Int32) &&& 1) = s11
          intro hr
          replace hr := (bnd_eq _ _).symm.trans hr
          refine Ev.aloadN (d22 44 rfl) rfl ?_
          refine Ev.gAr V (ww hw 75 rfl) (d22 45 rfl) (j := 32) rfl ?_
          refine Ev.aloadN (d22 46 rfl) rfl ?_
          refine Ev.gI V (ww hw 144 rfl) (d22 47 rfl) (j := 39) rfl rfl ?_
          refine Ev.iload (d22 48 rfl) rfl ?_
          obtain ⟨b12, hr⟩ := grd_some hr
          refine Ev.ias V (j := 32) rfl rfl (d22 49 rfl) b12 ?_
          revert hr
          generalize setA s11 32 (ix (s11.1 39)) (s.1 34) = s13
          intro hr
          replace hr := (bnd_eq _ _).symm.trans hr
          refine Ev.aloadN (d22 50 rfl) rfl ?_
          refine Ev.dup (d22 51 rfl) rfl ?_
          refine Ev.gI V (ww hw 144 rfl) (d22 52 rfl) (j := 39) rfl rfl ?_
          refine Ev.iconst (z := 1) (d22 53 rfl) rfl ?_
          refine Ev.iadd (d22 54 rfl) ?_
          refine Ev.pI V (gok hw) (ww hw 144 rfl) (Or.inl (ww hw 145 rfl)) (d22 55 rfl) (j := 39) rfl ?_
          revert hr
          generalize setI s13 39 ((s13.1 39) + (1 : Int32)) = s14
          intro hr
          replace hr := (bnd_eq _ _).symm.trans hr
          cases hr
          exact Ev.vreturn rfl (d22 56 rfl)
        · replace hr := own_iq c5 hr
          cases hr
          exact Ev.vreturn rfl (d22 18 rfl)
    · replace hr := own_iq c3 hr
      cases hr
      exact Ev.vreturn rfl (d22 18 rfl)
def f_makeLeaf (n : Nat) (a0 a1 a2 a3 : Int32) (s : St) : Option (Int32 × St) :=
  (f_lookup n a0 a1 a2 s).bind fun q1 =>
  if q1.1 < 0 then
    (f_emit a0 a1 (0 : Int32) q1.2).bind fun q4 =>
    grd (inb q4.1 1056) <|
    bnd (setA q4.2 10 (ix q4.1) a3) fun s7 =>
    (f_insert a0 a1 a2 q4.1 s7).bind fun q8 =>
    some (q4.1, q8)
  else
    some (q1.1, q1.2)
set_option maxRecDepth 100000 in
theorem e_makeLeaf {g : GT} {n : Nat} {a0 : Int32} {a1 : Int32} {a2 : Int32} {a3 : Int32} {s : St} {w : Int32 × St} (hw : HW g) {K : St → MHeap} {o : Nat} {r : Nat → Nat} (V : View (GG g) Ln K o r) (hr : f_makeLeaf n a0 a1 a2 a3 s = some w) : EvC (GG g) M_makeLeaf [.ref o, .int a0, .int a1, .int a2, .int a3] (K s) ((some (.int w.1)), (K w.2)) := by
  refine EvC.enter (L0 := [.val (.ref o), .val (.int a0), .val (.int a1), .val (.int a2), .val (.int a3), .unset, .unset]) pl_makeLeaf (fun h => nomatch h) rfl rfl ?_
  unfold f_makeLeaf at hr
  refine Ev.aloadN (d18 0 rfl) rfl ?_
  refine Ev.iloadN (d18 1 rfl) rfl ?_
  refine Ev.iloadN (d18 2 rfl) rfl ?_
  refine Ev.iloadN (d18 3 rfl) rfl ?_
  obtain ⟨q1, hq2, hr⟩ := Option.bind_eq_some_iff.mp hr
  refine Ev.priv (y := M_lookup) (args := [.int a0, .int a1, .int a2]) (rest := []) (gok hw) rfl nm_lookup (ww hw 168 rfl) (ww hw 169 rfl) (ww hw 170 rfl) (ww hw 171 rfl) (lenOf pd_lookup rfl) (d18 4 rfl) (V.2.1 s) (e_lookup hw V hq2) (by decide) (Nat.le_of_ble_eq_true rfl) rfl ?_
  refine Ev.istD (L' := [.val (.ref o), .val (.int a0), .val (.int a1), .val (.int a2), .val (.int a3), .val (.int q1.1), .unset]) (d18 5 rfl) rfl rfl rfl ?_
  refine Ev.iload (d18 6 rfl) rfl ?_
  refine Ev.iflt (t := 17) (d18 7 rfl) rfl (fun c3 => ?_) (fun c3 => ?_)
  · replace hr := own_ip c3 hr
    refine Ev.aloadN (d18 10 rfl) rfl ?_
    refine Ev.iloadN (d18 11 rfl) rfl ?_
    refine Ev.iloadN (d18 12 rfl) rfl ?_
    refine Ev.iconst (z := 0) (d18 13 rfl) rfl ?_
    obtain ⟨q4, hq5, hr⟩ := Option.bind_eq_some_iff.mp hr
    refine Ev.priv (y := M_emit) (args := [.int a0, .int a1, .int (0 : Int32)]) (rest := []) (gok hw) rfl nm_emit (ww hw 180 rfl) (ww hw 181 rfl) (ww hw 182 rfl) (ww hw 183 rfl) (lenOf pd_emit rfl) (d18 14 rfl) (V.2.1 q1.2) (e_emit hw V hq5) (by decide) (Nat.le_of_ble_eq_true rfl) rfl ?_
    refine Ev.istD (L' := [.val (.ref o), .val (.int a0), .val (.int a1), .val (.int a2), .val (.int a3), .val (.int q1.1), .val (.int q4.1)]) (d18 15 rfl) rfl rfl rfl ?_
    refine Ev.aloadN (d18 16 rfl) rfl ?_
    refine Ev.gAr V (ww hw 30 rfl) (d18 17 rfl) (j := 10) rfl ?_
    refine Ev.iload (d18 18 rfl) rfl ?_
    refine Ev.iload (d18 19 rfl) rfl ?_
    obtain ⟨b6, hr⟩ := grd_some hr
    refine Ev.ias V (j := 10) rfl rfl (d18 20 rfl) b6 ?_
    revert hr
    generalize setA q4.2 10 (ix q4.1) a3 = s7
    intro hr
    replace hr := (bnd_eq _ _).symm.trans hr
    refine Ev.aloadN (d18 21 rfl) rfl ?_
    refine Ev.iloadN (d18 22 rfl) rfl ?_
    refine Ev.iloadN (d18 23 rfl) rfl ?_
    refine Ev.iloadN (d18 24 rfl) rfl ?_
    refine Ev.iload (d18 25 rfl) rfl ?_
    obtain ⟨q8, hq9, hr⟩ := Option.bind_eq_some_iff.mp hr
    refine Ev.priv (y := M_insert) (args := [.int a0, .int a1, .int a2, .int q4.1]) (rest := []) (gok hw) rfl nm_insert (ww hw 184 rfl) (ww hw 185 rfl) (ww hw 186 rfl) (ww hw 187 rfl) (lenOf pd_insert rfl) (d18 26 rfl) (V.2.1 s7) (e_insert hw V hq9) (by decide) (Nat.le_of_ble_eq_true rfl) rfl ?_
    refine Ev.iload (d18 27 rfl) rfl ?_
    cases hr
    exact Ev.ireturn rfl (d18 28 rfl)
  · replace hr := own_iq c3 hr
    refine Ev.iload (d18 8 rfl) rfl ?_
    cases hr
    exact Ev.ireturn rfl (d18 9 rfl)
def f_makeConst (n : Nat) (a0 : Int32) (s : St) : Option (Int32 × St) :=
  (f_makeLeaf n (1 : Int32) a0 (0 : Int32) (0 : Int32) s).bind fun q1 =>
  some (q1.1, q1.2)
set_option maxRecDepth 100000 in
theorem e_makeConst {g : GT} {n : Nat} {a0 : Int32} {s : St} {w : Int32 × St} (hw : HW g) {K : St → MHeap} {o : Nat} {r : Nat → Nat} (V : View (GG g) Ln K o r) (hr : f_makeConst n a0 s = some w) : EvC (GG g) M_makeConst [.ref o, .int a0] (K s) ((some (.int w.1)), (K w.2)) := by
  refine EvC.enter (L0 := [.val (.ref o), .val (.int a0)]) pl_makeConst (fun h => nomatch h) rfl rfl ?_
  unfold f_makeConst at hr
  refine Ev.aloadN (d23 0 rfl) rfl ?_
  refine Ev.iconst (z := 1) (d23 1 rfl) rfl ?_
  refine Ev.iloadN (d23 2 rfl) rfl ?_
  refine Ev.iconst (z := 0) (d23 3 rfl) rfl ?_
  refine Ev.iconst (z := 0) (d23 4 rfl) rfl ?_
  obtain ⟨q1, hq2, hr⟩ := Option.bind_eq_some_iff.mp hr
  refine Ev.priv (y := M_makeLeaf) (args := [.int (1 : Int32), .int a0, .int (0 : Int32), .int (0 : Int32)]) (rest := []) (gok hw) rfl nm_makeLeaf (ww hw 164 rfl) (ww hw 165 rfl) (ww hw 166 rfl) (ww hw 167 rfl) (lenOf pd_makeLeaf rfl) (d23 5 rfl) (V.2.1 s) (e_makeLeaf hw V hq2) (by decide) (Nat.le_of_ble_eq_true rfl) rfl ?_
  cases hr
  exact Ev.ireturn rfl (d23 6 rfl)
def f_familyOf (s : St) (a0 : Int32) : Option (Int32) :=
  if a0 = (5 : Int32) then
    some (4 : Int32)
  else
    if a0 = (10 : Int32) then
      some (4 : Int32)
    else
      some a0
set_option maxRecDepth 100000 in
theorem e_familyOf {g : GT} {s : St} {a0 : Int32} {w : Int32} (hw : HW g) {K : St → MHeap} {o : Nat} {r : Nat → Nat} (V : View (GG g) Ln K o r) (hr : f_familyOf s a0 = some w) : EvC (GG g) M_familyOf [.ref o, .int a0] (K s) ((some (.int w)), (K s)) := by
  refine EvC.enter (L0 := [.val (.ref o), .val (.int a0)]) pl_familyOf (fun h => nomatch h) rfl rfl ?_
  unfold f_familyOf at hr
  refine Ev.iloadN (d25 0 rfl) rfl ?_
  refine Ev.iconst (z := 5) (d25 1 rfl) rfl ?_
  refine Ev.iceq (t := 11) (d25 2 rfl) rfl (fun c1 => ?_) (fun c1 => ?_)
  · replace hr := own_ip c1 hr
    refine Ev.iconst (z := 4) (d25 6 rfl) rfl ?_
    cases hr
    exact Ev.ireturn rfl (d25 7 rfl)
  · replace hr := own_iq c1 hr
    refine Ev.iloadN (d25 3 rfl) rfl ?_
    refine Ev.bipush (z := 10) (d25 4 rfl) rfl ?_
    refine Ev.icne (t := 13) (d25 5 rfl) rfl (fun c2 => ?_) (fun c2 => ?_)
    · replace hr := own_ip c2 hr
      refine Ev.iconst (z := 4) (d25 6 rfl) rfl ?_
      cases hr
      exact Ev.ireturn rfl (d25 7 rfl)
    · replace hr := own_iq c2 hr
      refine Ev.iloadN (d25 8 rfl) rfl ?_
      cases hr
      exact Ev.ireturn rfl (d25 9 rfl)
def f_push (a0 a1 : Int32) (s : St) : Option (Int32 × St) :=
  if (s.1 44) < 0 then
    some ((0 : Int32), s)
  else
    if (s.1 44) < (64 : Int32) then
      grd (inb (s.1 44) 64) <|
      bnd (setA s 25 (ix (s.1 44)) a0) fun s4 =>
      grd (inb (s4.1 44) 64) <|
      bnd (setA s4 26 (ix (s4.1 44)) a1) fun s6 =>
      bnd (setI s6 44 ((s6.1 44) + (1 : Int32))) fun s7 =>
      some ((1 : Int32), s7)
    else
      some ((0 : Int32), s)
set_option maxRecDepth 100000 in
theorem e_push {g : GT} {a0 : Int32} {a1 : Int32} {s : St} {w : Int32 × St} (hw : HW g) {K : St → MHeap} {o : Nat} {r : Nat → Nat} (V : View (GG g) Ln K o r) (hr : f_push a0 a1 s = some w) : EvC (GG g) M_push [.ref o, .int a0, .int a1] (K s) ((some (.int w.1)), (K w.2)) := by
  refine EvC.enter (L0 := [.val (.ref o), .val (.int a0), .val (.int a1)]) pl_push (fun h => nomatch h) rfl rfl ?_
  unfold f_push at hr
  refine Ev.aloadN (d27 0 rfl) rfl ?_
  refine Ev.gI V (ww hw 206 rfl) (d27 1 rfl) (j := 44) rfl rfl ?_
  refine Ev.iflt (t := 16) (d27 2 rfl) rfl (fun c1 => ?_) (fun c1 => ?_)
  · replace hr := own_ip c1 hr
    refine Ev.iconst (z := 0) (d27 7 rfl) rfl ?_
    cases hr
    exact Ev.zret0 rfl (d27 8 rfl)
  · replace hr := own_iq c1 hr
    refine Ev.aloadN (d27 3 rfl) rfl ?_
    refine Ev.gI V (ww hw 206 rfl) (d27 4 rfl) (j := 44) rfl rfl ?_
    refine Ev.bipush (z := 64) (d27 5 rfl) rfl ?_
    refine Ev.iclt (t := 18) (d27 6 rfl) rfl (fun c2 => ?_) (fun c2 => ?_)
    · replace hr := own_ip c2 hr
      refine Ev.aloadN (d27 9 rfl) rfl ?_
      refine Ev.gAr V (ww hw 61 rfl) (d27 10 rfl) (j := 25) rfl ?_
      refine Ev.aloadN (d27 11 rfl) rfl ?_
      refine Ev.gI V (ww hw 206 rfl) (d27 12 rfl) (j := 44) rfl rfl ?_
      refine Ev.iloadN (d27 13 rfl) rfl ?_
      obtain ⟨b3, hr⟩ := grd_some hr
      refine Ev.ias V (j := 25) rfl rfl (d27 14 rfl) b3 ?_
      revert hr
      generalize setA s 25 (ix (s.1 44)) a0 = s4
      intro hr
      replace hr := (bnd_eq _ _).symm.trans hr
      refine Ev.aloadN (d27 15 rfl) rfl ?_
      refine Ev.gAr V (ww hw 63 rfl) (d27 16 rfl) (j := 26) rfl ?_
      refine Ev.aloadN (d27 17 rfl) rfl ?_
      refine Ev.gI V (ww hw 206 rfl) (d27 18 rfl) (j := 44) rfl rfl ?_
      refine Ev.iloadN (d27 19 rfl) rfl ?_
      obtain ⟨b5, hr⟩ := grd_some hr
      refine Ev.ias V (j := 26) rfl rfl (d27 20 rfl) b5 ?_
      revert hr
      generalize setA s4 26 (ix (s4.1 44)) a1 = s6
      intro hr
      replace hr := (bnd_eq _ _).symm.trans hr
      refine Ev.aloadN (d27 21 rfl) rfl ?_
      refine Ev.dup (d27 22 rfl) rfl ?_
      refine Ev.gI V (ww hw 206 rfl) (d27 23 rfl) (j := 44) rfl rfl ?_
      refine Ev.iconst (z := 1) (d27 24 rfl) rfl ?_
      refine Ev.iadd (d27 25 rfl) ?_
      refine Ev.pI V (gok hw) (ww hw 206 rfl) (Or.inl (ww hw 207 rfl)) (d27 26 rfl) (j := 44) rfl ?_
      revert hr
      generalize setI s6 44 ((s6.1 44) + (1 : Int32)) = s7
      intro hr
      replace hr := (bnd_eq _ _).symm.trans hr
      refine Ev.iconst (z := 1) (d27 27 rfl) rfl ?_
      cases hr
      exact Ev.zret1 rfl (d27 28 rfl)
    · replace hr := own_iq c2 hr
      refine Ev.iconst (z := 0) (d27 7 rfl) rfl ?_
      cases hr
      exact Ev.zret0 rfl (d27 8 rfl)
def f_expandSum_22 (x1 x2 z0 : Int32) (s : St) : Option (Int32 × St) :=
  grd (inb x1 32) <|
  (f_push (s.2 2 (ix x1)) z0 s).bind fun q2 =>
  if q2.1 = 0 then
    some ((-1 : Int32), q2.2)
  else
    (f_push (q2.2.2 1 (ix x1)) x2 q2.2).bind fun q5 =>
    if q5.1 = 0 then
      some ((-1 : Int32), q5.2)
    else
      some ((1 : Int32), q5.2)
set_option maxRecDepth 100000 in
theorem e_expandSum_22 {g : GT} (hw : HW g) {K : St → MHeap} {o : Nat} {r : Nat → Nat} (V : View (GG g) Ln K o r) (x1 x2 z0 : Int32) (s : St) (y3 : Slot) (hy3 : one1 y3 = true) (y4 : Slot) (hy4 : one1 y4 = true) (w : Int32 × St) (hr : f_expandSum_22 x1 x2 z0 s = some w) : Ev (GG g) M_expandSum 22 [.val (.ref o), .val (.int x1), .val (.int x2), y3, y4] [.int z0] (K s) ((some (.int w.1)), (K w.2)) := by
  unfold f_expandSum_22 at hr
  refine Ev.istD (L' := [.val (.ref o), .val (.int x1), .val (.int x2), y3, .val (.int z0)]) (d29 14 rfl) rfl hy4 rfl ?_
  refine Ev.aloadN (d29 15 rfl) rfl ?_
  refine Ev.aloadN (d29 16 rfl) rfl ?_
  refine Ev.gAr V (ww hw 14 rfl) (d29 17 rfl) (j := 2) rfl ?_
  refine Ev.iloadN (d29 18 rfl) rfl ?_
  obtain ⟨b1, hr⟩ := grd_some hr
  refine Ev.ial V (j := 2) rfl rfl (d29 19 rfl) b1 ?_
  refine Ev.iload (d29 20 rfl) rfl ?_
  obtain ⟨q2, hq3, hr⟩ := Option.bind_eq_some_iff.mp hr
  refine Ev.priv (y := M_push) (args := [.int (s.2 2 (ix x1)), .int z0]) (rest := []) (gok hw) rfl nm_push (ww hw 208 rfl) (ww hw 209 rfl) (ww hw 210 rfl) (ww hw 211 rfl) (lenOf pd_push rfl) (d29 21 rfl) (V.2.1 s) (e_push hw V hq3) (by decide) (Nat.le_of_ble_eq_true rfl) rfl ?_
  refine Ev.ifne (t := 41) (d29 22 rfl) rfl (fun c4 => ?_) (fun c4 => ?_)
  · replace hr := own_ip c4 hr
    refine Ev.iconst (z := -1) (d29 23 rfl) rfl ?_
    cases hr
    exact Ev.ireturn rfl (d29 24 rfl)
  · replace hr := own_iq c4 hr
    refine Ev.aloadN (d29 25 rfl) rfl ?_
    refine Ev.aloadN (d29 26 rfl) rfl ?_
    refine Ev.gAr V (ww hw 12 rfl) (d29 27 rfl) (j := 1) rfl ?_
    refine Ev.iloadN (d29 28 rfl) rfl ?_
    refine Ev.ial V (j := 1) rfl rfl (d29 29 rfl) b1 ?_
    refine Ev.iloadN (d29 30 rfl) rfl ?_
    obtain ⟨q5, hq6, hr⟩ := Option.bind_eq_some_iff.mp hr
    refine Ev.priv (y := M_push) (args := [.int (q2.2.2 1 (ix x1)), .int x2]) (rest := []) (gok hw) rfl nm_push (ww hw 208 rfl) (ww hw 209 rfl) (ww hw 210 rfl) (ww hw 211 rfl) (lenOf pd_push rfl) (d29 31 rfl) (V.2.1 q2.2) (e_push hw V hq6) (by decide) (Nat.le_of_ble_eq_true rfl) rfl ?_
    refine Ev.ifne (t := 57) (d29 32 rfl) rfl (fun c7 => ?_) (fun c7 => ?_)
    · replace hr := own_ip c7 hr
      refine Ev.iconst (z := -1) (d29 33 rfl) rfl ?_
      cases hr
      exact Ev.ireturn rfl (d29 34 rfl)
    · replace hr := own_iq c7 hr
      refine Ev.iconst (z := 1) (d29 35 rfl) rfl ?_
      cases hr
      exact Ev.ireturn rfl (d29 36 rfl)
def f_expandSum_10 (x1 x2 x3 : Int32) (s : St) : Option (Int32 × St) :=
  if x3 = (4 : Int32) then
    f_expandSum_22 x1 x2 x2 s
  else
    f_expandSum_22 x1 x2 ((0 : Int32) - x2) s
set_option maxRecDepth 100000 in
theorem e_expandSum_10 {g : GT} (hw : HW g) {K : St → MHeap} {o : Nat} {r : Nat → Nat} (V : View (GG g) Ln K o r) (x1 x2 x3 : Int32) (s : St) (y4 : Slot) (hy4 : one1 y4 = true) (w : Int32 × St) (hr : f_expandSum_10 x1 x2 x3 s = some w) : Ev (GG g) M_expandSum 10 [.val (.ref o), .val (.int x1), .val (.int x2), .val (.int x3), y4] [] (K s) ((some (.int w.1)), (K w.2)) := by
  unfold f_expandSum_10 at hr
  refine Ev.iloadN (d29 6 rfl) rfl ?_
  refine Ev.iconst (z := 4) (d29 7 rfl) rfl ?_
  refine Ev.icne (t := 19) (d29 8 rfl) rfl (fun c1 => ?_) (fun c1 => ?_)
  · replace hr := own_ip c1 hr
    refine Ev.iloadN (d29 9 rfl) rfl ?_
    refine Ev.goto (t := 22) (d29 10 rfl) rfl ?_
    exact e_expandSum_22 hw V  x1 x2 x2 s (.val (.int x3)) rfl y4 hy4 _ hr
  · replace hr := own_iq c1 hr
    refine Ev.iconst (z := 0) (d29 11 rfl) rfl ?_
    refine Ev.iloadN (d29 12 rfl) rfl ?_
    refine Ev.isub (d29 13 rfl) ?_
    exact e_expandSum_22 hw V  x1 x2 ((0 : Int32) - x2) s (.val (.int x3)) rfl y4 hy4 _ hr
def f_expandSum (a0 a1 a2 : Int32) (s : St) : Option (Int32 × St) :=
  if a2 = (4 : Int32) then
    f_expandSum_10 a0 a1 a2 s
  else
    if a2 = (5 : Int32) then
      f_expandSum_10 a0 a1 a2 s
    else
      if a2 = (10 : Int32) then
        grd (inb a0 32) <|
        (f_push (s.2 1 (ix a0)) ((0 : Int32) - a1) s).bind fun q5 =>
        if q5.1 = 0 then
          some ((-1 : Int32), q5.2)
        else
          some ((1 : Int32), q5.2)
      else
        some ((0 : Int32), s)
set_option maxRecDepth 100000 in
theorem e_expandSum {g : GT} {a0 : Int32} {a1 : Int32} {a2 : Int32} {s : St} {w : Int32 × St} (hw : HW g) {K : St → MHeap} {o : Nat} {r : Nat → Nat} (V : View (GG g) Ln K o r) (hr : f_expandSum a0 a1 a2 s = some w) : EvC (GG g) M_expandSum [.ref o, .int a0, .int a1, .int a2] (K s) ((some (.int w.1)), (K w.2)) := by
  refine EvC.enter (L0 := [.val (.ref o), .val (.int a0), .val (.int a1), .val (.int a2), .unset]) pl_expandSum (fun h => nomatch h) rfl rfl ?_
  unfold f_expandSum at hr
  refine Ev.iloadN (d29 0 rfl) rfl ?_
  refine Ev.iconst (z := 4) (d29 1 rfl) rfl ?_
  refine Ev.iceq (t := 10) (d29 2 rfl) rfl (fun c1 => ?_) (fun c1 => ?_)
  · replace hr := own_ip c1 hr
    exact e_expandSum_10 hw V  a0 a1 a2 s .unset rfl _ hr
  · replace hr := own_iq c1 hr
    refine Ev.iloadN (d29 3 rfl) rfl ?_
    refine Ev.iconst (z := 5) (d29 4 rfl) rfl ?_
    refine Ev.icne (t := 59) (d29 5 rfl) rfl (fun c2 => ?_) (fun c2 => ?_)
    · replace hr := own_ip c2 hr
      exact e_expandSum_10 hw V  a0 a1 a2 s .unset rfl _ hr
    · replace hr := own_iq c2 hr
      refine Ev.iloadN (d29 37 rfl) rfl ?_
      refine Ev.bipush (z := 10) (d29 38 rfl) rfl ?_
      refine Ev.icne (t := 85) (d29 39 rfl) rfl (fun c3 => ?_) (fun c3 => ?_)
      · replace hr := own_ip c3 hr
        refine Ev.aloadN (d29 40 rfl) rfl ?_
        refine Ev.aloadN (d29 41 rfl) rfl ?_
        refine Ev.gAr V (ww hw 12 rfl) (d29 42 rfl) (j := 1) rfl ?_
        refine Ev.iloadN (d29 43 rfl) rfl ?_
        obtain ⟨b4, hr⟩ := grd_some hr
        refine Ev.ial V (j := 1) rfl rfl (d29 44 rfl) b4 ?_
        refine Ev.iconst (z := 0) (d29 45 rfl) rfl ?_
        refine Ev.iloadN (d29 46 rfl) rfl ?_
        refine Ev.isub (d29 47 rfl) ?_
        obtain ⟨q5, hq6, hr⟩ := Option.bind_eq_some_iff.mp hr
        refine Ev.priv (y := M_push) (args := [.int (s.2 1 (ix a0)), .int ((0 : Int32) - a1)]) (rest := []) (gok hw) rfl nm_push (ww hw 208 rfl) (ww hw 209 rfl) (ww hw 210 rfl) (ww hw 211 rfl) (lenOf pd_push rfl) (d29 48 rfl) (V.2.1 s) (e_push hw V hq6) (by decide) (Nat.le_of_ble_eq_true rfl) rfl ?_
        refine Ev.ifne (t := 83) (d29 49 rfl) rfl (fun c7 => ?_) (fun c7 => ?_)
        · replace hr := own_ip c7 hr
          refine Ev.iconst (z := -1) (d29 50 rfl) rfl ?_
          cases hr
          exact Ev.ireturn rfl (d29 51 rfl)
        · replace hr := own_iq c7 hr
          refine Ev.iconst (z := 1) (d29 52 rfl) rfl ?_
          cases hr
          exact Ev.ireturn rfl (d29 53 rfl)
      · replace hr := own_iq c3 hr
        refine Ev.iconst (z := 0) (d29 54 rfl) rfl ?_
        cases hr
        exact Ev.ireturn rfl (d29 55 rfl)
def f_expand (a0 a1 a2 : Int32) (s : St) : Option (Int32 × St) :=
  if a0 < 0 then
    some ((0 : Int32), s)
  else
    if a0 < (s.1 35) then
      if a0 < (32 : Int32) then
        grd (inb a0 32) <|
        if a2 = (4 : Int32) then
          (f_expandSum a0 a1 (s.2 0 (ix a0)) s).bind fun q6 =>
          some (q6.1, q6.2)
        else
          if (s.2 0 (ix a0)) = a2 then
            (f_push (s.2 2 (ix a0)) a1 s).bind fun q9 =>
            if q9.1 = 0 then
              some ((-1 : Int32), q9.2)
            else
              (f_push (q9.2.2 1 (ix a0)) a1 q9.2).bind fun q12 =>
              if q12.1 = 0 then
                some ((-1 : Int32), q12.2)
              else
                some ((1 : Int32), q12.2)
          else
            some ((0 : Int32), s)
      else
        some ((0 : Int32), s)
    else
      some ((0 : Int32), s)
set_option maxRecDepth 100000 in
theorem e_expand {g : GT} {a0 : Int32} {a1 : Int32} {a2 : Int32} {s : St} {w : Int32 × St} (hw : HW g) {K : St → MHeap} {o : Nat} {r : Nat → Nat} (V : View (GG g) Ln K o r) (hr : f_expand a0 a1 a2 s = some w) : EvC (GG g) M_expand [.ref o, .int a0, .int a1, .int a2] (K s) ((some (.int w.1)), (K w.2)) := by
  refine EvC.enter (L0 := [.val (.ref o), .val (.int a0), .val (.int a1), .val (.int a2), .unset]) pl_expand (fun h => nomatch h) rfl rfl ?_
  unfold f_expand at hr
  refine Ev.iloadN (d28 0 rfl) rfl ?_
  refine Ev.iflt (t := 18) (d28 1 rfl) rfl (fun c1 => ?_) (fun c1 => ?_)
  · replace hr := own_ip c1 hr
    refine Ev.iconst (z := 0) (d28 9 rfl) rfl ?_
    cases hr
    exact Ev.ireturn rfl (d28 10 rfl)
  · replace hr := own_iq c1 hr
    refine Ev.iloadN (d28 2 rfl) rfl ?_
    refine Ev.aloadN (d28 3 rfl) rfl ?_
    refine Ev.gI V (ww hw 91 rfl) (d28 4 rfl) (j := 35) rfl rfl ?_
    refine Ev.icge (t := 18) (d28 5 rfl) rfl (fun c2 => ?_) (fun c2 => ?_)
    · replace hr := own_ip c2 hr
      refine Ev.iloadN (d28 6 rfl) rfl ?_
      refine Ev.bipush (z := 32) (d28 7 rfl) rfl ?_
      refine Ev.iclt (t := 20) (d28 8 rfl) rfl (fun c3 => ?_) (fun c3 => ?_)
      · replace hr := own_ip c3 hr
        refine Ev.aloadN (d28 11 rfl) rfl ?_
        refine Ev.gAr V (ww hw 10 rfl) (d28 12 rfl) (j := 0) rfl ?_
        refine Ev.iloadN (d28 13 rfl) rfl ?_
        obtain ⟨b4, hr⟩ := grd_some hr
        refine Ev.ial V (j := 0) rfl rfl (d28 14 rfl) b4 ?_
        refine Ev.istD (L' := [.val (.ref o), .val (.int a0), .val (.int a1), .val (.int a2), .val (.int (s.2 0 (ix a0)))]) (d28 15 rfl) rfl rfl rfl ?_
        refine Ev.iloadN (d28 16 rfl) rfl ?_
        refine Ev.iconst (z := 4) (d28 17 rfl) rfl ?_
        refine Ev.icne (t := 42) (d28 18 rfl) rfl (fun c5 => ?_) (fun c5 => ?_)
        · replace hr := own_ip c5 hr
          refine Ev.aloadN (d28 19 rfl) rfl ?_
          refine Ev.iloadN (d28 20 rfl) rfl ?_
          refine Ev.iloadN (d28 21 rfl) rfl ?_
          refine Ev.iload (d28 22 rfl) rfl ?_
          obtain ⟨q6, hq7, hr⟩ := Option.bind_eq_some_iff.mp hr
          refine Ev.priv (y := M_expandSum) (args := [.int a0, .int a1, .int (s.2 0 (ix a0))]) (rest := []) (gok hw) rfl nm_expandSum (ww hw 216 rfl) (ww hw 217 rfl) (ww hw 218 rfl) (ww hw 219 rfl) (lenOf pd_expandSum rfl) (d28 23 rfl) (V.2.1 s) (e_expandSum hw V hq7) (by decide) (Nat.le_of_ble_eq_true rfl) rfl ?_
          cases hr
          exact Ev.ireturn rfl (d28 24 rfl)
        · replace hr := own_iq c5 hr
          refine Ev.iload (d28 25 rfl) rfl ?_
          refine Ev.iloadN (d28 26 rfl) rfl ?_
          refine Ev.iceq (t := 50) (d28 27 rfl) rfl (fun c8 => ?_) (fun c8 => ?_)
          · replace hr := own_ip c8 hr
            refine Ev.aloadN (d28 30 rfl) rfl ?_
            refine Ev.aloadN (d28 31 rfl) rfl ?_
            refine Ev.gAr V (ww hw 14 rfl) (d28 32 rfl) (j := 2) rfl ?_
            refine Ev.iloadN (d28 33 rfl) rfl ?_
            refine Ev.ial V (j := 2) rfl rfl (d28 34 rfl) b4 ?_
            refine Ev.iloadN (d28 35 rfl) rfl ?_
            obtain ⟨q9, hq10, hr⟩ := Option.bind_eq_some_iff.mp hr
            refine Ev.priv (y := M_push) (args := [.int (s.2 2 (ix a0)), .int a1]) (rest := []) (gok hw) rfl nm_push (ww hw 208 rfl) (ww hw 209 rfl) (ww hw 210 rfl) (ww hw 211 rfl) (lenOf pd_push rfl) (d28 36 rfl) (V.2.1 s) (e_push hw V hq10) (by decide) (Nat.le_of_ble_eq_true rfl) rfl ?_
            refine Ev.ifne (t := 66) (d28 37 rfl) rfl (fun c11 => ?_) (fun c11 => ?_)
            · replace hr := own_ip c11 hr
              refine Ev.iconst (z := -1) (d28 38 rfl) rfl ?_
              cases hr
              exact Ev.ireturn rfl (d28 39 rfl)
            · replace hr := own_iq c11 hr
              refine Ev.aloadN (d28 40 rfl) rfl ?_
              refine Ev.aloadN (d28 41 rfl) rfl ?_
              refine Ev.gAr V (ww hw 12 rfl) (d28 42 rfl) (j := 1) rfl ?_
              refine Ev.iloadN (d28 43 rfl) rfl ?_
              refine Ev.ial V (j := 1) rfl rfl (d28 44 rfl) b4 ?_
              refine Ev.iloadN (d28 45 rfl) rfl ?_
              obtain ⟨q12, hq13, hr⟩ := Option.bind_eq_some_iff.mp hr
              refine Ev.priv (y := M_push) (args := [.int (q9.2.2 1 (ix a0)), .int a1]) (rest := []) (gok hw) rfl nm_push (ww hw 208 rfl) (ww hw 209 rfl) (ww hw 210 rfl) (ww hw 211 rfl) (lenOf pd_push rfl) (d28 46 rfl) (V.2.1 q9.2) (e_push hw V hq13) (by decide) (Nat.le_of_ble_eq_true rfl) rfl ?_
              refine Ev.ifne (t := 82) (d28 47 rfl) rfl (fun c14 => ?_) (fun c14 => ?_)
              · replace hr := own_ip c14 hr
                refine Ev.iconst (z := -1) (d28 48 rfl) rfl ?_
                cases hr
                exact Ev.ireturn rfl (d28 49 rfl)
              · replace hr := own_iq c14 hr
                refine Ev.iconst (z := 1) (d28 50 rfl) rfl ?_
                cases hr
                exact Ev.ireturn rfl (d28 51 rfl)
          · replace hr := own_iq c8 hr
            refine Ev.iconst (z := 0) (d28 28 rfl) rfl ?_
            cases hr
            exact Ev.ireturn rfl (d28 29 rfl)
      · replace hr := own_iq c3 hr
        refine Ev.iconst (z := 0) (d28 9 rfl) rfl ?_
        cases hr
        exact Ev.ireturn rfl (d28 10 rfl)
    · replace hr := own_iq c2 hr
      refine Ev.iconst (z := 0) (d28 9 rfl) rfl ?_
      cases hr
      exact Ev.ireturn rfl (d28 10 rfl)
def f_addLeaf (a0 a1 : Int32) (s : St) : Option (Int32 × St) :=
  if (s.1 43) < 0 then
    some ((0 : Int32), s)
  else
    if (s.1 43) < (16 : Int32) then
      grd (inb (s.1 43) 16) <|
      bnd (setA s 22 (ix (s.1 43)) a0) fun s4 =>
      grd (inb (s4.1 43) 16) <|
      bnd (setA s4 23 (ix (s4.1 43)) a1) fun s6 =>
      grd (inb (s6.1 43) 16) <|
      bnd (setA s6 24 (ix (s6.1 43)) ((0 : Int32) &&& 1)) fun s8 =>
      bnd (setI s8 43 ((s8.1 43) + (1 : Int32))) fun s9 =>
      some ((1 : Int32), s9)
    else
      some ((0 : Int32), s)
set_option maxRecDepth 100000 in
theorem e_addLeaf {g : GT} {a0 : Int32} {a1 : Int32} {s : St} {w : Int32 × St} (hw : HW g) {K : St → MHeap} {o : Nat} {r : Nat → Nat} (V : View (GG g) Ln K o r) (hr : f_addLeaf a0 a1 s = some w) : EvC (GG g) M_addLeaf [.ref o, .int a0, .int a1] (K s) ((some (.int w.1)), (K w.2)) := by
  refine EvC.enter (L0 := [.val (.ref o), .val (.int a0), .val (.int a1)]) pl_addLeaf (fun h => nomatch h) rfl rfl ?_
  unfold f_addLeaf at hr
  refine Ev.aloadN (d31 0 rfl) rfl ?_
  refine Ev.gI V (ww hw 204 rfl) (d31 1 rfl) (j := 43) rfl rfl ?_
  refine Ev.iflt (t := 16) (d31 2 rfl) rfl (fun c1 => ?_) (fun c1 => ?_)
  · replace hr := own_ip c1 hr
    refine Ev.iconst (z := 0) (d31 7 rfl) rfl ?_
    cases hr
    exact Ev.zret0 rfl (d31 8 rfl)
  · replace hr := own_iq c1 hr
    refine Ev.aloadN (d31 3 rfl) rfl ?_
    refine Ev.gI V (ww hw 204 rfl) (d31 4 rfl) (j := 43) rfl rfl ?_
    refine Ev.bipush (z := 16) (d31 5 rfl) rfl ?_
    refine Ev.iclt (t := 18) (d31 6 rfl) rfl (fun c2 => ?_) (fun c2 => ?_)
    · replace hr := own_ip c2 hr
      refine Ev.aloadN (d31 9 rfl) rfl ?_
      refine Ev.gAr V (ww hw 54 rfl) (d31 10 rfl) (j := 22) rfl ?_
      refine Ev.aloadN (d31 11 rfl) rfl ?_
      refine Ev.gI V (ww hw 204 rfl) (d31 12 rfl) (j := 43) rfl rfl ?_
      refine Ev.iloadN (d31 13 rfl) rfl ?_
      obtain ⟨b3, hr⟩ := grd_some hr
      refine Ev.ias V (j := 22) rfl rfl (d31 14 rfl) b3 ?_
      revert hr
      generalize setA s 22 (ix (s.1 43)) a0 = s4
      intro hr
      replace hr := (bnd_eq _ _).symm.trans hr
      refine Ev.aloadN (d31 15 rfl) rfl ?_
      refine Ev.gAr V (ww hw 56 rfl) (d31 16 rfl) (j := 23) rfl ?_
      refine Ev.aloadN (d31 17 rfl) rfl ?_
      refine Ev.gI V (ww hw 204 rfl) (d31 18 rfl) (j := 43) rfl rfl ?_
      refine Ev.iloadN (d31 19 rfl) rfl ?_
      obtain ⟨b5, hr⟩ := grd_some hr
      refine Ev.ias V (j := 23) rfl rfl (d31 20 rfl) b5 ?_
      revert hr
      generalize setA s4 23 (ix (s4.1 43)) a1 = s6
      intro hr
      replace hr := (bnd_eq _ _).symm.trans hr
      refine Ev.aloadN (d31 21 rfl) rfl ?_
      refine Ev.gAr V (ww hw 59 rfl) (d31 22 rfl) (j := 24) rfl ?_
      refine Ev.aloadN (d31 23 rfl) rfl ?_
      refine Ev.gI V (ww hw 204 rfl) (d31 24 rfl) (j := 43) rfl rfl ?_
      refine Ev.iconst (z := 0) (d31 25 rfl) rfl ?_
      obtain ⟨b7, hr⟩ := grd_some hr
      refine Ev.bas V (j := 24) rfl rfl (d31 26 rfl) b7 ?_
      revert hr
      generalize setA s6 24 (ix (s6.1 43)) ((0 : Int32) &&& 1) = s8
      intro hr
      replace hr := (bnd_eq _ _).symm.trans hr
      refine Ev.aloadN (d31 27 rfl) rfl ?_
      refine Ev.dup (d31 28 rfl) rfl ?_
      refine Ev.gI V (ww hw 204 rfl) (d31 29 rfl) (j := 43) rfl rfl ?_
      refine Ev.iconst (z := 1) (d31 30 rfl) rfl ?_
      refine Ev.iadd (d31 31 rfl) ?_
      refine Ev.pI V (gok hw) (ww hw 204 rfl) (Or.inl (ww hw 205 rfl)) (d31 32 rfl) (j := 43) rfl ?_
      revert hr
      generalize setI s8 43 ((s8.1 43) + (1 : Int32)) = s9
      intro hr
      replace hr := (bnd_eq _ _).symm.trans hr
      refine Ev.iconst (z := 1) (d31 33 rfl) rfl ?_
      cases hr
      exact Ev.zret1 rfl (d31 34 rfl)
    · replace hr := own_iq c2 hr
      refine Ev.iconst (z := 0) (d31 7 rfl) rfl ?_
      cases hr
      exact Ev.zret0 rfl (d31 8 rfl)
def f_flatten_119 (n : Nat) (s : St) : Option (Int32 × St) :=
  if (s.1 44) = 0 then
    some ((1 : Int32), s)
  else
    some ((0 : Int32), s)
set_option maxRecDepth 100000 in
theorem e_flatten_119 {g : GT} {n : Nat} (hw : HW g) {K : St → MHeap} {o : Nat} {r : Nat → Nat} (V : View (GG g) Ln K o r) (s : St) (y1 : Slot) (hy1 : one1 y1 = true) (y2 : Slot) (hy2 : one1 y2 = true) (y3 : Slot) (hy3 : one1 y3 = true) (y4 : Slot) (hy4 : one1 y4 = true) (y5 : Slot) (hy5 : one1 y5 = true) (y6 : Slot) (hy6 : one1 y6 = true) (y7 : Slot) (hy7 : one1 y7 = true) (w : Int32 × St) (hr : f_flatten_119 n s = some w) : Ev (GG g) M_flatten 119 [.val (.ref o), y1, y2, y3, y4, y5, y6, y7] [] (K s) ((some (.int w.1)), (K w.2)) := by
  unfold f_flatten_119 at hr
  refine Ev.aloadN (d26 64 rfl) rfl ?_
  refine Ev.gI V (ww hw 206 rfl) (d26 65 rfl) (j := 44) rfl rfl ?_
  refine Ev.ifne (t := 130) (d26 66 rfl) rfl (fun c1 => ?_) (fun c1 => ?_)
  · replace hr := own_ip c1 hr
    refine Ev.iconst (z := 1) (d26 67 rfl) rfl ?_
    refine Ev.goto (t := 131) (d26 68 rfl) rfl ?_
    cases hr
    exact Ev.zret1 rfl (d26 70 rfl)
  · replace hr := own_iq c1 hr
    refine Ev.iconst (z := 0) (d26 69 rfl) rfl ?_
    cases hr
    exact Ev.zret0 rfl (d26 70 rfl)
def f_flatten_23 (n : Nat) : Nat → Int32 → Int32 → St → Option (Int32 × St)
  | 0 => fun _ _ _ => none
  | k + 1 => fun x2 x3 s =>
    if x3 < (256 : Int32) then
      if 0 < (s.1 44) then
        bnd (setI s 44 ((s.1 44) - (1 : Int32))) fun s3 =>
        grd (inb (s3.1 44) 64) <|
        (f_expand (s3.2 25 (ix (s3.1 44))) (s3.2 26 (ix (s3.1 44))) x2 s3).bind fun q5 =>
        if q5.1 < 0 then
          some ((0 : Int32), q5.2)
        else
          if q5.1 = 0 then
            (f_mapAt q5.2 (s3.2 25 (ix (s3.1 44)))).bind fun q9 =>
            (f_addLeaf q9 (s3.2 26 (ix (s3.1 44))) q5.2).bind fun q11 =>
            if q11.1 = 0 then
              some ((0 : Int32), q11.2)
            else
              f_flatten_23 n k x2 (x3 + (1 : Int32)) q11.2
          else
            f_flatten_23 n k x2 (x3 + (1 : Int32)) q5.2
      else
        f_flatten_119 n s
    else
      f_flatten_119 n s
set_option maxRecDepth 100000 in
theorem e_flatten_23 {g : GT} {n : Nat} (hw : HW g) {K : St → MHeap} {o : Nat} {r : Nat → Nat} (V : View (GG g) Ln K o r) (k : Nat) : ∀ (x2 x3 : Int32) (s : St) (y1 : Slot) (hy1 : one1 y1 = true) (y4 : Slot) (hy4 : one1 y4 = true) (y5 : Slot) (hy5 : one1 y5 = true) (y6 : Slot) (hy6 : one1 y6 = true) (y7 : Slot) (hy7 : one1 y7 = true) (w : Int32 × St), f_flatten_23 n k x2 x3 s = some w → Ev (GG g) M_flatten 23 [.val (.ref o), y1, .val (.int x2), .val (.int x3), y4, y5, y6, y7] [] (K s) ((some (.int w.1)), (K w.2)) := by
  induction k with
  | zero => intro x2 x3 s y1 hy1 y4 hy4 y5 hy5 y6 hy6 y7 hy7 w hr; rw [f_flatten_23] at hr; cases hr
  | succ k ih =>
    intro x2 x3 s y1 hy1 y4 hy4 y5 hy5 y6 hy6 y7 hy7 w hr
    rw [f_flatten_23] at hr
    refine Ev.iloadN (d26 15 rfl) rfl ?_
    refine Ev.sipush (z := 256) (d26 16 rfl) rfl ?_
    refine Ev.icge (t := 119) (d26 17 rfl) rfl (fun c1 => ?_) (fun c1 => ?_)
    · replace hr := own_ip c1 hr
      refine Ev.aloadN (d26 18 rfl) rfl ?_
      refine Ev.gI V (ww hw 206 rfl) (d26 19 rfl) (j := 44) rfl rfl ?_
      refine Ev.ifle (t := 119) (d26 20 rfl) rfl (fun c2 => ?_) (fun c2 => ?_)
      · replace hr := own_ip c2 hr
        refine Ev.aloadN (d26 21 rfl) rfl ?_
        refine Ev.dup (d26 22 rfl) rfl ?_
        refine Ev.gI V (ww hw 206 rfl) (d26 23 rfl) (j := 44) rfl rfl ?_
        refine Ev.iconst (z := 1) (d26 24 rfl) rfl ?_
        refine Ev.isub (d26 25 rfl) ?_
        refine Ev.pI V (gok hw) (ww hw 206 rfl) (Or.inl (ww hw 207 rfl)) (d26 26 rfl) (j := 44) rfl ?_
        revert hr
        generalize setI s 44 ((s.1 44) - (1 : Int32)) = s3
        intro hr
        replace hr := (bnd_eq _ _).symm.trans hr
        refine Ev.aloadN (d26 27 rfl) rfl ?_
        refine Ev.gAr V (ww hw 61 rfl) (d26 28 rfl) (j := 25) rfl ?_
        refine Ev.aloadN (d26 29 rfl) rfl ?_
        refine Ev.gI V (ww hw 206 rfl) (d26 30 rfl) (j := 44) rfl rfl ?_
        obtain ⟨b4, hr⟩ := grd_some hr
        refine Ev.ial V (j := 25) rfl rfl (d26 31 rfl) b4 ?_
        refine Ev.istD (L' := [.val (.ref o), y1, .val (.int x2), .val (.int x3), .val (.int (s3.2 25 (ix (s3.1 44)))), y5, y6, y7]) (d26 32 rfl) rfl hy4 rfl ?_
        refine Ev.aloadN (d26 33 rfl) rfl ?_
        refine Ev.gAr V (ww hw 63 rfl) (d26 34 rfl) (j := 26) rfl ?_
        refine Ev.aloadN (d26 35 rfl) rfl ?_
        refine Ev.gI V (ww hw 206 rfl) (d26 36 rfl) (j := 44) rfl rfl ?_
        refine Ev.ial V (j := 26) rfl rfl (d26 37 rfl) b4 ?_
        refine Ev.istD (L' := [.val (.ref o), y1, .val (.int x2), .val (.int x3), .val (.int (s3.2 25 (ix (s3.1 44)))), .val (.int (s3.2 26 (ix (s3.1 44)))), y6, y7]) (d26 38 rfl) rfl hy5 rfl ?_
        refine Ev.aloadN (d26 39 rfl) rfl ?_
        refine Ev.iload (d26 40 rfl) rfl ?_
        refine Ev.iload (d26 41 rfl) rfl ?_
        refine Ev.iloadN (d26 42 rfl) rfl ?_
        obtain ⟨q5, hq6, hr⟩ := Option.bind_eq_some_iff.mp hr
        refine Ev.priv (y := M_expand) (args := [.int (s3.2 25 (ix (s3.1 44))), .int (s3.2 26 (ix (s3.1 44))), .int x2]) (rest := []) (gok hw) rfl nm_expand (ww hw 212 rfl) (ww hw 213 rfl) (ww hw 214 rfl) (ww hw 215 rfl) (lenOf pd_expand rfl) (d26 43 rfl) (V.2.1 s3) (e_expand hw V hq6) (by decide) (Nat.le_of_ble_eq_true rfl) rfl ?_
        refine Ev.istD (L' := [.val (.ref o), y1, .val (.int x2), .val (.int x3), .val (.int (s3.2 25 (ix (s3.1 44)))), .val (.int (s3.2 26 (ix (s3.1 44)))), .val (.int q5.1), y7]) (d26 44 rfl) rfl hy6 rfl ?_
        refine Ev.iload (d26 45 rfl) rfl ?_
        refine Ev.ifge (t := 87) (d26 46 rfl) rfl (fun c7 => ?_) (fun c7 => ?_)
        · replace hr := own_ip c7 hr
          refine Ev.iconst (z := 0) (d26 47 rfl) rfl ?_
          cases hr
          exact Ev.zret0 rfl (d26 48 rfl)
        · replace hr := own_iq c7 hr
          refine Ev.iload (d26 49 rfl) rfl ?_
          refine Ev.ifne (t := 113) (d26 50 rfl) rfl (fun c8 => ?_) (fun c8 => ?_)
          · replace hr := own_ip c8 hr
            refine Ev.aloadN (d26 51 rfl) rfl ?_
            refine Ev.iload (d26 52 rfl) rfl ?_
            obtain ⟨q9, hq10, hr⟩ := Option.bind_eq_some_iff.mp hr
            refine Ev.priv (y := M_mapAt) (args := [.int (s3.2 25 (ix (s3.1 44)))]) (rest := []) (gok hw) rfl nm_mapAt (ww hw 220 rfl) (ww hw 221 rfl) (ww hw 222 rfl) (ww hw 223 rfl) (lenOf pd_mapAt rfl) (d26 53 rfl) (V.2.1 q5.2) (e_mapAt hw V hq10) (by decide) (Nat.le_of_ble_eq_true rfl) rfl ?_
            refine Ev.istD (L' := [.val (.ref o), y1, .val (.int x2), .val (.int x3), .val (.int (s3.2 25 (ix (s3.1 44)))), .val (.int (s3.2 26 (ix (s3.1 44)))), .val (.int q5.1), .val (.int q9)]) (d26 54 rfl) rfl hy7 rfl ?_
            refine Ev.aloadN (d26 55 rfl) rfl ?_
            refine Ev.iload (d26 56 rfl) rfl ?_
            refine Ev.iload (d26 57 rfl) rfl ?_
            obtain ⟨q11, hq12, hr⟩ := Option.bind_eq_some_iff.mp hr
            refine Ev.priv (y := M_addLeaf) (args := [.int q9, .int (s3.2 26 (ix (s3.1 44)))]) (rest := []) (gok hw) rfl nm_addLeaf (ww hw 224 rfl) (ww hw 225 rfl) (ww hw 226 rfl) (ww hw 227 rfl) (lenOf pd_addLeaf rfl) (d26 58 rfl) (V.2.1 q5.2) (e_addLeaf hw V hq12) (by decide) (Nat.le_of_ble_eq_true rfl) rfl ?_
            refine Ev.ifne (t := 113) (d26 59 rfl) rfl (fun c13 => ?_) (fun c13 => ?_)
            · replace hr := own_ip c13 hr
              refine Ev.iconst (z := 0) (d26 60 rfl) rfl ?_
              cases hr
              exact Ev.zret0 rfl (d26 61 rfl)
            · replace hr := own_iq c13 hr
              refine Ev.iinc (z := 1) (L' := [.val (.ref o), y1, .val (.int x2), .val (.int (x3 + (1 : Int32))), .val (.int (s3.2 25 (ix (s3.1 44)))), .val (.int (s3.2 26 (ix (s3.1 44)))), .val (.int q5.1), .val (.int q9)]) (d26 62 rfl) rfl rfl rfl ?_
              refine Ev.goto (t := 23) (d26 63 rfl) rfl ?_
              exact ih x2 (x3 + (1 : Int32)) q11.2 y1 hy1 (.val (.int (s3.2 25 (ix (s3.1 44))))) rfl (.val (.int (s3.2 26 (ix (s3.1 44))))) rfl (.val (.int q5.1)) rfl (.val (.int q9)) rfl _ hr
          · replace hr := own_iq c8 hr
            refine Ev.iinc (z := 1) (L' := [.val (.ref o), y1, .val (.int x2), .val (.int (x3 + (1 : Int32))), .val (.int (s3.2 25 (ix (s3.1 44)))), .val (.int (s3.2 26 (ix (s3.1 44)))), .val (.int q5.1), y7]) (d26 62 rfl) rfl rfl rfl ?_
            refine Ev.goto (t := 23) (d26 63 rfl) rfl ?_
            exact ih x2 (x3 + (1 : Int32)) q5.2 y1 hy1 (.val (.int (s3.2 25 (ix (s3.1 44))))) rfl (.val (.int (s3.2 26 (ix (s3.1 44))))) rfl (.val (.int q5.1)) rfl y7 hy7 _ hr
      · replace hr := own_iq c2 hr
        exact e_flatten_119 hw V  s y1 hy1 (.val (.int x2)) rfl (.val (.int x3)) rfl y4 hy4 y5 hy5 y6 hy6 y7 hy7 _ hr
    · replace hr := own_iq c1 hr
      exact e_flatten_119 hw V  s y1 hy1 (.val (.int x2)) rfl (.val (.int x3)) rfl y4 hy4 y5 hy5 y6 hy6 y7 hy7 _ hr
def f_flatten (n : Nat) (a0 a1 : Int32) (s : St) : Option (Int32 × St) :=
  bnd (setI s 43 (0 : Int32)) fun s1 =>
  bnd (setI s1 44 (0 : Int32)) fun s2 =>
  (f_push a0 (1 : Int32) s2).bind fun q3 =>
  if q3.1 = 0 then
    some ((0 : Int32), q3.2)
  else
    f_flatten_23 n n a1 (0 : Int32) q3.2
set_option maxRecDepth 100000 in
theorem e_flatten {g : GT} {n : Nat} {a0 : Int32} {a1 : Int32} {s : St} {w : Int32 × St} (hw : HW g) {K : St → MHeap} {o : Nat} {r : Nat → Nat} (V : View (GG g) Ln K o r) (hr : f_flatten n a0 a1 s = some w) : EvC (GG g) M_flatten [.ref o, .int a0, .int a1] (K s) ((some (.int w.1)), (K w.2)) := by
  refine EvC.enter (L0 := [.val (.ref o), .val (.int a0), .val (.int a1), .unset, .unset, .unset, .unset, .unset]) pl_flatten (fun h => nomatch h) rfl rfl ?_
  unfold f_flatten at hr
  refine Ev.aloadN (d26 0 rfl) rfl ?_
  refine Ev.iconst (z := 0) (d26 1 rfl) rfl ?_
  refine Ev.pI V (gok hw) (ww hw 204 rfl) (Or.inl (ww hw 205 rfl)) (d26 2 rfl) (j := 43) rfl ?_
  revert hr
  generalize setI s 43 (0 : Int32) = s1
  intro hr
  replace hr := (bnd_eq _ _).symm.trans hr
  refine Ev.aloadN (d26 3 rfl) rfl ?_
  refine Ev.iconst (z := 0) (d26 4 rfl) rfl ?_
  refine Ev.pI V (gok hw) (ww hw 206 rfl) (Or.inl (ww hw 207 rfl)) (d26 5 rfl) (j := 44) rfl ?_
  revert hr
  generalize setI s1 44 (0 : Int32) = s2
  intro hr
  replace hr := (bnd_eq _ _).symm.trans hr
  refine Ev.aloadN (d26 6 rfl) rfl ?_
  refine Ev.iloadN (d26 7 rfl) rfl ?_
  refine Ev.iconst (z := 1) (d26 8 rfl) rfl ?_
  obtain ⟨q3, hq4, hr⟩ := Option.bind_eq_some_iff.mp hr
  refine Ev.priv (y := M_push) (args := [.int a0, .int (1 : Int32)]) (rest := []) (gok hw) rfl nm_push (ww hw 208 rfl) (ww hw 209 rfl) (ww hw 210 rfl) (ww hw 211 rfl) (lenOf pd_push rfl) (d26 9 rfl) (V.2.1 s2) (e_push hw V hq4) (by decide) (Nat.le_of_ble_eq_true rfl) rfl ?_
  refine Ev.ifne (t := 21) (d26 10 rfl) rfl (fun c5 => ?_) (fun c5 => ?_)
  · replace hr := own_ip c5 hr
    refine Ev.iconst (z := 0) (d26 11 rfl) rfl ?_
    cases hr
    exact Ev.zret0 rfl (d26 12 rfl)
  · replace hr := own_iq c5 hr
    refine Ev.iconst (z := 0) (d26 13 rfl) rfl ?_
    refine Ev.istDN (L' := [.val (.ref o), .val (.int a0), .val (.int a1), .val (.int (0 : Int32)), .unset, .unset, .unset, .unset]) (d26 14 rfl) rfl rfl rfl ?_
    exact e_flatten_23 hw V  n a1 (0 : Int32) q3.2 (.val (.int a0)) rfl .unset rfl .unset rfl .unset rfl .unset rfl _ hr
def f_rankOf (s : St) (a0 : Int32) : Option (Int32) :=
  if a0 < 0 then
    some (0 : Int32)
  else
    if a0 < (1056 : Int32) then
      grd (inb a0 1056) <|
      some (s.2 10 (ix a0))
    else
      some (0 : Int32)
set_option maxRecDepth 100000 in
theorem e_rankOf {g : GT} {s : St} {a0 : Int32} {w : Int32} (hw : HW g) {K : St → MHeap} {o : Nat} {r : Nat → Nat} (V : View (GG g) Ln K o r) (hr : f_rankOf s a0 = some w) : EvC (GG g) M_rankOf [.ref o, .int a0] (K s) ((some (.int w)), (K s)) := by
  refine EvC.enter (L0 := [.val (.ref o), .val (.int a0)]) pl_rankOf (fun h => nomatch h) rfl rfl ?_
  unfold f_rankOf at hr
  refine Ev.iloadN (d34 0 rfl) rfl ?_
  refine Ev.iflt (t := 11) (d34 1 rfl) rfl (fun c1 => ?_) (fun c1 => ?_)
  · replace hr := own_ip c1 hr
    refine Ev.iconst (z := 0) (d34 5 rfl) rfl ?_
    cases hr
    exact Ev.ireturn rfl (d34 6 rfl)
  · replace hr := own_iq c1 hr
    refine Ev.iloadN (d34 2 rfl) rfl ?_
    refine Ev.sipush (z := 1056) (d34 3 rfl) rfl ?_
    refine Ev.iclt (t := 13) (d34 4 rfl) rfl (fun c2 => ?_) (fun c2 => ?_)
    · replace hr := own_ip c2 hr
      refine Ev.aloadN (d34 7 rfl) rfl ?_
      refine Ev.gAr V (ww hw 30 rfl) (d34 8 rfl) (j := 10) rfl ?_
      refine Ev.iloadN (d34 9 rfl) rfl ?_
      obtain ⟨b3, hr⟩ := grd_some hr
      refine Ev.ial V (j := 10) rfl rfl (d34 10 rfl) b3 ?_
      cases hr
      exact Ev.ireturn rfl (d34 11 rfl)
    · replace hr := own_iq c2 hr
      refine Ev.iconst (z := 0) (d34 5 rfl) rfl ?_
      cases hr
      exact Ev.ireturn rfl (d34 6 rfl)
def f_before (s : St) (a0 a1 : Int32) : Option (Int32) :=
  (f_rankOf s a0).bind fun q1 =>
  (f_rankOf s a1).bind fun q3 =>
  if q1 = q3 then
    if a0 < a1 then
      some (1 : Int32)
    else
      some (0 : Int32)
  else
    if q1 < q3 then
      some (1 : Int32)
    else
      some (0 : Int32)
set_option maxRecDepth 100000 in
theorem e_before {g : GT} {s : St} {a0 : Int32} {a1 : Int32} {w : Int32} (hw : HW g) {K : St → MHeap} {o : Nat} {r : Nat → Nat} (V : View (GG g) Ln K o r) (hr : f_before s a0 a1 = some w) : EvC (GG g) M_before [.ref o, .int a0, .int a1] (K s) ((some (.int w)), (K s)) := by
  refine EvC.enter (L0 := [.val (.ref o), .val (.int a0), .val (.int a1), .unset, .unset]) pl_before (fun h => nomatch h) rfl rfl ?_
  unfold f_before at hr
  refine Ev.aloadN (d33 0 rfl) rfl ?_
  refine Ev.iloadN (d33 1 rfl) rfl ?_
  obtain ⟨q1, hq2, hr⟩ := Option.bind_eq_some_iff.mp hr
  refine Ev.priv (y := M_rankOf) (args := [.int a0]) (rest := []) (gok hw) rfl nm_rankOf (ww hw 236 rfl) (ww hw 237 rfl) (ww hw 238 rfl) (ww hw 239 rfl) (lenOf pd_rankOf rfl) (d33 2 rfl) (V.2.1 s) (e_rankOf hw V hq2) (by decide) (Nat.le_of_ble_eq_true rfl) rfl ?_
  refine Ev.istDN (L' := [.val (.ref o), .val (.int a0), .val (.int a1), .val (.int q1), .unset]) (d33 3 rfl) rfl rfl rfl ?_
  refine Ev.aloadN (d33 4 rfl) rfl ?_
  refine Ev.iloadN (d33 5 rfl) rfl ?_
  obtain ⟨q3, hq4, hr⟩ := Option.bind_eq_some_iff.mp hr
  refine Ev.priv (y := M_rankOf) (args := [.int a1]) (rest := []) (gok hw) rfl nm_rankOf (ww hw 236 rfl) (ww hw 237 rfl) (ww hw 238 rfl) (ww hw 239 rfl) (lenOf pd_rankOf rfl) (d33 6 rfl) (V.2.1 s) (e_rankOf hw V hq4) (by decide) (Nat.le_of_ble_eq_true rfl) rfl ?_
  refine Ev.istD (L' := [.val (.ref o), .val (.int a0), .val (.int a1), .val (.int q1), .val (.int q3)]) (d33 7 rfl) rfl rfl rfl ?_
  refine Ev.iloadN (d33 8 rfl) rfl ?_
  refine Ev.iload (d33 9 rfl) rfl ?_
  refine Ev.iceq (t := 31) (d33 10 rfl) rfl (fun c5 => ?_) (fun c5 => ?_)
  · replace hr := own_ip c5 hr
    refine Ev.iloadN (d33 18 rfl) rfl ?_
    refine Ev.iloadN (d33 19 rfl) rfl ?_
    refine Ev.icge (t := 40) (d33 20 rfl) rfl (fun c6 => ?_) (fun c6 => ?_)
    · replace hr := own_ip c6 hr
      refine Ev.iconst (z := 1) (d33 21 rfl) rfl ?_
      refine Ev.goto (t := 41) (d33 22 rfl) rfl ?_
      cases hr
      exact Ev.zret1 rfl (d33 24 rfl)
    · replace hr := own_iq c6 hr
      refine Ev.iconst (z := 0) (d33 23 rfl) rfl ?_
      cases hr
      exact Ev.zret0 rfl (d33 24 rfl)
  · replace hr := own_iq c5 hr
    refine Ev.iloadN (d33 11 rfl) rfl ?_
    refine Ev.iload (d33 12 rfl) rfl ?_
    refine Ev.icge (t := 29) (d33 13 rfl) rfl (fun c7 => ?_) (fun c7 => ?_)
    · replace hr := own_ip c7 hr
      refine Ev.iconst (z := 1) (d33 14 rfl) rfl ?_
      refine Ev.goto (t := 30) (d33 15 rfl) rfl ?_
      cases hr
      exact Ev.zret1 rfl (d33 17 rfl)
    · replace hr := own_iq c7 hr
      refine Ev.iconst (z := 0) (d33 16 rfl) rfl ?_
      cases hr
      exact Ev.zret0 rfl (d33 17 rfl)
def f_sortLeaves_93 (n : Nat) (k2 : Int32 → St → Option (St)) (x1 x2 x3 x4 : Int32) (s : St) : Option (St) :=
  grd (inb x4 16) <|
  bnd (setA s 22 (ix x4) x2) fun s2 =>
  bnd (setA s2 23 (ix x4) x3) fun s3 =>
  k2 (x1 + (1 : Int32)) s3
set_option maxRecDepth 100000 in
theorem e_sortLeaves_93 {g : GT} {n : Nat} (hw : HW g) {K : St → MHeap} {o : Nat} {r : Nat → Nat} (V : View (GG g) Ln K o r) {k2 : Int32 → St → Option (St)} (hk2 : ∀ (x1 : Int32) (s : St) (y2 : Slot) (hy2 : one1 y2 = true) (y3 : Slot) (hy3 : one1 y3 = true) (y4 : Slot) (hy4 : one1 y4 = true) (w : St), k2 x1 s = some w → Ev (GG g) M_sortLeaves 2 [.val (.ref o), .val (.int x1), y2, y3, y4] [] (K s) (none, (K w))) (x1 x2 x3 x4 : Int32) (s : St) (w : St) (hr : f_sortLeaves_93 n k2 x1 x2 x3 x4 s = some w) : Ev (GG g) M_sortLeaves 93 [.val (.ref o), .val (.int x1), .val (.int x2), .val (.int x3), .val (.int x4)] [] (K s) (none, (K w)) := by
  unfold f_sortLeaves_93 at hr
  refine Ev.aloadN (d32 55 rfl) rfl ?_
  refine Ev.gAr V (ww hw 54 rfl) (d32 56 rfl) (j := 22) rfl ?_
  refine Ev.iload (d32 57 rfl) rfl ?_
  refine Ev.iloadN (d32 58 rfl) rfl ?_
  obtain ⟨b1, hr⟩ := grd_some hr
  refine Ev.ias V (j := 22) rfl rfl (d32 59 rfl) b1 ?_
  revert hr
  generalize setA s 22 (ix x4) x2 = s2
  intro hr
  replace hr := (bnd_eq _ _).symm.trans hr
  refine Ev.aloadN (d32 60 rfl) rfl ?_
  refine Ev.gAr V (ww hw 56 rfl) (d32 61 rfl) (j := 23) rfl ?_
  refine Ev.iload (d32 62 rfl) rfl ?_
  refine Ev.iloadN (d32 63 rfl) rfl ?_
  refine Ev.ias V (j := 23) rfl rfl (d32 64 rfl) b1 ?_
  revert hr
  generalize setA s2 23 (ix x4) x3 = s3
  intro hr
  replace hr := (bnd_eq _ _).symm.trans hr
  refine Ev.iinc (z := 1) (L' := [.val (.ref o), .val (.int (x1 + (1 : Int32))), .val (.int x2), .val (.int x3), .val (.int x4)]) (d32 65 rfl) rfl rfl rfl ?_
  refine Ev.goto (t := 2) (d32 66 rfl) rfl ?_
  exact hk2 (x1 + (1 : Int32)) s3 (.val (.int x2)) rfl (.val (.int x3)) rfl (.val (.int x4)) rfl _ hr
def f_sortLeaves_33 (n : Nat) (k2 : Int32 → St → Option (St)) : Nat → Int32 → Int32 → Int32 → Int32 → St → Option (St)
  | 0 => fun _ _ _ _ _ => none
  | k + 1 => fun x1 x2 x3 x4 s =>
    if 0 < x4 then
      grd (inb (x4 - (1 : Int32)) 16) <|
      (f_before s x2 (s.2 22 (ix (x4 - (1 : Int32))))).bind fun q3 =>
      if q3 = 0 then
        f_sortLeaves_93 n k2 x1 x2 x3 x4 s
      else
        grd (inb x4 16) <|
        bnd (setA s 22 (ix x4) (s.2 22 (ix (x4 - (1 : Int32))))) fun s7 =>
        bnd (setA s7 23 (ix x4) (s7.2 23 (ix (x4 - (1 : Int32))))) fun s8 =>
        f_sortLeaves_33 n k2 k x1 x2 x3 (x4 + (-1 : Int32)) s8
    else
      f_sortLeaves_93 n k2 x1 x2 x3 x4 s
set_option maxRecDepth 100000 in
theorem e_sortLeaves_33 {g : GT} {n : Nat} (hw : HW g) {K : St → MHeap} {o : Nat} {r : Nat → Nat} (V : View (GG g) Ln K o r) {k2 : Int32 → St → Option (St)} (hk2 : ∀ (x1 : Int32) (s : St) (y2 : Slot) (hy2 : one1 y2 = true) (y3 : Slot) (hy3 : one1 y3 = true) (y4 : Slot) (hy4 : one1 y4 = true) (w : St), k2 x1 s = some w → Ev (GG g) M_sortLeaves 2 [.val (.ref o), .val (.int x1), y2, y3, y4] [] (K s) (none, (K w))) (k : Nat) : ∀ (x1 x2 x3 x4 : Int32) (s : St) (w : St), f_sortLeaves_33 n k2 k x1 x2 x3 x4 s = some w → Ev (GG g) M_sortLeaves 33 [.val (.ref o), .val (.int x1), .val (.int x2), .val (.int x3), .val (.int x4)] [] (K s) (none, (K w)) := by
  induction k with
  | zero => intro x1 x2 x3 x4 s w hr; rw [f_sortLeaves_33] at hr; cases hr
  | succ k ih =>
    intro x1 x2 x3 x4 s w hr
    rw [f_sortLeaves_33] at hr
    refine Ev.iload (d32 21 rfl) rfl ?_
    refine Ev.ifle (t := 93) (d32 22 rfl) rfl (fun c1 => ?_) (fun c1 => ?_)
    · replace hr := own_ip c1 hr
      refine Ev.aloadN (d32 23 rfl) rfl ?_
      refine Ev.iloadN (d32 24 rfl) rfl ?_
      refine Ev.aloadN (d32 25 rfl) rfl ?_
      refine Ev.gAr V (ww hw 54 rfl) (d32 26 rfl) (j := 22) rfl ?_
      refine Ev.iload (d32 27 rfl) rfl ?_
      refine Ev.iconst (z := 1) (d32 28 rfl) rfl ?_
      refine Ev.isub (d32 29 rfl) ?_
      obtain ⟨b2, hr⟩ := grd_some hr
      refine Ev.ial V (j := 22) rfl rfl (d32 30 rfl) b2 ?_
      obtain ⟨q3, hq4, hr⟩ := Option.bind_eq_some_iff.mp hr
      refine Ev.priv (y := M_before) (args := [.int x2, .int (s.2 22 (ix (x4 - (1 : Int32))))]) (rest := []) (gok hw) rfl nm_before (ww hw 232 rfl) (ww hw 233 rfl) (ww hw 234 rfl) (ww hw 235 rfl) (lenOf pd_before rfl) (d32 31 rfl) (V.2.1 s) (e_before hw V hq4) (by decide) (Nat.le_of_ble_eq_true rfl) rfl ?_
      refine Ev.ifeq (t := 93) (d32 32 rfl) rfl (fun c5 => ?_) (fun c5 => ?_)
      · replace hr := own_ip c5 hr
        exact e_sortLeaves_93 hw V hk2 x1 x2 x3 x4 s  _ hr
      · replace hr := own_iq c5 hr
        refine Ev.aloadN (d32 33 rfl) rfl ?_
        refine Ev.gAr V (ww hw 54 rfl) (d32 34 rfl) (j := 22) rfl ?_
        refine Ev.iload (d32 35 rfl) rfl ?_
        refine Ev.aloadN (d32 36 rfl) rfl ?_
        refine Ev.gAr V (ww hw 54 rfl) (d32 37 rfl) (j := 22) rfl ?_
        refine Ev.iload (d32 38 rfl) rfl ?_
        refine Ev.iconst (z := 1) (d32 39 rfl) rfl ?_
        refine Ev.isub (d32 40 rfl) ?_
        refine Ev.ial V (j := 22) rfl rfl (d32 41 rfl) b2 ?_
        obtain ⟨b6, hr⟩ := grd_some hr
        refine Ev.ias V (j := 22) rfl rfl (d32 42 rfl) b6 ?_
        revert hr
        generalize setA s 22 (ix x4) (s.2 22 (ix (x4 - (1 : Int32)))) = s7
        intro hr
        replace hr := (bnd_eq _ _).symm.trans hr
        refine Ev.aloadN (d32 43 rfl) rfl ?_
        refine Ev.gAr V (ww hw 56 rfl) (d32 44 rfl) (j := 23) rfl ?_
        refine Ev.iload (d32 45 rfl) rfl ?_
        refine Ev.aloadN (d32 46 rfl) rfl ?_
        refine Ev.gAr V (ww hw 56 rfl) (d32 47 rfl) (j := 23) rfl ?_
        refine Ev.iload (d32 48 rfl) rfl ?_
        refine Ev.iconst (z := 1) (d32 49 rfl) rfl ?_
        refine Ev.isub (d32 50 rfl) ?_
        refine Ev.ial V (j := 23) rfl rfl (d32 51 rfl) b2 ?_
        refine Ev.ias V (j := 23) rfl rfl (d32 52 rfl) b6 ?_
        revert hr
        generalize setA s7 23 (ix x4) (s7.2 23 (ix (x4 - (1 : Int32)))) = s8
        intro hr
        replace hr := (bnd_eq _ _).symm.trans hr
        refine Ev.iinc (z := -1) (L' := [.val (.ref o), .val (.int x1), .val (.int x2), .val (.int x3), .val (.int (x4 + (-1 : Int32)))]) (d32 53 rfl) rfl rfl rfl ?_
        refine Ev.goto (t := 33) (d32 54 rfl) rfl ?_
        exact ih x1 x2 x3 (x4 + (-1 : Int32)) s8  _ hr
    · replace hr := own_iq c1 hr
      exact e_sortLeaves_93 hw V hk2 x1 x2 x3 x4 s  _ hr
def f_sortLeaves_2 (n : Nat) : Nat → Int32 → St → Option (St)
  | 0 => fun _ _ => none
  | k + 1 => fun x1 s =>
    if x1 < (s.1 43) then
      if x1 < (16 : Int32) then
        grd (inb x1 16) <|
        f_sortLeaves_33 n (f_sortLeaves_2 n k) n x1 (s.2 22 (ix x1)) (s.2 23 (ix x1)) x1 s
      else
        some s
    else
      some s
set_option maxRecDepth 100000 in
theorem e_sortLeaves_2 {g : GT} {n : Nat} (hw : HW g) {K : St → MHeap} {o : Nat} {r : Nat → Nat} (V : View (GG g) Ln K o r) (k : Nat) : ∀ (x1 : Int32) (s : St) (y2 : Slot) (hy2 : one1 y2 = true) (y3 : Slot) (hy3 : one1 y3 = true) (y4 : Slot) (hy4 : one1 y4 = true) (w : St), f_sortLeaves_2 n k x1 s = some w → Ev (GG g) M_sortLeaves 2 [.val (.ref o), .val (.int x1), y2, y3, y4] [] (K s) (none, (K w)) := by
  induction k with
  | zero => intro x1 s y2 hy2 y3 hy3 y4 hy4 w hr; rw [f_sortLeaves_2] at hr; cases hr
  | succ k ih =>
    intro x1 s y2 hy2 y3 hy3 y4 hy4 w hr
    rw [f_sortLeaves_2] at hr
    refine Ev.iloadN (d32 2 rfl) rfl ?_
    refine Ev.aloadN (d32 3 rfl) rfl ?_
    refine Ev.gI V (ww hw 204 rfl) (d32 4 rfl) (j := 43) rfl rfl ?_
    refine Ev.icge (t := 115) (d32 5 rfl) rfl (fun c1 => ?_) (fun c1 => ?_)
    · replace hr := own_ip c1 hr
      refine Ev.iloadN (d32 6 rfl) rfl ?_
      refine Ev.bipush (z := 16) (d32 7 rfl) rfl ?_
      refine Ev.icge (t := 115) (d32 8 rfl) rfl (fun c2 => ?_) (fun c2 => ?_)
      · replace hr := own_ip c2 hr
        refine Ev.aloadN (d32 9 rfl) rfl ?_
        refine Ev.gAr V (ww hw 54 rfl) (d32 10 rfl) (j := 22) rfl ?_
        refine Ev.iloadN (d32 11 rfl) rfl ?_
        obtain ⟨b3, hr⟩ := grd_some hr
        refine Ev.ial V (j := 22) rfl rfl (d32 12 rfl) b3 ?_
        refine Ev.istDN (L' := [.val (.ref o), .val (.int x1), .val (.int (s.2 22 (ix x1))), y3, y4]) (d32 13 rfl) rfl hy2 rfl ?_
        refine Ev.aloadN (d32 14 rfl) rfl ?_
        refine Ev.gAr V (ww hw 56 rfl) (d32 15 rfl) (j := 23) rfl ?_
        refine Ev.iloadN (d32 16 rfl) rfl ?_
        refine Ev.ial V (j := 23) rfl rfl (d32 17 rfl) b3 ?_
        refine Ev.istDN (L' := [.val (.ref o), .val (.int x1), .val (.int (s.2 22 (ix x1))), .val (.int (s.2 23 (ix x1))), y4]) (d32 18 rfl) rfl hy3 rfl ?_
        refine Ev.iloadN (d32 19 rfl) rfl ?_
        refine Ev.istD (L' := [.val (.ref o), .val (.int x1), .val (.int (s.2 22 (ix x1))), .val (.int (s.2 23 (ix x1))), .val (.int x1)]) (d32 20 rfl) rfl hy4 rfl ?_
        exact e_sortLeaves_33 hw V ih n x1 (s.2 22 (ix x1)) (s.2 23 (ix x1)) x1 s  _ hr
      · replace hr := own_iq c2 hr
        cases hr
        exact Ev.vreturn rfl (d32 67 rfl)
    · replace hr := own_iq c1 hr
      cases hr
      exact Ev.vreturn rfl (d32 67 rfl)
def f_sortLeaves (n : Nat) (s : St) : Option (St) :=
  f_sortLeaves_2 n n (1 : Int32) s
set_option maxRecDepth 100000 in
theorem e_sortLeaves {g : GT} {n : Nat} {s : St} {w : St} (hw : HW g) {K : St → MHeap} {o : Nat} {r : Nat → Nat} (V : View (GG g) Ln K o r) (hr : f_sortLeaves n s = some w) : EvC (GG g) M_sortLeaves [.ref o] (K s) (none, (K w)) := by
  refine EvC.enter (L0 := [.val (.ref o), .unset, .unset, .unset, .unset]) pl_sortLeaves (fun _ => rfl) rfl rfl ?_
  unfold f_sortLeaves at hr
  refine Ev.iconst (z := 1) (d32 0 rfl) rfl ?_
  refine Ev.istDN (L' := [.val (.ref o), .val (.int (1 : Int32)), .unset, .unset, .unset]) (d32 1 rfl) rfl rfl rfl ?_
  exact e_sortLeaves_2 hw V  n (1 : Int32) s .unset rfl .unset rfl .unset rfl _ hr
def f_isConst (s : St) (a0 : Int32) : Option (Int32) :=
  if a0 < 0 then
    some (0 : Int32)
  else
    if a0 < (1056 : Int32) then
      grd (inb a0 1056) <|
      if (s.2 7 (ix a0)) = (1 : Int32) then
        some (1 : Int32)
      else
        some (0 : Int32)
    else
      some (0 : Int32)
set_option maxRecDepth 100000 in
theorem e_isConst {g : GT} {s : St} {a0 : Int32} {w : Int32} (hw : HW g) {K : St → MHeap} {o : Nat} {r : Nat → Nat} (V : View (GG g) Ln K o r) (hr : f_isConst s a0 = some w) : EvC (GG g) M_isConst [.ref o, .int a0] (K s) ((some (.int w)), (K s)) := by
  refine EvC.enter (L0 := [.val (.ref o), .val (.int a0)]) pl_isConst (fun h => nomatch h) rfl rfl ?_
  unfold f_isConst at hr
  refine Ev.iloadN (d36 0 rfl) rfl ?_
  refine Ev.iflt (t := 11) (d36 1 rfl) rfl (fun c1 => ?_) (fun c1 => ?_)
  · replace hr := own_ip c1 hr
    refine Ev.iconst (z := 0) (d36 5 rfl) rfl ?_
    cases hr
    exact Ev.zret0 rfl (d36 6 rfl)
  · replace hr := own_iq c1 hr
    refine Ev.iloadN (d36 2 rfl) rfl ?_
    refine Ev.sipush (z := 1056) (d36 3 rfl) rfl ?_
    refine Ev.iclt (t := 13) (d36 4 rfl) rfl (fun c2 => ?_) (fun c2 => ?_)
    · replace hr := own_ip c2 hr
      refine Ev.aloadN (d36 7 rfl) rfl ?_
      refine Ev.gAr V (ww hw 24 rfl) (d36 8 rfl) (j := 7) rfl ?_
      refine Ev.iloadN (d36 9 rfl) rfl ?_
      obtain ⟨b3, hr⟩ := grd_some hr
      refine Ev.ial V (j := 7) rfl rfl (d36 10 rfl) b3 ?_
      refine Ev.iconst (z := 1) (d36 11 rfl) rfl ?_
      refine Ev.icne (t := 27) (d36 12 rfl) rfl (fun c4 => ?_) (fun c4 => ?_)
      · replace hr := own_ip c4 hr
        refine Ev.iconst (z := 1) (d36 13 rfl) rfl ?_
        refine Ev.goto (t := 28) (d36 14 rfl) rfl ?_
        cases hr
        exact Ev.zret1 rfl (d36 16 rfl)
      · replace hr := own_iq c4 hr
        refine Ev.iconst (z := 0) (d36 15 rfl) rfl ?_
        cases hr
        exact Ev.zret0 rfl (d36 16 rfl)
    · replace hr := own_iq c2 hr
      refine Ev.iconst (z := 0) (d36 5 rfl) rfl ?_
      cases hr
      exact Ev.zret0 rfl (d36 6 rfl)
def f_constOf (s : St) (a0 : Int32) : Option (Int32) :=
  if a0 < 0 then
    some (0 : Int32)
  else
    if a0 < (1056 : Int32) then
      grd (inb a0 1056) <|
      some (s.2 8 (ix a0))
    else
      some (0 : Int32)
set_option maxRecDepth 100000 in
theorem e_constOf {g : GT} {s : St} {a0 : Int32} {w : Int32} (hw : HW g) {K : St → MHeap} {o : Nat} {r : Nat → Nat} (V : View (GG g) Ln K o r) (hr : f_constOf s a0 = some w) : EvC (GG g) M_constOf [.ref o, .int a0] (K s) ((some (.int w)), (K s)) := by
  refine EvC.enter (L0 := [.val (.ref o), .val (.int a0)]) pl_constOf (fun h => nomatch h) rfl rfl ?_
  unfold f_constOf at hr
  refine Ev.iloadN (d47 0 rfl) rfl ?_
  refine Ev.iflt (t := 11) (d47 1 rfl) rfl (fun c1 => ?_) (fun c1 => ?_)
  · replace hr := own_ip c1 hr
    refine Ev.iconst (z := 0) (d47 5 rfl) rfl ?_
    cases hr
    exact Ev.ireturn rfl (d47 6 rfl)
  · replace hr := own_iq c1 hr
    refine Ev.iloadN (d47 2 rfl) rfl ?_
    refine Ev.sipush (z := 1056) (d47 3 rfl) rfl ?_
    refine Ev.iclt (t := 13) (d47 4 rfl) rfl (fun c2 => ?_) (fun c2 => ?_)
    · replace hr := own_ip c2 hr
      refine Ev.aloadN (d47 7 rfl) rfl ?_
      refine Ev.gAr V (ww hw 26 rfl) (d47 8 rfl) (j := 8) rfl ?_
      refine Ev.iloadN (d47 9 rfl) rfl ?_
      obtain ⟨b3, hr⟩ := grd_some hr
      refine Ev.ial V (j := 8) rfl rfl (d47 10 rfl) b3 ?_
      cases hr
      exact Ev.ireturn rfl (d47 11 rfl)
    · replace hr := own_iq c2 hr
      refine Ev.iconst (z := 0) (d47 5 rfl) rfl ?_
      cases hr
      exact Ev.ireturn rfl (d47 6 rfl)
def f_removeRepeats_95 (n : Nat) (k2 : Int32 → Int32 → St → Option (St)) (k32 : Int32 → Int32 → Int32 → St → Option (St)) (x1 x2 x3 : Int32) (s : St) : Option (St) :=
  grd (inb x3 16) <|
  bnd (setA s 24 (ix x3) ((1 : Int32) &&& 1)) fun s2 =>
  if x1 = (2 : Int32) then
    k32 x1 x2 (x3 + (1 : Int32)) s2
  else
    grd (inb x2 16) <|
    bnd (setA s2 24 (ix x2) ((1 : Int32) &&& 1)) fun s5 =>
    k2 x1 (x2 + (1 : Int32)) s5
set_option maxRecDepth 100000 in
theorem e_removeRepeats_95 {g : GT} {n : Nat} (hw : HW g) {K : St → MHeap} {o : Nat} {r : Nat → Nat} (V : View (GG g) Ln K o r) {k2 : Int32 → Int32 → St → Option (St)} (hk2 : ∀ (x1 x2 : Int32) (s : St) (y3 : Slot) (hy3 : one1 y3 = true) (w : St), k2 x1 x2 s = some w → Ev (GG g) M_removeRepeats 2 [.val (.ref o), .val (.int x1), .val (.int x2), y3] [] (K s) (none, (K w))) {k32 : Int32 → Int32 → Int32 → St → Option (St)} (hk32 : ∀ (x1 x2 x3 : Int32) (s : St) (w : St), k32 x1 x2 x3 s = some w → Ev (GG g) M_removeRepeats 32 [.val (.ref o), .val (.int x1), .val (.int x2), .val (.int x3)] [] (K s) (none, (K w))) (x1 x2 x3 : Int32) (s : St) (w : St) (hr : f_removeRepeats_95 n k2 k32 x1 x2 x3 s = some w) : Ev (GG g) M_removeRepeats 95 [.val (.ref o), .val (.int x1), .val (.int x2), .val (.int x3)] [] (K s) (none, (K w)) := by
  unfold f_removeRepeats_95 at hr
  refine Ev.aloadN (d37 53 rfl) rfl ?_
  refine Ev.gAr V (ww hw 59 rfl) (d37 54 rfl) (j := 24) rfl ?_
  refine Ev.iloadN (d37 55 rfl) rfl ?_
  refine Ev.iconst (z := 1) (d37 56 rfl) rfl ?_
  obtain ⟨b1, hr⟩ := grd_some hr
  refine Ev.bas V (j := 24) rfl rfl (d37 57 rfl) b1 ?_
  revert hr
  generalize setA s 24 (ix x3) ((1 : Int32) &&& 1) = s2
  intro hr
  replace hr := (bnd_eq _ _).symm.trans hr
  refine Ev.iloadN (d37 58 rfl) rfl ?_
  refine Ev.iconst (z := 2) (d37 59 rfl) rfl ?_
  refine Ev.iceq (t := 117) (d37 60 rfl) rfl (fun c3 => ?_) (fun c3 => ?_)
  · replace hr := own_ip c3 hr
    refine Ev.iinc (z := 1) (L' := [.val (.ref o), .val (.int x1), .val (.int x2), .val (.int (x3 + (1 : Int32)))]) (d37 67 rfl) rfl rfl rfl ?_
    refine Ev.goto (t := 32) (d37 68 rfl) rfl ?_
    exact hk32 x1 x2 (x3 + (1 : Int32)) s2  _ hr
  · replace hr := own_iq c3 hr
    refine Ev.aloadN (d37 61 rfl) rfl ?_
    refine Ev.gAr V (ww hw 59 rfl) (d37 62 rfl) (j := 24) rfl ?_
    refine Ev.iloadN (d37 63 rfl) rfl ?_
    refine Ev.iconst (z := 1) (d37 64 rfl) rfl ?_
    obtain ⟨b4, hr⟩ := grd_some hr
    refine Ev.bas V (j := 24) rfl rfl (d37 65 rfl) b4 ?_
    revert hr
    generalize setA s2 24 (ix x2) ((1 : Int32) &&& 1) = s5
    intro hr
    replace hr := (bnd_eq _ _).symm.trans hr
    refine Ev.goto (t := 123) (d37 66 rfl) rfl ?_
    refine Ev.iinc (z := 1) (L' := [.val (.ref o), .val (.int x1), .val (.int (x2 + (1 : Int32))), .val (.int x3)]) (d37 69 rfl) rfl rfl rfl ?_
    refine Ev.goto (t := 2) (d37 70 rfl) rfl ?_
    exact hk2 x1 (x2 + (1 : Int32)) s5 (.val (.int x3)) rfl _ hr
def f_removeRepeats_32 (n : Nat) (k2 : Int32 → Int32 → St → Option (St)) : Nat → Int32 → Int32 → Int32 → St → Option (St)
  | 0 => fun _ _ _ _ => none
  | k + 1 => fun x1 x2 x3 s =>
    if x3 < (s.1 43) then
      if x3 < (16 : Int32) then
        grd (inb x3 16) <|
        if (s.2 24 (ix x3)) = 0 then
          grd (inb x2 16) <|
          if (s.2 22 (ix x3)) = (s.2 22 (ix x2)) then
            if x1 = 0 then
              if (s.2 23 (ix x3)) = (s.2 23 (ix x2)) then
                f_removeRepeats_32 n k2 k x1 x2 (x3 + (1 : Int32)) s
              else
                f_removeRepeats_95 n k2 (f_removeRepeats_32 n k2 k) x1 x2 x3 s
            else
              f_removeRepeats_95 n k2 (f_removeRepeats_32 n k2 k) x1 x2 x3 s
          else
            f_removeRepeats_32 n k2 k x1 x2 (x3 + (1 : Int32)) s
        else
          f_removeRepeats_32 n k2 k x1 x2 (x3 + (1 : Int32)) s
      else
        k2 x1 (x2 + (1 : Int32)) s
    else
      k2 x1 (x2 + (1 : Int32)) s
set_option maxRecDepth 100000 in
theorem e_removeRepeats_32 {g : GT} {n : Nat} (hw : HW g) {K : St → MHeap} {o : Nat} {r : Nat → Nat} (V : View (GG g) Ln K o r) {k2 : Int32 → Int32 → St → Option (St)} (hk2 : ∀ (x1 x2 : Int32) (s : St) (y3 : Slot) (hy3 : one1 y3 = true) (w : St), k2 x1 x2 s = some w → Ev (GG g) M_removeRepeats 2 [.val (.ref o), .val (.int x1), .val (.int x2), y3] [] (K s) (none, (K w))) (k : Nat) : ∀ (x1 x2 x3 : Int32) (s : St) (w : St), f_removeRepeats_32 n k2 k x1 x2 x3 s = some w → Ev (GG g) M_removeRepeats 32 [.val (.ref o), .val (.int x1), .val (.int x2), .val (.int x3)] [] (K s) (none, (K w)) := by
  induction k with
  | zero => intro x1 x2 x3 s w hr; rw [f_removeRepeats_32] at hr; cases hr
  | succ k ih =>
    intro x1 x2 x3 s w hr
    rw [f_removeRepeats_32] at hr
    refine Ev.iloadN (d37 19 rfl) rfl ?_
    refine Ev.aloadN (d37 20 rfl) rfl ?_
    refine Ev.gI V (ww hw 204 rfl) (d37 21 rfl) (j := 43) rfl rfl ?_
    refine Ev.icge (t := 123) (d37 22 rfl) rfl (fun c1 => ?_) (fun c1 => ?_)
    · replace hr := own_ip c1 hr
      refine Ev.iloadN (d37 23 rfl) rfl ?_
      refine Ev.bipush (z := 16) (d37 24 rfl) rfl ?_
      refine Ev.icge (t := 123) (d37 25 rfl) rfl (fun c2 => ?_) (fun c2 => ?_)
      · replace hr := own_ip c2 hr
        refine Ev.aloadN (d37 26 rfl) rfl ?_
        refine Ev.gAr V (ww hw 59 rfl) (d37 27 rfl) (j := 24) rfl ?_
        refine Ev.iloadN (d37 28 rfl) rfl ?_
        obtain ⟨b3, hr⟩ := grd_some hr
        refine Ev.bal V (j := 24) rfl rfl (d37 29 rfl) b3 ?_
        refine Ev.ifne (t := 117) (d37 30 rfl) rfl (fun c4 => ?_) (fun c4 => ?_)
        · replace hr := own_ip c4 hr
          refine Ev.aloadN (d37 31 rfl) rfl ?_
          refine Ev.gAr V (ww hw 54 rfl) (d37 32 rfl) (j := 22) rfl ?_
          refine Ev.iloadN (d37 33 rfl) rfl ?_
          refine Ev.ial V (j := 22) rfl rfl (d37 34 rfl) b3 ?_
          refine Ev.aloadN (d37 35 rfl) rfl ?_
          refine Ev.gAr V (ww hw 54 rfl) (d37 36 rfl) (j := 22) rfl ?_
          refine Ev.iloadN (d37 37 rfl) rfl ?_
          obtain ⟨b5, hr⟩ := grd_some hr
          refine Ev.ial V (j := 22) rfl rfl (d37 38 rfl) b5 ?_
          refine Ev.iceq (t := 73) (d37 39 rfl) rfl (fun c6 => ?_) (fun c6 => ?_)
          · replace hr := own_ip c6 hr
            refine Ev.iloadN (d37 41 rfl) rfl ?_
            refine Ev.ifne (t := 95) (d37 42 rfl) rfl (fun c7 => ?_) (fun c7 => ?_)
            · replace hr := own_ip c7 hr
              refine Ev.aloadN (d37 43 rfl) rfl ?_
              refine Ev.gAr V (ww hw 56 rfl) (d37 44 rfl) (j := 23) rfl ?_
              refine Ev.iloadN (d37 45 rfl) rfl ?_
              refine Ev.ial V (j := 23) rfl rfl (d37 46 rfl) b3 ?_
              refine Ev.aloadN (d37 47 rfl) rfl ?_
              refine Ev.gAr V (ww hw 56 rfl) (d37 48 rfl) (j := 23) rfl ?_
              refine Ev.iloadN (d37 49 rfl) rfl ?_
              refine Ev.ial V (j := 23) rfl rfl (d37 50 rfl) b5 ?_
              refine Ev.icne (t := 95) (d37 51 rfl) rfl (fun c8 => ?_) (fun c8 => ?_)
              · replace hr := own_ip c8 hr
                refine Ev.goto (t := 117) (d37 52 rfl) rfl ?_
                refine Ev.iinc (z := 1) (L' := [.val (.ref o), .val (.int x1), .val (.int x2), .val (.int (x3 + (1 : Int32)))]) (d37 67 rfl) rfl rfl rfl ?_
                refine Ev.goto (t := 32) (d37 68 rfl) rfl ?_
                exact ih x1 x2 (x3 + (1 : Int32)) s  _ hr
              · replace hr := own_iq c8 hr
                exact e_removeRepeats_95 hw V hk2 ih x1 x2 x3 s  _ hr
            · replace hr := own_iq c7 hr
              exact e_removeRepeats_95 hw V hk2 ih x1 x2 x3 s  _ hr
          · replace hr := own_iq c6 hr
            refine Ev.goto (t := 117) (d37 40 rfl) rfl ?_
            refine Ev.iinc (z := 1) (L' := [.val (.ref o), .val (.int x1), .val (.int x2), .val (.int (x3 + (1 : Int32)))]) (d37 67 rfl) rfl rfl rfl ?_
            refine Ev.goto (t := 32) (d37 68 rfl) rfl ?_
            exact ih x1 x2 (x3 + (1 : Int32)) s  _ hr
        · replace hr := own_iq c4 hr
          refine Ev.iinc (z := 1) (L' := [.val (.ref o), .val (.int x1), .val (.int x2), .val (.int (x3 + (1 : Int32)))]) (d37 67 rfl) rfl rfl rfl ?_
          refine Ev.goto (t := 32) (d37 68 rfl) rfl ?_
          exact ih x1 x2 (x3 + (1 : Int32)) s  _ hr
      · replace hr := own_iq c2 hr
        refine Ev.iinc (z := 1) (L' := [.val (.ref o), .val (.int x1), .val (.int (x2 + (1 : Int32))), .val (.int x3)]) (d37 69 rfl) rfl rfl rfl ?_
        refine Ev.goto (t := 2) (d37 70 rfl) rfl ?_
        exact hk2 x1 (x2 + (1 : Int32)) s (.val (.int x3)) rfl _ hr
    · replace hr := own_iq c1 hr
      refine Ev.iinc (z := 1) (L' := [.val (.ref o), .val (.int x1), .val (.int (x2 + (1 : Int32))), .val (.int x3)]) (d37 69 rfl) rfl rfl rfl ?_
      refine Ev.goto (t := 2) (d37 70 rfl) rfl ?_
      exact hk2 x1 (x2 + (1 : Int32)) s (.val (.int x3)) rfl _ hr
def f_removeRepeats_2 (n : Nat) : Nat → Int32 → Int32 → St → Option (St)
  | 0 => fun _ _ _ => none
  | k + 1 => fun x1 x2 s =>
    if x2 < (s.1 43) then
      if x2 < (16 : Int32) then
        grd (inb x2 16) <|
        if (s.2 24 (ix x2)) = 0 then
          f_removeRepeats_32 n (f_removeRepeats_2 n k) n x1 x2 (x2 + (1 : Int32)) s
        else
          f_removeRepeats_2 n k x1 (x2 + (1 : Int32)) s
      else
        some s
    else
      some s
set_option maxRecDepth 100000 in
theorem e_removeRepeats_2 {g : GT} {n : Nat} (hw : HW g) {K : St → MHeap} {o : Nat} {r : Nat → Nat} (V : View (GG g) Ln K o r) (k : Nat) : ∀ (x1 x2 : Int32) (s : St) (y3 : Slot) (hy3 : one1 y3 = true) (w : St), f_removeRepeats_2 n k x1 x2 s = some w → Ev (GG g) M_removeRepeats 2 [.val (.ref o), .val (.int x1), .val (.int x2), y3] [] (K s) (none, (K w)) := by
  induction k with
  | zero => intro x1 x2 s y3 hy3 w hr; rw [f_removeRepeats_2] at hr; cases hr
  | succ k ih =>
    intro x1 x2 s y3 hy3 w hr
    rw [f_removeRepeats_2] at hr
    refine Ev.iloadN (d37 2 rfl) rfl ?_
    refine Ev.aloadN (d37 3 rfl) rfl ?_
    refine Ev.gI V (ww hw 204 rfl) (d37 4 rfl) (j := 43) rfl rfl ?_
    refine Ev.icge (t := 129) (d37 5 rfl) rfl (fun c1 => ?_) (fun c1 => ?_)
    · replace hr := own_ip c1 hr
      refine Ev.iloadN (d37 6 rfl) rfl ?_
      refine Ev.bipush (z := 16) (d37 7 rfl) rfl ?_
      refine Ev.icge (t := 129) (d37 8 rfl) rfl (fun c2 => ?_) (fun c2 => ?_)
      · replace hr := own_ip c2 hr
        refine Ev.aloadN (d37 9 rfl) rfl ?_
        refine Ev.gAr V (ww hw 59 rfl) (d37 10 rfl) (j := 24) rfl ?_
        refine Ev.iloadN (d37 11 rfl) rfl ?_
        obtain ⟨b3, hr⟩ := grd_some hr
        refine Ev.bal V (j := 24) rfl rfl (d37 12 rfl) b3 ?_
        refine Ev.ifeq (t := 28) (d37 13 rfl) rfl (fun c4 => ?_) (fun c4 => ?_)
        · replace hr := own_ip c4 hr
          refine Ev.iloadN (d37 15 rfl) rfl ?_
          refine Ev.iconst (z := 1) (d37 16 rfl) rfl ?_
          refine Ev.iadd (d37 17 rfl) ?_
          refine Ev.istDN (L' := [.val (.ref o), .val (.int x1), .val (.int x2), .val (.int (x2 + (1 : Int32)))]) (d37 18 rfl) rfl hy3 rfl ?_
          exact e_removeRepeats_32 hw V ih n x1 x2 (x2 + (1 : Int32)) s  _ hr
        · replace hr := own_iq c4 hr
          refine Ev.goto (t := 123) (d37 14 rfl) rfl ?_
          refine Ev.iinc (z := 1) (L' := [.val (.ref o), .val (.int x1), .val (.int (x2 + (1 : Int32))), y3]) (d37 69 rfl) rfl rfl rfl ?_
          refine Ev.goto (t := 2) (d37 70 rfl) rfl ?_
          exact ih x1 (x2 + (1 : Int32)) s y3 hy3 _ hr
      · replace hr := own_iq c2 hr
        cases hr
        exact Ev.vreturn rfl (d37 71 rfl)
    · replace hr := own_iq c1 hr
      cases hr
      exact Ev.vreturn rfl (d37 71 rfl)
def f_removeRepeats (n : Nat) (a0 : Int32) (s : St) : Option (St) :=
  f_removeRepeats_2 n n a0 (0 : Int32) s
set_option maxRecDepth 100000 in
theorem e_removeRepeats {g : GT} {n : Nat} {a0 : Int32} {s : St} {w : St} (hw : HW g) {K : St → MHeap} {o : Nat} {r : Nat → Nat} (V : View (GG g) Ln K o r) (hr : f_removeRepeats n a0 s = some w) : EvC (GG g) M_removeRepeats [.ref o, .int a0] (K s) (none, (K w)) := by
  refine EvC.enter (L0 := [.val (.ref o), .val (.int a0), .unset, .unset]) pl_removeRepeats (fun _ => rfl) rfl rfl ?_
  unfold f_removeRepeats at hr
  refine Ev.iconst (z := 0) (d37 0 rfl) rfl ?_
  refine Ev.istDN (L' := [.val (.ref o), .val (.int a0), .val (.int (0 : Int32)), .unset]) (d37 1 rfl) rfl rfl rfl ?_
  exact e_removeRepeats_2 hw V  n a0 (0 : Int32) s .unset rfl _ hr
def f_fold (s : St) (a0 a1 a2 : Int32) : Option (Int32) :=
  if a0 = (4 : Int32) then
    some (a1 + a2)
  else
    if a0 = (5 : Int32) then
      some (a1 - a2)
    else
      if a0 = (6 : Int32) then
        some (a1 * a2)
      else
        if a0 = (7 : Int32) then
          some (a1 &&& a2)
        else
          if a0 = (8 : Int32) then
            some (a1 ||| a2)
          else
            if a0 = (9 : Int32) then
              some (a1 ^^^ a2)
            else
              some (0 : Int32)
set_option maxRecDepth 100000 in
theorem e_fold {g : GT} {s : St} {a0 : Int32} {a1 : Int32} {a2 : Int32} {w : Int32} (hw : HW g) {K : St → MHeap} {o : Nat} {r : Nat → Nat} (V : View (GG g) Ln K o r) (hr : f_fold s a0 a1 a2 = some w) : EvC (GG g) M_fold [.ref o, .int a0, .int a1, .int a2] (K s) ((some (.int w)), (K s)) := by
  refine EvC.enter (L0 := [.val (.ref o), .val (.int a0), .val (.int a1), .val (.int a2)]) pl_fold (fun h => nomatch h) rfl rfl ?_
  unfold f_fold at hr
  refine Ev.iloadN (d61 0 rfl) rfl ?_
  refine Ev.iconst (z := 4) (d61 1 rfl) rfl ?_
  refine Ev.icne (t := 9) (d61 2 rfl) rfl (fun c1 => ?_) (fun c1 => ?_)
  · replace hr := own_ip c1 hr
    refine Ev.iloadN (d61 3 rfl) rfl ?_
    refine Ev.iloadN (d61 4 rfl) rfl ?_
    refine Ev.iadd (d61 5 rfl) ?_
    cases hr
    exact Ev.ireturn rfl (d61 6 rfl)
  · replace hr := own_iq c1 hr
    refine Ev.iloadN (d61 7 rfl) rfl ?_
    refine Ev.iconst (z := 5) (d61 8 rfl) rfl ?_
    refine Ev.icne (t := 18) (d61 9 rfl) rfl (fun c2 => ?_) (fun c2 => ?_)
    · replace hr := own_ip c2 hr
      refine Ev.iloadN (d61 10 rfl) rfl ?_
      refine Ev.iloadN (d61 11 rfl) rfl ?_
      refine Ev.isub (d61 12 rfl) ?_
      cases hr
      exact Ev.ireturn rfl (d61 13 rfl)
    · replace hr := own_iq c2 hr
      refine Ev.iloadN (d61 14 rfl) rfl ?_
      refine Ev.bipush (z := 6) (d61 15 rfl) rfl ?_
      refine Ev.icne (t := 28) (d61 16 rfl) rfl (fun c3 => ?_) (fun c3 => ?_)
      · replace hr := own_ip c3 hr
        refine Ev.iloadN (d61 17 rfl) rfl ?_
        refine Ev.iloadN (d61 18 rfl) rfl ?_
        refine Ev.imul (d61 19 rfl) ?_
        cases hr
        exact Ev.ireturn rfl (d61 20 rfl)
      · replace hr := own_iq c3 hr
        refine Ev.iloadN (d61 21 rfl) rfl ?_
        refine Ev.bipush (z := 7) (d61 22 rfl) rfl ?_
        refine Ev.icne (t := 38) (d61 23 rfl) rfl (fun c4 => ?_) (fun c4 => ?_)
        · replace hr := own_ip c4 hr
          refine Ev.iloadN (d61 24 rfl) rfl ?_
          refine Ev.iloadN (d61 25 rfl) rfl ?_
          refine Ev.iand (d61 26 rfl) ?_
          cases hr
          exact Ev.ireturn rfl (d61 27 rfl)
        · replace hr := own_iq c4 hr
          refine Ev.iloadN (d61 28 rfl) rfl ?_
          refine Ev.bipush (z := 8) (d61 29 rfl) rfl ?_
          refine Ev.icne (t := 48) (d61 30 rfl) rfl (fun c5 => ?_) (fun c5 => ?_)
          · replace hr := own_ip c5 hr
            refine Ev.iloadN (d61 31 rfl) rfl ?_
            refine Ev.iloadN (d61 32 rfl) rfl ?_
            refine Ev.ior (d61 33 rfl) ?_
            cases hr
            exact Ev.ireturn rfl (d61 34 rfl)
          · replace hr := own_iq c5 hr
            refine Ev.iloadN (d61 35 rfl) rfl ?_
            refine Ev.bipush (z := 9) (d61 36 rfl) rfl ?_
            refine Ev.icne (t := 58) (d61 37 rfl) rfl (fun c6 => ?_) (fun c6 => ?_)
            · replace hr := own_ip c6 hr
              refine Ev.iloadN (d61 38 rfl) rfl ?_
              refine Ev.iloadN (d61 39 rfl) rfl ?_
              refine Ev.ixor (d61 40 rfl) ?_
              cases hr
              exact Ev.ireturn rfl (d61 41 rfl)
            · replace hr := own_iq c6 hr
              refine Ev.iconst (z := 0) (d61 42 rfl) rfl ?_
              cases hr
              exact Ev.ireturn rfl (d61 43 rfl)
def f_isConstValue (s : St) (a0 a1 : Int32) : Option (Int32) :=
  (f_isConst s a0).bind fun q1 =>
  if q1 = 0 then
    some (0 : Int32)
  else
    grd (inb a0 1056) <|
    if (s.2 8 (ix a0)) = a1 then
      some (1 : Int32)
    else
      some (0 : Int32)
set_option maxRecDepth 100000 in
theorem e_isConstValue {g : GT} {s : St} {a0 : Int32} {a1 : Int32} {w : Int32} (hw : HW g) {K : St → MHeap} {o : Nat} {r : Nat → Nat} (V : View (GG g) Ln K o r) (hr : f_isConstValue s a0 a1 = some w) : EvC (GG g) M_isConstValue [.ref o, .int a0, .int a1] (K s) ((some (.int w)), (K s)) := by
  refine EvC.enter (L0 := [.val (.ref o), .val (.int a0), .val (.int a1)]) pl_isConstValue (fun h => nomatch h) rfl rfl ?_
  unfold f_isConstValue at hr
  refine Ev.aloadN (d42 0 rfl) rfl ?_
  refine Ev.iloadN (d42 1 rfl) rfl ?_
  obtain ⟨q1, hq2, hr⟩ := Option.bind_eq_some_iff.mp hr
  refine Ev.priv (y := M_isConst) (args := [.int a0]) (rest := []) (gok hw) rfl nm_isConst (ww hw 244 rfl) (ww hw 245 rfl) (ww hw 246 rfl) (ww hw 247 rfl) (lenOf pd_isConst rfl) (d42 2 rfl) (V.2.1 s) (e_isConst hw V hq2) (by decide) (Nat.le_of_ble_eq_true rfl) rfl ?_
  refine Ev.ifne (t := 10) (d42 3 rfl) rfl (fun c3 => ?_) (fun c3 => ?_)
  · replace hr := own_ip c3 hr
    refine Ev.iconst (z := 0) (d42 4 rfl) rfl ?_
    cases hr
    exact Ev.zret0 rfl (d42 5 rfl)
  · replace hr := own_iq c3 hr
    refine Ev.aloadN (d42 6 rfl) rfl ?_
    refine Ev.gAr V (ww hw 26 rfl) (d42 7 rfl) (j := 8) rfl ?_
    refine Ev.iloadN (d42 8 rfl) rfl ?_
    obtain ⟨b4, hr⟩ := grd_some hr
    refine Ev.ial V (j := 8) rfl rfl (d42 9 rfl) b4 ?_
    refine Ev.iloadN (d42 10 rfl) rfl ?_
    refine Ev.icne (t := 24) (d42 11 rfl) rfl (fun c5 => ?_) (fun c5 => ?_)
    · replace hr := own_ip c5 hr
      refine Ev.iconst (z := 1) (d42 12 rfl) rfl ?_
      refine Ev.goto (t := 25) (d42 13 rfl) rfl ?_
      cases hr
      exact Ev.zret1 rfl (d42 15 rfl)
    · replace hr := own_iq c5 hr
      refine Ev.iconst (z := 0) (d42 14 rfl) rfl ?_
      cases hr
      exact Ev.zret0 rfl (d42 15 rfl)
def f_isNegOf (s : St) (a0 a1 : Int32) : Option (Int32) :=
  if a0 < (32 : Int32) then
    some (0 : Int32)
  else
    if a0 < (1056 : Int32) then
      grd (inb a0 1056) <|
      if (s.2 7 (ix a0)) = (10 : Int32) then
        if (s.2 8 (ix a0)) = a1 then
          some (1 : Int32)
        else
          some (0 : Int32)
      else
        some (0 : Int32)
    else
      some (0 : Int32)
set_option maxRecDepth 100000 in
theorem e_isNegOf {g : GT} {s : St} {a0 : Int32} {a1 : Int32} {w : Int32} (hw : HW g) {K : St → MHeap} {o : Nat} {r : Nat → Nat} (V : View (GG g) Ln K o r) (hr : f_isNegOf s a0 a1 = some w) : EvC (GG g) M_isNegOf [.ref o, .int a0, .int a1] (K s) ((some (.int w)), (K s)) := by
  refine EvC.enter (L0 := [.val (.ref o), .val (.int a0), .val (.int a1)]) pl_isNegOf (fun h => nomatch h) rfl rfl ?_
  unfold f_isNegOf at hr
  refine Ev.iloadN (d43 0 rfl) rfl ?_
  refine Ev.bipush (z := 32) (d43 1 rfl) rfl ?_
  refine Ev.iclt (t := 13) (d43 2 rfl) rfl (fun c1 => ?_) (fun c1 => ?_)
  · replace hr := own_ip c1 hr
    refine Ev.iconst (z := 0) (d43 6 rfl) rfl ?_
    cases hr
    exact Ev.zret0 rfl (d43 7 rfl)
  · replace hr := own_iq c1 hr
    refine Ev.iloadN (d43 3 rfl) rfl ?_
    refine Ev.sipush (z := 1056) (d43 4 rfl) rfl ?_
    refine Ev.iclt (t := 15) (d43 5 rfl) rfl (fun c2 => ?_) (fun c2 => ?_)
    · replace hr := own_ip c2 hr
      refine Ev.aloadN (d43 8 rfl) rfl ?_
      refine Ev.gAr V (ww hw 24 rfl) (d43 9 rfl) (j := 7) rfl ?_
      refine Ev.iloadN (d43 10 rfl) rfl ?_
      obtain ⟨b3, hr⟩ := grd_some hr
      refine Ev.ial V (j := 7) rfl rfl (d43 11 rfl) b3 ?_
      refine Ev.bipush (z := 10) (d43 12 rfl) rfl ?_
      refine Ev.icne (t := 40) (d43 13 rfl) rfl (fun c4 => ?_) (fun c4 => ?_)
      · replace hr := own_ip c4 hr
        refine Ev.aloadN (d43 14 rfl) rfl ?_
        refine Ev.gAr V (ww hw 26 rfl) (d43 15 rfl) (j := 8) rfl ?_
        refine Ev.iloadN (d43 16 rfl) rfl ?_
        refine Ev.ial V (j := 8) rfl rfl (d43 17 rfl) b3 ?_
        refine Ev.iloadN (d43 18 rfl) rfl ?_
        refine Ev.icne (t := 40) (d43 19 rfl) rfl (fun c5 => ?_) (fun c5 => ?_)
        · replace hr := own_ip c5 hr
          refine Ev.iconst (z := 1) (d43 20 rfl) rfl ?_
          refine Ev.goto (t := 41) (d43 21 rfl) rfl ?_
          cases hr
          exact Ev.zret1 rfl (d43 23 rfl)
        · replace hr := own_iq c5 hr
          refine Ev.iconst (z := 0) (d43 22 rfl) rfl ?_
          cases hr
          exact Ev.zret0 rfl (d43 23 rfl)
      · replace hr := own_iq c4 hr
        refine Ev.iconst (z := 0) (d43 22 rfl) rfl ?_
        cases hr
        exact Ev.zret0 rfl (d43 23 rfl)
    · replace hr := own_iq c2 hr
      refine Ev.iconst (z := 0) (d43 6 rfl) rfl ?_
      cases hr
      exact Ev.zret0 rfl (d43 7 rfl)
def f_simplifyAdd_40 (n : Nat) (s : St) : Option (Int32 × St) :=
  (f_makeConst n (0 : Int32) s).bind fun q1 =>
  some (q1.1, q1.2)
set_option maxRecDepth 100000 in
theorem e_simplifyAdd_40 {g : GT} {n : Nat} (hw : HW g) {K : St → MHeap} {o : Nat} {r : Nat → Nat} (V : View (GG g) Ln K o r) (s : St) (y1 : Slot) (hy1 : one1 y1 = true) (y2 : Slot) (hy2 : one1 y2 = true) (w : Int32 × St) (hr : f_simplifyAdd_40 n s = some w) : Ev (GG g) M_simplifyAdd 40 [.val (.ref o), y1, y2] [] (K s) ((some (.int w.1)), (K w.2)) := by
  unfold f_simplifyAdd_40 at hr
  refine Ev.aloadN (d41 24 rfl) rfl ?_
  refine Ev.iconst (z := 0) (d41 25 rfl) rfl ?_
  obtain ⟨q1, hq2, hr⟩ := Option.bind_eq_some_iff.mp hr
  refine Ev.priv (y := M_makeConst) (args := [.int (0 : Int32)]) (rest := []) (gok hw) rfl nm_makeConst (ww hw 188 rfl) (ww hw 189 rfl) (ww hw 190 rfl) (ww hw 191 rfl) (lenOf pd_makeConst rfl) (d41 26 rfl) (V.2.1 s) (e_makeConst hw V hq2) (by decide) (Nat.le_of_ble_eq_true rfl) rfl ?_
  cases hr
  exact Ev.ireturn rfl (d41 27 rfl)
def f_simplifyAdd (n : Nat) (a0 a1 : Int32) (s : St) : Option (Int32 × St) :=
  (f_isConstValue s a0 (0 : Int32)).bind fun q1 =>
  if q1 = 0 then
    (f_isConstValue s a1 (0 : Int32)).bind fun q4 =>
    if q4 = 0 then
      (f_isNegOf s a0 a1).bind fun q7 =>
      if q7 = 0 then
        (f_isNegOf s a1 a0).bind fun q10 =>
        if q10 = 0 then
          some ((-1 : Int32), s)
        else
          f_simplifyAdd_40 n s
      else
        f_simplifyAdd_40 n s
    else
      some (a0, s)
  else
    some (a1, s)
set_option maxRecDepth 100000 in
theorem e_simplifyAdd {g : GT} {n : Nat} {a0 : Int32} {a1 : Int32} {s : St} {w : Int32 × St} (hw : HW g) {K : St → MHeap} {o : Nat} {r : Nat → Nat} (V : View (GG g) Ln K o r) (hr : f_simplifyAdd n a0 a1 s = some w) : EvC (GG g) M_simplifyAdd [.ref o, .int a0, .int a1] (K s) ((some (.int w.1)), (K w.2)) := by
  refine EvC.enter (L0 := [.val (.ref o), .val (.int a0), .val (.int a1)]) pl_simplifyAdd (fun h => nomatch h) rfl rfl ?_
  unfold f_simplifyAdd at hr
  refine Ev.aloadN (d41 0 rfl) rfl ?_
  refine Ev.iloadN (d41 1 rfl) rfl ?_
  refine Ev.iconst (z := 0) (d41 2 rfl) rfl ?_
  obtain ⟨q1, hq2, hr⟩ := Option.bind_eq_some_iff.mp hr
  refine Ev.priv (y := M_isConstValue) (args := [.int a0, .int (0 : Int32)]) (rest := []) (gok hw) rfl nm_isConstValue (ww hw 268 rfl) (ww hw 269 rfl) (ww hw 270 rfl) (ww hw 271 rfl) (lenOf pd_isConstValue rfl) (d41 3 rfl) (V.2.1 s) (e_isConstValue hw V hq2) (by decide) (Nat.le_of_ble_eq_true rfl) rfl ?_
  refine Ev.ifeq (t := 11) (d41 4 rfl) rfl (fun c3 => ?_) (fun c3 => ?_)
  · replace hr := own_ip c3 hr
    refine Ev.aloadN (d41 7 rfl) rfl ?_
    refine Ev.iloadN (d41 8 rfl) rfl ?_
    refine Ev.iconst (z := 0) (d41 9 rfl) rfl ?_
    obtain ⟨q4, hq5, hr⟩ := Option.bind_eq_some_iff.mp hr
    refine Ev.priv (y := M_isConstValue) (args := [.int a1, .int (0 : Int32)]) (rest := []) (gok hw) rfl nm_isConstValue (ww hw 268 rfl) (ww hw 269 rfl) (ww hw 270 rfl) (ww hw 271 rfl) (lenOf pd_isConstValue rfl) (d41 10 rfl) (V.2.1 s) (e_isConstValue hw V hq5) (by decide) (Nat.le_of_ble_eq_true rfl) rfl ?_
    refine Ev.ifeq (t := 22) (d41 11 rfl) rfl (fun c6 => ?_) (fun c6 => ?_)
    · replace hr := own_ip c6 hr
      refine Ev.aloadN (d41 14 rfl) rfl ?_
      refine Ev.iloadN (d41 15 rfl) rfl ?_
      refine Ev.iloadN (d41 16 rfl) rfl ?_
      obtain ⟨q7, hq8, hr⟩ := Option.bind_eq_some_iff.mp hr
      refine Ev.priv (y := M_isNegOf) (args := [.int a0, .int a1]) (rest := []) (gok hw) rfl nm_isNegOf (ww hw 272 rfl) (ww hw 273 rfl) (ww hw 274 rfl) (ww hw 275 rfl) (lenOf pd_isNegOf rfl) (d41 17 rfl) (V.2.1 s) (e_isNegOf hw V hq8) (by decide) (Nat.le_of_ble_eq_true rfl) rfl ?_
      refine Ev.ifne (t := 40) (d41 18 rfl) rfl (fun c9 => ?_) (fun c9 => ?_)
      · replace hr := own_ip c9 hr
        refine Ev.aloadN (d41 19 rfl) rfl ?_
        refine Ev.iloadN (d41 20 rfl) rfl ?_
        refine Ev.iloadN (d41 21 rfl) rfl ?_
        obtain ⟨q10, hq11, hr⟩ := Option.bind_eq_some_iff.mp hr
        refine Ev.priv (y := M_isNegOf) (args := [.int a1, .int a0]) (rest := []) (gok hw) rfl nm_isNegOf (ww hw 272 rfl) (ww hw 273 rfl) (ww hw 274 rfl) (ww hw 275 rfl) (lenOf pd_isNegOf rfl) (d41 22 rfl) (V.2.1 s) (e_isNegOf hw V hq11) (by decide) (Nat.le_of_ble_eq_true rfl) rfl ?_
        refine Ev.ifeq (t := 46) (d41 23 rfl) rfl (fun c12 => ?_) (fun c12 => ?_)
        · replace hr := own_ip c12 hr
          refine Ev.iconst (z := -1) (d41 28 rfl) rfl ?_
          cases hr
          exact Ev.ireturn rfl (d41 29 rfl)
        · replace hr := own_iq c12 hr
          exact e_simplifyAdd_40 hw V  s (.val (.int a0)) rfl (.val (.int a1)) rfl _ hr
      · replace hr := own_iq c9 hr
        exact e_simplifyAdd_40 hw V  s (.val (.int a0)) rfl (.val (.int a1)) rfl _ hr
    · replace hr := own_iq c6 hr
      refine Ev.iloadN (d41 12 rfl) rfl ?_
      cases hr
      exact Ev.ireturn rfl (d41 13 rfl)
  · replace hr := own_iq c3 hr
    refine Ev.iloadN (d41 5 rfl) rfl ?_
    cases hr
    exact Ev.ireturn rfl (d41 6 rfl)
def f_simplifySub (n : Nat) (a0 a1 : Int32) (s : St) : Option (Int32 × St) :=
  (f_isConstValue s a1 (0 : Int32)).bind fun q1 =>
  if q1 = 0 then
    if a0 = a1 then
      (f_makeConst n (0 : Int32) s).bind fun q5 =>
      some (q5.1, q5.2)
    else
      (f_isConstValue s a0 (0 : Int32)).bind fun q7 =>
      if q7 = 0 then
        some ((-1 : Int32), s)
      else
        none
  else
    some (a0, s)
set_option maxRecDepth 100000 in
theorem e_simplifySub {g : GT} {n : Nat} {a0 : Int32} {a1 : Int32} {s : St} {w : Int32 × St} (hw : HW g) {K : St → MHeap} {o : Nat} {r : Nat → Nat} (V : View (GG g) Ln K o r) (hr : f_simplifySub n a0 a1 s = some w) : EvC (GG g) M_simplifySub [.ref o, .int a0, .int a1] (K s) ((some (.int w.1)), (K w.2)) := by
  refine EvC.enter (L0 := [.val (.ref o), .val (.int a0), .val (.int a1)]) pl_simplifySub (fun h => nomatch h) rfl rfl ?_
  unfold f_simplifySub at hr
  refine Ev.aloadN (d46 0 rfl) rfl ?_
  refine Ev.iloadN (d46 1 rfl) rfl ?_
  refine Ev.iconst (z := 0) (d46 2 rfl) rfl ?_
  obtain ⟨q1, hq2, hr⟩ := Option.bind_eq_some_iff.mp hr
  refine Ev.priv (y := M_isConstValue) (args := [.int a1, .int (0 : Int32)]) (rest := []) (gok hw) rfl nm_isConstValue (ww hw 268 rfl) (ww hw 269 rfl) (ww hw 270 rfl) (ww hw 271 rfl) (lenOf pd_isConstValue rfl) (d46 3 rfl) (V.2.1 s) (e_isConstValue hw V hq2) (by decide) (Nat.le_of_ble_eq_true rfl) rfl ?_
  refine Ev.ifeq (t := 11) (d46 4 rfl) rfl (fun c3 => ?_) (fun c3 => ?_)
  · replace hr := own_ip c3 hr
    refine Ev.iloadN (d46 7 rfl) rfl ?_
    refine Ev.iloadN (d46 8 rfl) rfl ?_
    refine Ev.icne (t := 22) (d46 9 rfl) rfl (fun c4 => ?_) (fun c4 => ?_)
    · replace hr := own_ip c4 hr
      refine Ev.aloadN (d46 10 rfl) rfl ?_
      refine Ev.iconst (z := 0) (d46 11 rfl) rfl ?_
      obtain ⟨q5, hq6, hr⟩ := Option.bind_eq_some_iff.mp hr
      refine Ev.priv (y := M_makeConst) (args := [.int (0 : Int32)]) (rest := []) (gok hw) rfl nm_makeConst (ww hw 188 rfl) (ww hw 189 rfl) (ww hw 190 rfl) (ww hw 191 rfl) (lenOf pd_makeConst rfl) (d46 12 rfl) (V.2.1 s) (e_makeConst hw V hq6) (by decide) (Nat.le_of_ble_eq_true rfl) rfl ?_
      cases hr
      exact Ev.ireturn rfl (d46 13 rfl)
    · replace hr := own_iq c4 hr
      refine Ev.aloadN (d46 14 rfl) rfl ?_
      refine Ev.iloadN (d46 15 rfl) rfl ?_
      refine Ev.iconst (z := 0) (d46 16 rfl) rfl ?_
      obtain ⟨q7, hq8, hr⟩ := Option.bind_eq_some_iff.mp hr
      refine Ev.priv (y := M_isConstValue) (args := [.int a0, .int (0 : Int32)]) (rest := []) (gok hw) rfl nm_isConstValue (ww hw 268 rfl) (ww hw 269 rfl) (ww hw 270 rfl) (ww hw 271 rfl) (lenOf pd_isConstValue rfl) (d46 17 rfl) (V.2.1 s) (e_isConstValue hw V hq8) (by decide) (Nat.le_of_ble_eq_true rfl) rfl ?_
      refine Ev.ifeq (t := 37) (d46 18 rfl) rfl (fun c9 => ?_) (fun c9 => ?_)
      · replace hr := own_ip c9 hr
        refine Ev.iconst (z := -1) (d46 23 rfl) rfl ?_
        cases hr
        exact Ev.ireturn rfl (d46 24 rfl)
      · replace hr := own_iq c9 hr
        refine Ev.aloadN (d46 19 rfl) rfl ?_
        refine Ev.iloadN (d46 20 rfl) rfl ?_
        cases hr
  · replace hr := own_iq c3 hr
    refine Ev.iloadN (d46 5 rfl) rfl ?_
    cases hr
    exact Ev.ireturn rfl (d46 6 rfl)
def f_simplifyMul (s : St) (a0 a1 : Int32) : Option (Int32) :=
  (f_isConstValue s a0 (0 : Int32)).bind fun q1 =>
  if q1 = 0 then
    (f_isConstValue s a1 (0 : Int32)).bind fun q4 =>
    if q4 = 0 then
      (f_isConstValue s a0 (1 : Int32)).bind fun q7 =>
      if q7 = 0 then
        (f_isConstValue s a1 (1 : Int32)).bind fun q10 =>
        if q10 = 0 then
          (f_isConstValue s a0 (-1 : Int32)).bind fun q13 =>
          if q13 = 0 then
            (f_isConstValue s a1 (-1 : Int32)).bind fun q16 =>
            if q16 = 0 then
              some (-1 : Int32)
            else
              none
          else
            none
        else
          some a0
      else
        some a1
    else
      some a1
  else
    some a0
set_option maxRecDepth 100000 in
theorem e_simplifyMul {g : GT} {s : St} {a0 : Int32} {a1 : Int32} {w : Int32} (hw : HW g) {K : St → MHeap} {o : Nat} {r : Nat → Nat} (V : View (GG g) Ln K o r) (hr : f_simplifyMul s a0 a1 = some w) : EvC (GG g) M_simplifyMul [.ref o, .int a0, .int a1] (K s) ((some (.int w)), (K s)) := by
  refine EvC.enter (L0 := [.val (.ref o), .val (.int a0), .val (.int a1)]) pl_simplifyMul (fun h => nomatch h) rfl rfl ?_
  unfold f_simplifyMul at hr
  refine Ev.aloadN (d53 0 rfl) rfl ?_
  refine Ev.iloadN (d53 1 rfl) rfl ?_
  refine Ev.iconst (z := 0) (d53 2 rfl) rfl ?_
  obtain ⟨q1, hq2, hr⟩ := Option.bind_eq_some_iff.mp hr
  refine Ev.priv (y := M_isConstValue) (args := [.int a0, .int (0 : Int32)]) (rest := []) (gok hw) rfl nm_isConstValue (ww hw 268 rfl) (ww hw 269 rfl) (ww hw 270 rfl) (ww hw 271 rfl) (lenOf pd_isConstValue rfl) (d53 3 rfl) (V.2.1 s) (e_isConstValue hw V hq2) (by decide) (Nat.le_of_ble_eq_true rfl) rfl ?_
  refine Ev.ifeq (t := 11) (d53 4 rfl) rfl (fun c3 => ?_) (fun c3 => ?_)
  · replace hr := own_ip c3 hr
    refine Ev.aloadN (d53 7 rfl) rfl ?_
    refine Ev.iloadN (d53 8 rfl) rfl ?_
    refine Ev.iconst (z := 0) (d53 9 rfl) rfl ?_
    obtain ⟨q4, hq5, hr⟩ := Option.bind_eq_some_iff.mp hr
    refine Ev.priv (y := M_isConstValue) (args := [.int a1, .int (0 : Int32)]) (rest := []) (gok hw) rfl nm_isConstValue (ww hw 268 rfl) (ww hw 269 rfl) (ww hw 270 rfl) (ww hw 271 rfl) (lenOf pd_isConstValue rfl) (d53 10 rfl) (V.2.1 s) (e_isConstValue hw V hq5) (by decide) (Nat.le_of_ble_eq_true rfl) rfl ?_
    refine Ev.ifeq (t := 22) (d53 11 rfl) rfl (fun c6 => ?_) (fun c6 => ?_)
    · replace hr := own_ip c6 hr
      refine Ev.aloadN (d53 14 rfl) rfl ?_
      refine Ev.iloadN (d53 15 rfl) rfl ?_
      refine Ev.iconst (z := 1) (d53 16 rfl) rfl ?_
      obtain ⟨q7, hq8, hr⟩ := Option.bind_eq_some_iff.mp hr
      refine Ev.priv (y := M_isConstValue) (args := [.int a0, .int (1 : Int32)]) (rest := []) (gok hw) rfl nm_isConstValue (ww hw 268 rfl) (ww hw 269 rfl) (ww hw 270 rfl) (ww hw 271 rfl) (lenOf pd_isConstValue rfl) (d53 17 rfl) (V.2.1 s) (e_isConstValue hw V hq8) (by decide) (Nat.le_of_ble_eq_true rfl) rfl ?_
      refine Ev.ifeq (t := 33) (d53 18 rfl) rfl (fun c9 => ?_) (fun c9 => ?_)
      · replace hr := own_ip c9 hr
        refine Ev.aloadN (d53 21 rfl) rfl ?_
        refine Ev.iloadN (d53 22 rfl) rfl ?_
        refine Ev.iconst (z := 1) (d53 23 rfl) rfl ?_
        obtain ⟨q10, hq11, hr⟩ := Option.bind_eq_some_iff.mp hr
        refine Ev.priv (y := M_isConstValue) (args := [.int a1, .int (1 : Int32)]) (rest := []) (gok hw) rfl nm_isConstValue (ww hw 268 rfl) (ww hw 269 rfl) (ww hw 270 rfl) (ww hw 271 rfl) (lenOf pd_isConstValue rfl) (d53 24 rfl) (V.2.1 s) (e_isConstValue hw V hq11) (by decide) (Nat.le_of_ble_eq_true rfl) rfl ?_
        refine Ev.ifeq (t := 44) (d53 25 rfl) rfl (fun c12 => ?_) (fun c12 => ?_)
        · replace hr := own_ip c12 hr
          refine Ev.aloadN (d53 28 rfl) rfl ?_
          refine Ev.iloadN (d53 29 rfl) rfl ?_
          refine Ev.iconst (z := -1) (d53 30 rfl) rfl ?_
          obtain ⟨q13, hq14, hr⟩ := Option.bind_eq_some_iff.mp hr
          refine Ev.priv (y := M_isConstValue) (args := [.int a0, .int (-1 : Int32)]) (rest := []) (gok hw) rfl nm_isConstValue (ww hw 268 rfl) (ww hw 269 rfl) (ww hw 270 rfl) (ww hw 271 rfl) (lenOf pd_isConstValue rfl) (d53 31 rfl) (V.2.1 s) (e_isConstValue hw V hq14) (by decide) (Nat.le_of_ble_eq_true rfl) rfl ?_
          refine Ev.ifeq (t := 59) (d53 32 rfl) rfl (fun c15 => ?_) (fun c15 => ?_)
          · replace hr := own_ip c15 hr
            refine Ev.aloadN (d53 37 rfl) rfl ?_
            refine Ev.iloadN (d53 38 rfl) rfl ?_
            refine Ev.iconst (z := -1) (d53 39 rfl) rfl ?_
            obtain ⟨q16, hq17, hr⟩ := Option.bind_eq_some_iff.mp hr
            refine Ev.priv (y := M_isConstValue) (args := [.int a1, .int (-1 : Int32)]) (rest := []) (gok hw) rfl nm_isConstValue (ww hw 268 rfl) (ww hw 269 rfl) (ww hw 270 rfl) (ww hw 271 rfl) (lenOf pd_isConstValue rfl) (d53 40 rfl) (V.2.1 s) (e_isConstValue hw V hq17) (by decide) (Nat.le_of_ble_eq_true rfl) rfl ?_
            refine Ev.ifeq (t := 74) (d53 41 rfl) rfl (fun c18 => ?_) (fun c18 => ?_)
            · replace hr := own_ip c18 hr
              refine Ev.iconst (z := -1) (d53 46 rfl) rfl ?_
              cases hr
              exact Ev.ireturn rfl (d53 47 rfl)
            · replace hr := own_iq c18 hr
              refine Ev.aloadN (d53 42 rfl) rfl ?_
              refine Ev.iloadN (d53 43 rfl) rfl ?_
              cases hr
          · replace hr := own_iq c15 hr
            refine Ev.aloadN (d53 33 rfl) rfl ?_
            refine Ev.iloadN (d53 34 rfl) rfl ?_
            cases hr
        · replace hr := own_iq c12 hr
          refine Ev.iloadN (d53 26 rfl) rfl ?_
          cases hr
          exact Ev.ireturn rfl (d53 27 rfl)
      · replace hr := own_iq c9 hr
        refine Ev.iloadN (d53 19 rfl) rfl ?_
        cases hr
        exact Ev.ireturn rfl (d53 20 rfl)
    · replace hr := own_iq c6 hr
      refine Ev.iloadN (d53 12 rfl) rfl ?_
      cases hr
      exact Ev.ireturn rfl (d53 13 rfl)
  · replace hr := own_iq c3 hr
    refine Ev.iloadN (d53 5 rfl) rfl ?_
    cases hr
    exact Ev.ireturn rfl (d53 6 rfl)
def f_simplify (n : Nat) (a0 a1 a2 : Int32) (s : St) : Option (Int32 × St) :=
  if a0 = (4 : Int32) then
    (f_simplifyAdd n a1 a2 s).bind fun q2 =>
    some (q2.1, q2.2)
  else
    if a0 = (5 : Int32) then
      (f_simplifySub n a1 a2 s).bind fun q5 =>
      some (q5.1, q5.2)
    else
      if a0 = (6 : Int32) then
        (f_simplifyMul s a1 a2).bind fun q8 =>
        some (q8, s)
      else
        if a0 = (7 : Int32) then
          none
        else
          if a0 = (8 : Int32) then
            none
          else
            if a0 = (9 : Int32) then
              none
            else
              some ((-1 : Int32), s)
set_option maxRecDepth 100000 in
theorem e_simplify {g : GT} {n : Nat} {a0 : Int32} {a1 : Int32} {a2 : Int32} {s : St} {w : Int32 × St} (hw : HW g) {K : St → MHeap} {o : Nat} {r : Nat → Nat} (V : View (GG g) Ln K o r) (hr : f_simplify n a0 a1 a2 s = some w) : EvC (GG g) M_simplify [.ref o, .int a0, .int a1, .int a2] (K s) ((some (.int w.1)), (K w.2)) := by
  refine EvC.enter (L0 := [.val (.ref o), .val (.int a0), .val (.int a1), .val (.int a2)]) pl_simplify (fun h => nomatch h) rfl rfl ?_
  unfold f_simplify at hr
  refine Ev.iloadN (d40 0 rfl) rfl ?_
  refine Ev.iconst (z := 4) (d40 1 rfl) rfl ?_
  refine Ev.icne (t := 12) (d40 2 rfl) rfl (fun c1 => ?_) (fun c1 => ?_)
  · replace hr := own_ip c1 hr
    refine Ev.aloadN (d40 3 rfl) rfl ?_
    refine Ev.iloadN (d40 4 rfl) rfl ?_
    refine Ev.iloadN (d40 5 rfl) rfl ?_
    obtain ⟨q2, hq3, hr⟩ := Option.bind_eq_some_iff.mp hr
    refine Ev.priv (y := M_simplifyAdd) (args := [.int a1, .int a2]) (rest := []) (gok hw) rfl nm_simplifyAdd (ww hw 264 rfl) (ww hw 265 rfl) (ww hw 266 rfl) (ww hw 267 rfl) (lenOf pd_simplifyAdd rfl) (d40 6 rfl) (V.2.1 s) (e_simplifyAdd hw V hq3) (by decide) (Nat.le_of_ble_eq_true rfl) rfl ?_
    cases hr
    exact Ev.ireturn rfl (d40 7 rfl)
  · replace hr := own_iq c1 hr
    refine Ev.iloadN (d40 8 rfl) rfl ?_
    refine Ev.iconst (z := 5) (d40 9 rfl) rfl ?_
    refine Ev.icne (t := 24) (d40 10 rfl) rfl (fun c4 => ?_) (fun c4 => ?_)
    · replace hr := own_ip c4 hr
      refine Ev.aloadN (d40 11 rfl) rfl ?_
      refine Ev.iloadN (d40 12 rfl) rfl ?_
      refine Ev.iloadN (d40 13 rfl) rfl ?_
      obtain ⟨q5, hq6, hr⟩ := Option.bind_eq_some_iff.mp hr
      refine Ev.priv (y := M_simplifySub) (args := [.int a1, .int a2]) (rest := []) (gok hw) rfl nm_simplifySub (ww hw 284 rfl) (ww hw 285 rfl) (ww hw 286 rfl) (ww hw 287 rfl) (lenOf pd_simplifySub rfl) (d40 14 rfl) (V.2.1 s) (e_simplifySub hw V hq6) (by decide) (Nat.le_of_ble_eq_true rfl) rfl ?_
      cases hr
      exact Ev.ireturn rfl (d40 15 rfl)
    · replace hr := own_iq c4 hr
      refine Ev.iloadN (d40 16 rfl) rfl ?_
      refine Ev.bipush (z := 6) (d40 17 rfl) rfl ?_
      refine Ev.icne (t := 37) (d40 18 rfl) rfl (fun c7 => ?_) (fun c7 => ?_)
      · replace hr := own_ip c7 hr
        refine Ev.aloadN (d40 19 rfl) rfl ?_
        refine Ev.iloadN (d40 20 rfl) rfl ?_
        refine Ev.iloadN (d40 21 rfl) rfl ?_
        obtain ⟨q8, hq9, hr⟩ := Option.bind_eq_some_iff.mp hr
        refine Ev.priv (y := M_simplifyMul) (args := [.int a1, .int a2]) (rest := []) (gok hw) rfl nm_simplifyMul (ww hw 312 rfl) (ww hw 313 rfl) (ww hw 314 rfl) (ww hw 315 rfl) (lenOf pd_simplifyMul rfl) (d40 22 rfl) (V.2.1 s) (e_simplifyMul hw V hq9) (by decide) (Nat.le_of_ble_eq_true rfl) rfl ?_
        cases hr
        exact Ev.ireturn rfl (d40 23 rfl)
      · replace hr := own_iq c7 hr
        refine Ev.iloadN (d40 24 rfl) rfl ?_
        refine Ev.bipush (z := 7) (d40 25 rfl) rfl ?_
        refine Ev.icne (t := 50) (d40 26 rfl) rfl (fun c10 => ?_) (fun c10 => ?_)
        · replace hr := own_ip c10 hr
          refine Ev.aloadN (d40 27 rfl) rfl ?_
          refine Ev.iloadN (d40 28 rfl) rfl ?_
          refine Ev.iloadN (d40 29 rfl) rfl ?_
          cases hr
        · replace hr := own_iq c10 hr
          refine Ev.iloadN (d40 32 rfl) rfl ?_
          refine Ev.bipush (z := 8) (d40 33 rfl) rfl ?_
          refine Ev.icne (t := 63) (d40 34 rfl) rfl (fun c11 => ?_) (fun c11 => ?_)
          · replace hr := own_ip c11 hr
            refine Ev.aloadN (d40 35 rfl) rfl ?_
            refine Ev.iloadN (d40 36 rfl) rfl ?_
            refine Ev.iloadN (d40 37 rfl) rfl ?_
            cases hr
          · replace hr := own_iq c11 hr
            refine Ev.iloadN (d40 40 rfl) rfl ?_
            refine Ev.bipush (z := 9) (d40 41 rfl) rfl ?_
            refine Ev.icne (t := 76) (d40 42 rfl) rfl (fun c12 => ?_) (fun c12 => ?_)
            · replace hr := own_ip c12 hr
              refine Ev.aloadN (d40 43 rfl) rfl ?_
              refine Ev.iloadN (d40 44 rfl) rfl ?_
              refine Ev.iloadN (d40 45 rfl) rfl ?_
              cases hr
            · replace hr := own_iq c12 hr
              refine Ev.iconst (z := -1) (d40 48 rfl) rfl ?_
              cases hr
              exact Ev.ireturn rfl (d40 49 rfl)
def f_isCommutative (s : St) (a0 : Int32) : Option (Int32) :=
  if a0 = (4 : Int32) then
    some (1 : Int32)
  else
    if a0 = (6 : Int32) then
      some (1 : Int32)
    else
      if a0 = (7 : Int32) then
        some (1 : Int32)
      else
        if a0 = (8 : Int32) then
          some (1 : Int32)
        else
          if a0 = (9 : Int32) then
            some (1 : Int32)
          else
            some (0 : Int32)
set_option maxRecDepth 100000 in
theorem e_isCommutative {g : GT} {s : St} {a0 : Int32} {w : Int32} (hw : HW g) {K : St → MHeap} {o : Nat} {r : Nat → Nat} (V : View (GG g) Ln K o r) (hr : f_isCommutative s a0 = some w) : EvC (GG g) M_isCommutative [.ref o, .int a0] (K s) ((some (.int w)), (K s)) := by
  refine EvC.enter (L0 := [.val (.ref o), .val (.int a0)]) pl_isCommutative (fun h => nomatch h) rfl rfl ?_
  unfold f_isCommutative at hr
  refine Ev.iloadN (d44 0 rfl) rfl ?_
  refine Ev.iconst (z := 4) (d44 1 rfl) rfl ?_
  refine Ev.iceq (t := 29) (d44 2 rfl) rfl (fun c1 => ?_) (fun c1 => ?_)
  · replace hr := own_ip c1 hr
    refine Ev.iconst (z := 1) (d44 15 rfl) rfl ?_
    refine Ev.goto (t := 34) (d44 16 rfl) rfl ?_
    cases hr
    exact Ev.zret1 rfl (d44 18 rfl)
  · replace hr := own_iq c1 hr
    refine Ev.iloadN (d44 3 rfl) rfl ?_
    refine Ev.bipush (z := 6) (d44 4 rfl) rfl ?_
    refine Ev.iceq (t := 29) (d44 5 rfl) rfl (fun c2 => ?_) (fun c2 => ?_)
    · replace hr := own_ip c2 hr
      refine Ev.iconst (z := 1) (d44 15 rfl) rfl ?_
      refine Ev.goto (t := 34) (d44 16 rfl) rfl ?_
      cases hr
      exact Ev.zret1 rfl (d44 18 rfl)
    · replace hr := own_iq c2 hr
      refine Ev.iloadN (d44 6 rfl) rfl ?_
      refine Ev.bipush (z := 7) (d44 7 rfl) rfl ?_
      refine Ev.iceq (t := 29) (d44 8 rfl) rfl (fun c3 => ?_) (fun c3 => ?_)
      · replace hr := own_ip c3 hr
        refine Ev.iconst (z := 1) (d44 15 rfl) rfl ?_
        refine Ev.goto (t := 34) (d44 16 rfl) rfl ?_
        cases hr
        exact Ev.zret1 rfl (d44 18 rfl)
      · replace hr := own_iq c3 hr
        refine Ev.iloadN (d44 9 rfl) rfl ?_
        refine Ev.bipush (z := 8) (d44 10 rfl) rfl ?_
        refine Ev.iceq (t := 29) (d44 11 rfl) rfl (fun c4 => ?_) (fun c4 => ?_)
        · replace hr := own_ip c4 hr
          refine Ev.iconst (z := 1) (d44 15 rfl) rfl ?_
          refine Ev.goto (t := 34) (d44 16 rfl) rfl ?_
          cases hr
          exact Ev.zret1 rfl (d44 18 rfl)
        · replace hr := own_iq c4 hr
          refine Ev.iloadN (d44 12 rfl) rfl ?_
          refine Ev.bipush (z := 9) (d44 13 rfl) rfl ?_
          refine Ev.icne (t := 33) (d44 14 rfl) rfl (fun c5 => ?_) (fun c5 => ?_)
          · replace hr := own_ip c5 hr
            refine Ev.iconst (z := 1) (d44 15 rfl) rfl ?_
            refine Ev.goto (t := 34) (d44 16 rfl) rfl ?_
            cases hr
            exact Ev.zret1 rfl (d44 18 rfl)
          · replace hr := own_iq c5 hr
            refine Ev.iconst (z := 0) (d44 17 rfl) rfl ?_
            cases hr
            exact Ev.zret0 rfl (d44 18 rfl)
def f_emitBin_60 (n : Nat) (x1 x2 x3 x5 z0 z1 : Int32) (s : St) : Option (Int32 × St) :=
  grd (inb z1 1056) <|
  bnd (setA s 10 (ix z1) z0) fun s2 =>
  (f_insert x1 x2 x3 x5 s2).bind fun q3 =>
  some (x5, q3)
set_option maxRecDepth 100000 in
theorem e_emitBin_60 {g : GT} {n : Nat} (hw : HW g) {K : St → MHeap} {o : Nat} {r : Nat → Nat} (V : View (GG g) Ln K o r) (x1 x2 x3 x5 z0 z1 : Int32) (s : St) (y4 : Slot) (hy4 : one1 y4 = true) (y6 : Slot) (hy6 : one1 y6 = true) (y7 : Slot) (hy7 : one1 y7 = true) (w : Int32 × St) (hr : f_emitBin_60 n x1 x2 x3 x5 z0 z1 s = some w) : Ev (GG g) M_emitBin 60 [.val (.ref o), .val (.int x1), .val (.int x2), .val (.int x3), y4, .val (.int x5), y6, y7] [.int z0, .int z1, .ref (r 10)] (K s) ((some (.int w.1)), (K w.2)) := by
  unfold f_emitBin_60 at hr
  obtain ⟨b1, hr⟩ := grd_some hr
  refine Ev.ias V (j := 10) rfl rfl (d45 33 rfl) b1 ?_
  revert hr
  generalize setA s 10 (ix z1) z0 = s2
  intro hr
  replace hr := (bnd_eq _ _).symm.trans hr
  refine Ev.aloadN (d45 34 rfl) rfl ?_
  refine Ev.iloadN (d45 35 rfl) rfl ?_
  refine Ev.iloadN (d45 36 rfl) rfl ?_
  refine Ev.iloadN (d45 37 rfl) rfl ?_
  refine Ev.iload (d45 38 rfl) rfl ?_
  obtain ⟨q3, hq4, hr⟩ := Option.bind_eq_some_iff.mp hr
  refine Ev.priv (y := M_insert) (args := [.int x1, .int x2, .int x3, .int x5]) (rest := []) (gok hw) rfl nm_insert (ww hw 184 rfl) (ww hw 185 rfl) (ww hw 186 rfl) (ww hw 187 rfl) (lenOf pd_insert rfl) (d45 39 rfl) (V.2.1 s2) (e_insert hw V hq4) (by decide) (Nat.le_of_ble_eq_true rfl) rfl ?_
  refine Ev.iload (d45 40 rfl) rfl ?_
  cases hr
  exact Ev.ireturn rfl (d45 41 rfl)
def f_emitBin (n : Nat) (a0 a1 a2 : Int32) (s : St) : Option (Int32 × St) :=
  (f_lookup n a0 a1 a2 s).bind fun q1 =>
  if q1.1 < 0 then
    (f_emit a0 a1 a2 q1.2).bind fun q4 =>
    (f_rankOf q4.2 a1).bind fun q6 =>
    (f_rankOf q4.2 a2).bind fun q8 =>
    if q8 < q6 then
      f_emitBin_60 n a0 a1 a2 q4.1 q6 q4.1 q4.2
    else
      f_emitBin_60 n a0 a1 a2 q4.1 q8 q4.1 q4.2
  else
    some (q1.1, q1.2)
set_option maxRecDepth 100000 in
theorem e_emitBin {g : GT} {n : Nat} {a0 : Int32} {a1 : Int32} {a2 : Int32} {s : St} {w : Int32 × St} (hw : HW g) {K : St → MHeap} {o : Nat} {r : Nat → Nat} (V : View (GG g) Ln K o r) (hr : f_emitBin n a0 a1 a2 s = some w) : EvC (GG g) M_emitBin [.ref o, .int a0, .int a1, .int a2] (K s) ((some (.int w.1)), (K w.2)) := by
  refine EvC.enter (L0 := [.val (.ref o), .val (.int a0), .val (.int a1), .val (.int a2), .unset, .unset, .unset, .unset]) pl_emitBin (fun h => nomatch h) rfl rfl ?_
  unfold f_emitBin at hr
  refine Ev.aloadN (d45 0 rfl) rfl ?_
  refine Ev.iloadN (d45 1 rfl) rfl ?_
  refine Ev.iloadN (d45 2 rfl) rfl ?_
  refine Ev.iloadN (d45 3 rfl) rfl ?_
  obtain ⟨q1, hq2, hr⟩ := Option.bind_eq_some_iff.mp hr
  refine Ev.priv (y := M_lookup) (args := [.int a0, .int a1, .int a2]) (rest := []) (gok hw) rfl nm_lookup (ww hw 168 rfl) (ww hw 169 rfl) (ww hw 170 rfl) (ww hw 171 rfl) (lenOf pd_lookup rfl) (d45 4 rfl) (V.2.1 s) (e_lookup hw V hq2) (by decide) (Nat.le_of_ble_eq_true rfl) rfl ?_
  refine Ev.istD (L' := [.val (.ref o), .val (.int a0), .val (.int a1), .val (.int a2), .val (.int q1.1), .unset, .unset, .unset]) (d45 5 rfl) rfl rfl rfl ?_
  refine Ev.iload (d45 6 rfl) rfl ?_
  refine Ev.iflt (t := 17) (d45 7 rfl) rfl (fun c3 => ?_) (fun c3 => ?_)
  · replace hr := own_ip c3 hr
    refine Ev.aloadN (d45 10 rfl) rfl ?_
    refine Ev.iloadN (d45 11 rfl) rfl ?_
    refine Ev.iloadN (d45 12 rfl) rfl ?_
    refine Ev.iloadN (d45 13 rfl) rfl ?_
    obtain ⟨q4, hq5, hr⟩ := Option.bind_eq_some_iff.mp hr
    refine Ev.priv (y := M_emit) (args := [.int a0, .int a1, .int a2]) (rest := []) (gok hw) rfl nm_emit (ww hw 180 rfl) (ww hw 181 rfl) (ww hw 182 rfl) (ww hw 183 rfl) (lenOf pd_emit rfl) (d45 14 rfl) (V.2.1 q1.2) (e_emit hw V hq5) (by decide) (Nat.le_of_ble_eq_true rfl) rfl ?_
    refine Ev.istD (L' := [.val (.ref o), .val (.int a0), .val (.int a1), .val (.int a2), .val (.int q1.1), .val (.int q4.1), .unset, .unset]) (d45 15 rfl) rfl rfl rfl ?_
    refine Ev.aloadN (d45 16 rfl) rfl ?_
    refine Ev.iloadN (d45 17 rfl) rfl ?_
    obtain ⟨q6, hq7, hr⟩ := Option.bind_eq_some_iff.mp hr
    refine Ev.priv (y := M_rankOf) (args := [.int a1]) (rest := []) (gok hw) rfl nm_rankOf (ww hw 236 rfl) (ww hw 237 rfl) (ww hw 238 rfl) (ww hw 239 rfl) (lenOf pd_rankOf rfl) (d45 18 rfl) (V.2.1 q4.2) (e_rankOf hw V hq7) (by decide) (Nat.le_of_ble_eq_true rfl) rfl ?_
    refine Ev.istD (L' := [.val (.ref o), .val (.int a0), .val (.int a1), .val (.int a2), .val (.int q1.1), .val (.int q4.1), .val (.int q6), .unset]) (d45 19 rfl) rfl rfl rfl ?_
    refine Ev.aloadN (d45 20 rfl) rfl ?_
    refine Ev.iloadN (d45 21 rfl) rfl ?_
    obtain ⟨q8, hq9, hr⟩ := Option.bind_eq_some_iff.mp hr
    refine Ev.priv (y := M_rankOf) (args := [.int a2]) (rest := []) (gok hw) rfl nm_rankOf (ww hw 236 rfl) (ww hw 237 rfl) (ww hw 238 rfl) (ww hw 239 rfl) (lenOf pd_rankOf rfl) (d45 22 rfl) (V.2.1 q4.2) (e_rankOf hw V hq9) (by decide) (Nat.le_of_ble_eq_true rfl) rfl ?_
    refine Ev.istD (L' := [.val (.ref o), .val (.int a0), .val (.int a1), .val (.int a2), .val (.int q1.1), .val (.int q4.1), .val (.int q6), .val (.int q8)]) (d45 23 rfl) rfl rfl rfl ?_
    refine Ev.aloadN (d45 24 rfl) rfl ?_
    refine Ev.gAr V (ww hw 30 rfl) (d45 25 rfl) (j := 10) rfl ?_
    refine Ev.iload (d45 26 rfl) rfl ?_
    refine Ev.iload (d45 27 rfl) rfl ?_
    refine Ev.iload (d45 28 rfl) rfl ?_
    refine Ev.icle (t := 58) (d45 29 rfl) rfl (fun c10 => ?_) (fun c10 => ?_)
    · replace hr := own_ip c10 hr
      refine Ev.iload (d45 30 rfl) rfl ?_
      refine Ev.goto (t := 60) (d45 31 rfl) rfl ?_
      exact e_emitBin_60 hw V  a0 a1 a2 q4.1 q6 q4.1 q4.2 (.val (.int q1.1)) rfl (.val (.int q6)) rfl (.val (.int q8)) rfl _ hr
    · replace hr := own_iq c10 hr
      refine Ev.iload (d45 32 rfl) rfl ?_
      exact e_emitBin_60 hw V  a0 a1 a2 q4.1 q8 q4.1 q4.2 (.val (.int q1.1)) rfl (.val (.int q6)) rfl (.val (.int q8)) rfl _ hr
  · replace hr := own_iq c3 hr
    refine Ev.iload (d45 8 rfl) rfl ?_
    cases hr
    exact Ev.ireturn rfl (d45 9 rfl)
def f_makeBin_86 (n : Nat) (x1 x2 x3 : Int32) (s : St) : Option (Int32 × St) :=
  (f_emitBin n x1 x2 x3 s).bind fun q1 =>
  some (q1.1, q1.2)
set_option maxRecDepth 100000 in
theorem e_makeBin_86 {g : GT} {n : Nat} (hw : HW g) {K : St → MHeap} {o : Nat} {r : Nat → Nat} (V : View (GG g) Ln K o r) (x1 x2 x3 : Int32) (s : St) (y4 : Slot) (hy4 : one1 y4 = true) (y5 : Slot) (hy5 : one1 y5 = true) (y6 : Slot) (hy6 : one1 y6 = true) (w : Int32 × St) (hr : f_makeBin_86 n x1 x2 x3 s = some w) : Ev (GG g) M_makeBin 86 [.val (.ref o), .val (.int x1), .val (.int x2), .val (.int x3), y4, y5, y6] [] (K s) ((some (.int w.1)), (K w.2)) := by
  unfold f_makeBin_86 at hr
  refine Ev.aloadN (d39 49 rfl) rfl ?_
  refine Ev.iloadN (d39 50 rfl) rfl ?_
  refine Ev.iloadN (d39 51 rfl) rfl ?_
  refine Ev.iloadN (d39 52 rfl) rfl ?_
  obtain ⟨q1, hq2, hr⟩ := Option.bind_eq_some_iff.mp hr
  refine Ev.priv (y := M_emitBin) (args := [.int x1, .int x2, .int x3]) (rest := []) (gok hw) rfl nm_emitBin (ww hw 280 rfl) (ww hw 281 rfl) (ww hw 282 rfl) (ww hw 283 rfl) (lenOf pd_emitBin rfl) (d39 53 rfl) (V.2.1 s) (e_emitBin hw V hq2) (by decide) (Nat.le_of_ble_eq_true rfl) rfl ?_
  cases hr
  exact Ev.ireturn rfl (d39 54 rfl)
def f_makeBin_48 (n : Nat) (x1 x2 x3 : Int32) (s : St) : Option (Int32 × St) :=
  (f_simplify n x1 x2 x3 s).bind fun q1 =>
  if q1.1 < 0 then
    (f_isCommutative q1.2 x1).bind fun q4 =>
    if q4 = 0 then
      f_makeBin_86 n x1 x2 x3 q1.2
    else
      if x3 < x2 then
        (f_emitBin n x1 x3 x2 q1.2).bind fun q8 =>
        some (q8.1, q8.2)
      else
        f_makeBin_86 n x1 x2 x3 q1.2
  else
    some (q1.1, q1.2)
set_option maxRecDepth 100000 in
theorem e_makeBin_48 {g : GT} {n : Nat} (hw : HW g) {K : St → MHeap} {o : Nat} {r : Nat → Nat} (V : View (GG g) Ln K o r) (x1 x2 x3 : Int32) (s : St) (y4 : Slot) (hy4 : one1 y4 = true) (y5 : Slot) (hy5 : one1 y5 = true) (y6 : Slot) (hy6 : one1 y6 = true) (w : Int32 × St) (hr : f_makeBin_48 n x1 x2 x3 s = some w) : Ev (GG g) M_makeBin 48 [.val (.ref o), .val (.int x1), .val (.int x2), .val (.int x3), y4, y5, y6] [] (K s) ((some (.int w.1)), (K w.2)) := by
  unfold f_makeBin_48 at hr
  refine Ev.aloadN (d39 26 rfl) rfl ?_
  refine Ev.iloadN (d39 27 rfl) rfl ?_
  refine Ev.iloadN (d39 28 rfl) rfl ?_
  refine Ev.iloadN (d39 29 rfl) rfl ?_
  obtain ⟨q1, hq2, hr⟩ := Option.bind_eq_some_iff.mp hr
  refine Ev.priv (y := M_simplify) (args := [.int x1, .int x2, .int x3]) (rest := []) (gok hw) rfl nm_simplify (ww hw 260 rfl) (ww hw 261 rfl) (ww hw 262 rfl) (ww hw 263 rfl) (lenOf pd_simplify rfl) (d39 30 rfl) (V.2.1 s) (e_simplify hw V hq2) (by decide) (Nat.le_of_ble_eq_true rfl) rfl ?_
  refine Ev.istD (L' := [.val (.ref o), .val (.int x1), .val (.int x2), .val (.int x3), .val (.int q1.1), y5, y6]) (d39 31 rfl) rfl hy4 rfl ?_
  refine Ev.iload (d39 32 rfl) rfl ?_
  refine Ev.iflt (t := 65) (d39 33 rfl) rfl (fun c3 => ?_) (fun c3 => ?_)
  · replace hr := own_ip c3 hr
    refine Ev.aloadN (d39 36 rfl) rfl ?_
    refine Ev.iloadN (d39 37 rfl) rfl ?_
    obtain ⟨q4, hq5, hr⟩ := Option.bind_eq_some_iff.mp hr
    refine Ev.priv (y := M_isCommutative) (args := [.int x1]) (rest := []) (gok hw) rfl nm_isCommutative (ww hw 276 rfl) (ww hw 277 rfl) (ww hw 278 rfl) (ww hw 279 rfl) (lenOf pd_isCommutative rfl) (d39 38 rfl) (V.2.1 q1.2) (e_isCommutative hw V hq5) (by decide) (Nat.le_of_ble_eq_true rfl) rfl ?_
    refine Ev.ifeq (t := 86) (d39 39 rfl) rfl (fun c6 => ?_) (fun c6 => ?_)
    · replace hr := own_ip c6 hr
      exact e_makeBin_86 hw V  x1 x2 x3 q1.2 (.val (.int q1.1)) rfl y5 hy5 y6 hy6 _ hr
    · replace hr := own_iq c6 hr
      refine Ev.iloadN (d39 40 rfl) rfl ?_
      refine Ev.iloadN (d39 41 rfl) rfl ?_
      refine Ev.icle (t := 86) (d39 42 rfl) rfl (fun c7 => ?_) (fun c7 => ?_)
      · replace hr := own_ip c7 hr
        refine Ev.aloadN (d39 43 rfl) rfl ?_
        refine Ev.iloadN (d39 44 rfl) rfl ?_
        refine Ev.iloadN (d39 45 rfl) rfl ?_
        refine Ev.iloadN (d39 46 rfl) rfl ?_
        obtain ⟨q8, hq9, hr⟩ := Option.bind_eq_some_iff.mp hr
        refine Ev.priv (y := M_emitBin) (args := [.int x1, .int x3, .int x2]) (rest := []) (gok hw) rfl nm_emitBin (ww hw 280 rfl) (ww hw 281 rfl) (ww hw 282 rfl) (ww hw 283 rfl) (lenOf pd_emitBin rfl) (d39 47 rfl) (V.2.1 q1.2) (e_emitBin hw V hq9) (by decide) (Nat.le_of_ble_eq_true rfl) rfl ?_
        cases hr
        exact Ev.ireturn rfl (d39 48 rfl)
      · replace hr := own_iq c7 hr
        exact e_makeBin_86 hw V  x1 x2 x3 q1.2 (.val (.int q1.1)) rfl y5 hy5 y6 hy6 _ hr
  · replace hr := own_iq c3 hr
    refine Ev.iload (d39 34 rfl) rfl ?_
    cases hr
    exact Ev.ireturn rfl (d39 35 rfl)
def f_makeBin (n : Nat) (a0 a1 a2 : Int32) (s : St) : Option (Int32 × St) :=
  (f_isConst s a1).bind fun q1 =>
  if q1 = 0 then
    f_makeBin_48 n a0 a1 a2 s
  else
    (f_isConst s a2).bind fun q4 =>
    if q4 = 0 then
      f_makeBin_48 n a0 a1 a2 s
    else
      (f_constOf s a1).bind fun q7 =>
      (f_constOf s a2).bind fun q9 =>
      (f_fold s a0 q7 q9).bind fun q11 =>
      (f_makeConst n q11 s).bind fun q13 =>
      some (q13.1, q13.2)
set_option maxRecDepth 100000 in
theorem e_makeBin {g : GT} {n : Nat} {a0 : Int32} {a1 : Int32} {a2 : Int32} {s : St} {w : Int32 × St} (hw : HW g) {K : St → MHeap} {o : Nat} {r : Nat → Nat} (V : View (GG g) Ln K o r) (hr : f_makeBin n a0 a1 a2 s = some w) : EvC (GG g) M_makeBin [.ref o, .int a0, .int a1, .int a2] (K s) ((some (.int w.1)), (K w.2)) := by
  refine EvC.enter (L0 := [.val (.ref o), .val (.int a0), .val (.int a1), .val (.int a2), .unset, .unset, .unset]) pl_makeBin (fun h => nomatch h) rfl rfl ?_
  unfold f_makeBin at hr
  refine Ev.aloadN (d39 0 rfl) rfl ?_
  refine Ev.iloadN (d39 1 rfl) rfl ?_
  obtain ⟨q1, hq2, hr⟩ := Option.bind_eq_some_iff.mp hr
  refine Ev.priv (y := M_isConst) (args := [.int a1]) (rest := []) (gok hw) rfl nm_isConst (ww hw 244 rfl) (ww hw 245 rfl) (ww hw 246 rfl) (ww hw 247 rfl) (lenOf pd_isConst rfl) (d39 2 rfl) (V.2.1 s) (e_isConst hw V hq2) (by decide) (Nat.le_of_ble_eq_true rfl) rfl ?_
  refine Ev.ifeq (t := 48) (d39 3 rfl) rfl (fun c3 => ?_) (fun c3 => ?_)
  · replace hr := own_ip c3 hr
    exact e_makeBin_48 hw V  a0 a1 a2 s .unset rfl .unset rfl .unset rfl _ hr
  · replace hr := own_iq c3 hr
    refine Ev.aloadN (d39 4 rfl) rfl ?_
    refine Ev.iloadN (d39 5 rfl) rfl ?_
    obtain ⟨q4, hq5, hr⟩ := Option.bind_eq_some_iff.mp hr
    refine Ev.priv (y := M_isConst) (args := [.int a2]) (rest := []) (gok hw) rfl nm_isConst (ww hw 244 rfl) (ww hw 245 rfl) (ww hw 246 rfl) (ww hw 247 rfl) (lenOf pd_isConst rfl) (d39 6 rfl) (V.2.1 s) (e_isConst hw V hq5) (by decide) (Nat.le_of_ble_eq_true rfl) rfl ?_
    refine Ev.ifeq (t := 48) (d39 7 rfl) rfl (fun c6 => ?_) (fun c6 => ?_)
    · replace hr := own_ip c6 hr
      exact e_makeBin_48 hw V  a0 a1 a2 s .unset rfl .unset rfl .unset rfl _ hr
    · replace hr := own_iq c6 hr
      refine Ev.aloadN (d39 8 rfl) rfl ?_
      refine Ev.iloadN (d39 9 rfl) rfl ?_
      obtain ⟨q7, hq8, hr⟩ := Option.bind_eq_some_iff.mp hr
      refine Ev.priv (y := M_constOf) (args := [.int a1]) (rest := []) (gok hw) rfl nm_constOf (ww hw 288 rfl) (ww hw 289 rfl) (ww hw 290 rfl) (ww hw 291 rfl) (lenOf pd_constOf rfl) (d39 10 rfl) (V.2.1 s) (e_constOf hw V hq8) (by decide) (Nat.le_of_ble_eq_true rfl) rfl ?_
      refine Ev.istD (L' := [.val (.ref o), .val (.int a0), .val (.int a1), .val (.int a2), .val (.int q7), .unset, .unset]) (d39 11 rfl) rfl rfl rfl ?_
      refine Ev.aloadN (d39 12 rfl) rfl ?_
      refine Ev.iloadN (d39 13 rfl) rfl ?_
      obtain ⟨q9, hq10, hr⟩ := Option.bind_eq_some_iff.mp hr
      refine Ev.priv (y := M_constOf) (args := [.int a2]) (rest := []) (gok hw) rfl nm_constOf (ww hw 288 rfl) (ww hw 289 rfl) (ww hw 290 rfl) (ww hw 291 rfl) (lenOf pd_constOf rfl) (d39 14 rfl) (V.2.1 s) (e_constOf hw V hq10) (by decide) (Nat.le_of_ble_eq_true rfl) rfl ?_
      refine Ev.istD (L' := [.val (.ref o), .val (.int a0), .val (.int a1), .val (.int a2), .val (.int q7), .val (.int q9), .unset]) (d39 15 rfl) rfl rfl rfl ?_
      refine Ev.aloadN (d39 16 rfl) rfl ?_
      refine Ev.iloadN (d39 17 rfl) rfl ?_
      refine Ev.iload (d39 18 rfl) rfl ?_
      refine Ev.iload (d39 19 rfl) rfl ?_
      obtain ⟨q11, hq12, hr⟩ := Option.bind_eq_some_iff.mp hr
      refine Ev.priv (y := M_fold) (args := [.int a0, .int q7, .int q9]) (rest := []) (gok hw) rfl nm_fold (ww hw 346 rfl) (ww hw 347 rfl) (ww hw 348 rfl) (ww hw 349 rfl) (lenOf pd_fold rfl) (d39 20 rfl) (V.2.1 s) (e_fold hw V hq12) (by decide) (Nat.le_of_ble_eq_true rfl) rfl ?_
      refine Ev.istD (L' := [.val (.ref o), .val (.int a0), .val (.int a1), .val (.int a2), .val (.int q7), .val (.int q9), .val (.int q11)]) (d39 21 rfl) rfl rfl rfl ?_
      refine Ev.aloadN (d39 22 rfl) rfl ?_
      refine Ev.iload (d39 23 rfl) rfl ?_
      obtain ⟨q13, hq14, hr⟩ := Option.bind_eq_some_iff.mp hr
      refine Ev.priv (y := M_makeConst) (args := [.int q11]) (rest := []) (gok hw) rfl nm_makeConst (ww hw 188 rfl) (ww hw 189 rfl) (ww hw 190 rfl) (ww hw 191 rfl) (lenOf pd_makeConst rfl) (d39 24 rfl) (V.2.1 s) (e_makeConst hw V hq14) (by decide) (Nat.le_of_ble_eq_true rfl) rfl ?_
      cases hr
      exact Ev.ireturn rfl (d39 25 rfl)
def f_sumStep_26 (n : Nat) (x1 x2 z0 : Int32) (s : St) : Option (Int32 × St) :=
  (f_makeBin n z0 x1 x2 s).bind fun q1 =>
  some (q1.1, q1.2)
set_option maxRecDepth 100000 in
theorem e_sumStep_26 {g : GT} {n : Nat} (hw : HW g) {K : St → MHeap} {o : Nat} {r : Nat → Nat} (V : View (GG g) Ln K o r) (x1 x2 z0 : Int32) (s : St) (y0 : Slot) (hy0 : one1 y0 = true) (y3 : Slot) (hy3 : one1 y3 = true) (w : Int32 × St) (hr : f_sumStep_26 n x1 x2 z0 s = some w) : Ev (GG g) M_sumStep 26 [y0, .val (.int x1), .val (.int x2), y3] [.int z0, .ref o] (K s) ((some (.int w.1)), (K w.2)) := by
  unfold f_sumStep_26 at hr
  refine Ev.iloadN (d38 16 rfl) rfl ?_
  refine Ev.iloadN (d38 17 rfl) rfl ?_
  obtain ⟨q1, hq2, hr⟩ := Option.bind_eq_some_iff.mp hr
  refine Ev.priv (y := M_makeBin) (args := [.int z0, .int x1, .int x2]) (rest := []) (gok hw) rfl nm_makeBin (ww hw 256 rfl) (ww hw 257 rfl) (ww hw 258 rfl) (ww hw 259 rfl) (lenOf pd_makeBin rfl) (d38 18 rfl) (V.2.1 s) (e_makeBin hw V hq2) (by decide) (Nat.le_of_ble_eq_true rfl) rfl ?_
  cases hr
  exact Ev.ireturn rfl (d38 19 rfl)
def f_sumStep (n : Nat) (a0 a1 a2 : Int32) (s : St) : Option (Int32 × St) :=
  if a0 < 0 then
    if 0 < a2 then
      some (a1, s)
    else
      none
  else
    if 0 < a2 then
      f_sumStep_26 n a0 a1 (4 : Int32) s
    else
      f_sumStep_26 n a0 a1 (5 : Int32) s
set_option maxRecDepth 100000 in
theorem e_sumStep {g : GT} {n : Nat} {a0 : Int32} {a1 : Int32} {a2 : Int32} {s : St} {w : Int32 × St} (hw : HW g) {K : St → MHeap} {o : Nat} {r : Nat → Nat} (V : View (GG g) Ln K o r) (hr : f_sumStep n a0 a1 a2 s = some w) : EvC (GG g) M_sumStep [.ref o, .int a0, .int a1, .int a2] (K s) ((some (.int w.1)), (K w.2)) := by
  refine EvC.enter (L0 := [.val (.ref o), .val (.int a0), .val (.int a1), .val (.int a2)]) pl_sumStep (fun h => nomatch h) rfl rfl ?_
  unfold f_sumStep at hr
  refine Ev.iloadN (d38 0 rfl) rfl ?_
  refine Ev.ifge (t := 16) (d38 1 rfl) rfl (fun c1 => ?_) (fun c1 => ?_)
  · replace hr := own_ip c1 hr
    refine Ev.iloadN (d38 2 rfl) rfl ?_
    refine Ev.ifle (t := 10) (d38 3 rfl) rfl (fun c2 => ?_) (fun c2 => ?_)
    · replace hr := own_ip c2 hr
      refine Ev.iloadN (d38 4 rfl) rfl ?_
      cases hr
      exact Ev.ireturn rfl (d38 5 rfl)
    · replace hr := own_iq c2 hr
      refine Ev.aloadN (d38 6 rfl) rfl ?_
      refine Ev.iloadN (d38 7 rfl) rfl ?_
      cases hr
  · replace hr := own_iq c1 hr
    refine Ev.aloadN (d38 10 rfl) rfl ?_
    refine Ev.iloadN (d38 11 rfl) rfl ?_
    refine Ev.ifle (t := 25) (d38 12 rfl) rfl (fun c3 => ?_) (fun c3 => ?_)
    · replace hr := own_ip c3 hr
      refine Ev.iconst (z := 4) (d38 13 rfl) rfl ?_
      refine Ev.goto (t := 26) (d38 14 rfl) rfl ?_
      exact e_sumStep_26 hw V  a0 a1 (4 : Int32) s (.val (.ref o)) rfl (.val (.int a2)) rfl _ hr
    · replace hr := own_iq c3 hr
      refine Ev.iconst (z := 5) (d38 15 rfl) rfl ?_
      exact e_sumStep_26 hw V  a0 a1 (5 : Int32) s (.val (.ref o)) rfl (.val (.int a2)) rfl _ hr
def f_rebuildSum_60 (n : Nat) (k4 : Int32 → Int32 → St → Option (Int32 × St)) (x2 z0 : Int32) (s : St) : Option (Int32 × St) :=
  grd (inb x2 16) <|
  bnd (setA s 24 (ix x2) ((1 : Int32) &&& 1)) fun s2 =>
  k4 z0 (x2 + (1 : Int32)) s2
set_option maxRecDepth 100000 in
theorem e_rebuildSum_60 {g : GT} {n : Nat} (hw : HW g) {K : St → MHeap} {o : Nat} {r : Nat → Nat} (V : View (GG g) Ln K o r) {k4 : Int32 → Int32 → St → Option (Int32 × St)} (hk4 : ∀ (x1 x2 : Int32) (s : St) (y3 : Slot) (hy3 : one1 y3 = true) (w : Int32 × St), k4 x1 x2 s = some w → Ev (GG g) M_rebuildSum 4 [.val (.ref o), .val (.int x1), .val (.int x2), y3] [] (K s) ((some (.int w.1)), (K w.2))) (x2 z0 : Int32) (s : St) (y1 : Slot) (hy1 : one1 y1 = true) (y3 : Slot) (hy3 : one1 y3 = true) (w : Int32 × St) (hr : f_rebuildSum_60 n k4 x2 z0 s = some w) : Ev (GG g) M_rebuildSum 60 [.val (.ref o), y1, .val (.int x2), y3] [.int z0] (K s) ((some (.int w.1)), (K w.2)) := by
  unfold f_rebuildSum_60 at hr
  refine Ev.istDN (L' := [.val (.ref o), .val (.int z0), .val (.int x2), y3]) (d35 37 rfl) rfl hy1 rfl ?_
  refine Ev.aloadN (d35 38 rfl) rfl ?_
  refine Ev.gAr V (ww hw 59 rfl) (d35 39 rfl) (j := 24) rfl ?_
  refine Ev.iloadN (d35 40 rfl) rfl ?_
  refine Ev.iconst (z := 1) (d35 41 rfl) rfl ?_
  obtain ⟨b1, hr⟩ := grd_some hr
  refine Ev.bas V (j := 24) rfl rfl (d35 42 rfl) b1 ?_
  revert hr
  generalize setA s 24 (ix x2) ((1 : Int32) &&& 1) = s2
  intro hr
  replace hr := (bnd_eq _ _).symm.trans hr
  refine Ev.iinc (z := 1) (L' := [.val (.ref o), .val (.int z0), .val (.int (x2 + (1 : Int32))), y3]) (d35 43 rfl) rfl rfl rfl ?_
  refine Ev.goto (t := 4) (d35 44 rfl) rfl ?_
  exact hk4 z0 (x2 + (1 : Int32)) s2 y3 hy3 _ hr
def f_rebuildSum_143 (n : Nat) (x2 : Int32) (s : St) : Option (Int32 × St) :=
  if x2 < 0 then
    (f_makeConst n (0 : Int32) s).bind fun q2 =>
    some (q2.1, q2.2)
  else
    some (x2, s)
set_option maxRecDepth 100000 in
theorem e_rebuildSum_143 {g : GT} {n : Nat} (hw : HW g) {K : St → MHeap} {o : Nat} {r : Nat → Nat} (V : View (GG g) Ln K o r) (x2 : Int32) (s : St) (y1 : Slot) (hy1 : one1 y1 = true) (y3 : Slot) (hy3 : one1 y3 = true) (w : Int32 × St) (hr : f_rebuildSum_143 n x2 s = some w) : Ev (GG g) M_rebuildSum 143 [.val (.ref o), y1, .val (.int x2), y3] [] (K s) ((some (.int w.1)), (K w.2)) := by
  unfold f_rebuildSum_143 at hr
  refine Ev.iloadN (d35 85 rfl) rfl ?_
  refine Ev.ifge (t := 153) (d35 86 rfl) rfl (fun c1 => ?_) (fun c1 => ?_)
  · replace hr := own_ip c1 hr
    refine Ev.aloadN (d35 87 rfl) rfl ?_
    refine Ev.iconst (z := 0) (d35 88 rfl) rfl ?_
    obtain ⟨q2, hq3, hr⟩ := Option.bind_eq_some_iff.mp hr
    refine Ev.priv (y := M_makeConst) (args := [.int (0 : Int32)]) (rest := []) (gok hw) rfl nm_makeConst (ww hw 188 rfl) (ww hw 189 rfl) (ww hw 190 rfl) (ww hw 191 rfl) (lenOf pd_makeConst rfl) (d35 89 rfl) (V.2.1 s) (e_makeConst hw V hq3) (by decide) (Nat.le_of_ble_eq_true rfl) rfl ?_
    refine Ev.istDN (L' := [.val (.ref o), y1, .val (.int q2.1), y3]) (d35 90 rfl) rfl rfl rfl ?_
    refine Ev.iloadN (d35 91 rfl) rfl ?_
    cases hr
    exact Ev.ireturn rfl (d35 92 rfl)
  · replace hr := own_iq c1 hr
    refine Ev.iloadN (d35 91 rfl) rfl ?_
    cases hr
    exact Ev.ireturn rfl (d35 92 rfl)
def f_rebuildSum_93 (n : Nat) : Nat → Int32 → Int32 → St → Option (Int32 × St)
  | 0 => fun _ _ _ => none
  | k + 1 => fun x2 x3 s =>
    if x3 < (s.1 43) then
      if x3 < (16 : Int32) then
        grd (inb x3 16) <|
        if (s.2 24 (ix x3)) = 0 then
          (f_sumStep n x2 (s.2 22 (ix x3)) (s.2 23 (ix x3)) s).bind fun q5 =>
          f_rebuildSum_93 n k q5.1 (x3 + (1 : Int32)) q5.2
        else
          f_rebuildSum_93 n k x2 (x3 + (1 : Int32)) s
      else
        f_rebuildSum_143 n x2 s
    else
      f_rebuildSum_143 n x2 s
set_option maxRecDepth 100000 in
theorem e_rebuildSum_93 {g : GT} {n : Nat} (hw : HW g) {K : St → MHeap} {o : Nat} {r : Nat → Nat} (V : View (GG g) Ln K o r) (k : Nat) : ∀ (x2 x3 : Int32) (s : St) (y1 : Slot) (hy1 : one1 y1 = true) (w : Int32 × St), f_rebuildSum_93 n k x2 x3 s = some w → Ev (GG g) M_rebuildSum 93 [.val (.ref o), y1, .val (.int x2), .val (.int x3)] [] (K s) ((some (.int w.1)), (K w.2)) := by
  induction k with
  | zero => intro x2 x3 s y1 hy1 w hr; rw [f_rebuildSum_93] at hr; cases hr
  | succ k ih =>
    intro x2 x3 s y1 hy1 w hr
    rw [f_rebuildSum_93] at hr
    refine Ev.iloadN (d35 58 rfl) rfl ?_
    refine Ev.aloadN (d35 59 rfl) rfl ?_
    refine Ev.gI V (ww hw 204 rfl) (d35 60 rfl) (j := 43) rfl rfl ?_
    refine Ev.icge (t := 143) (d35 61 rfl) rfl (fun c1 => ?_) (fun c1 => ?_)
    · replace hr := own_ip c1 hr
      refine Ev.iloadN (d35 62 rfl) rfl ?_
      refine Ev.bipush (z := 16) (d35 63 rfl) rfl ?_
      refine Ev.icge (t := 143) (d35 64 rfl) rfl (fun c2 => ?_) (fun c2 => ?_)
      · replace hr := own_ip c2 hr
        refine Ev.aloadN (d35 65 rfl) rfl ?_
        refine Ev.gAr V (ww hw 59 rfl) (d35 66 rfl) (j := 24) rfl ?_
        refine Ev.iloadN (d35 67 rfl) rfl ?_
        obtain ⟨b3, hr⟩ := grd_some hr
        refine Ev.bal V (j := 24) rfl rfl (d35 68 rfl) b3 ?_
        refine Ev.ifeq (t := 119) (d35 69 rfl) rfl (fun c4 => ?_) (fun c4 => ?_)
        · replace hr := own_ip c4 hr
          refine Ev.aloadN (d35 71 rfl) rfl ?_
          refine Ev.iloadN (d35 72 rfl) rfl ?_
          refine Ev.aloadN (d35 73 rfl) rfl ?_
          refine Ev.gAr V (ww hw 54 rfl) (d35 74 rfl) (j := 22) rfl ?_
          refine Ev.iloadN (d35 75 rfl) rfl ?_
          refine Ev.ial V (j := 22) rfl rfl (d35 76 rfl) b3 ?_
          refine Ev.aloadN (d35 77 rfl) rfl ?_
          refine Ev.gAr V (ww hw 56 rfl) (d35 78 rfl) (j := 23) rfl ?_
          refine Ev.iloadN (d35 79 rfl) rfl ?_
          refine Ev.ial V (j := 23) rfl rfl (d35 80 rfl) b3 ?_
          obtain ⟨q5, hq6, hr⟩ := Option.bind_eq_some_iff.mp hr
          refine Ev.priv (y := M_sumStep) (args := [.int x2, .int (s.2 22 (ix x3)), .int (s.2 23 (ix x3))]) (rest := []) (gok hw) rfl nm_sumStep (ww hw 252 rfl) (ww hw 253 rfl) (ww hw 254 rfl) (ww hw 255 rfl) (lenOf pd_sumStep rfl) (d35 81 rfl) (V.2.1 s) (e_sumStep hw V hq6) (by decide) (Nat.le_of_ble_eq_true rfl) rfl ?_
          refine Ev.istDN (L' := [.val (.ref o), y1, .val (.int q5.1), .val (.int x3)]) (d35 82 rfl) rfl rfl rfl ?_
          refine Ev.iinc (z := 1) (L' := [.val (.ref o), y1, .val (.int q5.1), .val (.int (x3 + (1 : Int32)))]) (d35 83 rfl) rfl rfl rfl ?_
          refine Ev.goto (t := 93) (d35 84 rfl) rfl ?_
          exact ih q5.1 (x3 + (1 : Int32)) q5.2 y1 hy1 _ hr
        · replace hr := own_iq c4 hr
          refine Ev.goto (t := 137) (d35 70 rfl) rfl ?_
          refine Ev.iinc (z := 1) (L' := [.val (.ref o), y1, .val (.int x2), .val (.int (x3 + (1 : Int32)))]) (d35 83 rfl) rfl rfl rfl ?_
          refine Ev.goto (t := 93) (d35 84 rfl) rfl ?_
          exact ih x2 (x3 + (1 : Int32)) s y1 hy1 _ hr
      · replace hr := own_iq c2 hr
        exact e_rebuildSum_143 hw V  x2 s y1 hy1 (.val (.int x3)) rfl _ hr
    · replace hr := own_iq c1 hr
      exact e_rebuildSum_143 hw V  x2 s y1 hy1 (.val (.int x3)) rfl _ hr
def f_rebuildSum_91 (n : Nat) (x2 : Int32) (s : St) : Option (Int32 × St) :=
  f_rebuildSum_93 n n x2 (0 : Int32) s
set_option maxRecDepth 100000 in
theorem e_rebuildSum_91 {g : GT} {n : Nat} (hw : HW g) {K : St → MHeap} {o : Nat} {r : Nat → Nat} (V : View (GG g) Ln K o r) (x2 : Int32) (s : St) (y1 : Slot) (hy1 : one1 y1 = true) (y3 : Slot) (hy3 : one1 y3 = true) (w : Int32 × St) (hr : f_rebuildSum_91 n x2 s = some w) : Ev (GG g) M_rebuildSum 91 [.val (.ref o), y1, .val (.int x2), y3] [] (K s) ((some (.int w.1)), (K w.2)) := by
  unfold f_rebuildSum_91 at hr
  refine Ev.iconst (z := 0) (d35 56 rfl) rfl ?_
  refine Ev.istDN (L' := [.val (.ref o), y1, .val (.int x2), .val (.int (0 : Int32))]) (d35 57 rfl) rfl hy3 rfl ?_
  exact e_rebuildSum_93 hw V  n x2 (0 : Int32) s y1 hy1 _ hr
def f_rebuildSum_74 (n : Nat) (x1 : Int32) (s : St) : Option (Int32 × St) :=
  (f_removeRepeats n (0 : Int32) s).bind fun q1 =>
  if x1 = 0 then
    f_rebuildSum_91 n (-1 : Int32) q1
  else
    (f_makeConst n x1 q1).bind fun q4 =>
    f_rebuildSum_91 n q4.1 q4.2
set_option maxRecDepth 100000 in
theorem e_rebuildSum_74 {g : GT} {n : Nat} (hw : HW g) {K : St → MHeap} {o : Nat} {r : Nat → Nat} (V : View (GG g) Ln K o r) (x1 : Int32) (s : St) (y2 : Slot) (hy2 : one1 y2 = true) (y3 : Slot) (hy3 : one1 y3 = true) (w : Int32 × St) (hr : f_rebuildSum_74 n x1 s = some w) : Ev (GG g) M_rebuildSum 74 [.val (.ref o), .val (.int x1), y2, y3] [] (K s) ((some (.int w.1)), (K w.2)) := by
  unfold f_rebuildSum_74 at hr
  refine Ev.aloadN (d35 45 rfl) rfl ?_
  refine Ev.iconst (z := 0) (d35 46 rfl) rfl ?_
  obtain ⟨q1, hq2, hr⟩ := Option.bind_eq_some_iff.mp hr
  refine Ev.priv (y := M_removeRepeats) (args := [.int (0 : Int32)]) (rest := []) (gok hw) rfl nm_removeRepeats (ww hw 248 rfl) (ww hw 249 rfl) (ww hw 250 rfl) (ww hw 251 rfl) (lenOf pd_removeRepeats rfl) (d35 47 rfl) (V.2.1 s) (e_removeRepeats hw V hq2) (by decide) (Nat.le_of_ble_eq_true rfl) rfl ?_
  refine Ev.iconst (z := -1) (d35 48 rfl) rfl ?_
  refine Ev.istDN (L' := [.val (.ref o), .val (.int x1), .val (.int (-1 : Int32)), y3]) (d35 49 rfl) rfl hy2 rfl ?_
  refine Ev.iloadN (d35 50 rfl) rfl ?_
  refine Ev.ifeq (t := 91) (d35 51 rfl) rfl (fun c3 => ?_) (fun c3 => ?_)
  · replace hr := own_ip c3 hr
    exact e_rebuildSum_91 hw V  (-1 : Int32) q1 (.val (.int x1)) rfl y3 hy3 _ hr
  · replace hr := own_iq c3 hr
    refine Ev.aloadN (d35 52 rfl) rfl ?_
    refine Ev.iloadN (d35 53 rfl) rfl ?_
    obtain ⟨q4, hq5, hr⟩ := Option.bind_eq_some_iff.mp hr
    refine Ev.priv (y := M_makeConst) (args := [.int x1]) (rest := []) (gok hw) rfl nm_makeConst (ww hw 188 rfl) (ww hw 189 rfl) (ww hw 190 rfl) (ww hw 191 rfl) (lenOf pd_makeConst rfl) (d35 54 rfl) (V.2.1 q1) (e_makeConst hw V hq5) (by decide) (Nat.le_of_ble_eq_true rfl) rfl ?_
    refine Ev.istDN (L' := [.val (.ref o), .val (.int x1), .val (.int q4.1), y3]) (d35 55 rfl) rfl rfl rfl ?_
    exact e_rebuildSum_91 hw V  q4.1 q4.2 (.val (.int x1)) rfl y3 hy3 _ hr
def f_rebuildSum_4 (n : Nat) : Nat → Int32 → Int32 → St → Option (Int32 × St)
  | 0 => fun _ _ _ => none
  | k + 1 => fun x1 x2 s =>
    if x2 < (s.1 43) then
      if x2 < (16 : Int32) then
        grd (inb x2 16) <|
        (f_isConst s (s.2 22 (ix x2))).bind fun q4 =>
        if q4 = 0 then
          f_rebuildSum_4 n k x1 (x2 + (1 : Int32)) s
        else
          (f_constOf s (s.2 22 (ix x2))).bind fun q7 =>
          if 0 < (s.2 23 (ix x2)) then
            f_rebuildSum_60 n (f_rebuildSum_4 n k) x2 (x1 + q7) s
          else
            f_rebuildSum_60 n (f_rebuildSum_4 n k) x2 (x1 - q7) s
      else
        f_rebuildSum_74 n x1 s
    else
      f_rebuildSum_74 n x1 s
set_option maxRecDepth 100000 in
theorem e_rebuildSum_4 {g : GT} {n : Nat} (hw : HW g) {K : St → MHeap} {o : Nat} {r : Nat → Nat} (V : View (GG g) Ln K o r) (k : Nat) : ∀ (x1 x2 : Int32) (s : St) (y3 : Slot) (hy3 : one1 y3 = true) (w : Int32 × St), f_rebuildSum_4 n k x1 x2 s = some w → Ev (GG g) M_rebuildSum 4 [.val (.ref o), .val (.int x1), .val (.int x2), y3] [] (K s) ((some (.int w.1)), (K w.2)) := by
  induction k with
  | zero => intro x1 x2 s y3 hy3 w hr; rw [f_rebuildSum_4] at hr; cases hr
  | succ k ih =>
    intro x1 x2 s y3 hy3 w hr
    rw [f_rebuildSum_4] at hr
    refine Ev.iloadN (d35 4 rfl) rfl ?_
    refine Ev.aloadN (d35 5 rfl) rfl ?_
    refine Ev.gI V (ww hw 204 rfl) (d35 6 rfl) (j := 43) rfl rfl ?_
    refine Ev.icge (t := 74) (d35 7 rfl) rfl (fun c1 => ?_) (fun c1 => ?_)
    · replace hr := own_ip c1 hr
      refine Ev.iloadN (d35 8 rfl) rfl ?_
      refine Ev.bipush (z := 16) (d35 9 rfl) rfl ?_
      refine Ev.icge (t := 74) (d35 10 rfl) rfl (fun c2 => ?_) (fun c2 => ?_)
      · replace hr := own_ip c2 hr
        refine Ev.aloadN (d35 11 rfl) rfl ?_
        refine Ev.aloadN (d35 12 rfl) rfl ?_
        refine Ev.gAr V (ww hw 54 rfl) (d35 13 rfl) (j := 22) rfl ?_
        refine Ev.iloadN (d35 14 rfl) rfl ?_
        obtain ⟨b3, hr⟩ := grd_some hr
        refine Ev.ial V (j := 22) rfl rfl (d35 15 rfl) b3 ?_
        obtain ⟨q4, hq5, hr⟩ := Option.bind_eq_some_iff.mp hr
        refine Ev.priv (y := M_isConst) (args := [.int (s.2 22 (ix x2))]) (rest := []) (gok hw) rfl nm_isConst (ww hw 244 rfl) (ww hw 245 rfl) (ww hw 246 rfl) (ww hw 247 rfl) (lenOf pd_isConst rfl) (d35 16 rfl) (V.2.1 s) (e_isConst hw V hq5) (by decide) (Nat.le_of_ble_eq_true rfl) rfl ?_
        refine Ev.ifeq (t := 68) (d35 17 rfl) rfl (fun c6 => ?_) (fun c6 => ?_)
        · replace hr := own_ip c6 hr
          refine Ev.iinc (z := 1) (L' := [.val (.ref o), .val (.int x1), .val (.int (x2 + (1 : Int32))), y3]) (d35 43 rfl) rfl rfl rfl ?_
          refine Ev.goto (t := 4) (d35 44 rfl) rfl ?_
          exact ih x1 (x2 + (1 : Int32)) s y3 hy3 _ hr
        · replace hr := own_iq c6 hr
          refine Ev.aloadN (d35 18 rfl) rfl ?_
          refine Ev.aloadN (d35 19 rfl) rfl ?_
          refine Ev.gAr V (ww hw 54 rfl) (d35 20 rfl) (j := 22) rfl ?_
          refine Ev.iloadN (d35 21 rfl) rfl ?_
          refine Ev.ial V (j := 22) rfl rfl (d35 22 rfl) b3 ?_
          obtain ⟨q7, hq8, hr⟩ := Option.bind_eq_some_iff.mp hr
          refine Ev.priv (y := M_constOf) (args := [.int (s.2 22 (ix x2))]) (rest := []) (gok hw) rfl nm_constOf (ww hw 288 rfl) (ww hw 289 rfl) (ww hw 290 rfl) (ww hw 291 rfl) (lenOf pd_constOf rfl) (d35 23 rfl) (V.2.1 s) (e_constOf hw V hq8) (by decide) (Nat.le_of_ble_eq_true rfl) rfl ?_
          refine Ev.istDN (L' := [.val (.ref o), .val (.int x1), .val (.int x2), .val (.int q7)]) (d35 24 rfl) rfl hy3 rfl ?_
          refine Ev.aloadN (d35 25 rfl) rfl ?_
          refine Ev.gAr V (ww hw 56 rfl) (d35 26 rfl) (j := 23) rfl ?_
          refine Ev.iloadN (d35 27 rfl) rfl ?_
          refine Ev.ial V (j := 23) rfl rfl (d35 28 rfl) b3 ?_
          refine Ev.ifle (t := 57) (d35 29 rfl) rfl (fun c9 => ?_) (fun c9 => ?_)
          · replace hr := own_ip c9 hr
            refine Ev.iloadN (d35 30 rfl) rfl ?_
            refine Ev.iloadN (d35 31 rfl) rfl ?_
            refine Ev.iadd (d35 32 rfl) ?_
            refine Ev.goto (t := 60) (d35 33 rfl) rfl ?_
            exact e_rebuildSum_60 hw V ih x2 (x1 + q7) s (.val (.int x1)) rfl (.val (.int q7)) rfl _ hr
          · replace hr := own_iq c9 hr
            refine Ev.iloadN (d35 34 rfl) rfl ?_
            refine Ev.iloadN (d35 35 rfl) rfl ?_
            refine Ev.isub (d35 36 rfl) ?_
            exact e_rebuildSum_60 hw V ih x2 (x1 - q7) s (.val (.int x1)) rfl (.val (.int q7)) rfl _ hr
      · replace hr := own_iq c2 hr
        exact e_rebuildSum_74 hw V  x1 s (.val (.int x2)) rfl y3 hy3 _ hr
    · replace hr := own_iq c1 hr
      exact e_rebuildSum_74 hw V  x1 s (.val (.int x2)) rfl y3 hy3 _ hr
def f_rebuildSum (n : Nat) (s : St) : Option (Int32 × St) :=
  f_rebuildSum_4 n n (0 : Int32) (0 : Int32) s
set_option maxRecDepth 100000 in
theorem e_rebuildSum {g : GT} {n : Nat} {s : St} {w : Int32 × St} (hw : HW g) {K : St → MHeap} {o : Nat} {r : Nat → Nat} (V : View (GG g) Ln K o r) (hr : f_rebuildSum n s = some w) : EvC (GG g) M_rebuildSum [.ref o] (K s) ((some (.int w.1)), (K w.2)) := by
  refine EvC.enter (L0 := [.val (.ref o), .unset, .unset, .unset]) pl_rebuildSum (fun h => nomatch h) rfl rfl ?_
  unfold f_rebuildSum at hr
  refine Ev.iconst (z := 0) (d35 0 rfl) rfl ?_
  refine Ev.istDN (L' := [.val (.ref o), .val (.int (0 : Int32)), .unset, .unset]) (d35 1 rfl) rfl rfl rfl ?_
  refine Ev.iconst (z := 0) (d35 2 rfl) rfl ?_
  refine Ev.istDN (L' := [.val (.ref o), .val (.int (0 : Int32)), .val (.int (0 : Int32)), .unset]) (d35 3 rfl) rfl rfl rfl ?_
  exact e_rebuildSum_4 hw V  n (0 : Int32) (0 : Int32) s .unset rfl _ hr
def f_identityOf (s : St) (a0 : Int32) : Option (Int32) :=
  if a0 = (6 : Int32) then
    some (1 : Int32)
  else
    if a0 = (7 : Int32) then
      some (-1 : Int32)
    else
      some (0 : Int32)
set_option maxRecDepth 100000 in
theorem e_identityOf {g : GT} {s : St} {a0 : Int32} {w : Int32} (hw : HW g) {K : St → MHeap} {o : Nat} {r : Nat → Nat} (V : View (GG g) Ln K o r) (hr : f_identityOf s a0 = some w) : EvC (GG g) M_identityOf [.ref o, .int a0] (K s) ((some (.int w)), (K s)) := by
  refine EvC.enter (L0 := [.val (.ref o), .val (.int a0)]) pl_identityOf (fun h => nomatch h) rfl rfl ?_
  unfold f_identityOf at hr
  refine Ev.iloadN (d51 0 rfl) rfl ?_
  refine Ev.bipush (z := 6) (d51 1 rfl) rfl ?_
  refine Ev.icne (t := 8) (d51 2 rfl) rfl (fun c1 => ?_) (fun c1 => ?_)
  · replace hr := own_ip c1 hr
    refine Ev.iconst (z := 1) (d51 3 rfl) rfl ?_
    cases hr
    exact Ev.ireturn rfl (d51 4 rfl)
  · replace hr := own_iq c1 hr
    refine Ev.iloadN (d51 5 rfl) rfl ?_
    refine Ev.bipush (z := 7) (d51 6 rfl) rfl ?_
    refine Ev.icne (t := 16) (d51 7 rfl) rfl (fun c2 => ?_) (fun c2 => ?_)
    · replace hr := own_ip c2 hr
      refine Ev.iconst (z := -1) (d51 8 rfl) rfl ?_
      cases hr
      exact Ev.ireturn rfl (d51 9 rfl)
    · replace hr := own_iq c2 hr
      refine Ev.iconst (z := 0) (d51 10 rfl) rfl ?_
      cases hr
      exact Ev.ireturn rfl (d51 11 rfl)
def f_absorberOf (s : St) (a0 : Int32) : Option (Int32) :=
  if a0 = (8 : Int32) then
    some (-1 : Int32)
  else
    if a0 = (6 : Int32) then
      some (0 : Int32)
    else
      if a0 = (7 : Int32) then
        some (0 : Int32)
      else
        (f_identityOf s a0).bind fun q4 =>
        some q4
set_option maxRecDepth 100000 in
theorem e_absorberOf {g : GT} {s : St} {a0 : Int32} {w : Int32} (hw : HW g) {K : St → MHeap} {o : Nat} {r : Nat → Nat} (V : View (GG g) Ln K o r) (hr : f_absorberOf s a0 = some w) : EvC (GG g) M_absorberOf [.ref o, .int a0] (K s) ((some (.int w)), (K s)) := by
  refine EvC.enter (L0 := [.val (.ref o), .val (.int a0)]) pl_absorberOf (fun h => nomatch h) rfl rfl ?_
  unfold f_absorberOf at hr
  refine Ev.iloadN (d52 0 rfl) rfl ?_
  refine Ev.bipush (z := 8) (d52 1 rfl) rfl ?_
  refine Ev.icne (t := 8) (d52 2 rfl) rfl (fun c1 => ?_) (fun c1 => ?_)
  · replace hr := own_ip c1 hr
    refine Ev.iconst (z := -1) (d52 3 rfl) rfl ?_
    cases hr
    exact Ev.ireturn rfl (d52 4 rfl)
  · replace hr := own_iq c1 hr
    refine Ev.iloadN (d52 5 rfl) rfl ?_
    refine Ev.bipush (z := 6) (d52 6 rfl) rfl ?_
    refine Ev.iceq (t := 20) (d52 7 rfl) rfl (fun c2 => ?_) (fun c2 => ?_)
    · replace hr := own_ip c2 hr
      refine Ev.iconst (z := 0) (d52 11 rfl) rfl ?_
      cases hr
      exact Ev.ireturn rfl (d52 12 rfl)
    · replace hr := own_iq c2 hr
      refine Ev.iloadN (d52 8 rfl) rfl ?_
      refine Ev.bipush (z := 7) (d52 9 rfl) rfl ?_
      refine Ev.icne (t := 22) (d52 10 rfl) rfl (fun c3 => ?_) (fun c3 => ?_)
      · replace hr := own_ip c3 hr
        refine Ev.iconst (z := 0) (d52 11 rfl) rfl ?_
        cases hr
        exact Ev.ireturn rfl (d52 12 rfl)
      · replace hr := own_iq c3 hr
        refine Ev.aloadN (d52 13 rfl) rfl ?_
        refine Ev.iloadN (d52 14 rfl) rfl ?_
        obtain ⟨q4, hq5, hr⟩ := Option.bind_eq_some_iff.mp hr
        refine Ev.priv (y := M_identityOf) (args := [.int a0]) (rest := []) (gok hw) rfl nm_identityOf (ww hw 304 rfl) (ww hw 305 rfl) (ww hw 306 rfl) (ww hw 307 rfl) (lenOf pd_identityOf rfl) (d52 15 rfl) (V.2.1 s) (e_identityOf hw V hq5) (by decide) (Nat.le_of_ble_eq_true rfl) rfl ?_
        cases hr
        exact Ev.ireturn rfl (d52 16 rfl)
def f_rebuildChain_205 (n : Nat) (k147 : Int32 → Int32 → Int32 → Int32 → St → Option (Int32 × St)) (x1 x2 x5 z0 : Int32) (s : St) : Option (Int32 × St) :=
  k147 x1 x2 z0 (x5 + (1 : Int32)) s
set_option maxRecDepth 100000 in
theorem e_rebuildChain_205 {g : GT} {n : Nat} (hw : HW g) {K : St → MHeap} {o : Nat} {r : Nat → Nat} (V : View (GG g) Ln K o r) {k147 : Int32 → Int32 → Int32 → Int32 → St → Option (Int32 × St)} (hk147 : ∀ (x1 x2 x4 x5 : Int32) (s : St) (y3 : Slot) (hy3 : one1 y3 = true) (w : Int32 × St), k147 x1 x2 x4 x5 s = some w → Ev (GG g) M_rebuildChain 147 [.val (.ref o), .val (.int x1), .val (.int x2), y3, .val (.int x4), .val (.int x5)] [] (K s) ((some (.int w.1)), (K w.2))) (x1 x2 x5 z0 : Int32) (s : St) (y3 : Slot) (hy3 : one1 y3 = true) (y4 : Slot) (hy4 : one1 y4 = true) (w : Int32 × St) (hr : f_rebuildChain_205 n k147 x1 x2 x5 z0 s = some w) : Ev (GG g) M_rebuildChain 205 [.val (.ref o), .val (.int x1), .val (.int x2), y3, y4, .val (.int x5)] [.int z0] (K s) ((some (.int w.1)), (K w.2)) := by
  unfold f_rebuildChain_205 at hr
  refine Ev.istD (L' := [.val (.ref o), .val (.int x1), .val (.int x2), y3, .val (.int z0), .val (.int x5)]) (d50 109 rfl) rfl hy4 rfl ?_
  refine Ev.iinc (z := 1) (L' := [.val (.ref o), .val (.int x1), .val (.int x2), y3, .val (.int z0), .val (.int (x5 + (1 : Int32)))]) (d50 110 rfl) rfl rfl rfl ?_
  refine Ev.goto (t := 147) (d50 111 rfl) rfl ?_
  exact hk147 x1 x2 z0 (x5 + (1 : Int32)) s y3 hy3 _ hr
def f_rebuildChain_213 (n : Nat) (x2 x4 : Int32) (s : St) : Option (Int32 × St) :=
  if x4 < 0 then
    (f_makeConst n x2 s).bind fun q2 =>
    some (q2.1, q2.2)
  else
    some (x4, s)
set_option maxRecDepth 100000 in
theorem e_rebuildChain_213 {g : GT} {n : Nat} (hw : HW g) {K : St → MHeap} {o : Nat} {r : Nat → Nat} (V : View (GG g) Ln K o r) (x2 x4 : Int32) (s : St) (y1 : Slot) (hy1 : one1 y1 = true) (y3 : Slot) (hy3 : one1 y3 = true) (y5 : Slot) (hy5 : one1 y5 = true) (w : Int32 × St) (hr : f_rebuildChain_213 n x2 x4 s = some w) : Ev (GG g) M_rebuildChain 213 [.val (.ref o), y1, .val (.int x2), y3, .val (.int x4), y5] [] (K s) ((some (.int w.1)), (K w.2)) := by
  unfold f_rebuildChain_213 at hr
  refine Ev.iload (d50 112 rfl) rfl ?_
  refine Ev.ifge (t := 225) (d50 113 rfl) rfl (fun c1 => ?_) (fun c1 => ?_)
  · replace hr := own_ip c1 hr
    refine Ev.aloadN (d50 114 rfl) rfl ?_
    refine Ev.iloadN (d50 115 rfl) rfl ?_
    obtain ⟨q2, hq3, hr⟩ := Option.bind_eq_some_iff.mp hr
    refine Ev.priv (y := M_makeConst) (args := [.int x2]) (rest := []) (gok hw) rfl nm_makeConst (ww hw 188 rfl) (ww hw 189 rfl) (ww hw 190 rfl) (ww hw 191 rfl) (lenOf pd_makeConst rfl) (d50 116 rfl) (V.2.1 s) (e_makeConst hw V hq3) (by decide) (Nat.le_of_ble_eq_true rfl) rfl ?_
    refine Ev.istD (L' := [.val (.ref o), y1, .val (.int x2), y3, .val (.int q2.1), y5]) (d50 117 rfl) rfl rfl rfl ?_
    refine Ev.iload (d50 118 rfl) rfl ?_
    cases hr
    exact Ev.ireturn rfl (d50 119 rfl)
  · replace hr := own_iq c1 hr
    refine Ev.iload (d50 118 rfl) rfl ?_
    cases hr
    exact Ev.ireturn rfl (d50 119 rfl)
def f_rebuildChain_147 (n : Nat) : Nat → Int32 → Int32 → Int32 → Int32 → St → Option (Int32 × St)
  | 0 => fun _ _ _ _ _ => none
  | k + 1 => fun x1 x2 x4 x5 s =>
    if x5 < (s.1 43) then
      if x5 < (16 : Int32) then
        grd (inb x5 16) <|
        if (s.2 24 (ix x5)) = 0 then
          if x4 < 0 then
            f_rebuildChain_205 n (f_rebuildChain_147 n k) x1 x2 x5 (s.2 22 (ix x5)) s
          else
            (f_makeBin n x1 x4 (s.2 22 (ix x5)) s).bind fun q6 =>
            f_rebuildChain_205 n (f_rebuildChain_147 n k) x1 x2 x5 q6.1 q6.2
        else
          f_rebuildChain_147 n k x1 x2 x4 (x5 + (1 : Int32)) s
      else
        f_rebuildChain_213 n x2 x4 s
    else
      f_rebuildChain_213 n x2 x4 s
set_option maxRecDepth 100000 in
theorem e_rebuildChain_147 {g : GT} {n : Nat} (hw : HW g) {K : St → MHeap} {o : Nat} {r : Nat → Nat} (V : View (GG g) Ln K o r) (k : Nat) : ∀ (x1 x2 x4 x5 : Int32) (s : St) (y3 : Slot) (hy3 : one1 y3 = true) (w : Int32 × St), f_rebuildChain_147 n k x1 x2 x4 x5 s = some w → Ev (GG g) M_rebuildChain 147 [.val (.ref o), .val (.int x1), .val (.int x2), y3, .val (.int x4), .val (.int x5)] [] (K s) ((some (.int w.1)), (K w.2)) := by
  induction k with
  | zero => intro x1 x2 x4 x5 s y3 hy3 w hr; rw [f_rebuildChain_147] at hr; cases hr
  | succ k ih =>
    intro x1 x2 x4 x5 s y3 hy3 w hr
    rw [f_rebuildChain_147] at hr
    refine Ev.iload (d50 81 rfl) rfl ?_
    refine Ev.aloadN (d50 82 rfl) rfl ?_
    refine Ev.gI V (ww hw 204 rfl) (d50 83 rfl) (j := 43) rfl rfl ?_
    refine Ev.icge (t := 213) (d50 84 rfl) rfl (fun c1 => ?_) (fun c1 => ?_)
    · replace hr := own_ip c1 hr
      refine Ev.iload (d50 85 rfl) rfl ?_
      refine Ev.bipush (z := 16) (d50 86 rfl) rfl ?_
      refine Ev.icge (t := 213) (d50 87 rfl) rfl (fun c2 => ?_) (fun c2 => ?_)
      · replace hr := own_ip c2 hr
        refine Ev.aloadN (d50 88 rfl) rfl ?_
        refine Ev.gAr V (ww hw 59 rfl) (d50 89 rfl) (j := 24) rfl ?_
        refine Ev.iload (d50 90 rfl) rfl ?_
        obtain ⟨b3, hr⟩ := grd_some hr
        refine Ev.bal V (j := 24) rfl rfl (d50 91 rfl) b3 ?_
        refine Ev.ifeq (t := 176) (d50 92 rfl) rfl (fun c4 => ?_) (fun c4 => ?_)
        · replace hr := own_ip c4 hr
          refine Ev.iload (d50 94 rfl) rfl ?_
          refine Ev.ifge (t := 191) (d50 95 rfl) rfl (fun c5 => ?_) (fun c5 => ?_)
          · replace hr := own_ip c5 hr
            refine Ev.aloadN (d50 96 rfl) rfl ?_
            refine Ev.gAr V (ww hw 54 rfl) (d50 97 rfl) (j := 22) rfl ?_
            refine Ev.iload (d50 98 rfl) rfl ?_
            refine Ev.ial V (j := 22) rfl rfl (d50 99 rfl) b3 ?_
            refine Ev.goto (t := 205) (d50 100 rfl) rfl ?_
            exact e_rebuildChain_205 hw V ih x1 x2 x5 (s.2 22 (ix x5)) s y3 hy3 (.val (.int x4)) rfl _ hr
          · replace hr := own_iq c5 hr
            refine Ev.aloadN (d50 101 rfl) rfl ?_
            refine Ev.iloadN (d50 102 rfl) rfl ?_
            refine Ev.iload (d50 103 rfl) rfl ?_
            refine Ev.aloadN (d50 104 rfl) rfl ?_
            refine Ev.gAr V (ww hw 54 rfl) (d50 105 rfl) (j := 22) rfl ?_
            refine Ev.iload (d50 106 rfl) rfl ?_
            refine Ev.ial V (j := 22) rfl rfl (d50 107 rfl) b3 ?_
            obtain ⟨q6, hq7, hr⟩ := Option.bind_eq_some_iff.mp hr
            refine Ev.priv (y := M_makeBin) (args := [.int x1, .int x4, .int (s.2 22 (ix x5))]) (rest := []) (gok hw) rfl nm_makeBin (ww hw 256 rfl) (ww hw 257 rfl) (ww hw 258 rfl) (ww hw 259 rfl) (lenOf pd_makeBin rfl) (d50 108 rfl) (V.2.1 s) (e_makeBin hw V hq7) (by decide) (Nat.le_of_ble_eq_true rfl) rfl ?_
            exact e_rebuildChain_205 hw V ih x1 x2 x5 q6.1 q6.2 y3 hy3 (.val (.int x4)) rfl _ hr
        · replace hr := own_iq c4 hr
          refine Ev.goto (t := 207) (d50 93 rfl) rfl ?_
          refine Ev.iinc (z := 1) (L' := [.val (.ref o), .val (.int x1), .val (.int x2), y3, .val (.int x4), .val (.int (x5 + (1 : Int32)))]) (d50 110 rfl) rfl rfl rfl ?_
          refine Ev.goto (t := 147) (d50 111 rfl) rfl ?_
          exact ih x1 x2 x4 (x5 + (1 : Int32)) s y3 hy3 _ hr
      · replace hr := own_iq c2 hr
        exact e_rebuildChain_213 hw V  x2 x4 s (.val (.int x1)) rfl y3 hy3 (.val (.int x5)) rfl _ hr
    · replace hr := own_iq c1 hr
      exact e_rebuildChain_213 hw V  x2 x4 s (.val (.int x1)) rfl y3 hy3 (.val (.int x5)) rfl _ hr
def f_rebuildChain_144 (n : Nat) (x1 x2 x4 : Int32) (s : St) : Option (Int32 × St) :=
  f_rebuildChain_147 n n x1 x2 x4 (0 : Int32) s
set_option maxRecDepth 100000 in
theorem e_rebuildChain_144 {g : GT} {n : Nat} (hw : HW g) {K : St → MHeap} {o : Nat} {r : Nat → Nat} (V : View (GG g) Ln K o r) (x1 x2 x4 : Int32) (s : St) (y3 : Slot) (hy3 : one1 y3 = true) (y5 : Slot) (hy5 : one1 y5 = true) (w : Int32 × St) (hr : f_rebuildChain_144 n x1 x2 x4 s = some w) : Ev (GG g) M_rebuildChain 144 [.val (.ref o), .val (.int x1), .val (.int x2), y3, .val (.int x4), y5] [] (K s) ((some (.int w.1)), (K w.2)) := by
  unfold f_rebuildChain_144 at hr
  refine Ev.iconst (z := 0) (d50 79 rfl) rfl ?_
  refine Ev.istD (L' := [.val (.ref o), .val (.int x1), .val (.int x2), y3, .val (.int x4), .val (.int (0 : Int32))]) (d50 80 rfl) rfl hy5 rfl ?_
  exact e_rebuildChain_147 hw V  n x1 x2 x4 (0 : Int32) s y3 hy3 _ hr
def f_rebuildChain_129 (n : Nat) (x1 x2 x3 : Int32) (s : St) : Option (Int32 × St) :=
  if x3 = x2 then
    f_rebuildChain_144 n x1 x2 (-1 : Int32) s
  else
    (f_makeConst n x3 s).bind fun q2 =>
    f_rebuildChain_144 n x1 x2 q2.1 q2.2
set_option maxRecDepth 100000 in
theorem e_rebuildChain_129 {g : GT} {n : Nat} (hw : HW g) {K : St → MHeap} {o : Nat} {r : Nat → Nat} (V : View (GG g) Ln K o r) (x1 x2 x3 : Int32) (s : St) (y4 : Slot) (hy4 : one1 y4 = true) (y5 : Slot) (hy5 : one1 y5 = true) (w : Int32 × St) (hr : f_rebuildChain_129 n x1 x2 x3 s = some w) : Ev (GG g) M_rebuildChain 129 [.val (.ref o), .val (.int x1), .val (.int x2), .val (.int x3), y4, y5] [] (K s) ((some (.int w.1)), (K w.2)) := by
  unfold f_rebuildChain_129 at hr
  refine Ev.iconst (z := -1) (d50 70 rfl) rfl ?_
  refine Ev.istD (L' := [.val (.ref o), .val (.int x1), .val (.int x2), .val (.int x3), .val (.int (-1 : Int32)), y5]) (d50 71 rfl) rfl hy4 rfl ?_
  refine Ev.iloadN (d50 72 rfl) rfl ?_
  refine Ev.iloadN (d50 73 rfl) rfl ?_
  refine Ev.iceq (t := 144) (d50 74 rfl) rfl (fun c1 => ?_) (fun c1 => ?_)
  · replace hr := own_ip c1 hr
    exact e_rebuildChain_144 hw V  x1 x2 (-1 : Int32) s (.val (.int x3)) rfl y5 hy5 _ hr
  · replace hr := own_iq c1 hr
    refine Ev.aloadN (d50 75 rfl) rfl ?_
    refine Ev.iloadN (d50 76 rfl) rfl ?_
    obtain ⟨q2, hq3, hr⟩ := Option.bind_eq_some_iff.mp hr
    refine Ev.priv (y := M_makeConst) (args := [.int x3]) (rest := []) (gok hw) rfl nm_makeConst (ww hw 188 rfl) (ww hw 189 rfl) (ww hw 190 rfl) (ww hw 191 rfl) (lenOf pd_makeConst rfl) (d50 77 rfl) (V.2.1 s) (e_makeConst hw V hq3) (by decide) (Nat.le_of_ble_eq_true rfl) rfl ?_
    refine Ev.istD (L' := [.val (.ref o), .val (.int x1), .val (.int x2), .val (.int x3), .val (.int q2.1), y5]) (d50 78 rfl) rfl rfl rfl ?_
    exact e_rebuildChain_144 hw V  x1 x2 q2.1 q2.2 (.val (.int x3)) rfl y5 hy5 _ hr
def f_rebuildChain_124 (n : Nat) (x1 x2 x3 : Int32) (s : St) : Option (Int32 × St) :=
  (f_removeRepeats n (2 : Int32) s).bind fun q1 =>
  f_rebuildChain_129 n x1 x2 x3 q1
set_option maxRecDepth 100000 in
theorem e_rebuildChain_124 {g : GT} {n : Nat} (hw : HW g) {K : St → MHeap} {o : Nat} {r : Nat → Nat} (V : View (GG g) Ln K o r) (x1 x2 x3 : Int32) (s : St) (y4 : Slot) (hy4 : one1 y4 = true) (y5 : Slot) (hy5 : one1 y5 = true) (w : Int32 × St) (hr : f_rebuildChain_124 n x1 x2 x3 s = some w) : Ev (GG g) M_rebuildChain 124 [.val (.ref o), .val (.int x1), .val (.int x2), .val (.int x3), y4, y5] [] (K s) ((some (.int w.1)), (K w.2)) := by
  unfold f_rebuildChain_124 at hr
  refine Ev.aloadN (d50 67 rfl) rfl ?_
  refine Ev.iconst (z := 2) (d50 68 rfl) rfl ?_
  obtain ⟨q1, hq2, hr⟩ := Option.bind_eq_some_iff.mp hr
  refine Ev.priv (y := M_removeRepeats) (args := [.int (2 : Int32)]) (rest := []) (gok hw) rfl nm_removeRepeats (ww hw 248 rfl) (ww hw 249 rfl) (ww hw 250 rfl) (ww hw 251 rfl) (lenOf pd_removeRepeats rfl) (d50 69 rfl) (V.2.1 s) (e_removeRepeats hw V hq2) (by decide) (Nat.le_of_ble_eq_true rfl) rfl ?_
  exact e_rebuildChain_129 hw V  x1 x2 x3 q1 y4 hy4 y5 hy5 _ hr
def f_rebuildChain_98 (n : Nat) (x1 x2 x3 : Int32) (s : St) : Option (Int32 × St) :=
  if x1 = (9 : Int32) then
    (f_removeRepeats n (1 : Int32) s).bind fun q2 =>
    f_rebuildChain_129 n x1 x2 x3 q2
  else
    if x1 = (7 : Int32) then
      f_rebuildChain_124 n x1 x2 x3 s
    else
      if x1 = (8 : Int32) then
        f_rebuildChain_124 n x1 x2 x3 s
      else
        f_rebuildChain_129 n x1 x2 x3 s
set_option maxRecDepth 100000 in
theorem e_rebuildChain_98 {g : GT} {n : Nat} (hw : HW g) {K : St → MHeap} {o : Nat} {r : Nat → Nat} (V : View (GG g) Ln K o r) (x1 x2 x3 : Int32) (s : St) (y4 : Slot) (hy4 : one1 y4 = true) (y5 : Slot) (hy5 : one1 y5 = true) (w : Int32 × St) (hr : f_rebuildChain_98 n x1 x2 x3 s = some w) : Ev (GG g) M_rebuildChain 98 [.val (.ref o), .val (.int x1), .val (.int x2), .val (.int x3), y4, y5] [] (K s) ((some (.int w.1)), (K w.2)) := by
  unfold f_rebuildChain_98 at hr
  refine Ev.iloadN (d50 54 rfl) rfl ?_
  refine Ev.bipush (z := 9) (d50 55 rfl) rfl ?_
  refine Ev.icne (t := 112) (d50 56 rfl) rfl (fun c1 => ?_) (fun c1 => ?_)
  · replace hr := own_ip c1 hr
    refine Ev.aloadN (d50 57 rfl) rfl ?_
    refine Ev.iconst (z := 1) (d50 58 rfl) rfl ?_
    obtain ⟨q2, hq3, hr⟩ := Option.bind_eq_some_iff.mp hr
    refine Ev.priv (y := M_removeRepeats) (args := [.int (1 : Int32)]) (rest := []) (gok hw) rfl nm_removeRepeats (ww hw 248 rfl) (ww hw 249 rfl) (ww hw 250 rfl) (ww hw 251 rfl) (lenOf pd_removeRepeats rfl) (d50 59 rfl) (V.2.1 s) (e_removeRepeats hw V hq3) (by decide) (Nat.le_of_ble_eq_true rfl) rfl ?_
    refine Ev.goto (t := 129) (d50 60 rfl) rfl ?_
    exact e_rebuildChain_129 hw V  x1 x2 x3 q2 y4 hy4 y5 hy5 _ hr
  · replace hr := own_iq c1 hr
    refine Ev.iloadN (d50 61 rfl) rfl ?_
    refine Ev.bipush (z := 7) (d50 62 rfl) rfl ?_
    refine Ev.iceq (t := 124) (d50 63 rfl) rfl (fun c4 => ?_) (fun c4 => ?_)
    · replace hr := own_ip c4 hr
      exact e_rebuildChain_124 hw V  x1 x2 x3 s y4 hy4 y5 hy5 _ hr
    · replace hr := own_iq c4 hr
      refine Ev.iloadN (d50 64 rfl) rfl ?_
      refine Ev.bipush (z := 8) (d50 65 rfl) rfl ?_
      refine Ev.icne (t := 129) (d50 66 rfl) rfl (fun c5 => ?_) (fun c5 => ?_)
      · replace hr := own_ip c5 hr
        exact e_rebuildChain_124 hw V  x1 x2 x3 s y4 hy4 y5 hy5 _ hr
      · replace hr := own_iq c5 hr
        exact e_rebuildChain_129 hw V  x1 x2 x3 s y4 hy4 y5 hy5 _ hr
def f_rebuildChain_77 (n : Nat) (x1 x2 x3 : Int32) (s : St) : Option (Int32 × St) :=
  if x1 = (9 : Int32) then
    f_rebuildChain_98 n x1 x2 x3 s
  else
    (f_absorberOf s x1).bind fun q2 =>
    if x3 = q2 then
      (f_makeConst n x3 s).bind fun q5 =>
      some (q5.1, q5.2)
    else
      f_rebuildChain_98 n x1 x2 x3 s
set_option maxRecDepth 100000 in
theorem e_rebuildChain_77 {g : GT} {n : Nat} (hw : HW g) {K : St → MHeap} {o : Nat} {r : Nat → Nat} (V : View (GG g) Ln K o r) (x1 x2 x3 : Int32) (s : St) (y4 : Slot) (hy4 : one1 y4 = true) (y5 : Slot) (hy5 : one1 y5 = true) (w : Int32 × St) (hr : f_rebuildChain_77 n x1 x2 x3 s = some w) : Ev (GG g) M_rebuildChain 77 [.val (.ref o), .val (.int x1), .val (.int x2), .val (.int x3), y4, y5] [] (K s) ((some (.int w.1)), (K w.2)) := by
  unfold f_rebuildChain_77 at hr
  refine Ev.iloadN (d50 42 rfl) rfl ?_
  refine Ev.bipush (z := 9) (d50 43 rfl) rfl ?_
  refine Ev.iceq (t := 98) (d50 44 rfl) rfl (fun c1 => ?_) (fun c1 => ?_)
  · replace hr := own_ip c1 hr
    exact e_rebuildChain_98 hw V  x1 x2 x3 s y4 hy4 y5 hy5 _ hr
  · replace hr := own_iq c1 hr
    refine Ev.iloadN (d50 45 rfl) rfl ?_
    refine Ev.aloadN (d50 46 rfl) rfl ?_
    refine Ev.iloadN (d50 47 rfl) rfl ?_
    obtain ⟨q2, hq3, hr⟩ := Option.bind_eq_some_iff.mp hr
    refine Ev.priv (y := M_absorberOf) (args := [.int x1]) (rest := [.int x3]) (gok hw) rfl nm_absorberOf (ww hw 308 rfl) (ww hw 309 rfl) (ww hw 310 rfl) (ww hw 311 rfl) (lenOf pd_absorberOf rfl) (d50 48 rfl) (V.2.1 s) (e_absorberOf hw V hq3) (by decide) (Nat.le_of_ble_eq_true rfl) rfl ?_
    refine Ev.icne (t := 98) (d50 49 rfl) rfl (fun c4 => ?_) (fun c4 => ?_)
    · replace hr := own_ip c4 hr
      refine Ev.aloadN (d50 50 rfl) rfl ?_
      refine Ev.iloadN (d50 51 rfl) rfl ?_
      obtain ⟨q5, hq6, hr⟩ := Option.bind_eq_some_iff.mp hr
      refine Ev.priv (y := M_makeConst) (args := [.int x3]) (rest := []) (gok hw) rfl nm_makeConst (ww hw 188 rfl) (ww hw 189 rfl) (ww hw 190 rfl) (ww hw 191 rfl) (lenOf pd_makeConst rfl) (d50 52 rfl) (V.2.1 s) (e_makeConst hw V hq6) (by decide) (Nat.le_of_ble_eq_true rfl) rfl ?_
      cases hr
      exact Ev.ireturn rfl (d50 53 rfl)
    · replace hr := own_iq c4 hr
      exact e_rebuildChain_98 hw V  x1 x2 x3 s y4 hy4 y5 hy5 _ hr
def f_rebuildChain_11 (n : Nat) : Nat → Int32 → Int32 → Int32 → Int32 → St → Option (Int32 × St)
  | 0 => fun _ _ _ _ _ => none
  | k + 1 => fun x1 x2 x3 x4 s =>
    if x4 < (s.1 43) then
      if x4 < (16 : Int32) then
        grd (inb x4 16) <|
        (f_isConst s (s.2 22 (ix x4))).bind fun q4 =>
        if q4 = 0 then
          f_rebuildChain_11 n k x1 x2 x3 (x4 + (1 : Int32)) s
        else
          (f_constOf s (s.2 22 (ix x4))).bind fun q7 =>
          (f_fold s x1 x3 q7).bind fun q9 =>
          bnd (setA s 24 (ix x4) ((1 : Int32) &&& 1)) fun s11 =>
          f_rebuildChain_11 n k x1 x2 q9 (x4 + (1 : Int32)) s11
      else
        f_rebuildChain_77 n x1 x2 x3 s
    else
      f_rebuildChain_77 n x1 x2 x3 s
set_option maxRecDepth 100000 in
theorem e_rebuildChain_11 {g : GT} {n : Nat} (hw : HW g) {K : St → MHeap} {o : Nat} {r : Nat → Nat} (V : View (GG g) Ln K o r) (k : Nat) : ∀ (x1 x2 x3 x4 : Int32) (s : St) (y5 : Slot) (hy5 : one1 y5 = true) (w : Int32 × St), f_rebuildChain_11 n k x1 x2 x3 x4 s = some w → Ev (GG g) M_rebuildChain 11 [.val (.ref o), .val (.int x1), .val (.int x2), .val (.int x3), .val (.int x4), y5] [] (K s) ((some (.int w.1)), (K w.2)) := by
  induction k with
  | zero => intro x1 x2 x3 x4 s y5 hy5 w hr; rw [f_rebuildChain_11] at hr; cases hr
  | succ k ih =>
    intro x1 x2 x3 x4 s y5 hy5 w hr
    rw [f_rebuildChain_11] at hr
    refine Ev.iload (d50 8 rfl) rfl ?_
    refine Ev.aloadN (d50 9 rfl) rfl ?_
    refine Ev.gI V (ww hw 204 rfl) (d50 10 rfl) (j := 43) rfl rfl ?_
    refine Ev.icge (t := 77) (d50 11 rfl) rfl (fun c1 => ?_) (fun c1 => ?_)
    · replace hr := own_ip c1 hr
      refine Ev.iload (d50 12 rfl) rfl ?_
      refine Ev.bipush (z := 16) (d50 13 rfl) rfl ?_
      refine Ev.icge (t := 77) (d50 14 rfl) rfl (fun c2 => ?_) (fun c2 => ?_)
      · replace hr := own_ip c2 hr
        refine Ev.aloadN (d50 15 rfl) rfl ?_
        refine Ev.aloadN (d50 16 rfl) rfl ?_
        refine Ev.gAr V (ww hw 54 rfl) (d50 17 rfl) (j := 22) rfl ?_
        refine Ev.iload (d50 18 rfl) rfl ?_
        obtain ⟨b3, hr⟩ := grd_some hr
        refine Ev.ial V (j := 22) rfl rfl (d50 19 rfl) b3 ?_
        obtain ⟨q4, hq5, hr⟩ := Option.bind_eq_some_iff.mp hr
        refine Ev.priv (y := M_isConst) (args := [.int (s.2 22 (ix x4))]) (rest := []) (gok hw) rfl nm_isConst (ww hw 244 rfl) (ww hw 245 rfl) (ww hw 246 rfl) (ww hw 247 rfl) (lenOf pd_isConst rfl) (d50 20 rfl) (V.2.1 s) (e_isConst hw V hq5) (by decide) (Nat.le_of_ble_eq_true rfl) rfl ?_
        refine Ev.ifeq (t := 71) (d50 21 rfl) rfl (fun c6 => ?_) (fun c6 => ?_)
        · replace hr := own_ip c6 hr
          refine Ev.iinc (z := 1) (L' := [.val (.ref o), .val (.int x1), .val (.int x2), .val (.int x3), .val (.int (x4 + (1 : Int32))), y5]) (d50 40 rfl) rfl rfl rfl ?_
          refine Ev.goto (t := 11) (d50 41 rfl) rfl ?_
          exact ih x1 x2 x3 (x4 + (1 : Int32)) s y5 hy5 _ hr
        · replace hr := own_iq c6 hr
          refine Ev.aloadN (d50 22 rfl) rfl ?_
          refine Ev.aloadN (d50 23 rfl) rfl ?_
          refine Ev.gAr V (ww hw 54 rfl) (d50 24 rfl) (j := 22) rfl ?_
          refine Ev.iload (d50 25 rfl) rfl ?_
          refine Ev.ial V (j := 22) rfl rfl (d50 26 rfl) b3 ?_
          obtain ⟨q7, hq8, hr⟩ := Option.bind_eq_some_iff.mp hr
          refine Ev.priv (y := M_constOf) (args := [.int (s.2 22 (ix x4))]) (rest := []) (gok hw) rfl nm_constOf (ww hw 288 rfl) (ww hw 289 rfl) (ww hw 290 rfl) (ww hw 291 rfl) (lenOf pd_constOf rfl) (d50 27 rfl) (V.2.1 s) (e_constOf hw V hq8) (by decide) (Nat.le_of_ble_eq_true rfl) rfl ?_
          refine Ev.istD (L' := [.val (.ref o), .val (.int x1), .val (.int x2), .val (.int x3), .val (.int x4), .val (.int q7)]) (d50 28 rfl) rfl hy5 rfl ?_
          refine Ev.aloadN (d50 29 rfl) rfl ?_
          refine Ev.iloadN (d50 30 rfl) rfl ?_
          refine Ev.iloadN (d50 31 rfl) rfl ?_
          refine Ev.iload (d50 32 rfl) rfl ?_
          obtain ⟨q9, hq10, hr⟩ := Option.bind_eq_some_iff.mp hr
          refine Ev.priv (y := M_fold) (args := [.int x1, .int x3, .int q7]) (rest := []) (gok hw) rfl nm_fold (ww hw 346 rfl) (ww hw 347 rfl) (ww hw 348 rfl) (ww hw 349 rfl) (lenOf pd_fold rfl) (d50 33 rfl) (V.2.1 s) (e_fold hw V hq10) (by decide) (Nat.le_of_ble_eq_true rfl) rfl ?_
          refine Ev.istDN (L' := [.val (.ref o), .val (.int x1), .val (.int x2), .val (.int q9), .val (.int x4), .val (.int q7)]) (d50 34 rfl) rfl rfl rfl ?_
          refine Ev.aloadN (d50 35 rfl) rfl ?_
          refine Ev.gAr V (ww hw 59 rfl) (d50 36 rfl) (j := 24) rfl ?_
          refine Ev.iload (d50 37 rfl) rfl ?_
          refine Ev.iconst (z := 1) (d50 38 rfl) rfl ?_
          refine Ev.bas V (j := 24) rfl rfl (d50 39 rfl) b3 ?_
          revert hr
          generalize setA s 24 (ix x4) ((1 : Int32) &&& 1) = s11
          intro hr
          replace hr := (bnd_eq _ _).symm.trans hr
          refine Ev.iinc (z := 1) (L' := [.val (.ref o), .val (.int x1), .val (.int x2), .val (.int q9), .val (.int (x4 + (1 : Int32))), .val (.int q7)]) (d50 40 rfl) rfl rfl rfl ?_
          refine Ev.goto (t := 11) (d50 41 rfl) rfl ?_
          exact ih x1 x2 q9 (x4 + (1 : Int32)) s11 (.val (.int q7)) rfl _ hr
      · replace hr := own_iq c2 hr
        exact e_rebuildChain_77 hw V  x1 x2 x3 s (.val (.int x4)) rfl y5 hy5 _ hr
    · replace hr := own_iq c1 hr
      exact e_rebuildChain_77 hw V  x1 x2 x3 s (.val (.int x4)) rfl y5 hy5 _ hr
def f_rebuildChain (n : Nat) (a0 : Int32) (s : St) : Option (Int32 × St) :=
  (f_identityOf s a0).bind fun q1 =>
  f_rebuildChain_11 n n a0 q1 q1 (0 : Int32) s
set_option maxRecDepth 100000 in
theorem e_rebuildChain {g : GT} {n : Nat} {a0 : Int32} {s : St} {w : Int32 × St} (hw : HW g) {K : St → MHeap} {o : Nat} {r : Nat → Nat} (V : View (GG g) Ln K o r) (hr : f_rebuildChain n a0 s = some w) : EvC (GG g) M_rebuildChain [.ref o, .int a0] (K s) ((some (.int w.1)), (K w.2)) := by
  refine EvC.enter (L0 := [.val (.ref o), .val (.int a0), .unset, .unset, .unset, .unset]) pl_rebuildChain (fun h => nomatch h) rfl rfl ?_
  unfold f_rebuildChain at hr
  refine Ev.aloadN (d50 0 rfl) rfl ?_
  refine Ev.iloadN (d50 1 rfl) rfl ?_
  obtain ⟨q1, hq2, hr⟩ := Option.bind_eq_some_iff.mp hr
  refine Ev.priv (y := M_identityOf) (args := [.int a0]) (rest := []) (gok hw) rfl nm_identityOf (ww hw 304 rfl) (ww hw 305 rfl) (ww hw 306 rfl) (ww hw 307 rfl) (lenOf pd_identityOf rfl) (d50 2 rfl) (V.2.1 s) (e_identityOf hw V hq2) (by decide) (Nat.le_of_ble_eq_true rfl) rfl ?_
  refine Ev.istDN (L' := [.val (.ref o), .val (.int a0), .val (.int q1), .unset, .unset, .unset]) (d50 3 rfl) rfl rfl rfl ?_
  refine Ev.iloadN (d50 4 rfl) rfl ?_
  refine Ev.istDN (L' := [.val (.ref o), .val (.int a0), .val (.int q1), .val (.int q1), .unset, .unset]) (d50 5 rfl) rfl rfl rfl ?_
  refine Ev.iconst (z := 0) (d50 6 rfl) rfl ?_
  refine Ev.istD (L' := [.val (.ref o), .val (.int a0), .val (.int q1), .val (.int q1), .val (.int (0 : Int32)), .unset]) (d50 7 rfl) rfl rfl rfl ?_
  exact e_rebuildChain_11 hw V  n a0 q1 q1 (0 : Int32) s .unset rfl _ hr
def f_buildValue_101 (n : Nat) (x4 : Int32) (s : St) : Option (Int32 × St) :=
  (f_sortLeaves n s).bind fun q1 =>
  if x4 = (4 : Int32) then
    (f_rebuildSum n q1).bind fun q4 =>
    some (q4.1, q4.2)
  else
    (f_rebuildChain n x4 q1).bind fun q6 =>
    some (q6.1, q6.2)
set_option maxRecDepth 100000 in
theorem e_buildValue_101 {g : GT} {n : Nat} (hw : HW g) {K : St → MHeap} {o : Nat} {r : Nat → Nat} (V : View (GG g) Ln K o r) (x4 : Int32) (s : St) (y1 : Slot) (hy1 : one1 y1 = true) (y2 : Slot) (hy2 : one1 y2 = true) (y3 : Slot) (hy3 : one1 y3 = true) (w : Int32 × St) (hr : f_buildValue_101 n x4 s = some w) : Ev (GG g) M_buildValue 101 [.val (.ref o), y1, y2, y3, .val (.int x4)] [] (K s) ((some (.int w.1)), (K w.2)) := by
  unfold f_buildValue_101 at hr
  refine Ev.aloadN (d17 67 rfl) rfl ?_
  obtain ⟨q1, hq2, hr⟩ := Option.bind_eq_some_iff.mp hr
  refine Ev.priv (y := M_sortLeaves) (args := []) (rest := []) (gok hw) rfl nm_sortLeaves (ww hw 228 rfl) (ww hw 229 rfl) (ww hw 230 rfl) (ww hw 231 rfl) (lenOf pd_sortLeaves rfl) (d17 68 rfl) (V.2.1 s) (e_sortLeaves hw V hq2) (by decide) (Nat.le_of_ble_eq_true rfl) rfl ?_
  refine Ev.iload (d17 69 rfl) rfl ?_
  refine Ev.iconst (z := 4) (d17 70 rfl) rfl ?_
  refine Ev.icne (t := 116) (d17 71 rfl) rfl (fun c3 => ?_) (fun c3 => ?_)
  · replace hr := own_ip c3 hr
    refine Ev.aloadN (d17 72 rfl) rfl ?_
    obtain ⟨q4, hq5, hr⟩ := Option.bind_eq_some_iff.mp hr
    refine Ev.priv (y := M_rebuildSum) (args := []) (rest := []) (gok hw) rfl nm_rebuildSum (ww hw 240 rfl) (ww hw 241 rfl) (ww hw 242 rfl) (ww hw 243 rfl) (lenOf pd_rebuildSum rfl) (d17 73 rfl) (V.2.1 q1) (e_rebuildSum hw V hq5) (by decide) (Nat.le_of_ble_eq_true rfl) rfl ?_
    cases hr
    exact Ev.ireturn rfl (d17 74 rfl)
  · replace hr := own_iq c3 hr
    refine Ev.aloadN (d17 75 rfl) rfl ?_
    refine Ev.iload (d17 76 rfl) rfl ?_
    obtain ⟨q6, hq7, hr⟩ := Option.bind_eq_some_iff.mp hr
    refine Ev.priv (y := M_rebuildChain) (args := [.int x4]) (rest := []) (gok hw) rfl nm_rebuildChain (ww hw 300 rfl) (ww hw 301 rfl) (ww hw 302 rfl) (ww hw 303 rfl) (lenOf pd_rebuildChain rfl) (d17 77 rfl) (V.2.1 q1) (e_rebuildChain hw V hq7) (by decide) (Nat.le_of_ble_eq_true rfl) rfl ?_
    cases hr
    exact Ev.ireturn rfl (d17 78 rfl)
def f_buildValue (n : Nat) (a0 : Int32) (s : St) : Option (Int32 × St) :=
  grd (inb a0 32) <|
  if (s.2 0 (ix a0)) = (1 : Int32) then
    (f_makeConst n (s.2 1 (ix a0)) s).bind fun q3 =>
    some (q3.1, q3.2)
  else
    if (s.2 0 (ix a0)) = (2 : Int32) then
      (f_makeLeaf n (2 : Int32) ((s.2 1 (ix a0)) &&& (7 : Int32)) (0 : Int32) (1 : Int32) s).bind fun q6 =>
      some (q6.1, q6.2)
    else
      if (s.2 0 (ix a0)) = (3 : Int32) then
        bnd (((2 : Int32) + ((s.1 42) * (64 : Int32))) + a0) fun v9 =>
        grd (inb ((s.2 1 (ix a0)) &&& (3 : Int32)) 4) <|
        (f_makeLeaf n (3 : Int32) ((s.2 1 (ix a0)) &&& (3 : Int32)) (s.2 19 (ix ((s.2 1 (ix a0)) &&& (3 : Int32)))) v9 s).bind fun q11 =>
        some (q11.1, q11.2)
      else
        (f_familyOf s (s.2 0 (ix a0))).bind fun q13 =>
        (f_flatten n a0 q13 s).bind fun q15 =>
        if q15.1 = 0 then
          none
        else
          f_buildValue_101 n q13 q15.2
set_option maxRecDepth 100000 in
theorem e_buildValue {g : GT} {n : Nat} {a0 : Int32} {s : St} {w : Int32 × St} (hw : HW g) {K : St → MHeap} {o : Nat} {r : Nat → Nat} (V : View (GG g) Ln K o r) (hr : f_buildValue n a0 s = some w) : EvC (GG g) M_buildValue [.ref o, .int a0] (K s) ((some (.int w.1)), (K w.2)) := by
  refine EvC.enter (L0 := [.val (.ref o), .val (.int a0), .unset, .unset, .unset]) pl_buildValue (fun h => nomatch h) rfl rfl ?_
  unfold f_buildValue at hr
  refine Ev.aloadN (d17 0 rfl) rfl ?_
  refine Ev.gAr V (ww hw 10 rfl) (d17 1 rfl) (j := 0) rfl ?_
  refine Ev.iloadN (d17 2 rfl) rfl ?_
  obtain ⟨b1, hr⟩ := grd_some hr
  refine Ev.ial V (j := 0) rfl rfl (d17 3 rfl) b1 ?_
  refine Ev.istDN (L' := [.val (.ref o), .val (.int a0), .val (.int (s.2 0 (ix a0))), .unset, .unset]) (d17 4 rfl) rfl rfl rfl ?_
  refine Ev.aloadN (d17 5 rfl) rfl ?_
  refine Ev.gAr V (ww hw 12 rfl) (d17 6 rfl) (j := 1) rfl ?_
  refine Ev.iloadN (d17 7 rfl) rfl ?_
  refine Ev.ial V (j := 1) rfl rfl (d17 8 rfl) b1 ?_
  refine Ev.istDN (L' := [.val (.ref o), .val (.int a0), .val (.int (s.2 0 (ix a0))), .val (.int (s.2 1 (ix a0))), .unset]) (d17 9 rfl) rfl rfl rfl ?_
  refine Ev.iloadN (d17 10 rfl) rfl ?_
  refine Ev.iconst (z := 1) (d17 11 rfl) rfl ?_
  refine Ev.icne (t := 25) (d17 12 rfl) rfl (fun c2 => ?_) (fun c2 => ?_)
  · replace hr := own_ip c2 hr
    refine Ev.aloadN (d17 13 rfl) rfl ?_
    refine Ev.iloadN (d17 14 rfl) rfl ?_
    obtain ⟨q3, hq4, hr⟩ := Option.bind_eq_some_iff.mp hr
    refine Ev.priv (y := M_makeConst) (args := [.int (s.2 1 (ix a0))]) (rest := []) (gok hw) rfl nm_makeConst (ww hw 188 rfl) (ww hw 189 rfl) (ww hw 190 rfl) (ww hw 191 rfl) (lenOf pd_makeConst rfl) (d17 15 rfl) (V.2.1 s) (e_makeConst hw V hq4) (by decide) (Nat.le_of_ble_eq_true rfl) rfl ?_
    cases hr
    exact Ev.ireturn rfl (d17 16 rfl)
  · replace hr := own_iq c2 hr
    refine Ev.iloadN (d17 17 rfl) rfl ?_
    refine Ev.iconst (z := 2) (d17 18 rfl) rfl ?_
    refine Ev.icne (t := 42) (d17 19 rfl) rfl (fun c5 => ?_) (fun c5 => ?_)
    · replace hr := own_ip c5 hr
      refine Ev.aloadN (d17 20 rfl) rfl ?_
      refine Ev.iconst (z := 2) (d17 21 rfl) rfl ?_
      refine Ev.iloadN (d17 22 rfl) rfl ?_
      refine Ev.bipush (z := 7) (d17 23 rfl) rfl ?_
      refine Ev.iand (d17 24 rfl) ?_
      refine Ev.iconst (z := 0) (d17 25 rfl) rfl ?_
      refine Ev.iconst (z := 1) (d17 26 rfl) rfl ?_
      obtain ⟨q6, hq7, hr⟩ := Option.bind_eq_some_iff.mp hr
      refine Ev.priv (y := M_makeLeaf) (args := [.int (2 : Int32), .int ((s.2 1 (ix a0)) &&& (7 : Int32)), .int (0 : Int32), .int (1 : Int32)]) (rest := []) (gok hw) rfl nm_makeLeaf (ww hw 164 rfl) (ww hw 165 rfl) (ww hw 166 rfl) (ww hw 167 rfl) (lenOf pd_makeLeaf rfl) (d17 27 rfl) (V.2.1 s) (e_makeLeaf hw V hq7) (by decide) (Nat.le_of_ble_eq_true rfl) rfl ?_
      cases hr
      exact Ev.ireturn rfl (d17 28 rfl)
    · replace hr := own_iq c5 hr
      refine Ev.iloadN (d17 29 rfl) rfl ?_
      refine Ev.iconst (z := 3) (d17 30 rfl) rfl ?_
      refine Ev.icne (t := 79) (d17 31 rfl) rfl (fun c8 => ?_) (fun c8 => ?_)
      · replace hr := own_ip c8 hr
        refine Ev.iconst (z := 2) (d17 32 rfl) rfl ?_
        refine Ev.aloadN (d17 33 rfl) rfl ?_
        refine Ev.gI V (ww hw 150 rfl) (d17 34 rfl) (j := 42) rfl rfl ?_
        refine Ev.bipush (z := 64) (d17 35 rfl) rfl ?_
        refine Ev.imul (d17 36 rfl) ?_
        refine Ev.iadd (d17 37 rfl) ?_
        refine Ev.iloadN (d17 38 rfl) rfl ?_
        refine Ev.iadd (d17 39 rfl) ?_
        revert hr
        generalize (((2 : Int32) + ((s.1 42) * (64 : Int32))) + a0) = v9
        intro hr
        replace hr := (bnd_eq _ _).symm.trans hr
        refine Ev.istD (L' := [.val (.ref o), .val (.int a0), .val (.int (s.2 0 (ix a0))), .val (.int (s.2 1 (ix a0))), .val (.int v9)]) (d17 40 rfl) rfl rfl rfl ?_
        refine Ev.aloadN (d17 41 rfl) rfl ?_
        refine Ev.iconst (z := 3) (d17 42 rfl) rfl ?_
        refine Ev.iloadN (d17 43 rfl) rfl ?_
        refine Ev.iconst (z := 3) (d17 44 rfl) rfl ?_
        refine Ev.iand (d17 45 rfl) ?_
        refine Ev.aloadN (d17 46 rfl) rfl ?_
        refine Ev.gAr V (ww hw 48 rfl) (d17 47 rfl) (j := 19) rfl ?_
        refine Ev.iloadN (d17 48 rfl) rfl ?_
        refine Ev.iconst (z := 3) (d17 49 rfl) rfl ?_
        refine Ev.iand (d17 50 rfl) ?_
        obtain ⟨b10, hr⟩ := grd_some hr
        refine Ev.ial V (j := 19) rfl rfl (d17 51 rfl) b10 ?_
        refine Ev.iload (d17 52 rfl) rfl ?_
        obtain ⟨q11, hq12, hr⟩ := Option.bind_eq_some_iff.mp hr
        refine Ev.priv (y := M_makeLeaf) (args := [.int (3 : Int32), .int ((s.2 1 (ix a0)) &&& (3 : Int32)), .int (s.2 19 (ix ((s.2 1 (ix a0)) &&& (3 : Int32)))), .int v9]) (rest := []) (gok hw) rfl nm_makeLeaf (ww hw 164 rfl) (ww hw 165 rfl) (ww hw 166 rfl) (ww hw 167 rfl) (lenOf pd_makeLeaf rfl) (d17 53 rfl) (V.2.1 s) (e_makeLeaf hw V hq12) (by decide) (Nat.le_of_ble_eq_true rfl) rfl ?_
        cases hr
        exact Ev.ireturn rfl (d17 54 rfl)
      · replace hr := own_iq c8 hr
        refine Ev.aloadN (d17 55 rfl) rfl ?_
        refine Ev.iloadN (d17 56 rfl) rfl ?_
        obtain ⟨q13, hq14, hr⟩ := Option.bind_eq_some_iff.mp hr
        refine Ev.priv (y := M_familyOf) (args := [.int (s.2 0 (ix a0))]) (rest := []) (gok hw) rfl nm_familyOf (ww hw 196 rfl) (ww hw 197 rfl) (ww hw 198 rfl) (ww hw 199 rfl) (lenOf pd_familyOf rfl) (d17 57 rfl) (V.2.1 s) (e_familyOf hw V hq14) (by decide) (Nat.le_of_ble_eq_true rfl) rfl ?_
        refine Ev.istD (L' := [.val (.ref o), .val (.int a0), .val (.int (s.2 0 (ix a0))), .val (.int (s.2 1 (ix a0))), .val (.int q13)]) (d17 58 rfl) rfl rfl rfl ?_
        refine Ev.aloadN (d17 59 rfl) rfl ?_
        refine Ev.iloadN (d17 60 rfl) rfl ?_
        refine Ev.iload (d17 61 rfl) rfl ?_
        obtain ⟨q15, hq16, hr⟩ := Option.bind_eq_some_iff.mp hr
        refine Ev.priv (y := M_flatten) (args := [.int a0, .int q13]) (rest := []) (gok hw) rfl nm_flatten (ww hw 200 rfl) (ww hw 201 rfl) (ww hw 202 rfl) (ww hw 203 rfl) (lenOf pd_flatten rfl) (d17 62 rfl) (V.2.1 s) (e_flatten hw V hq16) (by decide) (Nat.le_of_ble_eq_true rfl) rfl ?_
        refine Ev.ifne (t := 101) (d17 63 rfl) rfl (fun c17 => ?_) (fun c17 => ?_)
        · replace hr := own_ip c17 hr
          refine Ev.aloadN (d17 64 rfl) rfl ?_
          refine Ev.iloadN (d17 65 rfl) rfl ?_
          cases hr
        · replace hr := own_iq c17 hr
          exact e_buildValue_101 hw V  q13 q15.2 (.val (.int a0)) rfl (.val (.int (s.2 0 (ix a0)))) rfl (.val (.int (s.2 1 (ix a0)))) rfl _ hr
def f_translate (n : Nat) (a0 : Int32) (s : St) : Option (St) :=
  grd (inb a0 32) <|
  if (s.2 0 (ix a0)) = (13 : Int32) then
    (f_enterLoop n a0 s).bind fun q3 =>
    some q3
  else
    if (s.2 0 (ix a0)) = (14 : Int32) then
      (f_leaveLoop n s).bind fun q6 =>
      some q6
    else
      if (s.2 0 (ix a0)) = (11 : Int32) then
        (f_translateSet a0 s).bind fun q9 =>
        some q9
      else
        if (s.2 0 (ix a0)) = (12 : Int32) then
          (f_mapAt s (s.2 1 (ix a0))).bind fun q12 =>
          (f_emit (12 : Int32) q12 (0 : Int32) s).bind fun q14 =>
          some q14.2
        else
          (f_buildValue n a0 s).bind fun q16 =>
          bnd (setA q16.2 17 (ix a0) q16.1) fun s18 =>
          some s18
set_option maxRecDepth 100000 in
theorem e_translate {g : GT} {n : Nat} {a0 : Int32} {s : St} {w : St} (hw : HW g) {K : St → MHeap} {o : Nat} {r : Nat → Nat} (V : View (GG g) Ln K o r) (hr : f_translate n a0 s = some w) : EvC (GG g) M_translate [.ref o, .int a0] (K s) (none, (K w)) := by
  refine EvC.enter (L0 := [.val (.ref o), .val (.int a0), .unset, .unset]) pl_translate (fun _ => rfl) rfl rfl ?_
  unfold f_translate at hr
  refine Ev.aloadN (d16 0 rfl) rfl ?_
  refine Ev.gAr V (ww hw 10 rfl) (d16 1 rfl) (j := 0) rfl ?_
  refine Ev.iloadN (d16 2 rfl) rfl ?_
  obtain ⟨b1, hr⟩ := grd_some hr
  refine Ev.ial V (j := 0) rfl rfl (d16 3 rfl) b1 ?_
  refine Ev.istDN (L' := [.val (.ref o), .val (.int a0), .val (.int (s.2 0 (ix a0))), .unset]) (d16 4 rfl) rfl rfl rfl ?_
  refine Ev.iloadN (d16 5 rfl) rfl ?_
  refine Ev.bipush (z := 13) (d16 6 rfl) rfl ?_
  refine Ev.icne (t := 21) (d16 7 rfl) rfl (fun c2 => ?_) (fun c2 => ?_)
  · replace hr := own_ip c2 hr
    refine Ev.aloadN (d16 8 rfl) rfl ?_
    refine Ev.iloadN (d16 9 rfl) rfl ?_
    obtain ⟨q3, hq4, hr⟩ := Option.bind_eq_some_iff.mp hr
    refine Ev.priv (y := M_enterLoop) (args := [.int a0]) (rest := []) (gok hw) rfl nm_enterLoop (ww hw 192 rfl) (ww hw 193 rfl) (ww hw 194 rfl) (ww hw 195 rfl) (lenOf pd_enterLoop rfl) (d16 10 rfl) (V.2.1 s) (e_enterLoop hw V hq4) (by decide) (Nat.le_of_ble_eq_true rfl) rfl ?_
    refine Ev.goto (t := 88) (d16 11 rfl) rfl ?_
    cases hr
    exact Ev.vreturn rfl (d16 49 rfl)
  · replace hr := own_iq c2 hr
    refine Ev.iloadN (d16 12 rfl) rfl ?_
    refine Ev.bipush (z := 14) (d16 13 rfl) rfl ?_
    refine Ev.icne (t := 34) (d16 14 rfl) rfl (fun c5 => ?_) (fun c5 => ?_)
    · replace hr := own_ip c5 hr
      refine Ev.aloadN (d16 15 rfl) rfl ?_
      obtain ⟨q6, hq7, hr⟩ := Option.bind_eq_some_iff.mp hr
      refine Ev.priv (y := M_leaveLoop) (args := []) (rest := []) (gok hw) rfl nm_leaveLoop (ww hw 296 rfl) (ww hw 297 rfl) (ww hw 298 rfl) (ww hw 299 rfl) (lenOf pd_leaveLoop rfl) (d16 16 rfl) (V.2.1 s) (e_leaveLoop hw V hq7) (by decide) (Nat.le_of_ble_eq_true rfl) rfl ?_
      refine Ev.goto (t := 88) (d16 17 rfl) rfl ?_
      cases hr
      exact Ev.vreturn rfl (d16 49 rfl)
    · replace hr := own_iq c5 hr
      refine Ev.iloadN (d16 18 rfl) rfl ?_
      refine Ev.bipush (z := 11) (d16 19 rfl) rfl ?_
      refine Ev.icne (t := 48) (d16 20 rfl) rfl (fun c8 => ?_) (fun c8 => ?_)
      · replace hr := own_ip c8 hr
        refine Ev.aloadN (d16 21 rfl) rfl ?_
        refine Ev.iloadN (d16 22 rfl) rfl ?_
        obtain ⟨q9, hq10, hr⟩ := Option.bind_eq_some_iff.mp hr
        refine Ev.priv (y := M_translateSet) (args := [.int a0]) (rest := []) (gok hw) rfl nm_translateSet (ww hw 292 rfl) (ww hw 293 rfl) (ww hw 294 rfl) (ww hw 295 rfl) (lenOf pd_translateSet rfl) (d16 23 rfl) (V.2.1 s) (e_translateSet hw V hq10) (by decide) (Nat.le_of_ble_eq_true rfl) rfl ?_
        refine Ev.goto (t := 88) (d16 24 rfl) rfl ?_
        cases hr
        exact Ev.vreturn rfl (d16 49 rfl)
      · replace hr := own_iq c8 hr
        refine Ev.iloadN (d16 25 rfl) rfl ?_
        refine Ev.bipush (z := 12) (d16 26 rfl) rfl ?_
        refine Ev.icne (t := 77) (d16 27 rfl) rfl (fun c11 => ?_) (fun c11 => ?_)
        · replace hr := own_ip c11 hr
          refine Ev.aloadN (d16 28 rfl) rfl ?_
          refine Ev.aloadN (d16 29 rfl) rfl ?_
          refine Ev.gAr V (ww hw 12 rfl) (d16 30 rfl) (j := 1) rfl ?_
          refine Ev.iloadN (d16 31 rfl) rfl ?_
          refine Ev.ial V (j := 1) rfl rfl (d16 32 rfl) b1 ?_
          obtain ⟨q12, hq13, hr⟩ := Option.bind_eq_some_iff.mp hr
          refine Ev.priv (y := M_mapAt) (args := [.int (s.2 1 (ix a0))]) (rest := []) (gok hw) rfl nm_mapAt (ww hw 220 rfl) (ww hw 221 rfl) (ww hw 222 rfl) (ww hw 223 rfl) (lenOf pd_mapAt rfl) (d16 33 rfl) (V.2.1 s) (e_mapAt hw V hq13) (by decide) (Nat.le_of_ble_eq_true rfl) rfl ?_
          refine Ev.istDN (L' := [.val (.ref o), .val (.int a0), .val (.int (s.2 0 (ix a0))), .val (.int q12)]) (d16 34 rfl) rfl rfl rfl ?_
          refine Ev.aloadN (d16 35 rfl) rfl ?_
          refine Ev.bipush (z := 12) (d16 36 rfl) rfl ?_
          refine Ev.iloadN (d16 37 rfl) rfl ?_
          refine Ev.iconst (z := 0) (d16 38 rfl) rfl ?_
          obtain ⟨q14, hq15, hr⟩ := Option.bind_eq_some_iff.mp hr
          refine Ev.priv (y := M_emit) (args := [.int (12 : Int32), .int q12, .int (0 : Int32)]) (rest := []) (gok hw) rfl nm_emit (ww hw 180 rfl) (ww hw 181 rfl) (ww hw 182 rfl) (ww hw 183 rfl) (lenOf pd_emit rfl) (d16 39 rfl) (V.2.1 s) (e_emit hw V hq15) (by decide) (Nat.le_of_ble_eq_true rfl) rfl ?_
          refine Ev.pop (d16 40 rfl) rfl ?_
          refine Ev.goto (t := 88) (d16 41 rfl) rfl ?_
          cases hr
          exact Ev.vreturn rfl (d16 49 rfl)
        · replace hr := own_iq c11 hr
          refine Ev.aloadN (d16 42 rfl) rfl ?_
          refine Ev.gAr V (ww hw 44 rfl) (d16 43 rfl) (j := 17) rfl ?_
          refine Ev.iloadN (d16 44 rfl) rfl ?_
          refine Ev.aloadN (d16 45 rfl) rfl ?_
          refine Ev.iloadN (d16 46 rfl) rfl ?_
          obtain ⟨q16, hq17, hr⟩ := Option.bind_eq_some_iff.mp hr
          refine Ev.priv (y := M_buildValue) (args := [.int a0]) (rest := [.int a0, .ref (r 17)]) (gok hw) rfl nm_buildValue (ww hw 160 rfl) (ww hw 161 rfl) (ww hw 162 rfl) (ww hw 163 rfl) (lenOf pd_buildValue rfl) (d16 47 rfl) (V.2.1 s) (e_buildValue hw V hq17) (by decide) (Nat.le_of_ble_eq_true rfl) rfl ?_
          refine Ev.ias V (j := 17) rfl rfl (d16 48 rfl) b1 ?_
          revert hr
          generalize setA q16.2 17 (ix a0) q16.1 = s18
          intro hr
          replace hr := (bnd_eq _ _).symm.trans hr
          cases hr
          exact Ev.vreturn rfl (d16 49 rfl)
def f_buildVersion1_93 (n : Nat) (s : St) : Option (St) :=
  (f_undoHash n (0 : Int32) s).bind fun q1 =>
  if (q1.1 41) = 0 then
    some q1
  else
    none
set_option maxRecDepth 100000 in
theorem e_buildVersion1_93 {g : GT} {n : Nat} (hw : HW g) {K : St → MHeap} {o : Nat} {r : Nat → Nat} (V : View (GG g) Ln K o r) (s : St) (y1 : Slot) (hy1 : one1 y1 = true) (w : St) (hr : f_buildVersion1_93 n s = some w) : Ev (GG g) M_buildVersion1 93 [.val (.ref o), y1] [] (K s) (none, (K w)) := by
  unfold f_buildVersion1_93 at hr
  refine Ev.aloadN (d13 52 rfl) rfl ?_
  refine Ev.iconst (z := 0) (d13 53 rfl) rfl ?_
  obtain ⟨q1, hq2, hr⟩ := Option.bind_eq_some_iff.mp hr
  refine Ev.priv (y := M_undoHash) (args := [.int (0 : Int32)]) (rest := []) (gok hw) rfl nm_undoHash (ww hw 140 rfl) (ww hw 141 rfl) (ww hw 142 rfl) (ww hw 143 rfl) (lenOf pd_undoHash rfl) (d13 54 rfl) (V.2.1 s) (e_undoHash hw V hq2) (by decide) (Nat.le_of_ble_eq_true rfl) rfl ?_
  refine Ev.aloadN (d13 55 rfl) rfl ?_
  refine Ev.gI V (ww hw 148 rfl) (d13 56 rfl) (j := 41) rfl rfl ?_
  refine Ev.ifeq (t := 109) (d13 57 rfl) rfl (fun c3 => ?_) (fun c3 => ?_)
  · replace hr := own_ip c3 hr
    cases hr
    exact Ev.vreturn rfl (d13 60 rfl)
  · replace hr := own_iq c3 hr
    refine Ev.aloadN (d13 58 rfl) rfl ?_
    cases hr
def f_buildVersion1_68 (n : Nat) : Nat → Int32 → St → Option (St)
  | 0 => fun _ _ => none
  | k + 1 => fun x1 s =>
    if x1 < (s.1 35) then
      if x1 < (32 : Int32) then
        (f_translate n x1 s).bind fun q3 =>
        f_buildVersion1_68 n k (x1 + (1 : Int32)) q3
      else
        f_buildVersion1_93 n s
    else
      f_buildVersion1_93 n s
set_option maxRecDepth 100000 in
theorem e_buildVersion1_68 {g : GT} {n : Nat} (hw : HW g) {K : St → MHeap} {o : Nat} {r : Nat → Nat} (V : View (GG g) Ln K o r) (k : Nat) : ∀ (x1 : Int32) (s : St) (w : St), f_buildVersion1_68 n k x1 s = some w → Ev (GG g) M_buildVersion1 68 [.val (.ref o), .val (.int x1)] [] (K s) (none, (K w)) := by
  induction k with
  | zero => intro x1 s w hr; rw [f_buildVersion1_68] at hr; cases hr
  | succ k ih =>
    intro x1 s w hr
    rw [f_buildVersion1_68] at hr
    refine Ev.iloadN (d13 40 rfl) rfl ?_
    refine Ev.aloadN (d13 41 rfl) rfl ?_
    refine Ev.gI V (ww hw 91 rfl) (d13 42 rfl) (j := 35) rfl rfl ?_
    refine Ev.icge (t := 93) (d13 43 rfl) rfl (fun c1 => ?_) (fun c1 => ?_)
    · replace hr := own_ip c1 hr
      refine Ev.iloadN (d13 44 rfl) rfl ?_
      refine Ev.bipush (z := 32) (d13 45 rfl) rfl ?_
      refine Ev.icge (t := 93) (d13 46 rfl) rfl (fun c2 => ?_) (fun c2 => ?_)
      · replace hr := own_ip c2 hr
        refine Ev.aloadN (d13 47 rfl) rfl ?_
        refine Ev.iloadN (d13 48 rfl) rfl ?_
        obtain ⟨q3, hq4, hr⟩ := Option.bind_eq_some_iff.mp hr
        refine Ev.priv (y := M_translate) (args := [.int x1]) (rest := []) (gok hw) rfl nm_translate (ww hw 156 rfl) (ww hw 157 rfl) (ww hw 158 rfl) (ww hw 159 rfl) (lenOf pd_translate rfl) (d13 49 rfl) (V.2.1 s) (e_translate hw V hq4) (by decide) (Nat.le_of_ble_eq_true rfl) rfl ?_
        refine Ev.iinc (z := 1) (L' := [.val (.ref o), .val (.int (x1 + (1 : Int32)))]) (d13 50 rfl) rfl rfl rfl ?_
        refine Ev.goto (t := 68) (d13 51 rfl) rfl ?_
        exact ih (x1 + (1 : Int32)) q3  _ hr
      · replace hr := own_iq c2 hr
        exact e_buildVersion1_93 hw V  s (.val (.int x1)) rfl _ hr
    · replace hr := own_iq c1 hr
      exact e_buildVersion1_93 hw V  s (.val (.int x1)) rfl _ hr
def f_buildVersion1_42 (n : Nat) : Nat → Int32 → St → Option (St)
  | 0 => fun _ _ => none
  | k + 1 => fun x1 s =>
    if x1 < (32 : Int32) then
      grd (inb x1 32) <|
      bnd (setA s 17 (ix x1) (32 : Int32)) fun s3 =>
      f_buildVersion1_42 n k (x1 + (1 : Int32)) s3
    else
      (f_computeSetMasks n s).bind fun q4 =>
      f_buildVersion1_68 n n (0 : Int32) q4
set_option maxRecDepth 100000 in
theorem e_buildVersion1_42 {g : GT} {n : Nat} (hw : HW g) {K : St → MHeap} {o : Nat} {r : Nat → Nat} (V : View (GG g) Ln K o r) (k : Nat) : ∀ (x1 : Int32) (s : St) (w : St), f_buildVersion1_42 n k x1 s = some w → Ev (GG g) M_buildVersion1 42 [.val (.ref o), .val (.int x1)] [] (K s) (none, (K w)) := by
  induction k with
  | zero => intro x1 s w hr; rw [f_buildVersion1_42] at hr; cases hr
  | succ k ih =>
    intro x1 s w hr
    rw [f_buildVersion1_42] at hr
    refine Ev.iloadN (d13 26 rfl) rfl ?_
    refine Ev.bipush (z := 32) (d13 27 rfl) rfl ?_
    refine Ev.icge (t := 62) (d13 28 rfl) rfl (fun c1 => ?_) (fun c1 => ?_)
    · replace hr := own_ip c1 hr
      refine Ev.aloadN (d13 29 rfl) rfl ?_
      refine Ev.gAr V (ww hw 44 rfl) (d13 30 rfl) (j := 17) rfl ?_
      refine Ev.iloadN (d13 31 rfl) rfl ?_
      refine Ev.bipush (z := 32) (d13 32 rfl) rfl ?_
      obtain ⟨b2, hr⟩ := grd_some hr
      refine Ev.ias V (j := 17) rfl rfl (d13 33 rfl) b2 ?_
      revert hr
      generalize setA s 17 (ix x1) (32 : Int32) = s3
      intro hr
      replace hr := (bnd_eq _ _).symm.trans hr
      refine Ev.iinc (z := 1) (L' := [.val (.ref o), .val (.int (x1 + (1 : Int32)))]) (d13 34 rfl) rfl rfl rfl ?_
      refine Ev.goto (t := 42) (d13 35 rfl) rfl ?_
      exact ih (x1 + (1 : Int32)) s3  _ hr
    · replace hr := own_iq c1 hr
      refine Ev.aloadN (d13 36 rfl) rfl ?_
      obtain ⟨q4, hq5, hr⟩ := Option.bind_eq_some_iff.mp hr
      refine Ev.priv (y := M_computeSetMasks) (args := []) (rest := []) (gok hw) rfl nm_computeSetMasks (ww hw 152 rfl) (ww hw 153 rfl) (ww hw 154 rfl) (ww hw 155 rfl) (lenOf pd_computeSetMasks rfl) (d13 37 rfl) (V.2.1 s) (e_computeSetMasks hw V hq5) (by decide) (Nat.le_of_ble_eq_true rfl) rfl ?_
      refine Ev.iconst (z := 0) (d13 38 rfl) rfl ?_
      refine Ev.istDN (L' := [.val (.ref o), .val (.int (0 : Int32))]) (d13 39 rfl) rfl rfl rfl ?_
      exact e_buildVersion1_68 hw V  n (0 : Int32) q4  _ hr
def f_buildVersion1_22 (n : Nat) : Nat → Int32 → St → Option (St)
  | 0 => fun _ _ => none
  | k + 1 => fun x1 s =>
    if x1 < (4 : Int32) then
      grd (inb x1 4) <|
      bnd (setA s 19 (ix x1) (0 : Int32)) fun s3 =>
      f_buildVersion1_22 n k (x1 + (1 : Int32)) s3
    else
      f_buildVersion1_42 n n (0 : Int32) s
set_option maxRecDepth 100000 in
theorem e_buildVersion1_22 {g : GT} {n : Nat} (hw : HW g) {K : St → MHeap} {o : Nat} {r : Nat → Nat} (V : View (GG g) Ln K o r) (k : Nat) : ∀ (x1 : Int32) (s : St) (w : St), f_buildVersion1_22 n k x1 s = some w → Ev (GG g) M_buildVersion1 22 [.val (.ref o), .val (.int x1)] [] (K s) (none, (K w)) := by
  induction k with
  | zero => intro x1 s w hr; rw [f_buildVersion1_22] at hr; cases hr
  | succ k ih =>
    intro x1 s w hr
    rw [f_buildVersion1_22] at hr
    refine Ev.iloadN (d13 14 rfl) rfl ?_
    refine Ev.iconst (z := 4) (d13 15 rfl) rfl ?_
    refine Ev.icge (t := 40) (d13 16 rfl) rfl (fun c1 => ?_) (fun c1 => ?_)
    · replace hr := own_ip c1 hr
      refine Ev.aloadN (d13 17 rfl) rfl ?_
      refine Ev.gAr V (ww hw 48 rfl) (d13 18 rfl) (j := 19) rfl ?_
      refine Ev.iloadN (d13 19 rfl) rfl ?_
      refine Ev.iconst (z := 0) (d13 20 rfl) rfl ?_
      obtain ⟨b2, hr⟩ := grd_some hr
      refine Ev.ias V (j := 19) rfl rfl (d13 21 rfl) b2 ?_
      revert hr
      generalize setA s 19 (ix x1) (0 : Int32) = s3
      intro hr
      replace hr := (bnd_eq _ _).symm.trans hr
      refine Ev.iinc (z := 1) (L' := [.val (.ref o), .val (.int (x1 + (1 : Int32)))]) (d13 22 rfl) rfl rfl rfl ?_
      refine Ev.goto (t := 22) (d13 23 rfl) rfl ?_
      exact ih (x1 + (1 : Int32)) s3  _ hr
    · replace hr := own_iq c1 hr
      refine Ev.iconst (z := 0) (d13 24 rfl) rfl ?_
      refine Ev.istDN (L' := [.val (.ref o), .val (.int (0 : Int32))]) (d13 25 rfl) rfl rfl rfl ?_
      exact e_buildVersion1_42 hw V  n (0 : Int32) s  _ hr
def f_buildVersion1 (n : Nat) (s : St) : Option (St) :=
  (f_undoHash n (0 : Int32) s).bind fun q1 =>
  bnd (setI q1 40 (0 : Int32)) fun s3 =>
  bnd (setI s3 41 ((0 : Int32) &&& 1)) fun s4 =>
  bnd (setI s4 42 (0 : Int32)) fun s5 =>
  f_buildVersion1_22 n n (0 : Int32) s5
set_option maxRecDepth 100000 in
theorem e_buildVersion1 {g : GT} {n : Nat} {s : St} {w : St} (hw : HW g) {K : St → MHeap} {o : Nat} {r : Nat → Nat} (V : View (GG g) Ln K o r) (hr : f_buildVersion1 n s = some w) : EvC (GG g) M_buildVersion1 [.ref o] (K s) (none, (K w)) := by
  refine EvC.enter (L0 := [.val (.ref o), .unset]) pl_buildVersion1 (fun _ => rfl) rfl rfl ?_
  unfold f_buildVersion1 at hr
  refine Ev.aloadN (d13 0 rfl) rfl ?_
  refine Ev.iconst (z := 0) (d13 1 rfl) rfl ?_
  obtain ⟨q1, hq2, hr⟩ := Option.bind_eq_some_iff.mp hr
  refine Ev.priv (y := M_undoHash) (args := [.int (0 : Int32)]) (rest := []) (gok hw) rfl nm_undoHash (ww hw 140 rfl) (ww hw 141 rfl) (ww hw 142 rfl) (ww hw 143 rfl) (lenOf pd_undoHash rfl) (d13 2 rfl) (V.2.1 s) (e_undoHash hw V hq2) (by decide) (Nat.le_of_ble_eq_true rfl) rfl ?_
  refine Ev.aloadN (d13 3 rfl) rfl ?_
  refine Ev.iconst (z := 0) (d13 4 rfl) rfl ?_
  refine Ev.pI V (gok hw) (ww hw 146 rfl) (Or.inl (ww hw 147 rfl)) (d13 5 rfl) (j := 40) rfl ?_
  revert hr
  generalize setI q1 40 (0 : Int32) = s3
  intro hr
  replace hr := (bnd_eq _ _).symm.trans hr
  refine Ev.aloadN (d13 6 rfl) rfl ?_
  refine Ev.iconst (z := 0) (d13 7 rfl) rfl ?_
  refine Ev.pZ V (gok hw) (ww hw 148 rfl) (Or.inl (ww hw 149 rfl)) (d13 8 rfl) (j := 41) rfl ?_
  revert hr
  generalize setI s3 41 ((0 : Int32) &&& 1) = s4
  intro hr
  replace hr := (bnd_eq _ _).symm.trans hr
  refine Ev.aloadN (d13 9 rfl) rfl ?_
  refine Ev.iconst (z := 0) (d13 10 rfl) rfl ?_
  refine Ev.pI V (gok hw) (ww hw 150 rfl) (Or.inl (ww hw 151 rfl)) (d13 11 rfl) (j := 42) rfl ?_
  revert hr
  generalize setI s4 42 (0 : Int32) = s5
  intro hr
  replace hr := (bnd_eq _ _).symm.trans hr
  refine Ev.iconst (z := 0) (d13 12 rfl) rfl ?_
  refine Ev.istDN (L' := [.val (.ref o), .val (.int (0 : Int32))]) (d13 13 rfl) rfl rfl rfl ?_
  exact e_buildVersion1_22 hw V  n (0 : Int32) s5  _ hr
def f_compile (n : Nat) (s : St) : Option (Int32 × St) :=
  if (s.1 35) = 0 then
    some ((-6 : Int32), s)
  else
    if (s.1 36) = 0 then
      if (s.1 37) = 0 then
        (f_buildVersion0 n s).bind fun q4 =>
        (f_buildVersion1 n q4).bind fun q6 =>
        bnd (setI q6 37 ((1 : Int32) &&& 1)) fun s8 =>
        some ((0 : Int32), s8)
      else
        some ((0 : Int32), s)
    else
      some ((-7 : Int32), s)
set_option maxRecDepth 100000 in
theorem e_compile {g : GT} {n : Nat} {s : St} {w : Int32 × St} (hw : HW g) {K : St → MHeap} {o : Nat} {r : Nat → Nat} (V : View (GG g) Ln K o r) (hr : f_compile n s = some w) : EvC (GG g) M_compile [.ref o] (K s) ((some (.int w.1)), (K w.2)) := by
  refine EvC.enter (L0 := [.val (.ref o)]) pl_compile (fun h => nomatch h) rfl rfl ?_
  unfold f_compile at hr
  refine Ev.aloadN (d11 0 rfl) rfl ?_
  refine Ev.gI V (ww hw 91 rfl) (d11 1 rfl) (j := 35) rfl rfl ?_
  refine Ev.ifne (t := 10) (d11 2 rfl) rfl (fun c1 => ?_) (fun c1 => ?_)
  · replace hr := own_ip c1 hr
    refine Ev.bipush (z := -6) (d11 3 rfl) rfl ?_
    cases hr
    exact Ev.ireturn rfl (d11 4 rfl)
  · replace hr := own_iq c1 hr
    refine Ev.aloadN (d11 5 rfl) rfl ?_
    refine Ev.gI V (ww hw 113 rfl) (d11 6 rfl) (j := 36) rfl rfl ?_
    refine Ev.ifeq (t := 20) (d11 7 rfl) rfl (fun c2 => ?_) (fun c2 => ?_)
    · replace hr := own_ip c2 hr
      refine Ev.aloadN (d11 10 rfl) rfl ?_
      refine Ev.gI V (ww hw 115 rfl) (d11 11 rfl) (j := 37) rfl rfl ?_
      refine Ev.ifeq (t := 29) (d11 12 rfl) rfl (fun c3 => ?_) (fun c3 => ?_)
      · replace hr := own_ip c3 hr
        refine Ev.aloadN (d11 15 rfl) rfl ?_
        obtain ⟨q4, hq5, hr⟩ := Option.bind_eq_some_iff.mp hr
        refine Ev.priv (y := M_buildVersion0) (args := []) (rest := []) (gok hw) rfl nm_buildVersion0 (ww hw 130 rfl) (ww hw 131 rfl) (ww hw 132 rfl) (ww hw 133 rfl) (lenOf pd_buildVersion0 rfl) (d11 16 rfl) (V.2.1 s) (e_buildVersion0 hw V hq5) (by decide) (Nat.le_of_ble_eq_true rfl) rfl ?_
        refine Ev.aloadN (d11 17 rfl) rfl ?_
        obtain ⟨q6, hq7, hr⟩ := Option.bind_eq_some_iff.mp hr
        refine Ev.priv (y := M_buildVersion1) (args := []) (rest := []) (gok hw) rfl nm_buildVersion1 (ww hw 136 rfl) (ww hw 137 rfl) (ww hw 138 rfl) (ww hw 139 rfl) (lenOf pd_buildVersion1 rfl) (d11 18 rfl) (V.2.1 q4) (e_buildVersion1 hw V hq7) (by decide) (Nat.le_of_ble_eq_true rfl) rfl ?_
        refine Ev.aloadN (d11 19 rfl) rfl ?_
        refine Ev.iconst (z := 1) (d11 20 rfl) rfl ?_
        refine Ev.pZ V (gok hw) (ww hw 115 rfl) (Or.inl (ww hw 116 rfl)) (d11 21 rfl) (j := 37) rfl ?_
        revert hr
        generalize setI q6 37 ((1 : Int32) &&& 1) = s8
        intro hr
        replace hr := (bnd_eq _ _).symm.trans hr
        refine Ev.iconst (z := 0) (d11 22 rfl) rfl ?_
        cases hr
        exact Ev.ireturn rfl (d11 23 rfl)
      · replace hr := own_iq c3 hr
        refine Ev.iconst (z := 0) (d11 13 rfl) rfl ?_
        cases hr
        exact Ev.ireturn rfl (d11 14 rfl)
    · replace hr := own_iq c2 hr
      refine Ev.bipush (z := -7) (d11 8 rfl) rfl ?_
      cases hr
      exact Ev.ireturn rfl (d11 9 rfl)
def f_resetRun_72 (n : Nat) : Nat → Int32 → Int32 → St → Option (St)
  | 0 => fun _ _ _ => none
  | k + 1 => fun x1 x4 s =>
    if x4 < (32 : Int32) then
      grd (inb ((x1 * (32 : Int32)) + x4) 64) <|
      bnd (setA s 15 (ix ((x1 * (32 : Int32)) + x4)) (0 : Int32)) fun s3 =>
      f_resetRun_72 n k x1 (x4 + (1 : Int32)) s3
    else
      some s
set_option maxRecDepth 100000 in
theorem e_resetRun_72 {g : GT} {n : Nat} (hw : HW g) {K : St → MHeap} {o : Nat} {r : Nat → Nat} (V : View (GG g) Ln K o r) (k : Nat) : ∀ (x1 x4 : Int32) (s : St) (y2 : Slot) (hy2 : one1 y2 = true) (y3 : Slot) (hy3 : one1 y3 = true) (w : St), f_resetRun_72 n k x1 x4 s = some w → Ev (GG g) M_resetRun 72 [.val (.ref o), .val (.int x1), y2, y3, .val (.int x4)] [] (K s) (none, (K w)) := by
  induction k with
  | zero => intro x1 x4 s y2 hy2 y3 hy3 w hr; rw [f_resetRun_72] at hr; cases hr
  | succ k ih =>
    intro x1 x4 s y2 hy2 y3 hy3 w hr
    rw [f_resetRun_72] at hr
    refine Ev.iload (d56 39 rfl) rfl ?_
    refine Ev.bipush (z := 32) (d56 40 rfl) rfl ?_
    refine Ev.icge (t := 98) (d56 41 rfl) rfl (fun c1 => ?_) (fun c1 => ?_)
    · replace hr := own_ip c1 hr
      refine Ev.aloadN (d56 42 rfl) rfl ?_
      refine Ev.gAr V (ww hw 40 rfl) (d56 43 rfl) (j := 15) rfl ?_
      refine Ev.iloadN (d56 44 rfl) rfl ?_
      refine Ev.bipush (z := 32) (d56 45 rfl) rfl ?_
      refine Ev.imul (d56 46 rfl) ?_
      refine Ev.iload (d56 47 rfl) rfl ?_
      refine Ev.iadd (d56 48 rfl) ?_
      refine Ev.iconst (z := 0) (d56 49 rfl) rfl ?_
      obtain ⟨b2, hr⟩ := grd_some hr
      refine Ev.ias V (j := 15) rfl rfl (d56 50 rfl) b2 ?_
      revert hr
      generalize setA s 15 (ix ((x1 * (32 : Int32)) + x4)) (0 : Int32) = s3
      intro hr
      replace hr := (bnd_eq _ _).symm.trans hr
      refine Ev.iinc (z := 1) (L' := [.val (.ref o), .val (.int x1), y2, y3, .val (.int (x4 + (1 : Int32)))]) (d56 51 rfl) rfl rfl rfl ?_
      refine Ev.goto (t := 72) (d56 52 rfl) rfl ?_
      exact ih x1 (x4 + (1 : Int32)) s3 y2 hy2 y3 hy3 _ hr
    · replace hr := own_iq c1 hr
      cases hr
      exact Ev.vreturn rfl (d56 53 rfl)
def f_resetRun_42 (n : Nat) : Nat → Int32 → Int32 → St → Option (St)
  | 0 => fun _ _ _ => none
  | k + 1 => fun x1 x4 s =>
    if x4 < (4 : Int32) then
      grd (inb x4 4) <|
      bnd (setA s 13 (ix x4) (0 : Int32)) fun s3 =>
      f_resetRun_42 n k x1 (x4 + (1 : Int32)) s3
    else
      grd (inb x1 2) <|
      bnd (setA s 14 (ix x1) (0 : Int32)) fun s5 =>
      f_resetRun_72 n n x1 (0 : Int32) s5
set_option maxRecDepth 100000 in
theorem e_resetRun_42 {g : GT} {n : Nat} (hw : HW g) {K : St → MHeap} {o : Nat} {r : Nat → Nat} (V : View (GG g) Ln K o r) (k : Nat) : ∀ (x1 x4 : Int32) (s : St) (y2 : Slot) (hy2 : one1 y2 = true) (y3 : Slot) (hy3 : one1 y3 = true) (w : St), f_resetRun_42 n k x1 x4 s = some w → Ev (GG g) M_resetRun 42 [.val (.ref o), .val (.int x1), y2, y3, .val (.int x4)] [] (K s) (none, (K w)) := by
  induction k with
  | zero => intro x1 x4 s y2 hy2 y3 hy3 w hr; rw [f_resetRun_42] at hr; cases hr
  | succ k ih =>
    intro x1 x4 s y2 hy2 y3 hy3 w hr
    rw [f_resetRun_42] at hr
    refine Ev.iload (d56 22 rfl) rfl ?_
    refine Ev.iconst (z := 4) (d56 23 rfl) rfl ?_
    refine Ev.icge (t := 62) (d56 24 rfl) rfl (fun c1 => ?_) (fun c1 => ?_)
    · replace hr := own_ip c1 hr
      refine Ev.aloadN (d56 25 rfl) rfl ?_
      refine Ev.gAr V (ww hw 36 rfl) (d56 26 rfl) (j := 13) rfl ?_
      refine Ev.iload (d56 27 rfl) rfl ?_
      refine Ev.iconst (z := 0) (d56 28 rfl) rfl ?_
      obtain ⟨b2, hr⟩ := grd_some hr
      refine Ev.ias V (j := 13) rfl rfl (d56 29 rfl) b2 ?_
      revert hr
      generalize setA s 13 (ix x4) (0 : Int32) = s3
      intro hr
      replace hr := (bnd_eq _ _).symm.trans hr
      refine Ev.iinc (z := 1) (L' := [.val (.ref o), .val (.int x1), y2, y3, .val (.int (x4 + (1 : Int32)))]) (d56 30 rfl) rfl rfl rfl ?_
      refine Ev.goto (t := 42) (d56 31 rfl) rfl ?_
      exact ih x1 (x4 + (1 : Int32)) s3 y2 hy2 y3 hy3 _ hr
    · replace hr := own_iq c1 hr
      refine Ev.aloadN (d56 32 rfl) rfl ?_
      refine Ev.gAr V (ww hw 38 rfl) (d56 33 rfl) (j := 14) rfl ?_
      refine Ev.iloadN (d56 34 rfl) rfl ?_
      refine Ev.iconst (z := 0) (d56 35 rfl) rfl ?_
      obtain ⟨b4, hr⟩ := grd_some hr
      refine Ev.ias V (j := 14) rfl rfl (d56 36 rfl) b4 ?_
      revert hr
      generalize setA s 14 (ix x1) (0 : Int32) = s5
      intro hr
      replace hr := (bnd_eq _ _).symm.trans hr
      refine Ev.iconst (z := 0) (d56 37 rfl) rfl ?_
      refine Ev.istD (L' := [.val (.ref o), .val (.int x1), y2, y3, .val (.int (0 : Int32))]) (d56 38 rfl) rfl rfl rfl ?_
      exact e_resetRun_72 hw V  n x1 (0 : Int32) s5 y2 hy2 y3 hy3 _ hr
def f_resetRun_39 (n : Nat) (x1 : Int32) (s : St) : Option (St) :=
  f_resetRun_42 n n x1 (0 : Int32) s
set_option maxRecDepth 100000 in
theorem e_resetRun_39 {g : GT} {n : Nat} (hw : HW g) {K : St → MHeap} {o : Nat} {r : Nat → Nat} (V : View (GG g) Ln K o r) (x1 : Int32) (s : St) (y2 : Slot) (hy2 : one1 y2 = true) (y3 : Slot) (hy3 : one1 y3 = true) (y4 : Slot) (hy4 : one1 y4 = true) (w : St) (hr : f_resetRun_39 n x1 s = some w) : Ev (GG g) M_resetRun 39 [.val (.ref o), .val (.int x1), y2, y3, y4] [] (K s) (none, (K w)) := by
  unfold f_resetRun_39 at hr
  refine Ev.iconst (z := 0) (d56 20 rfl) rfl ?_
  refine Ev.istD (L' := [.val (.ref o), .val (.int x1), y2, y3, .val (.int (0 : Int32))]) (d56 21 rfl) rfl hy4 rfl ?_
  exact e_resetRun_42 hw V  n x1 (0 : Int32) s y2 hy2 y3 hy3 _ hr
def f_resetRun_3 (n : Nat) : Nat → Int32 → Int32 → Int32 → St → Option (St)
  | 0 => fun _ _ _ _ => none
  | k + 1 => fun x1 x3 x4 s =>
    if x4 < x3 then
      if x4 < (1056 : Int32) then
        grd (inb x4 1056) <|
        bnd (setA s 11 (ix x4) (0 : Int32)) fun s4 =>
        bnd (setA s4 12 (ix x4) (0 : Int32)) fun s5 =>
        f_resetRun_3 n k x1 x3 (x4 + (1 : Int32)) s5
      else
        f_resetRun_39 n x1 s
    else
      f_resetRun_39 n x1 s
set_option maxRecDepth 100000 in
theorem e_resetRun_3 {g : GT} {n : Nat} (hw : HW g) {K : St → MHeap} {o : Nat} {r : Nat → Nat} (V : View (GG g) Ln K o r) (k : Nat) : ∀ (x1 x3 x4 : Int32) (s : St) (y2 : Slot) (hy2 : one1 y2 = true) (w : St), f_resetRun_3 n k x1 x3 x4 s = some w → Ev (GG g) M_resetRun 3 [.val (.ref o), .val (.int x1), y2, .val (.int x3), .val (.int x4)] [] (K s) (none, (K w)) := by
  induction k with
  | zero => intro x1 x3 x4 s y2 hy2 w hr; rw [f_resetRun_3] at hr; cases hr
  | succ k ih =>
    intro x1 x3 x4 s y2 hy2 w hr
    rw [f_resetRun_3] at hr
    refine Ev.iload (d56 2 rfl) rfl ?_
    refine Ev.iloadN (d56 3 rfl) rfl ?_
    refine Ev.icge (t := 39) (d56 4 rfl) rfl (fun c1 => ?_) (fun c1 => ?_)
    · replace hr := own_ip c1 hr
      refine Ev.iload (d56 5 rfl) rfl ?_
      refine Ev.sipush (z := 1056) (d56 6 rfl) rfl ?_
      refine Ev.icge (t := 39) (d56 7 rfl) rfl (fun c2 => ?_) (fun c2 => ?_)
      · replace hr := own_ip c2 hr
        refine Ev.aloadN (d56 8 rfl) rfl ?_
        refine Ev.gAr V (ww hw 32 rfl) (d56 9 rfl) (j := 11) rfl ?_
        refine Ev.iload (d56 10 rfl) rfl ?_
        refine Ev.iconst (z := 0) (d56 11 rfl) rfl ?_
        obtain ⟨b3, hr⟩ := grd_some hr
        refine Ev.ias V (j := 11) rfl rfl (d56 12 rfl) b3 ?_
        revert hr
        generalize setA s 11 (ix x4) (0 : Int32) = s4
        intro hr
        replace hr := (bnd_eq _ _).symm.trans hr
        refine Ev.aloadN (d56 13 rfl) rfl ?_
        refine Ev.gAr V (ww hw 34 rfl) (d56 14 rfl) (j := 12) rfl ?_
        refine Ev.iload (d56 15 rfl) rfl ?_
        refine Ev.iconst (z := 0) (d56 16 rfl) rfl ?_
        refine Ev.ias V (j := 12) rfl rfl (d56 17 rfl) b3 ?_
        revert hr
        generalize setA s4 12 (ix x4) (0 : Int32) = s5
        intro hr
        replace hr := (bnd_eq _ _).symm.trans hr
        refine Ev.iinc (z := 1) (L' := [.val (.ref o), .val (.int x1), y2, .val (.int x3), .val (.int (x4 + (1 : Int32)))]) (d56 18 rfl) rfl rfl rfl ?_
        refine Ev.goto (t := 3) (d56 19 rfl) rfl ?_
        exact ih x1 x3 (x4 + (1 : Int32)) s5 y2 hy2 _ hr
      · replace hr := own_iq c2 hr
        exact e_resetRun_39 hw V  x1 s y2 hy2 (.val (.int x3)) rfl (.val (.int x4)) rfl _ hr
    · replace hr := own_iq c1 hr
      exact e_resetRun_39 hw V  x1 s y2 hy2 (.val (.int x3)) rfl (.val (.int x4)) rfl _ hr
def f_resetRun (n : Nat) (a0 a1 a2 : Int32) (s : St) : Option (St) :=
  f_resetRun_3 n n a0 a2 a1 s
set_option maxRecDepth 100000 in
theorem e_resetRun {g : GT} {n : Nat} {a0 : Int32} {a1 : Int32} {a2 : Int32} {s : St} {w : St} (hw : HW g) {K : St → MHeap} {o : Nat} {r : Nat → Nat} (V : View (GG g) Ln K o r) (hr : f_resetRun n a0 a1 a2 s = some w) : EvC (GG g) M_resetRun [.ref o, .int a0, .int a1, .int a2] (K s) (none, (K w)) := by
  refine EvC.enter (L0 := [.val (.ref o), .val (.int a0), .val (.int a1), .val (.int a2), .unset]) pl_resetRun (fun _ => rfl) rfl rfl ?_
  unfold f_resetRun at hr
  refine Ev.iloadN (d56 0 rfl) rfl ?_
  refine Ev.istD (L' := [.val (.ref o), .val (.int a0), .val (.int a1), .val (.int a2), .val (.int a1)]) (d56 1 rfl) rfl rfl rfl ?_
  exact e_resetRun_3 hw V  n a0 a2 a1 s (.val (.int a1)) rfl _ hr
def f_stepLoop (a0 : Int32) (s : St) : Option (Int32 × St) :=
  grd (inb a0 1056) <|
  if 0 < (s.2 8 (ix a0)) then
    bnd (setA s 12 (ix a0) (s.2 8 (ix a0))) fun s3 =>
    some ((a0 + (1 : Int32)), s3)
  else
    if a0 < (s.2 9 (ix a0)) then
      if (s.2 9 (ix a0)) < (1056 : Int32) then
        some (((s.2 9 (ix a0)) + (1 : Int32)), s)
      else
        some ((1056 : Int32), s)
    else
      some ((1056 : Int32), s)
set_option maxRecDepth 100000 in
theorem e_stepLoop {g : GT} {a0 : Int32} {s : St} {w : Int32 × St} (hw : HW g) {K : St → MHeap} {o : Nat} {r : Nat → Nat} (V : View (GG g) Ln K o r) (hr : f_stepLoop a0 s = some w) : EvC (GG g) M_stepLoop [.ref o, .int a0] (K s) ((some (.int w.1)), (K w.2)) := by
  refine EvC.enter (L0 := [.val (.ref o), .val (.int a0), .unset, .unset]) pl_stepLoop (fun h => nomatch h) rfl rfl ?_
  unfold f_stepLoop at hr
  refine Ev.aloadN (d59 0 rfl) rfl ?_
  refine Ev.gAr V (ww hw 26 rfl) (d59 1 rfl) (j := 8) rfl ?_
  refine Ev.iloadN (d59 2 rfl) rfl ?_
  obtain ⟨b1, hr⟩ := grd_some hr
  refine Ev.ial V (j := 8) rfl rfl (d59 3 rfl) b1 ?_
  refine Ev.istDN (L' := [.val (.ref o), .val (.int a0), .val (.int (s.2 8 (ix a0))), .unset]) (d59 4 rfl) rfl rfl rfl ?_
  refine Ev.iloadN (d59 5 rfl) rfl ?_
  refine Ev.ifle (t := 22) (d59 6 rfl) rfl (fun c2 => ?_) (fun c2 => ?_)
  · replace hr := own_ip c2 hr
    refine Ev.aloadN (d59 7 rfl) rfl ?_
    refine Ev.gAr V (ww hw 34 rfl) (d59 8 rfl) (j := 12) rfl ?_
    refine Ev.iloadN (d59 9 rfl) rfl ?_
    refine Ev.iloadN (d59 10 rfl) rfl ?_
    refine Ev.ias V (j := 12) rfl rfl (d59 11 rfl) b1 ?_
    revert hr
    generalize setA s 12 (ix a0) (s.2 8 (ix a0)) = s3
    intro hr
    replace hr := (bnd_eq _ _).symm.trans hr
    refine Ev.iloadN (d59 12 rfl) rfl ?_
    refine Ev.iconst (z := 1) (d59 13 rfl) rfl ?_
    refine Ev.iadd (d59 14 rfl) ?_
    cases hr
    exact Ev.ireturn rfl (d59 15 rfl)
  · replace hr := own_iq c2 hr
    refine Ev.aloadN (d59 16 rfl) rfl ?_
    refine Ev.gAr V (ww hw 28 rfl) (d59 17 rfl) (j := 9) rfl ?_
    refine Ev.iloadN (d59 18 rfl) rfl ?_
    refine Ev.ial V (j := 9) rfl rfl (d59 19 rfl) b1 ?_
    refine Ev.istDN (L' := [.val (.ref o), .val (.int a0), .val (.int (s.2 8 (ix a0))), .val (.int (s.2 9 (ix a0)))]) (d59 20 rfl) rfl rfl rfl ?_
    refine Ev.iloadN (d59 21 rfl) rfl ?_
    refine Ev.iloadN (d59 22 rfl) rfl ?_
    refine Ev.icle (t := 45) (d59 23 rfl) rfl (fun c4 => ?_) (fun c4 => ?_)
    · replace hr := own_ip c4 hr
      refine Ev.iloadN (d59 24 rfl) rfl ?_
      refine Ev.sipush (z := 1056) (d59 25 rfl) rfl ?_
      refine Ev.icge (t := 45) (d59 26 rfl) rfl (fun c5 => ?_) (fun c5 => ?_)
      · replace hr := own_ip c5 hr
        refine Ev.iloadN (d59 27 rfl) rfl ?_
        refine Ev.iconst (z := 1) (d59 28 rfl) rfl ?_
        refine Ev.iadd (d59 29 rfl) ?_
        cases hr
        exact Ev.ireturn rfl (d59 30 rfl)
      · replace hr := own_iq c5 hr
        refine Ev.sipush (z := 1056) (d59 31 rfl) rfl ?_
        cases hr
        exact Ev.ireturn rfl (d59 32 rfl)
    · replace hr := own_iq c4 hr
      refine Ev.sipush (z := 1056) (d59 31 rfl) rfl ?_
      cases hr
      exact Ev.ireturn rfl (d59 32 rfl)
def f_stepEnd_16 (x1 : Int32) (s : St) : Option (Int32 × St) :=
  some ((x1 + (1 : Int32)), s)
set_option maxRecDepth 100000 in
theorem e_stepEnd_16 {g : GT} (hw : HW g) {K : St → MHeap} {o : Nat} {r : Nat → Nat} (V : View (GG g) Ln K o r) (x1 : Int32) (s : St) (y0 : Slot) (hy0 : one1 y0 = true) (y2 : Slot) (hy2 : one1 y2 = true) (w : Int32 × St) (hr : f_stepEnd_16 x1 s = some w) : Ev (GG g) M_stepEnd 16 [y0, .val (.int x1), y2] [] (K s) ((some (.int w.1)), (K w.2)) := by
  unfold f_stepEnd_16 at hr
  refine Ev.iloadN (d63 10 rfl) rfl ?_
  refine Ev.iconst (z := 1) (d63 11 rfl) rfl ?_
  refine Ev.iadd (d63 12 rfl) ?_
  cases hr
  exact Ev.ireturn rfl (d63 13 rfl)
def f_stepEnd (a0 : Int32) (s : St) : Option (Int32 × St) :=
  grd (inb a0 1056) <|
  if (s.2 8 (ix a0)) < 0 then
    f_stepEnd_16 a0 s
  else
    if (s.2 8 (ix a0)) < a0 then
      grd (inb (s.2 8 (ix a0)) 1056) <|
      bnd (setA s 12 (ix (s.2 8 (ix a0))) ((s.2 12 (ix (s.2 8 (ix a0)))) - (1 : Int32))) fun s5 =>
      if 0 < (s5.2 12 (ix (s.2 8 (ix a0)))) then
        some (((s.2 8 (ix a0)) + (1 : Int32)), s5)
      else
        some ((a0 + (1 : Int32)), s5)
    else
      f_stepEnd_16 a0 s
set_option maxRecDepth 100000 in
theorem e_stepEnd {g : GT} {a0 : Int32} {s : St} {w : Int32 × St} (hw : HW g) {K : St → MHeap} {o : Nat} {r : Nat → Nat} (V : View (GG g) Ln K o r) (hr : f_stepEnd a0 s = some w) : EvC (GG g) M_stepEnd [.ref o, .int a0] (K s) ((some (.int w.1)), (K w.2)) := by
  refine EvC.enter (L0 := [.val (.ref o), .val (.int a0), .unset]) pl_stepEnd (fun h => nomatch h) rfl rfl ?_
  unfold f_stepEnd at hr
  refine Ev.aloadN (d63 0 rfl) rfl ?_
  refine Ev.gAr V (ww hw 26 rfl) (d63 1 rfl) (j := 8) rfl ?_
  refine Ev.iloadN (d63 2 rfl) rfl ?_
  obtain ⟨b1, hr⟩ := grd_some hr
  refine Ev.ial V (j := 8) rfl rfl (d63 3 rfl) b1 ?_
  refine Ev.istDN (L' := [.val (.ref o), .val (.int a0), .val (.int (s.2 8 (ix a0)))]) (d63 4 rfl) rfl rfl rfl ?_
  refine Ev.iloadN (d63 5 rfl) rfl ?_
  refine Ev.iflt (t := 16) (d63 6 rfl) rfl (fun c2 => ?_) (fun c2 => ?_)
  · replace hr := own_ip c2 hr
    exact e_stepEnd_16 hw V  a0 s (.val (.ref o)) rfl (.val (.int (s.2 8 (ix a0)))) rfl _ hr
  · replace hr := own_iq c2 hr
    refine Ev.iloadN (d63 7 rfl) rfl ?_
    refine Ev.iloadN (d63 8 rfl) rfl ?_
    refine Ev.iclt (t := 20) (d63 9 rfl) rfl (fun c3 => ?_) (fun c3 => ?_)
    · replace hr := own_ip c3 hr
      refine Ev.aloadN (d63 14 rfl) rfl ?_
      refine Ev.gAr V (ww hw 34 rfl) (d63 15 rfl) (j := 12) rfl ?_
      refine Ev.iloadN (d63 16 rfl) rfl ?_
      refine Ev.aloadN (d63 17 rfl) rfl ?_
      refine Ev.gAr V (ww hw 34 rfl) (d63 18 rfl) (j := 12) rfl ?_
      refine Ev.iloadN (d63 19 rfl) rfl ?_
      obtain ⟨b4, hr⟩ := grd_some hr
      refine Ev.ial V (j := 12) rfl rfl (d63 20 rfl) b4 ?_
      refine Ev.iconst (z := 1) (d63 21 rfl) rfl ?_
      refine Ev.isub (d63 22 rfl) ?_
      refine Ev.ias V (j := 12) rfl rfl (d63 23 rfl) b4 ?_
      revert hr
      generalize setA s 12 (ix (s.2 8 (ix a0))) ((s.2 12 (ix (s.2 8 (ix a0)))) - (1 : Int32)) = s5
      intro hr
      replace hr := (bnd_eq _ _).symm.trans hr
      refine Ev.aloadN (d63 24 rfl) rfl ?_
      refine Ev.gAr V (ww hw 34 rfl) (d63 25 rfl) (j := 12) rfl ?_
      refine Ev.iloadN (d63 26 rfl) rfl ?_
      refine Ev.ial V (j := 12) rfl rfl (d63 27 rfl) b4 ?_
      refine Ev.ifle (t := 47) (d63 28 rfl) rfl (fun c6 => ?_) (fun c6 => ?_)
      · replace hr := own_ip c6 hr
        refine Ev.iloadN (d63 29 rfl) rfl ?_
        refine Ev.iconst (z := 1) (d63 30 rfl) rfl ?_
        refine Ev.iadd (d63 31 rfl) ?_
        cases hr
        exact Ev.ireturn rfl (d63 32 rfl)
      · replace hr := own_iq c6 hr
        refine Ev.iloadN (d63 33 rfl) rfl ?_
        refine Ev.iconst (z := 1) (d63 34 rfl) rfl ?_
        refine Ev.iadd (d63 35 rfl) ?_
        cases hr
        exact Ev.ireturn rfl (d63 36 rfl)
    · replace hr := own_iq c3 hr
      exact e_stepEnd_16 hw V  a0 s (.val (.ref o)) rfl (.val (.int (s.2 8 (ix a0)))) rfl _ hr
def f_slotAt (s : St) (a0 : Int32) : Option (Int32) :=
  if a0 < 0 then
    some (0 : Int32)
  else
    if a0 < (1056 : Int32) then
      grd (inb a0 1056) <|
      some (s.2 11 (ix a0))
    else
      some (0 : Int32)
set_option maxRecDepth 100000 in
theorem e_slotAt {g : GT} {s : St} {a0 : Int32} {w : Int32} (hw : HW g) {K : St → MHeap} {o : Nat} {r : Nat → Nat} (V : View (GG g) Ln K o r) (hr : f_slotAt s a0 = some w) : EvC (GG g) M_slotAt [.ref o, .int a0] (K s) ((some (.int w)), (K s)) := by
  refine EvC.enter (L0 := [.val (.ref o), .val (.int a0)]) pl_slotAt (fun h => nomatch h) rfl rfl ?_
  unfold f_slotAt at hr
  refine Ev.iloadN (d60 0 rfl) rfl ?_
  refine Ev.iflt (t := 11) (d60 1 rfl) rfl (fun c1 => ?_) (fun c1 => ?_)
  · replace hr := own_ip c1 hr
    refine Ev.iconst (z := 0) (d60 5 rfl) rfl ?_
    cases hr
    exact Ev.ireturn rfl (d60 6 rfl)
  · replace hr := own_iq c1 hr
    refine Ev.iloadN (d60 2 rfl) rfl ?_
    refine Ev.sipush (z := 1056) (d60 3 rfl) rfl ?_
    refine Ev.iclt (t := 13) (d60 4 rfl) rfl (fun c2 => ?_) (fun c2 => ?_)
    · replace hr := own_ip c2 hr
      refine Ev.aloadN (d60 7 rfl) rfl ?_
      refine Ev.gAr V (ww hw 32 rfl) (d60 8 rfl) (j := 11) rfl ?_
      refine Ev.iloadN (d60 9 rfl) rfl ?_
      obtain ⟨b3, hr⟩ := grd_some hr
      refine Ev.ial V (j := 11) rfl rfl (d60 10 rfl) b3 ?_
      cases hr
      exact Ev.ireturn rfl (d60 11 rfl)
    · replace hr := own_iq c2 hr
      refine Ev.iconst (z := 0) (d60 5 rfl) rfl ?_
      cases hr
      exact Ev.ireturn rfl (d60 6 rfl)
def f_stepOut_37 (x3 x4 : Int32) (s : St) : Option (St) :=
  grd (inb x3 2) <|
  bnd (setA s 14 (ix x3) (x4 + (1 : Int32))) fun s2 =>
  some s2
set_option maxRecDepth 100000 in
theorem e_stepOut_37 {g : GT} (hw : HW g) {K : St → MHeap} {o : Nat} {r : Nat → Nat} (V : View (GG g) Ln K o r) (x3 x4 : Int32) (s : St) (y1 : Slot) (hy1 : one1 y1 = true) (y2 : Slot) (hy2 : one1 y2 = true) (w : St) (hr : f_stepOut_37 x3 x4 s = some w) : Ev (GG g) M_stepOut 37 [.val (.ref o), y1, y2, .val (.int x3), .val (.int x4)] [] (K s) (none, (K w)) := by
  unfold f_stepOut_37 at hr
  refine Ev.aloadN (d62 23 rfl) rfl ?_
  refine Ev.gAr V (ww hw 38 rfl) (d62 24 rfl) (j := 14) rfl ?_
  refine Ev.iloadN (d62 25 rfl) rfl ?_
  refine Ev.iload (d62 26 rfl) rfl ?_
  refine Ev.iconst (z := 1) (d62 27 rfl) rfl ?_
  refine Ev.iadd (d62 28 rfl) ?_
  obtain ⟨b1, hr⟩ := grd_some hr
  refine Ev.ias V (j := 14) rfl rfl (d62 29 rfl) b1 ?_
  revert hr
  generalize setA s 14 (ix x3) (x4 + (1 : Int32)) = s2
  intro hr
  replace hr := (bnd_eq _ _).symm.trans hr
  cases hr
  exact Ev.vreturn rfl (d62 30 rfl)
def f_stepOut (a0 a1 : Int32) (s : St) : Option (St) :=
  grd (inb (a0 &&& (1 : Int32)) 2) <|
  if (s.2 14 (ix (a0 &&& (1 : Int32)))) < 0 then
    f_stepOut_37 (a0 &&& (1 : Int32)) (s.2 14 (ix (a0 &&& (1 : Int32)))) s
  else
    if (s.2 14 (ix (a0 &&& (1 : Int32)))) < (32 : Int32) then
      grd (inb (((a0 &&& (1 : Int32)) * (32 : Int32)) + (s.2 14 (ix (a0 &&& (1 : Int32))))) 64) <|
      bnd (setA s 15 (ix (((a0 &&& (1 : Int32)) * (32 : Int32)) + (s.2 14 (ix (a0 &&& (1 : Int32)))))) a1) fun s5 =>
      f_stepOut_37 (a0 &&& (1 : Int32)) (s.2 14 (ix (a0 &&& (1 : Int32)))) s5
    else
      f_stepOut_37 (a0 &&& (1 : Int32)) (s.2 14 (ix (a0 &&& (1 : Int32)))) s
set_option maxRecDepth 100000 in
theorem e_stepOut {g : GT} {a0 : Int32} {a1 : Int32} {s : St} {w : St} (hw : HW g) {K : St → MHeap} {o : Nat} {r : Nat → Nat} (V : View (GG g) Ln K o r) (hr : f_stepOut a0 a1 s = some w) : EvC (GG g) M_stepOut [.ref o, .int a0, .int a1] (K s) (none, (K w)) := by
  refine EvC.enter (L0 := [.val (.ref o), .val (.int a0), .val (.int a1), .unset, .unset]) pl_stepOut (fun _ => rfl) rfl rfl ?_
  unfold f_stepOut at hr
  refine Ev.iloadN (d62 0 rfl) rfl ?_
  refine Ev.iconst (z := 1) (d62 1 rfl) rfl ?_
  refine Ev.iand (d62 2 rfl) ?_
  refine Ev.istDN (L' := [.val (.ref o), .val (.int a0), .val (.int a1), .val (.int (a0 &&& (1 : Int32))), .unset]) (d62 3 rfl) rfl rfl rfl ?_
  refine Ev.aloadN (d62 4 rfl) rfl ?_
  refine Ev.gAr V (ww hw 38 rfl) (d62 5 rfl) (j := 14) rfl ?_
  refine Ev.iloadN (d62 6 rfl) rfl ?_
  obtain ⟨b1, hr⟩ := grd_some hr
  refine Ev.ial V (j := 14) rfl rfl (d62 7 rfl) b1 ?_
  refine Ev.istD (L' := [.val (.ref o), .val (.int a0), .val (.int a1), .val (.int (a0 &&& (1 : Int32))), .val (.int (s.2 14 (ix (a0 &&& (1 : Int32)))))]) (d62 8 rfl) rfl rfl rfl ?_
  refine Ev.iload (d62 9 rfl) rfl ?_
  refine Ev.iflt (t := 37) (d62 10 rfl) rfl (fun c2 => ?_) (fun c2 => ?_)
  · replace hr := own_ip c2 hr
    exact e_stepOut_37 hw V  (a0 &&& (1 : Int32)) (s.2 14 (ix (a0 &&& (1 : Int32)))) s (.val (.int a0)) rfl (.val (.int a1)) rfl _ hr
  · replace hr := own_iq c2 hr
    refine Ev.iload (d62 11 rfl) rfl ?_
    refine Ev.bipush (z := 32) (d62 12 rfl) rfl ?_
    refine Ev.icge (t := 37) (d62 13 rfl) rfl (fun c3 => ?_) (fun c3 => ?_)
    · replace hr := own_ip c3 hr
      refine Ev.aloadN (d62 14 rfl) rfl ?_
      refine Ev.gAr V (ww hw 40 rfl) (d62 15 rfl) (j := 15) rfl ?_
      refine Ev.iloadN (d62 16 rfl) rfl ?_
      refine Ev.bipush (z := 32) (d62 17 rfl) rfl ?_
      refine Ev.imul (d62 18 rfl) ?_
      refine Ev.iload (d62 19 rfl) rfl ?_
      refine Ev.iadd (d62 20 rfl) ?_
      refine Ev.iloadN (d62 21 rfl) rfl ?_
      obtain ⟨b4, hr⟩ := grd_some hr
      refine Ev.ias V (j := 15) rfl rfl (d62 22 rfl) b4 ?_
      revert hr
      generalize setA s 15 (ix (((a0 &&& (1 : Int32)) * (32 : Int32)) + (s.2 14 (ix (a0 &&& (1 : Int32)))))) a1 = s5
      intro hr
      replace hr := (bnd_eq _ _).symm.trans hr
      exact e_stepOut_37 hw V  (a0 &&& (1 : Int32)) (s.2 14 (ix (a0 &&& (1 : Int32)))) s5 (.val (.int a0)) rfl (.val (.int a1)) rfl _ hr
    · replace hr := own_iq c3 hr
      exact e_stepOut_37 hw V  (a0 &&& (1 : Int32)) (s.2 14 (ix (a0 &&& (1 : Int32)))) s (.val (.int a0)) rfl (.val (.int a1)) rfl _ hr
def f_evalValue (s : St) (a0 : Int32) : Option (Int32) :=
  grd (inb a0 1056) <|
  if (s.2 7 (ix a0)) = (1 : Int32) then
    some (s.2 8 (ix a0))
  else
    if (s.2 7 (ix a0)) = (2 : Int32) then
      grd (inb ((s.2 8 (ix a0)) &&& (7 : Int32)) 8) <|
      some (s.2 6 (ix ((s.2 8 (ix a0)) &&& (7 : Int32))))
    else
      if (s.2 7 (ix a0)) = (3 : Int32) then
        grd (inb ((s.2 8 (ix a0)) &&& (3 : Int32)) 4) <|
        some (s.2 13 (ix ((s.2 8 (ix a0)) &&& (3 : Int32))))
      else
        (f_slotAt s (s.2 8 (ix a0))).bind fun q7 =>
        if (s.2 7 (ix a0)) = (10 : Int32) then
          some ((0 : Int32) - q7)
        else
          (f_slotAt s (s.2 9 (ix a0))).bind fun q10 =>
          (f_fold s (s.2 7 (ix a0)) q7 q10).bind fun q12 =>
          some q12
set_option maxRecDepth 100000 in
theorem e_evalValue {g : GT} {s : St} {a0 : Int32} {w : Int32} (hw : HW g) {K : St → MHeap} {o : Nat} {r : Nat → Nat} (V : View (GG g) Ln K o r) (hr : f_evalValue s a0 = some w) : EvC (GG g) M_evalValue [.ref o, .int a0] (K s) ((some (.int w)), (K s)) := by
  refine EvC.enter (L0 := [.val (.ref o), .val (.int a0), .unset, .unset, .unset]) pl_evalValue (fun h => nomatch h) rfl rfl ?_
  unfold f_evalValue at hr
  refine Ev.aloadN (d58 0 rfl) rfl ?_
  refine Ev.gAr V (ww hw 24 rfl) (d58 1 rfl) (j := 7) rfl ?_
  refine Ev.iloadN (d58 2 rfl) rfl ?_
  obtain ⟨b1, hr⟩ := grd_some hr
  refine Ev.ial V (j := 7) rfl rfl (d58 3 rfl) b1 ?_
  refine Ev.istDN (L' := [.val (.ref o), .val (.int a0), .val (.int (s.2 7 (ix a0))), .unset, .unset]) (d58 4 rfl) rfl rfl rfl ?_
  refine Ev.iloadN (d58 5 rfl) rfl ?_
  refine Ev.iconst (z := 1) (d58 6 rfl) rfl ?_
  refine Ev.icne (t := 19) (d58 7 rfl) rfl (fun c2 => ?_) (fun c2 => ?_)
  · replace hr := own_ip c2 hr
    refine Ev.aloadN (d58 8 rfl) rfl ?_
    refine Ev.gAr V (ww hw 26 rfl) (d58 9 rfl) (j := 8) rfl ?_
    refine Ev.iloadN (d58 10 rfl) rfl ?_
    refine Ev.ial V (j := 8) rfl rfl (d58 11 rfl) b1 ?_
    cases hr
    exact Ev.ireturn rfl (d58 12 rfl)
  · replace hr := own_iq c2 hr
    refine Ev.iloadN (d58 13 rfl) rfl ?_
    refine Ev.iconst (z := 2) (d58 14 rfl) rfl ?_
    refine Ev.icne (t := 39) (d58 15 rfl) rfl (fun c3 => ?_) (fun c3 => ?_)
    · replace hr := own_ip c3 hr
      refine Ev.aloadN (d58 16 rfl) rfl ?_
      refine Ev.gAr V (ww hw 22 rfl) (d58 17 rfl) (j := 6) rfl ?_
      refine Ev.aloadN (d58 18 rfl) rfl ?_
      refine Ev.gAr V (ww hw 26 rfl) (d58 19 rfl) (j := 8) rfl ?_
      refine Ev.iloadN (d58 20 rfl) rfl ?_
      refine Ev.ial V (j := 8) rfl rfl (d58 21 rfl) b1 ?_
      refine Ev.bipush (z := 7) (d58 22 rfl) rfl ?_
      refine Ev.iand (d58 23 rfl) ?_
      obtain ⟨b4, hr⟩ := grd_some hr
      refine Ev.ial V (j := 6) rfl rfl (d58 24 rfl) b4 ?_
      cases hr
      exact Ev.ireturn rfl (d58 25 rfl)
    · replace hr := own_iq c3 hr
      refine Ev.iloadN (d58 26 rfl) rfl ?_
      refine Ev.iconst (z := 3) (d58 27 rfl) rfl ?_
      refine Ev.icne (t := 58) (d58 28 rfl) rfl (fun c5 => ?_) (fun c5 => ?_)
      · replace hr := own_ip c5 hr
        refine Ev.aloadN (d58 29 rfl) rfl ?_
        refine Ev.gAr V (ww hw 36 rfl) (d58 30 rfl) (j := 13) rfl ?_
        refine Ev.aloadN (d58 31 rfl) rfl ?_
        refine Ev.gAr V (ww hw 26 rfl) (d58 32 rfl) (j := 8) rfl ?_
        refine Ev.iloadN (d58 33 rfl) rfl ?_
        refine Ev.ial V (j := 8) rfl rfl (d58 34 rfl) b1 ?_
        refine Ev.iconst (z := 3) (d58 35 rfl) rfl ?_
        refine Ev.iand (d58 36 rfl) ?_
        obtain ⟨b6, hr⟩ := grd_some hr
        refine Ev.ial V (j := 13) rfl rfl (d58 37 rfl) b6 ?_
        cases hr
        exact Ev.ireturn rfl (d58 38 rfl)
      · replace hr := own_iq c5 hr
        refine Ev.aloadN (d58 39 rfl) rfl ?_
        refine Ev.aloadN (d58 40 rfl) rfl ?_
        refine Ev.gAr V (ww hw 26 rfl) (d58 41 rfl) (j := 8) rfl ?_
        refine Ev.iloadN (d58 42 rfl) rfl ?_
        refine Ev.ial V (j := 8) rfl rfl (d58 43 rfl) b1 ?_
        obtain ⟨q7, hq8, hr⟩ := Option.bind_eq_some_iff.mp hr
        refine Ev.priv (y := M_slotAt) (args := [.int (s.2 8 (ix a0))]) (rest := []) (gok hw) rfl nm_slotAt (ww hw 342 rfl) (ww hw 343 rfl) (ww hw 344 rfl) (ww hw 345 rfl) (lenOf pd_slotAt rfl) (d58 44 rfl) (V.2.1 s) (e_slotAt hw V hq8) (by decide) (Nat.le_of_ble_eq_true rfl) rfl ?_
        refine Ev.istDN (L' := [.val (.ref o), .val (.int a0), .val (.int (s.2 7 (ix a0))), .val (.int q7), .unset]) (d58 45 rfl) rfl rfl rfl ?_
        refine Ev.iloadN (d58 46 rfl) rfl ?_
        refine Ev.bipush (z := 10) (d58 47 rfl) rfl ?_
        refine Ev.icne (t := 79) (d58 48 rfl) rfl (fun c9 => ?_) (fun c9 => ?_)
        · replace hr := own_ip c9 hr
          refine Ev.iconst (z := 0) (d58 49 rfl) rfl ?_
          refine Ev.iloadN (d58 50 rfl) rfl ?_
          refine Ev.isub (d58 51 rfl) ?_
          cases hr
          exact Ev.ireturn rfl (d58 52 rfl)
        · replace hr := own_iq c9 hr
          refine Ev.aloadN (d58 53 rfl) rfl ?_
          refine Ev.aloadN (d58 54 rfl) rfl ?_
          refine Ev.gAr V (ww hw 28 rfl) (d58 55 rfl) (j := 9) rfl ?_
          refine Ev.iloadN (d58 56 rfl) rfl ?_
          refine Ev.ial V (j := 9) rfl rfl (d58 57 rfl) b1 ?_
          obtain ⟨q10, hq11, hr⟩ := Option.bind_eq_some_iff.mp hr
          refine Ev.priv (y := M_slotAt) (args := [.int (s.2 9 (ix a0))]) (rest := []) (gok hw) rfl nm_slotAt (ww hw 342 rfl) (ww hw 343 rfl) (ww hw 344 rfl) (ww hw 345 rfl) (lenOf pd_slotAt rfl) (d58 58 rfl) (V.2.1 s) (e_slotAt hw V hq11) (by decide) (Nat.le_of_ble_eq_true rfl) rfl ?_
          refine Ev.istD (L' := [.val (.ref o), .val (.int a0), .val (.int (s.2 7 (ix a0))), .val (.int q7), .val (.int q10)]) (d58 59 rfl) rfl rfl rfl ?_
          refine Ev.aloadN (d58 60 rfl) rfl ?_
          refine Ev.iloadN (d58 61 rfl) rfl ?_
          refine Ev.iloadN (d58 62 rfl) rfl ?_
          refine Ev.iload (d58 63 rfl) rfl ?_
          obtain ⟨q12, hq13, hr⟩ := Option.bind_eq_some_iff.mp hr
          refine Ev.priv (y := M_fold) (args := [.int (s.2 7 (ix a0)), .int q7, .int q10]) (rest := []) (gok hw) rfl nm_fold (ww hw 346 rfl) (ww hw 347 rfl) (ww hw 348 rfl) (ww hw 349 rfl) (lenOf pd_fold rfl) (d58 64 rfl) (V.2.1 s) (e_fold hw V hq13) (by decide) (Nat.le_of_ble_eq_true rfl) rfl ?_
          cases hr
          exact Ev.ireturn rfl (d58 65 rfl)
def f_step (a0 a1 : Int32) (s : St) : Option (Int32 × St) :=
  if a1 < 0 then
    some ((1056 : Int32), s)
  else
    if a1 < (1056 : Int32) then
      grd (inb a1 1056) <|
      if (s.2 7 (ix a1)) = (13 : Int32) then
        (f_stepLoop a1 s).bind fun q5 =>
        some (q5.1, q5.2)
      else
        if (s.2 7 (ix a1)) = (14 : Int32) then
          (f_stepEnd a1 s).bind fun q8 =>
          some (q8.1, q8.2)
        else
          if (s.2 7 (ix a1)) = (11 : Int32) then
            (f_slotAt s (s.2 9 (ix a1))).bind fun q11 =>
            grd (inb ((s.2 8 (ix a1)) &&& (3 : Int32)) 4) <|
            bnd (setA s 13 (ix ((s.2 8 (ix a1)) &&& (3 : Int32))) q11) fun s14 =>
            some ((a1 + (1 : Int32)), s14)
          else
            if (s.2 7 (ix a1)) = (12 : Int32) then
              (f_slotAt s (s.2 8 (ix a1))).bind fun q16 =>
              (f_stepOut a0 q16 s).bind fun q18 =>
              some ((a1 + (1 : Int32)), q18)
            else
              (f_evalValue s a1).bind fun q20 =>
              bnd (setA s 11 (ix a1) q20) fun s22 =>
              some ((a1 + (1 : Int32)), s22)
    else
      some ((1056 : Int32), s)
set_option maxRecDepth 100000 in
theorem e_step {g : GT} {a0 : Int32} {a1 : Int32} {s : St} {w : Int32 × St} (hw : HW g) {K : St → MHeap} {o : Nat} {r : Nat → Nat} (V : View (GG g) Ln K o r) (hr : f_step a0 a1 s = some w) : EvC (GG g) M_step [.ref o, .int a0, .int a1] (K s) ((some (.int w.1)), (K w.2)) := by
  refine EvC.enter (L0 := [.val (.ref o), .val (.int a0), .val (.int a1), .unset, .unset]) pl_step (fun h => nomatch h) rfl rfl ?_
  unfold f_step at hr
  refine Ev.iloadN (d57 0 rfl) rfl ?_
  refine Ev.iflt (t := 11) (d57 1 rfl) rfl (fun c1 => ?_) (fun c1 => ?_)
  · replace hr := own_ip c1 hr
    refine Ev.sipush (z := 1056) (d57 5 rfl) rfl ?_
    cases hr
    exact Ev.ireturn rfl (d57 6 rfl)
  · replace hr := own_iq c1 hr
    refine Ev.iloadN (d57 2 rfl) rfl ?_
    refine Ev.sipush (z := 1056) (d57 3 rfl) rfl ?_
    refine Ev.iclt (t := 15) (d57 4 rfl) rfl (fun c2 => ?_) (fun c2 => ?_)
    · replace hr := own_ip c2 hr
      refine Ev.aloadN (d57 7 rfl) rfl ?_
      refine Ev.gAr V (ww hw 24 rfl) (d57 8 rfl) (j := 7) rfl ?_
      refine Ev.iloadN (d57 9 rfl) rfl ?_
      obtain ⟨b3, hr⟩ := grd_some hr
      refine Ev.ial V (j := 7) rfl rfl (d57 10 rfl) b3 ?_
      refine Ev.istDN (L' := [.val (.ref o), .val (.int a0), .val (.int a1), .val (.int (s.2 7 (ix a1))), .unset]) (d57 11 rfl) rfl rfl rfl ?_
      refine Ev.iloadN (d57 12 rfl) rfl ?_
      refine Ev.bipush (z := 13) (d57 13 rfl) rfl ?_
      refine Ev.icne (t := 34) (d57 14 rfl) rfl (fun c4 => ?_) (fun c4 => ?_)
      · replace hr := own_ip c4 hr
        refine Ev.aloadN (d57 15 rfl) rfl ?_
        refine Ev.iloadN (d57 16 rfl) rfl ?_
        obtain ⟨q5, hq6, hr⟩ := Option.bind_eq_some_iff.mp hr
        refine Ev.priv (y := M_stepLoop) (args := [.int a1]) (rest := []) (gok hw) rfl nm_stepLoop (ww hw 338 rfl) (ww hw 339 rfl) (ww hw 340 rfl) (ww hw 341 rfl) (lenOf pd_stepLoop rfl) (d57 17 rfl) (V.2.1 s) (e_stepLoop hw V hq6) (by decide) (Nat.le_of_ble_eq_true rfl) rfl ?_
        cases hr
        exact Ev.ireturn rfl (d57 18 rfl)
      · replace hr := own_iq c4 hr
        refine Ev.iloadN (d57 19 rfl) rfl ?_
        refine Ev.bipush (z := 14) (d57 20 rfl) rfl ?_
        refine Ev.icne (t := 46) (d57 21 rfl) rfl (fun c7 => ?_) (fun c7 => ?_)
        · replace hr := own_ip c7 hr
          refine Ev.aloadN (d57 22 rfl) rfl ?_
          refine Ev.iloadN (d57 23 rfl) rfl ?_
          obtain ⟨q8, hq9, hr⟩ := Option.bind_eq_some_iff.mp hr
          refine Ev.priv (y := M_stepEnd) (args := [.int a1]) (rest := []) (gok hw) rfl nm_stepEnd (ww hw 354 rfl) (ww hw 355 rfl) (ww hw 356 rfl) (ww hw 357 rfl) (lenOf pd_stepEnd rfl) (d57 24 rfl) (V.2.1 s) (e_stepEnd hw V hq9) (by decide) (Nat.le_of_ble_eq_true rfl) rfl ?_
          cases hr
          exact Ev.ireturn rfl (d57 25 rfl)
        · replace hr := own_iq c7 hr
          refine Ev.iloadN (d57 26 rfl) rfl ?_
          refine Ev.bipush (z := 11) (d57 27 rfl) rfl ?_
          refine Ev.icne (t := 83) (d57 28 rfl) rfl (fun c10 => ?_) (fun c10 => ?_)
          · replace hr := own_ip c10 hr
            refine Ev.aloadN (d57 29 rfl) rfl ?_
            refine Ev.aloadN (d57 30 rfl) rfl ?_
            refine Ev.gAr V (ww hw 28 rfl) (d57 31 rfl) (j := 9) rfl ?_
            refine Ev.iloadN (d57 32 rfl) rfl ?_
            refine Ev.ial V (j := 9) rfl rfl (d57 33 rfl) b3 ?_
            obtain ⟨q11, hq12, hr⟩ := Option.bind_eq_some_iff.mp hr
            refine Ev.priv (y := M_slotAt) (args := [.int (s.2 9 (ix a1))]) (rest := []) (gok hw) rfl nm_slotAt (ww hw 342 rfl) (ww hw 343 rfl) (ww hw 344 rfl) (ww hw 345 rfl) (lenOf pd_slotAt rfl) (d57 34 rfl) (V.2.1 s) (e_slotAt hw V hq12) (by decide) (Nat.le_of_ble_eq_true rfl) rfl ?_
            refine Ev.istD (L' := [.val (.ref o), .val (.int a0), .val (.int a1), .val (.int (s.2 7 (ix a1))), .val (.int q11)]) (d57 35 rfl) rfl rfl rfl ?_
            refine Ev.aloadN (d57 36 rfl) rfl ?_
            refine Ev.gAr V (ww hw 36 rfl) (d57 37 rfl) (j := 13) rfl ?_
            refine Ev.aloadN (d57 38 rfl) rfl ?_
            refine Ev.gAr V (ww hw 26 rfl) (d57 39 rfl) (j := 8) rfl ?_
            refine Ev.iloadN (d57 40 rfl) rfl ?_
            refine Ev.ial V (j := 8) rfl rfl (d57 41 rfl) b3 ?_
            refine Ev.iconst (z := 3) (d57 42 rfl) rfl ?_
            refine Ev.iand (d57 43 rfl) ?_
            refine Ev.iload (d57 44 rfl) rfl ?_
            obtain ⟨b13, hr⟩ := grd_some hr
            refine Ev.ias V (j := 13) rfl rfl (d57 45 rfl) b13 ?_
            revert hr
            generalize setA s 13 (ix ((s.2 8 (ix a1)) &&& (3 : Int32))) q11 = s14
            intro hr
            replace hr := (bnd_eq _ _).symm.trans hr
            refine Ev.iloadN (d57 46 rfl) rfl ?_
            refine Ev.iconst (z := 1) (d57 47 rfl) rfl ?_
            refine Ev.iadd (d57 48 rfl) ?_
            cases hr
            exact Ev.ireturn rfl (d57 49 rfl)
          · replace hr := own_iq c10 hr
            refine Ev.iloadN (d57 50 rfl) rfl ?_
            refine Ev.bipush (z := 12) (d57 51 rfl) rfl ?_
            refine Ev.icne (t := 112) (d57 52 rfl) rfl (fun c15 => ?_) (fun c15 => ?_)
            · replace hr := own_ip c15 hr
              refine Ev.aloadN (d57 53 rfl) rfl ?_
              refine Ev.aloadN (d57 54 rfl) rfl ?_
              refine Ev.gAr V (ww hw 26 rfl) (d57 55 rfl) (j := 8) rfl ?_
              refine Ev.iloadN (d57 56 rfl) rfl ?_
              refine Ev.ial V (j := 8) rfl rfl (d57 57 rfl) b3 ?_
              obtain ⟨q16, hq17, hr⟩ := Option.bind_eq_some_iff.mp hr
              refine Ev.priv (y := M_slotAt) (args := [.int (s.2 8 (ix a1))]) (rest := []) (gok hw) rfl nm_slotAt (ww hw 342 rfl) (ww hw 343 rfl) (ww hw 344 rfl) (ww hw 345 rfl) (lenOf pd_slotAt rfl) (d57 58 rfl) (V.2.1 s) (e_slotAt hw V hq17) (by decide) (Nat.le_of_ble_eq_true rfl) rfl ?_
              refine Ev.istD (L' := [.val (.ref o), .val (.int a0), .val (.int a1), .val (.int (s.2 7 (ix a1))), .val (.int q16)]) (d57 59 rfl) rfl rfl rfl ?_
              refine Ev.aloadN (d57 60 rfl) rfl ?_
              refine Ev.iloadN (d57 61 rfl) rfl ?_
              refine Ev.iload (d57 62 rfl) rfl ?_
              obtain ⟨q18, hq19, hr⟩ := Option.bind_eq_some_iff.mp hr
              refine Ev.priv (y := M_stepOut) (args := [.int a0, .int q16]) (rest := []) (gok hw) rfl nm_stepOut (ww hw 350 rfl) (ww hw 351 rfl) (ww hw 352 rfl) (ww hw 353 rfl) (lenOf pd_stepOut rfl) (d57 63 rfl) (V.2.1 s) (e_stepOut hw V hq19) (by decide) (Nat.le_of_ble_eq_true rfl) rfl ?_
              refine Ev.iloadN (d57 64 rfl) rfl ?_
              refine Ev.iconst (z := 1) (d57 65 rfl) rfl ?_
              refine Ev.iadd (d57 66 rfl) ?_
              cases hr
              exact Ev.ireturn rfl (d57 67 rfl)
            · replace hr := own_iq c15 hr
              refine Ev.aloadN (d57 68 rfl) rfl ?_
              refine Ev.gAr V (ww hw 32 rfl) (d57 69 rfl) (j := 11) rfl ?_
              refine Ev.iloadN (d57 70 rfl) rfl ?_
              refine Ev.aloadN (d57 71 rfl) rfl ?_
              refine Ev.iloadN (d57 72 rfl) rfl ?_
              obtain ⟨q20, hq21, hr⟩ := Option.bind_eq_some_iff.mp hr
              refine Ev.priv (y := M_evalValue) (args := [.int a1]) (rest := [.int a1, .ref (r 11)]) (gok hw) rfl nm_evalValue (ww hw 334 rfl) (ww hw 335 rfl) (ww hw 336 rfl) (ww hw 337 rfl) (lenOf pd_evalValue rfl) (d57 73 rfl) (V.2.1 s) (e_evalValue hw V hq21) (by decide) (Nat.le_of_ble_eq_true rfl) rfl ?_
              refine Ev.ias V (j := 11) rfl rfl (d57 74 rfl) b3 ?_
              revert hr
              generalize setA s 11 (ix a1) q20 = s22
              intro hr
              replace hr := (bnd_eq _ _).symm.trans hr
              refine Ev.iloadN (d57 75 rfl) rfl ?_
              refine Ev.iconst (z := 1) (d57 76 rfl) rfl ?_
              refine Ev.iadd (d57 77 rfl) ?_
              cases hr
              exact Ev.ireturn rfl (d57 78 rfl)
    · replace hr := own_iq c2 hr
      refine Ev.sipush (z := 1056) (d57 5 rfl) rfl ?_
      cases hr
      exact Ev.ireturn rfl (d57 6 rfl)
def f_execute_98 (n : Nat) : Nat → Int32 → Int32 → St → Option (St)
  | 0 => fun _ _ _ => none
  | k + 1 => fun x2 x7 s =>
    if x7 < (4 : Int32) then
      grd (inb x7 4) <|
      grd (inb ((x2 * (4 : Int32)) + x7) 8) <|
      bnd (setA s 16 (ix ((x2 * (4 : Int32)) + x7)) (s.2 13 (ix x7))) fun s4 =>
      f_execute_98 n k x2 (x7 + (1 : Int32)) s4
    else
      some s
set_option maxRecDepth 100000 in
theorem e_execute_98 {g : GT} {n : Nat} (hw : HW g) {K : St → MHeap} {o : Nat} {r : Nat → Nat} (V : View (GG g) Ln K o r) (k : Nat) : ∀ (x2 x7 : Int32) (s : St) (y1 : Slot) (hy1 : one1 y1 = true) (y3 : Slot) (hy3 : one1 y3 = true) (y4 : Slot) (hy4 : one1 y4 = true) (y5 : Slot) (hy5 : one1 y5 = true) (y6 : Slot) (hy6 : one1 y6 = true) (w : St), f_execute_98 n k x2 x7 s = some w → Ev (GG g) M_execute 98 [.val (.ref o), y1, .val (.int x2), y3, y4, y5, y6, .val (.int x7)] [] (K s) (none, (K w)) := by
  induction k with
  | zero => intro x2 x7 s y1 hy1 y3 hy3 y4 hy4 y5 hy5 y6 hy6 w hr; rw [f_execute_98] at hr; cases hr
  | succ k ih =>
    intro x2 x7 s y1 hy1 y3 hy3 y4 hy4 y5 hy5 y6 hy6 w hr
    rw [f_execute_98] at hr
    refine Ev.iload (d55 51 rfl) rfl ?_
    refine Ev.iconst (z := 4) (d55 52 rfl) rfl ?_
    refine Ev.icge (t := 128) (d55 53 rfl) rfl (fun c1 => ?_) (fun c1 => ?_)
    · replace hr := own_ip c1 hr
      refine Ev.aloadN (d55 54 rfl) rfl ?_
      refine Ev.gAr V (ww hw 42 rfl) (d55 55 rfl) (j := 16) rfl ?_
      refine Ev.iloadN (d55 56 rfl) rfl ?_
      refine Ev.iconst (z := 4) (d55 57 rfl) rfl ?_
      refine Ev.imul (d55 58 rfl) ?_
      refine Ev.iload (d55 59 rfl) rfl ?_
      refine Ev.iadd (d55 60 rfl) ?_
      refine Ev.aloadN (d55 61 rfl) rfl ?_
      refine Ev.gAr V (ww hw 36 rfl) (d55 62 rfl) (j := 13) rfl ?_
      refine Ev.iload (d55 63 rfl) rfl ?_
      obtain ⟨b2, hr⟩ := grd_some hr
      refine Ev.ial V (j := 13) rfl rfl (d55 64 rfl) b2 ?_
      obtain ⟨b3, hr⟩ := grd_some hr
      refine Ev.ias V (j := 16) rfl rfl (d55 65 rfl) b3 ?_
      revert hr
      generalize setA s 16 (ix ((x2 * (4 : Int32)) + x7)) (s.2 13 (ix x7)) = s4
      intro hr
      replace hr := (bnd_eq _ _).symm.trans hr
      refine Ev.iinc (z := 1) (L' := [.val (.ref o), y1, .val (.int x2), y3, y4, y5, y6, .val (.int (x7 + (1 : Int32)))]) (d55 66 rfl) rfl rfl rfl ?_
      refine Ev.goto (t := 98) (d55 67 rfl) rfl ?_
      exact ih x2 (x7 + (1 : Int32)) s4 y1 hy1 y3 hy3 y4 hy4 y5 hy5 y6 hy6 _ hr
    · replace hr := own_iq c1 hr
      cases hr
      exact Ev.vreturn rfl (d55 68 rfl)
def f_execute_95 (n : Nat) (x2 : Int32) (s : St) : Option (St) :=
  f_execute_98 n n x2 (0 : Int32) s
set_option maxRecDepth 100000 in
theorem e_execute_95 {g : GT} {n : Nat} (hw : HW g) {K : St → MHeap} {o : Nat} {r : Nat → Nat} (V : View (GG g) Ln K o r) (x2 : Int32) (s : St) (y1 : Slot) (hy1 : one1 y1 = true) (y3 : Slot) (hy3 : one1 y3 = true) (y4 : Slot) (hy4 : one1 y4 = true) (y5 : Slot) (hy5 : one1 y5 = true) (y6 : Slot) (hy6 : one1 y6 = true) (y7 : Slot) (hy7 : one1 y7 = true) (w : St) (hr : f_execute_95 n x2 s = some w) : Ev (GG g) M_execute 95 [.val (.ref o), y1, .val (.int x2), y3, y4, y5, y6, y7] [] (K s) (none, (K w)) := by
  unfold f_execute_95 at hr
  refine Ev.iconst (z := 0) (d55 49 rfl) rfl ?_
  refine Ev.istD (L' := [.val (.ref o), y1, .val (.int x2), y3, y4, y5, y6, .val (.int (0 : Int32))]) (d55 50 rfl) rfl hy7 rfl ?_
  exact e_execute_98 hw V  n x2 (0 : Int32) s y1 hy1 y3 hy3 y4 hy4 y5 hy5 y6 hy6 _ hr
def f_execute_65 (n : Nat) : Nat → Int32 → Int32 → Int32 → Int32 → St → Option (St)
  | 0 => fun _ _ _ _ _ => none
  | k + 1 => fun x2 x5 x6 x7 s =>
    if x7 < (4000000 : Int32) then
      if x6 < x5 then
        (f_step x2 x6 s).bind fun q3 =>
        f_execute_65 n k x2 x5 q3.1 (x7 + (1 : Int32)) q3.2
      else
        f_execute_95 n x2 s
    else
      f_execute_95 n x2 s
set_option maxRecDepth 100000 in
theorem e_execute_65 {g : GT} {n : Nat} (hw : HW g) {K : St → MHeap} {o : Nat} {r : Nat → Nat} (V : View (GG g) Ln K o r) (k : Nat) : ∀ (x2 x5 x6 x7 : Int32) (s : St) (y1 : Slot) (hy1 : one1 y1 = true) (y3 : Slot) (hy3 : one1 y3 = true) (y4 : Slot) (hy4 : one1 y4 = true) (w : St), f_execute_65 n k x2 x5 x6 x7 s = some w → Ev (GG g) M_execute 65 [.val (.ref o), y1, .val (.int x2), y3, y4, .val (.int x5), .val (.int x6), .val (.int x7)] [] (K s) (none, (K w)) := by
  induction k with
  | zero => intro x2 x5 x6 x7 s y1 hy1 y3 hy3 y4 hy4 w hr; rw [f_execute_65] at hr; cases hr
  | succ k ih =>
    intro x2 x5 x6 x7 s y1 hy1 y3 hy3 y4 hy4 w hr
    rw [f_execute_65] at hr
    refine Ev.iload (d55 36 rfl) rfl ?_
    refine Ev.ldcW (ww hw 329 rfl) (d55 37 rfl) ?_
    refine Ev.icge (t := 95) (d55 38 rfl) rfl (fun c1 => ?_) (fun c1 => ?_)
    · replace hr := own_ip c1 hr
      refine Ev.iload (d55 39 rfl) rfl ?_
      refine Ev.iload (d55 40 rfl) rfl ?_
      refine Ev.icge (t := 95) (d55 41 rfl) rfl (fun c2 => ?_) (fun c2 => ?_)
      · replace hr := own_ip c2 hr
        refine Ev.aloadN (d55 42 rfl) rfl ?_
        refine Ev.iloadN (d55 43 rfl) rfl ?_
        refine Ev.iload (d55 44 rfl) rfl ?_
        obtain ⟨q3, hq4, hr⟩ := Option.bind_eq_some_iff.mp hr
        refine Ev.priv (y := M_step) (args := [.int x2, .int x6]) (rest := []) (gok hw) rfl nm_step (ww hw 330 rfl) (ww hw 331 rfl) (ww hw 332 rfl) (ww hw 333 rfl) (lenOf pd_step rfl) (d55 45 rfl) (V.2.1 s) (e_step hw V hq4) (by decide) (Nat.le_of_ble_eq_true rfl) rfl ?_
        refine Ev.istD (L' := [.val (.ref o), y1, .val (.int x2), y3, y4, .val (.int x5), .val (.int q3.1), .val (.int x7)]) (d55 46 rfl) rfl rfl rfl ?_
        refine Ev.iinc (z := 1) (L' := [.val (.ref o), y1, .val (.int x2), y3, y4, .val (.int x5), .val (.int q3.1), .val (.int (x7 + (1 : Int32)))]) (d55 47 rfl) rfl rfl rfl ?_
        refine Ev.goto (t := 65) (d55 48 rfl) rfl ?_
        exact ih x2 x5 q3.1 (x7 + (1 : Int32)) q3.2 y1 hy1 y3 hy3 y4 hy4 _ hr
      · replace hr := own_iq c2 hr
        exact e_execute_95 hw V  x2 s y1 hy1 y3 hy3 y4 hy4 (.val (.int x5)) rfl (.val (.int x6)) rfl (.val (.int x7)) rfl _ hr
    · replace hr := own_iq c1 hr
      exact e_execute_95 hw V  x2 s y1 hy1 y3 hy3 y4 hy4 (.val (.int x5)) rfl (.val (.int x6)) rfl (.val (.int x7)) rfl _ hr
def f_execute_51 (n : Nat) (x2 x3 x5 : Int32) (s : St) : Option (St) :=
  (f_resetRun n x2 x3 x5 s).bind fun q1 =>
  f_execute_65 n n x2 x5 x3 (0 : Int32) q1
set_option maxRecDepth 100000 in
theorem e_execute_51 {g : GT} {n : Nat} (hw : HW g) {K : St → MHeap} {o : Nat} {r : Nat → Nat} (V : View (GG g) Ln K o r) (x2 x3 x5 : Int32) (s : St) (y1 : Slot) (hy1 : one1 y1 = true) (y4 : Slot) (hy4 : one1 y4 = true) (y6 : Slot) (hy6 : one1 y6 = true) (y7 : Slot) (hy7 : one1 y7 = true) (w : St) (hr : f_execute_51 n x2 x3 x5 s = some w) : Ev (GG g) M_execute 51 [.val (.ref o), y1, .val (.int x2), .val (.int x3), y4, .val (.int x5), y6, y7] [] (K s) (none, (K w)) := by
  unfold f_execute_51 at hr
  refine Ev.aloadN (d55 27 rfl) rfl ?_
  refine Ev.iloadN (d55 28 rfl) rfl ?_
  refine Ev.iloadN (d55 29 rfl) rfl ?_
  refine Ev.iload (d55 30 rfl) rfl ?_
  obtain ⟨q1, hq2, hr⟩ := Option.bind_eq_some_iff.mp hr
  refine Ev.priv (y := M_resetRun) (args := [.int x2, .int x3, .int x5]) (rest := []) (gok hw) rfl nm_resetRun (ww hw 325 rfl) (ww hw 326 rfl) (ww hw 327 rfl) (ww hw 328 rfl) (lenOf pd_resetRun rfl) (d55 31 rfl) (V.2.1 s) (e_resetRun hw V hq2) (by decide) (Nat.le_of_ble_eq_true rfl) rfl ?_
  refine Ev.iloadN (d55 32 rfl) rfl ?_
  refine Ev.istD (L' := [.val (.ref o), y1, .val (.int x2), .val (.int x3), y4, .val (.int x5), .val (.int x3), y7]) (d55 33 rfl) rfl hy6 rfl ?_
  refine Ev.iconst (z := 0) (d55 34 rfl) rfl ?_
  refine Ev.istD (L' := [.val (.ref o), y1, .val (.int x2), .val (.int x3), y4, .val (.int x5), .val (.int x3), .val (.int (0 : Int32))]) (d55 35 rfl) rfl hy7 rfl ?_
  exact e_execute_65 hw V  n x2 x5 x3 (0 : Int32) q1 y1 hy1 (.val (.int x3)) rfl y4 hy4 _ hr
def f_execute_30 (n : Nat) (x2 x3 z0 : Int32) (s : St) : Option (St) :=
  if (1056 : Int32) < (x3 + z0) then
    f_execute_51 n x2 x3 (1056 : Int32) s
  else
    f_execute_51 n x2 x3 (x3 + z0) s
set_option maxRecDepth 100000 in
theorem e_execute_30 {g : GT} {n : Nat} (hw : HW g) {K : St → MHeap} {o : Nat} {r : Nat → Nat} (V : View (GG g) Ln K o r) (x2 x3 z0 : Int32) (s : St) (y1 : Slot) (hy1 : one1 y1 = true) (y4 : Slot) (hy4 : one1 y4 = true) (y5 : Slot) (hy5 : one1 y5 = true) (y6 : Slot) (hy6 : one1 y6 = true) (y7 : Slot) (hy7 : one1 y7 = true) (w : St) (hr : f_execute_30 n x2 x3 z0 s = some w) : Ev (GG g) M_execute 30 [.val (.ref o), y1, .val (.int x2), .val (.int x3), y4, y5, y6, y7] [.int z0] (K s) (none, (K w)) := by
  unfold f_execute_30 at hr
  refine Ev.istD (L' := [.val (.ref o), y1, .val (.int x2), .val (.int x3), .val (.int z0), y5, y6, y7]) (d55 17 rfl) rfl hy4 rfl ?_
  refine Ev.iloadN (d55 18 rfl) rfl ?_
  refine Ev.iload (d55 19 rfl) rfl ?_
  refine Ev.iadd (d55 20 rfl) ?_
  refine Ev.istD (L' := [.val (.ref o), y1, .val (.int x2), .val (.int x3), .val (.int z0), .val (.int (x3 + z0)), y6, y7]) (d55 21 rfl) rfl hy5 rfl ?_
  refine Ev.iload (d55 22 rfl) rfl ?_
  refine Ev.sipush (z := 1056) (d55 23 rfl) rfl ?_
  refine Ev.icle (t := 51) (d55 24 rfl) rfl (fun c1 => ?_) (fun c1 => ?_)
  · replace hr := own_ip c1 hr
    refine Ev.sipush (z := 1056) (d55 25 rfl) rfl ?_
    refine Ev.istD (L' := [.val (.ref o), y1, .val (.int x2), .val (.int x3), .val (.int z0), .val (.int (1056 : Int32)), y6, y7]) (d55 26 rfl) rfl rfl rfl ?_
    exact e_execute_51 hw V  x2 x3 (1056 : Int32) s y1 hy1 (.val (.int z0)) rfl y6 hy6 y7 hy7 _ hr
  · replace hr := own_iq c1 hr
    exact e_execute_51 hw V  x2 x3 (x3 + z0) s y1 hy1 (.val (.int z0)) rfl y6 hy6 y7 hy7 _ hr
def f_execute_14 (n : Nat) (x2 z0 : Int32) (s : St) : Option (St) :=
  if x2 = 0 then
    f_execute_30 n x2 z0 (s.1 38) s
  else
    f_execute_30 n x2 z0 (s.1 40) s
set_option maxRecDepth 100000 in
theorem e_execute_14 {g : GT} {n : Nat} (hw : HW g) {K : St → MHeap} {o : Nat} {r : Nat → Nat} (V : View (GG g) Ln K o r) (x2 z0 : Int32) (s : St) (y1 : Slot) (hy1 : one1 y1 = true) (y3 : Slot) (hy3 : one1 y3 = true) (y4 : Slot) (hy4 : one1 y4 = true) (y5 : Slot) (hy5 : one1 y5 = true) (y6 : Slot) (hy6 : one1 y6 = true) (y7 : Slot) (hy7 : one1 y7 = true) (w : St) (hr : f_execute_14 n x2 z0 s = some w) : Ev (GG g) M_execute 14 [.val (.ref o), y1, .val (.int x2), y3, y4, y5, y6, y7] [.int z0] (K s) (none, (K w)) := by
  unfold f_execute_14 at hr
  refine Ev.istDN (L' := [.val (.ref o), y1, .val (.int x2), .val (.int z0), y4, y5, y6, y7]) (d55 9 rfl) rfl hy3 rfl ?_
  refine Ev.iloadN (d55 10 rfl) rfl ?_
  refine Ev.ifne (t := 26) (d55 11 rfl) rfl (fun c1 => ?_) (fun c1 => ?_)
  · replace hr := own_ip c1 hr
    refine Ev.aloadN (d55 12 rfl) rfl ?_
    refine Ev.gI V (ww hw 134 rfl) (d55 13 rfl) (j := 38) rfl rfl ?_
    refine Ev.goto (t := 30) (d55 14 rfl) rfl ?_
    exact e_execute_30 hw V  x2 z0 (s.1 38) s y1 hy1 y4 hy4 y5 hy5 y6 hy6 y7 hy7 _ hr
  · replace hr := own_iq c1 hr
    refine Ev.aloadN (d55 15 rfl) rfl ?_
    refine Ev.gI V (ww hw 146 rfl) (d55 16 rfl) (j := 40) rfl rfl ?_
    exact e_execute_30 hw V  x2 z0 (s.1 40) s y1 hy1 y4 hy4 y5 hy5 y6 hy6 y7 hy7 _ hr
def f_execute (n : Nat) (a0 : Int32) (s : St) : Option (St) :=
  if (a0 &&& (1 : Int32)) = 0 then
    f_execute_14 n (a0 &&& (1 : Int32)) (0 : Int32) s
  else
    f_execute_14 n (a0 &&& (1 : Int32)) (32 : Int32) s
set_option maxRecDepth 100000 in
theorem e_execute {g : GT} {n : Nat} {a0 : Int32} {s : St} {w : St} (hw : HW g) {K : St → MHeap} {o : Nat} {r : Nat → Nat} (V : View (GG g) Ln K o r) (hr : f_execute n a0 s = some w) : EvC (GG g) M_execute [.ref o, .int a0] (K s) (none, (K w)) := by
  refine EvC.enter (L0 := [.val (.ref o), .val (.int a0), .unset, .unset, .unset, .unset, .unset, .unset]) pl_execute (fun _ => rfl) rfl rfl ?_
  unfold f_execute at hr
  refine Ev.iloadN (d55 0 rfl) rfl ?_
  refine Ev.iconst (z := 1) (d55 1 rfl) rfl ?_
  refine Ev.iand (d55 2 rfl) ?_
  refine Ev.istDN (L' := [.val (.ref o), .val (.int a0), .val (.int (a0 &&& (1 : Int32))), .unset, .unset, .unset, .unset, .unset]) (d55 3 rfl) rfl rfl rfl ?_
  refine Ev.iloadN (d55 4 rfl) rfl ?_
  refine Ev.ifne (t := 12) (d55 5 rfl) rfl (fun c1 => ?_) (fun c1 => ?_)
  · replace hr := own_ip c1 hr
    refine Ev.iconst (z := 0) (d55 6 rfl) rfl ?_
    refine Ev.goto (t := 14) (d55 7 rfl) rfl ?_
    exact e_execute_14 hw V  (a0 &&& (1 : Int32)) (0 : Int32) s (.val (.int a0)) rfl .unset rfl .unset rfl .unset rfl .unset rfl .unset rfl _ hr
  · replace hr := own_iq c1 hr
    refine Ev.bipush (z := 32) (d55 8 rfl) rfl ?_
    exact e_execute_14 hw V  (a0 &&& (1 : Int32)) (32 : Int32) s (.val (.int a0)) rfl .unset rfl .unset rfl .unset rfl .unset rfl .unset rfl _ hr
def f_run (n : Nat) (s : St) : Option (Int32 × St) :=
  if (s.1 37) = 0 then
    some ((-8 : Int32), s)
  else
    (f_execute n (0 : Int32) s).bind fun q2 =>
    (f_execute n (1 : Int32) q2).bind fun q4 =>
    some ((0 : Int32), q4)
set_option maxRecDepth 100000 in
theorem e_run {g : GT} {n : Nat} {s : St} {w : Int32 × St} (hw : HW g) {K : St → MHeap} {o : Nat} {r : Nat → Nat} (V : View (GG g) Ln K o r) (hr : f_run n s = some w) : EvC (GG g) M_run [.ref o] (K s) ((some (.int w.1)), (K w.2)) := by
  refine EvC.enter (L0 := [.val (.ref o)]) pl_run (fun h => nomatch h) rfl rfl ?_
  unfold f_run at hr
  refine Ev.aloadN (d54 0 rfl) rfl ?_
  refine Ev.gI V (ww hw 115 rfl) (d54 1 rfl) (j := 37) rfl rfl ?_
  refine Ev.ifne (t := 10) (d54 2 rfl) rfl (fun c1 => ?_) (fun c1 => ?_)
  · replace hr := own_ip c1 hr
    refine Ev.bipush (z := -8) (d54 3 rfl) rfl ?_
    cases hr
    exact Ev.ireturn rfl (d54 4 rfl)
  · replace hr := own_iq c1 hr
    refine Ev.aloadN (d54 5 rfl) rfl ?_
    refine Ev.iconst (z := 0) (d54 6 rfl) rfl ?_
    obtain ⟨q2, hq3, hr⟩ := Option.bind_eq_some_iff.mp hr
    refine Ev.priv (y := M_execute) (args := [.int (0 : Int32)]) (rest := []) (gok hw) rfl nm_execute (ww hw 321 rfl) (ww hw 322 rfl) (ww hw 323 rfl) (ww hw 324 rfl) (lenOf pd_execute rfl) (d54 7 rfl) (V.2.1 s) (e_execute hw V hq3) (by decide) (Nat.le_of_ble_eq_true rfl) rfl ?_
    refine Ev.aloadN (d54 8 rfl) rfl ?_
    refine Ev.iconst (z := 1) (d54 9 rfl) rfl ?_
    obtain ⟨q4, hq5, hr⟩ := Option.bind_eq_some_iff.mp hr
    refine Ev.priv (y := M_execute) (args := [.int (1 : Int32)]) (rest := []) (gok hw) rfl nm_execute (ww hw 321 rfl) (ww hw 322 rfl) (ww hw 323 rfl) (ww hw 324 rfl) (lenOf pd_execute rfl) (d54 10 rfl) (V.2.1 q2) (e_execute hw V hq5) (by decide) (Nat.le_of_ble_eq_true rfl) rfl ?_
    refine Ev.iconst (z := 0) (d54 11 rfl) rfl ?_
    cases hr
    exact Ev.ireturn rfl (d54 12 rfl)
def f_outputCount_11 (s : St) (x1 : Int32) : Option (Int32) :=
  grd (inb x1 2) <|
  some (s.2 14 (ix x1))
set_option maxRecDepth 100000 in
theorem e_outputCount_11 {g : GT} {s : St} (hw : HW g) {K : St → MHeap} {o : Nat} {r : Nat → Nat} (V : View (GG g) Ln K o r) (x1 w : Int32) (hr : f_outputCount_11 s x1 = some w) : Ev (GG g) M_outputCount 11 [.val (.ref o), .val (.int x1)] [] (K s) ((some (.int w)), (K s)) := by
  unfold f_outputCount_11 at hr
  refine Ev.aloadN (d64 7 rfl) rfl ?_
  refine Ev.gAr V (ww hw 38 rfl) (d64 8 rfl) (j := 14) rfl ?_
  refine Ev.iloadN (d64 9 rfl) rfl ?_
  obtain ⟨b1, hr⟩ := grd_some hr
  refine Ev.ial V (j := 14) rfl rfl (d64 10 rfl) b1 ?_
  cases hr
  exact Ev.ireturn rfl (d64 11 rfl)
def f_outputCount (s : St) (a0 : Int32) : Option (Int32) :=
  if a0 = 0 then
    f_outputCount_11 s a0
  else
    if a0 = (1 : Int32) then
      f_outputCount_11 s a0
    else
      some (0 : Int32)
set_option maxRecDepth 100000 in
theorem e_outputCount {g : GT} {s : St} {a0 : Int32} {w : Int32} (hw : HW g) {K : St → MHeap} {o : Nat} {r : Nat → Nat} (V : View (GG g) Ln K o r) (hr : f_outputCount s a0 = some w) : EvC (GG g) M_outputCount [.ref o, .int a0] (K s) ((some (.int w)), (K s)) := by
  refine EvC.enter (L0 := [.val (.ref o), .val (.int a0)]) pl_outputCount (fun h => nomatch h) rfl rfl ?_
  unfold f_outputCount at hr
  refine Ev.iloadN (d64 0 rfl) rfl ?_
  refine Ev.ifeq (t := 11) (d64 1 rfl) rfl (fun c1 => ?_) (fun c1 => ?_)
  · replace hr := own_ip c1 hr
    exact e_outputCount_11 hw V  a0  _ hr
  · replace hr := own_iq c1 hr
    refine Ev.iloadN (d64 2 rfl) rfl ?_
    refine Ev.iconst (z := 1) (d64 3 rfl) rfl ?_
    refine Ev.iceq (t := 11) (d64 4 rfl) rfl (fun c2 => ?_) (fun c2 => ?_)
    · replace hr := own_ip c2 hr
      exact e_outputCount_11 hw V  a0  _ hr
    · replace hr := own_iq c2 hr
      refine Ev.iconst (z := 0) (d64 5 rfl) rfl ?_
      cases hr
      exact Ev.ireturn rfl (d64 6 rfl)
def f_variable_11 (s : St) (x1 x2 : Int32) : Option (Int32) :=
  if x2 < 0 then
    some (0 : Int32)
  else
    if x2 < (4 : Int32) then
      grd (inb ((x1 * (4 : Int32)) + x2) 8) <|
      some (s.2 16 (ix ((x1 * (4 : Int32)) + x2)))
    else
      some (0 : Int32)
set_option maxRecDepth 100000 in
theorem e_variable_11 {g : GT} {s : St} (hw : HW g) {K : St → MHeap} {o : Nat} {r : Nat → Nat} (V : View (GG g) Ln K o r) (x1 x2 w : Int32) (hr : f_variable_11 s x1 x2 = some w) : Ev (GG g) M_variable 11 [.val (.ref o), .val (.int x1), .val (.int x2)] [] (K s) ((some (.int w)), (K s)) := by
  unfold f_variable_11 at hr
  refine Ev.iloadN (d65 7 rfl) rfl ?_
  refine Ev.iflt (t := 20) (d65 8 rfl) rfl (fun c1 => ?_) (fun c1 => ?_)
  · replace hr := own_ip c1 hr
    refine Ev.iconst (z := 0) (d65 12 rfl) rfl ?_
    cases hr
    exact Ev.ireturn rfl (d65 13 rfl)
  · replace hr := own_iq c1 hr
    refine Ev.iloadN (d65 9 rfl) rfl ?_
    refine Ev.iconst (z := 4) (d65 10 rfl) rfl ?_
    refine Ev.iclt (t := 22) (d65 11 rfl) rfl (fun c2 => ?_) (fun c2 => ?_)
    · replace hr := own_ip c2 hr
      refine Ev.aloadN (d65 14 rfl) rfl ?_
      refine Ev.gAr V (ww hw 42 rfl) (d65 15 rfl) (j := 16) rfl ?_
      refine Ev.iloadN (d65 16 rfl) rfl ?_
      refine Ev.iconst (z := 4) (d65 17 rfl) rfl ?_
      refine Ev.imul (d65 18 rfl) ?_
      refine Ev.iloadN (d65 19 rfl) rfl ?_
      refine Ev.iadd (d65 20 rfl) ?_
      obtain ⟨b3, hr⟩ := grd_some hr
      refine Ev.ial V (j := 16) rfl rfl (d65 21 rfl) b3 ?_
      cases hr
      exact Ev.ireturn rfl (d65 22 rfl)
    · replace hr := own_iq c2 hr
      refine Ev.iconst (z := 0) (d65 12 rfl) rfl ?_
      cases hr
      exact Ev.ireturn rfl (d65 13 rfl)
def f_variable (s : St) (a0 a1 : Int32) : Option (Int32) :=
  if a0 = 0 then
    f_variable_11 s a0 a1
  else
    if a0 = (1 : Int32) then
      f_variable_11 s a0 a1
    else
      some (0 : Int32)
set_option maxRecDepth 100000 in
theorem e_variable {g : GT} {s : St} {a0 : Int32} {a1 : Int32} {w : Int32} (hw : HW g) {K : St → MHeap} {o : Nat} {r : Nat → Nat} (V : View (GG g) Ln K o r) (hr : f_variable s a0 a1 = some w) : EvC (GG g) M_variable [.ref o, .int a0, .int a1] (K s) ((some (.int w)), (K s)) := by
  refine EvC.enter (L0 := [.val (.ref o), .val (.int a0), .val (.int a1)]) pl_variable (fun h => nomatch h) rfl rfl ?_
  unfold f_variable at hr
  refine Ev.iloadN (d65 0 rfl) rfl ?_
  refine Ev.ifeq (t := 11) (d65 1 rfl) rfl (fun c1 => ?_) (fun c1 => ?_)
  · replace hr := own_ip c1 hr
    exact e_variable_11 hw V  a0 a1  _ hr
  · replace hr := own_iq c1 hr
    refine Ev.iloadN (d65 2 rfl) rfl ?_
    refine Ev.iconst (z := 1) (d65 3 rfl) rfl ?_
    refine Ev.iceq (t := 11) (d65 4 rfl) rfl (fun c2 => ?_) (fun c2 => ?_)
    · replace hr := own_ip c2 hr
      exact e_variable_11 hw V  a0 a1  _ hr
    · replace hr := own_iq c2 hr
      refine Ev.iconst (z := 0) (d65 5 rfl) rfl ?_
      cases hr
      exact Ev.ireturn rfl (d65 6 rfl)
def f_output_27 (s : St) (x1 x2 x3 : Int32) : Option (Int32) :=
  if x2 < 0 then
    some (0 : Int32)
  else
    if x2 < x3 then
      grd (inb ((x1 * (32 : Int32)) + x2) 64) <|
      some (s.2 15 (ix ((x1 * (32 : Int32)) + x2)))
    else
      some (0 : Int32)
set_option maxRecDepth 100000 in
theorem e_output_27 {g : GT} {s : St} (hw : HW g) {K : St → MHeap} {o : Nat} {r : Nat → Nat} (V : View (GG g) Ln K o r) (x1 x2 x3 w : Int32) (hr : f_output_27 s x1 x2 x3 = some w) : Ev (GG g) M_output 27 [.val (.ref o), .val (.int x1), .val (.int x2), .val (.int x3)] [] (K s) ((some (.int w)), (K s)) := by
  unfold f_output_27 at hr
  refine Ev.iloadN (d66 17 rfl) rfl ?_
  refine Ev.iflt (t := 36) (d66 18 rfl) rfl (fun c1 => ?_) (fun c1 => ?_)
  · replace hr := own_ip c1 hr
    refine Ev.iconst (z := 0) (d66 22 rfl) rfl ?_
    cases hr
    exact Ev.ireturn rfl (d66 23 rfl)
  · replace hr := own_iq c1 hr
    refine Ev.iloadN (d66 19 rfl) rfl ?_
    refine Ev.iloadN (d66 20 rfl) rfl ?_
    refine Ev.iclt (t := 38) (d66 21 rfl) rfl (fun c2 => ?_) (fun c2 => ?_)
    · replace hr := own_ip c2 hr
      refine Ev.aloadN (d66 24 rfl) rfl ?_
      refine Ev.gAr V (ww hw 40 rfl) (d66 25 rfl) (j := 15) rfl ?_
      refine Ev.iloadN (d66 26 rfl) rfl ?_
      refine Ev.bipush (z := 32) (d66 27 rfl) rfl ?_
      refine Ev.imul (d66 28 rfl) ?_
      refine Ev.iloadN (d66 29 rfl) rfl ?_
      refine Ev.iadd (d66 30 rfl) ?_
      obtain ⟨b3, hr⟩ := grd_some hr
      refine Ev.ial V (j := 15) rfl rfl (d66 31 rfl) b3 ?_
      cases hr
      exact Ev.ireturn rfl (d66 32 rfl)
    · replace hr := own_iq c2 hr
      refine Ev.iconst (z := 0) (d66 22 rfl) rfl ?_
      cases hr
      exact Ev.ireturn rfl (d66 23 rfl)
def f_output_11 (s : St) (x1 x2 : Int32) : Option (Int32) :=
  grd (inb x1 2) <|
  if (32 : Int32) < (s.2 14 (ix x1)) then
    f_output_27 s x1 x2 (32 : Int32)
  else
    f_output_27 s x1 x2 (s.2 14 (ix x1))
set_option maxRecDepth 100000 in
theorem e_output_11 {g : GT} {s : St} (hw : HW g) {K : St → MHeap} {o : Nat} {r : Nat → Nat} (V : View (GG g) Ln K o r) (x1 x2 : Int32) (y3 : Slot) (hy3 : one1 y3 = true) (w : Int32) (hr : f_output_11 s x1 x2 = some w) : Ev (GG g) M_output 11 [.val (.ref o), .val (.int x1), .val (.int x2), y3] [] (K s) ((some (.int w)), (K s)) := by
  unfold f_output_11 at hr
  refine Ev.aloadN (d66 7 rfl) rfl ?_
  refine Ev.gAr V (ww hw 38 rfl) (d66 8 rfl) (j := 14) rfl ?_
  refine Ev.iloadN (d66 9 rfl) rfl ?_
  obtain ⟨b1, hr⟩ := grd_some hr
  refine Ev.ial V (j := 14) rfl rfl (d66 10 rfl) b1 ?_
  refine Ev.istDN (L' := [.val (.ref o), .val (.int x1), .val (.int x2), .val (.int (s.2 14 (ix x1)))]) (d66 11 rfl) rfl hy3 rfl ?_
  refine Ev.iloadN (d66 12 rfl) rfl ?_
  refine Ev.bipush (z := 32) (d66 13 rfl) rfl ?_
  refine Ev.icle (t := 27) (d66 14 rfl) rfl (fun c2 => ?_) (fun c2 => ?_)
  · replace hr := own_ip c2 hr
    refine Ev.bipush (z := 32) (d66 15 rfl) rfl ?_
    refine Ev.istDN (L' := [.val (.ref o), .val (.int x1), .val (.int x2), .val (.int (32 : Int32))]) (d66 16 rfl) rfl rfl rfl ?_
    exact e_output_27 hw V  x1 x2 (32 : Int32)  _ hr
  · replace hr := own_iq c2 hr
    exact e_output_27 hw V  x1 x2 (s.2 14 (ix x1))  _ hr
def f_output (s : St) (a0 a1 : Int32) : Option (Int32) :=
  if a0 = 0 then
    f_output_11 s a0 a1
  else
    if a0 = (1 : Int32) then
      f_output_11 s a0 a1
    else
      some (0 : Int32)
set_option maxRecDepth 100000 in
theorem e_output {g : GT} {s : St} {a0 : Int32} {a1 : Int32} {w : Int32} (hw : HW g) {K : St → MHeap} {o : Nat} {r : Nat → Nat} (V : View (GG g) Ln K o r) (hr : f_output s a0 a1 = some w) : EvC (GG g) M_output [.ref o, .int a0, .int a1] (K s) ((some (.int w)), (K s)) := by
  refine EvC.enter (L0 := [.val (.ref o), .val (.int a0), .val (.int a1), .unset]) pl_output (fun h => nomatch h) rfl rfl ?_
  unfold f_output at hr
  refine Ev.iloadN (d66 0 rfl) rfl ?_
  refine Ev.ifeq (t := 11) (d66 1 rfl) rfl (fun c1 => ?_) (fun c1 => ?_)
  · replace hr := own_ip c1 hr
    exact e_output_11 hw V  a0 a1 .unset rfl _ hr
  · replace hr := own_iq c1 hr
    refine Ev.iloadN (d66 2 rfl) rfl ?_
    refine Ev.iconst (z := 1) (d66 3 rfl) rfl ?_
    refine Ev.iceq (t := 11) (d66 4 rfl) rfl (fun c2 => ?_) (fun c2 => ?_)
    · replace hr := own_ip c2 hr
      exact e_output_11 hw V  a0 a1 .unset rfl _ hr
    · replace hr := own_iq c2 hr
      refine Ev.iconst (z := 0) (d66 5 rfl) rfl ?_
      cases hr
      exact Ev.ireturn rfl (d66 6 rfl)
def f_law_580 (n : Nat) (k514 : Int32 → Int32 → Int32 → Int32 → Int32 → Int32 → St → Option (Int32 × St)) (x1 x4 x7 x8 x9 z0 z1 : Int32) (s : St) : Option (Int32 × St) :=
  k514 x1 x4 (z1 &&& z0) x7 x8 (x9 + (1 : Int32)) s
set_option maxRecDepth 100000 in
theorem e_law_580 {g : GT} {n : Nat} (hw : HW g) {K : St → MHeap} {o : Nat} {r : Nat → Nat} (V : View (GG g) Ln K o r) {k514 : Int32 → Int32 → Int32 → Int32 → Int32 → Int32 → St → Option (Int32 × St)} (hk514 : ∀ (x1 x4 x6 x7 x8 x9 : Int32) (s : St) (y0 : Slot) (hy0 : one1 y0 = true) (y2 : Slot) (hy2 : one1 y2 = true) (y3 : Slot) (hy3 : one1 y3 = true) (y10 : Slot) (hy10 : one1 y10 = true) (w : Int32 × St), k514 x1 x4 x6 x7 x8 x9 s = some w → Ev (GG g) M_law 514 [y0, .val (.int x1), y2, y3, .val (.int x4), .val (.ref o), .val (.int x6), .val (.int x7), .val (.int x8), .val (.int x9), y10] [] (K s) ((some (.int w.1)), (K w.2))) (x1 x4 x7 x8 x9 z0 z1 : Int32) (s : St) (y0 : Slot) (hy0 : one1 y0 = true) (y2 : Slot) (hy2 : one1 y2 = true) (y3 : Slot) (hy3 : one1 y3 = true) (y6 : Slot) (hy6 : one1 y6 = true) (y10 : Slot) (hy10 : one1 y10 = true) (w : Int32 × St) (hr : f_law_580 n k514 x1 x4 x7 x8 x9 z0 z1 s = some w) : Ev (GG g) M_law 580 [y0, .val (.int x1), y2, y3, .val (.int x4), .val (.ref o), y6, .val (.int x7), .val (.int x8), .val (.int x9), y10] [.int z0, .int z1] (K s) ((some (.int w.1)), (K w.2)) := by
  unfold f_law_580 at hr
  refine Ev.iand at_580 ?_
  refine Ev.istD (L' := [y0, .val (.int x1), y2, y3, .val (.int x4), .val (.ref o), .val (.int (z1 &&& z0)), .val (.int x7), .val (.int x8), .val (.int x9), y10]) at_581 rfl hy6 rfl ?_
  refine Ev.iinc (z := 1) (L' := [y0, .val (.int x1), y2, y3, .val (.int x4), .val (.ref o), .val (.int (z1 &&& z0)), .val (.int x7), .val (.int x8), .val (.int (x9 + (1 : Int32))), y10]) at_583 rfl rfl rfl ?_
  refine Ev.goto (t := 514) at_586 rfl ?_
  exact hk514 x1 x4 (z1 &&& z0) x7 x8 (x9 + (1 : Int32)) s y0 hy0 y2 hy2 y3 hy3 y10 hy10 _ hr
def f_law_557 (n : Nat) (k514 : Int32 → Int32 → Int32 → Int32 → Int32 → Int32 → St → Option (Int32 × St)) (x1 x4 x7 x8 x9 x10 z0 z1 : Int32) (s : St) : Option (Int32 × St) :=
  (f_output s (1 : Int32) x9).bind fun q1 =>
  if q1 = x10 then
    f_law_580 n k514 x1 x4 x7 x8 x9 (1 : Int32) (z1 &&& z0) s
  else
    f_law_580 n k514 x1 x4 x7 x8 x9 (0 : Int32) (z1 &&& z0) s
set_option maxRecDepth 100000 in
theorem e_law_557 {g : GT} {n : Nat} (hw : HW g) {K : St → MHeap} {o : Nat} {r : Nat → Nat} (V : View (GG g) Ln K o r) {k514 : Int32 → Int32 → Int32 → Int32 → Int32 → Int32 → St → Option (Int32 × St)} (hk514 : ∀ (x1 x4 x6 x7 x8 x9 : Int32) (s : St) (y0 : Slot) (hy0 : one1 y0 = true) (y2 : Slot) (hy2 : one1 y2 = true) (y3 : Slot) (hy3 : one1 y3 = true) (y10 : Slot) (hy10 : one1 y10 = true) (w : Int32 × St), k514 x1 x4 x6 x7 x8 x9 s = some w → Ev (GG g) M_law 514 [y0, .val (.int x1), y2, y3, .val (.int x4), .val (.ref o), .val (.int x6), .val (.int x7), .val (.int x8), .val (.int x9), y10] [] (K s) ((some (.int w.1)), (K w.2))) (x1 x4 x7 x8 x9 x10 z0 z1 : Int32) (s : St) (y0 : Slot) (hy0 : one1 y0 = true) (y2 : Slot) (hy2 : one1 y2 = true) (y3 : Slot) (hy3 : one1 y3 = true) (y6 : Slot) (hy6 : one1 y6 = true) (w : Int32 × St) (hr : f_law_557 n k514 x1 x4 x7 x8 x9 x10 z0 z1 s = some w) : Ev (GG g) M_law 557 [y0, .val (.int x1), y2, y3, .val (.int x4), .val (.ref o), y6, .val (.int x7), .val (.int x8), .val (.int x9), .val (.int x10)] [.int z0, .int z1] (K s) ((some (.int w.1)), (K w.2)) := by
  unfold f_law_557 at hr
  refine Ev.iand at_557 ?_
  refine Ev.istD (L' := [y0, .val (.int x1), y2, y3, .val (.int x4), .val (.ref o), .val (.int (z1 &&& z0)), .val (.int x7), .val (.int x8), .val (.int x9), .val (.int x10)]) at_558 rfl hy6 rfl ?_
  refine Ev.iload at_560 rfl ?_
  refine Ev.aload at_562 rfl ?_
  refine Ev.iconst (z := 1) at_564 rfl ?_
  refine Ev.iload at_565 rfl ?_
  obtain ⟨q1, hq2, hr⟩ := Option.bind_eq_some_iff.mp hr
  refine Ev.virt (y := M_output) (args := [.int (1 : Int32), .int x9]) (rest := [.int (z1 &&& z0)]) (gok hw) rfl nm_output (ww hw 368 rfl) (ww hw 369 rfl) (ww hw 370 rfl) (ww hw 371 rfl) (ww hw 372 rfl) (lenOf pd_output rfl) at_567 (V.2.1 s) (e_output hw V hq2) (by decide) (Nat.le_of_ble_eq_true rfl) rfl ?_
  refine Ev.iload at_570 rfl ?_
  refine Ev.icne (t := 579) at_572 rfl (fun c3 => ?_) (fun c3 => ?_)
  · replace hr := own_ip c3 hr
    refine Ev.iconst (z := 1) at_575 rfl ?_
    refine Ev.goto (t := 580) at_576 rfl ?_
    exact e_law_580 hw V hk514 x1 x4 x7 x8 x9 (1 : Int32) (z1 &&& z0) s y0 hy0 y2 hy2 y3 hy3 (.val (.int (z1 &&& z0))) rfl (.val (.int x10)) rfl _ hr
  · replace hr := own_iq c3 hr
    refine Ev.iconst (z := 0) at_579 rfl ?_
    exact e_law_580 hw V hk514 x1 x4 x7 x8 x9 (0 : Int32) (z1 &&& z0) s y0 hy0 y2 hy2 y3 hy3 (.val (.int (z1 &&& z0))) rfl (.val (.int x10)) rfl _ hr
def f_law_638 (n : Nat) (z0 z1 : Int32) (s : St) : Option (Int32 × St) :=
  some (((z1 &&& z0) &&& 1), s)
set_option maxRecDepth 100000 in
theorem e_law_638 {g : GT} {n : Nat} (hw : HW g) {K : St → MHeap} {o : Nat} {r : Nat → Nat} (V : View (GG g) Ln K o r) (z0 z1 : Int32) (s : St) (y0 : Slot) (hy0 : one1 y0 = true) (y1 : Slot) (hy1 : one1 y1 = true) (y2 : Slot) (hy2 : one1 y2 = true) (y3 : Slot) (hy3 : one1 y3 = true) (y4 : Slot) (hy4 : one1 y4 = true) (y5 : Slot) (hy5 : one1 y5 = true) (y6 : Slot) (hy6 : one1 y6 = true) (y7 : Slot) (hy7 : one1 y7 = true) (y8 : Slot) (hy8 : one1 y8 = true) (y9 : Slot) (hy9 : one1 y9 = true) (y10 : Slot) (hy10 : one1 y10 = true) (w : Int32 × St) (hr : f_law_638 n z0 z1 s = some w) : Ev (GG g) M_law 638 [y0, y1, y2, y3, y4, y5, y6, y7, y8, y9, y10] [.int z0, .int z1] (K s) ((some (.int w.1)), (K w.2)) := by
  unfold f_law_638 at hr
  refine Ev.iand at_638 ?_
  refine Ev.istD (L' := [y0, y1, y2, y3, y4, y5, .val (.int (z1 &&& z0)), y7, y8, y9, y10]) at_639 rfl hy6 rfl ?_
  refine Ev.iload at_641 rfl ?_
  cases hr
  exact Ev.zreturn rfl at_643
def f_law_615 (n : Nat) (x4 x9 z0 z1 : Int32) (s : St) : Option (Int32 × St) :=
  (f_output s (1 : Int32) x4).bind fun q1 =>
  if q1 = x9 then
    f_law_638 n (1 : Int32) (z1 &&& z0) s
  else
    f_law_638 n (0 : Int32) (z1 &&& z0) s
set_option maxRecDepth 100000 in
theorem e_law_615 {g : GT} {n : Nat} (hw : HW g) {K : St → MHeap} {o : Nat} {r : Nat → Nat} (V : View (GG g) Ln K o r) (x4 x9 z0 z1 : Int32) (s : St) (y0 : Slot) (hy0 : one1 y0 = true) (y1 : Slot) (hy1 : one1 y1 = true) (y2 : Slot) (hy2 : one1 y2 = true) (y3 : Slot) (hy3 : one1 y3 = true) (y6 : Slot) (hy6 : one1 y6 = true) (y7 : Slot) (hy7 : one1 y7 = true) (y8 : Slot) (hy8 : one1 y8 = true) (y10 : Slot) (hy10 : one1 y10 = true) (w : Int32 × St) (hr : f_law_615 n x4 x9 z0 z1 s = some w) : Ev (GG g) M_law 615 [y0, y1, y2, y3, .val (.int x4), .val (.ref o), y6, y7, y8, .val (.int x9), y10] [.int z0, .int z1] (K s) ((some (.int w.1)), (K w.2)) := by
  unfold f_law_615 at hr
  refine Ev.iand at_615 ?_
  refine Ev.istD (L' := [y0, y1, y2, y3, .val (.int x4), .val (.ref o), .val (.int (z1 &&& z0)), y7, y8, .val (.int x9), y10]) at_616 rfl hy6 rfl ?_
  refine Ev.iload at_618 rfl ?_
  refine Ev.aload at_620 rfl ?_
  refine Ev.iconst (z := 1) at_622 rfl ?_
  refine Ev.iload at_623 rfl ?_
  obtain ⟨q1, hq2, hr⟩ := Option.bind_eq_some_iff.mp hr
  refine Ev.virt (y := M_output) (args := [.int (1 : Int32), .int x4]) (rest := [.int (z1 &&& z0)]) (gok hw) rfl nm_output (ww hw 368 rfl) (ww hw 369 rfl) (ww hw 370 rfl) (ww hw 371 rfl) (ww hw 372 rfl) (lenOf pd_output rfl) at_625 (V.2.1 s) (e_output hw V hq2) (by decide) (Nat.le_of_ble_eq_true rfl) rfl ?_
  refine Ev.iload at_628 rfl ?_
  refine Ev.icne (t := 637) at_630 rfl (fun c3 => ?_) (fun c3 => ?_)
  · replace hr := own_ip c3 hr
    refine Ev.iconst (z := 1) at_633 rfl ?_
    refine Ev.goto (t := 638) at_634 rfl ?_
    exact e_law_638 hw V  (1 : Int32) (z1 &&& z0) s y0 hy0 y1 hy1 y2 hy2 y3 hy3 (.val (.int x4)) rfl (.val (.ref o)) rfl (.val (.int (z1 &&& z0))) rfl y7 hy7 y8 hy8 (.val (.int x9)) rfl y10 hy10 _ hr
  · replace hr := own_iq c3 hr
    refine Ev.iconst (z := 0) at_637 rfl ?_
    exact e_law_638 hw V  (0 : Int32) (z1 &&& z0) s y0 hy0 y1 hy1 y2 hy2 y3 hy3 (.val (.int x4)) rfl (.val (.ref o)) rfl (.val (.int (z1 &&& z0))) rfl y7 hy7 y8 hy8 (.val (.int x9)) rfl y10 hy10 _ hr
def f_law_514 (n : Nat) : Nat → Int32 → Int32 → Int32 → Int32 → Int32 → Int32 → St → Option (Int32 × St)
  | 0 => fun _ _ _ _ _ _ _ => none
  | k + 1 => fun x1 x4 x6 x7 x8 x9 s =>
    if x9 < (8 : Int32) then
      if x9 < x4 then
        (f_output s (0 : Int32) x9).bind fun q3 =>
        if q3 = ((x9 + (1 : Int32)) * x7) then
          f_law_557 n (f_law_514 n k) x1 x4 x7 x8 x9 ((x9 + (1 : Int32)) * x7) (1 : Int32) x6 s
        else
          f_law_557 n (f_law_514 n k) x1 x4 x7 x8 x9 ((x9 + (1 : Int32)) * x7) (0 : Int32) x6 s
      else
        f_law_514 n k x1 x4 x6 x7 x8 (x9 + (1 : Int32)) s
    else
      (f_output s (0 : Int32) x4).bind fun q6 =>
      if q6 = (x8 * x1) then
        f_law_615 n x4 (x8 * x1) (1 : Int32) x6 s
      else
        f_law_615 n x4 (x8 * x1) (0 : Int32) x6 s
set_option maxRecDepth 100000 in
theorem e_law_514 {g : GT} {n : Nat} (hw : HW g) {K : St → MHeap} {o : Nat} {r : Nat → Nat} (V : View (GG g) Ln K o r) (k : Nat) : ∀ (x1 x4 x6 x7 x8 x9 : Int32) (s : St) (y0 : Slot) (hy0 : one1 y0 = true) (y2 : Slot) (hy2 : one1 y2 = true) (y3 : Slot) (hy3 : one1 y3 = true) (y10 : Slot) (hy10 : one1 y10 = true) (w : Int32 × St), f_law_514 n k x1 x4 x6 x7 x8 x9 s = some w → Ev (GG g) M_law 514 [y0, .val (.int x1), y2, y3, .val (.int x4), .val (.ref o), .val (.int x6), .val (.int x7), .val (.int x8), .val (.int x9), y10] [] (K s) ((some (.int w.1)), (K w.2)) := by
  induction k with
  | zero => intro x1 x4 x6 x7 x8 x9 s y0 hy0 y2 hy2 y3 hy3 y10 hy10 w hr; rw [f_law_514] at hr; cases hr
  | succ k ih =>
    intro x1 x4 x6 x7 x8 x9 s y0 hy0 y2 hy2 y3 hy3 y10 hy10 w hr
    rw [f_law_514] at hr
    refine Ev.iload at_514 rfl ?_
    refine Ev.bipush (z := 8) at_516 rfl ?_
    refine Ev.icge (t := 589) at_518 rfl (fun c1 => ?_) (fun c1 => ?_)
    · replace hr := own_ip c1 hr
      refine Ev.iload at_521 rfl ?_
      refine Ev.iload at_523 rfl ?_
      refine Ev.icge (t := 583) at_525 rfl (fun c2 => ?_) (fun c2 => ?_)
      · replace hr := own_ip c2 hr
        refine Ev.iload at_528 rfl ?_
        refine Ev.iconst (z := 1) at_530 rfl ?_
        refine Ev.iadd at_531 ?_
        refine Ev.iload at_532 rfl ?_
        refine Ev.imul at_534 ?_
        refine Ev.istD (L' := [y0, .val (.int x1), y2, y3, .val (.int x4), .val (.ref o), .val (.int x6), .val (.int x7), .val (.int x8), .val (.int x9), .val (.int ((x9 + (1 : Int32)) * x7))]) at_535 rfl hy10 rfl ?_
        refine Ev.iload at_537 rfl ?_
        refine Ev.aload at_539 rfl ?_
        refine Ev.iconst (z := 0) at_541 rfl ?_
        refine Ev.iload at_542 rfl ?_
        obtain ⟨q3, hq4, hr⟩ := Option.bind_eq_some_iff.mp hr
        refine Ev.virt (y := M_output) (args := [.int (0 : Int32), .int x9]) (rest := [.int x6]) (gok hw) rfl nm_output (ww hw 368 rfl) (ww hw 369 rfl) (ww hw 370 rfl) (ww hw 371 rfl) (ww hw 372 rfl) (lenOf pd_output rfl) at_544 (V.2.1 s) (e_output hw V hq4) (by decide) (Nat.le_of_ble_eq_true rfl) rfl ?_
        refine Ev.iload at_547 rfl ?_
        refine Ev.icne (t := 556) at_549 rfl (fun c5 => ?_) (fun c5 => ?_)
        · replace hr := own_ip c5 hr
          refine Ev.iconst (z := 1) at_552 rfl ?_
          refine Ev.goto (t := 557) at_553 rfl ?_
          exact e_law_557 hw V ih x1 x4 x7 x8 x9 ((x9 + (1 : Int32)) * x7) (1 : Int32) x6 s y0 hy0 y2 hy2 y3 hy3 (.val (.int x6)) rfl _ hr
        · replace hr := own_iq c5 hr
          refine Ev.iconst (z := 0) at_556 rfl ?_
          exact e_law_557 hw V ih x1 x4 x7 x8 x9 ((x9 + (1 : Int32)) * x7) (0 : Int32) x6 s y0 hy0 y2 hy2 y3 hy3 (.val (.int x6)) rfl _ hr
      · replace hr := own_iq c2 hr
        refine Ev.iinc (z := 1) (L' := [y0, .val (.int x1), y2, y3, .val (.int x4), .val (.ref o), .val (.int x6), .val (.int x7), .val (.int x8), .val (.int (x9 + (1 : Int32))), y10]) at_583 rfl rfl rfl ?_
        refine Ev.goto (t := 514) at_586 rfl ?_
        exact ih x1 x4 x6 x7 x8 (x9 + (1 : Int32)) s y0 hy0 y2 hy2 y3 hy3 y10 hy10 _ hr
    · replace hr := own_iq c1 hr
      refine Ev.iload at_589 rfl ?_
      refine Ev.iloadN at_591 rfl ?_
      refine Ev.imul at_592 ?_
      refine Ev.istD (L' := [y0, .val (.int x1), y2, y3, .val (.int x4), .val (.ref o), .val (.int x6), .val (.int x7), .val (.int x8), .val (.int (x8 * x1)), y10]) at_593 rfl rfl rfl ?_
      refine Ev.iload at_595 rfl ?_
      refine Ev.aload at_597 rfl ?_
      refine Ev.iconst (z := 0) at_599 rfl ?_
      refine Ev.iload at_600 rfl ?_
      obtain ⟨q6, hq7, hr⟩ := Option.bind_eq_some_iff.mp hr
      refine Ev.virt (y := M_output) (args := [.int (0 : Int32), .int x4]) (rest := [.int x6]) (gok hw) rfl nm_output (ww hw 368 rfl) (ww hw 369 rfl) (ww hw 370 rfl) (ww hw 371 rfl) (ww hw 372 rfl) (lenOf pd_output rfl) at_602 (V.2.1 s) (e_output hw V hq7) (by decide) (Nat.le_of_ble_eq_true rfl) rfl ?_
      refine Ev.iload at_605 rfl ?_
      refine Ev.icne (t := 614) at_607 rfl (fun c8 => ?_) (fun c8 => ?_)
      · replace hr := own_ip c8 hr
        refine Ev.iconst (z := 1) at_610 rfl ?_
        refine Ev.goto (t := 615) at_611 rfl ?_
        exact e_law_615 hw V  x4 (x8 * x1) (1 : Int32) x6 s y0 hy0 (.val (.int x1)) rfl y2 hy2 y3 hy3 (.val (.int x6)) rfl (.val (.int x7)) rfl (.val (.int x8)) rfl y10 hy10 _ hr
      · replace hr := own_iq c8 hr
        refine Ev.iconst (z := 0) at_614 rfl ?_
        exact e_law_615 hw V  x4 (x8 * x1) (0 : Int32) x6 s y0 hy0 (.val (.int x1)) rfl y2 hy2 y3 hy3 (.val (.int x6)) rfl (.val (.int x7)) rfl (.val (.int x8)) rfl y10 hy10 _ hr
def f_law_508 (n : Nat) (x1 x4 x7 x8 z0 z1 : Int32) (s : St) : Option (Int32 × St) :=
  f_law_514 n n x1 x4 (z1 &&& z0) x7 x8 (0 : Int32) s
set_option maxRecDepth 100000 in
theorem e_law_508 {g : GT} {n : Nat} (hw : HW g) {K : St → MHeap} {o : Nat} {r : Nat → Nat} (V : View (GG g) Ln K o r) (x1 x4 x7 x8 z0 z1 : Int32) (s : St) (y0 : Slot) (hy0 : one1 y0 = true) (y2 : Slot) (hy2 : one1 y2 = true) (y3 : Slot) (hy3 : one1 y3 = true) (y6 : Slot) (hy6 : one1 y6 = true) (y9 : Slot) (hy9 : one1 y9 = true) (y10 : Slot) (hy10 : one1 y10 = true) (w : Int32 × St) (hr : f_law_508 n x1 x4 x7 x8 z0 z1 s = some w) : Ev (GG g) M_law 508 [y0, .val (.int x1), y2, y3, .val (.int x4), .val (.ref o), y6, .val (.int x7), .val (.int x8), y9, y10] [.int z0, .int z1] (K s) ((some (.int w.1)), (K w.2)) := by
  unfold f_law_508 at hr
  refine Ev.iand at_508 ?_
  refine Ev.istD (L' := [y0, .val (.int x1), y2, y3, .val (.int x4), .val (.ref o), .val (.int (z1 &&& z0)), .val (.int x7), .val (.int x8), y9, y10]) at_509 rfl hy6 rfl ?_
  refine Ev.iconst (z := 0) at_511 rfl ?_
  refine Ev.istD (L' := [y0, .val (.int x1), y2, y3, .val (.int x4), .val (.ref o), .val (.int (z1 &&& z0)), .val (.int x7), .val (.int x8), .val (.int (0 : Int32)), y10]) at_512 rfl hy9 rfl ?_
  exact e_law_514 hw V  n x1 x4 (z1 &&& z0) x7 x8 (0 : Int32) s y0 hy0 y2 hy2 y3 hy3 y10 hy10 _ hr
def f_law_486 (n : Nat) (x1 x4 x7 x8 z0 z1 : Int32) (s : St) : Option (Int32 × St) :=
  (f_variable s (1 : Int32) (0 : Int32)).bind fun q1 =>
  if q1 = x8 then
    f_law_508 n x1 x4 x7 x8 (1 : Int32) (z1 &&& z0) s
  else
    f_law_508 n x1 x4 x7 x8 (0 : Int32) (z1 &&& z0) s
set_option maxRecDepth 100000 in
theorem e_law_486 {g : GT} {n : Nat} (hw : HW g) {K : St → MHeap} {o : Nat} {r : Nat → Nat} (V : View (GG g) Ln K o r) (x1 x4 x7 x8 z0 z1 : Int32) (s : St) (y0 : Slot) (hy0 : one1 y0 = true) (y2 : Slot) (hy2 : one1 y2 = true) (y3 : Slot) (hy3 : one1 y3 = true) (y6 : Slot) (hy6 : one1 y6 = true) (y9 : Slot) (hy9 : one1 y9 = true) (y10 : Slot) (hy10 : one1 y10 = true) (w : Int32 × St) (hr : f_law_486 n x1 x4 x7 x8 z0 z1 s = some w) : Ev (GG g) M_law 486 [y0, .val (.int x1), y2, y3, .val (.int x4), .val (.ref o), y6, .val (.int x7), .val (.int x8), y9, y10] [.int z0, .int z1] (K s) ((some (.int w.1)), (K w.2)) := by
  unfold f_law_486 at hr
  refine Ev.iand at_486 ?_
  refine Ev.istD (L' := [y0, .val (.int x1), y2, y3, .val (.int x4), .val (.ref o), .val (.int (z1 &&& z0)), .val (.int x7), .val (.int x8), y9, y10]) at_487 rfl hy6 rfl ?_
  refine Ev.iload at_489 rfl ?_
  refine Ev.aload at_491 rfl ?_
  refine Ev.iconst (z := 1) at_493 rfl ?_
  refine Ev.iconst (z := 0) at_494 rfl ?_
  obtain ⟨q1, hq2, hr⟩ := Option.bind_eq_some_iff.mp hr
  refine Ev.virt (y := M_variable) (args := [.int (1 : Int32), .int (0 : Int32)]) (rest := [.int (z1 &&& z0)]) (gok hw) rfl nm_variable (ww hw 363 rfl) (ww hw 364 rfl) (ww hw 365 rfl) (ww hw 366 rfl) (ww hw 367 rfl) (lenOf pd_variable rfl) at_495 (V.2.1 s) (e_variable hw V hq2) (by decide) (Nat.le_of_ble_eq_true rfl) rfl ?_
  refine Ev.iload at_498 rfl ?_
  refine Ev.icne (t := 507) at_500 rfl (fun c3 => ?_) (fun c3 => ?_)
  · replace hr := own_ip c3 hr
    refine Ev.iconst (z := 1) at_503 rfl ?_
    refine Ev.goto (t := 508) at_504 rfl ?_
    exact e_law_508 hw V  x1 x4 x7 x8 (1 : Int32) (z1 &&& z0) s y0 hy0 y2 hy2 y3 hy3 (.val (.int (z1 &&& z0))) rfl y9 hy9 y10 hy10 _ hr
  · replace hr := own_iq c3 hr
    refine Ev.iconst (z := 0) at_507 rfl ?_
    exact e_law_508 hw V  x1 x4 x7 x8 (0 : Int32) (z1 &&& z0) s y0 hy0 y2 hy2 y3 hy3 (.val (.int (z1 &&& z0))) rfl y9 hy9 y10 hy10 _ hr
def f_law_464 (n : Nat) (x1 x4 x7 x8 z0 z1 : Int32) (s : St) : Option (Int32 × St) :=
  (f_variable s (0 : Int32) (0 : Int32)).bind fun q1 =>
  if q1 = x8 then
    f_law_486 n x1 x4 x7 x8 (1 : Int32) (z1 &&& z0) s
  else
    f_law_486 n x1 x4 x7 x8 (0 : Int32) (z1 &&& z0) s
set_option maxRecDepth 100000 in
theorem e_law_464 {g : GT} {n : Nat} (hw : HW g) {K : St → MHeap} {o : Nat} {r : Nat → Nat} (V : View (GG g) Ln K o r) (x1 x4 x7 x8 z0 z1 : Int32) (s : St) (y0 : Slot) (hy0 : one1 y0 = true) (y2 : Slot) (hy2 : one1 y2 = true) (y3 : Slot) (hy3 : one1 y3 = true) (y6 : Slot) (hy6 : one1 y6 = true) (y9 : Slot) (hy9 : one1 y9 = true) (y10 : Slot) (hy10 : one1 y10 = true) (w : Int32 × St) (hr : f_law_464 n x1 x4 x7 x8 z0 z1 s = some w) : Ev (GG g) M_law 464 [y0, .val (.int x1), y2, y3, .val (.int x4), .val (.ref o), y6, .val (.int x7), .val (.int x8), y9, y10] [.int z0, .int z1] (K s) ((some (.int w.1)), (K w.2)) := by
  unfold f_law_464 at hr
  refine Ev.iand at_464 ?_
  refine Ev.istD (L' := [y0, .val (.int x1), y2, y3, .val (.int x4), .val (.ref o), .val (.int (z1 &&& z0)), .val (.int x7), .val (.int x8), y9, y10]) at_465 rfl hy6 rfl ?_
  refine Ev.iload at_467 rfl ?_
  refine Ev.aload at_469 rfl ?_
  refine Ev.iconst (z := 0) at_471 rfl ?_
  refine Ev.iconst (z := 0) at_472 rfl ?_
  obtain ⟨q1, hq2, hr⟩ := Option.bind_eq_some_iff.mp hr
  refine Ev.virt (y := M_variable) (args := [.int (0 : Int32), .int (0 : Int32)]) (rest := [.int (z1 &&& z0)]) (gok hw) rfl nm_variable (ww hw 363 rfl) (ww hw 364 rfl) (ww hw 365 rfl) (ww hw 366 rfl) (ww hw 367 rfl) (lenOf pd_variable rfl) at_473 (V.2.1 s) (e_variable hw V hq2) (by decide) (Nat.le_of_ble_eq_true rfl) rfl ?_
  refine Ev.iload at_476 rfl ?_
  refine Ev.icne (t := 485) at_478 rfl (fun c3 => ?_) (fun c3 => ?_)
  · replace hr := own_ip c3 hr
    refine Ev.iconst (z := 1) at_481 rfl ?_
    refine Ev.goto (t := 486) at_482 rfl ?_
    exact e_law_486 hw V  x1 x4 x7 x8 (1 : Int32) (z1 &&& z0) s y0 hy0 y2 hy2 y3 hy3 (.val (.int (z1 &&& z0))) rfl y9 hy9 y10 hy10 _ hr
  · replace hr := own_iq c3 hr
    refine Ev.iconst (z := 0) at_485 rfl ?_
    exact e_law_486 hw V  x1 x4 x7 x8 (0 : Int32) (z1 &&& z0) s y0 hy0 y2 hy2 y3 hy3 (.val (.int (z1 &&& z0))) rfl y9 hy9 y10 hy10 _ hr
def f_law_441 (n : Nat) (x1 x4 x7 x8 z0 z1 : Int32) (s : St) : Option (Int32 × St) :=
  (f_outputCount s (1 : Int32)).bind fun q1 =>
  if q1 = (x4 + (1 : Int32)) then
    f_law_464 n x1 x4 x7 x8 (1 : Int32) (z1 &&& z0) s
  else
    f_law_464 n x1 x4 x7 x8 (0 : Int32) (z1 &&& z0) s
set_option maxRecDepth 100000 in
theorem e_law_441 {g : GT} {n : Nat} (hw : HW g) {K : St → MHeap} {o : Nat} {r : Nat → Nat} (V : View (GG g) Ln K o r) (x1 x4 x7 x8 z0 z1 : Int32) (s : St) (y0 : Slot) (hy0 : one1 y0 = true) (y2 : Slot) (hy2 : one1 y2 = true) (y3 : Slot) (hy3 : one1 y3 = true) (y6 : Slot) (hy6 : one1 y6 = true) (y9 : Slot) (hy9 : one1 y9 = true) (y10 : Slot) (hy10 : one1 y10 = true) (w : Int32 × St) (hr : f_law_441 n x1 x4 x7 x8 z0 z1 s = some w) : Ev (GG g) M_law 441 [y0, .val (.int x1), y2, y3, .val (.int x4), .val (.ref o), y6, .val (.int x7), .val (.int x8), y9, y10] [.int z0, .int z1] (K s) ((some (.int w.1)), (K w.2)) := by
  unfold f_law_441 at hr
  refine Ev.iand at_441 ?_
  refine Ev.istD (L' := [y0, .val (.int x1), y2, y3, .val (.int x4), .val (.ref o), .val (.int (z1 &&& z0)), .val (.int x7), .val (.int x8), y9, y10]) at_442 rfl hy6 rfl ?_
  refine Ev.iload at_444 rfl ?_
  refine Ev.aload at_446 rfl ?_
  refine Ev.iconst (z := 1) at_448 rfl ?_
  obtain ⟨q1, hq2, hr⟩ := Option.bind_eq_some_iff.mp hr
  refine Ev.virt (y := M_outputCount) (args := [.int (1 : Int32)]) (rest := [.int (z1 &&& z0)]) (gok hw) rfl nm_outputCount (ww hw 358 rfl) (ww hw 359 rfl) (ww hw 360 rfl) (ww hw 361 rfl) (ww hw 362 rfl) (lenOf pd_outputCount rfl) at_449 (V.2.1 s) (e_outputCount hw V hq2) (by decide) (Nat.le_of_ble_eq_true rfl) rfl ?_
  refine Ev.iload at_452 rfl ?_
  refine Ev.iconst (z := 1) at_454 rfl ?_
  refine Ev.iadd at_455 ?_
  refine Ev.icne (t := 463) at_456 rfl (fun c3 => ?_) (fun c3 => ?_)
  · replace hr := own_ip c3 hr
    refine Ev.iconst (z := 1) at_459 rfl ?_
    refine Ev.goto (t := 464) at_460 rfl ?_
    exact e_law_464 hw V  x1 x4 x7 x8 (1 : Int32) (z1 &&& z0) s y0 hy0 y2 hy2 y3 hy3 (.val (.int (z1 &&& z0))) rfl y9 hy9 y10 hy10 _ hr
  · replace hr := own_iq c3 hr
    refine Ev.iconst (z := 0) at_463 rfl ?_
    exact e_law_464 hw V  x1 x4 x7 x8 (0 : Int32) (z1 &&& z0) s y0 hy0 y2 hy2 y3 hy3 (.val (.int (z1 &&& z0))) rfl y9 hy9 y10 hy10 _ hr
def f_law_404 (n : Nat) (x0 x1 x2 x4 z0 z1 : Int32) (s : St) : Option (Int32 × St) :=
  bnd (x4 * ((x0 - x1) + x2)) fun v1 =>
  (f_outputCount s (0 : Int32)).bind fun q2 =>
  if q2 = (x4 + (1 : Int32)) then
    f_law_441 n x1 x4 ((x0 - x1) + x2) v1 (1 : Int32) (z1 &&& z0) s
  else
    f_law_441 n x1 x4 ((x0 - x1) + x2) v1 (0 : Int32) (z1 &&& z0) s
set_option maxRecDepth 100000 in
theorem e_law_404 {g : GT} {n : Nat} (hw : HW g) {K : St → MHeap} {o : Nat} {r : Nat → Nat} (V : View (GG g) Ln K o r) (x0 x1 x2 x4 z0 z1 : Int32) (s : St) (y3 : Slot) (hy3 : one1 y3 = true) (y6 : Slot) (hy6 : one1 y6 = true) (y7 : Slot) (hy7 : one1 y7 = true) (y8 : Slot) (hy8 : one1 y8 = true) (y9 : Slot) (hy9 : one1 y9 = true) (y10 : Slot) (hy10 : one1 y10 = true) (w : Int32 × St) (hr : f_law_404 n x0 x1 x2 x4 z0 z1 s = some w) : Ev (GG g) M_law 404 [.val (.int x0), .val (.int x1), .val (.int x2), y3, .val (.int x4), .val (.ref o), y6, y7, y8, y9, y10] [.int z0, .int z1] (K s) ((some (.int w.1)), (K w.2)) := by
  unfold f_law_404 at hr
  refine Ev.iand at_404 ?_
  refine Ev.istD (L' := [.val (.int x0), .val (.int x1), .val (.int x2), y3, .val (.int x4), .val (.ref o), .val (.int (z1 &&& z0)), y7, y8, y9, y10]) at_405 rfl hy6 rfl ?_
  refine Ev.iloadN at_407 rfl ?_
  refine Ev.iloadN at_408 rfl ?_
  refine Ev.isub at_409 ?_
  refine Ev.iloadN at_410 rfl ?_
  refine Ev.iadd at_411 ?_
  refine Ev.istD (L' := [.val (.int x0), .val (.int x1), .val (.int x2), y3, .val (.int x4), .val (.ref o), .val (.int (z1 &&& z0)), .val (.int ((x0 - x1) + x2)), y8, y9, y10]) at_412 rfl hy7 rfl ?_
  refine Ev.iload at_414 rfl ?_
  refine Ev.iload at_416 rfl ?_
  refine Ev.imul at_418 ?_
  revert hr
  generalize (x4 * ((x0 - x1) + x2)) = v1
  intro hr
  replace hr := (bnd_eq _ _).symm.trans hr
  refine Ev.istD (L' := [.val (.int x0), .val (.int x1), .val (.int x2), y3, .val (.int x4), .val (.ref o), .val (.int (z1 &&& z0)), .val (.int ((x0 - x1) + x2)), .val (.int v1), y9, y10]) at_419 rfl hy8 rfl ?_
  refine Ev.iload at_421 rfl ?_
  refine Ev.aload at_423 rfl ?_
  refine Ev.iconst (z := 0) at_425 rfl ?_
  obtain ⟨q2, hq3, hr⟩ := Option.bind_eq_some_iff.mp hr
  refine Ev.virt (y := M_outputCount) (args := [.int (0 : Int32)]) (rest := [.int (z1 &&& z0)]) (gok hw) rfl nm_outputCount (ww hw 358 rfl) (ww hw 359 rfl) (ww hw 360 rfl) (ww hw 361 rfl) (ww hw 362 rfl) (lenOf pd_outputCount rfl) at_426 (V.2.1 s) (e_outputCount hw V hq3) (by decide) (Nat.le_of_ble_eq_true rfl) rfl ?_
  refine Ev.iload at_429 rfl ?_
  refine Ev.iconst (z := 1) at_431 rfl ?_
  refine Ev.iadd at_432 ?_
  refine Ev.icne (t := 440) at_433 rfl (fun c4 => ?_) (fun c4 => ?_)
  · replace hr := own_ip c4 hr
    refine Ev.iconst (z := 1) at_436 rfl ?_
    refine Ev.goto (t := 441) at_437 rfl ?_
    exact e_law_441 hw V  x1 x4 ((x0 - x1) + x2) v1 (1 : Int32) (z1 &&& z0) s (.val (.int x0)) rfl (.val (.int x2)) rfl y3 hy3 (.val (.int (z1 &&& z0))) rfl y9 hy9 y10 hy10 _ hr
  · replace hr := own_iq c4 hr
    refine Ev.iconst (z := 0) at_440 rfl ?_
    exact e_law_441 hw V  x1 x4 ((x0 - x1) + x2) v1 (0 : Int32) (z1 &&& z0) s (.val (.int x0)) rfl (.val (.int x2)) rfl y3 hy3 (.val (.int (z1 &&& z0))) rfl y9 hy9 y10 hy10 _ hr
def f_law_386 (n : Nat) (x0 x1 x2 x4 z0 z1 : Int32) (s : St) : Option (Int32 × St) :=
  (f_run n s).bind fun q1 =>
  if q1.1 = 0 then
    f_law_404 n x0 x1 x2 x4 (1 : Int32) (z1 &&& z0) q1.2
  else
    f_law_404 n x0 x1 x2 x4 (0 : Int32) (z1 &&& z0) q1.2
set_option maxRecDepth 100000 in
theorem e_law_386 {g : GT} {n : Nat} (hw : HW g) {K : St → MHeap} {o : Nat} {r : Nat → Nat} (V : View (GG g) Ln K o r) (x0 x1 x2 x4 z0 z1 : Int32) (s : St) (y3 : Slot) (hy3 : one1 y3 = true) (y6 : Slot) (hy6 : one1 y6 = true) (y7 : Slot) (hy7 : one1 y7 = true) (y8 : Slot) (hy8 : one1 y8 = true) (y9 : Slot) (hy9 : one1 y9 = true) (y10 : Slot) (hy10 : one1 y10 = true) (w : Int32 × St) (hr : f_law_386 n x0 x1 x2 x4 z0 z1 s = some w) : Ev (GG g) M_law 386 [.val (.int x0), .val (.int x1), .val (.int x2), y3, .val (.int x4), .val (.ref o), y6, y7, y8, y9, y10] [.int z0, .int z1] (K s) ((some (.int w.1)), (K w.2)) := by
  unfold f_law_386 at hr
  refine Ev.iand at_386 ?_
  refine Ev.istD (L' := [.val (.int x0), .val (.int x1), .val (.int x2), y3, .val (.int x4), .val (.ref o), .val (.int (z1 &&& z0)), y7, y8, y9, y10]) at_387 rfl hy6 rfl ?_
  refine Ev.iload at_389 rfl ?_
  refine Ev.aload at_391 rfl ?_
  obtain ⟨q1, hq2, hr⟩ := Option.bind_eq_some_iff.mp hr
  refine Ev.virt (y := M_run) (args := []) (rest := [.int (z1 &&& z0)]) (gok hw) rfl nm_run (ww hw 316 rfl) (ww hw 317 rfl) (ww hw 318 rfl) (ww hw 319 rfl) (ww hw 320 rfl) (lenOf pd_run rfl) at_393 (V.2.1 s) (e_run hw V hq2) (by decide) (Nat.le_of_ble_eq_true rfl) rfl ?_
  refine Ev.ifne (t := 403) at_396 rfl (fun c3 => ?_) (fun c3 => ?_)
  · replace hr := own_ip c3 hr
    refine Ev.iconst (z := 1) at_399 rfl ?_
    refine Ev.goto (t := 404) at_400 rfl ?_
    exact e_law_404 hw V  x0 x1 x2 x4 (1 : Int32) (z1 &&& z0) q1.2 y3 hy3 (.val (.int (z1 &&& z0))) rfl y7 hy7 y8 hy8 y9 hy9 y10 hy10 _ hr
  · replace hr := own_iq c3 hr
    refine Ev.iconst (z := 0) at_403 rfl ?_
    exact e_law_404 hw V  x0 x1 x2 x4 (0 : Int32) (z1 &&& z0) q1.2 y3 hy3 (.val (.int (z1 &&& z0))) rfl y7 hy7 y8 hy8 y9 hy9 y10 hy10 _ hr
def f_law_368 (n : Nat) (x0 x1 x2 x4 z0 z1 : Int32) (s : St) : Option (Int32 × St) :=
  (f_compile n s).bind fun q1 =>
  if q1.1 = 0 then
    f_law_386 n x0 x1 x2 x4 (1 : Int32) (z1 &&& z0) q1.2
  else
    f_law_386 n x0 x1 x2 x4 (0 : Int32) (z1 &&& z0) q1.2
set_option maxRecDepth 100000 in
theorem e_law_368 {g : GT} {n : Nat} (hw : HW g) {K : St → MHeap} {o : Nat} {r : Nat → Nat} (V : View (GG g) Ln K o r) (x0 x1 x2 x4 z0 z1 : Int32) (s : St) (y3 : Slot) (hy3 : one1 y3 = true) (y6 : Slot) (hy6 : one1 y6 = true) (y7 : Slot) (hy7 : one1 y7 = true) (y8 : Slot) (hy8 : one1 y8 = true) (y9 : Slot) (hy9 : one1 y9 = true) (y10 : Slot) (hy10 : one1 y10 = true) (w : Int32 × St) (hr : f_law_368 n x0 x1 x2 x4 z0 z1 s = some w) : Ev (GG g) M_law 368 [.val (.int x0), .val (.int x1), .val (.int x2), y3, .val (.int x4), .val (.ref o), y6, y7, y8, y9, y10] [.int z0, .int z1] (K s) ((some (.int w.1)), (K w.2)) := by
  unfold f_law_368 at hr
  refine Ev.iand at_368 ?_
  refine Ev.istD (L' := [.val (.int x0), .val (.int x1), .val (.int x2), y3, .val (.int x4), .val (.ref o), .val (.int (z1 &&& z0)), y7, y8, y9, y10]) at_369 rfl hy6 rfl ?_
  refine Ev.iload at_371 rfl ?_
  refine Ev.aload at_373 rfl ?_
  obtain ⟨q1, hq2, hr⟩ := Option.bind_eq_some_iff.mp hr
  refine Ev.virt (y := M_compile) (args := []) (rest := [.int (z1 &&& z0)]) (gok hw) rfl nm_compile (ww hw 125 rfl) (ww hw 126 rfl) (ww hw 127 rfl) (ww hw 128 rfl) (ww hw 129 rfl) (lenOf pd_compile rfl) at_375 (V.2.1 s) (e_compile hw V hq2) (by decide) (Nat.le_of_ble_eq_true rfl) rfl ?_
  refine Ev.ifne (t := 385) at_378 rfl (fun c3 => ?_) (fun c3 => ?_)
  · replace hr := own_ip c3 hr
    refine Ev.iconst (z := 1) at_381 rfl ?_
    refine Ev.goto (t := 386) at_382 rfl ?_
    exact e_law_386 hw V  x0 x1 x2 x4 (1 : Int32) (z1 &&& z0) q1.2 y3 hy3 (.val (.int (z1 &&& z0))) rfl y7 hy7 y8 hy8 y9 hy9 y10 hy10 _ hr
  · replace hr := own_iq c3 hr
    refine Ev.iconst (z := 0) at_385 rfl ?_
    exact e_law_386 hw V  x0 x1 x2 x4 (0 : Int32) (z1 &&& z0) q1.2 y3 hy3 (.val (.int (z1 &&& z0))) rfl y7 hy7 y8 hy8 y9 hy9 y10 hy10 _ hr
def f_law_343 (n : Nat) (x0 x1 x2 x4 z0 z1 : Int32) (s : St) : Option (Int32 × St) :=
  (f_add n (12 : Int32) (12 : Int32) (0 : Int32) s).bind fun q1 =>
  if q1.1 = (13 : Int32) then
    f_law_368 n x0 x1 x2 x4 (1 : Int32) (z1 &&& z0) q1.2
  else
    f_law_368 n x0 x1 x2 x4 (0 : Int32) (z1 &&& z0) q1.2
set_option maxRecDepth 100000 in
theorem e_law_343 {g : GT} {n : Nat} (hw : HW g) {K : St → MHeap} {o : Nat} {r : Nat → Nat} (V : View (GG g) Ln K o r) (x0 x1 x2 x4 z0 z1 : Int32) (s : St) (y3 : Slot) (hy3 : one1 y3 = true) (y6 : Slot) (hy6 : one1 y6 = true) (y7 : Slot) (hy7 : one1 y7 = true) (y8 : Slot) (hy8 : one1 y8 = true) (y9 : Slot) (hy9 : one1 y9 = true) (y10 : Slot) (hy10 : one1 y10 = true) (w : Int32 × St) (hr : f_law_343 n x0 x1 x2 x4 z0 z1 s = some w) : Ev (GG g) M_law 343 [.val (.int x0), .val (.int x1), .val (.int x2), y3, .val (.int x4), .val (.ref o), y6, y7, y8, y9, y10] [.int z0, .int z1] (K s) ((some (.int w.1)), (K w.2)) := by
  unfold f_law_343 at hr
  refine Ev.iand at_343 ?_
  refine Ev.istD (L' := [.val (.int x0), .val (.int x1), .val (.int x2), y3, .val (.int x4), .val (.ref o), .val (.int (z1 &&& z0)), y7, y8, y9, y10]) at_344 rfl hy6 rfl ?_
  refine Ev.iload at_346 rfl ?_
  refine Ev.aload at_348 rfl ?_
  refine Ev.bipush (z := 12) at_350 rfl ?_
  refine Ev.bipush (z := 12) at_352 rfl ?_
  refine Ev.iconst (z := 0) at_354 rfl ?_
  obtain ⟨q1, hq2, hr⟩ := Option.bind_eq_some_iff.mp hr
  refine Ev.virt (y := M_add) (args := [.int (12 : Int32), .int (12 : Int32), .int (0 : Int32)]) (rest := [.int (z1 &&& z0)]) (gok hw) rfl nm_add (ww hw 86 rfl) (ww hw 87 rfl) (ww hw 88 rfl) (ww hw 89 rfl) (ww hw 90 rfl) (lenOf pd_add rfl) at_355 (V.2.1 s) (e_add hw V hq2) (by decide) (Nat.le_of_ble_eq_true rfl) rfl ?_
  refine Ev.bipush (z := 13) at_358 rfl ?_
  refine Ev.icne (t := 367) at_360 rfl (fun c3 => ?_) (fun c3 => ?_)
  · replace hr := own_ip c3 hr
    refine Ev.iconst (z := 1) at_363 rfl ?_
    refine Ev.goto (t := 368) at_364 rfl ?_
    exact e_law_368 hw V  x0 x1 x2 x4 (1 : Int32) (z1 &&& z0) q1.2 y3 hy3 (.val (.int (z1 &&& z0))) rfl y7 hy7 y8 hy8 y9 hy9 y10 hy10 _ hr
  · replace hr := own_iq c3 hr
    refine Ev.iconst (z := 0) at_367 rfl ?_
    exact e_law_368 hw V  x0 x1 x2 x4 (0 : Int32) (z1 &&& z0) q1.2 y3 hy3 (.val (.int (z1 &&& z0))) rfl y7 hy7 y8 hy8 y9 hy9 y10 hy10 _ hr
def f_law_318 (n : Nat) (x0 x1 x2 x4 z0 z1 : Int32) (s : St) : Option (Int32 × St) :=
  (f_add n (6 : Int32) (11 : Int32) (1 : Int32) s).bind fun q1 =>
  if q1.1 = (12 : Int32) then
    f_law_343 n x0 x1 x2 x4 (1 : Int32) (z1 &&& z0) q1.2
  else
    f_law_343 n x0 x1 x2 x4 (0 : Int32) (z1 &&& z0) q1.2
set_option maxRecDepth 100000 in
theorem e_law_318 {g : GT} {n : Nat} (hw : HW g) {K : St → MHeap} {o : Nat} {r : Nat → Nat} (V : View (GG g) Ln K o r) (x0 x1 x2 x4 z0 z1 : Int32) (s : St) (y3 : Slot) (hy3 : one1 y3 = true) (y6 : Slot) (hy6 : one1 y6 = true) (y7 : Slot) (hy7 : one1 y7 = true) (y8 : Slot) (hy8 : one1 y8 = true) (y9 : Slot) (hy9 : one1 y9 = true) (y10 : Slot) (hy10 : one1 y10 = true) (w : Int32 × St) (hr : f_law_318 n x0 x1 x2 x4 z0 z1 s = some w) : Ev (GG g) M_law 318 [.val (.int x0), .val (.int x1), .val (.int x2), y3, .val (.int x4), .val (.ref o), y6, y7, y8, y9, y10] [.int z0, .int z1] (K s) ((some (.int w.1)), (K w.2)) := by
  unfold f_law_318 at hr
  refine Ev.iand at_318 ?_
  refine Ev.istD (L' := [.val (.int x0), .val (.int x1), .val (.int x2), y3, .val (.int x4), .val (.ref o), .val (.int (z1 &&& z0)), y7, y8, y9, y10]) at_319 rfl hy6 rfl ?_
  refine Ev.iload at_321 rfl ?_
  refine Ev.aload at_323 rfl ?_
  refine Ev.bipush (z := 6) at_325 rfl ?_
  refine Ev.bipush (z := 11) at_327 rfl ?_
  refine Ev.iconst (z := 1) at_329 rfl ?_
  obtain ⟨q1, hq2, hr⟩ := Option.bind_eq_some_iff.mp hr
  refine Ev.virt (y := M_add) (args := [.int (6 : Int32), .int (11 : Int32), .int (1 : Int32)]) (rest := [.int (z1 &&& z0)]) (gok hw) rfl nm_add (ww hw 86 rfl) (ww hw 87 rfl) (ww hw 88 rfl) (ww hw 89 rfl) (ww hw 90 rfl) (lenOf pd_add rfl) at_330 (V.2.1 s) (e_add hw V hq2) (by decide) (Nat.le_of_ble_eq_true rfl) rfl ?_
  refine Ev.bipush (z := 12) at_333 rfl ?_
  refine Ev.icne (t := 342) at_335 rfl (fun c3 => ?_) (fun c3 => ?_)
  · replace hr := own_ip c3 hr
    refine Ev.iconst (z := 1) at_338 rfl ?_
    refine Ev.goto (t := 343) at_339 rfl ?_
    exact e_law_343 hw V  x0 x1 x2 x4 (1 : Int32) (z1 &&& z0) q1.2 y3 hy3 (.val (.int (z1 &&& z0))) rfl y7 hy7 y8 hy8 y9 hy9 y10 hy10 _ hr
  · replace hr := own_iq c3 hr
    refine Ev.iconst (z := 0) at_342 rfl ?_
    exact e_law_343 hw V  x0 x1 x2 x4 (0 : Int32) (z1 &&& z0) q1.2 y3 hy3 (.val (.int (z1 &&& z0))) rfl y7 hy7 y8 hy8 y9 hy9 y10 hy10 _ hr
def f_law_295 (n : Nat) (x0 x1 x2 x4 z0 z1 : Int32) (s : St) : Option (Int32 × St) :=
  (f_add n (3 : Int32) (0 : Int32) (0 : Int32) s).bind fun q1 =>
  if q1.1 = (11 : Int32) then
    f_law_318 n x0 x1 x2 x4 (1 : Int32) (z1 &&& z0) q1.2
  else
    f_law_318 n x0 x1 x2 x4 (0 : Int32) (z1 &&& z0) q1.2
set_option maxRecDepth 100000 in
theorem e_law_295 {g : GT} {n : Nat} (hw : HW g) {K : St → MHeap} {o : Nat} {r : Nat → Nat} (V : View (GG g) Ln K o r) (x0 x1 x2 x4 z0 z1 : Int32) (s : St) (y3 : Slot) (hy3 : one1 y3 = true) (y6 : Slot) (hy6 : one1 y6 = true) (y7 : Slot) (hy7 : one1 y7 = true) (y8 : Slot) (hy8 : one1 y8 = true) (y9 : Slot) (hy9 : one1 y9 = true) (y10 : Slot) (hy10 : one1 y10 = true) (w : Int32 × St) (hr : f_law_295 n x0 x1 x2 x4 z0 z1 s = some w) : Ev (GG g) M_law 295 [.val (.int x0), .val (.int x1), .val (.int x2), y3, .val (.int x4), .val (.ref o), y6, y7, y8, y9, y10] [.int z0, .int z1] (K s) ((some (.int w.1)), (K w.2)) := by
  unfold f_law_295 at hr
  refine Ev.iand at_295 ?_
  refine Ev.istD (L' := [.val (.int x0), .val (.int x1), .val (.int x2), y3, .val (.int x4), .val (.ref o), .val (.int (z1 &&& z0)), y7, y8, y9, y10]) at_296 rfl hy6 rfl ?_
  refine Ev.iload at_298 rfl ?_
  refine Ev.aload at_300 rfl ?_
  refine Ev.iconst (z := 3) at_302 rfl ?_
  refine Ev.iconst (z := 0) at_303 rfl ?_
  refine Ev.iconst (z := 0) at_304 rfl ?_
  obtain ⟨q1, hq2, hr⟩ := Option.bind_eq_some_iff.mp hr
  refine Ev.virt (y := M_add) (args := [.int (3 : Int32), .int (0 : Int32), .int (0 : Int32)]) (rest := [.int (z1 &&& z0)]) (gok hw) rfl nm_add (ww hw 86 rfl) (ww hw 87 rfl) (ww hw 88 rfl) (ww hw 89 rfl) (ww hw 90 rfl) (lenOf pd_add rfl) at_305 (V.2.1 s) (e_add hw V hq2) (by decide) (Nat.le_of_ble_eq_true rfl) rfl ?_
  refine Ev.bipush (z := 11) at_308 rfl ?_
  refine Ev.icne (t := 317) at_310 rfl (fun c3 => ?_) (fun c3 => ?_)
  · replace hr := own_ip c3 hr
    refine Ev.iconst (z := 1) at_313 rfl ?_
    refine Ev.goto (t := 318) at_314 rfl ?_
    exact e_law_318 hw V  x0 x1 x2 x4 (1 : Int32) (z1 &&& z0) q1.2 y3 hy3 (.val (.int (z1 &&& z0))) rfl y7 hy7 y8 hy8 y9 hy9 y10 hy10 _ hr
  · replace hr := own_iq c3 hr
    refine Ev.iconst (z := 0) at_317 rfl ?_
    exact e_law_318 hw V  x0 x1 x2 x4 (0 : Int32) (z1 &&& z0) q1.2 y3 hy3 (.val (.int (z1 &&& z0))) rfl y7 hy7 y8 hy8 y9 hy9 y10 hy10 _ hr
def f_law_271 (n : Nat) (x0 x1 x2 x4 z0 z1 : Int32) (s : St) : Option (Int32 × St) :=
  (f_add n (14 : Int32) (0 : Int32) (0 : Int32) s).bind fun q1 =>
  if q1.1 = (10 : Int32) then
    f_law_295 n x0 x1 x2 x4 (1 : Int32) (z1 &&& z0) q1.2
  else
    f_law_295 n x0 x1 x2 x4 (0 : Int32) (z1 &&& z0) q1.2
set_option maxRecDepth 100000 in
theorem e_law_271 {g : GT} {n : Nat} (hw : HW g) {K : St → MHeap} {o : Nat} {r : Nat → Nat} (V : View (GG g) Ln K o r) (x0 x1 x2 x4 z0 z1 : Int32) (s : St) (y3 : Slot) (hy3 : one1 y3 = true) (y6 : Slot) (hy6 : one1 y6 = true) (y7 : Slot) (hy7 : one1 y7 = true) (y8 : Slot) (hy8 : one1 y8 = true) (y9 : Slot) (hy9 : one1 y9 = true) (y10 : Slot) (hy10 : one1 y10 = true) (w : Int32 × St) (hr : f_law_271 n x0 x1 x2 x4 z0 z1 s = some w) : Ev (GG g) M_law 271 [.val (.int x0), .val (.int x1), .val (.int x2), y3, .val (.int x4), .val (.ref o), y6, y7, y8, y9, y10] [.int z0, .int z1] (K s) ((some (.int w.1)), (K w.2)) := by
  unfold f_law_271 at hr
  refine Ev.iand at_271 ?_
  refine Ev.istD (L' := [.val (.int x0), .val (.int x1), .val (.int x2), y3, .val (.int x4), .val (.ref o), .val (.int (z1 &&& z0)), y7, y8, y9, y10]) at_272 rfl hy6 rfl ?_
  refine Ev.iload at_274 rfl ?_
  refine Ev.aload at_276 rfl ?_
  refine Ev.bipush (z := 14) at_278 rfl ?_
  refine Ev.iconst (z := 0) at_280 rfl ?_
  refine Ev.iconst (z := 0) at_281 rfl ?_
  obtain ⟨q1, hq2, hr⟩ := Option.bind_eq_some_iff.mp hr
  refine Ev.virt (y := M_add) (args := [.int (14 : Int32), .int (0 : Int32), .int (0 : Int32)]) (rest := [.int (z1 &&& z0)]) (gok hw) rfl nm_add (ww hw 86 rfl) (ww hw 87 rfl) (ww hw 88 rfl) (ww hw 89 rfl) (ww hw 90 rfl) (lenOf pd_add rfl) at_282 (V.2.1 s) (e_add hw V hq2) (by decide) (Nat.le_of_ble_eq_true rfl) rfl ?_
  refine Ev.bipush (z := 10) at_285 rfl ?_
  refine Ev.icne (t := 294) at_287 rfl (fun c3 => ?_) (fun c3 => ?_)
  · replace hr := own_ip c3 hr
    refine Ev.iconst (z := 1) at_290 rfl ?_
    refine Ev.goto (t := 295) at_291 rfl ?_
    exact e_law_295 hw V  x0 x1 x2 x4 (1 : Int32) (z1 &&& z0) q1.2 y3 hy3 (.val (.int (z1 &&& z0))) rfl y7 hy7 y8 hy8 y9 hy9 y10 hy10 _ hr
  · replace hr := own_iq c3 hr
    refine Ev.iconst (z := 0) at_294 rfl ?_
    exact e_law_295 hw V  x0 x1 x2 x4 (0 : Int32) (z1 &&& z0) q1.2 y3 hy3 (.val (.int (z1 &&& z0))) rfl y7 hy7 y8 hy8 y9 hy9 y10 hy10 _ hr
def f_law_246 (n : Nat) (x0 x1 x2 x4 z0 z1 : Int32) (s : St) : Option (Int32 × St) :=
  (f_add n (12 : Int32) (7 : Int32) (0 : Int32) s).bind fun q1 =>
  if q1.1 = (9 : Int32) then
    f_law_271 n x0 x1 x2 x4 (1 : Int32) (z1 &&& z0) q1.2
  else
    f_law_271 n x0 x1 x2 x4 (0 : Int32) (z1 &&& z0) q1.2
set_option maxRecDepth 100000 in
theorem e_law_246 {g : GT} {n : Nat} (hw : HW g) {K : St → MHeap} {o : Nat} {r : Nat → Nat} (V : View (GG g) Ln K o r) (x0 x1 x2 x4 z0 z1 : Int32) (s : St) (y3 : Slot) (hy3 : one1 y3 = true) (y6 : Slot) (hy6 : one1 y6 = true) (y7 : Slot) (hy7 : one1 y7 = true) (y8 : Slot) (hy8 : one1 y8 = true) (y9 : Slot) (hy9 : one1 y9 = true) (y10 : Slot) (hy10 : one1 y10 = true) (w : Int32 × St) (hr : f_law_246 n x0 x1 x2 x4 z0 z1 s = some w) : Ev (GG g) M_law 246 [.val (.int x0), .val (.int x1), .val (.int x2), y3, .val (.int x4), .val (.ref o), y6, y7, y8, y9, y10] [.int z0, .int z1] (K s) ((some (.int w.1)), (K w.2)) := by
  unfold f_law_246 at hr
  refine Ev.iand at_246 ?_
  refine Ev.istD (L' := [.val (.int x0), .val (.int x1), .val (.int x2), y3, .val (.int x4), .val (.ref o), .val (.int (z1 &&& z0)), y7, y8, y9, y10]) at_247 rfl hy6 rfl ?_
  refine Ev.iload at_249 rfl ?_
  refine Ev.aload at_251 rfl ?_
  refine Ev.bipush (z := 12) at_253 rfl ?_
  refine Ev.bipush (z := 7) at_255 rfl ?_
  refine Ev.iconst (z := 0) at_257 rfl ?_
  obtain ⟨q1, hq2, hr⟩ := Option.bind_eq_some_iff.mp hr
  refine Ev.virt (y := M_add) (args := [.int (12 : Int32), .int (7 : Int32), .int (0 : Int32)]) (rest := [.int (z1 &&& z0)]) (gok hw) rfl nm_add (ww hw 86 rfl) (ww hw 87 rfl) (ww hw 88 rfl) (ww hw 89 rfl) (ww hw 90 rfl) (lenOf pd_add rfl) at_258 (V.2.1 s) (e_add hw V hq2) (by decide) (Nat.le_of_ble_eq_true rfl) rfl ?_
  refine Ev.bipush (z := 9) at_261 rfl ?_
  refine Ev.icne (t := 270) at_263 rfl (fun c3 => ?_) (fun c3 => ?_)
  · replace hr := own_ip c3 hr
    refine Ev.iconst (z := 1) at_266 rfl ?_
    refine Ev.goto (t := 271) at_267 rfl ?_
    exact e_law_271 hw V  x0 x1 x2 x4 (1 : Int32) (z1 &&& z0) q1.2 y3 hy3 (.val (.int (z1 &&& z0))) rfl y7 hy7 y8 hy8 y9 hy9 y10 hy10 _ hr
  · replace hr := own_iq c3 hr
    refine Ev.iconst (z := 0) at_270 rfl ?_
    exact e_law_271 hw V  x0 x1 x2 x4 (0 : Int32) (z1 &&& z0) q1.2 y3 hy3 (.val (.int (z1 &&& z0))) rfl y7 hy7 y8 hy8 y9 hy9 y10 hy10 _ hr
def f_law_221 (n : Nat) (x0 x1 x2 x4 z0 z1 : Int32) (s : St) : Option (Int32 × St) :=
  (f_add n (11 : Int32) (0 : Int32) (7 : Int32) s).bind fun q1 =>
  if q1.1 = (8 : Int32) then
    f_law_246 n x0 x1 x2 x4 (1 : Int32) (z1 &&& z0) q1.2
  else
    f_law_246 n x0 x1 x2 x4 (0 : Int32) (z1 &&& z0) q1.2
set_option maxRecDepth 100000 in
theorem e_law_221 {g : GT} {n : Nat} (hw : HW g) {K : St → MHeap} {o : Nat} {r : Nat → Nat} (V : View (GG g) Ln K o r) (x0 x1 x2 x4 z0 z1 : Int32) (s : St) (y3 : Slot) (hy3 : one1 y3 = true) (y6 : Slot) (hy6 : one1 y6 = true) (y7 : Slot) (hy7 : one1 y7 = true) (y8 : Slot) (hy8 : one1 y8 = true) (y9 : Slot) (hy9 : one1 y9 = true) (y10 : Slot) (hy10 : one1 y10 = true) (w : Int32 × St) (hr : f_law_221 n x0 x1 x2 x4 z0 z1 s = some w) : Ev (GG g) M_law 221 [.val (.int x0), .val (.int x1), .val (.int x2), y3, .val (.int x4), .val (.ref o), y6, y7, y8, y9, y10] [.int z0, .int z1] (K s) ((some (.int w.1)), (K w.2)) := by
  unfold f_law_221 at hr
  refine Ev.iand at_221 ?_
  refine Ev.istD (L' := [.val (.int x0), .val (.int x1), .val (.int x2), y3, .val (.int x4), .val (.ref o), .val (.int (z1 &&& z0)), y7, y8, y9, y10]) at_222 rfl hy6 rfl ?_
  refine Ev.iload at_224 rfl ?_
  refine Ev.aload at_226 rfl ?_
  refine Ev.bipush (z := 11) at_228 rfl ?_
  refine Ev.iconst (z := 0) at_230 rfl ?_
  refine Ev.bipush (z := 7) at_231 rfl ?_
  obtain ⟨q1, hq2, hr⟩ := Option.bind_eq_some_iff.mp hr
  refine Ev.virt (y := M_add) (args := [.int (11 : Int32), .int (0 : Int32), .int (7 : Int32)]) (rest := [.int (z1 &&& z0)]) (gok hw) rfl nm_add (ww hw 86 rfl) (ww hw 87 rfl) (ww hw 88 rfl) (ww hw 89 rfl) (ww hw 90 rfl) (lenOf pd_add rfl) at_233 (V.2.1 s) (e_add hw V hq2) (by decide) (Nat.le_of_ble_eq_true rfl) rfl ?_
  refine Ev.bipush (z := 8) at_236 rfl ?_
  refine Ev.icne (t := 245) at_238 rfl (fun c3 => ?_) (fun c3 => ?_)
  · replace hr := own_ip c3 hr
    refine Ev.iconst (z := 1) at_241 rfl ?_
    refine Ev.goto (t := 246) at_242 rfl ?_
    exact e_law_246 hw V  x0 x1 x2 x4 (1 : Int32) (z1 &&& z0) q1.2 y3 hy3 (.val (.int (z1 &&& z0))) rfl y7 hy7 y8 hy8 y9 hy9 y10 hy10 _ hr
  · replace hr := own_iq c3 hr
    refine Ev.iconst (z := 0) at_245 rfl ?_
    exact e_law_246 hw V  x0 x1 x2 x4 (0 : Int32) (z1 &&& z0) q1.2 y3 hy3 (.val (.int (z1 &&& z0))) rfl y7 hy7 y8 hy8 y9 hy9 y10 hy10 _ hr
def f_law_197 (n : Nat) (x0 x1 x2 x4 z0 z1 : Int32) (s : St) : Option (Int32 × St) :=
  (f_add n (4 : Int32) (6 : Int32) (2 : Int32) s).bind fun q1 =>
  if q1.1 = (7 : Int32) then
    f_law_221 n x0 x1 x2 x4 (1 : Int32) (z1 &&& z0) q1.2
  else
    f_law_221 n x0 x1 x2 x4 (0 : Int32) (z1 &&& z0) q1.2
set_option maxRecDepth 100000 in
theorem e_law_197 {g : GT} {n : Nat} (hw : HW g) {K : St → MHeap} {o : Nat} {r : Nat → Nat} (V : View (GG g) Ln K o r) (x0 x1 x2 x4 z0 z1 : Int32) (s : St) (y3 : Slot) (hy3 : one1 y3 = true) (y6 : Slot) (hy6 : one1 y6 = true) (y7 : Slot) (hy7 : one1 y7 = true) (y8 : Slot) (hy8 : one1 y8 = true) (y9 : Slot) (hy9 : one1 y9 = true) (y10 : Slot) (hy10 : one1 y10 = true) (w : Int32 × St) (hr : f_law_197 n x0 x1 x2 x4 z0 z1 s = some w) : Ev (GG g) M_law 197 [.val (.int x0), .val (.int x1), .val (.int x2), y3, .val (.int x4), .val (.ref o), y6, y7, y8, y9, y10] [.int z0, .int z1] (K s) ((some (.int w.1)), (K w.2)) := by
  unfold f_law_197 at hr
  refine Ev.iand at_197 ?_
  refine Ev.istD (L' := [.val (.int x0), .val (.int x1), .val (.int x2), y3, .val (.int x4), .val (.ref o), .val (.int (z1 &&& z0)), y7, y8, y9, y10]) at_198 rfl hy6 rfl ?_
  refine Ev.iload at_200 rfl ?_
  refine Ev.aload at_202 rfl ?_
  refine Ev.iconst (z := 4) at_204 rfl ?_
  refine Ev.bipush (z := 6) at_205 rfl ?_
  refine Ev.iconst (z := 2) at_207 rfl ?_
  obtain ⟨q1, hq2, hr⟩ := Option.bind_eq_some_iff.mp hr
  refine Ev.virt (y := M_add) (args := [.int (4 : Int32), .int (6 : Int32), .int (2 : Int32)]) (rest := [.int (z1 &&& z0)]) (gok hw) rfl nm_add (ww hw 86 rfl) (ww hw 87 rfl) (ww hw 88 rfl) (ww hw 89 rfl) (ww hw 90 rfl) (lenOf pd_add rfl) at_208 (V.2.1 s) (e_add hw V hq2) (by decide) (Nat.le_of_ble_eq_true rfl) rfl ?_
  refine Ev.bipush (z := 7) at_211 rfl ?_
  refine Ev.icne (t := 220) at_213 rfl (fun c3 => ?_) (fun c3 => ?_)
  · replace hr := own_ip c3 hr
    refine Ev.iconst (z := 1) at_216 rfl ?_
    refine Ev.goto (t := 221) at_217 rfl ?_
    exact e_law_221 hw V  x0 x1 x2 x4 (1 : Int32) (z1 &&& z0) q1.2 y3 hy3 (.val (.int (z1 &&& z0))) rfl y7 hy7 y8 hy8 y9 hy9 y10 hy10 _ hr
  · replace hr := own_iq c3 hr
    refine Ev.iconst (z := 0) at_220 rfl ?_
    exact e_law_221 hw V  x0 x1 x2 x4 (0 : Int32) (z1 &&& z0) q1.2 y3 hy3 (.val (.int (z1 &&& z0))) rfl y7 hy7 y8 hy8 y9 hy9 y10 hy10 _ hr
def f_law_174 (n : Nat) (x0 x1 x2 x4 z0 z1 : Int32) (s : St) : Option (Int32 × St) :=
  (f_add n (5 : Int32) (5 : Int32) (1 : Int32) s).bind fun q1 =>
  if q1.1 = (6 : Int32) then
    f_law_197 n x0 x1 x2 x4 (1 : Int32) (z1 &&& z0) q1.2
  else
    f_law_197 n x0 x1 x2 x4 (0 : Int32) (z1 &&& z0) q1.2
set_option maxRecDepth 100000 in
theorem e_law_174 {g : GT} {n : Nat} (hw : HW g) {K : St → MHeap} {o : Nat} {r : Nat → Nat} (V : View (GG g) Ln K o r) (x0 x1 x2 x4 z0 z1 : Int32) (s : St) (y3 : Slot) (hy3 : one1 y3 = true) (y6 : Slot) (hy6 : one1 y6 = true) (y7 : Slot) (hy7 : one1 y7 = true) (y8 : Slot) (hy8 : one1 y8 = true) (y9 : Slot) (hy9 : one1 y9 = true) (y10 : Slot) (hy10 : one1 y10 = true) (w : Int32 × St) (hr : f_law_174 n x0 x1 x2 x4 z0 z1 s = some w) : Ev (GG g) M_law 174 [.val (.int x0), .val (.int x1), .val (.int x2), y3, .val (.int x4), .val (.ref o), y6, y7, y8, y9, y10] [.int z0, .int z1] (K s) ((some (.int w.1)), (K w.2)) := by
  unfold f_law_174 at hr
  refine Ev.iand at_174 ?_
  refine Ev.istD (L' := [.val (.int x0), .val (.int x1), .val (.int x2), y3, .val (.int x4), .val (.ref o), .val (.int (z1 &&& z0)), y7, y8, y9, y10]) at_175 rfl hy6 rfl ?_
  refine Ev.iload at_177 rfl ?_
  refine Ev.aload at_179 rfl ?_
  refine Ev.iconst (z := 5) at_181 rfl ?_
  refine Ev.iconst (z := 5) at_182 rfl ?_
  refine Ev.iconst (z := 1) at_183 rfl ?_
  obtain ⟨q1, hq2, hr⟩ := Option.bind_eq_some_iff.mp hr
  refine Ev.virt (y := M_add) (args := [.int (5 : Int32), .int (5 : Int32), .int (1 : Int32)]) (rest := [.int (z1 &&& z0)]) (gok hw) rfl nm_add (ww hw 86 rfl) (ww hw 87 rfl) (ww hw 88 rfl) (ww hw 89 rfl) (ww hw 90 rfl) (lenOf pd_add rfl) at_184 (V.2.1 s) (e_add hw V hq2) (by decide) (Nat.le_of_ble_eq_true rfl) rfl ?_
  refine Ev.bipush (z := 6) at_187 rfl ?_
  refine Ev.icne (t := 196) at_189 rfl (fun c3 => ?_) (fun c3 => ?_)
  · replace hr := own_ip c3 hr
    refine Ev.iconst (z := 1) at_192 rfl ?_
    refine Ev.goto (t := 197) at_193 rfl ?_
    exact e_law_197 hw V  x0 x1 x2 x4 (1 : Int32) (z1 &&& z0) q1.2 y3 hy3 (.val (.int (z1 &&& z0))) rfl y7 hy7 y8 hy8 y9 hy9 y10 hy10 _ hr
  · replace hr := own_iq c3 hr
    refine Ev.iconst (z := 0) at_196 rfl ?_
    exact e_law_197 hw V  x0 x1 x2 x4 (0 : Int32) (z1 &&& z0) q1.2 y3 hy3 (.val (.int (z1 &&& z0))) rfl y7 hy7 y8 hy8 y9 hy9 y10 hy10 _ hr
def f_law_152 (n : Nat) (x0 x1 x2 x4 z0 z1 : Int32) (s : St) : Option (Int32 × St) :=
  (f_add n (4 : Int32) (0 : Int32) (4 : Int32) s).bind fun q1 =>
  if q1.1 = (5 : Int32) then
    f_law_174 n x0 x1 x2 x4 (1 : Int32) (z1 &&& z0) q1.2
  else
    f_law_174 n x0 x1 x2 x4 (0 : Int32) (z1 &&& z0) q1.2
set_option maxRecDepth 100000 in
theorem e_law_152 {g : GT} {n : Nat} (hw : HW g) {K : St → MHeap} {o : Nat} {r : Nat → Nat} (V : View (GG g) Ln K o r) (x0 x1 x2 x4 z0 z1 : Int32) (s : St) (y3 : Slot) (hy3 : one1 y3 = true) (y6 : Slot) (hy6 : one1 y6 = true) (y7 : Slot) (hy7 : one1 y7 = true) (y8 : Slot) (hy8 : one1 y8 = true) (y9 : Slot) (hy9 : one1 y9 = true) (y10 : Slot) (hy10 : one1 y10 = true) (w : Int32 × St) (hr : f_law_152 n x0 x1 x2 x4 z0 z1 s = some w) : Ev (GG g) M_law 152 [.val (.int x0), .val (.int x1), .val (.int x2), y3, .val (.int x4), .val (.ref o), y6, y7, y8, y9, y10] [.int z0, .int z1] (K s) ((some (.int w.1)), (K w.2)) := by
  unfold f_law_152 at hr
  refine Ev.iand at_152 ?_
  refine Ev.istD (L' := [.val (.int x0), .val (.int x1), .val (.int x2), y3, .val (.int x4), .val (.ref o), .val (.int (z1 &&& z0)), y7, y8, y9, y10]) at_153 rfl hy6 rfl ?_
  refine Ev.iload at_155 rfl ?_
  refine Ev.aload at_157 rfl ?_
  refine Ev.iconst (z := 4) at_159 rfl ?_
  refine Ev.iconst (z := 0) at_160 rfl ?_
  refine Ev.iconst (z := 4) at_161 rfl ?_
  obtain ⟨q1, hq2, hr⟩ := Option.bind_eq_some_iff.mp hr
  refine Ev.virt (y := M_add) (args := [.int (4 : Int32), .int (0 : Int32), .int (4 : Int32)]) (rest := [.int (z1 &&& z0)]) (gok hw) rfl nm_add (ww hw 86 rfl) (ww hw 87 rfl) (ww hw 88 rfl) (ww hw 89 rfl) (ww hw 90 rfl) (lenOf pd_add rfl) at_162 (V.2.1 s) (e_add hw V hq2) (by decide) (Nat.le_of_ble_eq_true rfl) rfl ?_
  refine Ev.iconst (z := 5) at_165 rfl ?_
  refine Ev.icne (t := 173) at_166 rfl (fun c3 => ?_) (fun c3 => ?_)
  · replace hr := own_ip c3 hr
    refine Ev.iconst (z := 1) at_169 rfl ?_
    refine Ev.goto (t := 174) at_170 rfl ?_
    exact e_law_174 hw V  x0 x1 x2 x4 (1 : Int32) (z1 &&& z0) q1.2 y3 hy3 (.val (.int (z1 &&& z0))) rfl y7 hy7 y8 hy8 y9 hy9 y10 hy10 _ hr
  · replace hr := own_iq c3 hr
    refine Ev.iconst (z := 0) at_173 rfl ?_
    exact e_law_174 hw V  x0 x1 x2 x4 (0 : Int32) (z1 &&& z0) q1.2 y3 hy3 (.val (.int (z1 &&& z0))) rfl y7 hy7 y8 hy8 y9 hy9 y10 hy10 _ hr
def f_law_130 (n : Nat) (x0 x1 x2 x4 z0 z1 : Int32) (s : St) : Option (Int32 × St) :=
  (f_add n (3 : Int32) (0 : Int32) (0 : Int32) s).bind fun q1 =>
  if q1.1 = (4 : Int32) then
    f_law_152 n x0 x1 x2 x4 (1 : Int32) (z1 &&& z0) q1.2
  else
    f_law_152 n x0 x1 x2 x4 (0 : Int32) (z1 &&& z0) q1.2
set_option maxRecDepth 100000 in
theorem e_law_130 {g : GT} {n : Nat} (hw : HW g) {K : St → MHeap} {o : Nat} {r : Nat → Nat} (V : View (GG g) Ln K o r) (x0 x1 x2 x4 z0 z1 : Int32) (s : St) (y3 : Slot) (hy3 : one1 y3 = true) (y6 : Slot) (hy6 : one1 y6 = true) (y7 : Slot) (hy7 : one1 y7 = true) (y8 : Slot) (hy8 : one1 y8 = true) (y9 : Slot) (hy9 : one1 y9 = true) (y10 : Slot) (hy10 : one1 y10 = true) (w : Int32 × St) (hr : f_law_130 n x0 x1 x2 x4 z0 z1 s = some w) : Ev (GG g) M_law 130 [.val (.int x0), .val (.int x1), .val (.int x2), y3, .val (.int x4), .val (.ref o), y6, y7, y8, y9, y10] [.int z0, .int z1] (K s) ((some (.int w.1)), (K w.2)) := by
  unfold f_law_130 at hr
  refine Ev.iand at_130 ?_
  refine Ev.istD (L' := [.val (.int x0), .val (.int x1), .val (.int x2), y3, .val (.int x4), .val (.ref o), .val (.int (z1 &&& z0)), y7, y8, y9, y10]) at_131 rfl hy6 rfl ?_
  refine Ev.iload at_133 rfl ?_
  refine Ev.aload at_135 rfl ?_
  refine Ev.iconst (z := 3) at_137 rfl ?_
  refine Ev.iconst (z := 0) at_138 rfl ?_
  refine Ev.iconst (z := 0) at_139 rfl ?_
  obtain ⟨q1, hq2, hr⟩ := Option.bind_eq_some_iff.mp hr
  refine Ev.virt (y := M_add) (args := [.int (3 : Int32), .int (0 : Int32), .int (0 : Int32)]) (rest := [.int (z1 &&& z0)]) (gok hw) rfl nm_add (ww hw 86 rfl) (ww hw 87 rfl) (ww hw 88 rfl) (ww hw 89 rfl) (ww hw 90 rfl) (lenOf pd_add rfl) at_140 (V.2.1 s) (e_add hw V hq2) (by decide) (Nat.le_of_ble_eq_true rfl) rfl ?_
  refine Ev.iconst (z := 4) at_143 rfl ?_
  refine Ev.icne (t := 151) at_144 rfl (fun c3 => ?_) (fun c3 => ?_)
  · replace hr := own_ip c3 hr
    refine Ev.iconst (z := 1) at_147 rfl ?_
    refine Ev.goto (t := 152) at_148 rfl ?_
    exact e_law_152 hw V  x0 x1 x2 x4 (1 : Int32) (z1 &&& z0) q1.2 y3 hy3 (.val (.int (z1 &&& z0))) rfl y7 hy7 y8 hy8 y9 hy9 y10 hy10 _ hr
  · replace hr := own_iq c3 hr
    refine Ev.iconst (z := 0) at_151 rfl ?_
    exact e_law_152 hw V  x0 x1 x2 x4 (0 : Int32) (z1 &&& z0) q1.2 y3 hy3 (.val (.int (z1 &&& z0))) rfl y7 hy7 y8 hy8 y9 hy9 y10 hy10 _ hr
def f_law_106 (n : Nat) (x0 x1 x2 x4 z0 z1 : Int32) (s : St) : Option (Int32 × St) :=
  (f_add n (13 : Int32) x4 (0 : Int32) s).bind fun q1 =>
  if q1.1 = (3 : Int32) then
    f_law_130 n x0 x1 x2 x4 (1 : Int32) (z1 &&& z0) q1.2
  else
    f_law_130 n x0 x1 x2 x4 (0 : Int32) (z1 &&& z0) q1.2
set_option maxRecDepth 100000 in
theorem e_law_106 {g : GT} {n : Nat} (hw : HW g) {K : St → MHeap} {o : Nat} {r : Nat → Nat} (V : View (GG g) Ln K o r) (x0 x1 x2 x4 z0 z1 : Int32) (s : St) (y3 : Slot) (hy3 : one1 y3 = true) (y6 : Slot) (hy6 : one1 y6 = true) (y7 : Slot) (hy7 : one1 y7 = true) (y8 : Slot) (hy8 : one1 y8 = true) (y9 : Slot) (hy9 : one1 y9 = true) (y10 : Slot) (hy10 : one1 y10 = true) (w : Int32 × St) (hr : f_law_106 n x0 x1 x2 x4 z0 z1 s = some w) : Ev (GG g) M_law 106 [.val (.int x0), .val (.int x1), .val (.int x2), y3, .val (.int x4), .val (.ref o), y6, y7, y8, y9, y10] [.int z0, .int z1] (K s) ((some (.int w.1)), (K w.2)) := by
  unfold f_law_106 at hr
  refine Ev.iand at_106 ?_
  refine Ev.istD (L' := [.val (.int x0), .val (.int x1), .val (.int x2), y3, .val (.int x4), .val (.ref o), .val (.int (z1 &&& z0)), y7, y8, y9, y10]) at_107 rfl hy6 rfl ?_
  refine Ev.iload at_109 rfl ?_
  refine Ev.aload at_111 rfl ?_
  refine Ev.bipush (z := 13) at_113 rfl ?_
  refine Ev.iload at_115 rfl ?_
  refine Ev.iconst (z := 0) at_117 rfl ?_
  obtain ⟨q1, hq2, hr⟩ := Option.bind_eq_some_iff.mp hr
  refine Ev.virt (y := M_add) (args := [.int (13 : Int32), .int x4, .int (0 : Int32)]) (rest := [.int (z1 &&& z0)]) (gok hw) rfl nm_add (ww hw 86 rfl) (ww hw 87 rfl) (ww hw 88 rfl) (ww hw 89 rfl) (ww hw 90 rfl) (lenOf pd_add rfl) at_118 (V.2.1 s) (e_add hw V hq2) (by decide) (Nat.le_of_ble_eq_true rfl) rfl ?_
  refine Ev.iconst (z := 3) at_121 rfl ?_
  refine Ev.icne (t := 129) at_122 rfl (fun c3 => ?_) (fun c3 => ?_)
  · replace hr := own_ip c3 hr
    refine Ev.iconst (z := 1) at_125 rfl ?_
    refine Ev.goto (t := 130) at_126 rfl ?_
    exact e_law_130 hw V  x0 x1 x2 x4 (1 : Int32) (z1 &&& z0) q1.2 y3 hy3 (.val (.int (z1 &&& z0))) rfl y7 hy7 y8 hy8 y9 hy9 y10 hy10 _ hr
  · replace hr := own_iq c3 hr
    refine Ev.iconst (z := 0) at_129 rfl ?_
    exact e_law_130 hw V  x0 x1 x2 x4 (0 : Int32) (z1 &&& z0) q1.2 y3 hy3 (.val (.int (z1 &&& z0))) rfl y7 hy7 y8 hy8 y9 hy9 y10 hy10 _ hr
def f_law_84 (n : Nat) (x0 x1 x2 x4 z0 z1 : Int32) (s : St) : Option (Int32 × St) :=
  (f_add n (1 : Int32) x2 (0 : Int32) s).bind fun q1 =>
  if q1.1 = (2 : Int32) then
    f_law_106 n x0 x1 x2 x4 (1 : Int32) (z1 &&& z0) q1.2
  else
    f_law_106 n x0 x1 x2 x4 (0 : Int32) (z1 &&& z0) q1.2
set_option maxRecDepth 100000 in
theorem e_law_84 {g : GT} {n : Nat} (hw : HW g) {K : St → MHeap} {o : Nat} {r : Nat → Nat} (V : View (GG g) Ln K o r) (x0 x1 x2 x4 z0 z1 : Int32) (s : St) (y3 : Slot) (hy3 : one1 y3 = true) (y6 : Slot) (hy6 : one1 y6 = true) (y7 : Slot) (hy7 : one1 y7 = true) (y8 : Slot) (hy8 : one1 y8 = true) (y9 : Slot) (hy9 : one1 y9 = true) (y10 : Slot) (hy10 : one1 y10 = true) (w : Int32 × St) (hr : f_law_84 n x0 x1 x2 x4 z0 z1 s = some w) : Ev (GG g) M_law 84 [.val (.int x0), .val (.int x1), .val (.int x2), y3, .val (.int x4), .val (.ref o), y6, y7, y8, y9, y10] [.int z0, .int z1] (K s) ((some (.int w.1)), (K w.2)) := by
  unfold f_law_84 at hr
  refine Ev.iand at_84 ?_
  refine Ev.istD (L' := [.val (.int x0), .val (.int x1), .val (.int x2), y3, .val (.int x4), .val (.ref o), .val (.int (z1 &&& z0)), y7, y8, y9, y10]) at_85 rfl hy6 rfl ?_
  refine Ev.iload at_87 rfl ?_
  refine Ev.aload at_89 rfl ?_
  refine Ev.iconst (z := 1) at_91 rfl ?_
  refine Ev.iloadN at_92 rfl ?_
  refine Ev.iconst (z := 0) at_93 rfl ?_
  obtain ⟨q1, hq2, hr⟩ := Option.bind_eq_some_iff.mp hr
  refine Ev.virt (y := M_add) (args := [.int (1 : Int32), .int x2, .int (0 : Int32)]) (rest := [.int (z1 &&& z0)]) (gok hw) rfl nm_add (ww hw 86 rfl) (ww hw 87 rfl) (ww hw 88 rfl) (ww hw 89 rfl) (ww hw 90 rfl) (lenOf pd_add rfl) at_94 (V.2.1 s) (e_add hw V hq2) (by decide) (Nat.le_of_ble_eq_true rfl) rfl ?_
  refine Ev.iconst (z := 2) at_97 rfl ?_
  refine Ev.icne (t := 105) at_98 rfl (fun c3 => ?_) (fun c3 => ?_)
  · replace hr := own_ip c3 hr
    refine Ev.iconst (z := 1) at_101 rfl ?_
    refine Ev.goto (t := 106) at_102 rfl ?_
    exact e_law_106 hw V  x0 x1 x2 x4 (1 : Int32) (z1 &&& z0) q1.2 y3 hy3 (.val (.int (z1 &&& z0))) rfl y7 hy7 y8 hy8 y9 hy9 y10 hy10 _ hr
  · replace hr := own_iq c3 hr
    refine Ev.iconst (z := 0) at_105 rfl ?_
    exact e_law_106 hw V  x0 x1 x2 x4 (0 : Int32) (z1 &&& z0) q1.2 y3 hy3 (.val (.int (z1 &&& z0))) rfl y7 hy7 y8 hy8 y9 hy9 y10 hy10 _ hr
def f_law_62 (n : Nat) (x0 x1 x2 x4 z0 z1 : Int32) (s : St) : Option (Int32 × St) :=
  (f_add n (2 : Int32) (1 : Int32) (0 : Int32) s).bind fun q1 =>
  if q1.1 = (1 : Int32) then
    f_law_84 n x0 x1 x2 x4 (1 : Int32) (z1 &&& z0) q1.2
  else
    f_law_84 n x0 x1 x2 x4 (0 : Int32) (z1 &&& z0) q1.2
set_option maxRecDepth 100000 in
theorem e_law_62 {g : GT} {n : Nat} (hw : HW g) {K : St → MHeap} {o : Nat} {r : Nat → Nat} (V : View (GG g) Ln K o r) (x0 x1 x2 x4 z0 z1 : Int32) (s : St) (y3 : Slot) (hy3 : one1 y3 = true) (y6 : Slot) (hy6 : one1 y6 = true) (y7 : Slot) (hy7 : one1 y7 = true) (y8 : Slot) (hy8 : one1 y8 = true) (y9 : Slot) (hy9 : one1 y9 = true) (y10 : Slot) (hy10 : one1 y10 = true) (w : Int32 × St) (hr : f_law_62 n x0 x1 x2 x4 z0 z1 s = some w) : Ev (GG g) M_law 62 [.val (.int x0), .val (.int x1), .val (.int x2), y3, .val (.int x4), .val (.ref o), y6, y7, y8, y9, y10] [.int z0, .int z1] (K s) ((some (.int w.1)), (K w.2)) := by
  unfold f_law_62 at hr
  refine Ev.iand at_62 ?_
  refine Ev.istD (L' := [.val (.int x0), .val (.int x1), .val (.int x2), y3, .val (.int x4), .val (.ref o), .val (.int (z1 &&& z0)), y7, y8, y9, y10]) at_63 rfl hy6 rfl ?_
  refine Ev.iload at_65 rfl ?_
  refine Ev.aload at_67 rfl ?_
  refine Ev.iconst (z := 2) at_69 rfl ?_
  refine Ev.iconst (z := 1) at_70 rfl ?_
  refine Ev.iconst (z := 0) at_71 rfl ?_
  obtain ⟨q1, hq2, hr⟩ := Option.bind_eq_some_iff.mp hr
  refine Ev.virt (y := M_add) (args := [.int (2 : Int32), .int (1 : Int32), .int (0 : Int32)]) (rest := [.int (z1 &&& z0)]) (gok hw) rfl nm_add (ww hw 86 rfl) (ww hw 87 rfl) (ww hw 88 rfl) (ww hw 89 rfl) (ww hw 90 rfl) (lenOf pd_add rfl) at_72 (V.2.1 s) (e_add hw V hq2) (by decide) (Nat.le_of_ble_eq_true rfl) rfl ?_
  refine Ev.iconst (z := 1) at_75 rfl ?_
  refine Ev.icne (t := 83) at_76 rfl (fun c3 => ?_) (fun c3 => ?_)
  · replace hr := own_ip c3 hr
    refine Ev.iconst (z := 1) at_79 rfl ?_
    refine Ev.goto (t := 84) at_80 rfl ?_
    exact e_law_84 hw V  x0 x1 x2 x4 (1 : Int32) (z1 &&& z0) q1.2 y3 hy3 (.val (.int (z1 &&& z0))) rfl y7 hy7 y8 hy8 y9 hy9 y10 hy10 _ hr
  · replace hr := own_iq c3 hr
    refine Ev.iconst (z := 0) at_83 rfl ?_
    exact e_law_84 hw V  x0 x1 x2 x4 (0 : Int32) (z1 &&& z0) q1.2 y3 hy3 (.val (.int (z1 &&& z0))) rfl y7 hy7 y8 hy8 y9 hy9 y10 hy10 _ hr
def f_law_15 (n : Nat) (x0 x1 x2 x4 : Int32) (s : St) : Option (Int32 × St) :=
  (f_setInput (0 : Int32) x0 s).bind fun q1 =>
  (f_setInput (1 : Int32) x1 q1.2).bind fun q3 =>
  (f_add n (2 : Int32) (0 : Int32) (0 : Int32) q3.2).bind fun q5 =>
  if q5.1 = 0 then
    f_law_62 n x0 x1 x2 x4 (1 : Int32) (((1 : Int32) &&& q1.1) &&& q3.1) q5.2
  else
    f_law_62 n x0 x1 x2 x4 (0 : Int32) (((1 : Int32) &&& q1.1) &&& q3.1) q5.2
set_option maxRecDepth 100000 in
theorem e_law_15 {g : GT} {n : Nat} (hw : HW g) {K : St → MHeap} {o : Nat} {r : Nat → Nat} (V : View (GG g) Ln K o r) (x0 x1 x2 x4 : Int32) (s : St) (y3 : Slot) (hy3 : one1 y3 = true) (y5 : Slot) (hy5 : one1 y5 = true) (y6 : Slot) (hy6 : one1 y6 = true) (y7 : Slot) (hy7 : one1 y7 = true) (y8 : Slot) (hy8 : one1 y8 = true) (y9 : Slot) (hy9 : one1 y9 = true) (y10 : Slot) (hy10 : one1 y10 = true) (w : Int32 × St) (hr : f_law_15 n x0 x1 x2 x4 s = some w) : Ev (GG g) M_law 15 [.val (.int x0), .val (.int x1), .val (.int x2), y3, .val (.int x4), y5, y6, y7, y8, y9, y10] [.ref o] (K s) ((some (.int w.1)), (K w.2)) := by
  unfold f_law_15 at hr
  refine Ev.astD (L' := [.val (.int x0), .val (.int x1), .val (.int x2), y3, .val (.int x4), .val (.ref o), y6, y7, y8, y9, y10]) at_15 rfl hy5 rfl ?_
  refine Ev.iconst (z := 1) at_17 rfl ?_
  refine Ev.istD (L' := [.val (.int x0), .val (.int x1), .val (.int x2), y3, .val (.int x4), .val (.ref o), .val (.int (1 : Int32)), y7, y8, y9, y10]) at_18 rfl hy6 rfl ?_
  refine Ev.iload at_20 rfl ?_
  refine Ev.aload at_22 rfl ?_
  refine Ev.iconst (z := 0) at_24 rfl ?_
  refine Ev.iloadN at_25 rfl ?_
  obtain ⟨q1, hq2, hr⟩ := Option.bind_eq_some_iff.mp hr
  refine Ev.virt (y := M_setInput) (args := [.int (0 : Int32), .int x0]) (rest := [.int (1 : Int32)]) (gok hw) rfl nm_setInput (ww hw 81 rfl) (ww hw 82 rfl) (ww hw 83 rfl) (ww hw 84 rfl) (ww hw 85 rfl) (lenOf pd_setInput rfl) at_26 (V.2.1 s) (e_setInput hw V hq2) (by decide) (Nat.le_of_ble_eq_true rfl) rfl ?_
  refine Ev.iand at_29 ?_
  refine Ev.istD (L' := [.val (.int x0), .val (.int x1), .val (.int x2), y3, .val (.int x4), .val (.ref o), .val (.int ((1 : Int32) &&& q1.1)), y7, y8, y9, y10]) at_30 rfl rfl rfl ?_
  refine Ev.iload at_32 rfl ?_
  refine Ev.aload at_34 rfl ?_
  refine Ev.iconst (z := 1) at_36 rfl ?_
  refine Ev.iloadN at_37 rfl ?_
  obtain ⟨q3, hq4, hr⟩ := Option.bind_eq_some_iff.mp hr
  refine Ev.virt (y := M_setInput) (args := [.int (1 : Int32), .int x1]) (rest := [.int ((1 : Int32) &&& q1.1)]) (gok hw) rfl nm_setInput (ww hw 81 rfl) (ww hw 82 rfl) (ww hw 83 rfl) (ww hw 84 rfl) (ww hw 85 rfl) (lenOf pd_setInput rfl) at_38 (V.2.1 q1.2) (e_setInput hw V hq4) (by decide) (Nat.le_of_ble_eq_true rfl) rfl ?_
  refine Ev.iand at_41 ?_
  refine Ev.istD (L' := [.val (.int x0), .val (.int x1), .val (.int x2), y3, .val (.int x4), .val (.ref o), .val (.int (((1 : Int32) &&& q1.1) &&& q3.1)), y7, y8, y9, y10]) at_42 rfl rfl rfl ?_
  refine Ev.iload at_44 rfl ?_
  refine Ev.aload at_46 rfl ?_
  refine Ev.iconst (z := 2) at_48 rfl ?_
  refine Ev.iconst (z := 0) at_49 rfl ?_
  refine Ev.iconst (z := 0) at_50 rfl ?_
  obtain ⟨q5, hq6, hr⟩ := Option.bind_eq_some_iff.mp hr
  refine Ev.virt (y := M_add) (args := [.int (2 : Int32), .int (0 : Int32), .int (0 : Int32)]) (rest := [.int (((1 : Int32) &&& q1.1) &&& q3.1)]) (gok hw) rfl nm_add (ww hw 86 rfl) (ww hw 87 rfl) (ww hw 88 rfl) (ww hw 89 rfl) (ww hw 90 rfl) (lenOf pd_add rfl) at_51 (V.2.1 q3.2) (e_add hw V hq6) (by decide) (Nat.le_of_ble_eq_true rfl) rfl ?_
  refine Ev.ifne (t := 61) at_54 rfl (fun c7 => ?_) (fun c7 => ?_)
  · replace hr := own_ip c7 hr
    refine Ev.iconst (z := 1) at_57 rfl ?_
    refine Ev.goto (t := 62) at_58 rfl ?_
    exact e_law_62 hw V  x0 x1 x2 x4 (1 : Int32) (((1 : Int32) &&& q1.1) &&& q3.1) q5.2 y3 hy3 (.val (.int (((1 : Int32) &&& q1.1) &&& q3.1))) rfl y7 hy7 y8 hy8 y9 hy9 y10 hy10 _ hr
  · replace hr := own_iq c7 hr
    refine Ev.iconst (z := 0) at_61 rfl ?_
    exact e_law_62 hw V  x0 x1 x2 x4 (0 : Int32) (((1 : Int32) &&& q1.1) &&& q3.1) q5.2 y3 hy3 (.val (.int (((1 : Int32) &&& q1.1) &&& q3.1))) rfl y7 hy7 y8 hy8 y9 hy9 y10 hy10 _ hr
def f_law (n : Nat) (a0 a1 a2 a3 : Int32) : Option (Int32 × St) :=
  (f_ctor (32 : Int32)).bind fun q1 =>
  f_law_15 n a0 a1 a2 (a3 &&& (7 : Int32)) q1
set_option maxRecDepth 100000 in
theorem e_law {g : GT} {n : Nat} {a0 : Int32} {a1 : Int32} {a2 : Int32} {a3 : Int32} {w : Int32 × St} (hw : HW g) (hk : k0 (GG g) ≤ (H0).length) (hr : f_law n a0 a1 a2 a3 = some w) : EvC (GG g) M_law [.int a0, .int a1, .int a2, .int a3] H0 ((some (.int w.1)), (KL w.2)) := by
  refine EvC.enter (L0 := [.val (.int a0), .val (.int a1), .val (.int a2), .val (.int a3), .unset, .unset, .unset, .unset, .unset, .unset, .unset]) pl_law (fun h => nomatch h) rfl rfl ?_
  unfold f_law at hr
  refine Ev.iloadN at_0 rfl ?_
  refine Ev.bipush (z := 7) at_1 rfl ?_
  refine Ev.iand at_3 ?_
  refine Ev.istD (L' := [.val (.int a0), .val (.int a1), .val (.int a2), .val (.int a3), .val (.int (a3 &&& (7 : Int32))), .unset, .unset, .unset, .unset, .unset, .unset]) at_4 rfl rfl rfl ?_
  refine Ev.new (gok hw) (ww hw 0 rfl) at_6 (fs := dfl) rfl ?_
  refine Ev.dup at_9 rfl ?_
  refine Ev.bipush (z := 32) at_10 rfl ?_
  obtain ⟨q1, hq2, hr⟩ := Option.bind_eq_some_iff.mp hr
  refine Ev.ctor (y := M_ctor) (args := [.int (32 : Int32)]) (rest := [.ref (H0).length]) rfl rfl nm_ctor (ww hw 3 rfl) (ww hw 4 rfl) (ww hw 5 rfl) (ww hw 2 rfl) (lenOf pd_ctor rfl) at_12 (e_ctor hw hk hq2) (by decide) (Nat.le_of_ble_eq_true rfl) rfl ?_
  exact e_law_15 hw (K := KL) (o := (H0).length) (r := rA (H0).length al) (view_of hk al_ok al_nd)  a0 a1 a2 (a3 &&& (7 : Int32)) q1 (.val (.int a3)) rfl .unset rfl .unset rfl .unset rfl .unset rfl .unset rfl .unset rfl _ hr
theorem fin_len (w : St) : (KL w).length - H0.length ≤ 80 := by
  have q : al.length = 33 := rfl
  unfold KL; rw [KH_len]; simp only [List.length_nil]; omega
theorem fin_hsl (w : St) : hsl 45 (KL w) - hsl 45 H0 ≤ 36352 := by
  have q : (al.map fun q => Ln q.1).sum = 18099 := by decide +kernel
  have z : hsl 45 [] = 0 := rfl
  unfold KL; rw [hsl_KH, q, z]; omega
set_option maxRecDepth 100000 in
theorem comes_1 (plain : ∀ i0 i1 i2 i3 : Int32, ∃ n w, f_law n i0 i1 i2 i3 = some (1, w)) {Post : Tables → Env → Array Value → State → Outcome → State → Prop} (hpost : ∀ tb e args s v u, (limb_1_1.after args s (.returned v) u = true ∧ limb_1_2.after args s (.returned v) u = true ∧ True) → FrameEnd s (.returned v) u (Jvm.fieldLocs frame_1_writes args s ++ Jvm.arrayLocs frame_1_arrays args s ++ Jvm.staticLocs frame_1_statics s) 80 36352 → Post tb e args s (.returned v) u) :
    ArmFor flags0 classFile x code maxLocals ret World_1 tables_1 room_1 Calls_1 rest_1 Pre_1 Post := by
  intro l hfl _ _ p e ha hc hk s m args below hf hA hF happ hP
  obtain ⟨hcalls, hrest, hpre⟩ := hP
  obtain ⟨-, -, -, hnamed, -, -, -, hat⟩ := (Spec.applies_iff hf).mp happ
  obtain ⟨hg, hn⟩ := and_e (Cond.before_iff.mp (show (Jvm.Cond.and given_1 narrow_1).before args s = true from hpre))
  obtain ⟨g0, hg⟩ := and_e hg
  obtain ⟨g1, hg⟩ := and_e hg
  obtain ⟨g2, hg⟩ := and_e hg
  obtain ⟨g3, hg⟩ := and_e hg
  obtain ⟨w0, w1, w2, w3, rfl⟩ : ∃ w0 w1 w2 w3 : Value, args = #[w0, w1, w2, w3] := by
    have hs : args.size = 4 := by simpa [Cond.value, given_1] using g0
    obtain ⟨L⟩ := args
    match L, hs with
    | [w0, w1, w2, w3], _ => exact ⟨w0, w1, w2, w3, rfl⟩
  have hw := fun d (hd : d ∈ tables_1) => atoms_spec (ws := Jvm.Cond.code x code maxLocals ret :: tables_1) hat d (List.mem_cons_of_mem _ hd)
  obtain ⟨i0, ei0⟩ := is_v g1
  obtain rfl : w0 = (.int i0) := Option.some.inj ei0
  obtain ⟨i1, ei1⟩ := is_v g2
  obtain rfl : w1 = (.int i1) := Option.some.inj ei1
  obtain ⟨i2, ei2⟩ := is_v g3
  obtain rfl : w2 = (.int i2) := Option.some.inj ei2
  obtain ⟨i3, ei3⟩ := is_v hg
  obtain rfl : w3 = (.int i3) := Option.some.inj ei3
  obtain ⟨n, w, hr⟩ := plain i0 i1 i2 i3
  have hE := e_law (g := (s, _, l, none, s.heap.size)) hw (Nat.le_refl _) hr
  obtain ⟨n, o, h1, h2, h3, _, L, rfl, ⟨rfl, N, -⟩, hq⟩ := hE.2 tables_1 room_1 s.heap (by decide) (by decide) (fin_len w) (fin_hsl w) ⟨rfl, Nat.le_refl _, fun a q => (nomatch q), fun i c q => by simp [H0] at q⟩ p e ha hc hk s m _ below hf ((Spec.applies_iff_loose hf).mp happ).1 ⟨rfl, State.Warmed39.refl s, rfl⟩ trivial
  exact ⟨n, _, h1, h2, h3, hpost _ _ _ _ _ _ ⟨Cond.after_iff.mpr rfl, Cond.after_iff.mpr (eq_i res_at (Term.int_eval (1)) rfl), trivial⟩ ⟨hq.1, hq.2.1, (hq.2.2.sift fun y hy => Or.inr (N y hy)).mono (fin_len w) (fin_hsl w)⟩⟩
theorem u_lookup_17 (n : Nat) (k : Nat) (x1 x2 x3 x4 x5 : Int32) (s : St) : f_lookup_17 n (k + 1) x1 x2 x3 x4 x5 s =
    (if x5 < (2048 : Int32) then
      grd (inb ((x4 + x5) &&& (2047 : Int32)) 2048) <|
      if (s.2 31 (ix ((x4 + x5) &&& (2047 : Int32)))) = 0 then
        bnd (setI s 34 ((x4 + x5) &&& (2047 : Int32))) fun s4 =>
        some ((-1 : Int32), s4)
      else
        if (s.2 27 (ix ((x4 + x5) &&& (2047 : Int32)))) = x1 then
          if (s.2 28 (ix ((x4 + x5) &&& (2047 : Int32)))) = x2 then
            if (s.2 29 (ix ((x4 + x5) &&& (2047 : Int32)))) = x3 then
              some ((s.2 30 (ix ((x4 + x5) &&& (2047 : Int32)))), s)
            else
              f_lookup_17 n k x1 x2 x3 x4 (x5 + (1 : Int32)) s
          else
            f_lookup_17 n k x1 x2 x3 x4 (x5 + (1 : Int32)) s
        else
          f_lookup_17 n k x1 x2 x3 x4 (x5 + (1 : Int32)) s
    else
      some ((-1 : Int32), s)) := rfl
theorem u_undoHash_2 (n : Nat) (k : Nat) (x1 x2 : Int32) (s : St) : f_undoHash_2 n (k + 1) x1 x2 s =
    (if x2 < (1024 : Int32) then
      if x1 < (s.1 39) then
        if 0 < (s.1 39) then
          bnd (setI s 39 ((s.1 39) - (1 : Int32))) fun s4 =>
          grd (inb (s4.1 39) 1024) <|
          if (s4.2 32 (ix (s4.1 39))) < 0 then
            f_undoHash_2 n k x1 (x2 + (1 : Int32)) s4
          else
            if (s4.2 32 (ix (s4.1 39))) < (2048 : Int32) then
              grd (inb (s4.2 32 (ix (s4.1 39))) 2048) <|
              bnd (setA s4 31 (ix (s4.2 32 (ix (s4.1 39)))) ((0 : Int32) &&& 1)) fun s9 =>
              f_undoHash_2 n k x1 (x2 + (1 : Int32)) s9
            else
              f_undoHash_2 n k x1 (x2 + (1 : Int32)) s4
        else
          f_undoHash_68 n s
      else
        f_undoHash_68 n s
    else
      f_undoHash_68 n s) := rfl
theorem u_law_514 (n : Nat) (k : Nat) (x1 x4 x6 x7 x8 x9 : Int32) (s : St) : f_law_514 n (k + 1) x1 x4 x6 x7 x8 x9 s =
    (if x9 < (8 : Int32) then
      if x9 < x4 then
        (f_output s (0 : Int32) x9).bind fun q3 =>
        if q3 = ((x9 + (1 : Int32)) * x7) then
          f_law_557 n (f_law_514 n k) x1 x4 x7 x8 x9 ((x9 + (1 : Int32)) * x7) (1 : Int32) x6 s
        else
          f_law_557 n (f_law_514 n k) x1 x4 x7 x8 x9 ((x9 + (1 : Int32)) * x7) (0 : Int32) x6 s
      else
        f_law_514 n k x1 x4 x6 x7 x8 (x9 + (1 : Int32)) s
    else
      (f_output s (0 : Int32) x4).bind fun q6 =>
      if q6 = (x8 * x1) then
        f_law_615 n x4 (x8 * x1) (1 : Int32) x6 s
      else
        f_law_615 n x4 (x8 * x1) (0 : Int32) x6 s) := rfl
/-! ### the plain law -/
theorem own_pg0 : ∀ (S T : List Nat), T.Nodup → S.length < T.length → ∃ x, x ∈ T ∧ x ∉ S := by
  intro S
  induction S with
  | nil =>
    intro T _ h
    cases T with
    | nil => simp at h
    | cons x T => exact ⟨x, by simp, by simp⟩
  | cons a S ih =>
    intro T hT h
    have h1 : S.length < (T.erase a).length := by
      have := List.length_erase (a := a) (l := T)
      simp only [List.length_cons] at h
      split at this <;> omega
    obtain ⟨x, hx, hs⟩ := ih (T.erase a) (hT.erase a) h1
    rw [hT.mem_erase_iff] at hx
    exact ⟨x, hx.2, by simp only [List.mem_cons, not_or]; exact ⟨hx.1, hs⟩⟩
theorem own_pg (S : List Nat) (h : Nat) (hS : S.length < 2048) : ∃ e, e ≤ S.length ∧ (h + e) % 2048 ∉ S := by
  have nd : ((List.range (S.length + 1)).map fun e => (h + e) % 2048).Nodup := by
    rw [List.nodup_iff_pairwise_ne, List.pairwise_map]
    refine List.Pairwise.imp_of_mem ?_ List.pairwise_lt_range
    intro a b ha hb hab
    rw [List.mem_range] at ha hb
    omega
  obtain ⟨x, hx, hs⟩ := own_pg0 S _ nd (by simp)
  rw [List.mem_map] at hx
  obtain ⟨e, he, rfl⟩ := hx
  rw [List.mem_range] at he
  exact ⟨e, by omega, hs⟩
theorem own_least {P : Nat → Prop} : ∀ N, (∃ e, e ≤ N ∧ P e) → ∃ e, e ≤ N ∧ P e ∧ ∀ e', e' < e → ¬ P e' := by
  intro N
  induction N with
  | zero =>
    intro ⟨e, h, p⟩
    exact ⟨e, h, p, fun e' h' => by omega⟩
  | succ N ih =>
    intro ⟨e, h, p⟩
    by_cases q : ∃ e, e ≤ N ∧ P e
    · obtain ⟨e, h1, h2, h3⟩ := ih q
      exact ⟨e, by omega, h2, h3⟩
    · refine ⟨e, h, p, fun e' h' p' => q ⟨e', by omega, p'⟩⟩
theorem own_mod {m : Nat} (h : m < 2147483648) : Int32.ofNat m &&& 2047 = Int32.ofNat (m % 2048) := by
  apply Int32.toBitVec_inj.mp
  apply BitVec.eq_of_toNat_eq
  rw [Int32.toBitVec_and, BitVec.toNat_and]
  show (BitVec.ofNat 32 m).toNat &&& 2047 = (BitVec.ofNat 32 (m % 2048)).toNat
  rw [BitVec.toNat_ofNat, BitVec.toNat_ofNat, Nat.mod_eq_of_lt (by omega : m < 2 ^ 32), Nat.mod_eq_of_lt (by omega : m % 2048 < 2 ^ 32)]
  exact Nat.and_two_pow_sub_one_eq_mod m 11
/-- the hash of a key -/
def own_hN (a b d : Int32) : Nat := ix ((f_hashOf zeroS a b d).getD 0)
theorem own_hash (s : St) (a b d : Int32) : f_hashOf s a b d = some (Int32.ofNat (own_hN a b d)) ∧ own_hN a b d < 2048 := by
  obtain ⟨v, hv⟩ : ∃ v : Int32, f_hashOf zeroS a b d = some (v &&& 2047) := ⟨_, rfl⟩
  have e : f_hashOf s a b d = some (v &&& 2047) := hv
  have r := and_rng v (m := 2047) (by omega)
  rw [show Int32.ofNat 2047 = (2047 : Int32) from rfl] at r
  have n0 : ¬ (v &&& 2047) < 0 := by rw [lt_I, show (0 : Int32).toInt = 0 from rfl]; omega
  unfold own_hN
  rw [e, hv, Option.getD_some, N_ix n0]
  have := ix_toInt n0
  exact ⟨rfl, by omega⟩
/-- the slot at step e of the probe for a key -/
def own_sl (a b d : Int32) (e : Nat) : Nat := (own_hN a b d + e) % 2048
/-- the list in t stands in the table of s -/
def own_H (s t : St) : Prop := ∃ N, N ≤ 40 ∧ t.1 39 = Int32.ofNat N ∧ ∃ sl : Nat → Nat,
  (∀ i, i < N → sl i < 2048 ∧ s.2 32 i = Int32.ofNat (sl i) ∧ s.2 27 (sl i) = t.2 27 i ∧ s.2 28 (sl i) = t.2 28 i ∧ s.2 29 (sl i) = t.2 29 i ∧ s.2 30 (sl i) = t.2 30 i ∧ ¬ t.2 30 i < 0 ∧ s.2 31 (sl i) = 1) ∧
  (∀ x, x < 2048 → (∀ i, i < N → sl i ≠ x) → s.2 31 x = 0) ∧
  (∀ i j, i < N → j < N → sl i = sl j → i = j) ∧
  (∀ i j, i < N → j < N → t.2 27 i = t.2 27 j → t.2 28 i = t.2 28 j → t.2 29 i = t.2 29 j → i = j) ∧
  (∀ i, i < N → ∃ e, e ≤ 40 ∧ sl i = own_sl (t.2 27 i) (t.2 28 i) (t.2 29 i) e ∧ ∀ e', e' < e → ∃ j, j < i ∧ sl j = own_sl (t.2 27 i) (t.2 28 i) (t.2 29 i) e')
def own_fnd (t : St) (a b d : Int32) : Nat → Int32
  | 0 => -1
  | k + 1 => if t.2 27 k = a then (if t.2 28 k = b then (if t.2 29 k = d then t.2 30 k else own_fnd t a b d k) else own_fnd t a b d k) else own_fnd t a b d k
theorem own_fndE (t : St) (a b d : Int32) : ∀ N, (∃ i, i < N ∧ t.2 27 i = a ∧ t.2 28 i = b ∧ t.2 29 i = d ∧ own_fnd t a b d N = t.2 30 i) ∨ ((∀ i, i < N → ¬ (t.2 27 i = a ∧ t.2 28 i = b ∧ t.2 29 i = d)) ∧ own_fnd t a b d N = -1) := by
  intro N
  induction N with
  | zero => exact Or.inr ⟨fun i h => by omega, rfl⟩
  | succ N ih =>
    have step : ¬ (t.2 27 N = a ∧ t.2 28 N = b ∧ t.2 29 N = d) → own_fnd t a b d (N + 1) = own_fnd t a b d N → (∃ i, i < N + 1 ∧ t.2 27 i = a ∧ t.2 28 i = b ∧ t.2 29 i = d ∧ own_fnd t a b d (N + 1) = t.2 30 i) ∨ ((∀ i, i < N + 1 → ¬ (t.2 27 i = a ∧ t.2 28 i = b ∧ t.2 29 i = d)) ∧ own_fnd t a b d (N + 1) = -1) := by
      intro ne e
      rw [e]
      obtain ⟨i, h1, h2⟩ | ⟨h1, h2⟩ := ih
      · exact Or.inl ⟨i, by omega, h2⟩
      · refine Or.inr ⟨fun i hi => ?_, h2⟩
        by_cases q : i = N
        · rw [q]; exact ne
        · exact h1 i (by omega)
    have un : own_fnd t a b d (N + 1) = if t.2 27 N = a then (if t.2 28 N = b then (if t.2 29 N = d then t.2 30 N else own_fnd t a b d N) else own_fnd t a b d N) else own_fnd t a b d N := rfl
    by_cases q1 : t.2 27 N = a
    · by_cases q2 : t.2 28 N = b
      · by_cases q3 : t.2 29 N = d
        · exact Or.inl ⟨N, by omega, q1, q2, q3, by rw [un, if_pos q1, if_pos q2, if_pos q3]⟩
        · exact step (fun z => q3 z.2.2) (by rw [un, if_pos q1, if_pos q2, if_neg q3])
      · exact step (fun z => q2 z.2.1) (by rw [un, if_pos q1, if_neg q2])
    · exact step (fun z => q1 z.1) (by rw [un, if_neg q1])
/-- one step of the probe over a slot that is taken by another key -/
theorem own_pr1 {n k : Nat} {s : St} {a b d : Int32} {e : Nat} (he : e ≤ 100) (hu : s.2 31 (own_sl a b d e) = 1) (hk : ¬ (s.2 27 (own_sl a b d e) = a ∧ s.2 28 (own_sl a b d e) = b ∧ s.2 29 (own_sl a b d e) = d)) :
    f_lookup_17 n (k + 1) a b d (Int32.ofNat (own_hN a b d)) (Int32.ofNat e) s = f_lookup_17 n k a b d (Int32.ofNat (own_hN a b d)) (Int32.ofNat (e + 1)) s := by
  have hN := (own_hash s a b d).2
  have sb : own_sl a b d e < 2048 := Nat.mod_lt _ (by omega)
  have ie : (Int32.ofNat (own_hN a b d) + Int32.ofNat e) &&& 2047 = Int32.ofNat (own_sl a b d e) := by
    rw [N_add, own_mod (by omega)]; rfl
  rw [u_lookup_17, if_pos (ltZ (z := 2048) 2048 rfl (by omega) (by omega)), ie, grd_pos (inbN sb (by omega)), ix_N (by omega), hu, if_neg (by decide), N_succ]
  by_cases q1 : s.2 27 (own_sl a b d e) = a
  · rw [if_pos q1]
    by_cases q2 : s.2 28 (own_sl a b d e) = b
    · rw [if_pos q2]
      by_cases q3 : s.2 29 (own_sl a b d e) = d
      · exact absurd ⟨q1, q2, q3⟩ hk
      · rw [if_neg q3]
    · rw [if_neg q2]
  · rw [if_neg q1]
theorem own_pr {n : Nat} {s : St} {a b d : Int32} {E : Nat} (hE : E ≤ 100) (h : ∀ e, e < E → s.2 31 (own_sl a b d e) = 1 ∧ ¬ (s.2 27 (own_sl a b d e) = a ∧ s.2 28 (own_sl a b d e) = b ∧ s.2 29 (own_sl a b d e) = d)) :
    ∀ m e k, e + m = E → f_lookup_17 n (k + m) a b d (Int32.ofNat (own_hN a b d)) (Int32.ofNat e) s = f_lookup_17 n k a b d (Int32.ofNat (own_hN a b d)) (Int32.ofNat E) s := by
  intro m
  induction m with
  | zero => intro e k he; rw [show e = E by omega]; rfl
  | succ m ih =>
    intro e k he
    rw [show k + (m + 1) = (k + m) + 1 by omega, own_pr1 (by omega) (h e (by omega)).1 (h e (by omega)).2]
    exact ih (e + 1) k (by omega)
theorem own_lkF {m : Nat} {s t : St} {a b d : Int32} (H : own_H s t) {i N : Nat} (hN : t.1 39 = Int32.ofNat N) (hN40 : N < 2147483648) (hi : i < N) (k1 : t.2 27 i = a) (k2 : t.2 28 i = b) (k3 : t.2 29 i = d) :
    f_lookup (m + 100) a b d s = some (t.2 30 i, setI s 34 (-1)) ∧ ¬ t.2 30 i < 0 := by
  obtain ⟨N', n1, n2, sl, h1, h2, h3, h4, h5⟩ := H
  have : N' = N := by rw [n2, N_inj (by omega) hN40] at hN; exact hN
  subst this
  obtain ⟨e, e40, e1, e2⟩ := h5 i hi
  rw [k1, k2, k3] at e1 e2
  obtain ⟨g1, g2, g3, g4, g5, g6, g7, g8⟩ := h1 i hi
  refine ⟨?_, g7⟩
  have hH := own_hash s a b d
  unfold f_lookup
  rw [hH.1, Option.bind_some, bnd_eq]
  have pr := own_pr (n := m + 100) (s := setI s 34 (-1)) (a := a) (b := b) (d := d) (E := e) (by omega) (fun e' he' => by
    obtain ⟨j, j1, j2⟩ := e2 e' he'
    obtain ⟨f1, f2, f3, f4, f5, f6, f7, f8⟩ := h1 j (by omega)
    rw [setI_2, ← j2]
    refine ⟨f8, fun z => ?_⟩
    have := h4 j i (by omega) hi (by rw [← f3, z.1, k1]) (by rw [← f4, z.2.1, k2]) (by rw [← f5, z.2.2, k3])
    omega) e 0 (m + 100 - e) (by omega)
  rw [show m + 100 - e + e = m + 100 by omega] at pr
  rw [show (0 : Int32) = Int32.ofNat 0 from rfl, pr, show m + 100 - e = (m + 99 - e) + 1 by omega]
  have sb : own_sl a b d e < 2048 := Nat.mod_lt _ (by omega)
  have ie : (Int32.ofNat (own_hN a b d) + Int32.ofNat e) &&& 2047 = Int32.ofNat (own_sl a b d e) := by
    rw [N_add, own_mod (by omega)]; rfl
  rw [u_lookup_17, if_pos (ltZ (z := 2048) 2048 rfl (by omega) (by omega)), ie, grd_pos (inbN sb (by omega)), ix_N (by omega), setI_2, ← e1, g8, if_neg (by decide), g3, k1, if_pos rfl, g4, k2, if_pos rfl, g5, k3, if_pos rfl, g6]
theorem own_lkN {m : Nat} {s t : St} {a b d : Int32} (H : own_H s t) {N : Nat} (hN : t.1 39 = Int32.ofNat N) (hN40 : N < 2147483648) (hk : ∀ i, i < N → ¬ (t.2 27 i = a ∧ t.2 28 i = b ∧ t.2 29 i = d)) :
    ∃ e, e ≤ 40 ∧ f_lookup (m + 100) a b d s = some (-1, setI s 34 (Int32.ofNat (own_sl a b d e))) ∧ s.2 31 (own_sl a b d e) = 0 ∧ ∀ e', e' < e → s.2 31 (own_sl a b d e') = 1 := by
  obtain ⟨N', n1, n2, sl, h1, h2, h3, h4, h5⟩ := H
  have : N' = N := by rw [n2, N_inj (by omega) hN40] at hN; exact hN
  subst this
  have ml : ∀ x, x ∈ (List.range N').map sl ↔ ∃ j, j < N' ∧ sl j = x := fun x => by
    rw [List.mem_map]
    exact ⟨fun ⟨j, j1, j2⟩ => ⟨j, List.mem_range.mp j1, j2⟩, fun ⟨j, j1, j2⟩ => ⟨j, List.mem_range.mpr j1, j2⟩⟩
  have ex := own_pg ((List.range N').map sl) (own_hN a b d) (by simp; omega)
  rw [List.length_map, List.length_range] at ex
  obtain ⟨e, e1, e2, e3⟩ := own_least N' ex
  have sb : own_sl a b d e < 2048 := Nat.mod_lt _ (by omega)
  have us : ∀ e', e' < e → ∃ j, j < N' ∧ sl j = own_sl a b d e' := fun e' he' => (ml _).mp (Classical.not_not.mp (e3 e' he'))
  have u0 : s.2 31 (own_sl a b d e) = 0 := h2 _ sb (fun j hj q => e2 ((ml _).mpr ⟨j, hj, q⟩))
  refine ⟨e, by omega, ?_, u0, fun e' he' => by
    obtain ⟨j, j1, j2⟩ := us e' he'
    rw [← j2]; exact (h1 j j1).2.2.2.2.2.2.2⟩
  have hH := own_hash s a b d
  unfold f_lookup
  rw [hH.1, Option.bind_some, bnd_eq]
  have pr := own_pr (n := m + 100) (s := setI s 34 (-1)) (a := a) (b := b) (d := d) (E := e) (by omega) (fun e' he' => by
    obtain ⟨j, j1, j2⟩ := us e' he'
    obtain ⟨f1, f2, f3, f4, f5, f6, f7, f8⟩ := h1 j (by omega)
    rw [setI_2, ← j2]
    exact ⟨f8, fun z => hk j j1 ⟨by rw [← f3, z.1], by rw [← f4, z.2.1], by rw [← f5, z.2.2]⟩⟩) e 0 (m + 100 - e) (by omega)
  rw [show m + 100 - e + e = m + 100 by omega] at pr
  rw [show (0 : Int32) = Int32.ofNat 0 from rfl, pr, show m + 100 - e = (m + 99 - e) + 1 by omega]
  have ie : (Int32.ofNat (own_hN a b d) + Int32.ofNat e) &&& 2047 = Int32.ofNat (own_sl a b d e) := by
    rw [N_add, own_mod (by omega)]; rfl
  rw [u_lookup_17, if_pos (ltZ (z := 2048) 2048 rfl (by omega) (by omega)), ie, grd_pos (inbN sb (by omega)), ix_N (by omega), setI_2, u0, if_pos rfl, bnd_eq]
  refine congrArg (fun w => some ((-1 : Int32), w)) ?_
  apply Prod.ext
  · funext x; rw [setI_1, setI_1, setI_1]; split <;> rfl
  · rfl
/-- a non-field of the table -/
def own_nh (j : Nat) : Prop := j < 27 ∨ 32 < j
instance (j : Nat) : Decidable (own_nh j) := inferInstanceAs (Decidable (_ ∨ _))
def own_Jc (c : Int32) (t : St) : Prop := ∀ i, 32 ≤ i → t.2 7 i = 1 → t.2 8 i = c
/-- s and t agree outside of the table, and t's list stands in the table of s -/
def own_R (c : Int32) (s t : St) : Prop := (∀ j, j ≠ 34 → s.1 j = t.1 j) ∧ (∀ j, own_nh j → s.2 j = t.2 j) ∧ own_H s t ∧ own_Jc c t
theorem own_HI {s t : St} (h : own_H s t) (j : Nat) (v : Int32) (hj : j ≠ 39) : own_H (setI s j v) (setI t j v) := by
  obtain ⟨N, n1, n2, r⟩ := h
  exact ⟨N, n1, by rw [setI_1, if_neg (fun z => hj z.symm)]; exact n2, r⟩
theorem own_HA {s t : St} (h : own_H s t) (j i : Nat) (v : Int32) (hj : own_nh j) : own_H (setA s j i v) (setA t j i v) := by
  have e : ∀ (u : St) k, ¬ own_nh k → (setA u j i v).2 k = u.2 k := fun u k hk => by
    funext x; rw [setA_2, if_neg (fun z : k = j ∧ x = i => hk (z.1 ▸ hj))]
  unfold own_H at h ⊢
  rw [e s 27 (by decide), e s 28 (by decide), e s 29 (by decide), e s 30 (by decide), e s 31 (by decide), e s 32 (by decide), e t 27 (by decide), e t 28 (by decide), e t 29 (by decide), e t 30 (by decide)]
  exact h
theorem own_RI {c : Int32} {s t : St} (h : own_R c s t) (j : Nat) (v : Int32) (hj : j ≠ 39) : own_R c (setI s j v) (setI t j v) := by
  obtain ⟨h1, h2, h3, h4⟩ := h
  refine ⟨fun k hk => ?_, h2, own_HI h3 j v hj, h4⟩
  rw [setI_1, setI_1]
  split
  · rfl
  · exact h1 k hk
theorem own_RA {c : Int32} {s t : St} (h : own_R c s t) (j i : Nat) (v : Int32) (hj : own_nh j) (h7 : j ≠ 7) (h8 : j ≠ 8) : own_R c (setA s j i v) (setA t j i v) := by
  obtain ⟨h1, h2, h3, h4⟩ := h
  refine ⟨h1, fun k hk => ?_, own_HA h3 j i v hj, fun x hx => ?_⟩
  · funext x; rw [setA_2, setA_2, h2 k hk]
  · rw [setA_2, setA_2, if_neg (fun z => h7 z.1.symm), if_neg (fun z => h8 z.1.symm)]; exact h4 x hx
/-- what y answers, x answers too -/
def own_RR {α β : Type} (P : α → β → Prop) (x : Option α) (y : Option β) : Prop := ∀ b, y = some b → ∃ a, x = some a ∧ P a b
def own_RP (c : Int32) (a b : Int32 × St) : Prop := a.1 = b.1 ∧ own_R c a.2 b.2
theorem RR_none {α β : Type} {P : α → β → Prop} {x : Option α} : own_RR P x none := fun b h => by cases h
theorem RR_some {α β : Type} {P : α → β → Prop} {a : α} {b : β} (h : P a b) : own_RR P (some a) (some b) := fun b' e => by cases e; exact ⟨a, rfl, h⟩
theorem RR_grd {α β : Type} {P : α → β → Prop} {c : Prop} [Decidable c] {x : Option α} {y : Option β} (h : own_RR P x y) : own_RR P (grd c x) (grd c y) := fun b e => by
  obtain ⟨hc, e⟩ := grd_some e
  rw [grd_pos hc]; exact h b e
theorem RR_ite {α β : Type} {P : α → β → Prop} {c : Prop} [Decidable c] {x x' : Option α} {y y' : Option β} (h : own_RR P x y) (h' : own_RR P x' y') : own_RR P (if c then x else x') (if c then y else y') := by
  by_cases q : c
  · rw [if_pos q, if_pos q]; exact h
  · rw [if_neg q, if_neg q]; exact h'
theorem RR_bind {α β γ δ : Type} {P : α → β → Prop} {Q : γ → δ → Prop} {x : Option α} {y : Option β} {f : α → Option γ} {g : β → Option δ} (h : own_RR P x y) (k : ∀ a b, P a b → own_RR Q (f a) (g b)) : own_RR Q (x.bind f) (y.bind g) := fun d e => by
  cases q : y with
  | none => rw [q] at e; cases e
  | some b =>
    rw [q, Option.bind_some] at e
    obtain ⟨a, ha, p⟩ := h b q
    rw [ha, Option.bind_some]
    exact k a b p d e
theorem RR_bindS {c : Int32} {γ δ : Type} {Q : γ → δ → Prop} {x y : Option St} {f : St → Option γ} {g : St → Option δ} (h : own_RR (own_R c) x y) (k : ∀ a b, own_R c a b → own_RR Q (f a) (g b)) : own_RR Q (x.bind f) (y.bind g) := RR_bind h k
theorem RR_bindV {γ δ : Type} {Q : γ → δ → Prop} {x y : Option Int32} {f : Int32 → Option γ} {g : Int32 → Option δ} (h : own_RR Eq x y) (k : ∀ v, own_RR Q (f v) (g v)) : own_RR Q (x.bind f) (y.bind g) := RR_bind h (fun a b e => by rw [e]; exact k b)
theorem RR_bindP {c : Int32} {γ δ : Type} {Q : γ → δ → Prop} {x y : Option (Int32 × St)} {f : Int32 × St → Option γ} {g : Int32 × St → Option δ} (h : own_RR (own_RP c) x y) (k : ∀ v a b, own_R c a b → own_RR Q (f (v, a)) (g (v, b))) : own_RR Q (x.bind f) (y.bind g) := RR_bind h (fun a b e => by
  obtain ⟨a1, a2⟩ := a
  obtain ⟨b1, b2⟩ := b
  obtain ⟨e1, e2⟩ := e
  have e1 : a1 = b1 := e1
  subst e1
  exact k a1 a2 b2 e2)
theorem RR_bndS {c : Int32} {γ δ : Type} {Q : γ → δ → Prop} {x y : St} {f : St → Option γ} {g : St → Option δ} (h : own_R c x y) (k : ∀ a b, own_R c a b → own_RR Q (f a) (g b)) : own_RR Q (bnd x f) (bnd y g) := k x y h
theorem RR_bndV {γ δ : Type} {Q : γ → δ → Prop} {x : Int32} {f : Int32 → Option γ} {g : Int32 → Option δ} (k : ∀ v, own_RR Q (f v) (g v)) : own_RR Q (bnd x f) (bnd x g) := k x
theorem RR_pp {c : Int32} {x y : Option (Int32 × St)} (h : own_RR (own_RP c) x y) : own_RR (own_RP c) (x.bind fun q => some (q.1, q.2)) (y.bind fun q => some (q.1, q.2)) := RR_bindP h fun v a b e => RR_some ⟨rfl, e⟩
/-- emit -/
theorem r_emit {c : Int32} {s t : St} (a0 a1 a2 : Int32) (h0 : a0 = 1 → a1 = c) (h : own_R c s t) : own_RR (own_RP c) (f_emit a0 a1 a2 s) (f_emit a0 a1 a2 t) := by
  unfold f_emit
  rw [h.1 40 (by decide)]
  have e17 : own_RR (own_RP c) (f_emit_17 s) (f_emit_17 t) := by
    unfold f_emit_17
    exact RR_bndS (own_RI h 41 ((1 : Int32) &&& 1) (by decide)) fun a b e => RR_some ⟨rfl, e⟩
  refine RR_ite e17 (RR_ite ?_ e17)
  refine RR_grd ?_
  obtain ⟨p, ep⟩ : ∃ p, p = ix ((32 : Int32) + t.1 40) := ⟨_, rfl⟩
  rw [← ep]
  simp only [bnd_eq]
  have R4 : own_R c (setA (setA (setA (setA s 7 p a0) 8 p a1) 9 p a2) 10 p 0) (setA (setA (setA (setA t 7 p a0) 8 p a1) 9 p a2) 10 p 0) := by
    refine own_RA (own_RA ?_ 9 p a2 (by decide) (by decide) (by decide)) 10 p 0 (by decide) (by decide) (by decide)
    obtain ⟨h1, h2, h3, h4⟩ := h
    refine ⟨h1, fun k hk => ?_, own_HA (own_HA h3 7 p a0 (by decide)) 8 p a1 (by decide), fun x hx => ?_⟩
    · funext x; rw [setA_2, setA_2, setA_2, setA_2, h2 k hk]
    · rw [setA_2, setA_2, if_neg (fun z => by omega), setA_2, setA_2]
      by_cases q : x = p
      · rw [if_pos ⟨by trivial, q⟩, if_pos ⟨by trivial, q⟩]; exact h0
      · rw [if_neg (fun z => q z.2), if_neg (fun z => q z.2), if_neg (fun z => q z.2)]; exact h4 x hx
  rw [show (setA (setA (setA (setA s 7 p a0) 8 p a1) 9 p a2) 10 p 0).1 40 = t.1 40 from h.1 _ (by decide), show (setA (setA (setA (setA t 7 p a0) 8 p a1) 9 p a2) 10 p 0).1 40 = t.1 40 from rfl]
  exact RR_some ⟨rfl, own_RI R4 _ _ (by decide)⟩
theorem own_R34 {c : Int32} {s t : St} (h : own_R c s t) (v : Int32) : own_R c (setI s 34 v) t := by
  obtain ⟨h1, h2, h3, h4⟩ := h
  exact ⟨fun j hj => by rw [setI_1, if_neg hj]; exact h1 j hj, h2, h3, h4⟩
def g_ins (a b d v : Int32) (t : St) : Option St :=
  if t.1 39 < 40 then
    grd (¬ t.1 39 < 0) <|
    some (setI (setA (setA (setA (setA t 27 (ix (t.1 39)) a) 28 (ix (t.1 39)) b) 29 (ix (t.1 39)) d) 30 (ix (t.1 39)) v) 39 (t.1 39 + 1))
  else none
theorem r_ins {c : Int32} {s t : St} {a b d v : Int32} {e : Nat} (h : own_R c s t) (hf : s.1 34 = Int32.ofNat (own_sl a b d e)) (he : e ≤ 40) (u0 : s.2 31 (own_sl a b d e) = 0) (u1 : ∀ e', e' < e → s.2 31 (own_sl a b d e') = 1)
    (hk : ∀ N, t.1 39 = Int32.ofNat N → ∀ i, i < N → N < 2147483648 → ¬ (t.2 27 i = a ∧ t.2 28 i = b ∧ t.2 29 i = d)) (hv : ¬ v < 0) : own_RR (own_R c) (f_insert a b d v s) (g_ins a b d v t) := by
  obtain ⟨h1, h2, ⟨N, n1, n2, sl, k1, k2, k3, k4, k5⟩, h4⟩ := h
  have nk := fun i hi => hk N n2 i hi (by omega)
  intro t' et
  unfold g_ins at et
  rw [n2] at et
  have sb : ∀ e, own_sl a b d e < 2048 := fun e => Nat.mod_lt _ (by omega)
  obtain ⟨f, ef⟩ : ∃ f, f = own_sl a b d e := ⟨_, rfl⟩
  have fb : f < 2048 := by rw [ef]; exact sb e
  rw [← ef] at hf u0
  have fr : ∀ i, i < N → sl i ≠ f := fun i hi q => by
    have := (k1 i hi).2.2.2.2.2.2.2
    rw [q, u0] at this
    exact absurd this (by decide)
  by_cases q : Int32.ofNat N < 40
  · rw [if_pos q, ix_N (by omega), grd_pos (N_neg (by omega)), N_succ] at et
    have N40 : N < 40 := by
      rw [show (40 : Int32) = Int32.ofNat 40 from rfl, N_lt (by omega) (by omega)] at q; exact q
    cases et
    have sN : s.1 39 = Int32.ofNat N := (h1 _ (by decide)).trans n2
    have sN' : (setI s 34 (-1)).1 39 = Int32.ofNat N := by rw [setI_1, if_neg (by decide)]; exact sN
    unfold f_insert
    simp only [bnd_eq]
    rw [hf, if_neg (N_neg (by omega)), if_pos (ltZ (z := 2048) 2048 rfl fb (by omega)), sN', if_neg (N_neg (by omega)), if_pos (ltZ (z := 1024) 1024 rfl (by omega) (by omega)), grd_pos (inbN fb (by omega)), ix_N (by omega)]
    rw [show (setA (setA (setA (setA (setA (setI s 34 (-1)) 27 f a) 28 f b) 29 f d) 30 f v) 31 f (1 &&& 1)).1 39 = Int32.ofNat N from by rw [setA_1, setA_1, setA_1, setA_1, setA_1, setI_1, if_neg (by decide)]; exact sN]
    rw [grd_pos (inbN (by omega) (by omega)), ix_N (by omega), setA_1]
    rw [show (setA (setA (setA (setA (setA (setI s 34 (-1)) 27 f a) 28 f b) 29 f d) 30 f v) 31 f (1 &&& 1)).1 39 = Int32.ofNat N from by rw [setA_1, setA_1, setA_1, setA_1, setA_1, setI_1, if_neg (by decide)]; exact sN, N_succ]
    refine ⟨_, rfl, fun j hj => ?_, fun j hj => ?_, ?_, ?_⟩
    · rw [setI_1, setI_1]
      split
      · rfl
      · rw [setA_1, setA_1, setA_1, setA_1, setA_1, setA_1, setI_1, if_neg hj]; exact h1 j hj
    · funext x
      have hj' : j < 27 ∨ 32 < j := hj
      rw [setI_2, setI_2]
      simp only [setA_2]
      rw [if_neg (fun z => by omega), if_neg (fun z => by omega), if_neg (fun z => by omega), if_neg (fun z => by omega), if_neg (fun z => by omega), if_neg (fun z => by omega), if_neg (fun z => by omega), if_neg (fun z => by omega), if_neg (fun z => by omega), if_neg (fun z => by omega), setI_2, h2 j hj]
    · have S : ∀ x, (setI (setA (setA (setA (setA (setA (setA (setI s 34 (-1)) 27 f a) 28 f b) 29 f d) 30 f v) 31 f (1 &&& 1)) 32 N (Int32.ofNat f)) 39 (Int32.ofNat (N + 1))).2 27 x = (if x = f then a else s.2 27 x) ∧
          (setI (setA (setA (setA (setA (setA (setA (setI s 34 (-1)) 27 f a) 28 f b) 29 f d) 30 f v) 31 f (1 &&& 1)) 32 N (Int32.ofNat f)) 39 (Int32.ofNat (N + 1))).2 28 x = (if x = f then b else s.2 28 x) ∧
          (setI (setA (setA (setA (setA (setA (setA (setI s 34 (-1)) 27 f a) 28 f b) 29 f d) 30 f v) 31 f (1 &&& 1)) 32 N (Int32.ofNat f)) 39 (Int32.ofNat (N + 1))).2 29 x = (if x = f then d else s.2 29 x) ∧
          (setI (setA (setA (setA (setA (setA (setA (setI s 34 (-1)) 27 f a) 28 f b) 29 f d) 30 f v) 31 f (1 &&& 1)) 32 N (Int32.ofNat f)) 39 (Int32.ofNat (N + 1))).2 30 x = (if x = f then v else s.2 30 x) ∧
          (setI (setA (setA (setA (setA (setA (setA (setI s 34 (-1)) 27 f a) 28 f b) 29 f d) 30 f v) 31 f (1 &&& 1)) 32 N (Int32.ofNat f)) 39 (Int32.ofNat (N + 1))).2 31 x = (if x = f then 1 else s.2 31 x) ∧
          (setI (setA (setA (setA (setA (setA (setA (setI s 34 (-1)) 27 f a) 28 f b) 29 f d) 30 f v) 31 f (1 &&& 1)) 32 N (Int32.ofNat f)) 39 (Int32.ofNat (N + 1))).2 32 x = (if x = N then Int32.ofNat f else s.2 32 x) := fun x => by
        rw [setI_2]; simp only [setA_2, setI_2]; simp
      have T : ∀ x, (setI (setA (setA (setA (setA t 27 N a) 28 N b) 29 N d) 30 N v) 39 (Int32.ofNat (N + 1))).2 27 x = (if x = N then a else t.2 27 x) ∧
          (setI (setA (setA (setA (setA t 27 N a) 28 N b) 29 N d) 30 N v) 39 (Int32.ofNat (N + 1))).2 28 x = (if x = N then b else t.2 28 x) ∧
          (setI (setA (setA (setA (setA t 27 N a) 28 N b) 29 N d) 30 N v) 39 (Int32.ofNat (N + 1))).2 29 x = (if x = N then d else t.2 29 x) ∧
          (setI (setA (setA (setA (setA t 27 N a) 28 N b) 29 N d) 30 N v) 39 (Int32.ofNat (N + 1))).2 30 x = (if x = N then v else t.2 30 x) := fun x => by
        rw [setI_2]; simp only [setA_2]; simp
      have t39 : (setI (setA (setA (setA (setA t 27 N a) 28 N b) 29 N d) 30 N v) 39 (Int32.ofNat (N + 1))).1 39 = Int32.ofNat (N + 1) := by rw [setI_1, if_pos (by trivial)]
      generalize setI (setA (setA (setA (setA (setA (setA (setI s 34 (-1)) 27 f a) 28 f b) 29 f d) 30 f v) 31 f (1 &&& 1)) 32 N (Int32.ofNat f)) 39 (Int32.ofNat (N + 1)) = s' at S ⊢
      generalize setI (setA (setA (setA (setA t 27 N a) 28 N b) 29 N d) 30 N v) 39 (Int32.ofNat (N + 1)) = t' at T t39 ⊢
      obtain ⟨sl', hs⟩ : ∃ sl' : Nat → Nat, ∀ i, sl' i = if i = N then f else sl i := ⟨_, fun _ => rfl⟩
      have sA : sl' N = f := by rw [hs, if_pos rfl]
      have sB : ∀ i, i < N → sl' i = sl i := fun i hi => by rw [hs, if_neg (by omega)]
      clear hs
      have cs : ∀ i, i < N + 1 → i = N ∨ i < N := fun i hi => by omega
      refine ⟨N + 1, by omega, t39, sl', fun i hi => ?_, fun x hx hn => ?_, fun i j hi hj => ?_, fun i j hi hj => ?_, fun i hi => ?_⟩
      · rcases cs i hi with rfl | li
        · rw [sA, (S f).1, (S f).2.1, (S f).2.2.1, (S f).2.2.2.1, (S f).2.2.2.2.1, (S i).2.2.2.2.2, (T i).1, (T i).2.1, (T i).2.2.1, (T i).2.2.2]
          simp only [if_true]
          exact ⟨fb, by trivial, by trivial, by trivial, by trivial, by trivial, hv, by trivial⟩
        · have nf := fr i li
          have qi : ¬ i = N := by omega
          rw [sB i li, (S (sl i)).1, (S (sl i)).2.1, (S (sl i)).2.2.1, (S (sl i)).2.2.2.1, (S (sl i)).2.2.2.2.1, (S i).2.2.2.2.2, (T i).1, (T i).2.1, (T i).2.2.1, (T i).2.2.2, if_neg nf, if_neg nf, if_neg nf, if_neg nf, if_neg nf, if_neg qi, if_neg qi, if_neg qi, if_neg qi, if_neg qi]
          exact k1 i li
      · have nf : x ≠ f := fun z => hn N (by omega) (by rw [sA, z])
        rw [(S x).2.2.2.2.1, if_neg nf]
        exact k2 x hx (fun i hi z => hn i (by omega) (by rw [sB i hi]; exact z))
      · rcases cs i hi with qi | li
        · rcases cs j hj with qj | lj
          · intro _; omega
          · rw [qi, sA, sB j lj]; intro z; exact absurd z.symm (fr j lj)
        · rcases cs j hj with qj | lj
          · rw [qj, sA, sB i li]; intro z; exact absurd z (fr i li)
          · rw [sB i li, sB j lj]; exact k3 i j li lj
      · rw [(T i).1, (T i).2.1, (T i).2.2.1, (T j).1, (T j).2.1, (T j).2.2.1]
        by_cases qi : i = N
        · by_cases qj : j = N
          · intro _ _ _; omega
          · rw [if_pos qi, if_pos qi, if_pos qi, if_neg qj, if_neg qj, if_neg qj]
            intro z1 z2 z3; exact absurd ⟨z1.symm, z2.symm, z3.symm⟩ (nk j (by omega))
        · by_cases qj : j = N
          · rw [if_neg qi, if_neg qi, if_neg qi, if_pos qj, if_pos qj, if_pos qj]
            intro z1 z2 z3; exact absurd ⟨z1, z2, z3⟩ (nk i (by omega))
          · rw [if_neg qi, if_neg qi, if_neg qi, if_neg qj, if_neg qj, if_neg qj]; exact k4 i j (by omega) (by omega)
      · rw [(T i).1, (T i).2.1, (T i).2.2.1]
        rcases cs i hi with qi | li
        · rw [if_pos qi, if_pos qi, if_pos qi]
          refine ⟨e, he, by rw [qi, sA]; exact ef, fun e' he' => ?_⟩
          have uu := u1 e' he'
          have : ∃ j, j < N ∧ sl j = own_sl a b d e' := Classical.byContradiction fun z => by
            have := k2 _ (sb e') (fun i hi y => z ⟨i, hi, y⟩)
            rw [uu] at this
            exact absurd this (by decide)
          obtain ⟨j, j1, j2⟩ := this
          exact ⟨j, by omega, by rw [sB j j1]; exact j2⟩
        · have qi : ¬ i = N := by omega
          rw [if_neg qi, if_neg qi, if_neg qi, sB i li]
          obtain ⟨e1, g1, g2, g3⟩ := k5 i li
          refine ⟨e1, g1, g2, fun e' he' => ?_⟩
          obtain ⟨j, j1, j2⟩ := g3 e' he'
          exact ⟨j, j1, by rw [sB j (by omega)]; exact j2⟩
    · intro x hx
      rw [setI_2]
      simp only [setA_2]
      rw [if_neg (fun z => by omega), if_neg (fun z => by omega), if_neg (fun z => by omega), if_neg (fun z => by omega), if_neg (fun z => by omega), if_neg (fun z => by omega), if_neg (fun z => by omega), if_neg (fun z => by omega)]
      exact h4 x hx
  · rw [if_neg q] at et; cases et
def own_bad (c a0 a1 : Int32) : Bool := if a0 = 1 then (if a1 = c then false else true) else false
def g_makeLeaf (c a0 a1 a2 a3 : Int32) (t : St) : Option (Int32 × St) :=
  if own_bad c a0 a1 = true then none else
  bnd (own_fnd t a0 a1 a2 (ix (t.1 39))) fun v =>
  if v < 0 then
    (f_emit a0 a1 (0 : Int32) t).bind fun q4 =>
    grd (inb q4.1 1056) <|
    bnd (setA q4.2 10 (ix q4.1) a3) fun s7 =>
    (g_ins a0 a1 a2 q4.1 s7).bind fun q8 =>
    some (q4.1, q8)
  else
    some (v, t)
/-- emit leaves the table alone -/
theorem own_emF {a0 a1 a2 v : Int32} {s t : St} (e : f_emit a0 a1 a2 s = some (v, t)) : (∀ j, ¬ own_nh j → t.2 j = s.2 j) ∧ t.1 39 = s.1 39 ∧ t.1 34 = s.1 34 := by
  unfold f_emit at e
  have e17 : f_emit_17 s = some (v, t) → (∀ j, ¬ own_nh j → t.2 j = s.2 j) ∧ t.1 39 = s.1 39 ∧ t.1 34 = s.1 34 := fun e => by
    unfold f_emit_17 at e
    rw [bnd_eq] at e
    have e := Option.some.inj e
    have e : setI s 41 (1 &&& 1) = t := congrArg Prod.snd e
    rw [← e]
    exact ⟨fun _ _ => rfl, by rw [setI_1, if_neg (by decide)], by rw [setI_1, if_neg (by decide)]⟩
  split at e
  · exact e17 e
  · split at e
    · obtain ⟨-, e⟩ := grd_some e
      simp only [bnd_eq] at e
      have e := congrArg Prod.snd (Option.some.inj e)
      obtain ⟨p, ep⟩ : ∃ p, p = ix ((32 : Int32) + s.1 40) := ⟨_, rfl⟩
      rw [← ep] at e
      have e : setI (setA (setA (setA (setA s 7 p a0) 8 p a1) 9 p a2) 10 p 0) 40 _ = t := e
      rw [← e]
      refine ⟨fun j hj => ?_, by rw [setI_1, if_neg (by decide)]; rfl, by rw [setI_1, if_neg (by decide)]; rfl⟩
      have hj' : ¬ (j < 27 ∨ 32 < j) := hj
      funext x
      rw [setI_2, setA_2, if_neg (fun z => by omega), setA_2, if_neg (fun z => by omega), setA_2, if_neg (fun z => by omega), setA_2, if_neg (fun z => by omega)]
    · exact e17 e
/-- lookup, emit, rank, insert: the way of a new key -/
theorem own_new {m : Nat} {c : Int32} {s t : St} (a b d y : Int32) (hc : a = 1 → b = c) (h : own_R c s t) (W : Int32 → St → Option Int32) (hW : ∀ v s t, own_R c s t → own_RR Eq (W v s) (W v t)) (hn : own_fnd t a b d (ix (t.1 39)) < 0) :
    own_RR (own_RP c) ((f_lookup (m + 100) a b d s).bind fun q1 => (f_emit a b y q1.2).bind fun q4 => (W q4.1 q4.2).bind fun r => grd (inb q4.1 1056) <| bnd (setA q4.2 10 (ix q4.1) r) fun s7 => (f_insert a b d q4.1 s7).bind fun q8 => some (q4.1, q8))
      ((f_emit a b y t).bind fun q4 => (W q4.1 q4.2).bind fun r => grd (inb q4.1 1056) <| bnd (setA q4.2 10 (ix q4.1) r) fun s7 => (g_ins a b d q4.1 s7).bind fun q8 => some (q4.1, q8)) := by
  obtain ⟨N, n1, n2, -⟩ := h.2.2.1
  rw [n2, ix_N (by omega)] at hn
  obtain ⟨i, i1, i2, i3, i4, i5⟩ | ⟨nk, -⟩ := own_fndE t a b d N
  · exact absurd (i5 ▸ hn) (own_lkF (m := 0) h.2.2.1 n2 (by omega) i1 i2 i3 i4).2
  · obtain ⟨e, e1, e2, e3, e4⟩ := own_lkN (m := m) h.2.2.1 n2 (by omega) nk
    rw [e2, Option.bind_some]
    obtain ⟨s1, es1⟩ : ∃ s1, s1 = setI s 34 (Int32.ofNat (own_sl a b d e)) := ⟨_, rfl⟩
    have R1 : own_R c s1 t := by rw [es1]; exact own_R34 h _
    have f1 : s1.1 34 = Int32.ofNat (own_sl a b d e) := by rw [es1, setI_1, if_pos (by trivial)]
    have u1 : s1.2 = s.2 := by rw [es1]; rfl
    rw [← es1]
    clear es1
    show own_RR (own_RP c) ((f_emit a b y s1).bind _) _
    have em := r_emit a b y hc R1
    intro w ew
    cases et : f_emit a b y t with
    | none => rw [et] at ew; cases ew
    | some q =>
      obtain ⟨v, t4⟩ := q
      obtain ⟨p, ep, er⟩ := em _ et
      obtain ⟨v', s4⟩ := p
      obtain ⟨ev, R4⟩ := er
      have ev : v' = v := ev
      subst ev
      have R4 : own_R c s4 t4 := R4
      rw [ep, Option.bind_some]
      rw [et, Option.bind_some] at ew
      obtain ⟨fs1, fs2, fs3⟩ := own_emF ep
      obtain ⟨ft1, ft2, -⟩ := own_emF et
      refine RR_bindV (hW v' s4 t4 R4) (fun r => ?_) w ew
      intro b' eb
      obtain ⟨hb, eb⟩ := grd_some eb
      rw [grd_pos hb, bnd_eq]
      rw [bnd_eq] at eb
      have nhU : ¬ own_nh 31 := by decide
      have A7 : ∀ (u : St) (j x : Nat), j ≠ 10 → (setA u 10 (ix v') r).2 j x = u.2 j x := fun u j x hj => by rw [setA_2, if_neg (fun z => hj z.1)]
      refine RR_bindS (r_ins (e := e) (own_RA R4 10 (ix v') r (by decide) (by decide) (by decide)) ?_ e1 ?_ ?_ ?_ hb.1) (fun x y hxy => RR_some ⟨rfl, hxy⟩) b' eb
      · rw [setA_1, fs3, f1]
      · rw [A7 _ _ _ (by decide), fs1 _ nhU, u1]; exact e3
      · intro e' he'
        rw [A7 _ _ _ (by decide), fs1 _ nhU, u1]; exact e4 e' he'
      · intro N' hN' i hi hb
        rw [setA_1, ft2, n2, N_inj (by omega) hb] at hN'
        rw [A7 _ _ _ (by decide), A7 _ _ _ (by decide), A7 _ _ _ (by decide), ft1 27 (by decide), ft1 28 (by decide), ft1 29 (by decide)]
        exact nk i (by omega)
theorem own_old {m : Nat} {c : Int32} {s t : St} (a b d : Int32) (h : own_R c s t) (hn : ¬ own_fnd t a b d (ix (t.1 39)) < 0) : f_lookup (m + 100) a b d s = some (own_fnd t a b d (ix (t.1 39)), setI s 34 (-1)) := by
  obtain ⟨N, n1, n2, -⟩ := h.2.2.1
  rw [n2, ix_N (by omega)] at hn ⊢
  obtain ⟨i, i1, i2, i3, i4, i5⟩ | ⟨-, nk⟩ := own_fndE t a b d N
  · rw [i5]; exact (own_lkF (m := m) h.2.2.1 n2 (by omega) i1 i2 i3 i4).1
  · rw [nk] at hn; exact absurd (by decide) hn
theorem own_lkneg {m : Nat} {c : Int32} {s t : St} (a b d : Int32) (h : own_R c s t) (hn : own_fnd t a b d (ix (t.1 39)) < 0) : ∃ s', f_lookup (m + 100) a b d s = some (-1, s') := by
  obtain ⟨N, n1, n2, -⟩ := h.2.2.1
  rw [n2, ix_N (by omega)] at hn
  obtain ⟨i, i1, i2, i3, i4, i5⟩ | ⟨nk, -⟩ := own_fndE t a b d N
  · exact absurd (i5 ▸ hn) (own_lkF (m := 0) h.2.2.1 n2 (by omega) i1 i2 i3 i4).2
  · obtain ⟨e, e1, e2, -⟩ := own_lkN (m := m) h.2.2.1 n2 (by omega) nk
    exact ⟨_, e2⟩
theorem r_makeLeaf {m : Nat} {c : Int32} {s t : St} (a0 a1 a2 a3 : Int32) (h : own_R c s t) : own_RR (own_RP c) (f_makeLeaf (m + 100) a0 a1 a2 a3 s) (g_makeLeaf c a0 a1 a2 a3 t) := by
  unfold f_makeLeaf g_makeLeaf
  by_cases q : own_bad c a0 a1 = true
  · rw [if_pos q]; exact RR_none
  · rw [if_neg q, bnd_eq]
    have hc : a0 = 1 → a1 = c := fun z => Classical.byContradiction fun w => q (by unfold own_bad; rw [if_pos z, if_neg w])
    by_cases f : own_fnd t a0 a1 a2 (ix (t.1 39)) < 0
    · rw [if_pos f]
      have nw := own_new (m := m) a0 a1 a2 0 hc h (fun _ _ => some a3) (fun _ _ _ _ => RR_some rfl) f
      obtain ⟨s', es⟩ := own_lkneg (m := m) a0 a1 a2 h f
      rw [es, Option.bind_some] at nw ⊢
      exact nw
    · rw [if_neg f, own_old a0 a1 a2 h f, Option.bind_some]
      show own_RR _ (if own_fnd t a0 a1 a2 (ix (t.1 39)) < 0 then _ else _) _
      rw [if_neg f]
      exact RR_some ⟨rfl, own_R34 h _⟩
def g_emitBin (a0 a1 a2 : Int32) (t : St) : Option (Int32 × St) :=
  if a0 = 1 then none else
  bnd (own_fnd t a0 a1 a2 (ix (t.1 39))) fun v =>
  if v < 0 then
    (f_emit a0 a1 a2 t).bind fun q4 =>
    ((f_rankOf q4.2 a1).bind fun q6 => (f_rankOf q4.2 a2).bind fun q8 => some (if q8 < q6 then q6 else q8)).bind fun r =>
    grd (inb q4.1 1056) <|
    bnd (setA q4.2 10 (ix q4.1) r) fun s7 =>
    (g_ins a0 a1 a2 q4.1 s7).bind fun q8 =>
    some (q4.1, q8)
  else
    some (v, t)
theorem r_rankOf {c : Int32} {s t : St} (a0 : Int32) (h : own_R c s t) : own_RR Eq (f_rankOf s a0) (f_rankOf t a0) := by
  unfold f_rankOf
  rw [h.2.1 10 (by decide)]
  exact RR_ite (RR_some rfl) (RR_ite (RR_grd (RR_some rfl)) (RR_some rfl))
theorem r_emitBin {m : Nat} {c : Int32} {s t : St} (a0 a1 a2 : Int32) (h : own_R c s t) : own_RR (own_RP c) (f_emitBin (m + 100) a0 a1 a2 s) (g_emitBin a0 a1 a2 t) := by
  unfold f_emitBin g_emitBin
  by_cases q : a0 = 1
  · rw [if_pos q]; exact RR_none
  · rw [if_neg q, bnd_eq]
    by_cases f : own_fnd t a0 a1 a2 (ix (t.1 39)) < 0
    · rw [if_pos f]
      have nw := own_new (m := m) a0 a1 a2 a2 (fun z => absurd z q) h (fun _ u => (f_rankOf u a1).bind fun q6 => (f_rankOf u a2).bind fun q8 => some (if q8 < q6 then q6 else q8)) (fun _ s t R => RR_bindV (r_rankOf a1 R) fun v => RR_bindV (r_rankOf a2 R) fun w => RR_some rfl) f
      obtain ⟨s', es⟩ := own_lkneg (m := m) a0 a1 a2 h f
      rw [es, Option.bind_some] at nw ⊢
      refine (show own_RR _ _ _ from ?_)
      have eq : (if (-1 : Int32) < 0 then (f_emit a0 a1 a2 s').bind fun q4 => (f_rankOf q4.2 a1).bind fun q6 => (f_rankOf q4.2 a2).bind fun q8 => if q8 < q6 then f_emitBin_60 (m + 100) a0 a1 a2 q4.1 q6 q4.1 q4.2 else f_emitBin_60 (m + 100) a0 a1 a2 q4.1 q8 q4.1 q4.2 else some (-1, s')) =
          (f_emit a0 a1 a2 s').bind fun q4 => ((f_rankOf q4.2 a1).bind fun q6 => (f_rankOf q4.2 a2).bind fun q8 => some (if q8 < q6 then q6 else q8)).bind fun r => grd (inb q4.1 1056) <| bnd (setA q4.2 10 (ix q4.1) r) fun s7 => (f_insert a0 a1 a2 q4.1 s7).bind fun q8 => some (q4.1, q8) := by
        rw [if_pos (by decide)]
        refine congrArg _ (funext fun q4 => ?_)
        rw [Option.bind_assoc]
        refine congrArg _ (funext fun q6 => ?_)
        rw [Option.bind_assoc]
        refine congrArg _ (funext fun q8 => ?_)
        rw [Option.bind_some]
        by_cases z : q8 < q6
        · rw [if_pos z, if_pos z]; rfl
        · rw [if_neg z, if_neg z]; rfl
      exact eq ▸ nw
    · rw [if_neg f, own_old a0 a1 a2 h f, Option.bind_some]
      show own_RR _ (if own_fnd t a0 a1 a2 (ix (t.1 39)) < 0 then _ else _) _
      rw [if_neg f]
      exact RR_some ⟨rfl, own_R34 h _⟩

theorem RR_grdH {α β : Type} {P : α → β → Prop} {c : Prop} [Decidable c] {x : Option α} {y : Option β} (h : c → own_RR P x y) : own_RR P (grd c x) (grd c y) := fun b e => by
  obtain ⟨hc, e⟩ := grd_some e
  rw [grd_pos hc]; exact h hc b e
theorem own_RA7 {c : Int32} {s t : St} (h : own_R c s t) (j i : Nat) (v : Int32) (hj : own_nh j) (hi : i < 32) : own_R c (setA s j i v) (setA t j i v) := by
  obtain ⟨h1, h2, h3, h4⟩ := h
  refine ⟨h1, fun k hk => ?_, own_HA h3 j i v hj, fun x hx => ?_⟩
  · funext x; rw [setA_2, setA_2, h2 k hk]
  · rw [setA_2, setA_2, if_neg (fun z => by omega), if_neg (fun z => by omega)]; exact h4 x hx
theorem own_ixlt {x : Int32} (h : inb x 32) : ix x < 32 := h.2
abbrev own_T := List Int32 × List (List Int32)
def own_get : List Int32 → Nat → Int32
  | [], _ => 0
  | x :: _, 0 => x
  | _ :: l, i + 1 => own_get l i
def own_put : Nat → List Int32 → Int32 → List Int32
  | 0, [], v => [v]
  | 0, _ :: l, v => v :: l
  | i + 1, [], v => 0 :: own_put i [] v
  | i + 1, x :: l, v => x :: own_put i l v
def own_getL : List (List Int32) → Nat → List Int32
  | [], _ => []
  | x :: _, 0 => x
  | _ :: l, i + 1 => own_getL l i
def own_putL : Nat → List (List Int32) → List Int32 → List (List Int32)
  | 0, [], v => [v]
  | 0, _ :: l, v => v :: l
  | i + 1, [], v => [] :: own_putL i [] v
  | i + 1, x :: l, v => x :: own_putL i l v
theorem own_gp (v : Int32) : ∀ (i : Nat) (l : List Int32) (k : Nat), own_get (own_put i l v) k = if k = i then v else own_get l k := by
  intro i
  induction i with
  | zero =>
    intro l k
    cases l with
    | nil => cases k with
      | zero => rfl
      | succ k => rw [if_neg (by omega)]; rfl
    | cons x l => cases k with
      | zero => rfl
      | succ k => rw [if_neg (by omega)]; rfl
  | succ i ih =>
    intro l k
    cases l with
    | nil => cases k with
      | zero => rw [if_neg (by omega)]; rfl
      | succ k =>
        show own_get (own_put i [] v) k = _
        rw [ih]
        by_cases q : k = i
        · rw [if_pos q, if_pos (by omega)]
        · rw [if_neg q, if_neg (by omega)]; rfl
    | cons x l => cases k with
      | zero => rw [if_neg (by omega)]; rfl
      | succ k =>
        show own_get (own_put i l v) k = _
        rw [ih]
        by_cases q : k = i
        · rw [if_pos q, if_pos (by omega)]
        · rw [if_neg q, if_neg (by omega)]; rfl
theorem own_gpL (v : List Int32) : ∀ (i : Nat) (l : List (List Int32)) (k : Nat), own_getL (own_putL i l v) k = if k = i then v else own_getL l k := by
  intro i
  induction i with
  | zero =>
    intro l k
    cases l with
    | nil => cases k with
      | zero => rfl
      | succ k => rw [if_neg (by omega)]; rfl
    | cons x l => cases k with
      | zero => rfl
      | succ k => rw [if_neg (by omega)]; rfl
  | succ i ih =>
    intro l k
    cases l with
    | nil => cases k with
      | zero => rw [if_neg (by omega)]; rfl
      | succ k =>
        show own_getL (own_putL i [] v) k = _
        rw [ih]
        by_cases q : k = i
        · rw [if_pos q, if_pos (by omega)]
        · rw [if_neg q, if_neg (by omega)]; rfl
    | cons x l => cases k with
      | zero => rw [if_neg (by omega)]; rfl
      | succ k =>
        show own_getL (own_putL i l v) k = _
        rw [ih]
        by_cases q : k = i
        · rw [if_pos q, if_pos (by omega)]
        · rw [if_neg q, if_neg (by omega)]; rfl
def rI (t : own_T) (j : Nat) : Int32 := own_get t.1 j
def rA (t : own_T) (j x : Nat) : Int32 := own_get (own_getL t.2 j) x
def pI (t : own_T) (j : Nat) (v : Int32) : own_T := (own_put j t.1 v, t.2)
def pA (t : own_T) (j i : Nat) (v : Int32) : own_T := (t.1, own_putL j t.2 (own_put i (own_getL t.2 j) v))
def own_RT (s : St) (t : own_T) : Prop := (∀ j, s.1 j = rI t j) ∧ (∀ j, s.2 j = rA t j)
def own_RTP (a : Int32 × St) (b : Int32 × own_T) : Prop := a.1 = b.1 ∧ own_RT a.2 b.2
theorem TT_I {s : St} {t : own_T} (h : own_RT s t) (j : Nat) (v : Int32) : own_RT (setI s j v) (pI t j v) := by
  refine ⟨fun k => ?_, h.2⟩
  rw [setI_1, h.1 k]
  exact (own_gp v j t.1 k).symm
theorem TT_A {s : St} {t : own_T} (h : own_RT s t) (j i : Nat) (v : Int32) : own_RT (setA s j i v) (pA t j i v) := by
  refine ⟨h.1, fun k => ?_⟩
  funext x
  rw [setA_2, h.2 k]
  show _ = own_get (own_getL (own_putL j t.2 (own_put i (own_getL t.2 j) v)) k) x
  rw [own_gpL]
  by_cases q : k = j
  · rw [if_pos q, own_gp]
    by_cases z : x = i
    · rw [if_pos z, if_pos ⟨q, z⟩]
    · rw [if_neg z, if_neg (fun w => z w.2), q]; rfl
  · rw [if_neg q, if_neg (fun w => q w.1)]; rfl
theorem TT_bindS {γ δ : Type} {Q : γ → δ → Prop} {x : Option St} {y : Option own_T} {f : St → Option γ} {g : own_T → Option δ} (h : own_RR own_RT x y) (k : ∀ a b, own_RT a b → own_RR Q (f a) (g b)) : own_RR Q (x.bind f) (y.bind g) := RR_bind h k
theorem TT_bndS {γ δ : Type} {Q : γ → δ → Prop} {x : St} {y : own_T} {f : St → Option γ} {g : own_T → Option δ} (h : own_RT x y) (k : ∀ a b, own_RT a b → own_RR Q (f a) (g b)) : own_RR Q (bnd x f) (bnd y g) := k x y h
theorem TT_bindP {γ δ : Type} {Q : γ → δ → Prop} {x : Option (Int32 × St)} {y : Option (Int32 × own_T)} {f : Int32 × St → Option γ} {g : Int32 × own_T → Option δ} (h : own_RR own_RTP x y) (k : ∀ v a b, own_RT a b → own_RR Q (f (v, a)) (g (v, b))) : own_RR Q (x.bind f) (y.bind g) := RR_bind h (fun a b e => by
  obtain ⟨a1, a2⟩ := a
  obtain ⟨b1, b2⟩ := b
  obtain ⟨e1, e2⟩ := e
  have e1 : a1 = b1 := e1
  subst e1
  exact k a1 a2 b2 e2)
def own_fndT (t : own_T) (a b d : Int32) : Nat → Int32
  | 0 => -1
  | k + 1 => if rA t 27 k = a then (if rA t 28 k = b then (if rA t 29 k = d then rA t 30 k else own_fndT t a b d k) else own_fndT t a b d k) else own_fndT t a b d k
theorem own_fndTE {s : St} {t : own_T} (h : own_RT s t) {a b d : Int32} {N : Nat} : own_fnd s a b d N = own_fndT t a b d N := by
  induction N with
  | zero => rfl
  | succ N ih =>
    show (if s.2 27 N = a then (if s.2 28 N = b then (if s.2 29 N = d then s.2 30 N else own_fnd s a b d N) else own_fnd s a b d N) else own_fnd s a b d N) = _
    rw [h.2 27, h.2 28, h.2 29, h.2 30, ih]; rfl
def own_o (j : Nat) (x y : Int32) : Int32 := if j = 4 then x + y else if j = 5 then x - y else x * y
abbrev own_V := Int32 × Bool × (Nat → Int32 → Int32 → Int32)
/-- s is in order, and the lists of T hold what it holds, its table as a plain list -/
def own_Q (e : own_V) (n : Nat) (s : St) (T : own_T) : Prop := (100 ≤ n ∧ e.2.1 = decide (e.1 = 0) ∧ e.2.2 = own_o) ∧ ∃ t, own_R e.1 s t ∧ own_RT t T
def own_QP (e : own_V) (n : Nat) (a : Int32 × St) (b : Int32 × own_T) : Prop := a.1 = b.1 ∧ own_Q e n a.2 b.2
theorem q1 {e n s t} (h : own_Q e n s t) (j : Nat) (hj : j ≠ 34 := by decide) : s.1 j = rI t j := by
  obtain ⟨-, u, h1, h2⟩ := h
  rw [h1.1 j hj, h2.1]
theorem q2 {e n s t} (h : own_Q e n s t) (j : Nat) (hj : own_nh j := by decide) : s.2 j = rA t j := by
  obtain ⟨-, u, h1, h2⟩ := h
  rw [h1.2.1 j hj, h2.2]
theorem qI {e n s t} (h : own_Q e n s t) (j : Nat) {v : Int32} (hj : j ≠ 39 := by decide) : own_Q e n (setI s j v) (pI t j v) := by
  obtain ⟨h0, u, h1, h2⟩ := h
  exact ⟨h0, _, own_RI h1 j v hj, TT_I h2 j v⟩
theorem qA {e n s t} (h : own_Q e n s t) (j : Nat) {i : Nat} {v : Int32} (hj : own_nh j := by decide) (h7 : j ≠ 7 := by decide) (h8 : j ≠ 8 := by decide) : own_Q e n (setA s j i v) (pA t j i v) := by
  obtain ⟨h0, u, h1, h2⟩ := h
  exact ⟨h0, _, own_RA h1 j i v hj h7 h8, TT_A h2 j i v⟩
theorem qA7 {e n s t} (h : own_Q e n s t) (j : Nat) {i : Nat} {v : Int32} (hi : i < 32) (hj : own_nh j := by decide) : own_Q e n (setA s j i v) (pA t j i v) := by
  obtain ⟨h0, u, h1, h2⟩ := h
  exact ⟨h0, _, own_RA7 h1 j i v hj hi, TT_A h2 j i v⟩
section
variable {e : own_V} {n : Nat} {γ δ : Type} {Q : γ → δ → Prop}
theorem bS {x : St} {y : own_T} {f : St → Option γ} {g : own_T → Option δ} (h : own_Q e n x y) (k : ∀ a b, own_Q e n a b → own_RR Q (f a) (g b)) : own_RR Q (bnd x f) (bnd y g) := k x y h
theorem bdS {x : Option St} {y : Option own_T} {f : St → Option γ} {g : own_T → Option δ} (h : own_RR (own_Q e n) x y) (k : ∀ a b, own_Q e n a b → own_RR Q (f a) (g b)) : own_RR Q (x.bind f) (y.bind g) := RR_bind h k
theorem bdP {x : Option (Int32 × St)} {y : Option (Int32 × own_T)} {f : Int32 × St → Option γ} {g : Int32 × own_T → Option δ} (h : own_RR (own_QP e n) x y) (k : ∀ v a b, own_Q e n a b → own_RR Q (f (v, a)) (g (v, b))) : own_RR Q (x.bind f) (y.bind g) := RR_bind h (fun a b e => by
  obtain ⟨a1, a2⟩ := a
  obtain ⟨b1, b2⟩ := b
  obtain ⟨e1, e2⟩ := e
  have e1 : a1 = b1 := e1
  subst e1
  exact k a1 a2 b2 e2)
theorem gL {c : Prop} [Decidable c] {x x' : Option γ} {y : Option δ} (h : own_RR Q x y) : own_RR Q (if c then x else x') (grd c y) := fun b k => by
  obtain ⟨hc, k⟩ := grd_some k
  rw [if_pos hc]; exact h b k
theorem gR {c : Prop} [Decidable c] {x x' : Option γ} {y : Option δ} (h : own_RR Q x' y) : own_RR Q (if c then x else x') (if c then none else y) := RR_ite RR_none h
end
/-- by way of a state between -/
theorem own_viaP {e n x y z} (h0 : 100 ≤ n ∧ e.2.1 = decide (e.1 = 0) ∧ e.2.2 = own_o) (h : own_RR (own_RP e.1) x y) (g : own_RR own_RTP y z) : own_RR (own_QP e n) x z := fun b k => by
  obtain ⟨a, a1, a2, a3⟩ := g b k
  obtain ⟨c, c1, c2, c3⟩ := h a a1
  exact ⟨c, c1, c2.trans a2, h0, a.2, c3, a3⟩
theorem own_viaS {e n x y z} (h0 : 100 ≤ n ∧ e.2.1 = decide (e.1 = 0) ∧ e.2.2 = own_o) (h : own_RR (own_R e.1) x y) (g : own_RR own_RT y z) : own_RR (own_Q e n) x z := fun b k => by
  obtain ⟨a, a1, a2⟩ := g b k
  obtain ⟨c, c1, c2⟩ := h a a1
  exact ⟨c, c1, h0, a, c2, a2⟩
def W_setInput (e : own_V) (a0 a1 : Int32) (s : own_T) : Option (Int32 × own_T) :=
 if a0 < 0 then none else
 grd (a0 < 8) <|
 grd (inb a0 8) <|
 bnd (pA s 6 (ix a0) a1) fun s4 =>
 some (1, s4)
theorem Z_setInput {e n a0 a1 s t} (h : own_Q e n s t) : own_RR (own_QP e n) (f_setInput a0 a1 s) (W_setInput e a0 a1 t) := by
 unfold f_setInput W_setInput
 refine gR ?_
 refine gL ?_
 refine RR_grd ?_
 refine bS (qA h 6) fun s4 t4 h4 => ?_
 exact RR_some ⟨rfl, h4⟩
def W_argumentOk_54 (e : own_V) (s : own_T) (x2 : Int32) : Option Int32 :=
 if x2 < 0 then none else
 grd (x2 < 4) <|
 some 1
theorem Z_argumentOk_54 {e n x2 s t} (h : own_Q e n s t) : own_RR Eq (f_argumentOk_54 s x2) (W_argumentOk_54 e t x2) := by
 unfold f_argumentOk_54 W_argumentOk_54
 refine gR ?_
 refine gL ?_
 exact RR_some rfl
def W_argumentOk (e : own_V) (s : own_T) (a0 a1 : Int32) : Option Int32 :=
 if a0 = 2 then
  if a1 < 0 then none else
  grd (a1 < 8) <|
  some 1
 else
  if a0 = 13 then
   if a1 < 0 then none else
   if 7 < a1 then none else
   some 1
  else
   if a0 = 3 then
    W_argumentOk_54 e s a1
   else
    if a0 = 11 then
     W_argumentOk_54 e s a1
    else
     some 1
theorem Z_argumentOk {e n a0 a1 s t} (h : own_Q e n s t) : own_RR Eq (f_argumentOk s a0 a1) (W_argumentOk e t a0 a1) := by
 unfold f_argumentOk W_argumentOk
 refine RR_ite ?_ ?_
 · refine gR ?_
   refine gL ?_
   exact RR_some rfl
 · refine RR_ite ?_ ?_
   · refine gR ?_
     refine gR ?_
     exact RR_some rfl
   · refine RR_ite ?_ ?_
     · exact Z_argumentOk_54 h
     · refine RR_ite ?_ ?_
       · exact Z_argumentOk_54 h
       · exact RR_some rfl
def W_isOpen_2 (e : own_V) (n : Nat) (s : own_T) : Nat → Int32 → Int32 → Option Int32
 | 0 => fun _ _ => none
 | k + 1 => fun x1 x2 =>
  grd (x2 < (rI s 36)) <|
  grd (x2 < 3) <|
  grd (inb x2 3) <|
  grd ((rA s 5 (ix x2)) = x1) <|
  some 1
theorem Z_isOpen_2 {e n s t} (h : own_Q e n s t) : ∀ k x1 x2, own_RR Eq (f_isOpen_2 n s k x1 x2) (W_isOpen_2 e n t k x1 x2) := by
 intro k
 induction k with
 | zero => intros; exact RR_none
 | succ k ih =>
  intro x1 x2
  rewrite [f_isOpen_2, W_isOpen_2]
  dsimp only
  rw [q1 h 36, q2 h 5]
  refine gL ?_
  refine gL ?_
  refine RR_grd ?_
  refine gL ?_
  exact RR_some rfl
def W_isOpen (e : own_V) (n : Nat) (s : own_T) (a0 : Int32) : Option Int32 :=
 W_isOpen_2 e n s n a0 0
theorem Z_isOpen {e n a0 s t} (h : own_Q e n s t) : own_RR Eq (f_isOpen n s a0) (W_isOpen e n t a0) := by
 unfold f_isOpen W_isOpen
 exact Z_isOpen_2 h _ _ _
def W_visible (e : own_V) (n : Nat) (s : own_T) (a0 : Int32) : Option Int32 :=
 if a0 < 0 then none else
 grd (a0 < (rI s 35)) <|
 grd (a0 < 32) <|
 grd (inb a0 32) <|
 if (rA s 0 (ix a0)) < 1 then none else
 if 10 < (rA s 0 (ix a0)) then none else
 if (rA s 3 (ix a0)) < 0 then
  some 1
 else
  (W_isOpen e n s (rA s 3 (ix a0))).bind fun q8 =>
  some (q8 &&& 1)
theorem Z_visible {e n a0 s t} (h : own_Q e n s t) : own_RR Eq (f_visible n s a0) (W_visible e n t a0) := by
 unfold f_visible W_visible
 rw [q1 h 35, q2 h 0, q2 h 3]
 refine gR ?_
 refine gL ?_
 refine gL ?_
 refine RR_grd ?_
 refine gR ?_
 refine gR ?_
 refine RR_ite ?_ ?_
 · exact RR_some rfl
 · refine RR_bindV (Z_isOpen h) fun v8 => ?_
   exact RR_some rfl
def W_operandsOk_39 (e : own_V) (n : Nat) (s : own_T) (x2 : Int32) : Option Int32 :=
 (W_visible e n s x2).bind fun q1 =>
 some (q1 &&& 1)
theorem Z_operandsOk_39 {e n x2 s t} (h : own_Q e n s t) : own_RR Eq (f_operandsOk_39 n s x2) (W_operandsOk_39 e n t x2) := by
 unfold f_operandsOk_39 W_operandsOk_39
 refine RR_bindV (Z_visible h) fun v1 => ?_
 exact RR_some rfl
def W_operandsOk_27 (e : own_V) (n : Nat) (s : own_T) (x1 x2 x3 : Int32) : Option Int32 :=
 if x1 = 10 then none else
 if x1 = 12 then
  W_operandsOk_39 e n s x2
 else
  if x1 = 11 then
   (W_visible e n s x3).bind fun q4 =>
   some (q4 &&& 1)
  else
   some 1
theorem Z_operandsOk_27 {e n x1 x2 x3 s t} (h : own_Q e n s t) : own_RR Eq (f_operandsOk_27 n s x1 x2 x3) (W_operandsOk_27 e n t x1 x2 x3) := by
 unfold f_operandsOk_27 W_operandsOk_27
 refine gR ?_
 refine RR_ite ?_ ?_
 · exact Z_operandsOk_39 h
 · refine RR_ite ?_ ?_
   · refine RR_bindV (Z_visible h) fun v4 => ?_
     exact RR_some rfl
   · exact RR_some rfl
def W_operandsOk (e : own_V) (n : Nat) (s : own_T) (a0 a1 a2 : Int32) : Option Int32 :=
 if a0 < 4 then
  W_operandsOk_27 e n s a0 a1 a2
 else
  if 9 < a0 then
   W_operandsOk_27 e n s a0 a1 a2
  else
   (W_visible e n s a1).bind fun q3 =>
   if q3 = 0 then none else
   (W_visible e n s a2).bind fun q6 =>
   some (q6 &&& 1)
theorem Z_operandsOk {e n a0 a1 a2 s t} (h : own_Q e n s t) : own_RR Eq (f_operandsOk n s a0 a1 a2) (W_operandsOk e n t a0 a1 a2) := by
 unfold f_operandsOk W_operandsOk
 refine RR_ite ?_ ?_
 · exact Z_operandsOk_27 h
 · refine RR_ite ?_ ?_
   · exact Z_operandsOk_27 h
   · refine RR_bindV (Z_visible h) fun v3 => ?_
     refine gR ?_
     refine RR_bindV (Z_visible h) fun v6 => ?_
     exact RR_some rfl
def W_usesX (e : own_V) (s : own_T) (a0 : Int32) : Option Int32 :=
 if a0 = 14 then
  some 0
 else
  some 1
theorem Z_usesX {e n a0 s t} (h : own_Q e n s t) : own_RR Eq (f_usesX s a0) (W_usesX e t a0) := by
 unfold f_usesX W_usesX
 refine RR_ite ?_ ?_
 · exact RR_some rfl
 · exact RR_some rfl
def W_usesY_13 (e : own_V) (s : own_T) (x1 : Int32) : Option Int32 :=
 if x1 = 11 then
  some 1
 else
  some 0
theorem Z_usesY_13 {e n x1 s t} (h : own_Q e n s t) : own_RR Eq (f_usesY_13 s x1) (W_usesY_13 e t x1) := by
 unfold f_usesY_13 W_usesY_13
 refine RR_ite ?_ ?_
 · exact RR_some rfl
 · exact RR_some rfl
def W_usesY (e : own_V) (s : own_T) (a0 : Int32) : Option Int32 :=
 if a0 < 4 then
  W_usesY_13 e s a0
 else
  if 9 < a0 then
   W_usesY_13 e s a0
  else
   some 1
theorem Z_usesY {e n a0 s t} (h : own_Q e n s t) : own_RR Eq (f_usesY s a0) (W_usesY e t a0) := by
 unfold f_usesY W_usesY
 refine RR_ite ?_ ?_
 · exact Z_usesY_13 h
 · refine RR_ite ?_ ?_
   · exact Z_usesY_13 h
   · exact RR_some rfl
def W_store_234 (e : own_V) (x4 : Int32) (s : own_T) : Option (Int32 × own_T) :=
 bnd (pI s 35 ((rI s 35) + 1)) fun s1 =>
 bnd (pI s1 37 (0 &&& 1)) fun s2 =>
 some (x4, s2)
theorem Z_store_234 {e n x4 s t} (h : own_Q e n s t) : own_RR (own_QP e n) (f_store_234 x4 s) (W_store_234 e x4 t) := by
 unfold f_store_234 W_store_234
 rw [q1 h 35]
 refine bS (qI h 35) fun s1 t1 h1 => ?_
 refine bS (qI h1 37) fun s2 t2 h2 => ?_
 exact RR_some ⟨rfl, h2⟩
def W_store_162 (e : own_V) (x1 x4 : Int32) (s : own_T) : Option (Int32 × own_T) :=
 if x1 = 14 then
  grd (0 < (rI s 36)) <|
  if 3 < (rI s 36) then none else
  bnd (pI s 36 ((rI s 36) - 1)) fun s4 =>
  grd (inb (rI s4 36) 3) <|
  grd (inb x4 32) <|
  bnd (pA s4 4 (ix x4) (rA s4 5 (ix (rI s4 36)))) fun s7 =>
  if (rA s4 5 (ix (rI s4 36))) < 0 then none else
  grd ((rA s4 5 (ix (rI s4 36))) < 32) <|
  grd (inb (rA s4 5 (ix (rI s4 36))) 32) <|
  bnd (pA s7 4 (ix (rA s4 5 (ix (rI s4 36)))) x4) fun s11 =>
  W_store_234 e x4 s11
 else
  W_store_234 e x4 s
theorem Z_store_162 {e n x1 x4 s t} (h : own_Q e n s t) : own_RR (own_QP e n) (f_store_162 x1 x4 s) (W_store_162 e x1 x4 t) := by
 unfold f_store_162 W_store_162
 rw [q1 h 36]
 refine RR_ite ?_ ?_
 · refine gL ?_
   refine gR ?_
   refine bS (qI h 36) fun s4 t4 h4 => ?_
   rw [q1 h4 36, q2 h4 5]
   refine RR_grd ?_
   refine RR_grd ?_
   refine bS (qA h4 4) fun s7 t7 h7 => ?_
   refine gR ?_
   refine gL ?_
   refine RR_grd ?_
   refine bS (qA h7 4) fun s11 t11 h11 => ?_
   exact Z_store_234 h11
 · exact Z_store_234 h
def W_store_109 (e : own_V) (x1 x4 : Int32) (s : own_T) : Option (Int32 × own_T) :=
 grd (inb x4 32) <|
 bnd (pA s 4 (ix x4) (-1)) fun s2 =>
 if x1 = 13 then
  if (rI s2 36) < 0 then none else
  grd ((rI s2 36) < 3) <|
  grd (inb (rI s2 36) 3) <|
  bnd (pA s2 5 (ix (rI s2 36)) x4) fun s7 =>
  bnd (pI s7 36 ((rI s7 36) + 1)) fun s8 =>
  W_store_234 e x4 s8
 else
  W_store_162 e x1 x4 s2
theorem Z_store_109 {e n x1 x4 s t} (h : own_Q e n s t) : own_RR (own_QP e n) (f_store_109 x1 x4 s) (W_store_109 e x1 x4 t) := by
 unfold f_store_109 W_store_109
 refine RR_grd ?_
 refine bS (qA h 4) fun s2 t2 h2 => ?_
 rw [q1 h2 36]
 refine RR_ite ?_ ?_
 · refine gR ?_
   refine gL ?_
   refine RR_grd ?_
   refine bS (qA h2 5) fun s7 t7 h7 => ?_
   rw [q1 h7 36]
   refine bS (qI h7 36) fun s8 t8 h8 => ?_
   exact Z_store_234 h8
 · exact Z_store_162 h2
def W_store_67 (e : own_V) (x1 x4 z0 z1 : Int32) (s : own_T) : Option (Int32 × own_T) :=
 grd (inb z1 32) <|
 bnd (pA s 2 (ix z1) z0) fun s2 =>
 grd (inb x4 32) <|
 bnd (pA s2 3 (ix x4) (-1)) fun s4 =>
 if 0 < (rI s4 36) then
  if 3 < (rI s4 36) then none else
  grd (inb ((rI s4 36) - 1) 3) <|
  bnd (pA s4 3 (ix x4) (rA s4 5 (ix ((rI s4 36) - 1)))) fun s8 =>
  W_store_109 e x1 x4 s8
 else
  W_store_109 e x1 x4 s4
theorem Z_store_67 {e n x1 x4 z0 z1 s t} (h : own_Q e n s t) : own_RR (own_QP e n) (f_store_67 x1 x4 z0 z1 s) (W_store_67 e x1 x4 z0 z1 t) := by
 unfold f_store_67 W_store_67
 refine RR_grd ?_
 refine bS (qA h 2) fun s2 t2 h2 => ?_
 refine RR_grd ?_
 refine bS (qA h2 3) fun s4 t4 h4 => ?_
 rw [q1 h4 36, q2 h4 5]
 refine RR_ite ?_ ?_
 · refine gR ?_
   refine RR_grd ?_
   refine bS (qA h4 3) fun s8 t8 h8 => ?_
   exact Z_store_109 h8
 · exact Z_store_109 h4
def W_store_47 (e : own_V) (x1 x3 x4 z0 z1 : Int32) (s : own_T) : Option (Int32 × own_T) :=
 grd (inb z1 32) <|
 bnd (pA s 1 (ix z1) z0) fun s2 =>
 (W_usesY e s2 x1).bind fun q3 =>
 if q3 = 0 then
  W_store_67 e x1 x4 0 x4 s2
 else
  W_store_67 e x1 x4 x3 x4 s2
theorem Z_store_47 {e n x1 x3 x4 z0 z1 s t} (h : own_Q e n s t) : own_RR (own_QP e n) (f_store_47 x1 x3 x4 z0 z1 s) (W_store_47 e x1 x3 x4 z0 z1 t) := by
 unfold f_store_47 W_store_47
 refine RR_grd ?_
 refine bS (qA h 1) fun s2 t2 h2 => ?_
 refine RR_bindV (Z_usesY h2) fun v3 => ?_
 refine RR_ite ?_ ?_
 · exact Z_store_67 h2
 · exact Z_store_67 h2
def W_store (e : own_V) (a0 a1 a2 : Int32) (s : own_T) : Option (Int32 × own_T) :=
 if (rI s 35) < 0 then none else
 grd ((rI s 35) < 32) <|
 grd (inb (rI s 35) 32) <|
 bnd (pA s 0 (ix (rI s 35)) a0) fun s4 =>
 (W_usesX e s4 a0).bind fun q5 =>
 if q5 = 0 then
  W_store_47 e a0 a2 (rI s 35) 0 (rI s 35) s4
 else
  W_store_47 e a0 a2 (rI s 35) a1 (rI s 35) s4
theorem Z_store {e n a0 a1 a2 s t} (h : own_Q e n s t) : own_RR (own_QP e n) (f_store a0 a1 a2 s) (W_store e a0 a1 a2 t) := by
 unfold f_store W_store
 rw [q1 h 35]
 refine gR ?_
 refine gL ?_
 refine RR_grd ?_
 refine bS (qA h 0) fun s4 t4 h4 => ?_
 refine RR_bindV (Z_usesX h4) fun v5 => ?_
 refine RR_ite ?_ ?_
 · exact Z_store_47 h4
 · exact Z_store_47 h4
def W_add_85 (e : own_V) (n : Nat) (x1 x2 x3 : Int32) (s : own_T) : Option (Int32 × own_T) :=
 (W_store e x1 x2 x3 s).bind fun q1 =>
 some (q1.1, q1.2)
theorem Z_add_85 {e n x1 x2 x3 s t} (h : own_Q e n s t) : own_RR (own_QP e n) (f_add_85 n x1 x2 x3 s) (W_add_85 e n x1 x2 x3 t) := by
 unfold f_add_85 W_add_85
 refine bdP (Z_store h) fun v1 s1 t1 h1 => ?_
 try dsimp only
 exact RR_some ⟨rfl, h1⟩
def W_add_69 (e : own_V) (n : Nat) (x1 x2 x3 : Int32) (s : own_T) : Option (Int32 × own_T) :=
 if x1 = 14 then
  grd (0 < (rI s 36)) <|
  W_add_85 e n x1 x2 x3 s
 else
  W_add_85 e n x1 x2 x3 s
theorem Z_add_69 {e n x1 x2 x3 s t} (h : own_Q e n s t) : own_RR (own_QP e n) (f_add_69 n x1 x2 x3 s) (W_add_69 e n x1 x2 x3 t) := by
 unfold f_add_69 W_add_69
 rw [q1 h 36]
 refine RR_ite ?_ ?_
 · refine gL ?_
   exact Z_add_85 h
 · exact Z_add_85 h
def W_add (e : own_V) (n : Nat) (a0 a1 a2 : Int32) (s : own_T) : Option (Int32 × own_T) :=
 grd ((rI s 35) < (rI s 33)) <|
 if a0 < 1 then none else
 if 14 < a0 then none else
 (W_argumentOk e s a0 a1).bind fun q4 =>
 if q4 = 0 then none else
 (W_operandsOk e n s a0 a1 a2).bind fun q7 =>
 if q7 = 0 then none else
 if a0 = 13 then
  grd ((rI s 36) < 3) <|
  W_add_69 e n a0 a1 a2 s
 else
  W_add_69 e n a0 a1 a2 s
theorem Z_add {e n a0 a1 a2 s t} (h : own_Q e n s t) : own_RR (own_QP e n) (f_add n a0 a1 a2 s) (W_add e n a0 a1 a2 t) := by
 unfold f_add W_add
 rw [q1 h 33, q1 h 35, q1 h 36]
 refine gL ?_
 refine gR ?_
 refine gR ?_
 refine RR_bindV (Z_argumentOk h) fun v4 => ?_
 refine gR ?_
 refine RR_bindV (Z_operandsOk h) fun v7 => ?_
 refine gR ?_
 refine RR_ite ?_ ?_
 · refine gL ?_
   exact Z_add_69 h
 · exact Z_add_69 h
def W_buildVersion0_93 (e : own_V) (n : Nat) (k2 : Int32 → own_T → Option (own_T)) (x1 : Int32) (s : own_T) : Option own_T :=
 grd (inb x1 1056) <|
 bnd (pA s 10 (ix x1) 0) fun s2 =>
 k2 (x1 + 1) s2
theorem Z_buildVersion0_93 {e n k2 k2' x1 s t} (hk2 : ∀ z0 s t, own_Q e n s t → own_RR (own_Q e n) (k2 z0 s) (k2' z0 t)) (h : own_Q e n s t) : own_RR (own_Q e n) (f_buildVersion0_93 n k2 x1 s) (W_buildVersion0_93 e n k2' x1 t) := by
 unfold f_buildVersion0_93 W_buildVersion0_93
 refine RR_grd ?_
 refine bS (qA h 10) fun s2 t2 h2 => ?_
 exact hk2 _ _ _ h2
def W_buildVersion0_106 (e : own_V) (n : Nat) (s : own_T) : Option own_T :=
 bnd (pI s 38 (rI s 35)) fun s1 =>
 some s1
theorem Z_buildVersion0_106 {e n s t} (h : own_Q e n s t) : own_RR (own_Q e n) (f_buildVersion0_106 n s) (W_buildVersion0_106 e n t) := by
 unfold f_buildVersion0_106 W_buildVersion0_106
 rw [q1 h 35]
 refine bS (qI h 38) fun s1 t1 h1 => ?_
 exact RR_some h1
def W_buildVersion0_2 (e : own_V) (n : Nat) : Nat → Int32 → own_T → Option own_T
 | 0 => fun _ _ => none
 | k + 1 => fun x1 s =>
  if x1 < (rI s 35) then
   grd (x1 < 32) <|
   grd (inb x1 32) <|
   grd (inb x1 1056) <|
   bnd (pA s 7 (ix x1) (rA s 0 (ix x1))) fun s5 =>
   bnd (pA s5 8 (ix x1) (rA s5 1 (ix x1))) fun s6 =>
   bnd (pA s6 9 (ix x1) (rA s6 2 (ix x1))) fun s7 =>
   if (rA s 0 (ix x1)) = 13 then
    bnd (pA s7 9 (ix x1) (rA s7 4 (ix x1))) fun s9 =>
    W_buildVersion0_93 e n (W_buildVersion0_2 e n k) x1 s9
   else
    if (rA s 0 (ix x1)) = 14 then
     bnd (pA s7 8 (ix x1) (rA s7 4 (ix x1))) fun s11 =>
     W_buildVersion0_93 e n (W_buildVersion0_2 e n k) x1 s11
    else
     W_buildVersion0_93 e n (W_buildVersion0_2 e n k) x1 s7
  else
   W_buildVersion0_106 e n s
theorem Z_buildVersion0_2 {e n} : ∀ k x1 s t, own_Q e n s t → own_RR (own_Q e n) (f_buildVersion0_2 n k x1 s) (W_buildVersion0_2 e n k x1 t) := by
 intro k
 induction k with
 | zero => intros; exact RR_none
 | succ k ih =>
  intro x1 s t h
  rewrite [f_buildVersion0_2, W_buildVersion0_2]
  dsimp only
  rw [q1 h 35, q2 h 0]
  refine RR_ite ?_ ?_
  · refine gL ?_
    refine RR_grdH fun hg => ?_
    refine RR_grd ?_
    refine bS (qA7 h 7 hg.2) fun s5 t5 h5 => ?_
    rw [q2 h5 1]
    refine bS (qA7 h5 8 hg.2) fun s6 t6 h6 => ?_
    rw [q2 h6 2]
    refine bS (qA h6 9) fun s7 t7 h7 => ?_
    rw [q2 h7 4]
    refine RR_ite ?_ ?_
    · refine bS (qA h7 9) fun s9 t9 h9 => ?_
      exact Z_buildVersion0_93 ih h9
    · refine RR_ite ?_ ?_
      · refine bS (qA7 h7 8 hg.2) fun s11 t11 h11 => ?_
        exact Z_buildVersion0_93 ih h11
      · exact Z_buildVersion0_93 ih h7
  · exact Z_buildVersion0_106 h
def W_buildVersion0 (e : own_V) (n : Nat) (s : own_T) : Option own_T :=
 W_buildVersion0_2 e n n 0 s
theorem Z_buildVersion0 {e n s t} (h : own_Q e n s t) : own_RR (own_Q e n) (f_buildVersion0 n s) (W_buildVersion0 e n t) := by
 unfold f_buildVersion0 W_buildVersion0
 exact Z_buildVersion0_2 _ _ _ _ h
theorem own_setII (t : St) (j : Nat) (v w : Int32) : setI (setI t j v) j w = setI t j w := by
  apply Prod.ext
  · funext x; rw [setI_1, setI_1, setI_1]; split <;> rfl
  · rfl
theorem own_setIs (t : St) (j : Nat) (v : Int32) (h : t.1 j = v) : setI t j v = t := by
  apply Prod.ext
  · funext x; rw [setI_1]; split
    · rename_i q; rw [q, h]
    · rfl
  · rfl
theorem own_pop {c : Int32} {s t : St} {N : Nat} (h : own_R c s t) (hN : t.1 39 = Int32.ofNat (N + 1)) (hb : N + 1 < 2147483648) :
    ∃ f, f < 2048 ∧ s.2 32 N = Int32.ofNat f ∧ N < 40 ∧ own_R c (setA (setI s 39 (Int32.ofNat N)) 31 f (0 &&& 1)) (setI t 39 (Int32.ofNat N)) := by
  obtain ⟨h1, h2, ⟨N', n1, n2, sl, k1, k2, k3, k4, k5⟩, h4⟩ := h
  have : N' = N + 1 := by rw [n2, N_inj (by omega) hb] at hN; exact hN
  subst this
  refine ⟨sl N, (k1 N (by omega)).1, (k1 N (by omega)).2.1, by omega, fun j hj => ?_, fun j hj => ?_, ?_, h4⟩
  · rw [setA_1, setI_1, setI_1]; split
    · rfl
    · exact h1 j hj
  · have hj' : j < 27 ∨ 32 < j := hj
    funext x
    rw [setA_2, setI_2, setI_2, if_neg (fun z => by omega), h2 j hj]
  · have A : ∀ j x, j ≠ 31 → (setA (setI s 39 (Int32.ofNat N)) 31 (sl N) (0 &&& 1)).2 j x = s.2 j x := fun j x hj => by rw [setA_2, if_neg (fun z => hj z.1)]; rfl
    have U : ∀ x, (setA (setI s 39 (Int32.ofNat N)) 31 (sl N) (0 &&& 1)).2 31 x = if x = sl N then 0 else s.2 31 x := fun x => by
      rw [setA_2]
      by_cases q : x = sl N
      · rw [if_pos ⟨by trivial, q⟩, if_pos q]; rfl
      · rw [if_neg (fun z => q z.2), if_neg q]; rfl
    refine ⟨N, by omega, by rw [setI_1, if_pos (by trivial)], sl, fun i hi => ?_, fun x hx hn => ?_, fun i j hi hj => k3 i j (by omega) (by omega), fun i j hi hj => k4 i j (by omega) (by omega), fun i hi => k5 i (by omega)⟩
    · rw [A _ _ (by decide), A _ _ (by decide), A _ _ (by decide), A _ _ (by decide), A _ _ (by decide), U, if_neg (fun z => by have := k3 i N (by omega) (by omega) z; omega)]
      exact k1 i (by omega)
    · rw [U]
      by_cases q : x = sl N
      · rw [if_pos q]
      · rw [if_neg q]
        exact k2 x hx (fun i hi z => by
          by_cases e : i = N
          · rw [e] at z; exact q z.symm
          · exact hn i (by omega) z)
theorem own_undo {c : Int32} {n M : Nat} : ∀ (d : Nat) (k e N : Nat) (s t : St), own_R c s t → t.1 39 = Int32.ofNat N → N = M + d → d < k → e + d ≤ 1000 → N ≤ 40 →
    ∃ s', f_undoHash_2 n k (Int32.ofNat M) (Int32.ofNat e) s = some s' ∧ own_R c s' (setI t 39 (Int32.ofNat M)) := by
  intro d
  induction d with
  | zero =>
    intro k e N s t h hN hd hk he hb
    obtain ⟨k, rfl⟩ : ∃ k', k = k' + 1 := ⟨k - 1, by omega⟩
    rw [u_undoHash_2, if_pos (ltZ (z := 1024) 1024 rfl (by omega) (by omega)), h.1 39 (by decide), hN, show N = M by omega, if_neg (nltN (by omega))]
    refine ⟨_, rfl, ?_⟩
    rw [own_setIs t _ _ (by rw [hN, show N = M by omega])]
    exact own_R34 h _
  | succ d ih =>
    intro k e N s t h hN hd hk he hb
    obtain ⟨k, rfl⟩ : ∃ k', k = k' + 1 := ⟨k - 1, by omega⟩
    obtain ⟨N, rfl⟩ : ∃ N', N = N' + 1 := ⟨N - 1, by omega⟩
    obtain ⟨f, f1, f2, f3, R⟩ := own_pop h hN (by omega)
    rw [u_undoHash_2, if_pos (ltZ (z := 1024) 1024 rfl (by omega) (by omega)), h.1 39 (by decide), hN, if_pos (ltN (by omega) (by omega)), if_pos (by rw [show (0 : Int32) = Int32.ofNat 0 from rfl]; exact ltN (by omega) (by omega))]
    have e1 : Int32.ofNat (N + 1) - 1 = Int32.ofNat N := by rw [← N_succ, Int32.add_sub_cancel]
    rw [e1, bnd_eq, show (setI s 39 (Int32.ofNat N)).1 39 = Int32.ofNat N from by rw [setI_1, if_pos (by trivial)], grd_pos (inbN (by omega) (by omega)), ix_N (by omega), setI_2, f2, if_neg (N_neg (by omega)), if_pos (ltZ (z := 2048) 2048 rfl f1 (by omega)), grd_pos (inbN f1 (by omega)), ix_N (by omega), bnd_eq, N_succ]
    obtain ⟨s', g1, g2⟩ := ih k (e + 1) N _ _ R (by rw [setI_1, if_pos (by trivial)]) (by omega) (by omega) (by omega) (by omega)
    exact ⟨s', g1, by rw [own_setII] at g2; exact g2⟩
def w_undoHash (c : Int32) (cz : Bool) (n : Nat) (a0 : Int32) (t : St) : Option St :=
  if a0 < 0 then none else if a0 < t.1 39 then some (setI t 39 a0) else some t
theorem k_undoHash {c : Int32} {cz : Bool} {n : Nat} (hn : 100 ≤ n) (hz : cz = decide (c = 0)) {a0 : Int32} {s t : St} (h : own_R c s t) : own_RR (own_R c) (f_undoHash n a0 s) (w_undoHash c cz n a0 t) := by
  unfold f_undoHash w_undoHash
  by_cases q0 : a0 < 0
  · rw [if_pos q0]; exact RR_none
  · rw [if_neg q0]
    obtain ⟨M, hM, eM⟩ : ∃ M, a0 = Int32.ofNat M ∧ M < 2147483648 := ⟨ix a0, (N_ix q0).symm, ix_lt a0⟩
    obtain ⟨N, n1, n2, -⟩ := h.2.2.1
    rw [show (0 : Int32) = Int32.ofNat 0 from rfl, hM]
    by_cases q : M < N
    · obtain ⟨s', e1, e2⟩ := own_undo (n := n) (M := M) (N - M) n 0 N s t h n2 (by omega) (by omega) (by omega) n1
      rw [e1, n2, if_pos (ltN q (by omega))]
      exact RR_some e2
    · obtain ⟨n, rfl⟩ : ∃ n', n = n' + 1 := ⟨n - 1, by omega⟩
      have q2 : ¬ Int32.ofNat M < Int32.ofNat N := fun z => q ((N_lt eM (by omega)).mp z)
      rw [u_undoHash_2, if_pos (ltZ (z := 1024) 1024 rfl (by omega) (by omega)), h.1 39 (by decide), n2, if_neg q2, if_neg q2]
      exact RR_some (own_R34 h _)
def W_undoHash (e : own_V) (n : Nat) (a0 : Int32) (t : own_T) : Option own_T :=
  if a0 < 0 then none else if a0 < rI t 39 then some (pI t 39 a0) else some t
theorem Z_undoHash {e n a0 s t} (h : own_Q e n s t) : own_RR (own_Q e n) (f_undoHash n a0 s) (W_undoHash e n a0 t) := by
  obtain ⟨hh, u, h1, h2⟩ := h
  refine own_viaS hh (k_undoHash (n := n) (cz := e.2.1) hh.1 hh.2.1 h1) ?_
  unfold w_undoHash W_undoHash
  rw [h2.1 39]
  exact gR (RR_ite (RR_some (TT_I h2 39 _)) (RR_some h2))
def W_computeSetMasks_96 (e : own_V) (n : Nat) (k2 : Int32 → own_T → Option (own_T)) (x1 x3 : Int32) (s : own_T) : Option own_T :=
 grd (inb x1 32) <|
 bnd (pA s 18 (ix x1) x3) fun s2 =>
 k2 (x1 + 1) s2
theorem Z_computeSetMasks_96 {e n k2 k2' x1 x3 s t} (hk2 : ∀ z0 s t, own_Q e n s t → own_RR (own_Q e n) (k2 z0 s) (k2' z0 t)) (h : own_Q e n s t) : own_RR (own_Q e n) (f_computeSetMasks_96 n k2 x1 x3 s) (W_computeSetMasks_96 e n k2' x1 x3 t) := by
 unfold f_computeSetMasks_96 W_computeSetMasks_96
 refine RR_grd ?_
 refine bS (qA h 18) fun s2 t2 h2 => ?_
 exact hk2 _ _ _ h2
def W_computeSetMasks_51 (e : own_V) (n : Nat) (k2 : Int32 → own_T → Option (own_T)) : Nat → Int32 → Int32 → Int32 → Int32 → own_T → Option own_T
 | 0 => fun _ _ _ _ _ => none
 | k + 1 => fun x1 x2 x3 x4 s =>
  if x4 < x2 then
   grd (x4 < 32) <|
   grd (inb x4 32) <|
   if (rA s 0 (ix x4)) = 11 then
    bnd (x3 ||| (1 <<< (((rA s 1 (ix x4)) &&& 3) &&& 31))) fun v5 =>
    W_computeSetMasks_51 e n k2 k x1 x2 v5 (x4 + 1) s
   else
    W_computeSetMasks_51 e n k2 k x1 x2 x3 (x4 + 1) s
  else
   W_computeSetMasks_96 e n k2 x1 x3 s
theorem Z_computeSetMasks_51 {e n k2 k2'} (hk2 : ∀ z0 s t, own_Q e n s t → own_RR (own_Q e n) (k2 z0 s) (k2' z0 t)) : ∀ k x1 x2 x3 x4 s t, own_Q e n s t → own_RR (own_Q e n) (f_computeSetMasks_51 n k2 k x1 x2 x3 x4 s) (W_computeSetMasks_51 e n k2' k x1 x2 x3 x4 t) := by
 intro k
 induction k with
 | zero => intros; exact RR_none
 | succ k ih =>
  intro x1 x2 x3 x4 s t h
  rewrite [f_computeSetMasks_51, W_computeSetMasks_51]
  dsimp only
  rw [q2 h 0, q2 h 1]
  refine RR_ite ?_ ?_
  · refine gL ?_
    refine RR_grd ?_
    refine RR_ite ?_ ?_
    · refine RR_bndV fun v5 => ?_
      exact ih _ _ _ _ _ _ h
    · exact ih _ _ _ _ _ _ h
  · exact Z_computeSetMasks_96 hk2 h
def W_computeSetMasks_2 (e : own_V) (n : Nat) : Nat → Int32 → own_T → Option own_T
 | 0 => fun _ _ => none
 | k + 1 => fun x1 s =>
  if x1 < (rI s 35) then
   grd (x1 < 32) <|
   grd (inb x1 32) <|
   bnd (pA s 18 (ix x1) 0) fun s4 =>
   if (rA s4 0 (ix x1)) = 13 then
    W_computeSetMasks_51 e n (W_computeSetMasks_2 e n k) n x1 (rA s4 4 (ix x1)) 0 (x1 + 1) s4
   else
    W_computeSetMasks_2 e n k (x1 + 1) s4
  else
   some s
theorem Z_computeSetMasks_2 {e n} : ∀ k x1 s t, own_Q e n s t → own_RR (own_Q e n) (f_computeSetMasks_2 n k x1 s) (W_computeSetMasks_2 e n k x1 t) := by
 intro k
 induction k with
 | zero => intros; exact RR_none
 | succ k ih =>
  intro x1 s t h
  rewrite [f_computeSetMasks_2, W_computeSetMasks_2]
  dsimp only
  rw [q1 h 35]
  refine RR_ite ?_ ?_
  · refine gL ?_
    refine RR_grd ?_
    refine bS (qA h 18) fun s4 t4 h4 => ?_
    rw [q2 h4 0, q2 h4 4]
    refine RR_ite ?_ ?_
    · exact Z_computeSetMasks_51 ih _ _ _ _ _ _ _ h4
    · exact ih _ _ _ h4
  · exact RR_some h
def W_computeSetMasks (e : own_V) (n : Nat) (s : own_T) : Option own_T :=
 W_computeSetMasks_2 e n n 0 s
theorem Z_computeSetMasks {e n s t} (h : own_Q e n s t) : own_RR (own_Q e n) (f_computeSetMasks n s) (W_computeSetMasks e n t) := by
 unfold f_computeSetMasks W_computeSetMasks
 exact Z_computeSetMasks_2 _ _ _ _ h
def W_emit (e : own_V) (a0 a1 a2 : Int32) (s : own_T) : Option (Int32 × own_T) :=
 if (rI s 40) < 0 then none else
 grd ((rI s 40) < 1024) <|
 grd (inb (32 + (rI s 40)) 1056) <|
 bnd (pA s 7 (ix (32 + (rI s 40))) a0) fun s4 =>
 bnd (pA s4 8 (ix (32 + (rI s 40))) a1) fun s5 =>
 bnd (pA s5 9 (ix (32 + (rI s 40))) a2) fun s6 =>
 bnd (pA s6 10 (ix (32 + (rI s 40))) 0) fun s7 =>
 bnd (pI s7 40 ((rI s7 40) + 1)) fun s8 =>
 some ((32 + (rI s 40)), s8)
theorem ZT_emit {e a0 a1 a2 s t} (h : own_RT s t) : own_RR own_RTP (f_emit a0 a1 a2 s) (W_emit e a0 a1 a2 t) := by
 unfold f_emit W_emit
 rw [h.1 40]
 refine gR ?_
 refine gL ?_
 refine RR_grd ?_
 refine TT_bndS (TT_A h 7 _ _) fun s4 t4 h4 => ?_
 refine TT_bndS (TT_A h4 8 _ _) fun s5 t5 h5 => ?_
 refine TT_bndS (TT_A h5 9 _ _) fun s6 t6 h6 => ?_
 refine TT_bndS (TT_A h6 10 _ _) fun s7 t7 h7 => ?_
 rw [h7.1 40]
 refine TT_bndS (TT_I h7 40 _) fun s8 t8 h8 => ?_
 exact RR_some ⟨rfl, h8⟩
theorem Z_emit {e n a0 a1 a2 s t} (h : own_Q e n s t) (h0 : ¬ a0 = 1) : own_RR (own_QP e n) (f_emit a0 a1 a2 s) (W_emit e a0 a1 a2 t) := by
  obtain ⟨hh, u, h1, h2⟩ := h
  exact own_viaP hh (r_emit a0 a1 a2 (fun z => absurd z h0) h1) (ZT_emit h2)
def W_enterLoop_9 (e : own_V) (n : Nat) : Nat → Int32 → Int32 → Int32 → own_T → Option own_T
 | 0 => fun _ _ _ _ => none
 | k + 1 => fun x1 x2 x3 s =>
  if x3 < 4 then
   if ((x2 >>> (x3 &&& 31)) &&& 1) = 0 then
    W_enterLoop_9 e n k x1 x2 (x3 + 1) s
   else
    grd (inb x3 4) <|
    bnd (pA s 19 (ix x3) ((rA s 19 (ix x3)) + 1)) fun s4 =>
    W_enterLoop_9 e n k x1 x2 (x3 + 1) s4
  else
   grd (inb x1 32) <|
   (W_emit e 13 (rA s 1 (ix x1)) 0 s).bind fun q6 =>
   if (rI q6.2 42) < 0 then none else
   grd ((rI q6.2 42) < 3) <|
   grd (inb (rI q6.2 42) 3) <|
   bnd (pA q6.2 20 (ix (rI q6.2 42)) q6.1) fun s11 =>
   grd (inb (rI s11 42) 3) <|
   bnd (pA s11 21 (ix (rI s11 42)) (rI s11 39)) fun s13 =>
   bnd (pI s13 42 ((rI s13 42) + 1)) fun s14 =>
   some s14
theorem Z_enterLoop_9 {e n} : ∀ k x1 x2 x3 s t, own_Q e n s t → own_RR (own_Q e n) (f_enterLoop_9 n k x1 x2 x3 s) (W_enterLoop_9 e n k x1 x2 x3 t) := by
 intro k
 induction k with
 | zero => intros; exact RR_none
 | succ k ih =>
  intro x1 x2 x3 s t h
  rewrite [f_enterLoop_9, W_enterLoop_9]
  dsimp only
  rw [q2 h 1, q2 h 19]
  refine RR_ite ?_ ?_
  · refine RR_ite ?_ ?_
    · exact ih _ _ _ _ _ h
    · refine RR_grd ?_
      refine bS (qA h 19) fun s4 t4 h4 => ?_
      exact ih _ _ _ _ _ h4
  · refine RR_grd ?_
    refine bdP (Z_emit h (by decide)) fun v6 s6 t6 h6 => ?_
    try dsimp only
    rw [q1 h6 42]
    refine gR ?_
    refine gL ?_
    refine RR_grd ?_
    refine bS (qA h6 20) fun s11 t11 h11 => ?_
    rw [q1 h11 39, q1 h11 42]
    refine RR_grd ?_
    refine bS (qA h11 21) fun s13 t13 h13 => ?_
    rw [q1 h13 42]
    refine bS (qI h13 42) fun s14 t14 h14 => ?_
    exact RR_some h14
def W_enterLoop (e : own_V) (n : Nat) (a0 : Int32) (s : own_T) : Option own_T :=
 grd (inb a0 32) <|
 W_enterLoop_9 e n n a0 (rA s 18 (ix a0)) 0 s
theorem Z_enterLoop {e n a0 s t} (h : own_Q e n s t) : own_RR (own_Q e n) (f_enterLoop n a0 s) (W_enterLoop e n a0 t) := by
 unfold f_enterLoop W_enterLoop
 rw [q2 h 18]
 refine RR_grd ?_
 exact Z_enterLoop_9 _ _ _ _ _ _ h
def W_leaveLoop_63 (e : own_V) (n : Nat) (s : own_T) : Option own_T :=
 grd (inb (rI s 42) 3) <|
 (W_undoHash e n (rA s 21 (ix (rI s 42))) s).bind fun q2 =>
 some q2
theorem Z_leaveLoop_63 {e n s t} (h : own_Q e n s t) : own_RR (own_Q e n) (f_leaveLoop_63 n s) (W_leaveLoop_63 e n t) := by
 unfold f_leaveLoop_63 W_leaveLoop_63
 rw [q1 h 42, q2 h 21]
 refine RR_grd ?_
 refine bdS (Z_undoHash h) fun s2 t2 h2 => ?_
 exact RR_some h2
def W_leaveLoop (e : own_V) (n : Nat) (s : own_T) : Option own_T :=
 grd (0 < (rI s 42)) <|
 if 3 < (rI s 42) then none else
 bnd (pI s 42 ((rI s 42) - 1)) fun s3 =>
 grd (inb (rI s3 42) 3) <|
 (W_emit e 14 (rA s3 20 (ix (rI s3 42))) 0 s3).bind fun q5 =>
 if (rA s3 20 (ix (rI s3 42))) < 0 then none else
 grd ((rA s3 20 (ix (rI s3 42))) < 1056) <|
 grd (inb (rA s3 20 (ix (rI s3 42))) 1056) <|
 bnd (pA q5.2 9 (ix (rA s3 20 (ix (rI s3 42)))) q5.1) fun s10 =>
 W_leaveLoop_63 e n s10
theorem Z_leaveLoop {e n s t} (h : own_Q e n s t) : own_RR (own_Q e n) (f_leaveLoop n s) (W_leaveLoop e n t) := by
 unfold f_leaveLoop W_leaveLoop
 rw [q1 h 42]
 refine gL ?_
 refine gR ?_
 refine bS (qI h 42) fun s3 t3 h3 => ?_
 rw [q1 h3 42, q2 h3 20]
 refine RR_grd ?_
 refine bdP (Z_emit h3 (by decide)) fun v5 s5 t5 h5 => ?_
 try dsimp only
 refine gR ?_
 refine gL ?_
 refine RR_grd ?_
 refine bS (qA h5 9) fun s10 t10 h10 => ?_
 exact Z_leaveLoop_63 h10
def W_mapAt (e : own_V) (s : own_T) (a0 : Int32) : Option Int32 :=
 if a0 < 0 then none else
 grd (a0 < 32) <|
 grd (inb a0 32) <|
 some (rA s 17 (ix a0))
theorem Z_mapAt {e n a0 s t} (h : own_Q e n s t) : own_RR Eq (f_mapAt s a0) (W_mapAt e t a0) := by
 unfold f_mapAt W_mapAt
 rw [q2 h 17]
 refine gR ?_
 refine gL ?_
 refine RR_grd ?_
 exact RR_some rfl
def W_translateSet (e : own_V) (a0 : Int32) (s : own_T) : Option own_T :=
 grd (inb a0 32) <|
 (W_mapAt e s (rA s 2 (ix a0))).bind fun q2 =>
 (W_emit e 11 ((rA s 1 (ix a0)) &&& 3) q2 s).bind fun q4 =>
 grd (inb ((rA s 1 (ix a0)) &&& 3) 4) <|
 bnd (pA q4.2 19 (ix ((rA s 1 (ix a0)) &&& 3)) ((rA q4.2 19 (ix ((rA s 1 (ix a0)) &&& 3))) + 1)) fun s7 =>
 some s7
theorem Z_translateSet {e n a0 s t} (h : own_Q e n s t) : own_RR (own_Q e n) (f_translateSet a0 s) (W_translateSet e a0 t) := by
 unfold f_translateSet W_translateSet
 rw [q2 h 1, q2 h 2]
 refine RR_grd ?_
 refine RR_bindV (Z_mapAt h) fun v2 => ?_
 refine bdP (Z_emit h (by decide)) fun v4 s4 t4 h4 => ?_
 try dsimp only
 rw [q2 h4 19]
 refine RR_grd ?_
 refine bS (qA h4 19) fun s7 t7 h7 => ?_
 exact RR_some h7
def W_ins (a b d v : Int32) (t : own_T) : Option own_T :=
  grd (rI t 39 < 40) <| grd (¬ rI t 39 < 0) <|
  some (pI (pA (pA (pA (pA t 27 (ix (rI t 39)) a) 28 (ix (rI t 39)) b) 29 (ix (rI t 39)) d) 30 (ix (rI t 39)) v) 39 (rI t 39 + 1))
theorem ZT_ins {a b d v s t} (h : own_RT s t) : own_RR own_RT (g_ins a b d v s) (W_ins a b d v t) := by
  unfold g_ins W_ins
  rw [h.1 39]
  exact gL (RR_grd (RR_some (TT_I (TT_A (TT_A (TT_A (TT_A h 27 _ _) 28 _ _) 29 _ _) 30 _ _) 39 _)))
def W_makeLeaf (e : own_V) (n : Nat) (a0 a1 a2 a3 : Int32) (s : own_T) : Option (Int32 × own_T) :=
  if own_bad e.1 a0 a1 = true then none else
  bnd (own_fndT s a0 a1 a2 (ix (rI s 39))) fun v1 =>
  if v1 < 0 then
    (W_emit e a0 a1 0 s).bind fun q4 =>
    grd (inb q4.1 1056) <|
    bnd (pA q4.2 10 (ix q4.1) a3) fun s7 =>
    (W_ins a0 a1 a2 q4.1 s7).bind fun q8 =>
    some (q4.1, q8)
  else
    some (v1, s)
theorem Z_makeLeaf {e n a0 a1 a2 a3 s t} (h : own_Q e n s t) : own_RR (own_QP e n) (f_makeLeaf n a0 a1 a2 a3 s) (W_makeLeaf e n a0 a1 a2 a3 t) := by
  obtain ⟨hh, u, h1, h2⟩ := h
  obtain ⟨m, rfl⟩ : ∃ m, n = m + 100 := ⟨n - 100, by omega⟩
  refine own_viaP hh (r_makeLeaf a0 a1 a2 a3 h1) ?_
  unfold g_makeLeaf W_makeLeaf
  rw [own_fndTE h2, h2.1 39]
  refine gR (RR_bndV fun v1 => RR_ite ?_ (RR_some ⟨rfl, h2⟩))
  refine TT_bindP (ZT_emit h2) fun v4 s4 t4 h4 => ?_
  exact RR_grd (TT_bndS (TT_A h4 10 _ _) fun s7 t7 h7 => TT_bindS (ZT_ins h7) fun s8 t8 h8 => RR_some ⟨rfl, h8⟩)
def W_makeConst (e : own_V) (n : Nat) (a0 : Int32) (s : own_T) : Option (Int32 × own_T) :=
 (W_makeLeaf e n 1 a0 0 0 s).bind fun q1 =>
 some (q1.1, q1.2)
theorem Z_makeConst {e n a0 s t} (h : own_Q e n s t) : own_RR (own_QP e n) (f_makeConst n a0 s) (W_makeConst e n a0 t) := by
 unfold f_makeConst W_makeConst
 refine bdP (Z_makeLeaf h) fun v1 s1 t1 h1 => ?_
 try dsimp only
 exact RR_some ⟨rfl, h1⟩
def W_familyOf (e : own_V) (s : own_T) (a0 : Int32) : Option Int32 :=
 if a0 = 5 then
  some 4
 else
  if a0 = 10 then none else
  some a0
theorem Z_familyOf {e n a0 s t} (h : own_Q e n s t) : own_RR Eq (f_familyOf s a0) (W_familyOf e t a0) := by
 unfold f_familyOf W_familyOf
 refine RR_ite ?_ ?_
 · exact RR_some rfl
 · refine gR ?_
   exact RR_some rfl
def W_push (e : own_V) (a0 a1 : Int32) (s : own_T) : Option (Int32 × own_T) :=
 if (rI s 44) < 0 then none else
 grd ((rI s 44) < 64) <|
 grd (inb (rI s 44) 64) <|
 bnd (pA s 25 (ix (rI s 44)) a0) fun s4 =>
 grd (inb (rI s4 44) 64) <|
 bnd (pA s4 26 (ix (rI s4 44)) a1) fun s6 =>
 bnd (pI s6 44 ((rI s6 44) + 1)) fun s7 =>
 some (1, s7)
theorem Z_push {e n a0 a1 s t} (h : own_Q e n s t) : own_RR (own_QP e n) (f_push a0 a1 s) (W_push e a0 a1 t) := by
 unfold f_push W_push
 rw [q1 h 44]
 refine gR ?_
 refine gL ?_
 refine RR_grd ?_
 refine bS (qA h 25) fun s4 t4 h4 => ?_
 rw [q1 h4 44]
 refine RR_grd ?_
 refine bS (qA h4 26) fun s6 t6 h6 => ?_
 rw [q1 h6 44]
 refine bS (qI h6 44) fun s7 t7 h7 => ?_
 exact RR_some ⟨rfl, h7⟩
def W_expandSum_22 (e : own_V) (x1 x2 z0 : Int32) (s : own_T) : Option (Int32 × own_T) :=
 grd (inb x1 32) <|
 (W_push e (rA s 2 (ix x1)) z0 s).bind fun q2 =>
 if q2.1 = 0 then none else
 (W_push e (rA q2.2 1 (ix x1)) x2 q2.2).bind fun q5 =>
 if q5.1 = 0 then none else
 some (1, q5.2)
theorem Z_expandSum_22 {e n x1 x2 z0 s t} (h : own_Q e n s t) : own_RR (own_QP e n) (f_expandSum_22 x1 x2 z0 s) (W_expandSum_22 e x1 x2 z0 t) := by
 unfold f_expandSum_22 W_expandSum_22
 rw [q2 h 2]
 refine RR_grd ?_
 refine bdP (Z_push h) fun v2 s2 t2 h2 => ?_
 try dsimp only
 rw [q2 h2 1]
 refine gR ?_
 refine bdP (Z_push h2) fun v5 s5 t5 h5 => ?_
 try dsimp only
 refine gR ?_
 exact RR_some ⟨rfl, h5⟩
def W_expandSum_10 (e : own_V) (x1 x2 x3 : Int32) (s : own_T) : Option (Int32 × own_T) :=
 if x3 = 4 then
  W_expandSum_22 e x1 x2 x2 s
 else
  W_expandSum_22 e x1 x2 (0 - x2) s
theorem Z_expandSum_10 {e n x1 x2 x3 s t} (h : own_Q e n s t) : own_RR (own_QP e n) (f_expandSum_10 x1 x2 x3 s) (W_expandSum_10 e x1 x2 x3 t) := by
 unfold f_expandSum_10 W_expandSum_10
 refine RR_ite ?_ ?_
 · exact Z_expandSum_22 h
 · exact Z_expandSum_22 h
def W_expandSum (e : own_V) (a0 a1 a2 : Int32) (s : own_T) : Option (Int32 × own_T) :=
 if a2 = 4 then
  W_expandSum_10 e a0 a1 a2 s
 else
  if a2 = 5 then
   W_expandSum_10 e a0 a1 a2 s
  else
   if a2 = 10 then none else
   some (0, s)
theorem Z_expandSum {e n a0 a1 a2 s t} (h : own_Q e n s t) : own_RR (own_QP e n) (f_expandSum a0 a1 a2 s) (W_expandSum e a0 a1 a2 t) := by
 unfold f_expandSum W_expandSum
 refine RR_ite ?_ ?_
 · exact Z_expandSum_10 h
 · refine RR_ite ?_ ?_
   · exact Z_expandSum_10 h
   · refine gR ?_
     exact RR_some ⟨rfl, h⟩
def W_expand (e : own_V) (a0 a1 a2 : Int32) (s : own_T) : Option (Int32 × own_T) :=
 if a0 < 0 then none else
 grd (a0 < (rI s 35)) <|
 grd (a0 < 32) <|
 grd (inb a0 32) <|
 if a2 = 4 then
  (W_expandSum e a0 a1 (rA s 0 (ix a0)) s).bind fun q6 =>
  some (q6.1, q6.2)
 else
  if (rA s 0 (ix a0)) = a2 then
   (W_push e (rA s 2 (ix a0)) a1 s).bind fun q9 =>
   if q9.1 = 0 then none else
   (W_push e (rA q9.2 1 (ix a0)) a1 q9.2).bind fun q12 =>
   if q12.1 = 0 then none else
   some (1, q12.2)
  else
   some (0, s)
theorem Z_expand {e n a0 a1 a2 s t} (h : own_Q e n s t) : own_RR (own_QP e n) (f_expand a0 a1 a2 s) (W_expand e a0 a1 a2 t) := by
 unfold f_expand W_expand
 rw [q1 h 35, q2 h 0, q2 h 2]
 refine gR ?_
 refine gL ?_
 refine gL ?_
 refine RR_grd ?_
 refine RR_ite ?_ ?_
 · refine bdP (Z_expandSum h) fun v6 s6 t6 h6 => ?_
   try dsimp only
   exact RR_some ⟨rfl, h6⟩
 · refine RR_ite ?_ ?_
   · refine bdP (Z_push h) fun v9 s9 t9 h9 => ?_
     try dsimp only
     rw [q2 h9 1]
     refine gR ?_
     refine bdP (Z_push h9) fun v12 s12 t12 h12 => ?_
     try dsimp only
     refine gR ?_
     exact RR_some ⟨rfl, h12⟩
   · exact RR_some ⟨rfl, h⟩
def W_addLeaf (e : own_V) (a0 a1 : Int32) (s : own_T) : Option (Int32 × own_T) :=
 if (rI s 43) < 0 then none else
 grd ((rI s 43) < 16) <|
 grd (inb (rI s 43) 16) <|
 bnd (pA s 22 (ix (rI s 43)) a0) fun s4 =>
 grd (inb (rI s4 43) 16) <|
 bnd (pA s4 23 (ix (rI s4 43)) a1) fun s6 =>
 grd (inb (rI s6 43) 16) <|
 bnd (pA s6 24 (ix (rI s6 43)) (0 &&& 1)) fun s8 =>
 bnd (pI s8 43 ((rI s8 43) + 1)) fun s9 =>
 some (1, s9)
theorem Z_addLeaf {e n a0 a1 s t} (h : own_Q e n s t) : own_RR (own_QP e n) (f_addLeaf a0 a1 s) (W_addLeaf e a0 a1 t) := by
 unfold f_addLeaf W_addLeaf
 rw [q1 h 43]
 refine gR ?_
 refine gL ?_
 refine RR_grd ?_
 refine bS (qA h 22) fun s4 t4 h4 => ?_
 rw [q1 h4 43]
 refine RR_grd ?_
 refine bS (qA h4 23) fun s6 t6 h6 => ?_
 rw [q1 h6 43]
 refine RR_grd ?_
 refine bS (qA h6 24) fun s8 t8 h8 => ?_
 rw [q1 h8 43]
 refine bS (qI h8 43) fun s9 t9 h9 => ?_
 exact RR_some ⟨rfl, h9⟩
def W_flatten_119 (e : own_V) (n : Nat) (s : own_T) : Option (Int32 × own_T) :=
 grd ((rI s 44) = 0) <|
 some (1, s)
theorem Z_flatten_119 {e n s t} (h : own_Q e n s t) : own_RR (own_QP e n) (f_flatten_119 n s) (W_flatten_119 e n t) := by
 unfold f_flatten_119 W_flatten_119
 rw [q1 h 44]
 refine gL ?_
 exact RR_some ⟨rfl, h⟩
def W_flatten_23 (e : own_V) (n : Nat) : Nat → Int32 → Int32 → own_T → Option (Int32 × own_T)
 | 0 => fun _ _ _ => none
 | k + 1 => fun x2 x3 s =>
  grd (x3 < 256) <|
  if 0 < (rI s 44) then
   bnd (pI s 44 ((rI s 44) - 1)) fun s3 =>
   grd (inb (rI s3 44) 64) <|
   (W_expand e (rA s3 25 (ix (rI s3 44))) (rA s3 26 (ix (rI s3 44))) x2 s3).bind fun q5 =>
   if q5.1 < 0 then none else
   if q5.1 = 0 then
    (W_mapAt e q5.2 (rA s3 25 (ix (rI s3 44)))).bind fun q9 =>
    (W_addLeaf e q9 (rA s3 26 (ix (rI s3 44))) q5.2).bind fun q11 =>
    if q11.1 = 0 then none else
    W_flatten_23 e n k x2 (x3 + 1) q11.2
   else
    W_flatten_23 e n k x2 (x3 + 1) q5.2
  else
   W_flatten_119 e n s
theorem Z_flatten_23 {e n} : ∀ k x2 x3 s t, own_Q e n s t → own_RR (own_QP e n) (f_flatten_23 n k x2 x3 s) (W_flatten_23 e n k x2 x3 t) := by
 intro k
 induction k with
 | zero => intros; exact RR_none
 | succ k ih =>
  intro x2 x3 s t h
  rewrite [f_flatten_23, W_flatten_23]
  dsimp only
  rw [q1 h 44]
  refine gL ?_
  refine RR_ite ?_ ?_
  · refine bS (qI h 44) fun s3 t3 h3 => ?_
    rw [q1 h3 44, q2 h3 25, q2 h3 26]
    refine RR_grd ?_
    refine bdP (Z_expand h3) fun v5 s5 t5 h5 => ?_
    try dsimp only
    refine gR ?_
    refine RR_ite ?_ ?_
    · refine RR_bindV (Z_mapAt h5) fun v9 => ?_
      refine bdP (Z_addLeaf h5) fun v11 s11 t11 h11 => ?_
      try dsimp only
      refine gR ?_
      exact ih _ _ _ _ h11
    · exact ih _ _ _ _ h5
  · exact Z_flatten_119 h
def W_flatten (e : own_V) (n : Nat) (a0 a1 : Int32) (s : own_T) : Option (Int32 × own_T) :=
 bnd (pI s 43 0) fun s1 =>
 bnd (pI s1 44 0) fun s2 =>
 (W_push e a0 1 s2).bind fun q3 =>
 if q3.1 = 0 then none else
 W_flatten_23 e n n a1 0 q3.2
theorem Z_flatten {e n a0 a1 s t} (h : own_Q e n s t) : own_RR (own_QP e n) (f_flatten n a0 a1 s) (W_flatten e n a0 a1 t) := by
 unfold f_flatten W_flatten
 refine bS (qI h 43) fun s1 t1 h1 => ?_
 refine bS (qI h1 44) fun s2 t2 h2 => ?_
 refine bdP (Z_push h2) fun v3 s3 t3 h3 => ?_
 try dsimp only
 refine gR ?_
 exact Z_flatten_23 _ _ _ _ _ h3
def W_rankOf (e : own_V) (s : own_T) (a0 : Int32) : Option Int32 :=
 if a0 < 0 then none else
 grd (a0 < 1056) <|
 grd (inb a0 1056) <|
 some (rA s 10 (ix a0))
theorem ZT_rankOf {e a0 s t} (h : own_RT s t) : own_RR Eq (f_rankOf s a0) (W_rankOf e t a0) := by
 unfold f_rankOf W_rankOf
 rw [h.2 10]
 refine gR ?_
 refine gL ?_
 refine RR_grd ?_
 exact RR_some rfl
theorem Z_rankOf {e n a0 s t} (h : own_Q e n s t) : own_RR Eq (f_rankOf s a0) (W_rankOf e t a0) := by
 unfold f_rankOf W_rankOf
 rw [q2 h 10]
 refine gR ?_
 refine gL ?_
 refine RR_grd ?_
 exact RR_some rfl
def W_before (e : own_V) (s : own_T) (a0 a1 : Int32) : Option Int32 :=
 (W_rankOf e s a0).bind fun q1 =>
 (W_rankOf e s a1).bind fun q3 =>
 if q1 = q3 then
  if a0 < a1 then none else
  some 0
 else
  if q1 < q3 then
   some 1
  else
   some 0
theorem Z_before {e n a0 a1 s t} (h : own_Q e n s t) : own_RR Eq (f_before s a0 a1) (W_before e t a0 a1) := by
 unfold f_before W_before
 refine RR_bindV (Z_rankOf h) fun v1 => ?_
 refine RR_bindV (Z_rankOf h) fun v3 => ?_
 refine RR_ite ?_ ?_
 · refine gR ?_
   exact RR_some rfl
 · refine RR_ite ?_ ?_
   · exact RR_some rfl
   · exact RR_some rfl
def W_sortLeaves_93 (e : own_V) (n : Nat) (k2 : Int32 → own_T → Option (own_T)) (x1 x2 x3 x4 : Int32) (s : own_T) : Option own_T :=
 grd (inb x4 16) <|
 bnd (pA s 22 (ix x4) x2) fun s2 =>
 bnd (pA s2 23 (ix x4) x3) fun s3 =>
 k2 (x1 + 1) s3
theorem Z_sortLeaves_93 {e n k2 k2' x1 x2 x3 x4 s t} (hk2 : ∀ z0 s t, own_Q e n s t → own_RR (own_Q e n) (k2 z0 s) (k2' z0 t)) (h : own_Q e n s t) : own_RR (own_Q e n) (f_sortLeaves_93 n k2 x1 x2 x3 x4 s) (W_sortLeaves_93 e n k2' x1 x2 x3 x4 t) := by
 unfold f_sortLeaves_93 W_sortLeaves_93
 refine RR_grd ?_
 refine bS (qA h 22) fun s2 t2 h2 => ?_
 refine bS (qA h2 23) fun s3 t3 h3 => ?_
 exact hk2 _ _ _ h3
def W_sortLeaves_33 (e : own_V) (n : Nat) (k2 : Int32 → own_T → Option (own_T)) : Nat → Int32 → Int32 → Int32 → Int32 → own_T → Option own_T
 | 0 => fun _ _ _ _ _ => none
 | k + 1 => fun x1 x2 x3 x4 s =>
  if 0 < x4 then
   grd (inb (x4 - 1) 16) <|
   (W_before e s x2 (rA s 22 (ix (x4 - 1)))).bind fun q3 =>
   if q3 = 0 then
    W_sortLeaves_93 e n k2 x1 x2 x3 x4 s
   else
    grd (inb x4 16) <|
    bnd (pA s 22 (ix x4) (rA s 22 (ix (x4 - 1)))) fun s7 =>
    bnd (pA s7 23 (ix x4) (rA s7 23 (ix (x4 - 1)))) fun s8 =>
    W_sortLeaves_33 e n k2 k x1 x2 x3 (x4 + (-1)) s8
  else
   W_sortLeaves_93 e n k2 x1 x2 x3 x4 s
theorem Z_sortLeaves_33 {e n k2 k2'} (hk2 : ∀ z0 s t, own_Q e n s t → own_RR (own_Q e n) (k2 z0 s) (k2' z0 t)) : ∀ k x1 x2 x3 x4 s t, own_Q e n s t → own_RR (own_Q e n) (f_sortLeaves_33 n k2 k x1 x2 x3 x4 s) (W_sortLeaves_33 e n k2' k x1 x2 x3 x4 t) := by
 intro k
 induction k with
 | zero => intros; exact RR_none
 | succ k ih =>
  intro x1 x2 x3 x4 s t h
  rewrite [f_sortLeaves_33, W_sortLeaves_33]
  dsimp only
  rw [q2 h 22]
  refine RR_ite ?_ ?_
  · refine RR_grd ?_
    refine RR_bindV (Z_before h) fun v3 => ?_
    refine RR_ite ?_ ?_
    · exact Z_sortLeaves_93 hk2 h
    · refine RR_grd ?_
      refine bS (qA h 22) fun s7 t7 h7 => ?_
      rw [q2 h7 23]
      refine bS (qA h7 23) fun s8 t8 h8 => ?_
      exact ih _ _ _ _ _ _ h8
  · exact Z_sortLeaves_93 hk2 h
def W_sortLeaves_2 (e : own_V) (n : Nat) : Nat → Int32 → own_T → Option own_T
 | 0 => fun _ _ => none
 | k + 1 => fun x1 s =>
  if x1 < (rI s 43) then
   grd (x1 < 16) <|
   grd (inb x1 16) <|
   W_sortLeaves_33 e n (W_sortLeaves_2 e n k) n x1 (rA s 22 (ix x1)) (rA s 23 (ix x1)) x1 s
  else
   some s
theorem Z_sortLeaves_2 {e n} : ∀ k x1 s t, own_Q e n s t → own_RR (own_Q e n) (f_sortLeaves_2 n k x1 s) (W_sortLeaves_2 e n k x1 t) := by
 intro k
 induction k with
 | zero => intros; exact RR_none
 | succ k ih =>
  intro x1 s t h
  rewrite [f_sortLeaves_2, W_sortLeaves_2]
  dsimp only
  rw [q1 h 43, q2 h 22, q2 h 23]
  refine RR_ite ?_ ?_
  · refine gL ?_
    refine RR_grd ?_
    exact Z_sortLeaves_33 ih _ _ _ _ _ _ _ h
  · exact RR_some h
def W_sortLeaves (e : own_V) (n : Nat) (s : own_T) : Option own_T :=
 W_sortLeaves_2 e n n 1 s
theorem Z_sortLeaves {e n s t} (h : own_Q e n s t) : own_RR (own_Q e n) (f_sortLeaves n s) (W_sortLeaves e n t) := by
 unfold f_sortLeaves W_sortLeaves
 exact Z_sortLeaves_2 _ _ _ _ h
def W_isConst (e : own_V) (s : own_T) (a0 : Int32) : Option Int32 :=
 if a0 < 0 then none else
 grd (a0 < 1056) <|
 grd (inb a0 1056) <|
 if (rA s 7 (ix a0)) = 1 then
  some 1
 else
  some 0
theorem Z_isConst {e n a0 s t} (h : own_Q e n s t) : own_RR Eq (f_isConst s a0) (W_isConst e t a0) := by
 unfold f_isConst W_isConst
 rw [q2 h 7]
 refine gR ?_
 refine gL ?_
 refine RR_grd ?_
 refine RR_ite ?_ ?_
 · exact RR_some rfl
 · exact RR_some rfl
def W_removeRepeats_32 (e : own_V) (n : Nat) (k2 : Int32 → Int32 → own_T → Option (own_T)) : Nat → Int32 → Int32 → Int32 → own_T → Option own_T
 | 0 => fun _ _ _ _ => none
 | k + 1 => fun x1 x2 x3 s =>
  if x3 < (rI s 43) then
   grd (x3 < 16) <|
   grd (inb x3 16) <|
   grd ((rA s 24 (ix x3)) = 0) <|
   grd (inb x2 16) <|
   if (rA s 22 (ix x3)) = (rA s 22 (ix x2)) then none else
   W_removeRepeats_32 e n k2 k x1 x2 (x3 + 1) s
  else
   k2 x1 (x2 + 1) s
theorem Z_removeRepeats_32 {e n k2 k2'} (hk2 : ∀ z0 z1 s t, own_Q e n s t → own_RR (own_Q e n) (k2 z0 z1 s) (k2' z0 z1 t)) : ∀ k x1 x2 x3 s t, own_Q e n s t → own_RR (own_Q e n) (f_removeRepeats_32 n k2 k x1 x2 x3 s) (W_removeRepeats_32 e n k2' k x1 x2 x3 t) := by
 intro k
 induction k with
 | zero => intros; exact RR_none
 | succ k ih =>
  intro x1 x2 x3 s t h
  rewrite [f_removeRepeats_32, W_removeRepeats_32]
  dsimp only
  rw [q1 h 43, q2 h 22, q2 h 24]
  refine RR_ite ?_ ?_
  · refine gL ?_
    refine RR_grd ?_
    refine gL ?_
    refine RR_grd ?_
    refine gR ?_
    exact ih _ _ _ _ _ h
  · exact hk2 _ _ _ _ h
def W_removeRepeats_2 (e : own_V) (n : Nat) : Nat → Int32 → Int32 → own_T → Option own_T
 | 0 => fun _ _ _ => none
 | k + 1 => fun x1 x2 s =>
  if x2 < (rI s 43) then
   grd (x2 < 16) <|
   grd (inb x2 16) <|
   if (rA s 24 (ix x2)) = 0 then
    W_removeRepeats_32 e n (W_removeRepeats_2 e n k) n x1 x2 (x2 + 1) s
   else
    W_removeRepeats_2 e n k x1 (x2 + 1) s
  else
   some s
theorem Z_removeRepeats_2 {e n} : ∀ k x1 x2 s t, own_Q e n s t → own_RR (own_Q e n) (f_removeRepeats_2 n k x1 x2 s) (W_removeRepeats_2 e n k x1 x2 t) := by
 intro k
 induction k with
 | zero => intros; exact RR_none
 | succ k ih =>
  intro x1 x2 s t h
  rewrite [f_removeRepeats_2, W_removeRepeats_2]
  dsimp only
  rw [q1 h 43, q2 h 24]
  refine RR_ite ?_ ?_
  · refine gL ?_
    refine RR_grd ?_
    refine RR_ite ?_ ?_
    · exact Z_removeRepeats_32 ih _ _ _ _ _ _ h
    · exact ih _ _ _ _ h
  · exact RR_some h
def W_removeRepeats (e : own_V) (n : Nat) (a0 : Int32) (s : own_T) : Option own_T :=
 W_removeRepeats_2 e n n a0 0 s
theorem Z_removeRepeats {e n a0 s t} (h : own_Q e n s t) : own_RR (own_Q e n) (f_removeRepeats n a0 s) (W_removeRepeats e n a0 t) := by
 unfold f_removeRepeats W_removeRepeats
 exact Z_removeRepeats_2 _ _ _ _ _ h
/-- a constant of the code is c -/
theorem own_isC {e n s t} (h : own_Q e n s t) {a q : Int32} (k : f_isConst s a = some q) (hq : ¬ q = 0) (ha : ¬ a < 32) : inb a 1056 ∧ f_constOf s a = some e.1 ∧ s.2 8 (ix a) = e.1 := by
  obtain ⟨-, u, h, -⟩ := h
  unfold f_isConst at k
  unfold f_constOf
  by_cases q0 : a < 0
  · rw [if_pos q0] at k; cases k; exact absurd rfl hq
  · rw [if_neg q0] at k ⊢
    by_cases q1 : a < 1056
    · rw [if_pos q1] at k ⊢
      obtain ⟨hb, k⟩ := grd_some k
      by_cases q2 : s.2 7 (ix a) = 1
      · have hx : s.2 8 (ix a) = e.1 := by
          rw [h.2.1 7 (by decide)] at q2
          rw [h.2.1 8 (by decide)]
          refine h.2.2.2 (ix a) ?_ q2
          have := ix_toInt q0
          rw [lt_I, show (32 : Int32).toInt = 32 from rfl] at ha
          omega
        rw [grd_pos hb, hx]
        exact ⟨hb, rfl, rfl⟩
      · rw [if_neg q2] at k; cases k; exact absurd rfl hq
    · rw [if_neg q1] at k; cases k; exact absurd rfl hq
def W_isConstValue (e : own_V) (s : own_T) (a0 a1 : Int32) : Option Int32 :=
  (W_isConst e s a0).bind fun q1 =>
  if q1 = 0 then some 0 else
  if a0 < 32 then none else
  grd (a1 = 0) <| some (if e.2.1 = true then 1 else 0)
theorem Z_isConstValue {e n a0 a1 s t} (h : own_Q e n s t) : own_RR Eq (f_isConstValue s a0 a1) (W_isConstValue e t a0 a1) := by
  unfold f_isConstValue W_isConstValue
  intro b k
  cases e1 : W_isConst e t a0 with
  | none => rw [e1] at k; cases k
  | some q =>
    rw [e1, Option.bind_some] at k
    obtain ⟨q', e2, e3⟩ := Z_isConst h q e1
    subst e3
    rw [e2, Option.bind_some]
    by_cases q0 : q' = 0
    · rw [if_pos q0] at k ⊢; exact ⟨b, k, rfl⟩
    · rw [if_neg q0] at k ⊢
      by_cases q1 : a0 < 32
      · rw [if_pos q1] at k; cases k
      · rw [if_neg q1] at k
        obtain ⟨q2, k⟩ := grd_some k
        obtain ⟨e3, -, e5⟩ := own_isC h e2 q0 q1
        rw [grd_pos e3, e5, q2]
        cases k
        by_cases q3 : e.1 = 0
        · rw [if_pos q3, h.1.2.1, if_pos (decide_eq_true q3)]; exact ⟨1, rfl, rfl⟩
        · rw [if_neg q3, h.1.2.1, if_neg (fun z => q3 (of_decide_eq_true z))]; exact ⟨0, rfl, rfl⟩
def W_isNegOf (e : own_V) (s : own_T) (a0 a1 : Int32) : Option Int32 :=
 if a0 < 32 then none else
 grd (a0 < 1056) <|
 grd (inb a0 1056) <|
 if (rA s 7 (ix a0)) = 10 then none else
 some 0
theorem Z_isNegOf {e n a0 a1 s t} (h : own_Q e n s t) : own_RR Eq (f_isNegOf s a0 a1) (W_isNegOf e t a0 a1) := by
 unfold f_isNegOf W_isNegOf
 rw [q2 h 7]
 refine gR ?_
 refine gL ?_
 refine RR_grd ?_
 refine gR ?_
 exact RR_some rfl
def W_simplifyAdd (e : own_V) (n : Nat) (a0 a1 : Int32) (s : own_T) : Option (Int32 × own_T) :=
 (W_isConstValue e s a0 0).bind fun q1 =>
 grd (q1 = 0) <|
 (W_isConstValue e s a1 0).bind fun q4 =>
 grd (q4 = 0) <|
 (W_isNegOf e s a0 a1).bind fun q7 =>
 grd (q7 = 0) <|
 (W_isNegOf e s a1 a0).bind fun q10 =>
 grd (q10 = 0) <|
 some ((-1), s)
theorem Z_simplifyAdd {e n a0 a1 s t} (h : own_Q e n s t) : own_RR (own_QP e n) (f_simplifyAdd n a0 a1 s) (W_simplifyAdd e n a0 a1 t) := by
 unfold f_simplifyAdd W_simplifyAdd
 refine RR_bindV (Z_isConstValue h) fun v1 => ?_
 refine gL ?_
 refine RR_bindV (Z_isConstValue h) fun v4 => ?_
 refine gL ?_
 refine RR_bindV (Z_isNegOf h) fun v7 => ?_
 refine gL ?_
 refine RR_bindV (Z_isNegOf h) fun v10 => ?_
 refine gL ?_
 exact RR_some ⟨rfl, h⟩
def W_simplifySub (e : own_V) (n : Nat) (a0 a1 : Int32) (s : own_T) : Option (Int32 × own_T) :=
 (W_isConstValue e s a1 0).bind fun q1 =>
 grd (q1 = 0) <|
 if a0 = a1 then none else
 (W_isConstValue e s a0 0).bind fun q7 =>
 grd (q7 = 0) <|
 some ((-1), s)
theorem Z_simplifySub {e n a0 a1 s t} (h : own_Q e n s t) : own_RR (own_QP e n) (f_simplifySub n a0 a1 s) (W_simplifySub e n a0 a1 t) := by
 unfold f_simplifySub W_simplifySub
 refine RR_bindV (Z_isConstValue h) fun v1 => ?_
 refine gL ?_
 refine gR ?_
 refine RR_bindV (Z_isConstValue h) fun v7 => ?_
 refine gL ?_
 exact RR_some ⟨rfl, h⟩
def W_simplifyMul (e : own_V) (s : own_T) (a0 a1 : Int32) : Option Int32 :=
 (W_isConstValue e s a0 0).bind fun q1 =>
 grd (q1 = 0) <|
 (W_isConstValue e s a1 0).bind fun q4 =>
 grd (q4 = 0) <|
 (W_isConstValue e s a0 1).bind fun q7 =>
 grd (q7 = 0) <|
 (W_isConstValue e s a1 1).bind fun q10 =>
 grd (q10 = 0) <|
 (W_isConstValue e s a0 (-1)).bind fun q13 =>
 grd (q13 = 0) <|
 (W_isConstValue e s a1 (-1)).bind fun q16 =>
 grd (q16 = 0) <|
 some (-1)
theorem Z_simplifyMul {e n a0 a1 s t} (h : own_Q e n s t) : own_RR Eq (f_simplifyMul s a0 a1) (W_simplifyMul e t a0 a1) := by
 unfold f_simplifyMul W_simplifyMul
 refine RR_bindV (Z_isConstValue h) fun v1 => ?_
 refine gL ?_
 refine RR_bindV (Z_isConstValue h) fun v4 => ?_
 refine gL ?_
 refine RR_bindV (Z_isConstValue h) fun v7 => ?_
 refine gL ?_
 refine RR_bindV (Z_isConstValue h) fun v10 => ?_
 refine gL ?_
 refine RR_bindV (Z_isConstValue h) fun v13 => ?_
 refine gL ?_
 refine RR_bindV (Z_isConstValue h) fun v16 => ?_
 refine gL ?_
 exact RR_some rfl
def W_simplify (e : own_V) (n : Nat) (a0 a1 a2 : Int32) (s : own_T) : Option (Int32 × own_T) :=
 if a0 = 4 then
  (W_simplifyAdd e n a1 a2 s).bind fun q2 =>
  some (q2.1, q2.2)
 else
  if a0 = 5 then
   (W_simplifySub e n a1 a2 s).bind fun q5 =>
   some (q5.1, q5.2)
  else
   grd (a0 = 6) <|
   (W_simplifyMul e s a1 a2).bind fun q8 =>
   some (q8, s)
theorem Z_simplify {e n a0 a1 a2 s t} (h : own_Q e n s t) : own_RR (own_QP e n) (f_simplify n a0 a1 a2 s) (W_simplify e n a0 a1 a2 t) := by
 unfold f_simplify W_simplify
 refine RR_ite ?_ ?_
 · refine bdP (Z_simplifyAdd h) fun v2 s2 t2 h2 => ?_
   try dsimp only
   exact RR_some ⟨rfl, h2⟩
 · refine RR_ite ?_ ?_
   · refine bdP (Z_simplifySub h) fun v5 s5 t5 h5 => ?_
     try dsimp only
     exact RR_some ⟨rfl, h5⟩
   · refine gL ?_
     refine RR_bindV (Z_simplifyMul h) fun v8 => ?_
     exact RR_some ⟨rfl, h⟩
def W_isCommutative (e : own_V) (s : own_T) (a0 : Int32) : Option Int32 :=
 if a0 = 4 then
  some 1
 else
  if a0 = 6 then
   some 1
  else
   if a0 = 7 then none else
   if a0 = 8 then none else
   if a0 = 9 then none else
   some 0
theorem Z_isCommutative {e n a0 s t} (h : own_Q e n s t) : own_RR Eq (f_isCommutative s a0) (W_isCommutative e t a0) := by
 unfold f_isCommutative W_isCommutative
 refine RR_ite ?_ ?_
 · exact RR_some rfl
 · refine RR_ite ?_ ?_
   · exact RR_some rfl
   · refine gR ?_
     refine gR ?_
     refine gR ?_
     exact RR_some rfl
def W_emitBin (e : own_V) (n : Nat) (a0 a1 a2 : Int32) (s : own_T) : Option (Int32 × own_T) :=
  if a0 = 1 then none else
  bnd (own_fndT s a0 a1 a2 (ix (rI s 39))) fun v1 =>
  if v1 < 0 then
    (W_emit e a0 a1 a2 s).bind fun q4 =>
    ((W_rankOf e q4.2 a1).bind fun q6 => (W_rankOf e q4.2 a2).bind fun q8 => some (if q8 < q6 then q6 else q8)).bind fun q5 =>
    grd (inb q4.1 1056) <|
    bnd (pA q4.2 10 (ix q4.1) q5) fun s7 =>
    (W_ins a0 a1 a2 q4.1 s7).bind fun q8 =>
    some (q4.1, q8)
  else
    some (v1, s)
theorem Z_emitBin {e n a0 a1 a2 s t} (h : own_Q e n s t) : own_RR (own_QP e n) (f_emitBin n a0 a1 a2 s) (W_emitBin e n a0 a1 a2 t) := by
  obtain ⟨hh, u, h1, h2⟩ := h
  obtain ⟨m, rfl⟩ : ∃ m, n = m + 100 := ⟨n - 100, by omega⟩
  refine own_viaP hh (r_emitBin a0 a1 a2 h1) ?_
  unfold g_emitBin W_emitBin
  rw [own_fndTE h2, h2.1 39]
  refine gR (RR_bndV fun v1 => RR_ite ?_ (RR_some ⟨rfl, h2⟩))
  refine TT_bindP (ZT_emit h2) fun v4 s4 t4 h4 => ?_
  refine RR_bindV (RR_bindV (ZT_rankOf h4) fun v6 => RR_bindV (ZT_rankOf h4) fun v8 => RR_some rfl) fun v5 => ?_
  exact RR_grd (TT_bndS (TT_A h4 10 _ _) fun s7 t7 h7 => TT_bindS (ZT_ins h7) fun s8 t8 h8 => RR_some ⟨rfl, h8⟩)
def W_makeBin_86 (e : own_V) (n : Nat) (x1 x2 x3 : Int32) (s : own_T) : Option (Int32 × own_T) :=
 (W_emitBin e n x1 x2 x3 s).bind fun q1 =>
 some (q1.1, q1.2)
theorem Z_makeBin_86 {e n x1 x2 x3 s t} (h : own_Q e n s t) : own_RR (own_QP e n) (f_makeBin_86 n x1 x2 x3 s) (W_makeBin_86 e n x1 x2 x3 t) := by
 unfold f_makeBin_86 W_makeBin_86
 refine bdP (Z_emitBin h) fun v1 s1 t1 h1 => ?_
 try dsimp only
 exact RR_some ⟨rfl, h1⟩
def W_makeBin_48 (e : own_V) (n : Nat) (x1 x2 x3 : Int32) (s : own_T) : Option (Int32 × own_T) :=
 (W_simplify e n x1 x2 x3 s).bind fun q1 =>
 grd (q1.1 < 0) <|
 (W_isCommutative e q1.2 x1).bind fun q4 =>
 if q4 = 0 then
  W_makeBin_86 e n x1 x2 x3 q1.2
 else
  if x3 < x2 then
   (W_emitBin e n x1 x3 x2 q1.2).bind fun q8 =>
   some (q8.1, q8.2)
  else
   W_makeBin_86 e n x1 x2 x3 q1.2
theorem Z_makeBin_48 {e n x1 x2 x3 s t} (h : own_Q e n s t) : own_RR (own_QP e n) (f_makeBin_48 n x1 x2 x3 s) (W_makeBin_48 e n x1 x2 x3 t) := by
 unfold f_makeBin_48 W_makeBin_48
 refine bdP (Z_simplify h) fun v1 s1 t1 h1 => ?_
 try dsimp only
 refine gL ?_
 refine RR_bindV (Z_isCommutative h1) fun v4 => ?_
 refine RR_ite ?_ ?_
 · exact Z_makeBin_86 h1
 · refine RR_ite ?_ ?_
   · refine bdP (Z_emitBin h1) fun v8 s8 t8 h8 => ?_
     try dsimp only
     exact RR_some ⟨rfl, h8⟩
   · exact Z_makeBin_86 h1
def W_makeBin (e : own_V) (n : Nat) (a0 a1 a2 : Int32) (s : own_T) : Option (Int32 × own_T) :=
 (W_isConst e s a1).bind fun q1 =>
 if q1 = 0 then
  W_makeBin_48 e n a0 a1 a2 s
 else
  (W_isConst e s a2).bind fun q4 =>
  grd (q4 = 0) <|
  W_makeBin_48 e n a0 a1 a2 s
theorem Z_makeBin {e n a0 a1 a2 s t} (h : own_Q e n s t) : own_RR (own_QP e n) (f_makeBin n a0 a1 a2 s) (W_makeBin e n a0 a1 a2 t) := by
 unfold f_makeBin W_makeBin
 refine RR_bindV (Z_isConst h) fun v1 => ?_
 refine RR_ite ?_ ?_
 · exact Z_makeBin_48 h
 · refine RR_bindV (Z_isConst h) fun v4 => ?_
   refine gL ?_
   exact Z_makeBin_48 h
def W_sumStep_26 (e : own_V) (n : Nat) (x1 x2 z0 : Int32) (s : own_T) : Option (Int32 × own_T) :=
 (W_makeBin e n z0 x1 x2 s).bind fun q1 =>
 some (q1.1, q1.2)
theorem Z_sumStep_26 {e n x1 x2 z0 s t} (h : own_Q e n s t) : own_RR (own_QP e n) (f_sumStep_26 n x1 x2 z0 s) (W_sumStep_26 e n x1 x2 z0 t) := by
 unfold f_sumStep_26 W_sumStep_26
 refine bdP (Z_makeBin h) fun v1 s1 t1 h1 => ?_
 try dsimp only
 exact RR_some ⟨rfl, h1⟩
def W_sumStep (e : own_V) (n : Nat) (a0 a1 a2 : Int32) (s : own_T) : Option (Int32 × own_T) :=
 if a0 < 0 then
  grd (0 < a2) <|
  some (a1, s)
 else
  if 0 < a2 then
   W_sumStep_26 e n a0 a1 4 s
  else
   W_sumStep_26 e n a0 a1 5 s
theorem Z_sumStep {e n a0 a1 a2 s t} (h : own_Q e n s t) : own_RR (own_QP e n) (f_sumStep n a0 a1 a2 s) (W_sumStep e n a0 a1 a2 t) := by
 unfold f_sumStep W_sumStep
 refine RR_ite ?_ ?_
 · refine gL ?_
   exact RR_some ⟨rfl, h⟩
 · refine RR_ite ?_ ?_
   · exact Z_sumStep_26 h
   · exact Z_sumStep_26 h
def W_rebuildSum_143 (e : own_V) (n : Nat) (x2 : Int32) (s : own_T) : Option (Int32 × own_T) :=
 if x2 < 0 then none else
 some (x2, s)
theorem Z_rebuildSum_143 {e n x2 s t} (h : own_Q e n s t) : own_RR (own_QP e n) (f_rebuildSum_143 n x2 s) (W_rebuildSum_143 e n x2 t) := by
 unfold f_rebuildSum_143 W_rebuildSum_143
 refine gR ?_
 exact RR_some ⟨rfl, h⟩
def W_rebuildSum_93 (e : own_V) (n : Nat) : Nat → Int32 → Int32 → own_T → Option (Int32 × own_T)
 | 0 => fun _ _ _ => none
 | k + 1 => fun x2 x3 s =>
  if x3 < (rI s 43) then
   grd (x3 < 16) <|
   grd (inb x3 16) <|
   if (rA s 24 (ix x3)) = 0 then
    (W_sumStep e n x2 (rA s 22 (ix x3)) (rA s 23 (ix x3)) s).bind fun q5 =>
    W_rebuildSum_93 e n k q5.1 (x3 + 1) q5.2
   else
    W_rebuildSum_93 e n k x2 (x3 + 1) s
  else
   W_rebuildSum_143 e n x2 s
theorem Z_rebuildSum_93 {e n} : ∀ k x2 x3 s t, own_Q e n s t → own_RR (own_QP e n) (f_rebuildSum_93 n k x2 x3 s) (W_rebuildSum_93 e n k x2 x3 t) := by
 intro k
 induction k with
 | zero => intros; exact RR_none
 | succ k ih =>
  intro x2 x3 s t h
  rewrite [f_rebuildSum_93, W_rebuildSum_93]
  dsimp only
  rw [q1 h 43, q2 h 22, q2 h 23, q2 h 24]
  refine RR_ite ?_ ?_
  · refine gL ?_
    refine RR_grd ?_
    refine RR_ite ?_ ?_
    · refine bdP (Z_sumStep h) fun v5 s5 t5 h5 => ?_
      try dsimp only
      exact ih _ _ _ _ h5
    · exact ih _ _ _ _ h
  · exact Z_rebuildSum_143 h
def W_rebuildSum_91 (e : own_V) (n : Nat) (x2 : Int32) (s : own_T) : Option (Int32 × own_T) :=
 W_rebuildSum_93 e n n x2 0 s
theorem Z_rebuildSum_91 {e n x2 s t} (h : own_Q e n s t) : own_RR (own_QP e n) (f_rebuildSum_91 n x2 s) (W_rebuildSum_91 e n x2 t) := by
 unfold f_rebuildSum_91 W_rebuildSum_91
 exact Z_rebuildSum_93 _ _ _ _ _ h
def W_rebuildSum_74 (e : own_V) (n : Nat) (b : Bool) (s : own_T) : Option (Int32 × own_T) :=
  (W_removeRepeats e n 0 s).bind fun q1 =>
  if b = true ∧ e.2.1 = false then
    (W_makeConst e n e.1 q1).bind fun q4 =>
    W_rebuildSum_91 e n q4.1 q4.2
  else
    W_rebuildSum_91 e n (-1) q1
theorem Z_rebuildSum_74 {e n b s t} (h : own_Q e n s t) : own_RR (own_QP e n) (f_rebuildSum_74 n (if b = true then e.1 else 0) s) (W_rebuildSum_74 e n b t) := by
  unfold f_rebuildSum_74 W_rebuildSum_74
  refine bdS (Z_removeRepeats h) fun s1 t1 h1 => ?_
  have big : own_RR (own_QP e n) ((f_makeConst n e.1 s1).bind fun q4 => f_rebuildSum_91 n q4.1 q4.2) ((W_makeConst e n e.1 t1).bind fun q4 => W_rebuildSum_91 e n q4.1 q4.2) := bdP (Z_makeConst h1) fun v4 s4 t4 h4 => Z_rebuildSum_91 h4
  cases b with
  | false => rw [if_neg (by decide : ¬ (false = true)), if_pos rfl, if_neg (fun z : false = true ∧ e.2.1 = false => absurd z.1 (by decide))]; exact Z_rebuildSum_91 h1
  | true =>
    rw [if_pos (rfl : true = true)]
    by_cases q : e.1 = 0
    · rw [if_pos q, if_neg (fun z : true = true ∧ e.2.1 = false => by
        have := z.2
        rw [h.1.2.1, decide_eq_true q] at this
        exact absurd this (by decide))]
      exact Z_rebuildSum_91 h1
    · rw [if_neg q, if_pos (show true = true ∧ e.2.1 = false from ⟨rfl, by rw [h.1.2.1]; exact decide_eq_false q⟩)]; exact big
def W_rebuildSum_4 (e : own_V) (n : Nat) : Nat → Bool → Int32 → own_T → Option (Int32 × own_T)
  | 0 => fun _ _ _ => none
  | k + 1 => fun b x2 s =>
    if x2 < (rI s 43) then
      grd (x2 < 16) <|
      grd (inb x2 16) <|
      (W_isConst e s (rA s 22 (ix x2))).bind fun q4 =>
      if q4 = 0 then
        W_rebuildSum_4 e n k b (x2 + 1) s
      else
        if (rA s 22 (ix x2)) < 32 then none else
        if b = true then none else
        grd (0 < (rA s 23 (ix x2))) <|
        bnd (pA s 24 (ix x2) (1 &&& 1)) fun s2 =>
        W_rebuildSum_4 e n k true (x2 + 1) s2
    else
      W_rebuildSum_74 e n b s
theorem Z_rebuildSum_4 {e n} : ∀ k b x2 s t, own_Q e n s t → own_RR (own_QP e n) (f_rebuildSum_4 n k (if b = true then e.1 else 0) x2 s) (W_rebuildSum_4 e n k b x2 t) := by
  intro k
  induction k with
  | zero => intros; exact RR_none
  | succ k ih =>
    intro b x2 s t h
    rewrite [f_rebuildSum_4, W_rebuildSum_4]
    dsimp only
    rw [q1 h 43, q2 h 22, q2 h 23]
    refine RR_ite (gL (RR_grdH fun hb => ?_)) (Z_rebuildSum_74 h)
    intro w k'
    cases e1 : W_isConst e t (rA t 22 (ix x2)) with
    | none => rw [e1] at k'; cases k'
    | some q =>
      rw [e1, Option.bind_some] at k'
      obtain ⟨q', e2, e3⟩ := Z_isConst h q e1
      subst e3
      rw [e2, Option.bind_some]
      by_cases q0 : q' = 0
      · rw [if_pos q0] at k' ⊢; exact ih _ _ _ _ h _ k'
      · rw [if_neg q0] at k' ⊢
        by_cases q1' : rA t 22 (ix x2) < 32
        · rw [if_pos q1'] at k'; cases k'
        · rw [if_neg q1'] at k'
          obtain ⟨e3, e4, -⟩ := own_isC h e2 q0 q1'
          rw [e4, Option.bind_some]
          by_cases q2' : b = true
          · rw [if_pos q2'] at k'; cases k'
          · rw [if_neg q2'] at k'
            obtain ⟨q3, k'⟩ := grd_some k'
            rw [if_pos q3, if_neg q2', Int32.zero_add]
            unfold f_rebuildSum_60
            rw [grd_pos hb, bnd_eq]
            rw [bnd_eq] at k'
            exact ih true _ _ _ (qA h 24) _ k'
def W_rebuildSum (e : own_V) (n : Nat) (s : own_T) : Option (Int32 × own_T) := W_rebuildSum_4 e n n false 0 s
theorem Z_rebuildSum {e n s t} (h : own_Q e n s t) : own_RR (own_QP e n) (f_rebuildSum n s) (W_rebuildSum e n t) := Z_rebuildSum_4 n false 0 s t h
def W_identityOf (e : own_V) (s : own_T) (a0 : Int32) : Option Int32 :=
 grd (a0 = 6) <|
 some 1
theorem Z_identityOf {e n a0 s t} (h : own_Q e n s t) : own_RR Eq (f_identityOf s a0) (W_identityOf e t a0) := by
 unfold f_identityOf W_identityOf
 refine gL ?_
 exact RR_some rfl
def W_absorberOf (e : own_V) (s : own_T) (a0 : Int32) : Option Int32 :=
 if a0 = 8 then none else
 grd (a0 = 6) <|
 some 0
theorem Z_absorberOf {e n a0 s t} (h : own_Q e n s t) : own_RR Eq (f_absorberOf s a0) (W_absorberOf e t a0) := by
 unfold f_absorberOf W_absorberOf
 refine gR ?_
 refine gL ?_
 exact RR_some rfl
def W_rebuildChain_205 (e : own_V) (n : Nat) (k147 : Int32 → Int32 → Int32 → Int32 → own_T → Option (Int32 × own_T)) (x1 x2 x5 z0 : Int32) (s : own_T) : Option (Int32 × own_T) :=
 k147 x1 x2 z0 (x5 + 1) s
theorem Z_rebuildChain_205 {e n k147 k147' x1 x2 x5 z0 s t} (hk147 : ∀ z0 z1 z2 z3 s t, own_Q e n s t → own_RR (own_QP e n) (k147 z0 z1 z2 z3 s) (k147' z0 z1 z2 z3 t)) (h : own_Q e n s t) : own_RR (own_QP e n) (f_rebuildChain_205 n k147 x1 x2 x5 z0 s) (W_rebuildChain_205 e n k147' x1 x2 x5 z0 t) := by
 unfold f_rebuildChain_205 W_rebuildChain_205
 exact hk147 _ _ _ _ _ _ h
def W_rebuildChain_213 (e : own_V) (n : Nat) (x2 x4 : Int32) (s : own_T) : Option (Int32 × own_T) :=
 if x4 < 0 then none else
 some (x4, s)
theorem Z_rebuildChain_213 {e n x2 x4 s t} (h : own_Q e n s t) : own_RR (own_QP e n) (f_rebuildChain_213 n x2 x4 s) (W_rebuildChain_213 e n x2 x4 t) := by
 unfold f_rebuildChain_213 W_rebuildChain_213
 refine gR ?_
 exact RR_some ⟨rfl, h⟩
def W_rebuildChain_147 (e : own_V) (n : Nat) : Nat → Int32 → Int32 → Int32 → Int32 → own_T → Option (Int32 × own_T)
 | 0 => fun _ _ _ _ _ => none
 | k + 1 => fun x1 x2 x4 x5 s =>
  if x5 < (rI s 43) then
   grd (x5 < 16) <|
   grd (inb x5 16) <|
   grd ((rA s 24 (ix x5)) = 0) <|
   if x4 < 0 then
    W_rebuildChain_205 e n (W_rebuildChain_147 e n k) x1 x2 x5 (rA s 22 (ix x5)) s
   else
    (W_makeBin e n x1 x4 (rA s 22 (ix x5)) s).bind fun q6 =>
    W_rebuildChain_205 e n (W_rebuildChain_147 e n k) x1 x2 x5 q6.1 q6.2
  else
   W_rebuildChain_213 e n x2 x4 s
theorem Z_rebuildChain_147 {e n} : ∀ k x1 x2 x4 x5 s t, own_Q e n s t → own_RR (own_QP e n) (f_rebuildChain_147 n k x1 x2 x4 x5 s) (W_rebuildChain_147 e n k x1 x2 x4 x5 t) := by
 intro k
 induction k with
 | zero => intros; exact RR_none
 | succ k ih =>
  intro x1 x2 x4 x5 s t h
  rewrite [f_rebuildChain_147, W_rebuildChain_147]
  dsimp only
  rw [q1 h 43, q2 h 22, q2 h 24]
  refine RR_ite ?_ ?_
  · refine gL ?_
    refine RR_grd ?_
    refine gL ?_
    refine RR_ite ?_ ?_
    · exact Z_rebuildChain_205 ih h
    · refine bdP (Z_makeBin h) fun v6 s6 t6 h6 => ?_
      try dsimp only
      exact Z_rebuildChain_205 ih h6
  · exact Z_rebuildChain_213 h
def W_rebuildChain_144 (e : own_V) (n : Nat) (x1 x2 x4 : Int32) (s : own_T) : Option (Int32 × own_T) :=
 W_rebuildChain_147 e n n x1 x2 x4 0 s
theorem Z_rebuildChain_144 {e n x1 x2 x4 s t} (h : own_Q e n s t) : own_RR (own_QP e n) (f_rebuildChain_144 n x1 x2 x4 s) (W_rebuildChain_144 e n x1 x2 x4 t) := by
 unfold f_rebuildChain_144 W_rebuildChain_144
 exact Z_rebuildChain_147 _ _ _ _ _ _ _ h
def W_rebuildChain_129 (e : own_V) (n : Nat) (x1 x2 x3 : Int32) (s : own_T) : Option (Int32 × own_T) :=
 grd (x3 = x2) <|
 W_rebuildChain_144 e n x1 x2 (-1) s
theorem Z_rebuildChain_129 {e n x1 x2 x3 s t} (h : own_Q e n s t) : own_RR (own_QP e n) (f_rebuildChain_129 n x1 x2 x3 s) (W_rebuildChain_129 e n x1 x2 x3 t) := by
 unfold f_rebuildChain_129 W_rebuildChain_129
 refine gL ?_
 exact Z_rebuildChain_144 h
def W_rebuildChain_98 (e : own_V) (n : Nat) (x1 x2 x3 : Int32) (s : own_T) : Option (Int32 × own_T) :=
 if x1 = 9 then none else
 if x1 = 7 then none else
 if x1 = 8 then none else
 W_rebuildChain_129 e n x1 x2 x3 s
theorem Z_rebuildChain_98 {e n x1 x2 x3 s t} (h : own_Q e n s t) : own_RR (own_QP e n) (f_rebuildChain_98 n x1 x2 x3 s) (W_rebuildChain_98 e n x1 x2 x3 t) := by
 unfold f_rebuildChain_98 W_rebuildChain_98
 refine gR ?_
 refine gR ?_
 refine gR ?_
 exact Z_rebuildChain_129 h
def W_rebuildChain_77 (e : own_V) (n : Nat) (x1 x2 x3 : Int32) (s : own_T) : Option (Int32 × own_T) :=
 if x1 = 9 then none else
 (W_absorberOf e s x1).bind fun q2 =>
 if x3 = q2 then none else
 W_rebuildChain_98 e n x1 x2 x3 s
theorem Z_rebuildChain_77 {e n x1 x2 x3 s t} (h : own_Q e n s t) : own_RR (own_QP e n) (f_rebuildChain_77 n x1 x2 x3 s) (W_rebuildChain_77 e n x1 x2 x3 t) := by
 unfold f_rebuildChain_77 W_rebuildChain_77
 refine gR ?_
 refine RR_bindV (Z_absorberOf h) fun v2 => ?_
 refine gR ?_
 exact Z_rebuildChain_98 h
def W_rebuildChain_11 (e : own_V) (n : Nat) : Nat → Int32 → Int32 → Int32 → Int32 → own_T → Option (Int32 × own_T)
 | 0 => fun _ _ _ _ _ => none
 | k + 1 => fun x1 x2 x3 x4 s =>
  if x4 < (rI s 43) then
   grd (x4 < 16) <|
   grd (inb x4 16) <|
   (W_isConst e s (rA s 22 (ix x4))).bind fun q4 =>
   grd (q4 = 0) <|
   W_rebuildChain_11 e n k x1 x2 x3 (x4 + 1) s
  else
   W_rebuildChain_77 e n x1 x2 x3 s
theorem Z_rebuildChain_11 {e n} : ∀ k x1 x2 x3 x4 s t, own_Q e n s t → own_RR (own_QP e n) (f_rebuildChain_11 n k x1 x2 x3 x4 s) (W_rebuildChain_11 e n k x1 x2 x3 x4 t) := by
 intro k
 induction k with
 | zero => intros; exact RR_none
 | succ k ih =>
  intro x1 x2 x3 x4 s t h
  rewrite [f_rebuildChain_11, W_rebuildChain_11]
  dsimp only
  rw [q1 h 43, q2 h 22]
  refine RR_ite ?_ ?_
  · refine gL ?_
    refine RR_grd ?_
    refine RR_bindV (Z_isConst h) fun v4 => ?_
    refine gL ?_
    exact ih _ _ _ _ _ _ h
  · exact Z_rebuildChain_77 h
def W_rebuildChain (e : own_V) (n : Nat) (a0 : Int32) (s : own_T) : Option (Int32 × own_T) :=
 (W_identityOf e s a0).bind fun q1 =>
 W_rebuildChain_11 e n n a0 q1 q1 0 s
theorem Z_rebuildChain {e n a0 s t} (h : own_Q e n s t) : own_RR (own_QP e n) (f_rebuildChain n a0 s) (W_rebuildChain e n a0 t) := by
 unfold f_rebuildChain W_rebuildChain
 refine RR_bindV (Z_identityOf h) fun v1 => ?_
 exact Z_rebuildChain_11 _ _ _ _ _ _ _ h
def W_buildValue_101 (e : own_V) (n : Nat) (x4 : Int32) (s : own_T) : Option (Int32 × own_T) :=
 (W_sortLeaves e n s).bind fun q1 =>
 if x4 = 4 then
  (W_rebuildSum e n q1).bind fun q4 =>
  some (q4.1, q4.2)
 else
  (W_rebuildChain e n x4 q1).bind fun q6 =>
  some (q6.1, q6.2)
theorem Z_buildValue_101 {e n x4 s t} (h : own_Q e n s t) : own_RR (own_QP e n) (f_buildValue_101 n x4 s) (W_buildValue_101 e n x4 t) := by
 unfold f_buildValue_101 W_buildValue_101
 refine bdS (Z_sortLeaves h) fun s1 t1 h1 => ?_
 refine RR_ite ?_ ?_
 · refine bdP (Z_rebuildSum h1) fun v4 s4 t4 h4 => ?_
   try dsimp only
   exact RR_some ⟨rfl, h4⟩
 · refine bdP (Z_rebuildChain h1) fun v6 s6 t6 h6 => ?_
   try dsimp only
   exact RR_some ⟨rfl, h6⟩
def W_buildValue (e : own_V) (n : Nat) (a0 : Int32) (s : own_T) : Option (Int32 × own_T) :=
 grd (inb a0 32) <|
 if (rA s 0 (ix a0)) = 1 then
  (W_makeConst e n (rA s 1 (ix a0)) s).bind fun q3 =>
  some (q3.1, q3.2)
 else
  if (rA s 0 (ix a0)) = 2 then
   (W_makeLeaf e n 2 ((rA s 1 (ix a0)) &&& 7) 0 1 s).bind fun q6 =>
   some (q6.1, q6.2)
  else
   if (rA s 0 (ix a0)) = 3 then
    bnd ((2 + ((rI s 42) * 64)) + a0) fun v9 =>
    grd (inb ((rA s 1 (ix a0)) &&& 3) 4) <|
    (W_makeLeaf e n 3 ((rA s 1 (ix a0)) &&& 3) (rA s 19 (ix ((rA s 1 (ix a0)) &&& 3))) v9 s).bind fun q11 =>
    some (q11.1, q11.2)
   else
    (W_familyOf e s (rA s 0 (ix a0))).bind fun q13 =>
    (W_flatten e n a0 q13 s).bind fun q15 =>
    if q15.1 = 0 then none else
    W_buildValue_101 e n q13 q15.2
theorem Z_buildValue {e n a0 s t} (h : own_Q e n s t) : own_RR (own_QP e n) (f_buildValue n a0 s) (W_buildValue e n a0 t) := by
 unfold f_buildValue W_buildValue
 rw [q1 h 42, q2 h 0, q2 h 1, q2 h 19]
 refine RR_grd ?_
 refine RR_ite ?_ ?_
 · refine bdP (Z_makeConst h) fun v3 s3 t3 h3 => ?_
   try dsimp only
   exact RR_some ⟨rfl, h3⟩
 · refine RR_ite ?_ ?_
   · refine bdP (Z_makeLeaf h) fun v6 s6 t6 h6 => ?_
     try dsimp only
     exact RR_some ⟨rfl, h6⟩
   · refine RR_ite ?_ ?_
     · refine RR_bndV fun v9 => ?_
       refine RR_grd ?_
       refine bdP (Z_makeLeaf h) fun v11 s11 t11 h11 => ?_
       try dsimp only
       exact RR_some ⟨rfl, h11⟩
     · refine RR_bindV (Z_familyOf h) fun v13 => ?_
       refine bdP (Z_flatten h) fun v15 s15 t15 h15 => ?_
       try dsimp only
       refine gR ?_
       exact Z_buildValue_101 h15
def W_translate (e : own_V) (n : Nat) (a0 : Int32) (s : own_T) : Option own_T :=
 grd (inb a0 32) <|
 if (rA s 0 (ix a0)) = 13 then
  (W_enterLoop e n a0 s).bind fun q3 =>
  some q3
 else
  if (rA s 0 (ix a0)) = 14 then
   (W_leaveLoop e n s).bind fun q6 =>
   some q6
  else
   if (rA s 0 (ix a0)) = 11 then
    (W_translateSet e a0 s).bind fun q9 =>
    some q9
   else
    if (rA s 0 (ix a0)) = 12 then
     (W_mapAt e s (rA s 1 (ix a0))).bind fun q12 =>
     (W_emit e 12 q12 0 s).bind fun q14 =>
     some q14.2
    else
     (W_buildValue e n a0 s).bind fun q16 =>
     bnd (pA q16.2 17 (ix a0) q16.1) fun s18 =>
     some s18
theorem Z_translate {e n a0 s t} (h : own_Q e n s t) : own_RR (own_Q e n) (f_translate n a0 s) (W_translate e n a0 t) := by
 unfold f_translate W_translate
 rw [q2 h 0, q2 h 1]
 refine RR_grd ?_
 refine RR_ite ?_ ?_
 · refine bdS (Z_enterLoop h) fun s3 t3 h3 => ?_
   exact RR_some h3
 · refine RR_ite ?_ ?_
   · refine bdS (Z_leaveLoop h) fun s6 t6 h6 => ?_
     exact RR_some h6
   · refine RR_ite ?_ ?_
     · refine bdS (Z_translateSet h) fun s9 t9 h9 => ?_
       exact RR_some h9
     · refine RR_ite ?_ ?_
       · refine RR_bindV (Z_mapAt h) fun v12 => ?_
         refine bdP (Z_emit h (by decide)) fun v14 s14 t14 h14 => ?_
         try dsimp only
         exact RR_some h14
       · refine bdP (Z_buildValue h) fun v16 s16 t16 h16 => ?_
         try dsimp only
         refine bS (qA h16 17) fun s18 t18 h18 => ?_
         exact RR_some h18
def W_buildVersion1_93 (e : own_V) (n : Nat) (s : own_T) : Option own_T :=
 (W_undoHash e n 0 s).bind fun q1 =>
 grd ((rI q1 41) = 0) <|
 some q1
theorem Z_buildVersion1_93 {e n s t} (h : own_Q e n s t) : own_RR (own_Q e n) (f_buildVersion1_93 n s) (W_buildVersion1_93 e n t) := by
 unfold f_buildVersion1_93 W_buildVersion1_93
 refine bdS (Z_undoHash h) fun s1 t1 h1 => ?_
 rw [q1 h1 41]
 refine gL ?_
 exact RR_some h1
def W_buildVersion1_68 (e : own_V) (n : Nat) : Nat → Int32 → own_T → Option own_T
 | 0 => fun _ _ => none
 | k + 1 => fun x1 s =>
  if x1 < (rI s 35) then
   grd (x1 < 32) <|
   (W_translate e n x1 s).bind fun q3 =>
   W_buildVersion1_68 e n k (x1 + 1) q3
  else
   W_buildVersion1_93 e n s
theorem Z_buildVersion1_68 {e n} : ∀ k x1 s t, own_Q e n s t → own_RR (own_Q e n) (f_buildVersion1_68 n k x1 s) (W_buildVersion1_68 e n k x1 t) := by
 intro k
 induction k with
 | zero => intros; exact RR_none
 | succ k ih =>
  intro x1 s t h
  rewrite [f_buildVersion1_68, W_buildVersion1_68]
  dsimp only
  rw [q1 h 35]
  refine RR_ite ?_ ?_
  · refine gL ?_
    refine bdS (Z_translate h) fun s3 t3 h3 => ?_
    exact ih _ _ _ h3
  · exact Z_buildVersion1_93 h
def W_buildVersion1_42 (e : own_V) (n : Nat) : Nat → Int32 → own_T → Option own_T
 | 0 => fun _ _ => none
 | k + 1 => fun x1 s =>
  if x1 < 32 then
   grd (inb x1 32) <|
   bnd (pA s 17 (ix x1) 32) fun s3 =>
   W_buildVersion1_42 e n k (x1 + 1) s3
  else
   (W_computeSetMasks e n s).bind fun q4 =>
   W_buildVersion1_68 e n n 0 q4
theorem Z_buildVersion1_42 {e n} : ∀ k x1 s t, own_Q e n s t → own_RR (own_Q e n) (f_buildVersion1_42 n k x1 s) (W_buildVersion1_42 e n k x1 t) := by
 intro k
 induction k with
 | zero => intros; exact RR_none
 | succ k ih =>
  intro x1 s t h
  rewrite [f_buildVersion1_42, W_buildVersion1_42]
  dsimp only
  refine RR_ite ?_ ?_
  · refine RR_grd ?_
    refine bS (qA h 17) fun s3 t3 h3 => ?_
    exact ih _ _ _ h3
  · refine bdS (Z_computeSetMasks h) fun s4 t4 h4 => ?_
    exact Z_buildVersion1_68 _ _ _ _ h4
def W_buildVersion1_22 (e : own_V) (n : Nat) : Nat → Int32 → own_T → Option own_T
 | 0 => fun _ _ => none
 | k + 1 => fun x1 s =>
  if x1 < 4 then
   grd (inb x1 4) <|
   bnd (pA s 19 (ix x1) 0) fun s3 =>
   W_buildVersion1_22 e n k (x1 + 1) s3
  else
   W_buildVersion1_42 e n n 0 s
theorem Z_buildVersion1_22 {e n} : ∀ k x1 s t, own_Q e n s t → own_RR (own_Q e n) (f_buildVersion1_22 n k x1 s) (W_buildVersion1_22 e n k x1 t) := by
 intro k
 induction k with
 | zero => intros; exact RR_none
 | succ k ih =>
  intro x1 s t h
  rewrite [f_buildVersion1_22, W_buildVersion1_22]
  dsimp only
  refine RR_ite ?_ ?_
  · refine RR_grd ?_
    refine bS (qA h 19) fun s3 t3 h3 => ?_
    exact ih _ _ _ h3
  · exact Z_buildVersion1_42 _ _ _ _ h
def W_buildVersion1 (e : own_V) (n : Nat) (s : own_T) : Option own_T :=
 (W_undoHash e n 0 s).bind fun q1 =>
 bnd (pI q1 40 0) fun s3 =>
 bnd (pI s3 41 (0 &&& 1)) fun s4 =>
 bnd (pI s4 42 0) fun s5 =>
 W_buildVersion1_22 e n n 0 s5
theorem Z_buildVersion1 {e n s t} (h : own_Q e n s t) : own_RR (own_Q e n) (f_buildVersion1 n s) (W_buildVersion1 e n t) := by
 unfold f_buildVersion1 W_buildVersion1
 refine bdS (Z_undoHash h) fun s1 t1 h1 => ?_
 refine bS (qI h1 40) fun s3 t3 h3 => ?_
 refine bS (qI h3 41) fun s4 t4 h4 => ?_
 refine bS (qI h4 42) fun s5 t5 h5 => ?_
 exact Z_buildVersion1_22 _ _ _ _ h5
def W_compile (e : own_V) (n : Nat) (s : own_T) : Option (Int32 × own_T) :=
 if (rI s 35) = 0 then none else
 grd ((rI s 36) = 0) <|
 grd ((rI s 37) = 0) <|
 (W_buildVersion0 e n s).bind fun q4 =>
 (W_buildVersion1 e n q4).bind fun q6 =>
 bnd (pI q6 37 (1 &&& 1)) fun s8 =>
 some (0, s8)
theorem Z_compile {e n s t} (h : own_Q e n s t) : own_RR (own_QP e n) (f_compile n s) (W_compile e n t) := by
 unfold f_compile W_compile
 rw [q1 h 35, q1 h 36, q1 h 37]
 refine gR ?_
 refine gL ?_
 refine gL ?_
 refine bdS (Z_buildVersion0 h) fun s4 t4 h4 => ?_
 refine bdS (Z_buildVersion1 h4) fun s6 t6 h6 => ?_
 refine bS (qI h6 37) fun s8 t8 h8 => ?_
 exact RR_some ⟨rfl, h8⟩
def W_resetRun_72 (e : own_V) (n : Nat) : Nat → Int32 → Int32 → own_T → Option own_T
 | 0 => fun _ _ _ => none
 | k + 1 => fun x1 x4 s =>
  if x4 < 32 then
   grd (inb ((x1 * 32) + x4) 64) <|
   bnd (pA s 15 (ix ((x1 * 32) + x4)) 0) fun s3 =>
   W_resetRun_72 e n k x1 (x4 + 1) s3
  else
   some s
theorem Z_resetRun_72 {e n} : ∀ k x1 x4 s t, own_Q e n s t → own_RR (own_Q e n) (f_resetRun_72 n k x1 x4 s) (W_resetRun_72 e n k x1 x4 t) := by
 intro k
 induction k with
 | zero => intros; exact RR_none
 | succ k ih =>
  intro x1 x4 s t h
  rewrite [f_resetRun_72, W_resetRun_72]
  dsimp only
  refine RR_ite ?_ ?_
  · refine RR_grd ?_
    refine bS (qA h 15) fun s3 t3 h3 => ?_
    exact ih _ _ _ _ h3
  · exact RR_some h
def W_resetRun_42 (e : own_V) (n : Nat) : Nat → Int32 → Int32 → own_T → Option own_T
 | 0 => fun _ _ _ => none
 | k + 1 => fun x1 x4 s =>
  if x4 < 4 then
   grd (inb x4 4) <|
   bnd (pA s 13 (ix x4) 0) fun s3 =>
   W_resetRun_42 e n k x1 (x4 + 1) s3
  else
   grd (inb x1 2) <|
   bnd (pA s 14 (ix x1) 0) fun s5 =>
   W_resetRun_72 e n n x1 0 s5
theorem Z_resetRun_42 {e n} : ∀ k x1 x4 s t, own_Q e n s t → own_RR (own_Q e n) (f_resetRun_42 n k x1 x4 s) (W_resetRun_42 e n k x1 x4 t) := by
 intro k
 induction k with
 | zero => intros; exact RR_none
 | succ k ih =>
  intro x1 x4 s t h
  rewrite [f_resetRun_42, W_resetRun_42]
  dsimp only
  refine RR_ite ?_ ?_
  · refine RR_grd ?_
    refine bS (qA h 13) fun s3 t3 h3 => ?_
    exact ih _ _ _ _ h3
  · refine RR_grd ?_
    refine bS (qA h 14) fun s5 t5 h5 => ?_
    exact Z_resetRun_72 _ _ _ _ _ h5
def W_resetRun_39 (e : own_V) (n : Nat) (x1 : Int32) (s : own_T) : Option own_T :=
 W_resetRun_42 e n n x1 0 s
theorem Z_resetRun_39 {e n x1 s t} (h : own_Q e n s t) : own_RR (own_Q e n) (f_resetRun_39 n x1 s) (W_resetRun_39 e n x1 t) := by
 unfold f_resetRun_39 W_resetRun_39
 exact Z_resetRun_42 _ _ _ _ _ h
def W_resetRun_3 (e : own_V) (n : Nat) : Nat → Int32 → Int32 → Int32 → own_T → Option own_T
 | 0 => fun _ _ _ _ => none
 | k + 1 => fun x1 x3 x4 s =>
  if x4 < x3 then
   grd (x4 < 1056) <|
   grd (inb x4 1056) <|
   bnd (pA s 11 (ix x4) 0) fun s4 =>
   bnd (pA s4 12 (ix x4) 0) fun s5 =>
   W_resetRun_3 e n k x1 x3 (x4 + 1) s5
  else
   W_resetRun_39 e n x1 s
theorem Z_resetRun_3 {e n} : ∀ k x1 x3 x4 s t, own_Q e n s t → own_RR (own_Q e n) (f_resetRun_3 n k x1 x3 x4 s) (W_resetRun_3 e n k x1 x3 x4 t) := by
 intro k
 induction k with
 | zero => intros; exact RR_none
 | succ k ih =>
  intro x1 x3 x4 s t h
  rewrite [f_resetRun_3, W_resetRun_3]
  dsimp only
  refine RR_ite ?_ ?_
  · refine gL ?_
    refine RR_grd ?_
    refine bS (qA h 11) fun s4 t4 h4 => ?_
    refine bS (qA h4 12) fun s5 t5 h5 => ?_
    exact ih _ _ _ _ _ h5
  · exact Z_resetRun_39 h
def W_resetRun (e : own_V) (n : Nat) (a0 a1 a2 : Int32) (s : own_T) : Option own_T :=
 W_resetRun_3 e n n a0 a2 a1 s
theorem Z_resetRun {e n a0 a1 a2 s t} (h : own_Q e n s t) : own_RR (own_Q e n) (f_resetRun n a0 a1 a2 s) (W_resetRun e n a0 a1 a2 t) := by
 unfold f_resetRun W_resetRun
 exact Z_resetRun_3 _ _ _ _ _ _ h
def W_stepLoop (e : own_V) (a0 : Int32) (s : own_T) : Option (Int32 × own_T) :=
 grd (inb a0 1056) <|
 if 0 < (rA s 8 (ix a0)) then
  bnd (pA s 12 (ix a0) (rA s 8 (ix a0))) fun s3 =>
  some ((a0 + 1), s3)
 else
  grd (a0 < (rA s 9 (ix a0))) <|
  grd ((rA s 9 (ix a0)) < 1056) <|
  some (((rA s 9 (ix a0)) + 1), s)
theorem Z_stepLoop {e n a0 s t} (h : own_Q e n s t) : own_RR (own_QP e n) (f_stepLoop a0 s) (W_stepLoop e a0 t) := by
 unfold f_stepLoop W_stepLoop
 rw [q2 h 8, q2 h 9]
 refine RR_grd ?_
 refine RR_ite ?_ ?_
 · refine bS (qA h 12) fun s3 t3 h3 => ?_
   exact RR_some ⟨rfl, h3⟩
 · refine gL ?_
   refine gL ?_
   exact RR_some ⟨rfl, h⟩
def W_stepEnd (e : own_V) (a0 : Int32) (s : own_T) : Option (Int32 × own_T) :=
 grd (inb a0 1056) <|
 if (rA s 8 (ix a0)) < 0 then none else
 grd ((rA s 8 (ix a0)) < a0) <|
 grd (inb (rA s 8 (ix a0)) 1056) <|
 bnd (pA s 12 (ix (rA s 8 (ix a0))) ((rA s 12 (ix (rA s 8 (ix a0)))) - 1)) fun s5 =>
 if 0 < (rA s5 12 (ix (rA s 8 (ix a0)))) then
  some (((rA s 8 (ix a0)) + 1), s5)
 else
  some ((a0 + 1), s5)
theorem Z_stepEnd {e n a0 s t} (h : own_Q e n s t) : own_RR (own_QP e n) (f_stepEnd a0 s) (W_stepEnd e a0 t) := by
 unfold f_stepEnd W_stepEnd
 rw [q2 h 8, q2 h 12]
 refine RR_grd ?_
 refine gR ?_
 refine gL ?_
 refine RR_grd ?_
 refine bS (qA h 12) fun s5 t5 h5 => ?_
 rw [q2 h5 12]
 refine RR_ite ?_ ?_
 · exact RR_some ⟨rfl, h5⟩
 · exact RR_some ⟨rfl, h5⟩
def W_slotAt (e : own_V) (s : own_T) (a0 : Int32) : Option Int32 :=
 if a0 < 0 then none else
 grd (a0 < 1056) <|
 grd (inb a0 1056) <|
 some (rA s 11 (ix a0))
theorem Z_slotAt {e n a0 s t} (h : own_Q e n s t) : own_RR Eq (f_slotAt s a0) (W_slotAt e t a0) := by
 unfold f_slotAt W_slotAt
 rw [q2 h 11]
 refine gR ?_
 refine gL ?_
 refine RR_grd ?_
 exact RR_some rfl
def W_stepOut_37 (e : own_V) (x3 x4 : Int32) (s : own_T) : Option own_T :=
 grd (inb x3 2) <|
 bnd (pA s 14 (ix x3) (x4 + 1)) fun s2 =>
 some s2
theorem Z_stepOut_37 {e n x3 x4 s t} (h : own_Q e n s t) : own_RR (own_Q e n) (f_stepOut_37 x3 x4 s) (W_stepOut_37 e x3 x4 t) := by
 unfold f_stepOut_37 W_stepOut_37
 refine RR_grd ?_
 refine bS (qA h 14) fun s2 t2 h2 => ?_
 exact RR_some h2
def W_stepOut (e : own_V) (a0 a1 : Int32) (s : own_T) : Option own_T :=
 grd (inb (a0 &&& 1) 2) <|
 if (rA s 14 (ix (a0 &&& 1))) < 0 then none else
 grd ((rA s 14 (ix (a0 &&& 1))) < 32) <|
 grd (inb (((a0 &&& 1) * 32) + (rA s 14 (ix (a0 &&& 1)))) 64) <|
 bnd (pA s 15 (ix (((a0 &&& 1) * 32) + (rA s 14 (ix (a0 &&& 1))))) a1) fun s5 =>
 W_stepOut_37 e (a0 &&& 1) (rA s 14 (ix (a0 &&& 1))) s5
theorem Z_stepOut {e n a0 a1 s t} (h : own_Q e n s t) : own_RR (own_Q e n) (f_stepOut a0 a1 s) (W_stepOut e a0 a1 t) := by
 unfold f_stepOut W_stepOut
 rw [q2 h 14]
 refine RR_grd ?_
 refine gR ?_
 refine gL ?_
 refine RR_grd ?_
 refine bS (qA h 15) fun s5 t5 h5 => ?_
 exact Z_stepOut_37 h5
def W_fold (e : own_V) (s : own_T) (a0 a1 a2 : Int32) : Option Int32 :=
  if a0 = 4 then some (e.2.2 4 a1 a2) else if a0 = 5 then some (e.2.2 5 a1 a2) else grd (a0 = 6) <| some (e.2.2 6 a1 a2)
theorem Z_fold {e n a0 a1 a2 s t} (h : own_Q e n s t) : own_RR Eq (f_fold s a0 a1 a2) (W_fold e t a0 a1 a2) := by
  unfold f_fold W_fold
  rw [h.1.2.2]
  exact RR_ite (RR_some rfl) (RR_ite (RR_some rfl) (gL (RR_some rfl)))
def W_evalValue (e : own_V) (s : own_T) (a0 : Int32) : Option Int32 :=
 grd (inb a0 1056) <|
 if (rA s 7 (ix a0)) = 1 then
  some (rA s 8 (ix a0))
 else
  if (rA s 7 (ix a0)) = 2 then
   grd (inb ((rA s 8 (ix a0)) &&& 7) 8) <|
   some (rA s 6 (ix ((rA s 8 (ix a0)) &&& 7)))
  else
   if (rA s 7 (ix a0)) = 3 then
    grd (inb ((rA s 8 (ix a0)) &&& 3) 4) <|
    some (rA s 13 (ix ((rA s 8 (ix a0)) &&& 3)))
   else
    (W_slotAt e s (rA s 8 (ix a0))).bind fun q7 =>
    if (rA s 7 (ix a0)) = 10 then none else
    (W_slotAt e s (rA s 9 (ix a0))).bind fun q10 =>
    (W_fold e s (rA s 7 (ix a0)) q7 q10).bind fun q12 =>
    some q12
theorem Z_evalValue {e n a0 s t} (h : own_Q e n s t) : own_RR Eq (f_evalValue s a0) (W_evalValue e t a0) := by
 unfold f_evalValue W_evalValue
 rw [q2 h 6, q2 h 7, q2 h 8, q2 h 9, q2 h 13]
 refine RR_grd ?_
 refine RR_ite ?_ ?_
 · exact RR_some rfl
 · refine RR_ite ?_ ?_
   · refine RR_grd ?_
     exact RR_some rfl
   · refine RR_ite ?_ ?_
     · refine RR_grd ?_
       exact RR_some rfl
     · refine RR_bindV (Z_slotAt h) fun v7 => ?_
       refine gR ?_
       refine RR_bindV (Z_slotAt h) fun v10 => ?_
       refine RR_bindV (Z_fold h) fun v12 => ?_
       exact RR_some rfl
def W_step (e : own_V) (a0 a1 : Int32) (s : own_T) : Option (Int32 × own_T) :=
 if a1 < 0 then none else
 grd (a1 < 1056) <|
 grd (inb a1 1056) <|
 if (rA s 7 (ix a1)) = 13 then
  (W_stepLoop e a1 s).bind fun q5 =>
  some (q5.1, q5.2)
 else
  if (rA s 7 (ix a1)) = 14 then
   (W_stepEnd e a1 s).bind fun q8 =>
   some (q8.1, q8.2)
  else
   if (rA s 7 (ix a1)) = 11 then
    (W_slotAt e s (rA s 9 (ix a1))).bind fun q11 =>
    grd (inb ((rA s 8 (ix a1)) &&& 3) 4) <|
    bnd (pA s 13 (ix ((rA s 8 (ix a1)) &&& 3)) q11) fun s14 =>
    some ((a1 + 1), s14)
   else
    if (rA s 7 (ix a1)) = 12 then
     (W_slotAt e s (rA s 8 (ix a1))).bind fun q16 =>
     (W_stepOut e a0 q16 s).bind fun q18 =>
     some ((a1 + 1), q18)
    else
     (W_evalValue e s a1).bind fun q20 =>
     bnd (pA s 11 (ix a1) q20) fun s22 =>
     some ((a1 + 1), s22)
theorem Z_step {e n a0 a1 s t} (h : own_Q e n s t) : own_RR (own_QP e n) (f_step a0 a1 s) (W_step e a0 a1 t) := by
 unfold f_step W_step
 rw [q2 h 7, q2 h 8, q2 h 9]
 refine gR ?_
 refine gL ?_
 refine RR_grd ?_
 refine RR_ite ?_ ?_
 · refine bdP (Z_stepLoop h) fun v5 s5 t5 h5 => ?_
   try dsimp only
   exact RR_some ⟨rfl, h5⟩
 · refine RR_ite ?_ ?_
   · refine bdP (Z_stepEnd h) fun v8 s8 t8 h8 => ?_
     try dsimp only
     exact RR_some ⟨rfl, h8⟩
   · refine RR_ite ?_ ?_
     · refine RR_bindV (Z_slotAt h) fun v11 => ?_
       refine RR_grd ?_
       refine bS (qA h 13) fun s14 t14 h14 => ?_
       exact RR_some ⟨rfl, h14⟩
     · refine RR_ite ?_ ?_
       · refine RR_bindV (Z_slotAt h) fun v16 => ?_
         refine bdS (Z_stepOut h) fun s18 t18 h18 => ?_
         exact RR_some ⟨rfl, h18⟩
       · refine RR_bindV (Z_evalValue h) fun v20 => ?_
         refine bS (qA h 11) fun s22 t22 h22 => ?_
         exact RR_some ⟨rfl, h22⟩
def W_execute_98 (e : own_V) (n : Nat) : Nat → Int32 → Int32 → own_T → Option own_T
 | 0 => fun _ _ _ => none
 | k + 1 => fun x2 x7 s =>
  if x7 < 4 then
   grd (inb x7 4) <|
   grd (inb ((x2 * 4) + x7) 8) <|
   bnd (pA s 16 (ix ((x2 * 4) + x7)) (rA s 13 (ix x7))) fun s4 =>
   W_execute_98 e n k x2 (x7 + 1) s4
  else
   some s
theorem Z_execute_98 {e n} : ∀ k x2 x7 s t, own_Q e n s t → own_RR (own_Q e n) (f_execute_98 n k x2 x7 s) (W_execute_98 e n k x2 x7 t) := by
 intro k
 induction k with
 | zero => intros; exact RR_none
 | succ k ih =>
  intro x2 x7 s t h
  rewrite [f_execute_98, W_execute_98]
  dsimp only
  rw [q2 h 13]
  refine RR_ite ?_ ?_
  · refine RR_grd ?_
    refine RR_grd ?_
    refine bS (qA h 16) fun s4 t4 h4 => ?_
    exact ih _ _ _ _ h4
  · exact RR_some h
def W_execute_95 (e : own_V) (n : Nat) (x2 : Int32) (s : own_T) : Option own_T :=
 W_execute_98 e n n x2 0 s
theorem Z_execute_95 {e n x2 s t} (h : own_Q e n s t) : own_RR (own_Q e n) (f_execute_95 n x2 s) (W_execute_95 e n x2 t) := by
 unfold f_execute_95 W_execute_95
 exact Z_execute_98 _ _ _ _ _ h
def W_execute_65 (e : own_V) (n : Nat) : Nat → Int32 → Int32 → Int32 → Int32 → own_T → Option own_T
 | 0 => fun _ _ _ _ _ => none
 | k + 1 => fun x2 x5 x6 x7 s =>
  grd (x7 < 4000000) <|
  if x6 < x5 then
   (W_step e x2 x6 s).bind fun q3 =>
   W_execute_65 e n k x2 x5 q3.1 (x7 + 1) q3.2
  else
   W_execute_95 e n x2 s
theorem Z_execute_65 {e n} : ∀ k x2 x5 x6 x7 s t, own_Q e n s t → own_RR (own_Q e n) (f_execute_65 n k x2 x5 x6 x7 s) (W_execute_65 e n k x2 x5 x6 x7 t) := by
 intro k
 induction k with
 | zero => intros; exact RR_none
 | succ k ih =>
  intro x2 x5 x6 x7 s t h
  rewrite [f_execute_65, W_execute_65]
  dsimp only
  refine gL ?_
  refine RR_ite ?_ ?_
  · refine bdP (Z_step h) fun v3 s3 t3 h3 => ?_
    try dsimp only
    exact ih _ _ _ _ _ _ h3
  · exact Z_execute_95 h
def W_execute_51 (e : own_V) (n : Nat) (x2 x3 x5 : Int32) (s : own_T) : Option own_T :=
 (W_resetRun e n x2 x3 x5 s).bind fun q1 =>
 W_execute_65 e n n x2 x5 x3 0 q1
theorem Z_execute_51 {e n x2 x3 x5 s t} (h : own_Q e n s t) : own_RR (own_Q e n) (f_execute_51 n x2 x3 x5 s) (W_execute_51 e n x2 x3 x5 t) := by
 unfold f_execute_51 W_execute_51
 refine bdS (Z_resetRun h) fun s1 t1 h1 => ?_
 exact Z_execute_65 _ _ _ _ _ _ _ h1
def W_execute_30 (e : own_V) (n : Nat) (x2 x3 z0 : Int32) (s : own_T) : Option own_T :=
 if 1056 < (x3 + z0) then none else
 W_execute_51 e n x2 x3 (x3 + z0) s
theorem Z_execute_30 {e n x2 x3 z0 s t} (h : own_Q e n s t) : own_RR (own_Q e n) (f_execute_30 n x2 x3 z0 s) (W_execute_30 e n x2 x3 z0 t) := by
 unfold f_execute_30 W_execute_30
 refine gR ?_
 exact Z_execute_51 h
def W_execute_14 (e : own_V) (n : Nat) (x2 z0 : Int32) (s : own_T) : Option own_T :=
 if x2 = 0 then
  W_execute_30 e n x2 z0 (rI s 38) s
 else
  W_execute_30 e n x2 z0 (rI s 40) s
theorem Z_execute_14 {e n x2 z0 s t} (h : own_Q e n s t) : own_RR (own_Q e n) (f_execute_14 n x2 z0 s) (W_execute_14 e n x2 z0 t) := by
 unfold f_execute_14 W_execute_14
 rw [q1 h 38, q1 h 40]
 refine RR_ite ?_ ?_
 · exact Z_execute_30 h
 · exact Z_execute_30 h
def W_execute (e : own_V) (n : Nat) (a0 : Int32) (s : own_T) : Option own_T :=
 if (a0 &&& 1) = 0 then
  W_execute_14 e n (a0 &&& 1) 0 s
 else
  W_execute_14 e n (a0 &&& 1) 32 s
theorem Z_execute {e n a0 s t} (h : own_Q e n s t) : own_RR (own_Q e n) (f_execute n a0 s) (W_execute e n a0 t) := by
 unfold f_execute W_execute
 refine RR_ite ?_ ?_
 · exact Z_execute_14 h
 · exact Z_execute_14 h
def W_run (e : own_V) (n : Nat) (s : own_T) : Option (Int32 × own_T) :=
 if (rI s 37) = 0 then none else
 (W_execute e n 0 s).bind fun q2 =>
 (W_execute e n 1 q2).bind fun q4 =>
 some (0, q4)
theorem Z_run {e n s t} (h : own_Q e n s t) : own_RR (own_QP e n) (f_run n s) (W_run e n t) := by
 unfold f_run W_run
 rw [q1 h 37]
 refine gR ?_
 refine bdS (Z_execute h) fun s2 t2 h2 => ?_
 refine bdS (Z_execute h2) fun s4 t4 h4 => ?_
 exact RR_some ⟨rfl, h4⟩
def W_addL (e : own_V) (n : Nat) (a1 : Int32) (s : own_T) : Option (Int32 × own_T) :=
  grd (rI s 35 < rI s 33) <|
  (W_operandsOk e n s 13 a1 0).bind fun q7 =>
  if q7 = 0 then none else
  grd (rI s 36 < 3) <|
  W_add_69 e n 13 a1 0 s
theorem Z_addL {e n a1 s t} (hx : ¬ a1 < 0 ∧ ¬ 7 < a1) (h : own_Q e n s t) : own_RR (own_QP e n) (f_add n 13 a1 0 s) (W_addL e n a1 t) := by
  unfold f_add W_addL f_argumentOk
  rw [q1 h 33, q1 h 35, q1 h 36]
  refine gL ?_
  rw [if_neg (by decide), if_neg (by decide), if_neg (by decide), if_pos rfl, if_neg hx.1, if_neg hx.2, Option.bind_some, if_neg (by decide)]
  refine RR_bindV (Z_operandsOk h) fun v7 => gR ?_
  rw [if_pos rfl]
  exact gL (Z_add_69 h)
/-- what y answers, x goes on with -/
def own_RK {β : Type} (e : own_V) (n : Nat) (K : Int32 → St → Option β) (x : Option β) (y : Option (Int32 × own_T)) : Prop := ∀ v t, y = some (v, t) → ∃ s, own_Q e n s t ∧ x = K v s
section
variable {e : own_V} {n : Nat} {β : Type} {K : Int32 → St → Option β}
theorem kP {x : Option (Int32 × St)} {y : Option (Int32 × own_T)} {f : Int32 × St → Option β} {g : Int32 × own_T → Option (Int32 × own_T)} (h : own_RR (own_QP e n) x y) (k : ∀ v a b, own_Q e n a b → own_RK e n K (f (v, a)) (g (v, b))) : own_RK e n K (x.bind f) (y.bind g) := fun v t z => by
  cases q : y with
  | none => rw [q] at z; cases z
  | some b =>
    obtain ⟨b1, b2⟩ := b
    rw [q, Option.bind_some] at z
    obtain ⟨⟨a1, a2⟩, ha, p1, p2⟩ := h _ q
    have p1 : a1 = b1 := p1
    subst p1
    rw [ha, Option.bind_some]
    exact k a1 a2 b2 p2 v t z
theorem kI {p : Prop} [Decidable p] {x x2 : Option β} {y : Option (Int32 × own_T)} (h : own_RK e n K x y) : own_RK e n K (if p then x else x2) (grd p y) := fun v t z => by
  obtain ⟨q, z⟩ := grd_some z
  rw [if_pos q]; exact h v t z
theorem kS {v : Int32} {s : St} {t : own_T} (h : own_Q e n s t) : own_RK e n K (K v s) (some (v, t)) := fun v2 t2 z => by
  cases z; exact ⟨s, h, rfl⟩
end
def W_law_386 (e : own_V) (n : Nat) (x0 x1 x2 x4 z0 z1 : Int32) (s : own_T) : Option (Int32 × own_T) :=
 (W_run e n s).bind fun q1 =>
 grd (q1.1 = 0) <|
 some ((z1 &&& z0), q1.2)
theorem Z_law_386 {e n x0 x1 x2 x4 z0 z1 s t} (hx : ¬ x4 < 0 ∧ ¬ 7 < x4) (h : own_Q e n s t) : own_RK e n (fun v s => f_law_404 n x0 x1 x2 x4 1 v s) (f_law_386 n x0 x1 x2 x4 z0 z1 s) (W_law_386 e n x0 x1 x2 x4 z0 z1 t) := by
 unfold f_law_386 W_law_386
 refine kP (Z_run h) fun v1 s1 t1 h1 => ?_
 try dsimp only
 refine kI ?_
 exact kS h1
def W_law_368 (e : own_V) (n : Nat) (x0 x1 x2 x4 z0 z1 : Int32) (s : own_T) : Option (Int32 × own_T) :=
 (W_compile e n s).bind fun q1 =>
 grd (q1.1 = 0) <|
 some ((z1 &&& z0), q1.2)
theorem Z_law_368 {e n x0 x1 x2 x4 z0 z1 s t} (hx : ¬ x4 < 0 ∧ ¬ 7 < x4) (h : own_Q e n s t) : own_RK e n (fun v s => f_law_386 n x0 x1 x2 x4 1 v s) (f_law_368 n x0 x1 x2 x4 z0 z1 s) (W_law_368 e n x0 x1 x2 x4 z0 z1 t) := by
 unfold f_law_368 W_law_368
 refine kP (Z_compile h) fun v1 s1 t1 h1 => ?_
 try dsimp only
 refine kI ?_
 exact kS h1
def W_law_343 (e : own_V) (n : Nat) (x0 x1 x2 x4 z0 z1 : Int32) (s : own_T) : Option (Int32 × own_T) :=
 (W_add e n 12 12 0 s).bind fun q1 =>
 grd (q1.1 = 13) <|
 W_law_368 e n x0 x1 x2 x4 1 (z1 &&& z0) q1.2
theorem Z_law_343 {e n x0 x1 x2 x4 z0 z1 s t} (hx : ¬ x4 < 0 ∧ ¬ 7 < x4) (h : own_Q e n s t) : own_RK e n (fun v s => f_law_386 n x0 x1 x2 x4 1 v s) (f_law_343 n x0 x1 x2 x4 z0 z1 s) (W_law_343 e n x0 x1 x2 x4 z0 z1 t) := by
 unfold f_law_343 W_law_343
 refine kP (Z_add h) fun v1 s1 t1 h1 => ?_
 try dsimp only
 refine kI ?_
 exact Z_law_368 hx h1
def W_law_318 (e : own_V) (n : Nat) (x0 x1 x2 x4 z0 z1 : Int32) (s : own_T) : Option (Int32 × own_T) :=
 (W_add e n 6 11 1 s).bind fun q1 =>
 grd (q1.1 = 12) <|
 W_law_343 e n x0 x1 x2 x4 1 (z1 &&& z0) q1.2
theorem Z_law_318 {e n x0 x1 x2 x4 z0 z1 s t} (hx : ¬ x4 < 0 ∧ ¬ 7 < x4) (h : own_Q e n s t) : own_RK e n (fun v s => f_law_386 n x0 x1 x2 x4 1 v s) (f_law_318 n x0 x1 x2 x4 z0 z1 s) (W_law_318 e n x0 x1 x2 x4 z0 z1 t) := by
 unfold f_law_318 W_law_318
 refine kP (Z_add h) fun v1 s1 t1 h1 => ?_
 try dsimp only
 refine kI ?_
 exact Z_law_343 hx h1
def W_law_295 (e : own_V) (n : Nat) (x0 x1 x2 x4 z0 z1 : Int32) (s : own_T) : Option (Int32 × own_T) :=
 (W_add e n 3 0 0 s).bind fun q1 =>
 grd (q1.1 = 11) <|
 W_law_318 e n x0 x1 x2 x4 1 (z1 &&& z0) q1.2
theorem Z_law_295 {e n x0 x1 x2 x4 z0 z1 s t} (hx : ¬ x4 < 0 ∧ ¬ 7 < x4) (h : own_Q e n s t) : own_RK e n (fun v s => f_law_386 n x0 x1 x2 x4 1 v s) (f_law_295 n x0 x1 x2 x4 z0 z1 s) (W_law_295 e n x0 x1 x2 x4 z0 z1 t) := by
 unfold f_law_295 W_law_295
 refine kP (Z_add h) fun v1 s1 t1 h1 => ?_
 try dsimp only
 refine kI ?_
 exact Z_law_318 hx h1
def W_law_271 (e : own_V) (n : Nat) (x0 x1 x2 x4 z0 z1 : Int32) (s : own_T) : Option (Int32 × own_T) :=
 (W_add e n 14 0 0 s).bind fun q1 =>
 grd (q1.1 = 10) <|
 W_law_295 e n x0 x1 x2 x4 1 (z1 &&& z0) q1.2
theorem Z_law_271 {e n x0 x1 x2 x4 z0 z1 s t} (hx : ¬ x4 < 0 ∧ ¬ 7 < x4) (h : own_Q e n s t) : own_RK e n (fun v s => f_law_386 n x0 x1 x2 x4 1 v s) (f_law_271 n x0 x1 x2 x4 z0 z1 s) (W_law_271 e n x0 x1 x2 x4 z0 z1 t) := by
 unfold f_law_271 W_law_271
 refine kP (Z_add h) fun v1 s1 t1 h1 => ?_
 try dsimp only
 refine kI ?_
 exact Z_law_295 hx h1
def W_law_246 (e : own_V) (n : Nat) (x0 x1 x2 x4 z0 z1 : Int32) (s : own_T) : Option (Int32 × own_T) :=
 (W_add e n 12 7 0 s).bind fun q1 =>
 grd (q1.1 = 9) <|
 W_law_271 e n x0 x1 x2 x4 1 (z1 &&& z0) q1.2
theorem Z_law_246 {e n x0 x1 x2 x4 z0 z1 s t} (hx : ¬ x4 < 0 ∧ ¬ 7 < x4) (h : own_Q e n s t) : own_RK e n (fun v s => f_law_386 n x0 x1 x2 x4 1 v s) (f_law_246 n x0 x1 x2 x4 z0 z1 s) (W_law_246 e n x0 x1 x2 x4 z0 z1 t) := by
 unfold f_law_246 W_law_246
 refine kP (Z_add h) fun v1 s1 t1 h1 => ?_
 try dsimp only
 refine kI ?_
 exact Z_law_271 hx h1
def W_law_221 (e : own_V) (n : Nat) (x0 x1 x2 x4 z0 z1 : Int32) (s : own_T) : Option (Int32 × own_T) :=
 (W_add e n 11 0 7 s).bind fun q1 =>
 grd (q1.1 = 8) <|
 W_law_246 e n x0 x1 x2 x4 1 (z1 &&& z0) q1.2
theorem Z_law_221 {e n x0 x1 x2 x4 z0 z1 s t} (hx : ¬ x4 < 0 ∧ ¬ 7 < x4) (h : own_Q e n s t) : own_RK e n (fun v s => f_law_386 n x0 x1 x2 x4 1 v s) (f_law_221 n x0 x1 x2 x4 z0 z1 s) (W_law_221 e n x0 x1 x2 x4 z0 z1 t) := by
 unfold f_law_221 W_law_221
 refine kP (Z_add h) fun v1 s1 t1 h1 => ?_
 try dsimp only
 refine kI ?_
 exact Z_law_246 hx h1
def W_law_197 (e : own_V) (n : Nat) (x0 x1 x2 x4 z0 z1 : Int32) (s : own_T) : Option (Int32 × own_T) :=
 (W_add e n 4 6 2 s).bind fun q1 =>
 grd (q1.1 = 7) <|
 W_law_221 e n x0 x1 x2 x4 1 (z1 &&& z0) q1.2
theorem Z_law_197 {e n x0 x1 x2 x4 z0 z1 s t} (hx : ¬ x4 < 0 ∧ ¬ 7 < x4) (h : own_Q e n s t) : own_RK e n (fun v s => f_law_386 n x0 x1 x2 x4 1 v s) (f_law_197 n x0 x1 x2 x4 z0 z1 s) (W_law_197 e n x0 x1 x2 x4 z0 z1 t) := by
 unfold f_law_197 W_law_197
 refine kP (Z_add h) fun v1 s1 t1 h1 => ?_
 try dsimp only
 refine kI ?_
 exact Z_law_221 hx h1
def W_law_174 (e : own_V) (n : Nat) (x0 x1 x2 x4 z0 z1 : Int32) (s : own_T) : Option (Int32 × own_T) :=
 (W_add e n 5 5 1 s).bind fun q1 =>
 grd (q1.1 = 6) <|
 W_law_197 e n x0 x1 x2 x4 1 (z1 &&& z0) q1.2
theorem Z_law_174 {e n x0 x1 x2 x4 z0 z1 s t} (hx : ¬ x4 < 0 ∧ ¬ 7 < x4) (h : own_Q e n s t) : own_RK e n (fun v s => f_law_386 n x0 x1 x2 x4 1 v s) (f_law_174 n x0 x1 x2 x4 z0 z1 s) (W_law_174 e n x0 x1 x2 x4 z0 z1 t) := by
 unfold f_law_174 W_law_174
 refine kP (Z_add h) fun v1 s1 t1 h1 => ?_
 try dsimp only
 refine kI ?_
 exact Z_law_197 hx h1
def W_law_152 (e : own_V) (n : Nat) (x0 x1 x2 x4 z0 z1 : Int32) (s : own_T) : Option (Int32 × own_T) :=
 (W_add e n 4 0 4 s).bind fun q1 =>
 grd (q1.1 = 5) <|
 W_law_174 e n x0 x1 x2 x4 1 (z1 &&& z0) q1.2
theorem Z_law_152 {e n x0 x1 x2 x4 z0 z1 s t} (hx : ¬ x4 < 0 ∧ ¬ 7 < x4) (h : own_Q e n s t) : own_RK e n (fun v s => f_law_386 n x0 x1 x2 x4 1 v s) (f_law_152 n x0 x1 x2 x4 z0 z1 s) (W_law_152 e n x0 x1 x2 x4 z0 z1 t) := by
 unfold f_law_152 W_law_152
 refine kP (Z_add h) fun v1 s1 t1 h1 => ?_
 try dsimp only
 refine kI ?_
 exact Z_law_174 hx h1
def W_law_130 (e : own_V) (n : Nat) (x0 x1 x2 x4 z0 z1 : Int32) (s : own_T) : Option (Int32 × own_T) :=
 (W_add e n 3 0 0 s).bind fun q1 =>
 grd (q1.1 = 4) <|
 W_law_152 e n x0 x1 x2 x4 1 (z1 &&& z0) q1.2
theorem Z_law_130 {e n x0 x1 x2 x4 z0 z1 s t} (hx : ¬ x4 < 0 ∧ ¬ 7 < x4) (h : own_Q e n s t) : own_RK e n (fun v s => f_law_386 n x0 x1 x2 x4 1 v s) (f_law_130 n x0 x1 x2 x4 z0 z1 s) (W_law_130 e n x0 x1 x2 x4 z0 z1 t) := by
 unfold f_law_130 W_law_130
 refine kP (Z_add h) fun v1 s1 t1 h1 => ?_
 try dsimp only
 refine kI ?_
 exact Z_law_152 hx h1
def W_law_106 (e : own_V) (n : Nat) (x0 x1 x2 x4 z0 z1 : Int32) (s : own_T) : Option (Int32 × own_T) :=
 (W_addL e n x4 s).bind fun q1 =>
 grd (q1.1 = 3) <|
 W_law_130 e n x0 x1 x2 x4 1 (z1 &&& z0) q1.2
theorem Z_law_106 {e n x0 x1 x2 x4 z0 z1 s t} (hx : ¬ x4 < 0 ∧ ¬ 7 < x4) (h : own_Q e n s t) : own_RK e n (fun v s => f_law_386 n x0 x1 x2 x4 1 v s) (f_law_106 n x0 x1 x2 x4 z0 z1 s) (W_law_106 e n x0 x1 x2 x4 z0 z1 t) := by
 unfold f_law_106 W_law_106
 refine kP (Z_addL hx h) fun v1 s1 t1 h1 => ?_
 try dsimp only
 refine kI ?_
 exact Z_law_130 hx h1
def W_law_84 (e : own_V) (n : Nat) (x0 x1 x2 x4 z0 z1 : Int32) (s : own_T) : Option (Int32 × own_T) :=
 (W_add e n 1 x2 0 s).bind fun q1 =>
 grd (q1.1 = 2) <|
 W_law_106 e n x0 x1 x2 x4 1 (z1 &&& z0) q1.2
theorem Z_law_84 {e n x0 x1 x2 x4 z0 z1 s t} (hx : ¬ x4 < 0 ∧ ¬ 7 < x4) (h : own_Q e n s t) : own_RK e n (fun v s => f_law_386 n x0 x1 x2 x4 1 v s) (f_law_84 n x0 x1 x2 x4 z0 z1 s) (W_law_84 e n x0 x1 x2 x4 z0 z1 t) := by
 unfold f_law_84 W_law_84
 refine kP (Z_add h) fun v1 s1 t1 h1 => ?_
 try dsimp only
 refine kI ?_
 exact Z_law_106 hx h1
def W_law_62 (e : own_V) (n : Nat) (x0 x1 x2 x4 z0 z1 : Int32) (s : own_T) : Option (Int32 × own_T) :=
 (W_add e n 2 1 0 s).bind fun q1 =>
 grd (q1.1 = 1) <|
 W_law_84 e n x0 x1 x2 x4 1 (z1 &&& z0) q1.2
theorem Z_law_62 {e n x0 x1 x2 x4 z0 z1 s t} (hx : ¬ x4 < 0 ∧ ¬ 7 < x4) (h : own_Q e n s t) : own_RK e n (fun v s => f_law_386 n x0 x1 x2 x4 1 v s) (f_law_62 n x0 x1 x2 x4 z0 z1 s) (W_law_62 e n x0 x1 x2 x4 z0 z1 t) := by
 unfold f_law_62 W_law_62
 refine kP (Z_add h) fun v1 s1 t1 h1 => ?_
 try dsimp only
 refine kI ?_
 exact Z_law_84 hx h1
def W_law_15 (e : own_V) (n : Nat) (x0 x1 x2 x4 : Int32) (s : own_T) : Option (Int32 × own_T) :=
 (W_setInput e 0 x0 s).bind fun q1 =>
 (W_setInput e 1 x1 q1.2).bind fun q3 =>
 (W_add e n 2 0 0 q3.2).bind fun q5 =>
 grd (q5.1 = 0) <|
 W_law_62 e n x0 x1 x2 x4 1 ((1 &&& q1.1) &&& q3.1) q5.2
theorem Z_law_15 {e n x0 x1 x2 x4 s t} (hx : ¬ x4 < 0 ∧ ¬ 7 < x4) (h : own_Q e n s t) : own_RK e n (fun v s => f_law_386 n x0 x1 x2 x4 1 v s) (f_law_15 n x0 x1 x2 x4 s) (W_law_15 e n x0 x1 x2 x4 t) := by
 unfold f_law_15 W_law_15
 refine kP (Z_setInput h) fun v1 s1 t1 h1 => ?_
 try dsimp only
 refine kP (Z_setInput h1) fun v3 s3 t3 h3 => ?_
 try dsimp only
 refine kP (Z_add h3) fun v5 s5 t5 h5 => ?_
 try dsimp only
 refine kI ?_
 exact Z_law_62 hx h5

/-! ### the code and the runs, reckoned -/
def own_T0 : own_T := pI (pI ([], []) 33 32) 34 (-1)
def own_x (o : Nat → Int32 → Int32 → Int32) (a b c : Int32) : Nat → Int32
  | 0 => 0
  | i + 1 => o 4 (o 5 (o 4 a (own_x o a b c i)) b) c
def own_y (o : Nat → Int32 → Int32 → Int32) (d : Int32) : Nat → Int32
  | 0 => 0
  | i + 1 => o 4 (own_y o d i) d
def own_d (o : Nat → Int32 → Int32 → Int32) (cz : Bool) (a b c : Int32) : Int32 := if cz = true then o 5 a b else o 5 (o 4 a c) b
def own_e (o : Nat → Int32 → Int32 → Int32) (cz : Bool) (a b c : Int32) (M i : Nat) : Int32 :=
  if i < M then own_x o a b c (i + 1) else if i = M then o 6 (own_x o a b c M) b else if i < 32 then 0 else
  if i < 32 + M then own_y o (own_d o cz a b c) (i - 31) else if i = 32 + M then o 6 b (own_y o (own_d o cz a b c) M) else 0
def own_tab (f : Nat → Int32) : Nat → Nat → List Int32
  | 0, _ => []
  | k + 1, i => f i :: own_tab f k (i + 1)
theorem own_gt (f : Nat → Int32) : ∀ k i j, j < k → own_get (own_tab f k i) j = f (i + j) := by
  intro k
  induction k with
  | zero => intro i j h; omega
  | succ k ih =>
    intro i j h
    cases j with
    | zero => rfl
    | succ j =>
      show own_get (own_tab f k (i + 1)) j = _
      rw [ih (i + 1) j (by omega), show i + 1 + j = i + (j + 1) by omega]
def own_run (e : own_V) (n : Nat) (a b c m : Int32) (T : own_T) : Option (Int32 × List Int32 × List Int32 × Int32 × Int32) :=
  (W_law_386 e n a b c m 1 1 T).bind fun q => some (q.1, own_getL q.2.2 14, own_getL q.2.2 15, rA q.2 16 0, rA q.2 16 4)
def own_res (o : Nat → Int32 → Int32 → Int32) (cz : Bool) (a b c : Int32) (M : Nat) : Option (Int32 × List Int32 × List Int32 × Int32 × Int32) :=
  some (1, [Int32.ofNat (M + 1), Int32.ofNat (M + 1)], own_tab (own_e o cz a b c M) 64 0, own_x o a b c M, own_y o (own_d o cz a b c) M)

def own_T2f (a b c m : Int32) : own_T := ([0, 0, 0, 0, 0, 0, 0, 0, 0, 0, 0, 0, 0, 0, 0, 0, 0, 0, 0, 0, 0, 0, 0, 0, 0, 0, 0, 0, 0, 0, 0, 0, 0, 32, -1, 14, 0, 1, 14, 0, 17, 0, 0, 2, 0], [[2, 2, 1, 13, 3, 4, 5, 4, 11, 12, 14, 3, 6, 12], [0, 1, c, m, 0, 0, 5, 6, 0, 7, 0, 0, 11, 12], [0, 0, 0, 0, 0, 4, 1, 2, 7, 0, 0, 0, 1, 0], [-1, -1, -1, -1, 3, 3, 3, 3, 3, 3, 3, -1, -1, -1], [-1, -1, -1, 10, -1, -1, -1, -1, -1, -1, 3, -1, -1, -1], [3], [a, b], [2, 2, 1, 13, 3, 4, 5, 4, 11, 12, 14, 3, 6, 12, 0, 0, 0, 0, 0, 0, 0, 0, 0, 0, 0, 0, 0, 0, 0, 0, 0, 0, 2, 2, 1, 13, 3, 4, 5, 4, 4, 5, 4, 11, 12, 14, 3, 6, 12], [0, 1, c, m, 0, 0, 5, 6, 0, 7, 3, 0, 11, 12, 0, 0, 0, 0, 0, 0, 0, 0, 0, 0, 0, 0, 0, 0, 0, 0, 0, 0, 0, 1, c, m, 0, 32, 32, 36, 32, 40, 36, 0, 42, 35, 0, 33, 47], [0, 0, 0, 10, 0, 4, 1, 2, 7, 0, 0, 0, 1, 0, 0, 0, 0, 0, 0, 0, 0, 0, 0, 0, 0, 0, 0, 0, 0, 0, 0, 0, 0, 0, 0, 45, 0, 36, 33, 38, 34, 33, 41, 42, 0, 0, 0, 46, 0], [0, 0, 0, 0, 0, 0, 0, 0, 0, 0, 0, 0, 0, 0, 0, 0, 0, 0, 0, 0, 0, 0, 0, 0, 0, 0, 0, 0, 0, 0, 0, 0, 1, 1, 0, 0, 70, 70, 1, 70, 1, 1, 70, 0, 0, 0, 13, 13, 0], [], [], [], [], [], [], [32, 33, 34, 32, 36, 37, 39, 42, 32, 32, 32, 46, 47, 32, 32, 32, 32, 32, 32, 32, 32, 32, 32, 32, 32, 32, 32, 32, 32, 32, 32, 32], [0, 0, 0, 1, 0, 0, 0, 0, 0, 0, 0, 0, 0, 0], [2, 0, 0, 0], [35], [3], [33, 46, 33, 36], [1, 1, -1, 1], [0, 0, 0, 0], [1, 11, 4, 0], [1, 1, 1, 1], [2, 2, 1, 3, 6, 5, 4, 4, 5, 4], [0, 1, c, 0, 33, 32, 36, 32, 40, 36], [0, 0, 0, 2, 46, 33, 38, 34, 33, 41], [32, 33, 34, 46, 47, 38, 39, 40, 41, 42]])
set_option maxRecDepth 100000 in
set_option maxHeartbeats 4000000 in
theorem own_cf (o : Nat → Int32 → Int32 → Int32) (a b c m : Int32) : W_law_15 (c, false, o) 120 a b c m own_T0 = some (1, own_T2f a b c m) := by cbv
set_option maxRecDepth 100000 in
set_option maxHeartbeats 4000000 in
theorem own_f0 (o : Nat → Int32 → Int32 → Int32) (a b c : Int32) : own_run (c, false, o) 120 a b c 0 (own_T2f a b c 0) = own_res o false a b c 0 := by cbv
set_option maxRecDepth 100000 in
set_option maxHeartbeats 4000000 in
theorem own_f1 (o : Nat → Int32 → Int32 → Int32) (a b c : Int32) : own_run (c, false, o) 120 a b c 1 (own_T2f a b c 1) = own_res o false a b c 1 := by cbv
set_option maxRecDepth 100000 in
set_option maxHeartbeats 4000000 in
theorem own_f2 (o : Nat → Int32 → Int32 → Int32) (a b c : Int32) : own_run (c, false, o) 120 a b c 2 (own_T2f a b c 2) = own_res o false a b c 2 := by cbv
set_option maxRecDepth 100000 in
set_option maxHeartbeats 4000000 in
theorem own_f3 (o : Nat → Int32 → Int32 → Int32) (a b c : Int32) : own_run (c, false, o) 120 a b c 3 (own_T2f a b c 3) = own_res o false a b c 3 := by cbv
set_option maxRecDepth 100000 in
set_option maxHeartbeats 4000000 in
theorem own_f4 (o : Nat → Int32 → Int32 → Int32) (a b c : Int32) : own_run (c, false, o) 120 a b c 4 (own_T2f a b c 4) = own_res o false a b c 4 := by cbv
set_option maxRecDepth 100000 in
set_option maxHeartbeats 4000000 in
theorem own_f5 (o : Nat → Int32 → Int32 → Int32) (a b c : Int32) : own_run (c, false, o) 120 a b c 5 (own_T2f a b c 5) = own_res o false a b c 5 := by cbv
set_option maxRecDepth 100000 in
set_option maxHeartbeats 4000000 in
theorem own_f6 (o : Nat → Int32 → Int32 → Int32) (a b c : Int32) : own_run (c, false, o) 120 a b c 6 (own_T2f a b c 6) = own_res o false a b c 6 := by cbv
set_option maxRecDepth 100000 in
set_option maxHeartbeats 4000000 in
theorem own_f7 (o : Nat → Int32 → Int32 → Int32) (a b c : Int32) : own_run (c, false, o) 120 a b c 7 (own_T2f a b c 7) = own_res o false a b c 7 := by cbv
def own_T2t (a b c m : Int32) : own_T := ([0, 0, 0, 0, 0, 0, 0, 0, 0, 0, 0, 0, 0, 0, 0, 0, 0, 0, 0, 0, 0, 0, 0, 0, 0, 0, 0, 0, 0, 0, 0, 0, 0, 32, -1, 14, 0, 1, 14, 0, 14, 0, 0, 2, 0], [[2, 2, 1, 13, 3, 4, 5, 4, 11, 12, 14, 3, 6, 12], [0, 1, c, m, 0, 0, 5, 6, 0, 7, 0, 0, 11, 12], [0, 0, 0, 0, 0, 4, 1, 2, 7, 0, 0, 0, 1, 0], [-1, -1, -1, -1, 3, 3, 3, 3, 3, 3, 3, -1, -1, -1], [-1, -1, -1, 10, -1, -1, -1, -1, -1, -1, 3, -1, -1, -1], [3], [a, b], [2, 2, 1, 13, 3, 4, 5, 4, 11, 12, 14, 3, 6, 12, 0, 0, 0, 0, 0, 0, 0, 0, 0, 0, 0, 0, 0, 0, 0, 0, 0, 0, 2, 2, 1, 13, 3, 4, 5, 4, 11, 12, 14, 3, 6, 12], [0, 1, c, m, 0, 0, 5, 6, 0, 7, 3, 0, 11, 12, 0, 0, 0, 0, 0, 0, 0, 0, 0, 0, 0, 0, 0, 0, 0, 0, 0, 0, 0, 1, c, m, 0, 32, 32, 36, 0, 39, 35, 0, 33, 44], [0, 0, 0, 10, 0, 4, 1, 2, 7, 0, 0, 0, 1, 0, 0, 0, 0, 0, 0, 0, 0, 0, 0, 0, 0, 0, 0, 0, 0, 0, 0, 0, 0, 0, 0, 42, 0, 36, 33, 38, 39, 0, 0, 0, 43, 0], [0, 0, 0, 0, 0, 0, 0, 0, 0, 0, 0, 0, 0, 0, 0, 0, 0, 0, 0, 0, 0, 0, 0, 0, 0, 0, 0, 0, 0, 0, 0, 0, 1, 1, 0, 0, 70, 70, 1, 70, 0, 0, 0, 13, 13, 0], [], [], [], [], [], [], [32, 33, 34, 32, 36, 37, 39, 39, 32, 32, 32, 43, 44, 32, 32, 32, 32, 32, 32, 32, 32, 32, 32, 32, 32, 32, 32, 32, 32, 32, 32, 32], [0, 0, 0, 1, 0, 0, 0, 0, 0, 0, 0, 0, 0, 0], [2, 0, 0, 0], [35], [3], [33, 43, 33, 36], [1, 1, -1, 1], [0, 0, 0, 0], [1, 11, 4, 0], [1, 1, 1, 1], [2, 2, 1, 3, 6, 5, 4], [0, 1, c, 0, 33, 32, 36], [0, 0, 0, 2, 43, 33, 38], [32, 33, 34, 43, 44, 38, 39]])
set_option maxRecDepth 100000 in
set_option maxHeartbeats 4000000 in
theorem own_ct (o : Nat → Int32 → Int32 → Int32) (a b c m : Int32) : W_law_15 (c, true, o) 120 a b c m own_T0 = some (1, own_T2t a b c m) := by cbv
set_option maxRecDepth 100000 in
set_option maxHeartbeats 4000000 in
theorem own_t0 (o : Nat → Int32 → Int32 → Int32) (a b c : Int32) : own_run (c, true, o) 120 a b c 0 (own_T2t a b c 0) = own_res o true a b c 0 := by cbv
set_option maxRecDepth 100000 in
set_option maxHeartbeats 4000000 in
theorem own_t1 (o : Nat → Int32 → Int32 → Int32) (a b c : Int32) : own_run (c, true, o) 120 a b c 1 (own_T2t a b c 1) = own_res o true a b c 1 := by cbv
set_option maxRecDepth 100000 in
set_option maxHeartbeats 4000000 in
theorem own_t2 (o : Nat → Int32 → Int32 → Int32) (a b c : Int32) : own_run (c, true, o) 120 a b c 2 (own_T2t a b c 2) = own_res o true a b c 2 := by cbv
set_option maxRecDepth 100000 in
set_option maxHeartbeats 4000000 in
theorem own_t3 (o : Nat → Int32 → Int32 → Int32) (a b c : Int32) : own_run (c, true, o) 120 a b c 3 (own_T2t a b c 3) = own_res o true a b c 3 := by cbv
set_option maxRecDepth 100000 in
set_option maxHeartbeats 4000000 in
theorem own_t4 (o : Nat → Int32 → Int32 → Int32) (a b c : Int32) : own_run (c, true, o) 120 a b c 4 (own_T2t a b c 4) = own_res o true a b c 4 := by cbv
set_option maxRecDepth 100000 in
set_option maxHeartbeats 4000000 in
theorem own_t5 (o : Nat → Int32 → Int32 → Int32) (a b c : Int32) : own_run (c, true, o) 120 a b c 5 (own_T2t a b c 5) = own_res o true a b c 5 := by cbv
set_option maxRecDepth 100000 in
set_option maxHeartbeats 4000000 in
theorem own_t6 (o : Nat → Int32 → Int32 → Int32) (a b c : Int32) : own_run (c, true, o) 120 a b c 6 (own_T2t a b c 6) = own_res o true a b c 6 := by cbv
set_option maxRecDepth 100000 in
set_option maxHeartbeats 4000000 in
theorem own_t7 (o : Nat → Int32 → Int32 → Int32) (a b c : Int32) : own_run (c, true, o) 120 a b c 7 (own_T2t a b c 7) = own_res o true a b c 7 := by cbv
theorem own_all (o : Nat → Int32 → Int32 → Int32) (a b c : Int32) (cz : Bool) {M : Nat} (hM : M ≤ 7) : ∃ T, W_law_15 (c, cz, o) 120 a b c (Int32.ofNat M) own_T0 = some (1, T) ∧ own_run (c, cz, o) 120 a b c (Int32.ofNat M) T = own_res o cz a b c M := by
  have : M = 0 ∨ M = 1 ∨ M = 2 ∨ M = 3 ∨ M = 4 ∨ M = 5 ∨ M = 6 ∨ M = 7 := by omega
  cases cz with
  | false =>
    rcases this with rfl | rfl | rfl | rfl | rfl | rfl | rfl | rfl
    · exact ⟨_, own_cf o a b c 0, own_f0 o a b c⟩
    · exact ⟨_, own_cf o a b c 1, own_f1 o a b c⟩
    · exact ⟨_, own_cf o a b c 2, own_f2 o a b c⟩
    · exact ⟨_, own_cf o a b c 3, own_f3 o a b c⟩
    · exact ⟨_, own_cf o a b c 4, own_f4 o a b c⟩
    · exact ⟨_, own_cf o a b c 5, own_f5 o a b c⟩
    · exact ⟨_, own_cf o a b c 6, own_f6 o a b c⟩
    · exact ⟨_, own_cf o a b c 7, own_f7 o a b c⟩
  | true =>
    rcases this with rfl | rfl | rfl | rfl | rfl | rfl | rfl | rfl
    · exact ⟨_, own_ct o a b c 0, own_t0 o a b c⟩
    · exact ⟨_, own_ct o a b c 1, own_t1 o a b c⟩
    · exact ⟨_, own_ct o a b c 2, own_t2 o a b c⟩
    · exact ⟨_, own_ct o a b c 3, own_t3 o a b c⟩
    · exact ⟨_, own_ct o a b c 4, own_t4 o a b c⟩
    · exact ⟨_, own_ct o a b c 5, own_t5 o a b c⟩
    · exact ⟨_, own_ct o a b c 6, own_t6 o a b c⟩
    · exact ⟨_, own_ct o a b c 7, own_t7 o a b c⟩

/-! ### the law's checks -/
theorem own_out {s : St} {p q M i : Nat} (hp : p ≤ 1) (hq : q = p * 32 + i) (hM : M ≤ 7) (hc : s.2 14 p = Int32.ofNat (M + 1)) (hi : i ≤ M) : f_output s (Int32.ofNat p) (Int32.ofNat i) = some (s.2 15 q) := by
  have e : f_output_11 s (Int32.ofNat p) (Int32.ofNat i) = some (s.2 15 q) := by
    unfold f_output_11 f_output_27
    rw [grd_pos (inbN (by omega) (by omega)), ix_N (by omega), hc, if_neg (fun z => by
      rw [show (32 : Int32) = Int32.ofNat 32 from rfl, N_lt (by omega) (by omega)] at z; omega), if_neg (N_neg (by omega)), if_pos (ltN (by omega) (by omega)), show (32 : Int32) = Int32.ofNat 32 from rfl, N_mul, N_add, grd_pos (inbN (by omega) (by omega)), ix_N (by omega), hq]
  unfold f_output
  have : p = 0 ∨ p = 1 := by omega
  rcases this with rfl | rfl
  · rw [if_pos (by rfl : Int32.ofNat 0 = 0)]; exact e
  · rw [if_neg (by decide : ¬ Int32.ofNat 1 = 0), if_pos (by rfl : Int32.ofNat 1 = 1)]; exact e
theorem own_514 {n M : Nat} {s : St} {b d : Int32} (hM : M ≤ 7) (c0 : s.2 14 0 = Int32.ofNat (M + 1)) (c1 : s.2 14 1 = Int32.ofNat (M + 1)) (o0 : ∀ i, i < M → s.2 15 i = Int32.ofNat (i + 1) * d) (o1 : ∀ i, i < M → s.2 15 (32 + i) = Int32.ofNat (i + 1) * d)
    (f0 : s.2 15 M = Int32.ofNat M * d * b) (f1 : s.2 15 (32 + M) = Int32.ofNat M * d * b) :
    ∀ (m i k : Nat), i + m = 8 → m < k → f_law_514 n k b (Int32.ofNat M) 1 d (Int32.ofNat M * d) (Int32.ofNat i) s = some (1, s) := by
  intro m
  induction m with
  | zero =>
    intro i k hi hk
    obtain ⟨k, rfl⟩ : ∃ k', k = k' + 1 := ⟨k - 1, by omega⟩
    rw [u_law_514, if_neg (fun z => by rw [show (8 : Int32) = Int32.ofNat 8 from rfl, N_lt (by omega) (by omega)] at z; omega)]
    rw [show (0 : Int32) = Int32.ofNat 0 from rfl, own_out (p := 0) (q := M) (by omega) (by omega) hM c0 (by omega), Option.bind_some, f0, if_pos rfl]
    unfold f_law_615
    rw [show (1 : Int32) = Int32.ofNat 1 from rfl, own_out (p := 1) (q := 32 + M) (by omega) (by omega) hM c1 (by omega), Option.bind_some, f1, if_pos rfl]
    rfl
  | succ m ih =>
    intro i k hi hk
    obtain ⟨k, rfl⟩ : ∃ k', k = k' + 1 := ⟨k - 1, by omega⟩
    rw [u_law_514, if_pos (ltZ (z := 8) 8 rfl (by omega) (by omega))]
    by_cases q : i < M
    · rw [if_pos (ltN q (by omega)), N_succ, show (0 : Int32) = Int32.ofNat 0 from rfl, own_out (p := 0) (q := i) (by omega) (by omega) hM c0 (by omega), Option.bind_some, o0 i q, if_pos rfl]
      unfold f_law_557
      rw [show f_output s 1 (Int32.ofNat i) = f_output s (Int32.ofNat 1) (Int32.ofNat i) from rfl, own_out (p := 1) (q := 32 + i) (by omega) (by omega) hM c1 (by omega), Option.bind_some, o1 i q, if_pos rfl]
      unfold f_law_580
      rw [N_succ, show ((1 : Int32) &&& 1) &&& 1 = 1 from rfl]
      exact ih (i + 1) k (by omega) (by omega)
    · rw [if_neg (fun z => q ((N_lt (by omega) (by omega)).mp z)), N_succ]
      exact ih (i + 1) k (by omega) (by omega)
theorem own_fin {n M : Nat} {s : St} {a b c : Int32} (hn : 100 ≤ n) (hM : M ≤ 7) (c0 : s.2 14 0 = Int32.ofNat (M + 1)) (c1 : s.2 14 1 = Int32.ofNat (M + 1)) (v0 : s.2 16 0 = Int32.ofNat M * (a - b + c)) (v1 : s.2 16 4 = Int32.ofNat M * (a - b + c))
    (o0 : ∀ i, i < M → s.2 15 i = Int32.ofNat (i + 1) * (a - b + c)) (o1 : ∀ i, i < M → s.2 15 (32 + i) = Int32.ofNat (i + 1) * (a - b + c))
    (f0 : s.2 15 M = Int32.ofNat M * (a - b + c) * b) (f1 : s.2 15 (32 + M) = Int32.ofNat M * (a - b + c) * b) :
    f_law_404 n a b c (Int32.ofNat M) 1 1 s = some (1, s) := by
  have oc : ∀ p, p ≤ 1 → s.2 14 p = Int32.ofNat (M + 1) → f_outputCount s (Int32.ofNat p) = some (Int32.ofNat (M + 1)) := fun p hp h => by
    have e : f_outputCount_11 s (Int32.ofNat p) = some (Int32.ofNat (M + 1)) := by
      unfold f_outputCount_11
      rw [grd_pos (inbN (by omega) (by omega)), ix_N (by omega), h]
    unfold f_outputCount
    have : p = 0 ∨ p = 1 := by omega
    rcases this with rfl | rfl
    · rw [if_pos (by rfl : Int32.ofNat 0 = 0)]; exact e
    · rw [if_neg (by decide : ¬ Int32.ofNat 1 = 0), if_pos (by rfl : Int32.ofNat 1 = 1)]; exact e
  have a0 : f_variable s 0 0 = some (s.2 16 0) := rfl
  have a1 : f_variable s 1 0 = some (s.2 16 4) := rfl
  unfold f_law_404
  rw [bnd_eq, N_succ, show f_outputCount s 0 = f_outputCount s (Int32.ofNat 0) from rfl, oc 0 (by omega) c0, Option.bind_some, if_pos rfl]
  unfold f_law_441
  rw [N_succ, show f_outputCount s 1 = f_outputCount s (Int32.ofNat 1) from rfl, oc 1 (by omega) c1, Option.bind_some, if_pos rfl]
  unfold f_law_464
  rw [a0, Option.bind_some, v0, if_pos rfl]
  unfold f_law_486
  rw [a1, Option.bind_some, v1, if_pos rfl]
  unfold f_law_508
  rw [show ((((1 : Int32) &&& 1) &&& 1) &&& 1) &&& 1 = 1 from rfl, show (0 : Int32) = Int32.ofNat 0 from rfl]
  exact own_514 hM c0 c1 o0 o1 f0 f1 8 0 n (by omega) (by omega)
/-! ### the beginning -/
def own_S0 : St := setI (setI zeroS 33 32) 34 (-1)
theorem own_ctor : f_ctor 32 = some own_S0 := by
  unfold f_ctor f_ctor_274 f_ctor_285 f_ctor_294
  rw [if_neg (by decide), if_neg (by decide), bnd_eq, bnd_eq]; rfl
theorem own_R0 (c : Int32) : own_R c own_S0 own_S0 := by
  refine ⟨fun _ _ => rfl, fun _ _ => rfl, ⟨0, by omega, rfl, fun _ => 0, fun i h => by omega, fun x _ _ => rfl, fun i j h => by omega, fun i j h => by omega, fun i h => by omega⟩, fun i _ h => ?_⟩
  have h : (0 : Int32) = 1 := h
  exact absurd h (by decide)
theorem own_RT0 : own_RT own_S0 own_T0 := TT_I (TT_I ⟨fun j => rfl, fun j => rfl⟩ 33 32) 34 (-1)
theorem own_xE (a b c : Int32) (i : Nat) : own_x own_o a b c i = Int32.ofNat i * (a - b + c) := by
  induction i with
  | zero => exact (Int32.zero_mul).symm
  | succ i ih =>
    show a + own_x own_o a b c i - b + c = _
    rw [ih, ← N_succ]
    generalize Int32.ofNat i = n
    grind
theorem own_yE (d : Int32) (i : Nat) : own_y own_o d i = Int32.ofNat i * d := by
  induction i with
  | zero => exact (Int32.zero_mul).symm
  | succ i ih =>
    show own_y own_o d i + d = _
    rw [ih, ← N_succ]
    generalize Int32.ofNat i = n
    grind
theorem own_dE {a b c : Int32} {cz : Bool} (hz : cz = decide (c = 0)) : own_d own_o cz a b c = a - b + c := by
  unfold own_d
  by_cases q : c = 0
  · rw [hz, if_pos (decide_eq_true q), q]
    show a - b = a - b + 0
    grind
  · rw [hz, if_neg (fun z => q (of_decide_eq_true z))]
    show a + c - b = a - b + c
    grind
theorem own_main {n : Nat} (hn : 100 ≤ n) {a b c : Int32} {cz : Bool} (hz : cz = decide (c = 0)) {M : Nat} (hM : M ≤ 7) {T : own_T} (e1 : W_law_15 (c, cz, own_o) n a b c (Int32.ofNat M) own_T0 = some (1, T)) (e2 : own_run (c, cz, own_o) n a b c (Int32.ofNat M) T = own_res own_o cz a b c M) : ∃ w, f_law_15 n a b c (Int32.ofNat M) own_S0 = some (1, w) := by
  have hx : ¬ Int32.ofNat M < 0 ∧ ¬ 7 < Int32.ofNat M := ⟨N_neg (by omega), fun z => by rw [show (7 : Int32) = Int32.ofNat 7 from rfl, N_lt (by omega) (by omega)] at z; omega⟩
  have Q0 : own_Q (c, cz, own_o) n own_S0 own_T0 := ⟨⟨hn, hz, rfl⟩, own_S0, own_R0 c, own_RT0⟩
  obtain ⟨s2, Q2, f2⟩ := Z_law_15 (x0 := a) (x1 := b) (x2 := c) hx Q0 _ _ e1
  have f2 : f_law_15 n a b c (Int32.ofNat M) own_S0 = f_law_386 n a b c (Int32.ofNat M) 1 1 s2 := f2
  unfold own_run own_res at e2
  cases e3 : W_law_386 (c, cz, own_o) n a b c (Int32.ofNat M) 1 1 T with
  | none => rw [e3] at e2; cases e2
  | some q =>
    rw [e3, Option.bind_some] at e2
    have e2 := Option.some.inj e2
    obtain ⟨v, T3⟩ := q
    obtain ⟨s3, Q3, f3⟩ := Z_law_386 (x0 := a) (x1 := b) (x2 := c) (z0 := 1) (z1 := 1) hx Q2 v T3 e3
    have f3 : f_law_386 n a b c (Int32.ofNat M) 1 1 s2 = f_law_404 n a b c (Int32.ofNat M) 1 v s3 := f3
    have i1 : v = 1 := congrArg Prod.fst e2
    have i2 : own_getL T3.2 14 = [Int32.ofNat (M + 1), Int32.ofNat (M + 1)] := congrArg (fun z => z.2.1) e2
    have i3 : own_getL T3.2 15 = own_tab (own_e own_o cz a b c M) 64 0 := congrArg (fun z => z.2.2.1) e2
    have i4 : rA T3 16 0 = own_x own_o a b c M := congrArg (fun z => z.2.2.2.1) e2
    have i5 : rA T3 16 4 = own_y own_o (own_d own_o cz a b c) M := congrArg (fun z => z.2.2.2.2) e2
    have g14 : ∀ i, s3.2 14 i = own_get [Int32.ofNat (M + 1), Int32.ofNat (M + 1)] i := fun i => by rw [q2 Q3 14, ← i2]; rfl
    have g15 : ∀ i, i < 64 → s3.2 15 i = own_e own_o cz a b c M i := fun i hi => by
      rw [q2 Q3 15]
      show own_get (own_getL T3.2 15) i = _
      rw [i3, own_gt _ _ _ _ hi, Nat.zero_add]
    rw [f2, f3, i1]
    refine ⟨s3, own_fin hn hM (by rw [g14]; rfl) (by rw [g14]; rfl) (by rw [q2 Q3 16, i4, own_xE]) (by rw [q2 Q3 16, i5, own_dE hz, own_yE]) (fun i hi => ?_) (fun i hi => ?_) ?_ ?_⟩
    · rw [g15 i (by omega)]; unfold own_e; rw [if_pos hi, own_xE]
    · rw [g15 _ (by omega)]; unfold own_e
      rw [if_neg (by omega), if_neg (by omega), if_neg (by omega), if_pos (by omega), own_dE hz, own_yE, show 32 + i - 31 = i + 1 by omega]
    · rw [g15 _ (by omega)]; unfold own_e
      rw [if_neg (by omega), if_pos rfl, own_xE]; rfl
    · rw [g15 _ (by omega)]; unfold own_e
      rw [if_neg (by omega), if_neg (by omega), if_neg (by omega), if_neg (by omega), if_pos rfl, own_dE hz, own_yE]
      exact Int32.mul_comm _ _
theorem plain : ∀ a b c d, ∃ n w, f_law n a b c d = some (1, w) := by
  intro a b c d
  obtain ⟨n, hn⟩ : ∃ n : Nat, n = 120 := ⟨120, rfl⟩
  refine ⟨n, ?_⟩
  unfold f_law
  rw [own_ctor, Option.bind_some]
  have r := and_rng d (m := 7) (by omega)
  rw [show Int32.ofNat 7 = (7 : Int32) from rfl] at r
  obtain ⟨M, eM, -, hM⟩ := own_nat (x := d &&& 7) (lo := 0) (hi := 7) (by omega) (by omega)
  rw [eM]
  obtain ⟨T, e1, e2⟩ := own_all own_o a b c (decide (c = 0)) hM
  exact own_main (by omega) rfl hM (by rw [hn]; exact e1) (by rw [hn]; exact e2)
theorem main_1_1 : Claimed_1_1 := comes_1 plain fun _ _ _ _ _ _ h hF => ⟨h.1, hF⟩
theorem main_1_2 : Claimed_1_2 := comes_1 plain fun _ _ _ _ _ _ h hF => ⟨h.2.1, hF⟩


end Jvm.Pilot.@@N@@
namespace Jvm.Pilot.@@N@@
open Jvm Jvm.ClassFile Sem Op Lib Jvm.Free Jvm.Stand Jvm.Pilot.@@N@@.Jvm.D
/-! MADE BY PROGRAM (witnessworld.py) out of the Statement's table words and the real class files: 11 classes; the members and pool entries that the words name. The judged class is class 1, her method 1. -/
namespace start1
open Jvm.ClassFile
def u (s : String) : CpInfo := .utf8 (stringToUtf16 s)
/-- a pool by its gaps: so many unusable entries, then the entry; so many at the end -/
def gap : Nat → List CpInfo → List CpInfo
  | 0, r => r
  | n + 1, r => .unusable :: gap n r
def poolList (es : List (Nat × CpInfo)) (last : Nat) : List CpInfo := es.foldr (fun e r => gap e.1 (e.2 :: r)) (gap last [])
def pool (es : List (Nat × CpInfo)) (last : Nat) : Array CpInfo := ⟨poolList es last⟩
def fileOf (pool : Array CpInfo) (this : Nat) (attrs : Array Attribute := #[]) (ms : Array MethodInfo := #[]) (fl : Nat := 33) (sup : Nat := 0) (ifs : Array Nat := #[]) (fds : Array FieldInfo := #[]) : ClassFile where
  minorVersion := 0
  majorVersion := 65
  constantPool := pool
  accessFlags := fl
  thisClass := this
  superClass := sup
  interfaces := ifs
  fields := fds
  methods := ms
  attributes := attrs
def plain (name : String) (sup : Option ClassId) : Class where
  name := name
  kind := .ordinary
  loader := none
  accessFlags := 33
  super := sup
  interfaces := #[]
  cf := none
  fields := #[]
  methods := #[]
  instanceTypes := #[]
  staticTypes := #[]
  resolved := #[]
  callSites := []
  init := .initialized
  statics := none
  mirror := none

def pool0 : Array CpInfo := pool [(5, u "<init>"), (0, u "()V"), (1, .class_ 10), (1, u "java/lang/Object")] 113

def k0c0 : Code := { maxStack := 0, maxLocals := 1, code := object_method_1_code, exceptionTable := #[], attributes := #[] }
def k0m0 : Method := { name := "<init>", desc := "()V", sig := { parameters := [], returnType := none }, accessFlags := 1, code := some k0c0 }
/-- java/lang/Object -/
def k0 : Class := { plain "java/lang/Object" none with
  accessFlags := 33
  interfaces := #[]
  cf := some (fileOf pool0 8 #[] #[{ accessFlags := 1, nameIndex := 5, descriptorIndex := 6, attributes := #[] }] 33 0 #[] #[])
  fields := #[]
  methods := #[k0m0]
  instanceTypes := #[]
  staticTypes := #[]
  resolved := Array.replicate 124 none
  statics := none }

def pool1 : Array CpInfo := pool [(2, .class_ 4), (1, u "java/lang/Object"), (0, u "<init>"), (0, u "()V"), (0, .class_ 8), (0, u "RankReassociator"), (0, .methodref 7 10), (0, .nameAndType 5 11), (0, u "(I)V"), (0, .methodref 7 13), (0, .nameAndType 14 15), (0, u "setInput"), (0, u "(II)Z"), (0, .methodref 7 17), (0, .nameAndType 18 19), (0, u "add"), (0, u "(III)I"), (0, .methodref 7 21), (0, .nameAndType 22 23), (0, u "compile"), (0, u "()I"), (0, .methodref 7 25), (0, .nameAndType 26 23), (0, u "run"), (0, .methodref 7 28), (0, .nameAndType 29 30), (0, u "outputCount"), (0, u "(I)I"), (0, .methodref 7 32), (0, .nameAndType 33 34), (0, u "variable"), (0, u "(II)I"), (0, .methodref 7 36), (0, .nameAndType 37 34), (0, u "output"), (0, .class_ 39), (0, u "RankReassociatorL3"), (2, u "law"), (0, u "(IIII)Z")] 3

def k1m0 : Method := { name := "<init>", desc := "()V", sig := { parameters := [], returnType := none }, accessFlags := 1, code := none }
def k1c1 : Code := { maxStack := 5, maxLocals := 11, code := code, exceptionTable := #[], attributes := #[] }
def k1m1 : Method := { name := "law", desc := "(IIII)Z", sig := { parameters := [.int, .int, .int, .int], returnType := some .boolean }, accessFlags := 9, code := some k1c1 }
/-- RankReassociatorL3 -/
def k1 : Class := { plain "RankReassociatorL3" (some 0) with
  accessFlags := 49
  interfaces := #[]
  cf := some (fileOf pool1 38 #[] #[{ accessFlags := 1, nameIndex := 5, descriptorIndex := 6, attributes := #[] }, { accessFlags := 9, nameIndex := 42, descriptorIndex := 43, attributes := #[] }] 49 2 #[] #[])
  fields := #[]
  methods := #[k1m0, k1m1]
  instanceTypes := #[]
  staticTypes := #[]
  resolved := Array.replicate 47 none
  statics := none }

def pool2 : Array CpInfo := pool [(1, .methodref 2 3), (0, .class_ 4), (0, .nameAndType 5 6), (0, u "java/lang/Object"), (0, u "<init>"), (0, u "()V"), (0, .fieldref 8 9), (0, .class_ 10), (0, .nameAndType 11 12), (0, u "RankReassociator"), (0, u "pOp"), (0, u "[I"), (0, .fieldref 8 14), (0, .nameAndType 15 12), (0, u "pX"), (0, .fieldref 8 17), (0, .nameAndType 18 12), (0, u "pY"), (0, .fieldref 8 20), (0, .nameAndType 21 12), (0, u "pEnc"), (0, .fieldref 8 23), (0, .nameAndType 24 12), (0, u "pMatch"), (0, .fieldref 8 26), (0, .nameAndType 27 12), (0, u "openStk"), (0, .fieldref 8 29), (0, .nameAndType 30 12), (0, u "inputs"), (0, .fieldref 8 32), (0, .nameAndType 33 12), (0, u "cOp"), (0, .fieldref 8 35), (0, .nameAndType 36 12), (0, u "cX"), (0, .fieldref 8 38), (0, .nameAndType 39 12), (0, u "cY"), (0, .fieldref 8 41), (0, .nameAndType 42 12), (0, u "rank"), (0, .fieldref 8 44), (0, .nameAndType 45 12), (0, u "slot"), (0, .fieldref 8 47), (0, .nameAndType 48 12), (0, u "cnt"), (0, .fieldref 8 50), (0, .nameAndType 51 12), (0, u "vars"), (0, .fieldref 8 53), (0, .nameAndType 54 12), (0, u "outCnt"), (0, .fieldref 8 56), (0, .nameAndType 57 12), (0, u "outVal"), (0, .fieldref 8 59), (0, .nameAndType 60 12), (0, u "varRes"), (0, .fieldref 8 62), (0, .nameAndType 63 12), (0, u "map"), (0, .fieldref 8 65), (0, .nameAndType 66 12), (0, u "setMask"), (0, .fieldref 8 68), (0, .nameAndType 69 12), (0, u "ver"), (0, .fieldref 8 71), (0, .nameAndType 72 12), (0, u "loopStk"), (0, .fieldref 8 74), (0, .nameAndType 75 12), (0, u "markStk"), (0, .fieldref 8 77), (0, .nameAndType 78 12), (0, u "lv"), (0, .fieldref 8 80), (0, .nameAndType 81 12), (0, u "ls"), (0, .fieldref 8 83), (0, .nameAndType 84 85), (0, u "lrm"), (0, u "[Z"), (0, .fieldref 8 87), (0, .nameAndType 88 12), (0, u "sN"), (0, .fieldref 8 90), (0, .nameAndType 91 12), (0, u "sS"), (0, .fieldref 8 93), (0, .nameAndType 94 12), (0, u "hOp"), (0, .fieldref 8 96), (0, .nameAndType 97 12), (0, u "hA"), (0, .fieldref 8 99), (0, .nameAndType 100 12), (0, u "hB"), (0, .fieldref 8 102), (0, .nameAndType 103 12), (0, u "hVal"), (0, .fieldref 8 105), (0, .nameAndType 106 85), (0, u "hUsed"), (0, .fieldref 8 108), (0, .nameAndType 109 12), (0, u "hLog"), (0, .fieldref 8 111), (0, .nameAndType 112 113), (0, u "cap"), (0, u "I"), (0, .fieldref 8 115), (0, .nameAndType 116 113), (0, u "hFree"), (0, .fieldref 8 118), (0, .nameAndType 119 113), (0, u "n"), (0, .methodref 8 121), (0, .nameAndType 122 123), (0, u "argumentOk"), (0, u "(II)Z"), (0, .methodref 8 125), (0, .nameAndType 126 127), (0, u "operandsOk"), (0, u "(III)Z"), (0, .fieldref 8 129), (0, .nameAndType 130 113), (0, u "depth"), (0, .methodref 8 132), (0, .nameAndType 133 134), (0, u "store"), (0, u "(III)I"), (0, .methodref 8 136), (0, .nameAndType 137 138), (0, u "visible"), (0, u "(I)Z"), (0, .methodref 8 140), (0, .nameAndType 141 138), (0, u "isOpen"), (0, .methodref 8 143), (0, .nameAndType 144 138), (0, u "usesX"), (0, .methodref 8 146), (0, .nameAndType 147 138), (0, u "usesY"), (0, .fieldref 8 149), (0, .nameAndType 150 151), (0, u "compiled"), (0, u "Z"), (0, .methodref 8 153), (0, .nameAndType 154 6), (0, u "buildVersion0"), (0, .methodref 8 156), (0, .nameAndType 157 6), (0, u "buildVersion1"), (0, .methodref 8 159), (0, .nameAndType 160 161), (0, u "execute"), (0, u "(I)V"), (0, .fieldref 8 163), (0, .nameAndType 164 113), (0, u "len0"), (0, .fieldref 8 166), (0, .nameAndType 167 113), (0, u "len1"), (0, .methodref 8 169), (0, .nameAndType 170 161), (0, u "undoHash"), (0, .fieldref 8 172), (0, .nameAndType 173 151), (0, u "overflow"), (0, .fieldref 8 175), (0, .nameAndType 176 113), (0, u "cdepth"), (0, .methodref 8 178), (0, .nameAndType 179 6), (0, u "computeSetMasks"), (0, .methodref 8 181), (0, .nameAndType 182 161), (0, u "translate"), (3, .methodref 8 187), (0, .nameAndType 188 161), (0, u "enterLoop"), (0, .methodref 8 190), (0, .nameAndType 191 6), (0, u "leaveLoop"), (0, .methodref 8 193), (0, .nameAndType 194 161), (0, u "translateSet"), (0, .methodref 8 196), (0, .nameAndType 197 198), (0, u "mapAt"), (0, u "(I)I"), (0, .methodref 8 200), (0, .nameAndType 201 134), (0, u "emit"), (0, .methodref 8 203), (0, .nameAndType 204 198), (0, u "buildValue"), (0, .fieldref 8 206), (0, .nameAndType 207 113), (0, u "hLogN"), (0, .methodref 8 209), (0, .nameAndType 210 198), (0, u "makeConst"), (0, .methodref 8 212), (0, .nameAndType 213 214), (0, u "makeLeaf"), (0, u "(IIII)I"), (0, .methodref 8 216), (0, .nameAndType 217 198), (0, u "familyOf"), (0, .methodref 8 219), (0, .nameAndType 220 123), (0, u "flatten"), (3, .methodref 8 225), (0, .nameAndType 226 6), (0, u "sortLeaves"), (0, .methodref 8 228), (0, .nameAndType 229 230), (0, u "rebuildSum"), (0, u "()I"), (0, .methodref 8 232), (0, .nameAndType 233 198), (0, u "rebuildChain"), (0, .methodref 8 235), (0, .nameAndType 236 134), (0, u "lookup"), (0, .methodref 8 238), (0, .nameAndType 239 240), (0, u "insert"), (0, u "(IIII)V"), (0, .methodref 8 242), (0, .nameAndType 243 138), (0, u "isConst"), (0, .methodref 8 245), (0, .nameAndType 246 198), (0, u "constOf"), (0, .methodref 8 248), (0, .nameAndType 249 198), (0, u "rankOf"), (0, .methodref 8 251), (0, .nameAndType 252 134), (0, u "fold"), (0, .methodref 8 254), (0, .nameAndType 255 134), (0, u "simplify"), (0, .methodref 8 257), (0, .nameAndType 258 138), (0, u "isCommutative"), (0, .methodref 8 260), (0, .nameAndType 261 134), (0, u "emitBin"), (0, .methodref 8 263), (0, .nameAndType 264 265), (0, u "simplifyAdd"), (0, u "(II)I"), (0, .methodref 8 267), (0, .nameAndType 268 265), (0, u "simplifySub"), (0, .methodref 8 270), (0, .nameAndType 271 265), (0, u "simplifyMul"), (9, .methodref 8 282), (0, .nameAndType 283 123), (0, u "isConstValue"), (0, .methodref 8 285), (0, .nameAndType 286 123), (0, u "isNegOf"), (3, .methodref 8 291), (0, .nameAndType 292 198), (0, u "identityOf"), (0, .fieldref 8 294), (0, .nameAndType 295 113), (0, u "lnum"), (0, .fieldref 8 297), (0, .nameAndType 298 113), (0, u "sp"), (0, .methodref 8 300), (0, .nameAndType 301 123), (0, u "push"), (0, .methodref 8 303), (0, .nameAndType 304 134), (0, u "expand"), (0, .methodref 8 306), (0, .nameAndType 307 123), (0, u "addLeaf"), (0, .methodref 8 309), (0, .nameAndType 310 134), (0, u "expandSum"), (0, .methodref 8 312), (0, .nameAndType 313 123), (0, u "before"), (0, .methodref 8 315), (0, .nameAndType 316 161), (0, u "removeRepeats"), (0, .methodref 8 318), (0, .nameAndType 319 134), (0, u "sumStep"), (0, .methodref 8 321), (0, .nameAndType 322 134), (0, u "makeBin"), (0, .methodref 8 324), (0, .nameAndType 325 198), (0, u "absorberOf"), (0, .integer 2654435761), (0, .integer 2246822507), (0, .integer 3266489909), (0, .integer 739982445), (0, .methodref 8 331), (0, .nameAndType 332 134), (0, u "hashOf"), (0, .methodref 8 334), (0, .nameAndType 335 336), (0, u "resetRun"), (0, u "(III)V"), (0, .integer 4000000), (0, .methodref 8 339), (0, .nameAndType 340 265), (0, u "step"), (0, .methodref 8 342), (0, .nameAndType 343 198), (0, u "stepLoop"), (0, .methodref 8 345), (0, .nameAndType 346 198), (0, u "stepEnd"), (0, .methodref 8 348), (0, .nameAndType 349 198), (0, u "slotAt"), (0, .methodref 8 351), (0, .nameAndType 352 353), (0, u "stepOut"), (0, u "(II)V"), (0, .methodref 8 355), (0, .nameAndType 356 198), (0, u "evalValue"), (0, u "OP_CONST"), (2, u "OP_IN"), (1, u "OP_GET"), (1, u "OP_ADD"), (1, u "OP_SUB"), (1, u "OP_MUL"), (1, u "OP_AND"), (1, u "OP_OR"), (1, u "OP_XOR"), (1, u "OP_NEG"), (1, u "OP_SET"), (1, u "OP_OUT"), (1, u "OP_LOOP"), (1, u "OP_END"), (1, u "OK"), (1, u "ERR_FULL"), (1, u "ERR_OP"), (1, u "ERR_ARG"), (1, u "ERR_OPERAND"), (1, u "ERR_DEPTH"), (1, u "ERR_EMPTY"), (1, u "ERR_OPEN"), (1, u "ERR_NOT_COMPILED"), (1, u "MAX_DEPTH"), (0, u "MAX_COUNT"), (0, u "INPUTS"), (0, u "VARS"), (0, u "OUT_CAP"), (1, u "FIELD_OP"), (0, u "FIELD_X"), (0, u "FIELD_Y"), (4, u "add"), (4, u "setInput"), (1, u "compile"), (2, u "run"), (0, u "outputCount"), (0, u "output"), (0, u "variable")] 2

def k2c0 : Code := { maxStack := 2, maxLocals := 3, code := prog_1_method_1_code, exceptionTable := #[], attributes := #[] }
def k2m0 : Method := { name := "<init>", desc := "(I)V", sig := { parameters := [.int], returnType := none }, accessFlags := 1, code := some k2c0 }
def k2c1 : Code := { maxStack := 4, maxLocals := 4, code := prog_1_method_3_code, exceptionTable := #[], attributes := #[] }
def k2m1 : Method := { name := "add", desc := "(III)I", sig := { parameters := [.int, .int, .int], returnType := some .int }, accessFlags := 1, code := some k2c1 }
def k2c2 : Code := { maxStack := 2, maxLocals := 3, code := prog_1_method_4_code, exceptionTable := #[], attributes := #[] }
def k2m2 : Method := { name := "argumentOk", desc := "(II)Z", sig := { parameters := [.int, .int], returnType := some .boolean }, accessFlags := 2, code := some k2c2 }
def k2c3 : Code := { maxStack := 2, maxLocals := 4, code := prog_1_method_5_code, exceptionTable := #[], attributes := #[] }
def k2m3 : Method := { name := "operandsOk", desc := "(III)Z", sig := { parameters := [.int, .int, .int], returnType := some .boolean }, accessFlags := 2, code := some k2c3 }
def k2c4 : Code := { maxStack := 2, maxLocals := 4, code := prog_1_method_6_code, exceptionTable := #[], attributes := #[] }
def k2m4 : Method := { name := "visible", desc := "(I)Z", sig := { parameters := [.int], returnType := some .boolean }, accessFlags := 2, code := some k2c4 }
def k2c5 : Code := { maxStack := 2, maxLocals := 3, code := prog_1_method_7_code, exceptionTable := #[], attributes := #[] }
def k2m5 : Method := { name := "isOpen", desc := "(I)Z", sig := { parameters := [.int], returnType := some .boolean }, accessFlags := 2, code := some k2c5 }
def k2c6 : Code := { maxStack := 2, maxLocals := 2, code := prog_1_method_8_code, exceptionTable := #[], attributes := #[] }
def k2m6 : Method := { name := "usesY", desc := "(I)Z", sig := { parameters := [.int], returnType := some .boolean }, accessFlags := 2, code := some k2c6 }
def k2c7 : Code := { maxStack := 2, maxLocals := 2, code := prog_1_method_9_code, exceptionTable := #[], attributes := #[] }
def k2m7 : Method := { name := "usesX", desc := "(I)Z", sig := { parameters := [.int], returnType := some .boolean }, accessFlags := 2, code := some k2c7 }
def k2c8 : Code := { maxStack := 5, maxLocals := 6, code := prog_1_method_10_code, exceptionTable := #[], attributes := #[] }
def k2m8 : Method := { name := "store", desc := "(III)I", sig := { parameters := [.int, .int, .int], returnType := some .int }, accessFlags := 2, code := some k2c8 }
def k2c9 : Code := { maxStack := 3, maxLocals := 3, code := prog_1_method_15_code, exceptionTable := #[], attributes := #[] }
def k2m9 : Method := { name := "setInput", desc := "(II)Z", sig := { parameters := [.int, .int], returnType := some .boolean }, accessFlags := 1, code := some k2c9 }
def k2c10 : Code := { maxStack := 2, maxLocals := 1, code := prog_1_method_17_code, exceptionTable := #[], attributes := #[] }
def k2m10 : Method := { name := "compile", desc := "()I", sig := { parameters := [], returnType := some .int }, accessFlags := 1, code := some k2c10 }
def k2c11 : Code := { maxStack := 2, maxLocals := 1, code := prog_1_method_19_code, exceptionTable := #[], attributes := #[] }
def k2m11 : Method := { name := "run", desc := "()I", sig := { parameters := [], returnType := some .int }, accessFlags := 1, code := some k2c11 }
def k2c12 : Code := { maxStack := 2, maxLocals := 2, code := prog_1_method_20_code, exceptionTable := #[], attributes := #[] }
def k2m12 : Method := { name := "outputCount", desc := "(I)I", sig := { parameters := [.int], returnType := some .int }, accessFlags := 1, code := some k2c12 }
def k2c13 : Code := { maxStack := 3, maxLocals := 4, code := prog_1_method_21_code, exceptionTable := #[], attributes := #[] }
def k2m13 : Method := { name := "output", desc := "(II)I", sig := { parameters := [.int, .int], returnType := some .int }, accessFlags := 1, code := some k2c13 }
def k2c14 : Code := { maxStack := 3, maxLocals := 3, code := prog_1_method_22_code, exceptionTable := #[], attributes := #[] }
def k2m14 : Method := { name := "variable", desc := "(II)I", sig := { parameters := [.int, .int], returnType := some .int }, accessFlags := 1, code := some k2c14 }
def k2c15 : Code := { maxStack := 4, maxLocals := 3, code := prog_1_method_23_code, exceptionTable := #[], attributes := #[] }
def k2m15 : Method := { name := "buildVersion0", desc := "()V", sig := { parameters := [], returnType := none }, accessFlags := 2, code := some k2c15 }
def k2c16 : Code := { maxStack := 3, maxLocals := 2, code := prog_1_method_25_code, exceptionTable := #[], attributes := #[] }
def k2m16 : Method := { name := "buildVersion1", desc := "()V", sig := { parameters := [], returnType := none }, accessFlags := 2, code := some k2c16 }
def k2c17 : Code := { maxStack := 4, maxLocals := 5, code := prog_1_method_26_code, exceptionTable := #[], attributes := #[] }
def k2m17 : Method := { name := "computeSetMasks", desc := "()V", sig := { parameters := [], returnType := none }, accessFlags := 2, code := some k2c17 }
def k2c18 : Code := { maxStack := 4, maxLocals := 4, code := prog_1_method_27_code, exceptionTable := #[], attributes := #[] }
def k2m18 : Method := { name := "translate", desc := "(I)V", sig := { parameters := [.int], returnType := none }, accessFlags := 2, code := some k2c18 }
def k2c19 : Code := { maxStack := 4, maxLocals := 4, code := prog_1_method_28_code, exceptionTable := #[], attributes := #[] }
def k2m19 : Method := { name := "translateSet", desc := "(I)V", sig := { parameters := [.int], returnType := none }, accessFlags := 2, code := some k2c19 }
def k2c20 : Code := { maxStack := 4, maxLocals := 4, code := prog_1_method_29_code, exceptionTable := #[], attributes := #[] }
def k2m20 : Method := { name := "enterLoop", desc := "(I)V", sig := { parameters := [.int], returnType := none }, accessFlags := 2, code := some k2c20 }
def k2c21 : Code := { maxStack := 4, maxLocals := 3, code := prog_1_method_30_code, exceptionTable := #[], attributes := #[] }
def k2m21 : Method := { name := "leaveLoop", desc := "()V", sig := { parameters := [], returnType := none }, accessFlags := 2, code := some k2c21 }
def k2c22 : Code := { maxStack := 3, maxLocals := 5, code := prog_1_method_31_code, exceptionTable := #[], attributes := #[] }
def k2m22 : Method := { name := "emit", desc := "(III)I", sig := { parameters := [.int, .int, .int], returnType := some .int }, accessFlags := 2, code := some k2c22 }
def k2c23 : Code := { maxStack := 2, maxLocals := 2, code := prog_1_method_32_code, exceptionTable := #[], attributes := #[] }
def k2m23 : Method := { name := "mapAt", desc := "(I)I", sig := { parameters := [.int], returnType := some .int }, accessFlags := 2, code := some k2c23 }
def k2c24 : Code := { maxStack := 6, maxLocals := 5, code := prog_1_method_33_code, exceptionTable := #[], attributes := #[] }
def k2m24 : Method := { name := "buildValue", desc := "(I)I", sig := { parameters := [.int], returnType := some .int }, accessFlags := 2, code := some k2c24 }
def k2c25 : Code := { maxStack := 2, maxLocals := 2, code := prog_1_method_34_code, exceptionTable := #[], attributes := #[] }
def k2m25 : Method := { name := "familyOf", desc := "(I)I", sig := { parameters := [.int], returnType := some .int }, accessFlags := 2, code := some k2c25 }
def k2c26 : Code := { maxStack := 5, maxLocals := 2, code := prog_1_method_35_code, exceptionTable := #[], attributes := #[] }
def k2m26 : Method := { name := "makeConst", desc := "(I)I", sig := { parameters := [.int], returnType := some .int }, accessFlags := 2, code := some k2c26 }
def k2c27 : Code := { maxStack := 5, maxLocals := 7, code := prog_1_method_36_code, exceptionTable := #[], attributes := #[] }
def k2m27 : Method := { name := "makeLeaf", desc := "(IIII)I", sig := { parameters := [.int, .int, .int, .int], returnType := some .int }, accessFlags := 2, code := some k2c27 }
def k2c28 : Code := { maxStack := 4, maxLocals := 7, code := prog_1_method_38_code, exceptionTable := #[], attributes := #[] }
def k2m28 : Method := { name := "makeBin", desc := "(III)I", sig := { parameters := [.int, .int, .int], returnType := some .int }, accessFlags := 2, code := some k2c28 }
def k2c29 : Code := { maxStack := 5, maxLocals := 8, code := prog_1_method_39_code, exceptionTable := #[], attributes := #[] }
def k2m29 : Method := { name := "emitBin", desc := "(III)I", sig := { parameters := [.int, .int, .int], returnType := some .int }, accessFlags := 2, code := some k2c29 }
def k2c30 : Code := { maxStack := 3, maxLocals := 4, code := prog_1_method_40_code, exceptionTable := #[], attributes := #[] }
def k2m30 : Method := { name := "simplify", desc := "(III)I", sig := { parameters := [.int, .int, .int], returnType := some .int }, accessFlags := 2, code := some k2c30 }
def k2c31 : Code := { maxStack := 3, maxLocals := 3, code := prog_1_method_41_code, exceptionTable := #[], attributes := #[] }
def k2m31 : Method := { name := "simplifyAdd", desc := "(II)I", sig := { parameters := [.int, .int], returnType := some .int }, accessFlags := 2, code := some k2c31 }
def k2c32 : Code := { maxStack := 3, maxLocals := 3, code := prog_1_method_42_code, exceptionTable := #[], attributes := #[] }
def k2m32 : Method := { name := "simplifySub", desc := "(II)I", sig := { parameters := [.int, .int], returnType := some .int }, accessFlags := 2, code := some k2c32 }
def k2c33 : Code := { maxStack := 3, maxLocals := 3, code := prog_1_method_43_code, exceptionTable := #[], attributes := #[] }
def k2m33 : Method := { name := "simplifyMul", desc := "(II)I", sig := { parameters := [.int, .int], returnType := some .int }, accessFlags := 2, code := some k2c33 }
def k2c34 : Code := { maxStack := 2, maxLocals := 2, code := prog_1_method_47_code, exceptionTable := #[], attributes := #[] }
def k2m34 : Method := { name := "isConst", desc := "(I)Z", sig := { parameters := [.int], returnType := some .boolean }, accessFlags := 2, code := some k2c34 }
def k2c35 : Code := { maxStack := 2, maxLocals := 2, code := prog_1_method_48_code, exceptionTable := #[], attributes := #[] }
def k2m35 : Method := { name := "constOf", desc := "(I)I", sig := { parameters := [.int], returnType := some .int }, accessFlags := 2, code := some k2c35 }
def k2c36 : Code := { maxStack := 2, maxLocals := 3, code := prog_1_method_49_code, exceptionTable := #[], attributes := #[] }
def k2m36 : Method := { name := "isConstValue", desc := "(II)Z", sig := { parameters := [.int, .int], returnType := some .boolean }, accessFlags := 2, code := some k2c36 }
def k2c37 : Code := { maxStack := 2, maxLocals := 3, code := prog_1_method_50_code, exceptionTable := #[], attributes := #[] }
def k2m37 : Method := { name := "isNegOf", desc := "(II)Z", sig := { parameters := [.int, .int], returnType := some .boolean }, accessFlags := 2, code := some k2c37 }
def k2c38 : Code := { maxStack := 2, maxLocals := 2, code := prog_1_method_51_code, exceptionTable := #[], attributes := #[] }
def k2m38 : Method := { name := "rankOf", desc := "(I)I", sig := { parameters := [.int], returnType := some .int }, accessFlags := 2, code := some k2c38 }
def k2c39 : Code := { maxStack := 2, maxLocals := 2, code := prog_1_method_52_code, exceptionTable := #[], attributes := #[] }
def k2m39 : Method := { name := "isCommutative", desc := "(I)Z", sig := { parameters := [.int], returnType := some .boolean }, accessFlags := 2, code := some k2c39 }
def k2c40 : Code := { maxStack := 2, maxLocals := 4, code := prog_1_method_53_code, exceptionTable := #[], attributes := #[] }
def k2m40 : Method := { name := "fold", desc := "(III)I", sig := { parameters := [.int, .int, .int], returnType := some .int }, accessFlags := 2, code := some k2c40 }
def k2c41 : Code := { maxStack := 2, maxLocals := 2, code := prog_1_method_54_code, exceptionTable := #[], attributes := #[] }
def k2m41 : Method := { name := "identityOf", desc := "(I)I", sig := { parameters := [.int], returnType := some .int }, accessFlags := 2, code := some k2c41 }
def k2c42 : Code := { maxStack := 2, maxLocals := 2, code := prog_1_method_55_code, exceptionTable := #[], attributes := #[] }
def k2m42 : Method := { name := "absorberOf", desc := "(I)I", sig := { parameters := [.int], returnType := some .int }, accessFlags := 2, code := some k2c42 }
def k2c43 : Code := { maxStack := 4, maxLocals := 8, code := prog_1_method_56_code, exceptionTable := #[], attributes := #[] }
def k2m43 : Method := { name := "flatten", desc := "(II)Z", sig := { parameters := [.int, .int], returnType := some .boolean }, accessFlags := 2, code := some k2c43 }
def k2c44 : Code := { maxStack := 4, maxLocals := 5, code := prog_1_method_57_code, exceptionTable := #[], attributes := #[] }
def k2m44 : Method := { name := "expand", desc := "(III)I", sig := { parameters := [.int, .int, .int], returnType := some .int }, accessFlags := 2, code := some k2c44 }
def k2c45 : Code := { maxStack := 4, maxLocals := 5, code := prog_1_method_58_code, exceptionTable := #[], attributes := #[] }
def k2m45 : Method := { name := "expandSum", desc := "(III)I", sig := { parameters := [.int, .int, .int], returnType := some .int }, accessFlags := 2, code := some k2c45 }
def k2c46 : Code := { maxStack := 3, maxLocals := 3, code := prog_1_method_59_code, exceptionTable := #[], attributes := #[] }
def k2m46 : Method := { name := "push", desc := "(II)Z", sig := { parameters := [.int, .int], returnType := some .boolean }, accessFlags := 2, code := some k2c46 }
def k2c47 : Code := { maxStack := 3, maxLocals := 3, code := prog_1_method_60_code, exceptionTable := #[], attributes := #[] }
def k2m47 : Method := { name := "addLeaf", desc := "(II)Z", sig := { parameters := [.int, .int], returnType := some .boolean }, accessFlags := 2, code := some k2c47 }
def k2c48 : Code := { maxStack := 5, maxLocals := 5, code := prog_1_method_62_code, exceptionTable := #[], attributes := #[] }
def k2m48 : Method := { name := "sortLeaves", desc := "()V", sig := { parameters := [], returnType := none }, accessFlags := 2, code := some k2c48 }
def k2c49 : Code := { maxStack := 2, maxLocals := 5, code := prog_1_method_63_code, exceptionTable := #[], attributes := #[] }
def k2m49 : Method := { name := "before", desc := "(II)Z", sig := { parameters := [.int, .int], returnType := some .boolean }, accessFlags := 2, code := some k2c49 }
def k2c50 : Code := { maxStack := 5, maxLocals := 4, code := prog_1_method_64_code, exceptionTable := #[], attributes := #[] }
def k2m50 : Method := { name := "rebuildSum", desc := "()I", sig := { parameters := [], returnType := some .int }, accessFlags := 2, code := some k2c50 }
def k2c51 : Code := { maxStack := 4, maxLocals := 4, code := prog_1_method_65_code, exceptionTable := #[], attributes := #[] }
def k2m51 : Method := { name := "sumStep", desc := "(III)I", sig := { parameters := [.int, .int, .int], returnType := some .int }, accessFlags := 2, code := some k2c51 }
def k2c52 : Code := { maxStack := 5, maxLocals := 6, code := prog_1_method_66_code, exceptionTable := #[], attributes := #[] }
def k2m52 : Method := { name := "rebuildChain", desc := "(I)I", sig := { parameters := [.int], returnType := some .int }, accessFlags := 2, code := some k2c52 }
def k2c53 : Code := { maxStack := 3, maxLocals := 4, code := prog_1_method_67_code, exceptionTable := #[], attributes := #[] }
def k2m53 : Method := { name := "removeRepeats", desc := "(I)V", sig := { parameters := [.int], returnType := none }, accessFlags := 2, code := some k2c53 }
def k2c54 : Code := { maxStack := 3, maxLocals := 5, code := prog_1_method_68_code, exceptionTable := #[], attributes := #[] }
def k2m54 : Method := { name := "hashOf", desc := "(III)I", sig := { parameters := [.int, .int, .int], returnType := some .int }, accessFlags := 2, code := some k2c54 }
def k2c55 : Code := { maxStack := 4, maxLocals := 7, code := prog_1_method_69_code, exceptionTable := #[], attributes := #[] }
def k2m55 : Method := { name := "lookup", desc := "(III)I", sig := { parameters := [.int, .int, .int], returnType := some .int }, accessFlags := 2, code := some k2c55 }
def k2c56 : Code := { maxStack := 3, maxLocals := 6, code := prog_1_method_70_code, exceptionTable := #[], attributes := #[] }
def k2m56 : Method := { name := "insert", desc := "(IIII)V", sig := { parameters := [.int, .int, .int, .int], returnType := none }, accessFlags := 2, code := some k2c56 }
def k2c57 : Code := { maxStack := 3, maxLocals := 4, code := prog_1_method_71_code, exceptionTable := #[], attributes := #[] }
def k2m57 : Method := { name := "undoHash", desc := "(I)V", sig := { parameters := [.int], returnType := none }, accessFlags := 2, code := some k2c57 }
def k2c58 : Code := { maxStack := 4, maxLocals := 8, code := prog_1_method_72_code, exceptionTable := #[], attributes := #[] }
def k2m58 : Method := { name := "execute", desc := "(I)V", sig := { parameters := [.int], returnType := none }, accessFlags := 2, code := some k2c58 }
def k2c59 : Code := { maxStack := 3, maxLocals := 5, code := prog_1_method_73_code, exceptionTable := #[], attributes := #[] }
def k2m59 : Method := { name := "resetRun", desc := "(III)V", sig := { parameters := [.int, .int, .int], returnType := none }, accessFlags := 2, code := some k2c59 }
def k2c60 : Code := { maxStack := 4, maxLocals := 5, code := prog_1_method_74_code, exceptionTable := #[], attributes := #[] }
def k2m60 : Method := { name := "step", desc := "(II)I", sig := { parameters := [.int, .int], returnType := some .int }, accessFlags := 2, code := some k2c60 }
def k2c61 : Code := { maxStack := 3, maxLocals := 4, code := prog_1_method_75_code, exceptionTable := #[], attributes := #[] }
def k2m61 : Method := { name := "stepLoop", desc := "(I)I", sig := { parameters := [.int], returnType := some .int }, accessFlags := 2, code := some k2c61 }
def k2c62 : Code := { maxStack := 4, maxLocals := 3, code := prog_1_method_76_code, exceptionTable := #[], attributes := #[] }
def k2m62 : Method := { name := "stepEnd", desc := "(I)I", sig := { parameters := [.int], returnType := some .int }, accessFlags := 2, code := some k2c62 }
def k2c63 : Code := { maxStack := 4, maxLocals := 5, code := prog_1_method_77_code, exceptionTable := #[], attributes := #[] }
def k2m63 : Method := { name := "stepOut", desc := "(II)V", sig := { parameters := [.int, .int], returnType := none }, accessFlags := 2, code := some k2c63 }
def k2c64 : Code := { maxStack := 4, maxLocals := 5, code := prog_1_method_78_code, exceptionTable := #[], attributes := #[] }
def k2m64 : Method := { name := "evalValue", desc := "(I)I", sig := { parameters := [.int], returnType := some .int }, accessFlags := 2, code := some k2c64 }
def k2c65 : Code := { maxStack := 2, maxLocals := 2, code := prog_1_method_79_code, exceptionTable := #[], attributes := #[] }
def k2m65 : Method := { name := "slotAt", desc := "(I)I", sig := { parameters := [.int], returnType := some .int }, accessFlags := 2, code := some k2c65 }
/-- RankReassociator -/
def k2 : Class := { plain "RankReassociator" (some 0) with
  accessFlags := 49
  interfaces := #[]
  cf := some (fileOf pool2 8 #[] #[{ accessFlags := 1, nameIndex := 5, descriptorIndex := 161, attributes := #[] }, { accessFlags := 1, nameIndex := 417, descriptorIndex := 134, attributes := #[] }, { accessFlags := 2, nameIndex := 122, descriptorIndex := 123, attributes := #[] }, { accessFlags := 2, nameIndex := 126, descriptorIndex := 127, attributes := #[] }, { accessFlags := 2, nameIndex := 137, descriptorIndex := 138, attributes := #[] }, { accessFlags := 2, nameIndex := 141, descriptorIndex := 138, attributes := #[] }, { accessFlags := 2, nameIndex := 147, descriptorIndex := 138, attributes := #[] }, { accessFlags := 2, nameIndex := 144, descriptorIndex := 138, attributes := #[] }, { accessFlags := 2, nameIndex := 133, descriptorIndex := 134, attributes := #[] }, { accessFlags := 1, nameIndex := 422, descriptorIndex := 123, attributes := #[] }, { accessFlags := 1, nameIndex := 424, descriptorIndex := 230, attributes := #[] }, { accessFlags := 1, nameIndex := 427, descriptorIndex := 230, attributes := #[] }, { accessFlags := 1, nameIndex := 428, descriptorIndex := 198, attributes := #[] }, { accessFlags := 1, nameIndex := 429, descriptorIndex := 265, attributes := #[] }, { accessFlags := 1, nameIndex := 430, descriptorIndex := 265, attributes := #[] }, { accessFlags := 2, nameIndex := 154, descriptorIndex := 6, attributes := #[] }, { accessFlags := 2, nameIndex := 157, descriptorIndex := 6, attributes := #[] }, { accessFlags := 2, nameIndex := 179, descriptorIndex := 6, attributes := #[] }, { accessFlags := 2, nameIndex := 182, descriptorIndex := 161, attributes := #[] }, { accessFlags := 2, nameIndex := 194, descriptorIndex := 161, attributes := #[] }, { accessFlags := 2, nameIndex := 188, descriptorIndex := 161, attributes := #[] }, { accessFlags := 2, nameIndex := 191, descriptorIndex := 6, attributes := #[] }, { accessFlags := 2, nameIndex := 201, descriptorIndex := 134, attributes := #[] }, { accessFlags := 2, nameIndex := 197, descriptorIndex := 198, attributes := #[] }, { accessFlags := 2, nameIndex := 204, descriptorIndex := 198, attributes := #[] }, { accessFlags := 2, nameIndex := 217, descriptorIndex := 198, attributes := #[] }, { accessFlags := 2, nameIndex := 210, descriptorIndex := 198, attributes := #[] }, { accessFlags := 2, nameIndex := 213, descriptorIndex := 214, attributes := #[] }, { accessFlags := 2, nameIndex := 322, descriptorIndex := 134, attributes := #[] }, { accessFlags := 2, nameIndex := 261, descriptorIndex := 134, attributes := #[] }, { accessFlags := 2, nameIndex := 255, descriptorIndex := 134, attributes := #[] }, { accessFlags := 2, nameIndex := 264, descriptorIndex := 265, attributes := #[] }, { accessFlags := 2, nameIndex := 268, descriptorIndex := 265, attributes := #[] }, { accessFlags := 2, nameIndex := 271, descriptorIndex := 265, attributes := #[] }, { accessFlags := 2, nameIndex := 243, descriptorIndex := 138, attributes := #[] }, { accessFlags := 2, nameIndex := 246, descriptorIndex := 198, attributes := #[] }, { accessFlags := 2, nameIndex := 283, descriptorIndex := 123, attributes := #[] }, { accessFlags := 2, nameIndex := 286, descriptorIndex := 123, attributes := #[] }, { accessFlags := 2, nameIndex := 249, descriptorIndex := 198, attributes := #[] }, { accessFlags := 2, nameIndex := 258, descriptorIndex := 138, attributes := #[] }, { accessFlags := 2, nameIndex := 252, descriptorIndex := 134, attributes := #[] }, { accessFlags := 2, nameIndex := 292, descriptorIndex := 198, attributes := #[] }, { accessFlags := 2, nameIndex := 325, descriptorIndex := 198, attributes := #[] }, { accessFlags := 2, nameIndex := 220, descriptorIndex := 123, attributes := #[] }, { accessFlags := 2, nameIndex := 304, descriptorIndex := 134, attributes := #[] }, { accessFlags := 2, nameIndex := 310, descriptorIndex := 134, attributes := #[] }, { accessFlags := 2, nameIndex := 301, descriptorIndex := 123, attributes := #[] }, { accessFlags := 2, nameIndex := 307, descriptorIndex := 123, attributes := #[] }, { accessFlags := 2, nameIndex := 226, descriptorIndex := 6, attributes := #[] }, { accessFlags := 2, nameIndex := 313, descriptorIndex := 123, attributes := #[] }, { accessFlags := 2, nameIndex := 229, descriptorIndex := 230, attributes := #[] }, { accessFlags := 2, nameIndex := 319, descriptorIndex := 134, attributes := #[] }, { accessFlags := 2, nameIndex := 233, descriptorIndex := 198, attributes := #[] }, { accessFlags := 2, nameIndex := 316, descriptorIndex := 161, attributes := #[] }, { accessFlags := 2, nameIndex := 332, descriptorIndex := 134, attributes := #[] }, { accessFlags := 2, nameIndex := 236, descriptorIndex := 134, attributes := #[] }, { accessFlags := 2, nameIndex := 239, descriptorIndex := 240, attributes := #[] }, { accessFlags := 2, nameIndex := 170, descriptorIndex := 161, attributes := #[] }, { accessFlags := 2, nameIndex := 160, descriptorIndex := 161, attributes := #[] }, { accessFlags := 2, nameIndex := 335, descriptorIndex := 336, attributes := #[] }, { accessFlags := 2, nameIndex := 340, descriptorIndex := 265, attributes := #[] }, { accessFlags := 2, nameIndex := 343, descriptorIndex := 198, attributes := #[] }, { accessFlags := 2, nameIndex := 346, descriptorIndex := 198, attributes := #[] }, { accessFlags := 2, nameIndex := 352, descriptorIndex := 353, attributes := #[] }, { accessFlags := 2, nameIndex := 356, descriptorIndex := 198, attributes := #[] }, { accessFlags := 2, nameIndex := 349, descriptorIndex := 198, attributes := #[] }] 49 2 #[] #[{ accessFlags := 25, nameIndex := 357, descriptorIndex := 113, attributes := #[] }, { accessFlags := 25, nameIndex := 360, descriptorIndex := 113, attributes := #[] }, { accessFlags := 25, nameIndex := 362, descriptorIndex := 113, attributes := #[] }, { accessFlags := 25, nameIndex := 364, descriptorIndex := 113, attributes := #[] }, { accessFlags := 25, nameIndex := 366, descriptorIndex := 113, attributes := #[] }, { accessFlags := 25, nameIndex := 368, descriptorIndex := 113, attributes := #[] }, { accessFlags := 25, nameIndex := 370, descriptorIndex := 113, attributes := #[] }, { accessFlags := 25, nameIndex := 372, descriptorIndex := 113, attributes := #[] }, { accessFlags := 25, nameIndex := 374, descriptorIndex := 113, attributes := #[] }, { accessFlags := 25, nameIndex := 376, descriptorIndex := 113, attributes := #[] }, { accessFlags := 25, nameIndex := 378, descriptorIndex := 113, attributes := #[] }, { accessFlags := 25, nameIndex := 380, descriptorIndex := 113, attributes := #[] }, { accessFlags := 25, nameIndex := 382, descriptorIndex := 113, attributes := #[] }, { accessFlags := 25, nameIndex := 384, descriptorIndex := 113, attributes := #[] }, { accessFlags := 25, nameIndex := 386, descriptorIndex := 113, attributes := #[] }, { accessFlags := 25, nameIndex := 388, descriptorIndex := 113, attributes := #[] }, { accessFlags := 25, nameIndex := 390, descriptorIndex := 113, attributes := #[] }, { accessFlags := 25, nameIndex := 392, descriptorIndex := 113, attributes := #[] }, { accessFlags := 25, nameIndex := 394, descriptorIndex := 113, attributes := #[] }, { accessFlags := 25, nameIndex := 396, descriptorIndex := 113, attributes := #[] }, { accessFlags := 25, nameIndex := 398, descriptorIndex := 113, attributes := #[] }, { accessFlags := 25, nameIndex := 400, descriptorIndex := 113, attributes := #[] }, { accessFlags := 25, nameIndex := 402, descriptorIndex := 113, attributes := #[] }, { accessFlags := 25, nameIndex := 404, descriptorIndex := 113, attributes := #[] }, { accessFlags := 25, nameIndex := 405, descriptorIndex := 113, attributes := #[] }, { accessFlags := 25, nameIndex := 406, descriptorIndex := 113, attributes := #[] }, { accessFlags := 25, nameIndex := 407, descriptorIndex := 113, attributes := #[] }, { accessFlags := 25, nameIndex := 408, descriptorIndex := 113, attributes := #[] }, { accessFlags := 25, nameIndex := 410, descriptorIndex := 113, attributes := #[] }, { accessFlags := 25, nameIndex := 411, descriptorIndex := 113, attributes := #[] }, { accessFlags := 25, nameIndex := 412, descriptorIndex := 113, attributes := #[] }, { accessFlags := 2, nameIndex := 112, descriptorIndex := 113, attributes := #[] }, { accessFlags := 2, nameIndex := 119, descriptorIndex := 113, attributes := #[] }, { accessFlags := 2, nameIndex := 130, descriptorIndex := 113, attributes := #[] }, { accessFlags := 2, nameIndex := 150, descriptorIndex := 151, attributes := #[] }, { accessFlags := 18, nameIndex := 11, descriptorIndex := 12, attributes := #[] }, { accessFlags := 18, nameIndex := 15, descriptorIndex := 12, attributes := #[] }, { accessFlags := 18, nameIndex := 18, descriptorIndex := 12, attributes := #[] }, { accessFlags := 18, nameIndex := 21, descriptorIndex := 12, attributes := #[] }, { accessFlags := 18, nameIndex := 24, descriptorIndex := 12, attributes := #[] }, { accessFlags := 18, nameIndex := 27, descriptorIndex := 12, attributes := #[] }, { accessFlags := 18, nameIndex := 30, descriptorIndex := 12, attributes := #[] }, { accessFlags := 18, nameIndex := 33, descriptorIndex := 12, attributes := #[] }, { accessFlags := 18, nameIndex := 36, descriptorIndex := 12, attributes := #[] }, { accessFlags := 18, nameIndex := 39, descriptorIndex := 12, attributes := #[] }, { accessFlags := 18, nameIndex := 42, descriptorIndex := 12, attributes := #[] }, { accessFlags := 2, nameIndex := 164, descriptorIndex := 113, attributes := #[] }, { accessFlags := 2, nameIndex := 167, descriptorIndex := 113, attributes := #[] }, { accessFlags := 18, nameIndex := 45, descriptorIndex := 12, attributes := #[] }, { accessFlags := 18, nameIndex := 48, descriptorIndex := 12, attributes := #[] }, { accessFlags := 18, nameIndex := 51, descriptorIndex := 12, attributes := #[] }, { accessFlags := 18, nameIndex := 54, descriptorIndex := 12, attributes := #[] }, { accessFlags := 18, nameIndex := 57, descriptorIndex := 12, attributes := #[] }, { accessFlags := 18, nameIndex := 60, descriptorIndex := 12, attributes := #[] }, { accessFlags := 18, nameIndex := 63, descriptorIndex := 12, attributes := #[] }, { accessFlags := 18, nameIndex := 66, descriptorIndex := 12, attributes := #[] }, { accessFlags := 18, nameIndex := 69, descriptorIndex := 12, attributes := #[] }, { accessFlags := 18, nameIndex := 72, descriptorIndex := 12, attributes := #[] }, { accessFlags := 18, nameIndex := 75, descriptorIndex := 12, attributes := #[] }, { accessFlags := 2, nameIndex := 176, descriptorIndex := 113, attributes := #[] }, { accessFlags := 2, nameIndex := 173, descriptorIndex := 151, attributes := #[] }, { accessFlags := 18, nameIndex := 78, descriptorIndex := 12, attributes := #[] }, { accessFlags := 18, nameIndex := 81, descriptorIndex := 12, attributes := #[] }, { accessFlags := 18, nameIndex := 84, descriptorIndex := 85, attributes := #[] }, { accessFlags := 2, nameIndex := 295, descriptorIndex := 113, attributes := #[] }, { accessFlags := 18, nameIndex := 88, descriptorIndex := 12, attributes := #[] }, { accessFlags := 18, nameIndex := 91, descriptorIndex := 12, attributes := #[] }, { accessFlags := 2, nameIndex := 298, descriptorIndex := 113, attributes := #[] }, { accessFlags := 18, nameIndex := 94, descriptorIndex := 12, attributes := #[] }, { accessFlags := 18, nameIndex := 97, descriptorIndex := 12, attributes := #[] }, { accessFlags := 18, nameIndex := 100, descriptorIndex := 12, attributes := #[] }, { accessFlags := 18, nameIndex := 103, descriptorIndex := 12, attributes := #[] }, { accessFlags := 18, nameIndex := 106, descriptorIndex := 85, attributes := #[] }, { accessFlags := 18, nameIndex := 109, descriptorIndex := 12, attributes := #[] }, { accessFlags := 2, nameIndex := 207, descriptorIndex := 113, attributes := #[] }, { accessFlags := 2, nameIndex := 116, descriptorIndex := 113, attributes := #[] }])
  fields := #[{ name := "OP_CONST", type := .int, accessFlags := 25, slot := 0, constantValue := 0 }, { name := "OP_IN", type := .int, accessFlags := 25, slot := 1, constantValue := 0 }, { name := "OP_GET", type := .int, accessFlags := 25, slot := 2, constantValue := 0 }, { name := "OP_ADD", type := .int, accessFlags := 25, slot := 3, constantValue := 0 }, { name := "OP_SUB", type := .int, accessFlags := 25, slot := 4, constantValue := 0 }, { name := "OP_MUL", type := .int, accessFlags := 25, slot := 5, constantValue := 0 }, { name := "OP_AND", type := .int, accessFlags := 25, slot := 6, constantValue := 0 }, { name := "OP_OR", type := .int, accessFlags := 25, slot := 7, constantValue := 0 }, { name := "OP_XOR", type := .int, accessFlags := 25, slot := 8, constantValue := 0 }, { name := "OP_NEG", type := .int, accessFlags := 25, slot := 9, constantValue := 0 }, { name := "OP_SET", type := .int, accessFlags := 25, slot := 10, constantValue := 0 }, { name := "OP_OUT", type := .int, accessFlags := 25, slot := 11, constantValue := 0 }, { name := "OP_LOOP", type := .int, accessFlags := 25, slot := 12, constantValue := 0 }, { name := "OP_END", type := .int, accessFlags := 25, slot := 13, constantValue := 0 }, { name := "OK", type := .int, accessFlags := 25, slot := 14, constantValue := 0 }, { name := "ERR_FULL", type := .int, accessFlags := 25, slot := 15, constantValue := 0 }, { name := "ERR_OP", type := .int, accessFlags := 25, slot := 16, constantValue := 0 }, { name := "ERR_ARG", type := .int, accessFlags := 25, slot := 17, constantValue := 0 }, { name := "ERR_OPERAND", type := .int, accessFlags := 25, slot := 18, constantValue := 0 }, { name := "ERR_DEPTH", type := .int, accessFlags := 25, slot := 19, constantValue := 0 }, { name := "ERR_EMPTY", type := .int, accessFlags := 25, slot := 20, constantValue := 0 }, { name := "ERR_OPEN", type := .int, accessFlags := 25, slot := 21, constantValue := 0 }, { name := "ERR_NOT_COMPILED", type := .int, accessFlags := 25, slot := 22, constantValue := 0 }, { name := "MAX_DEPTH", type := .int, accessFlags := 25, slot := 23, constantValue := 0 }, { name := "MAX_COUNT", type := .int, accessFlags := 25, slot := 24, constantValue := 0 }, { name := "INPUTS", type := .int, accessFlags := 25, slot := 25, constantValue := 0 }, { name := "VARS", type := .int, accessFlags := 25, slot := 26, constantValue := 0 }, { name := "OUT_CAP", type := .int, accessFlags := 25, slot := 27, constantValue := 0 }, { name := "FIELD_OP", type := .int, accessFlags := 25, slot := 28, constantValue := 0 }, { name := "FIELD_X", type := .int, accessFlags := 25, slot := 29, constantValue := 0 }, { name := "FIELD_Y", type := .int, accessFlags := 25, slot := 30, constantValue := 0 }, { name := "cap", type := .int, accessFlags := 2, slot := 0, constantValue := 0 }, { name := "n", type := .int, accessFlags := 2, slot := 1, constantValue := 0 }, { name := "depth", type := .int, accessFlags := 2, slot := 2, constantValue := 0 }, { name := "compiled", type := .boolean, accessFlags := 2, slot := 3, constantValue := 0 }, { name := "pOp", type := (.array .int), accessFlags := 18, slot := 4, constantValue := 0 }, { name := "pX", type := (.array .int), accessFlags := 18, slot := 5, constantValue := 0 }, { name := "pY", type := (.array .int), accessFlags := 18, slot := 6, constantValue := 0 }, { name := "pEnc", type := (.array .int), accessFlags := 18, slot := 7, constantValue := 0 }, { name := "pMatch", type := (.array .int), accessFlags := 18, slot := 8, constantValue := 0 }, { name := "openStk", type := (.array .int), accessFlags := 18, slot := 9, constantValue := 0 }, { name := "inputs", type := (.array .int), accessFlags := 18, slot := 10, constantValue := 0 }, { name := "cOp", type := (.array .int), accessFlags := 18, slot := 11, constantValue := 0 }, { name := "cX", type := (.array .int), accessFlags := 18, slot := 12, constantValue := 0 }, { name := "cY", type := (.array .int), accessFlags := 18, slot := 13, constantValue := 0 }, { name := "rank", type := (.array .int), accessFlags := 18, slot := 14, constantValue := 0 }, { name := "len0", type := .int, accessFlags := 2, slot := 15, constantValue := 0 }, { name := "len1", type := .int, accessFlags := 2, slot := 16, constantValue := 0 }, { name := "slot", type := (.array .int), accessFlags := 18, slot := 17, constantValue := 0 }, { name := "cnt", type := (.array .int), accessFlags := 18, slot := 18, constantValue := 0 }, { name := "vars", type := (.array .int), accessFlags := 18, slot := 19, constantValue := 0 }, { name := "outCnt", type := (.array .int), accessFlags := 18, slot := 20, constantValue := 0 }, { name := "outVal", type := (.array .int), accessFlags := 18, slot := 21, constantValue := 0 }, { name := "varRes", type := (.array .int), accessFlags := 18, slot := 22, constantValue := 0 }, { name := "map", type := (.array .int), accessFlags := 18, slot := 23, constantValue := 0 }, { name := "setMask", type := (.array .int), accessFlags := 18, slot := 24, constantValue := 0 }, { name := "ver", type := (.array .int), accessFlags := 18, slot := 25, constantValue := 0 }, { name := "loopStk", type := (.array .int), accessFlags := 18, slot := 26, constantValue := 0 }, { name := "markStk", type := (.array .int), accessFlags := 18, slot := 27, constantValue := 0 }, { name := "cdepth", type := .int, accessFlags := 2, slot := 28, constantValue := 0 }, { name := "overflow", type := .boolean, accessFlags := 2, slot := 29, constantValue := 0 }, { name := "lv", type := (.array .int), accessFlags := 18, slot := 30, constantValue := 0 }, { name := "ls", type := (.array .int), accessFlags := 18, slot := 31, constantValue := 0 }, { name := "lrm", type := (.array .boolean), accessFlags := 18, slot := 32, constantValue := 0 }, { name := "lnum", type := .int, accessFlags := 2, slot := 33, constantValue := 0 }, { name := "sN", type := (.array .int), accessFlags := 18, slot := 34, constantValue := 0 }, { name := "sS", type := (.array .int), accessFlags := 18, slot := 35, constantValue := 0 }, { name := "sp", type := .int, accessFlags := 2, slot := 36, constantValue := 0 }, { name := "hOp", type := (.array .int), accessFlags := 18, slot := 37, constantValue := 0 }, { name := "hA", type := (.array .int), accessFlags := 18, slot := 38, constantValue := 0 }, { name := "hB", type := (.array .int), accessFlags := 18, slot := 39, constantValue := 0 }, { name := "hVal", type := (.array .int), accessFlags := 18, slot := 40, constantValue := 0 }, { name := "hUsed", type := (.array .boolean), accessFlags := 18, slot := 41, constantValue := 0 }, { name := "hLog", type := (.array .int), accessFlags := 18, slot := 42, constantValue := 0 }, { name := "hLogN", type := .int, accessFlags := 2, slot := 43, constantValue := 0 }, { name := "hFree", type := .int, accessFlags := 2, slot := 44, constantValue := 0 }]
  methods := #[k2m0, k2m1, k2m2, k2m3, k2m4, k2m5, k2m6, k2m7, k2m8, k2m9, k2m10, k2m11, k2m12, k2m13, k2m14, k2m15, k2m16, k2m17, k2m18, k2m19, k2m20, k2m21, k2m22, k2m23, k2m24, k2m25, k2m26, k2m27, k2m28, k2m29, k2m30, k2m31, k2m32, k2m33, k2m34, k2m35, k2m36, k2m37, k2m38, k2m39, k2m40, k2m41, k2m42, k2m43, k2m44, k2m45, k2m46, k2m47, k2m48, k2m49, k2m50, k2m51, k2m52, k2m53, k2m54, k2m55, k2m56, k2m57, k2m58, k2m59, k2m60, k2m61, k2m62, k2m63, k2m64, k2m65]
  instanceTypes := #[.int, .int, .int, .boolean, (.array .int), (.array .int), (.array .int), (.array .int), (.array .int), (.array .int), (.array .int), (.array .int), (.array .int), (.array .int), (.array .int), .int, .int, (.array .int), (.array .int), (.array .int), (.array .int), (.array .int), (.array .int), (.array .int), (.array .int), (.array .int), (.array .int), (.array .int), .int, .boolean, (.array .int), (.array .int), (.array .boolean), .int, (.array .int), (.array .int), .int, (.array .int), (.array .int), (.array .int), (.array .int), (.array .boolean), (.array .int), .int, .int]
  staticTypes := #[.int, .int, .int, .int, .int, .int, .int, .int, .int, .int, .int, .int, .int, .int, .int, .int, .int, .int, .int, .int, .int, .int, .int, .int, .int, .int, .int, .int, .int, .int, .int]
  resolved := Array.replicate 433 none
  statics := none }

def pool3 : Array CpInfo := pool [(1, u "java/lang/Cloneable"), (0, .class_ 1), (0, u "java/lang/Object"), (0, .class_ 3)] 3

/-- java/lang/Cloneable -/
def k3 : Class := { plain "java/lang/Cloneable" (some 0) with
  accessFlags := 1537
  interfaces := #[]
  cf := some (fileOf pool3 2 #[] #[] 1537 4 #[] #[])
  fields := #[]
  methods := #[]
  instanceTypes := #[]
  staticTypes := #[]
  resolved := Array.replicate 8 none
  statics := none }

def pool4 : Array CpInfo := pool [(1, u "java/io/Serializable"), (0, .class_ 1), (0, u "java/lang/Object"), (0, .class_ 3)] 3

/-- java/io/Serializable -/
def k4 : Class := { plain "java/io/Serializable" (some 0) with
  accessFlags := 1537
  interfaces := #[]
  cf := some (fileOf pool4 2 #[] #[] 1537 4 #[] #[])
  fields := #[]
  methods := #[]
  instanceTypes := #[]
  staticTypes := #[]
  resolved := Array.replicate 8 none
  statics := none }

/-- the primitive boolean -/
def k5 : Class := { plain "boolean" none with kind := .primitive 'Z', accessFlags := 0x411 }
/-- [Z -/
def k6 : Class := { plain "[Z" (some 0) with kind := .array 5 .boolean, interfaces := #[3, 4], accessFlags := 1041 }

/-- the primitive byte -/
def k7 : Class := { plain "byte" none with kind := .primitive 'B', accessFlags := 0x411 }
/-- [B -/
def k8 : Class := { plain "[B" (some 0) with kind := .array 7 .byte, interfaces := #[3, 4], accessFlags := 1041 }

/-- the primitive int -/
def k9 : Class := { plain "int" none with kind := .primitive 'I', accessFlags := 0x411 }
/-- [I -/
def k10 : Class := { plain "[I" (some 0) with kind := .array 9 .int, interfaces := #[3, 4], accessFlags := 1041 }

def heap : Heap := #[]
def classes : Array Class := #[k0, k1, k2, k3, k4, k5, k6, k7, k8, k9, k10]
def interned : List (Array UInt16 × Addr) := []
def slotsUsed : Nat := 0
def theMethod : MethodId := ⟨1, 1⟩
def args0 : Array Value := #[.int 5, .int 5, .int 5, .int 5]
def aboutOver (below : List Frame) : State where
  vm := { classes := classes, interned := interned.toArray }
  heap := heap
  slotsUsed := slotsUsed
  threads := #[{ frames := .invoking theMethod args0 :: below }]
def below0 : List Frame := [.native { method := ⟨0, 0⟩, args := #[] }]
def about1 : State := aboutOver below0
def p0 : Program := .bare "" "" ""
def e0 : Env := launch0.env 0 0 0
theorem w_frames : about1.frames = Frame.invoking theMethod args0 :: below0 := rfl
set_option maxRecDepth 65536 in
theorem w_args : argsFit about1.vm theMethod args0 = true := by decide +kernel
set_option maxRecDepth 65536 in
theorem w_heap : heapFits about1 = true := by decide +kernel
set_option maxRecDepth 65536 in
theorem w_runnable : about1.curStatus? = some .runnable := by decide +kernel
set_option maxRecDepth 65536 in
theorem w_alone : about1.alone = true := by decide +kernel
set_option maxRecDepth 65536 in
theorem w_named : about1.methodNamed? x = some theMethod := by decide +kernel
set_option maxRecDepth 65536 in
theorem w_hears : about1.hears theMethod below0 = true := by decide +kernel
set_option maxRecDepth 65536 in
theorem w_ripe : about1.ripe theMethod args0 below0 = true := by decide +kernel
theorem w_running : about1.status = .running := rfl
set_option maxRecDepth 65536 in
theorem w_room : about1.hasRoom e0.platform room_1 = true :=
  launch0.hasRoom_least _ room_1 (by decide +kernel) (by decide +kernel) (by decide +kernel) (by decide +kernel) (by decide +kernel) (by decide +kernel)
theorem allAtoms_all (ts : List Jvm.Cond) (a : Array Jvm.Value) (st : Jvm.State) : (allAtoms ts).before a st = ts.all (fun c => c.before a st) := by
  induction ts with
  | nil => rfl
  | cons c t ih =>
    show (Jvm.Cond.and c (allAtoms t)).before a st = _
    rw [Jvm.Cond.before_and, ih, List.all_cons]
def words1 : List Jvm.Cond := Jvm.Cond.code x code maxLocals ret :: tables_1
/-- a 'code' word, met by the world's own term for the bytes: nothing is compared byte by byte -/
theorem code_word {y : MethodName} {bytes : ByteArray} {mx : Nat} {rt : Option FieldType} {a : Array Value} {s : State} {m : MethodId} {meth : Method} {c : Code} (h1 : s.methodNamed? y = some m) (h2 : s.vm.method? m = some meth) (h3 : meth.code = some c) (h4 : c.code = bytes)
    (h5 : (c.maxLocals == mx && c.exceptionTable.isEmpty && decide (c.maxStack ≤ mostOperands) && decide (meth.sig.returnType = rt) && !meth.locks && decide (parseMethodDescriptor y.desc = some meth.sig)) = true) : (Jvm.Cond.code y bytes mx rt).before a s = true := by
  simp only [Bool.and_eq_true, beq_iff_eq, Bool.not_eq_true', decide_eq_true_eq] at h5
  obtain ⟨⟨⟨⟨⟨g1, g2⟩, g3⟩, g4⟩, g5⟩, g6⟩ := h5
  simp [Cond.before, Cond.holds, Cond.value, h1, h2, h3, h4, g1, g2, g3, g4, g5, g6]
def isCode : Jvm.Cond → Bool
  | .code _ _ _ _ => true
  | _ => false
theorem all_split {L : List Jvm.Cond} {P : Jvm.Cond → Bool} (h1 : L.all (fun c => isCode c || P c) = true) (h2 : ∀ c ∈ L.filter isCode, P c = true) : L.all P = true := by
  refine List.all_eq_true.mpr fun c hc => ?_
  have h := List.all_eq_true.mp h1 c hc
  rcases Bool.eq_false_or_eq_true (isCode c) with hi | hi
  · exact h2 c (List.mem_filter.mpr ⟨hc, hi⟩)
  · simpa [hi] using h
set_option maxRecDepth 65536 in
theorem w_c0 : (Jvm.Cond.code x code maxLocals ret).before args0 about1 = true := code_word (m := ⟨1, 1⟩) (meth := k1m1) (c := k1c1) (by decide +kernel) rfl rfl rfl (by decide +kernel)
set_option maxRecDepth 65536 in
theorem w_c1 : (Jvm.Cond.code ({ cls := "RankReassociator", name := "<init>", desc := "(I)V" } : Jvm.MethodName) prog_1_method_1_code (3 : Nat) (Option.none : Option Jvm.ClassFile.FieldType)).before args0 about1 = true := code_word (m := ⟨2, 0⟩) (meth := k2m0) (c := k2c0) (by decide +kernel) rfl rfl rfl (by decide +kernel)
set_option maxRecDepth 65536 in
theorem w_c2 : (Jvm.Cond.code ({ cls := "java/lang/Object", name := "<init>", desc := "()V" } : Jvm.MethodName) object_method_1_code (1 : Nat) (Option.none : Option Jvm.ClassFile.FieldType)).before args0 about1 = true := code_word (m := ⟨0, 0⟩) (meth := k0m0) (c := k0c0) (by decide +kernel) rfl rfl rfl (by decide +kernel)
set_option maxRecDepth 65536 in
theorem w_c3 : (Jvm.Cond.code ({ cls := "RankReassociator", name := "setInput", desc := "(II)Z" } : Jvm.MethodName) prog_1_method_15_code (3 : Nat) (Option.some Jvm.ClassFile.FieldType.boolean)).before args0 about1 = true := code_word (m := ⟨2, 9⟩) (meth := k2m9) (c := k2c9) (by decide +kernel) rfl rfl rfl (by decide +kernel)
set_option maxRecDepth 65536 in
theorem w_c4 : (Jvm.Cond.code ({ cls := "RankReassociator", name := "add", desc := "(III)I" } : Jvm.MethodName) prog_1_method_3_code (4 : Nat) (Option.some Jvm.ClassFile.FieldType.int)).before args0 about1 = true := code_word (m := ⟨2, 1⟩) (meth := k2m1) (c := k2c1) (by decide +kernel) rfl rfl rfl (by decide +kernel)
set_option maxRecDepth 65536 in
theorem w_c5 : (Jvm.Cond.code ({ cls := "RankReassociator", name := "argumentOk", desc := "(II)Z" } : Jvm.MethodName) prog_1_method_4_code (3 : Nat) (Option.some Jvm.ClassFile.FieldType.boolean)).before args0 about1 = true := code_word (m := ⟨2, 2⟩) (meth := k2m2) (c := k2c2) (by decide +kernel) rfl rfl rfl (by decide +kernel)
set_option maxRecDepth 65536 in
theorem w_c6 : (Jvm.Cond.code ({ cls := "RankReassociator", name := "operandsOk", desc := "(III)Z" } : Jvm.MethodName) prog_1_method_5_code (4 : Nat) (Option.some Jvm.ClassFile.FieldType.boolean)).before args0 about1 = true := code_word (m := ⟨2, 3⟩) (meth := k2m3) (c := k2c3) (by decide +kernel) rfl rfl rfl (by decide +kernel)
set_option maxRecDepth 65536 in
theorem w_c7 : (Jvm.Cond.code ({ cls := "RankReassociator", name := "store", desc := "(III)I" } : Jvm.MethodName) prog_1_method_10_code (6 : Nat) (Option.some Jvm.ClassFile.FieldType.int)).before args0 about1 = true := code_word (m := ⟨2, 8⟩) (meth := k2m8) (c := k2c8) (by decide +kernel) rfl rfl rfl (by decide +kernel)
set_option maxRecDepth 65536 in
theorem w_c8 : (Jvm.Cond.code ({ cls := "RankReassociator", name := "usesX", desc := "(I)Z" } : Jvm.MethodName) prog_1_method_9_code (2 : Nat) (Option.some Jvm.ClassFile.FieldType.boolean)).before args0 about1 = true := code_word (m := ⟨2, 7⟩) (meth := k2m7) (c := k2c7) (by decide +kernel) rfl rfl rfl (by decide +kernel)
set_option maxRecDepth 65536 in
theorem w_c9 : (Jvm.Cond.code ({ cls := "RankReassociator", name := "usesY", desc := "(I)Z" } : Jvm.MethodName) prog_1_method_8_code (2 : Nat) (Option.some Jvm.ClassFile.FieldType.boolean)).before args0 about1 = true := code_word (m := ⟨2, 6⟩) (meth := k2m6) (c := k2c6) (by decide +kernel) rfl rfl rfl (by decide +kernel)
set_option maxRecDepth 65536 in
theorem w_c10 : (Jvm.Cond.code ({ cls := "RankReassociator", name := "visible", desc := "(I)Z" } : Jvm.MethodName) prog_1_method_6_code (4 : Nat) (Option.some Jvm.ClassFile.FieldType.boolean)).before args0 about1 = true := code_word (m := ⟨2, 4⟩) (meth := k2m4) (c := k2c4) (by decide +kernel) rfl rfl rfl (by decide +kernel)
set_option maxRecDepth 65536 in
theorem w_c11 : (Jvm.Cond.code ({ cls := "RankReassociator", name := "isOpen", desc := "(I)Z" } : Jvm.MethodName) prog_1_method_7_code (3 : Nat) (Option.some Jvm.ClassFile.FieldType.boolean)).before args0 about1 = true := code_word (m := ⟨2, 5⟩) (meth := k2m5) (c := k2c5) (by decide +kernel) rfl rfl rfl (by decide +kernel)
set_option maxRecDepth 65536 in
theorem w_c12 : (Jvm.Cond.code ({ cls := "RankReassociator", name := "compile", desc := "()I" } : Jvm.MethodName) prog_1_method_17_code (1 : Nat) (Option.some Jvm.ClassFile.FieldType.int)).before args0 about1 = true := code_word (m := ⟨2, 10⟩) (meth := k2m10) (c := k2c10) (by decide +kernel) rfl rfl rfl (by decide +kernel)
set_option maxRecDepth 65536 in
theorem w_c13 : (Jvm.Cond.code ({ cls := "RankReassociator", name := "buildVersion0", desc := "()V" } : Jvm.MethodName) prog_1_method_23_code (3 : Nat) (Option.none : Option Jvm.ClassFile.FieldType)).before args0 about1 = true := code_word (m := ⟨2, 15⟩) (meth := k2m15) (c := k2c15) (by decide +kernel) rfl rfl rfl (by decide +kernel)
set_option maxRecDepth 65536 in
theorem w_c14 : (Jvm.Cond.code ({ cls := "RankReassociator", name := "buildVersion1", desc := "()V" } : Jvm.MethodName) prog_1_method_25_code (2 : Nat) (Option.none : Option Jvm.ClassFile.FieldType)).before args0 about1 = true := code_word (m := ⟨2, 16⟩) (meth := k2m16) (c := k2c16) (by decide +kernel) rfl rfl rfl (by decide +kernel)
set_option maxRecDepth 65536 in
theorem w_c15 : (Jvm.Cond.code ({ cls := "RankReassociator", name := "undoHash", desc := "(I)V" } : Jvm.MethodName) prog_1_method_71_code (4 : Nat) (Option.none : Option Jvm.ClassFile.FieldType)).before args0 about1 = true := code_word (m := ⟨2, 57⟩) (meth := k2m57) (c := k2c57) (by decide +kernel) rfl rfl rfl (by decide +kernel)
set_option maxRecDepth 65536 in
theorem w_c16 : (Jvm.Cond.code ({ cls := "RankReassociator", name := "computeSetMasks", desc := "()V" } : Jvm.MethodName) prog_1_method_26_code (5 : Nat) (Option.none : Option Jvm.ClassFile.FieldType)).before args0 about1 = true := code_word (m := ⟨2, 17⟩) (meth := k2m17) (c := k2c17) (by decide +kernel) rfl rfl rfl (by decide +kernel)
set_option maxRecDepth 65536 in
theorem w_c17 : (Jvm.Cond.code ({ cls := "RankReassociator", name := "translate", desc := "(I)V" } : Jvm.MethodName) prog_1_method_27_code (4 : Nat) (Option.none : Option Jvm.ClassFile.FieldType)).before args0 about1 = true := code_word (m := ⟨2, 18⟩) (meth := k2m18) (c := k2c18) (by decide +kernel) rfl rfl rfl (by decide +kernel)
set_option maxRecDepth 65536 in
theorem w_c18 : (Jvm.Cond.code ({ cls := "RankReassociator", name := "buildValue", desc := "(I)I" } : Jvm.MethodName) prog_1_method_33_code (5 : Nat) (Option.some Jvm.ClassFile.FieldType.int)).before args0 about1 = true := code_word (m := ⟨2, 24⟩) (meth := k2m24) (c := k2c24) (by decide +kernel) rfl rfl rfl (by decide +kernel)
set_option maxRecDepth 65536 in
theorem w_c19 : (Jvm.Cond.code ({ cls := "RankReassociator", name := "makeLeaf", desc := "(IIII)I" } : Jvm.MethodName) prog_1_method_36_code (7 : Nat) (Option.some Jvm.ClassFile.FieldType.int)).before args0 about1 = true := code_word (m := ⟨2, 27⟩) (meth := k2m27) (c := k2c27) (by decide +kernel) rfl rfl rfl (by decide +kernel)
set_option maxRecDepth 65536 in
theorem w_c20 : (Jvm.Cond.code ({ cls := "RankReassociator", name := "lookup", desc := "(III)I" } : Jvm.MethodName) prog_1_method_69_code (7 : Nat) (Option.some Jvm.ClassFile.FieldType.int)).before args0 about1 = true := code_word (m := ⟨2, 55⟩) (meth := k2m55) (c := k2c55) (by decide +kernel) rfl rfl rfl (by decide +kernel)
set_option maxRecDepth 65536 in
theorem w_c21 : (Jvm.Cond.code ({ cls := "RankReassociator", name := "hashOf", desc := "(III)I" } : Jvm.MethodName) prog_1_method_68_code (5 : Nat) (Option.some Jvm.ClassFile.FieldType.int)).before args0 about1 = true := code_word (m := ⟨2, 54⟩) (meth := k2m54) (c := k2c54) (by decide +kernel) rfl rfl rfl (by decide +kernel)
set_option maxRecDepth 65536 in
theorem w_c22 : (Jvm.Cond.code ({ cls := "RankReassociator", name := "emit", desc := "(III)I" } : Jvm.MethodName) prog_1_method_31_code (5 : Nat) (Option.some Jvm.ClassFile.FieldType.int)).before args0 about1 = true := code_word (m := ⟨2, 22⟩) (meth := k2m22) (c := k2c22) (by decide +kernel) rfl rfl rfl (by decide +kernel)
set_option maxRecDepth 65536 in
theorem w_c23 : (Jvm.Cond.code ({ cls := "RankReassociator", name := "insert", desc := "(IIII)V" } : Jvm.MethodName) prog_1_method_70_code (6 : Nat) (Option.none : Option Jvm.ClassFile.FieldType)).before args0 about1 = true := code_word (m := ⟨2, 56⟩) (meth := k2m56) (c := k2c56) (by decide +kernel) rfl rfl rfl (by decide +kernel)
set_option maxRecDepth 65536 in
theorem w_c24 : (Jvm.Cond.code ({ cls := "RankReassociator", name := "makeConst", desc := "(I)I" } : Jvm.MethodName) prog_1_method_35_code (2 : Nat) (Option.some Jvm.ClassFile.FieldType.int)).before args0 about1 = true := code_word (m := ⟨2, 26⟩) (meth := k2m26) (c := k2c26) (by decide +kernel) rfl rfl rfl (by decide +kernel)
set_option maxRecDepth 65536 in
theorem w_c25 : (Jvm.Cond.code ({ cls := "RankReassociator", name := "enterLoop", desc := "(I)V" } : Jvm.MethodName) prog_1_method_29_code (4 : Nat) (Option.none : Option Jvm.ClassFile.FieldType)).before args0 about1 = true := code_word (m := ⟨2, 20⟩) (meth := k2m20) (c := k2c20) (by decide +kernel) rfl rfl rfl (by decide +kernel)
set_option maxRecDepth 65536 in
theorem w_c26 : (Jvm.Cond.code ({ cls := "RankReassociator", name := "familyOf", desc := "(I)I" } : Jvm.MethodName) prog_1_method_34_code (2 : Nat) (Option.some Jvm.ClassFile.FieldType.int)).before args0 about1 = true := code_word (m := ⟨2, 25⟩) (meth := k2m25) (c := k2c25) (by decide +kernel) rfl rfl rfl (by decide +kernel)
set_option maxRecDepth 65536 in
theorem w_c27 : (Jvm.Cond.code ({ cls := "RankReassociator", name := "flatten", desc := "(II)Z" } : Jvm.MethodName) prog_1_method_56_code (8 : Nat) (Option.some Jvm.ClassFile.FieldType.boolean)).before args0 about1 = true := code_word (m := ⟨2, 43⟩) (meth := k2m43) (c := k2c43) (by decide +kernel) rfl rfl rfl (by decide +kernel)
set_option maxRecDepth 65536 in
theorem w_c28 : (Jvm.Cond.code ({ cls := "RankReassociator", name := "push", desc := "(II)Z" } : Jvm.MethodName) prog_1_method_59_code (3 : Nat) (Option.some Jvm.ClassFile.FieldType.boolean)).before args0 about1 = true := code_word (m := ⟨2, 46⟩) (meth := k2m46) (c := k2c46) (by decide +kernel) rfl rfl rfl (by decide +kernel)
set_option maxRecDepth 65536 in
theorem w_c29 : (Jvm.Cond.code ({ cls := "RankReassociator", name := "expand", desc := "(III)I" } : Jvm.MethodName) prog_1_method_57_code (5 : Nat) (Option.some Jvm.ClassFile.FieldType.int)).before args0 about1 = true := code_word (m := ⟨2, 44⟩) (meth := k2m44) (c := k2c44) (by decide +kernel) rfl rfl rfl (by decide +kernel)
set_option maxRecDepth 65536 in
theorem w_c30 : (Jvm.Cond.code ({ cls := "RankReassociator", name := "expandSum", desc := "(III)I" } : Jvm.MethodName) prog_1_method_58_code (5 : Nat) (Option.some Jvm.ClassFile.FieldType.int)).before args0 about1 = true := code_word (m := ⟨2, 45⟩) (meth := k2m45) (c := k2c45) (by decide +kernel) rfl rfl rfl (by decide +kernel)
set_option maxRecDepth 65536 in
theorem w_c31 : (Jvm.Cond.code ({ cls := "RankReassociator", name := "mapAt", desc := "(I)I" } : Jvm.MethodName) prog_1_method_32_code (2 : Nat) (Option.some Jvm.ClassFile.FieldType.int)).before args0 about1 = true := code_word (m := ⟨2, 23⟩) (meth := k2m23) (c := k2c23) (by decide +kernel) rfl rfl rfl (by decide +kernel)
set_option maxRecDepth 65536 in
theorem w_c32 : (Jvm.Cond.code ({ cls := "RankReassociator", name := "addLeaf", desc := "(II)Z" } : Jvm.MethodName) prog_1_method_60_code (3 : Nat) (Option.some Jvm.ClassFile.FieldType.boolean)).before args0 about1 = true := code_word (m := ⟨2, 47⟩) (meth := k2m47) (c := k2c47) (by decide +kernel) rfl rfl rfl (by decide +kernel)
set_option maxRecDepth 65536 in
theorem w_c33 : (Jvm.Cond.code ({ cls := "RankReassociator", name := "sortLeaves", desc := "()V" } : Jvm.MethodName) prog_1_method_62_code (5 : Nat) (Option.none : Option Jvm.ClassFile.FieldType)).before args0 about1 = true := code_word (m := ⟨2, 48⟩) (meth := k2m48) (c := k2c48) (by decide +kernel) rfl rfl rfl (by decide +kernel)
set_option maxRecDepth 65536 in
theorem w_c34 : (Jvm.Cond.code ({ cls := "RankReassociator", name := "before", desc := "(II)Z" } : Jvm.MethodName) prog_1_method_63_code (5 : Nat) (Option.some Jvm.ClassFile.FieldType.boolean)).before args0 about1 = true := code_word (m := ⟨2, 49⟩) (meth := k2m49) (c := k2c49) (by decide +kernel) rfl rfl rfl (by decide +kernel)
set_option maxRecDepth 65536 in
theorem w_c35 : (Jvm.Cond.code ({ cls := "RankReassociator", name := "rankOf", desc := "(I)I" } : Jvm.MethodName) prog_1_method_51_code (2 : Nat) (Option.some Jvm.ClassFile.FieldType.int)).before args0 about1 = true := code_word (m := ⟨2, 38⟩) (meth := k2m38) (c := k2c38) (by decide +kernel) rfl rfl rfl (by decide +kernel)
set_option maxRecDepth 65536 in
theorem w_c36 : (Jvm.Cond.code ({ cls := "RankReassociator", name := "rebuildSum", desc := "()I" } : Jvm.MethodName) prog_1_method_64_code (4 : Nat) (Option.some Jvm.ClassFile.FieldType.int)).before args0 about1 = true := code_word (m := ⟨2, 50⟩) (meth := k2m50) (c := k2c50) (by decide +kernel) rfl rfl rfl (by decide +kernel)
set_option maxRecDepth 65536 in
theorem w_c37 : (Jvm.Cond.code ({ cls := "RankReassociator", name := "isConst", desc := "(I)Z" } : Jvm.MethodName) prog_1_method_47_code (2 : Nat) (Option.some Jvm.ClassFile.FieldType.boolean)).before args0 about1 = true := code_word (m := ⟨2, 34⟩) (meth := k2m34) (c := k2c34) (by decide +kernel) rfl rfl rfl (by decide +kernel)
set_option maxRecDepth 65536 in
theorem w_c38 : (Jvm.Cond.code ({ cls := "RankReassociator", name := "removeRepeats", desc := "(I)V" } : Jvm.MethodName) prog_1_method_67_code (4 : Nat) (Option.none : Option Jvm.ClassFile.FieldType)).before args0 about1 = true := code_word (m := ⟨2, 53⟩) (meth := k2m53) (c := k2c53) (by decide +kernel) rfl rfl rfl (by decide +kernel)
set_option maxRecDepth 65536 in
theorem w_c39 : (Jvm.Cond.code ({ cls := "RankReassociator", name := "sumStep", desc := "(III)I" } : Jvm.MethodName) prog_1_method_65_code (4 : Nat) (Option.some Jvm.ClassFile.FieldType.int)).before args0 about1 = true := code_word (m := ⟨2, 51⟩) (meth := k2m51) (c := k2c51) (by decide +kernel) rfl rfl rfl (by decide +kernel)
set_option maxRecDepth 65536 in
theorem w_c40 : (Jvm.Cond.code ({ cls := "RankReassociator", name := "makeBin", desc := "(III)I" } : Jvm.MethodName) prog_1_method_38_code (7 : Nat) (Option.some Jvm.ClassFile.FieldType.int)).before args0 about1 = true := code_word (m := ⟨2, 28⟩) (meth := k2m28) (c := k2c28) (by decide +kernel) rfl rfl rfl (by decide +kernel)
set_option maxRecDepth 65536 in
theorem w_c41 : (Jvm.Cond.code ({ cls := "RankReassociator", name := "simplify", desc := "(III)I" } : Jvm.MethodName) prog_1_method_40_code (4 : Nat) (Option.some Jvm.ClassFile.FieldType.int)).before args0 about1 = true := code_word (m := ⟨2, 30⟩) (meth := k2m30) (c := k2c30) (by decide +kernel) rfl rfl rfl (by decide +kernel)
set_option maxRecDepth 65536 in
theorem w_c42 : (Jvm.Cond.code ({ cls := "RankReassociator", name := "simplifyAdd", desc := "(II)I" } : Jvm.MethodName) prog_1_method_41_code (3 : Nat) (Option.some Jvm.ClassFile.FieldType.int)).before args0 about1 = true := code_word (m := ⟨2, 31⟩) (meth := k2m31) (c := k2c31) (by decide +kernel) rfl rfl rfl (by decide +kernel)
set_option maxRecDepth 65536 in
theorem w_c43 : (Jvm.Cond.code ({ cls := "RankReassociator", name := "isConstValue", desc := "(II)Z" } : Jvm.MethodName) prog_1_method_49_code (3 : Nat) (Option.some Jvm.ClassFile.FieldType.boolean)).before args0 about1 = true := code_word (m := ⟨2, 36⟩) (meth := k2m36) (c := k2c36) (by decide +kernel) rfl rfl rfl (by decide +kernel)
set_option maxRecDepth 65536 in
theorem w_c44 : (Jvm.Cond.code ({ cls := "RankReassociator", name := "isNegOf", desc := "(II)Z" } : Jvm.MethodName) prog_1_method_50_code (3 : Nat) (Option.some Jvm.ClassFile.FieldType.boolean)).before args0 about1 = true := code_word (m := ⟨2, 37⟩) (meth := k2m37) (c := k2c37) (by decide +kernel) rfl rfl rfl (by decide +kernel)
set_option maxRecDepth 65536 in
theorem w_c45 : (Jvm.Cond.code ({ cls := "RankReassociator", name := "isCommutative", desc := "(I)Z" } : Jvm.MethodName) prog_1_method_52_code (2 : Nat) (Option.some Jvm.ClassFile.FieldType.boolean)).before args0 about1 = true := code_word (m := ⟨2, 39⟩) (meth := k2m39) (c := k2c39) (by decide +kernel) rfl rfl rfl (by decide +kernel)
set_option maxRecDepth 65536 in
theorem w_c46 : (Jvm.Cond.code ({ cls := "RankReassociator", name := "emitBin", desc := "(III)I" } : Jvm.MethodName) prog_1_method_39_code (8 : Nat) (Option.some Jvm.ClassFile.FieldType.int)).before args0 about1 = true := code_word (m := ⟨2, 29⟩) (meth := k2m29) (c := k2c29) (by decide +kernel) rfl rfl rfl (by decide +kernel)
set_option maxRecDepth 65536 in
theorem w_c47 : (Jvm.Cond.code ({ cls := "RankReassociator", name := "simplifySub", desc := "(II)I" } : Jvm.MethodName) prog_1_method_42_code (3 : Nat) (Option.some Jvm.ClassFile.FieldType.int)).before args0 about1 = true := code_word (m := ⟨2, 32⟩) (meth := k2m32) (c := k2c32) (by decide +kernel) rfl rfl rfl (by decide +kernel)
set_option maxRecDepth 65536 in
theorem w_c48 : (Jvm.Cond.code ({ cls := "RankReassociator", name := "constOf", desc := "(I)I" } : Jvm.MethodName) prog_1_method_48_code (2 : Nat) (Option.some Jvm.ClassFile.FieldType.int)).before args0 about1 = true := code_word (m := ⟨2, 35⟩) (meth := k2m35) (c := k2c35) (by decide +kernel) rfl rfl rfl (by decide +kernel)
set_option maxRecDepth 65536 in
theorem w_c49 : (Jvm.Cond.code ({ cls := "RankReassociator", name := "translateSet", desc := "(I)V" } : Jvm.MethodName) prog_1_method_28_code (4 : Nat) (Option.none : Option Jvm.ClassFile.FieldType)).before args0 about1 = true := code_word (m := ⟨2, 19⟩) (meth := k2m19) (c := k2c19) (by decide +kernel) rfl rfl rfl (by decide +kernel)
set_option maxRecDepth 65536 in
theorem w_c50 : (Jvm.Cond.code ({ cls := "RankReassociator", name := "leaveLoop", desc := "()V" } : Jvm.MethodName) prog_1_method_30_code (3 : Nat) (Option.none : Option Jvm.ClassFile.FieldType)).before args0 about1 = true := code_word (m := ⟨2, 21⟩) (meth := k2m21) (c := k2c21) (by decide +kernel) rfl rfl rfl (by decide +kernel)
set_option maxRecDepth 65536 in
theorem w_c51 : (Jvm.Cond.code ({ cls := "RankReassociator", name := "rebuildChain", desc := "(I)I" } : Jvm.MethodName) prog_1_method_66_code (6 : Nat) (Option.some Jvm.ClassFile.FieldType.int)).before args0 about1 = true := code_word (m := ⟨2, 52⟩) (meth := k2m52) (c := k2c52) (by decide +kernel) rfl rfl rfl (by decide +kernel)
set_option maxRecDepth 65536 in
theorem w_c52 : (Jvm.Cond.code ({ cls := "RankReassociator", name := "identityOf", desc := "(I)I" } : Jvm.MethodName) prog_1_method_54_code (2 : Nat) (Option.some Jvm.ClassFile.FieldType.int)).before args0 about1 = true := code_word (m := ⟨2, 41⟩) (meth := k2m41) (c := k2c41) (by decide +kernel) rfl rfl rfl (by decide +kernel)
set_option maxRecDepth 65536 in
theorem w_c53 : (Jvm.Cond.code ({ cls := "RankReassociator", name := "absorberOf", desc := "(I)I" } : Jvm.MethodName) prog_1_method_55_code (2 : Nat) (Option.some Jvm.ClassFile.FieldType.int)).before args0 about1 = true := code_word (m := ⟨2, 42⟩) (meth := k2m42) (c := k2c42) (by decide +kernel) rfl rfl rfl (by decide +kernel)
set_option maxRecDepth 65536 in
theorem w_c54 : (Jvm.Cond.code ({ cls := "RankReassociator", name := "simplifyMul", desc := "(II)I" } : Jvm.MethodName) prog_1_method_43_code (3 : Nat) (Option.some Jvm.ClassFile.FieldType.int)).before args0 about1 = true := code_word (m := ⟨2, 33⟩) (meth := k2m33) (c := k2c33) (by decide +kernel) rfl rfl rfl (by decide +kernel)
set_option maxRecDepth 65536 in
theorem w_c55 : (Jvm.Cond.code ({ cls := "RankReassociator", name := "run", desc := "()I" } : Jvm.MethodName) prog_1_method_19_code (1 : Nat) (Option.some Jvm.ClassFile.FieldType.int)).before args0 about1 = true := code_word (m := ⟨2, 11⟩) (meth := k2m11) (c := k2c11) (by decide +kernel) rfl rfl rfl (by decide +kernel)
set_option maxRecDepth 65536 in
theorem w_c56 : (Jvm.Cond.code ({ cls := "RankReassociator", name := "execute", desc := "(I)V" } : Jvm.MethodName) prog_1_method_72_code (8 : Nat) (Option.none : Option Jvm.ClassFile.FieldType)).before args0 about1 = true := code_word (m := ⟨2, 58⟩) (meth := k2m58) (c := k2c58) (by decide +kernel) rfl rfl rfl (by decide +kernel)
set_option maxRecDepth 65536 in
theorem w_c57 : (Jvm.Cond.code ({ cls := "RankReassociator", name := "resetRun", desc := "(III)V" } : Jvm.MethodName) prog_1_method_73_code (5 : Nat) (Option.none : Option Jvm.ClassFile.FieldType)).before args0 about1 = true := code_word (m := ⟨2, 59⟩) (meth := k2m59) (c := k2c59) (by decide +kernel) rfl rfl rfl (by decide +kernel)
set_option maxRecDepth 65536 in
theorem w_c58 : (Jvm.Cond.code ({ cls := "RankReassociator", name := "step", desc := "(II)I" } : Jvm.MethodName) prog_1_method_74_code (5 : Nat) (Option.some Jvm.ClassFile.FieldType.int)).before args0 about1 = true := code_word (m := ⟨2, 60⟩) (meth := k2m60) (c := k2c60) (by decide +kernel) rfl rfl rfl (by decide +kernel)
set_option maxRecDepth 65536 in
theorem w_c59 : (Jvm.Cond.code ({ cls := "RankReassociator", name := "evalValue", desc := "(I)I" } : Jvm.MethodName) prog_1_method_78_code (5 : Nat) (Option.some Jvm.ClassFile.FieldType.int)).before args0 about1 = true := code_word (m := ⟨2, 64⟩) (meth := k2m64) (c := k2c64) (by decide +kernel) rfl rfl rfl (by decide +kernel)
set_option maxRecDepth 65536 in
theorem w_c60 : (Jvm.Cond.code ({ cls := "RankReassociator", name := "stepLoop", desc := "(I)I" } : Jvm.MethodName) prog_1_method_75_code (4 : Nat) (Option.some Jvm.ClassFile.FieldType.int)).before args0 about1 = true := code_word (m := ⟨2, 61⟩) (meth := k2m61) (c := k2c61) (by decide +kernel) rfl rfl rfl (by decide +kernel)
set_option maxRecDepth 65536 in
theorem w_c61 : (Jvm.Cond.code ({ cls := "RankReassociator", name := "slotAt", desc := "(I)I" } : Jvm.MethodName) prog_1_method_79_code (2 : Nat) (Option.some Jvm.ClassFile.FieldType.int)).before args0 about1 = true := code_word (m := ⟨2, 65⟩) (meth := k2m65) (c := k2c65) (by decide +kernel) rfl rfl rfl (by decide +kernel)
set_option maxRecDepth 65536 in
theorem w_c62 : (Jvm.Cond.code ({ cls := "RankReassociator", name := "fold", desc := "(III)I" } : Jvm.MethodName) prog_1_method_53_code (4 : Nat) (Option.some Jvm.ClassFile.FieldType.int)).before args0 about1 = true := code_word (m := ⟨2, 40⟩) (meth := k2m40) (c := k2c40) (by decide +kernel) rfl rfl rfl (by decide +kernel)
set_option maxRecDepth 65536 in
theorem w_c63 : (Jvm.Cond.code ({ cls := "RankReassociator", name := "stepOut", desc := "(II)V" } : Jvm.MethodName) prog_1_method_77_code (5 : Nat) (Option.none : Option Jvm.ClassFile.FieldType)).before args0 about1 = true := code_word (m := ⟨2, 63⟩) (meth := k2m63) (c := k2c63) (by decide +kernel) rfl rfl rfl (by decide +kernel)
set_option maxRecDepth 65536 in
theorem w_c64 : (Jvm.Cond.code ({ cls := "RankReassociator", name := "stepEnd", desc := "(I)I" } : Jvm.MethodName) prog_1_method_76_code (3 : Nat) (Option.some Jvm.ClassFile.FieldType.int)).before args0 about1 = true := code_word (m := ⟨2, 62⟩) (meth := k2m62) (c := k2c62) (by decide +kernel) rfl rfl rfl (by decide +kernel)
set_option maxRecDepth 65536 in
theorem w_c65 : (Jvm.Cond.code ({ cls := "RankReassociator", name := "outputCount", desc := "(I)I" } : Jvm.MethodName) prog_1_method_20_code (2 : Nat) (Option.some Jvm.ClassFile.FieldType.int)).before args0 about1 = true := code_word (m := ⟨2, 12⟩) (meth := k2m12) (c := k2c12) (by decide +kernel) rfl rfl rfl (by decide +kernel)
set_option maxRecDepth 65536 in
theorem w_c66 : (Jvm.Cond.code ({ cls := "RankReassociator", name := "variable", desc := "(II)I" } : Jvm.MethodName) prog_1_method_22_code (3 : Nat) (Option.some Jvm.ClassFile.FieldType.int)).before args0 about1 = true := code_word (m := ⟨2, 14⟩) (meth := k2m14) (c := k2c14) (by decide +kernel) rfl rfl rfl (by decide +kernel)
set_option maxRecDepth 65536 in
theorem w_c67 : (Jvm.Cond.code ({ cls := "RankReassociator", name := "output", desc := "(II)I" } : Jvm.MethodName) prog_1_method_21_code (4 : Nat) (Option.some Jvm.ClassFile.FieldType.int)).before args0 about1 = true := code_word (m := ⟨2, 13⟩) (meth := k2m13) (c := k2c13) (by decide +kernel) rfl rfl rfl (by decide +kernel)
def codes1 : List Jvm.Cond := [Jvm.Cond.code x code maxLocals ret, Jvm.Cond.code ({ cls := "RankReassociator", name := "<init>", desc := "(I)V" } : Jvm.MethodName) prog_1_method_1_code (3 : Nat) (Option.none : Option Jvm.ClassFile.FieldType), Jvm.Cond.code ({ cls := "java/lang/Object", name := "<init>", desc := "()V" } : Jvm.MethodName) object_method_1_code (1 : Nat) (Option.none : Option Jvm.ClassFile.FieldType), Jvm.Cond.code ({ cls := "RankReassociator", name := "setInput", desc := "(II)Z" } : Jvm.MethodName) prog_1_method_15_code (3 : Nat) (Option.some Jvm.ClassFile.FieldType.boolean), Jvm.Cond.code ({ cls := "RankReassociator", name := "add", desc := "(III)I" } : Jvm.MethodName) prog_1_method_3_code (4 : Nat) (Option.some Jvm.ClassFile.FieldType.int), Jvm.Cond.code ({ cls := "RankReassociator", name := "argumentOk", desc := "(II)Z" } : Jvm.MethodName) prog_1_method_4_code (3 : Nat) (Option.some Jvm.ClassFile.FieldType.boolean), Jvm.Cond.code ({ cls := "RankReassociator", name := "operandsOk", desc := "(III)Z" } : Jvm.MethodName) prog_1_method_5_code (4 : Nat) (Option.some Jvm.ClassFile.FieldType.boolean), Jvm.Cond.code ({ cls := "RankReassociator", name := "store", desc := "(III)I" } : Jvm.MethodName) prog_1_method_10_code (6 : Nat) (Option.some Jvm.ClassFile.FieldType.int), Jvm.Cond.code ({ cls := "RankReassociator", name := "usesX", desc := "(I)Z" } : Jvm.MethodName) prog_1_method_9_code (2 : Nat) (Option.some Jvm.ClassFile.FieldType.boolean), Jvm.Cond.code ({ cls := "RankReassociator", name := "usesY", desc := "(I)Z" } : Jvm.MethodName) prog_1_method_8_code (2 : Nat) (Option.some Jvm.ClassFile.FieldType.boolean), Jvm.Cond.code ({ cls := "RankReassociator", name := "visible", desc := "(I)Z" } : Jvm.MethodName) prog_1_method_6_code (4 : Nat) (Option.some Jvm.ClassFile.FieldType.boolean), Jvm.Cond.code ({ cls := "RankReassociator", name := "isOpen", desc := "(I)Z" } : Jvm.MethodName) prog_1_method_7_code (3 : Nat) (Option.some Jvm.ClassFile.FieldType.boolean), Jvm.Cond.code ({ cls := "RankReassociator", name := "compile", desc := "()I" } : Jvm.MethodName) prog_1_method_17_code (1 : Nat) (Option.some Jvm.ClassFile.FieldType.int), Jvm.Cond.code ({ cls := "RankReassociator", name := "buildVersion0", desc := "()V" } : Jvm.MethodName) prog_1_method_23_code (3 : Nat) (Option.none : Option Jvm.ClassFile.FieldType), Jvm.Cond.code ({ cls := "RankReassociator", name := "buildVersion1", desc := "()V" } : Jvm.MethodName) prog_1_method_25_code (2 : Nat) (Option.none : Option Jvm.ClassFile.FieldType), Jvm.Cond.code ({ cls := "RankReassociator", name := "undoHash", desc := "(I)V" } : Jvm.MethodName) prog_1_method_71_code (4 : Nat) (Option.none : Option Jvm.ClassFile.FieldType), Jvm.Cond.code ({ cls := "RankReassociator", name := "computeSetMasks", desc := "()V" } : Jvm.MethodName) prog_1_method_26_code (5 : Nat) (Option.none : Option Jvm.ClassFile.FieldType), Jvm.Cond.code ({ cls := "RankReassociator", name := "translate", desc := "(I)V" } : Jvm.MethodName) prog_1_method_27_code (4 : Nat) (Option.none : Option Jvm.ClassFile.FieldType), Jvm.Cond.code ({ cls := "RankReassociator", name := "buildValue", desc := "(I)I" } : Jvm.MethodName) prog_1_method_33_code (5 : Nat) (Option.some Jvm.ClassFile.FieldType.int), Jvm.Cond.code ({ cls := "RankReassociator", name := "makeLeaf", desc := "(IIII)I" } : Jvm.MethodName) prog_1_method_36_code (7 : Nat) (Option.some Jvm.ClassFile.FieldType.int), Jvm.Cond.code ({ cls := "RankReassociator", name := "lookup", desc := "(III)I" } : Jvm.MethodName) prog_1_method_69_code (7 : Nat) (Option.some Jvm.ClassFile.FieldType.int), Jvm.Cond.code ({ cls := "RankReassociator", name := "hashOf", desc := "(III)I" } : Jvm.MethodName) prog_1_method_68_code (5 : Nat) (Option.some Jvm.ClassFile.FieldType.int), Jvm.Cond.code ({ cls := "RankReassociator", name := "emit", desc := "(III)I" } : Jvm.MethodName) prog_1_method_31_code (5 : Nat) (Option.some Jvm.ClassFile.FieldType.int), Jvm.Cond.code ({ cls := "RankReassociator", name := "insert", desc := "(IIII)V" } : Jvm.MethodName) prog_1_method_70_code (6 : Nat) (Option.none : Option Jvm.ClassFile.FieldType), Jvm.Cond.code ({ cls := "RankReassociator", name := "makeConst", desc := "(I)I" } : Jvm.MethodName) prog_1_method_35_code (2 : Nat) (Option.some Jvm.ClassFile.FieldType.int), Jvm.Cond.code ({ cls := "RankReassociator", name := "enterLoop", desc := "(I)V" } : Jvm.MethodName) prog_1_method_29_code (4 : Nat) (Option.none : Option Jvm.ClassFile.FieldType), Jvm.Cond.code ({ cls := "RankReassociator", name := "familyOf", desc := "(I)I" } : Jvm.MethodName) prog_1_method_34_code (2 : Nat) (Option.some Jvm.ClassFile.FieldType.int), Jvm.Cond.code ({ cls := "RankReassociator", name := "flatten", desc := "(II)Z" } : Jvm.MethodName) prog_1_method_56_code (8 : Nat) (Option.some Jvm.ClassFile.FieldType.boolean), Jvm.Cond.code ({ cls := "RankReassociator", name := "push", desc := "(II)Z" } : Jvm.MethodName) prog_1_method_59_code (3 : Nat) (Option.some Jvm.ClassFile.FieldType.boolean), Jvm.Cond.code ({ cls := "RankReassociator", name := "expand", desc := "(III)I" } : Jvm.MethodName) prog_1_method_57_code (5 : Nat) (Option.some Jvm.ClassFile.FieldType.int), Jvm.Cond.code ({ cls := "RankReassociator", name := "expandSum", desc := "(III)I" } : Jvm.MethodName) prog_1_method_58_code (5 : Nat) (Option.some Jvm.ClassFile.FieldType.int), Jvm.Cond.code ({ cls := "RankReassociator", name := "mapAt", desc := "(I)I" } : Jvm.MethodName) prog_1_method_32_code (2 : Nat) (Option.some Jvm.ClassFile.FieldType.int), Jvm.Cond.code ({ cls := "RankReassociator", name := "addLeaf", desc := "(II)Z" } : Jvm.MethodName) prog_1_method_60_code (3 : Nat) (Option.some Jvm.ClassFile.FieldType.boolean), Jvm.Cond.code ({ cls := "RankReassociator", name := "sortLeaves", desc := "()V" } : Jvm.MethodName) prog_1_method_62_code (5 : Nat) (Option.none : Option Jvm.ClassFile.FieldType), Jvm.Cond.code ({ cls := "RankReassociator", name := "before", desc := "(II)Z" } : Jvm.MethodName) prog_1_method_63_code (5 : Nat) (Option.some Jvm.ClassFile.FieldType.boolean), Jvm.Cond.code ({ cls := "RankReassociator", name := "rankOf", desc := "(I)I" } : Jvm.MethodName) prog_1_method_51_code (2 : Nat) (Option.some Jvm.ClassFile.FieldType.int), Jvm.Cond.code ({ cls := "RankReassociator", name := "rebuildSum", desc := "()I" } : Jvm.MethodName) prog_1_method_64_code (4 : Nat) (Option.some Jvm.ClassFile.FieldType.int), Jvm.Cond.code ({ cls := "RankReassociator", name := "isConst", desc := "(I)Z" } : Jvm.MethodName) prog_1_method_47_code (2 : Nat) (Option.some Jvm.ClassFile.FieldType.boolean), Jvm.Cond.code ({ cls := "RankReassociator", name := "removeRepeats", desc := "(I)V" } : Jvm.MethodName) prog_1_method_67_code (4 : Nat) (Option.none : Option Jvm.ClassFile.FieldType), Jvm.Cond.code ({ cls := "RankReassociator", name := "sumStep", desc := "(III)I" } : Jvm.MethodName) prog_1_method_65_code (4 : Nat) (Option.some Jvm.ClassFile.FieldType.int), Jvm.Cond.code ({ cls := "RankReassociator", name := "makeBin", desc := "(III)I" } : Jvm.MethodName) prog_1_method_38_code (7 : Nat) (Option.some Jvm.ClassFile.FieldType.int), Jvm.Cond.code ({ cls := "RankReassociator", name := "simplify", desc := "(III)I" } : Jvm.MethodName) prog_1_method_40_code (4 : Nat) (Option.some Jvm.ClassFile.FieldType.int), Jvm.Cond.code ({ cls := "RankReassociator", name := "simplifyAdd", desc := "(II)I" } : Jvm.MethodName) prog_1_method_41_code (3 : Nat) (Option.some Jvm.ClassFile.FieldType.int), Jvm.Cond.code ({ cls := "RankReassociator", name := "isConstValue", desc := "(II)Z" } : Jvm.MethodName) prog_1_method_49_code (3 : Nat) (Option.some Jvm.ClassFile.FieldType.boolean), Jvm.Cond.code ({ cls := "RankReassociator", name := "isNegOf", desc := "(II)Z" } : Jvm.MethodName) prog_1_method_50_code (3 : Nat) (Option.some Jvm.ClassFile.FieldType.boolean), Jvm.Cond.code ({ cls := "RankReassociator", name := "isCommutative", desc := "(I)Z" } : Jvm.MethodName) prog_1_method_52_code (2 : Nat) (Option.some Jvm.ClassFile.FieldType.boolean), Jvm.Cond.code ({ cls := "RankReassociator", name := "emitBin", desc := "(III)I" } : Jvm.MethodName) prog_1_method_39_code (8 : Nat) (Option.some Jvm.ClassFile.FieldType.int), Jvm.Cond.code ({ cls := "RankReassociator", name := "simplifySub", desc := "(II)I" } : Jvm.MethodName) prog_1_method_42_code (3 : Nat) (Option.some Jvm.ClassFile.FieldType.int), Jvm.Cond.code ({ cls := "RankReassociator", name := "constOf", desc := "(I)I" } : Jvm.MethodName) prog_1_method_48_code (2 : Nat) (Option.some Jvm.ClassFile.FieldType.int), Jvm.Cond.code ({ cls := "RankReassociator", name := "translateSet", desc := "(I)V" } : Jvm.MethodName) prog_1_method_28_code (4 : Nat) (Option.none : Option Jvm.ClassFile.FieldType), Jvm.Cond.code ({ cls := "RankReassociator", name := "leaveLoop", desc := "()V" } : Jvm.MethodName) prog_1_method_30_code (3 : Nat) (Option.none : Option Jvm.ClassFile.FieldType), Jvm.Cond.code ({ cls := "RankReassociator", name := "rebuildChain", desc := "(I)I" } : Jvm.MethodName) prog_1_method_66_code (6 : Nat) (Option.some Jvm.ClassFile.FieldType.int), Jvm.Cond.code ({ cls := "RankReassociator", name := "identityOf", desc := "(I)I" } : Jvm.MethodName) prog_1_method_54_code (2 : Nat) (Option.some Jvm.ClassFile.FieldType.int), Jvm.Cond.code ({ cls := "RankReassociator", name := "absorberOf", desc := "(I)I" } : Jvm.MethodName) prog_1_method_55_code (2 : Nat) (Option.some Jvm.ClassFile.FieldType.int), Jvm.Cond.code ({ cls := "RankReassociator", name := "simplifyMul", desc := "(II)I" } : Jvm.MethodName) prog_1_method_43_code (3 : Nat) (Option.some Jvm.ClassFile.FieldType.int), Jvm.Cond.code ({ cls := "RankReassociator", name := "run", desc := "()I" } : Jvm.MethodName) prog_1_method_19_code (1 : Nat) (Option.some Jvm.ClassFile.FieldType.int), Jvm.Cond.code ({ cls := "RankReassociator", name := "execute", desc := "(I)V" } : Jvm.MethodName) prog_1_method_72_code (8 : Nat) (Option.none : Option Jvm.ClassFile.FieldType), Jvm.Cond.code ({ cls := "RankReassociator", name := "resetRun", desc := "(III)V" } : Jvm.MethodName) prog_1_method_73_code (5 : Nat) (Option.none : Option Jvm.ClassFile.FieldType), Jvm.Cond.code ({ cls := "RankReassociator", name := "step", desc := "(II)I" } : Jvm.MethodName) prog_1_method_74_code (5 : Nat) (Option.some Jvm.ClassFile.FieldType.int), Jvm.Cond.code ({ cls := "RankReassociator", name := "evalValue", desc := "(I)I" } : Jvm.MethodName) prog_1_method_78_code (5 : Nat) (Option.some Jvm.ClassFile.FieldType.int), Jvm.Cond.code ({ cls := "RankReassociator", name := "stepLoop", desc := "(I)I" } : Jvm.MethodName) prog_1_method_75_code (4 : Nat) (Option.some Jvm.ClassFile.FieldType.int), Jvm.Cond.code ({ cls := "RankReassociator", name := "slotAt", desc := "(I)I" } : Jvm.MethodName) prog_1_method_79_code (2 : Nat) (Option.some Jvm.ClassFile.FieldType.int), Jvm.Cond.code ({ cls := "RankReassociator", name := "fold", desc := "(III)I" } : Jvm.MethodName) prog_1_method_53_code (4 : Nat) (Option.some Jvm.ClassFile.FieldType.int), Jvm.Cond.code ({ cls := "RankReassociator", name := "stepOut", desc := "(II)V" } : Jvm.MethodName) prog_1_method_77_code (5 : Nat) (Option.none : Option Jvm.ClassFile.FieldType), Jvm.Cond.code ({ cls := "RankReassociator", name := "stepEnd", desc := "(I)I" } : Jvm.MethodName) prog_1_method_76_code (3 : Nat) (Option.some Jvm.ClassFile.FieldType.int), Jvm.Cond.code ({ cls := "RankReassociator", name := "outputCount", desc := "(I)I" } : Jvm.MethodName) prog_1_method_20_code (2 : Nat) (Option.some Jvm.ClassFile.FieldType.int), Jvm.Cond.code ({ cls := "RankReassociator", name := "variable", desc := "(II)I" } : Jvm.MethodName) prog_1_method_22_code (3 : Nat) (Option.some Jvm.ClassFile.FieldType.int), Jvm.Cond.code ({ cls := "RankReassociator", name := "output", desc := "(II)I" } : Jvm.MethodName) prog_1_method_21_code (4 : Nat) (Option.some Jvm.ClassFile.FieldType.int)]
set_option maxRecDepth 65536 in
theorem codes_eq : words1.filter isCode = codes1 := rfl
theorem w_codes : ∀ c ∈ words1.filter isCode, c.before args0 about1 = true := by
  rw [codes_eq]
  intro c hc
  simp only [codes1, List.mem_cons, List.not_mem_nil, or_false] at hc
  rcases hc with rfl | rfl | rfl | rfl | rfl | rfl | rfl | rfl | rfl | rfl | rfl | rfl | rfl | rfl | rfl | rfl | rfl | rfl | rfl | rfl | rfl | rfl | rfl | rfl | rfl | rfl | rfl | rfl | rfl | rfl | rfl | rfl | rfl | rfl | rfl | rfl | rfl | rfl | rfl | rfl | rfl | rfl | rfl | rfl | rfl | rfl | rfl | rfl | rfl | rfl | rfl | rfl | rfl | rfl | rfl | rfl | rfl | rfl | rfl | rfl | rfl | rfl | rfl | rfl | rfl | rfl | rfl | rfl
  · exact w_c0
  · exact w_c1
  · exact w_c2
  · exact w_c3
  · exact w_c4
  · exact w_c5
  · exact w_c6
  · exact w_c7
  · exact w_c8
  · exact w_c9
  · exact w_c10
  · exact w_c11
  · exact w_c12
  · exact w_c13
  · exact w_c14
  · exact w_c15
  · exact w_c16
  · exact w_c17
  · exact w_c18
  · exact w_c19
  · exact w_c20
  · exact w_c21
  · exact w_c22
  · exact w_c23
  · exact w_c24
  · exact w_c25
  · exact w_c26
  · exact w_c27
  · exact w_c28
  · exact w_c29
  · exact w_c30
  · exact w_c31
  · exact w_c32
  · exact w_c33
  · exact w_c34
  · exact w_c35
  · exact w_c36
  · exact w_c37
  · exact w_c38
  · exact w_c39
  · exact w_c40
  · exact w_c41
  · exact w_c42
  · exact w_c43
  · exact w_c44
  · exact w_c45
  · exact w_c46
  · exact w_c47
  · exact w_c48
  · exact w_c49
  · exact w_c50
  · exact w_c51
  · exact w_c52
  · exact w_c53
  · exact w_c54
  · exact w_c55
  · exact w_c56
  · exact w_c57
  · exact w_c58
  · exact w_c59
  · exact w_c60
  · exact w_c61
  · exact w_c62
  · exact w_c63
  · exact w_c64
  · exact w_c65
  · exact w_c66
  · exact w_c67
set_option maxRecDepth 65536 in
theorem w_t1 : (words1.take 24).all (fun c => isCode c || c.before args0 about1) = true := by decide +kernel
set_option maxRecDepth 65536 in
theorem w_t2 : ((words1.drop 24).take 24).all (fun c => isCode c || c.before args0 about1) = true := by decide +kernel
set_option maxRecDepth 65536 in
theorem w_t3 : (((words1.drop 24).drop 24).take 24).all (fun c => isCode c || c.before args0 about1) = true := by decide +kernel
set_option maxRecDepth 65536 in
theorem w_t4 : ((((words1.drop 24).drop 24).drop 24).take 24).all (fun c => isCode c || c.before args0 about1) = true := by decide +kernel
set_option maxRecDepth 65536 in
theorem w_t5 : (((((words1.drop 24).drop 24).drop 24).drop 24).take 24).all (fun c => isCode c || c.before args0 about1) = true := by decide +kernel
set_option maxRecDepth 65536 in
theorem w_t6 : ((((((words1.drop 24).drop 24).drop 24).drop 24).drop 24).take 24).all (fun c => isCode c || c.before args0 about1) = true := by decide +kernel
set_option maxRecDepth 65536 in
theorem w_t7 : (((((((words1.drop 24).drop 24).drop 24).drop 24).drop 24).drop 24).take 24).all (fun c => isCode c || c.before args0 about1) = true := by decide +kernel
set_option maxRecDepth 65536 in
theorem w_t8 : ((((((((words1.drop 24).drop 24).drop 24).drop 24).drop 24).drop 24).drop 24).take 24).all (fun c => isCode c || c.before args0 about1) = true := by decide +kernel
set_option maxRecDepth 65536 in
theorem w_t9 : (((((((((words1.drop 24).drop 24).drop 24).drop 24).drop 24).drop 24).drop 24).drop 24).take 24).all (fun c => isCode c || c.before args0 about1) = true := by decide +kernel
set_option maxRecDepth 65536 in
theorem w_t10 : ((((((((((words1.drop 24).drop 24).drop 24).drop 24).drop 24).drop 24).drop 24).drop 24).drop 24).take 24).all (fun c => isCode c || c.before args0 about1) = true := by decide +kernel
set_option maxRecDepth 65536 in
theorem w_t11 : (((((((((((words1.drop 24).drop 24).drop 24).drop 24).drop 24).drop 24).drop 24).drop 24).drop 24).drop 24).take 24).all (fun c => isCode c || c.before args0 about1) = true := by decide +kernel
set_option maxRecDepth 65536 in
theorem w_t12 : ((((((((((((words1.drop 24).drop 24).drop 24).drop 24).drop 24).drop 24).drop 24).drop 24).drop 24).drop 24).drop 24).take 24).all (fun c => isCode c || c.before args0 about1) = true := by decide +kernel
set_option maxRecDepth 65536 in
theorem w_t13 : (((((((((((((words1.drop 24).drop 24).drop 24).drop 24).drop 24).drop 24).drop 24).drop 24).drop 24).drop 24).drop 24).drop 24).take 24).all (fun c => isCode c || c.before args0 about1) = true := by decide +kernel
set_option maxRecDepth 65536 in
theorem w_t14 : ((((((((((((((words1.drop 24).drop 24).drop 24).drop 24).drop 24).drop 24).drop 24).drop 24).drop 24).drop 24).drop 24).drop 24).drop 24).take 24).all (fun c => isCode c || c.before args0 about1) = true := by decide +kernel
set_option maxRecDepth 65536 in
theorem w_t15 : (((((((((((((((words1.drop 24).drop 24).drop 24).drop 24).drop 24).drop 24).drop 24).drop 24).drop 24).drop 24).drop 24).drop 24).drop 24).drop 24).take 24).all (fun c => isCode c || c.before args0 about1) = true := by decide +kernel
set_option maxRecDepth 65536 in
theorem w_t16 : (((((((((((((((words1.drop 24).drop 24).drop 24).drop 24).drop 24).drop 24).drop 24).drop 24).drop 24).drop 24).drop 24).drop 24).drop 24).drop 24).drop 24).all (fun c => isCode c || c.before args0 about1) = true := by decide +kernel
theorem w_tables : (allAtoms (Jvm.Cond.code x code maxLocals ret :: tables_1)).before args0 about1 = true := by
  rw [allAtoms_all]
  show words1.all (fun c => c.before args0 about1) = true
  refine all_split ?_ w_codes
  rw [← List.take_append_drop 24 words1, List.all_append, w_t1, ← List.take_append_drop 24 (words1.drop 24), List.all_append, w_t2, ← List.take_append_drop 24 ((words1.drop 24).drop 24), List.all_append, w_t3, ← List.take_append_drop 24 (((words1.drop 24).drop 24).drop 24), List.all_append, w_t4, ← List.take_append_drop 24 ((((words1.drop 24).drop 24).drop 24).drop 24), List.all_append, w_t5, ← List.take_append_drop 24 (((((words1.drop 24).drop 24).drop 24).drop 24).drop 24), List.all_append, w_t6, ← List.take_append_drop 24 ((((((words1.drop 24).drop 24).drop 24).drop 24).drop 24).drop 24), List.all_append, w_t7, ← List.take_append_drop 24 (((((((words1.drop 24).drop 24).drop 24).drop 24).drop 24).drop 24).drop 24), List.all_append, w_t8, ← List.take_append_drop 24 ((((((((words1.drop 24).drop 24).drop 24).drop 24).drop 24).drop 24).drop 24).drop 24), List.all_append, w_t9, ← List.take_append_drop 24 (((((((((words1.drop 24).drop 24).drop 24).drop 24).drop 24).drop 24).drop 24).drop 24).drop 24), List.all_append, w_t10, ← List.take_append_drop 24 ((((((((((words1.drop 24).drop 24).drop 24).drop 24).drop 24).drop 24).drop 24).drop 24).drop 24).drop 24), List.all_append, w_t11, ← List.take_append_drop 24 (((((((((((words1.drop 24).drop 24).drop 24).drop 24).drop 24).drop 24).drop 24).drop 24).drop 24).drop 24).drop 24), List.all_append, w_t12, ← List.take_append_drop 24 ((((((((((((words1.drop 24).drop 24).drop 24).drop 24).drop 24).drop 24).drop 24).drop 24).drop 24).drop 24).drop 24).drop 24), List.all_append, w_t13, ← List.take_append_drop 24 (((((((((((((words1.drop 24).drop 24).drop 24).drop 24).drop 24).drop 24).drop 24).drop 24).drop 24).drop 24).drop 24).drop 24).drop 24), List.all_append, w_t14, ← List.take_append_drop 24 ((((((((((((((words1.drop 24).drop 24).drop 24).drop 24).drop 24).drop 24).drop 24).drop 24).drop 24).drop 24).drop 24).drop 24).drop 24).drop 24), List.all_append, w_t15, w_t16]
  rfl
set_option maxRecDepth 65536 in
theorem w_case : (Jvm.Cond.and given_1 narrow_1).before args0 about1 = true := by decide +kernel
theorem w_applies : (headSpec (Jvm.Cond.code x code maxLocals ret :: tables_1) room_1).applies x e0.platform about1 = true :=
  (Spec.applies_iff w_frames).mpr ⟨w_running, w_runnable, w_alone, w_named, w_hears, w_ripe, w_room, w_tables⟩
theorem atStart : AtStart classFile x code maxLocals ret World_1 tables_1 room_1 Calls_1 rest_1 Pre_1 launch0 p0 e0 about1 theMethod args0 below0 :=
  ⟨lists_1, trivial, launch0.admits_env _ _ _, launch0.least_env, fairChoices_fair.cas, fairChoices_fair.clock, w_frames, w_args, w_heap, w_applies, trivial, trivial, w_case⟩
end start1
theorem witness_1 : WitnessClaimed_1 := ⟨start1.p0, start1.e0, start1.about1, start1.theMethod, start1.args0, start1.below0, start1.atStart⟩
end Jvm.Pilot.@@N@@
