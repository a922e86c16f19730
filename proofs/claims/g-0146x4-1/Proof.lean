import JvmDerived
import JvmDerived.Pilot.@@N@@Statement
import JvmDerived.Pilot.@@N@@Code
set_option linter.unusedVariables false
set_option linter.unusedSimpArgs false
namespace Jvm.Own
open Sem ClassFile Op Lib Jvm.Stand Jvm.Free Jvm.LawKit Jvm.RoadKit
/-! ## 1. Small heaps: a list of cells: an object of the one class (its fields in order), or an array (of booleans, of ints) -/
abbrev MCell := List Value ⊕ (Bool × List Int32)
abbrev MHeap := List MCell
abbrev Fd := String × String × FieldType
/-- start, its arguments, launch, the script's place, the heap's first length, the class, its fields, its slots -/
abbrev Ctx := State × Array Value × Launch × Option Nat × Nat × String × List Fd × Nat
abbrev gZ (G : Ctx) : State := G.1
abbrev gA (G : Ctx) : Array Value := G.2.1
abbrev gL (G : Ctx) : Launch := G.2.2.1
abbrev gS (G : Ctx) : Option Nat := G.2.2.2.1
abbrev gN (G : Ctx) : Nat := G.2.2.2.2.1
abbrev gC (G : Ctx) : String := G.2.2.2.2.2.1
abbrev gF (G : Ctx) : List Fd := G.2.2.2.2.2.2.1
abbrev gK (G : Ctx) : Nat := G.2.2.2.2.2.2.2
/-- a method: name, bytes, locals, result, frames and words that it needs -/
abbrev Mi := MethodName × ByteArray × Nat × Option FieldType × Nat × Nat
abbrev mN (M : Mi) : MethodName := M.1
abbrev mB (M : Mi) : ByteArray := M.2.1
abbrev mL (M : Mi) : Nat := M.2.2.1
abbrev mR (M : Mi) : Option FieldType := M.2.2.2.1
abbrev mF (M : Mi) : Nat := M.2.2.2.2.1
abbrev mW (M : Mi) : Nat := M.2.2.2.2.2
def rhoA (sa : Option Nat) (n0 i : Nat) : Nat := match sa with
  | none => n0 + i
  | some a => match i with
    | 0 => a
    | j + 1 => n0 + j
def k0A (sa : Option Nat) : Nat := match sa with
  | none => 0
  | some _ => 1
def rho (G : Ctx) (i : Nat) : Nat := rhoA (gS G) (gN G) i
def k0 (G : Ctx) : Nat := k0A (gS G)
def tr (G : Ctx) : Value → Value
  | .ref i => .ref (rho G i)
  | v => v
def trS (G : Ctx) : Slot → Slot
  | .val v => .val (tr G v)
  | s => s
theorem tr_cat (G : Ctx) (v : Value) : (tr G v).category = v.category := by cases v <;> rfl
theorem tr_cats (G : Ctx) (S : List Value) : ((S.map (tr G)).map fun v => v.category).sum = (S.map fun v => v.category).sum := by
  rw [List.map_map]
  congr 1
  exact List.map_congr_left fun v _ => tr_cat G v
def kd : Bool → FieldType
  | true => .boolean
  | false => .int
def CellAt (G : Ctx) (hr : Heap) (a : Nat) : MCell → Prop
  | .inl fs => Exa (gZ G) hr a (gC G) ∧ fs.length = (gF G).length ∧ ∀ (j : Nat) (n d : String) (ty : FieldType) (v : Value), (gF G)[j]? = some (n, d, ty) → fs[j]? = some v → Fld (gZ G) hr a (gC G) n d (tr G v)
  | .inr bx => ∃ c : Cell, Arr (gZ G) hr a c (kd bx.1) ∧ c.slots = (bx.2.map Value.int).toArray
def Rel (G : Ctx) (hr : Heap) (h : MHeap) : Prop :=
  hr.size + k0 G = gN G + h.length ∧ k0 G ≤ h.length ∧ (∀ a, gS G = some a → a < gN G) ∧ ∀ i c, h[i]? = some c → CellAt G hr (rho G i) c
/-- what the sheet says of the class -/
def GOk (G : Ctx) : Prop :=
  (∀ (j : Nat) (n d : String) (ty : FieldType), (gF G)[j]? = some (n, d, ty) → Laid (gZ G) (gA G) (gC G) (gC G) n d ∧ parseFieldDescriptor d = some ty) ∧
  (∀ (j j' : Nat) (f f' : Fd), (gF G)[j]? = some f → (gF G)[j']? = some f' → j ≠ j' → f.1 ≠ f'.1) ∧
  (Cond.instantiable (gC G) (gK G)).before (gA G) (gZ G) = true ∧ (Cond.initialized (gC G)).before (gA G) (gZ G) = true
theorem rhoA_inj {sa : Option Nat} {n0 i j : Nat} (h : ∀ a, sa = some a → a < n0) (e : rhoA sa n0 i = rhoA sa n0 j) : i = j := by
  cases sa with
  | none => simp only [rhoA] at e; omega
  | some a =>
    have := h a rfl
    cases i <;> cases j <;> simp only [rhoA] at e <;> omega
theorem rho_inj {G : Ctx} {i j : Nat} (h : ∀ a, gS G = some a → a < gN G) (e : rho G i = rho G j) : i = j := rhoA_inj h e
theorem rhoA_new {sa : Option Nat} {n0 i : Nat} (h : k0A sa ≤ i) : rhoA sa n0 i = n0 + (i - k0A sa) := by
  cases sa with
  | none => simp only [rhoA, k0A]; omega
  | some a =>
    cases i with
    | zero => simp only [k0A] at h; omega
    | succ j => simp only [rhoA, k0A]; omega
theorem rho_new {G : Ctx} {i : Nat} (h : k0 G ≤ i) : rho G i = gN G + (i - k0 G) := rhoA_new h
theorem rho_ge {G : Ctx} {i : Nat} (h : k0 G ≤ i) : gN G ≤ rho G i := by rw [rho_new h]; omega
theorem CellAt.other {G : Ctx} {hr hr' : Heap} {a b : Nat} {sl : Nat} {v : Value} (W : Wr hr hr' a sl v) (hne : b ≠ a) : ∀ {c : MCell}, CellAt G hr b c → CellAt G hr' b c
  | .inl _, ⟨h1, h2, h3⟩ => ⟨h1.wr W, h2, fun j n d ty v hf hv => Fld.other W (h3 j n d ty v hf hv) (Or.inl hne)⟩
  | .inr _, ⟨c, h1, h2⟩ => ⟨c, h1.other W hne, h2⟩
theorem CellAt.ext {G : Ctx} {hr hr' : Heap} {b : Nat} (E : Ext hr hr') : ∀ {c : MCell}, CellAt G hr b c → CellAt G hr' b c
  | .inl _, ⟨h1, h2, h3⟩ => ⟨h1.ext E, h2, fun j n d ty v hf hv => Fld.ext E (h3 j n d ty v hf hv)⟩
  | .inr _, ⟨c, h1, h2⟩ => ⟨c, h1.ext E, h2⟩
theorem Rel.push {G : Ctx} {hr hr' : Heap} {h : MHeap} {c : MCell} (R : Rel G hr h) (E : Ext hr hr') (hs : hr'.size = hr.size + 1) (hc : CellAt G hr' hr.size c) : Rel G hr' (h ++ [c]) := by
  obtain ⟨h1, h2, h3, h4⟩ := R
  refine ⟨by rw [List.length_append, List.length_singleton]; omega, by rw [List.length_append]; omega, h3, fun i c' hi => ?_⟩
  rcases Nat.lt_or_ge i h.length with q | q
  · rw [List.getElem?_append_left q] at hi
    exact (h4 i c' hi).ext E
  · have hi2 := hi
    rw [List.getElem?_append_right q] at hi2
    have : i - h.length = 0 := by
      rcases Nat.eq_zero_or_pos (i - h.length) with z | z
      · exact z
      · rw [List.getElem?_eq_none (by simp; omega)] at hi2; cases hi2
    have e : i = h.length := by omega
    subst e
    rw [Nat.sub_self] at hi2
    cases hi2
    have : rho G h.length = hr.size := by rw [rho_new h2]; omega
    rw [this]; exact hc
theorem Rel.wrArr {G : Ctx} {hr hr' : Heap} {h : MHeap} {i j : Nat} {b : Bool} {xs : List Int32} {x : Int32} (R : Rel G hr h) (hi : h[i]? = some (.inr (b, xs))) (W : Wr hr hr' (rho G i) j (.int x)) : Rel G hr' (h.set i (.inr (b, xs.set j x))) := by
  obtain ⟨h1, h2, h3, h4⟩ := R
  refine ⟨by rw [W.size, List.length_set]; exact h1, by rw [List.length_set]; exact h2, h3, fun k c' hk => ?_⟩
  by_cases e : i = k
  · subst e
    rw [List.getElem?_set_self (List.getElem?_eq_some_iff.mp hi).1] at hk
    cases hk
    obtain ⟨c, A, hs⟩ := h4 i _ hi
    refine ⟨c.setSlot j (.int x), A.same W, ?_⟩
    show c.slots.setIfInBounds j (.int x) = _
    rw [hs]
    simp [List.map_set]
  · rw [List.getElem?_set_ne e] at hk
    exact (h4 k c' hk).other W fun q => e (rho_inj h3 q).symm
theorem Rel.wrFld {G : Ctx} {hr hr' : Heap} {h : MHeap} {i j : Nat} {fs : List Value} {n d : String} {ty : FieldType} {v : Value} (R : Rel G hr h) (K : GOk G) (hi : h[i]? = some (.inl fs)) (hF : (gF G)[j]? = some (n, d, ty)) (W : Wr hr hr' (rho G i) (Jvm.RoadKit.slotOf (gZ G) (gC G) n d) (tr G v)) : Rel G hr' (h.set i (.inl (fs.set j v))) := by
  obtain ⟨h1, h2, h3, h4⟩ := R
  refine ⟨by rw [W.size, List.length_set]; exact h1, by rw [List.length_set]; exact h2, h3, fun k c' hk => ?_⟩
  by_cases e : i = k
  · subst e
    rw [List.getElem?_set_self (List.getElem?_eq_some_iff.mp hi).1] at hk
    cases hk
    obtain ⟨e1, e2, e3⟩ := h4 i _ hi
    refine ⟨e1.wr W, by rw [List.length_set]; exact e2, fun j' n' d' ty' v' hf' hv' => ?_⟩
    by_cases q : j = j'
    · subst q
      cases hF.symm.trans hf'
      have hlt : j < fs.length := by rw [e2]; exact (List.getElem?_eq_some_iff.mp hF).1
      rw [List.getElem?_set_self hlt] at hv'
      cases hv'
      obtain ⟨w, hw⟩ : ∃ w, fs[j]? = some w := ⟨_, List.getElem?_eq_getElem hlt⟩
      exact Fld.same W (e3 j n d ty w hF hw)
    · rw [List.getElem?_set_ne q] at hv'
      refine Fld.other W (e3 j' n' d' ty' v' hf' hv') (Or.inr ?_)
      exact slot_ne (K.1 j' n' d' ty' hf').1 (K.1 j n d ty hF).1 (K.2.1 j' j _ _ hf' hF (Ne.symm q)) (K.1 j' n' d' ty' hf').2 (K.1 j n d ty hF).2
  · rw [List.getElem?_set_ne e] at hk
    exact (h4 k c' hk).other W fun q => e (rho_inj h3 q).symm
def csl (k : Nat) : MCell → Nat
  | .inl _ => k
  | .inr bx => bx.2.length
def hsl (k : Nat) (h : MHeap) : Nat := (h.map (csl k)).sum
theorem hsl_push (k : Nat) (h : MHeap) (c : MCell) : hsl k (h ++ [c]) = hsl k h + csl k c := by simp [hsl]
theorem hsl_set (k : Nat) : ∀ (h : MHeap) (i : Nat) (c c' : MCell), h[i]? = some c → csl k c' = csl k c → hsl k (h.set i c') = hsl k h
  | [], _, _, _, h, _ => by simp at h
  | a :: t, 0, c, c', h, e => by simp at h; subst h; simp [hsl, e]
  | a :: t, i + 1, c, c', h, e => by
    have := hsl_set k t i c c' (by simpa using h) e
    simp only [hsl, List.set_cons_succ, List.map_cons, List.sum_cons] at this ⊢
    omega
/-! ## 2. Storing a local variable, on lists -/
def lsetAt (l : List Slot) (i : Nat) (x : Slot) : Option (List Slot) := if i < l.length then some (l.set i x) else none
def lstoreSelf (l : List Slot) (i : Nat) (v : Value) : Option (List Slot) :=
  match lsetAt l i (.val v) with
  | none => none
  | some l => if v.category = 2 then
      (match l[i + 1]? with
      | none => none
      | some (.val old) => if old.category = 2 then (match lsetAt l (i + 2) .unset with | none => none | some l2 => lsetAt l2 (i + 1) .second) else lsetAt l (i + 1) .second
      | some _ => lsetAt l (i + 1) .second)
    else some l
def mst (l : List Slot) (i : Nat) (v : Value) : Option (List Slot) :=
  match l[i]? with
  | none => none
  | some .second => (match lsetAt l (i - 1) .unset with | none => none | some l2 => lstoreSelf l2 i v)
  | some (.val old) => if old.category = 2 then (match lsetAt l (i + 1) .unset with | none => none | some l2 => lstoreSelf l2 i v) else lstoreSelf l i v
  | some .unset => lstoreSelf l i v
def arL (G : Ctx) (l : List Slot) : Array Slot := (l.map (trS G)).toArray
theorem setAt_map (G : Ctx) (l : List Slot) (i : Nat) (x : Slot) : setAt (arL G l) i (trS G x) = (lsetAt l i x).map (arL G) := by
  unfold setAt lsetAt arL
  by_cases h : i < l.length <;> simp [h, List.map_set]
theorem arL_get (G : Ctx) (l : List Slot) (i : Nat) : (arL G l)[i]? = (l[i]?).map (trS G) := by simp [arL]
theorem storeSelf_map (G : Ctx) (l : List Slot) (i : Nat) (v : Value) : storeSelf (arL G l) i (tr G v) = (lstoreSelf l i v).map (arL G) := by
  unfold storeSelf lstoreSelf
  have e := setAt_map G l i (.val v)
  simp only [trS] at e
  rw [e]
  cases h1 : lsetAt l i (.val v) with
  | none => rfl
  | some l1 =>
    simp only [Option.map_some, Option.bind_eq_bind, Option.bind_some, tr_cat]
    by_cases hc : v.category = 2
    · simp only [hc, if_true, arL_get]
      cases h2 : l1[i + 1]? with
      | none => rfl
      | some sl =>
        simp only [Option.map_some, Option.bind_some]
        have u2 := setAt_map G l1 (i + 2) .unset
        have s1 := setAt_map G l1 (i + 1) .second
        simp only [trS] at u2 s1
        cases sl with
        | unset => exact s1
        | second => exact s1
        | val old =>
          simp only [trS, tr_cat]
          by_cases hq : old.category = 2
          · simp only [hq, if_true, u2]
            cases h3 : lsetAt l1 (i + 2) .unset with
            | none => rfl
            | some l2 =>
              have s2 := setAt_map G l2 (i + 1) .second
              simp only [trS] at s2
              exact s2
          · simp only [hq, if_false]
            exact s1
    · simp only [hc, if_false]
      rfl
theorem mst_map (G : Ctx) (l : List Slot) (i : Nat) (v : Value) : storeLocals (arL G l) i (tr G v) = (mst l i v).map (arL G) := by
  unfold storeLocals mst
  simp only [arL_get]
  cases h1 : l[i]? with
  | none => rfl
  | some sl =>
    simp only [Option.map_some, Option.bind_eq_bind, Option.bind_some]
    have u1 := setAt_map G l (i - 1) .unset
    have u2 := setAt_map G l (i + 1) .unset
    simp only [trS] at u1 u2
    cases sl with
    | unset => exact storeSelf_map G l i v
    | second =>
      simp only [trS, u1]
      cases h3 : lsetAt l (i - 1) .unset with
      | none => rfl
      | some l2 => exact storeSelf_map G l2 i v
    | val old =>
      simp only [trS, tr_cat]
      by_cases hq : old.category = 2
      · simp only [hq, if_true, u2]
        cases h3 : lsetAt l (i + 1) .unset with
        | none => rfl
        | some l2 => exact storeSelf_map G l2 i v
      · simp only [hq, if_false]
        exact storeSelf_map G l i v
theorem lsetAt_len {l l' : List Slot} {i : Nat} {x : Slot} (h : lsetAt l i x = some l') : l'.length = l.length := by
  unfold lsetAt at h; split at h
  · cases h; simp
  · cases h
theorem lstoreSelf_len {l l' : List Slot} {i : Nat} {v : Value} (h : lstoreSelf l i v = some l') : l'.length = l.length := by
  unfold lstoreSelf at h
  split at h
  · cases h
  · rename_i l1 h1
    have e1 := lsetAt_len h1
    split at h
    · split at h
      · cases h
      · split at h
        · split at h
          · cases h
          · rename_i h2; rw [lsetAt_len h, lsetAt_len h2, e1]
        · rw [lsetAt_len h, e1]
      · rw [lsetAt_len h, e1]
    · cases h; exact e1
theorem mst_len {l l' : List Slot} {i : Nat} {v : Value} (h : mst l i v = some l') : l'.length = l.length := by
  unfold mst at h
  split at h
  · cases h
  · split at h
    · cases h
    · rename_i h2; rw [lstoreSelf_len h, lsetAt_len h2]
  · split at h
    · split at h
      · cases h
      · rename_i h2; rw [lstoreSelf_len h, lsetAt_len h2]
    · exact lstoreSelf_len h
  · exact lstoreSelf_len h
theorem st_of {G : Ctx} {l l' : List Slot} {i : Nat} {v : Value} (h : mst l i v = some l') : storeLocals (arL G l) i (tr G v) = some (arL G l') := by rw [mst_map, h]; rfl
theorem ld_of {G : Ctx} {l : List Slot} {i : Nat} {s : Slot} (h : l[i]? = some s) : (arL G l)[i]? = some (trS G s) := by rw [arL_get, h]; rfl
/-! ## 3. What a run of a body from a point does -/
def Ev (G : Ctx) (M : Mi) (pc : Nat) (L : List Slot) (S : List Value) (h : MHeap) (r : Option Value × MHeap) : Prop :=
  (h.length ≤ r.2.length ∧ hsl (gK G) h ≤ hsl (gK G) r.2) ∧
  ∀ (p : Program) (e : Env) (R : Room) (s : State) (m : MethodId) (args : Array Value) (below : List Frame) (meth : Method) (c : Code) (T : State) (locs : List Loc) (cells slots : Nat),
    Stand p (gL G) e R s m args below meth c T locs cells slots → p.tables.exec = Jvm.exec → (gZ G).Warmed39 s.vm → s.vm.findClass (mN M).cls = some m.cls →
    c.code = mB M → c.maxLocals = mL M → meth.sig.returnType = mR M → meth.name = (mN M).name → L.length = mL M → mF M ≤ R.frames → mW M ≤ R.locals →
    s.heap.size + cells = T.heap.size → Rel G T.heap h → Fr (gN G) locs → cells + (r.2.length - h.length) ≤ R.cells → slots + (hsl (gK G) r.2 - hsl (gK G) h) ≤ R.slots →
    ∃ T' locs', Stand p (gL G) e R s m args below meth c T' locs' (cells + (r.2.length - h.length)) (slots + (hsl (gK G) r.2 - hsl (gK G) h)) ∧ Rel G T'.heap r.2 ∧ Fr (gN G) locs' ∧
      ∀ fs, (∀ (f : JFrame) (acts : List Action), f.method = m → f.locked = none → f.entered = [] → (doReturn e (T'.setTop f) acts (r.1.map (tr G))).1 = T'.setFrames fs) →
        Steps p.tables e below (T.setTop (mkF m pc (arL G L) (S.map (tr G)))) (T'.setFrames fs)
/-- a whole call -/
def EvC (G : Ctx) (y : Mi) (args : List Value) (h : MHeap) (r : Option Value × MHeap) : Prop :=
  (h.length ≤ r.2.length ∧ hsl (gK G) h ≤ hsl (gK G) r.2) ∧
  ∀ (ws : List Jvm.Cond) (R : Room) (hr : Heap), mF y ≤ R.frames → mW y ≤ R.locals → r.2.length - h.length ≤ R.cells → hsl (gK G) r.2 - hsl (gK G) h ≤ R.slots → Rel G hr h →
    MetFree (gL G) (mN y) (head1 (Jvm.Cond.code (mN y) (mB y) (mL y) (mR y) :: ws) R) (fun a U => a = (args.map (tr G)).toArray ∧ (gZ G).Warmed39 U.vm ∧ U.heap = hr) (fun _ _ _ _ _ => True)
      (fun _ U o U' => ∃ v L, o = .returned v ∧ (v = r.1.map (tr G) ∧ Fr (gN G) L ∧ Rel G U'.heap r.2) ∧ FrameEnd U o U' L (r.2.length - h.length) (hsl (gK G) r.2 - hsl (gK G) h))
section Rules
variable {G : Ctx} {M : Mi} {pc : Nat} {L : List Slot} {S : List Value} {h : MHeap} {r : Option Value × MHeap}
theorem Ev.gen {pc' : Nat} {L' : List Slot} {S' : List Value} {h' : MHeap} (hm1 : h.length ≤ h'.length) (hm2 : hsl (gK G) h ≤ hsl (gK G) h') (hL : L'.length = L.length) (hn : Ev G M pc' L' S' h' r)
    (st : ∀ {p : Program} {e : Env} {R : Room} {s : State} {m : MethodId} {args : Array Value} {below : List Frame} {meth : Method} {c : Code} {T : State} {locs : List Loc} {cells slots : Nat},
      Stand p (gL G) e R s m args below meth c T locs cells slots → p.tables.exec = Jvm.exec → (gZ G).Warmed39 s.vm → s.vm.findClass (mN M).cls = some m.cls →
      c.code = mB M → c.maxLocals = mL M → meth.name = (mN M).name → L.length = mL M → mF M ≤ R.frames → mW M ≤ R.locals →
      s.heap.size + cells = T.heap.size → Rel G T.heap h → Fr (gN G) locs → cells + (h'.length - h.length) ≤ R.cells → slots + (hsl (gK G) h' - hsl (gK G) h) ≤ R.slots →
      ∃ T' locs', Stand p (gL G) e R s m args below meth c T' locs' (cells + (h'.length - h.length)) (slots + (hsl (gK G) h' - hsl (gK G) h)) ∧ Rel G T'.heap h' ∧ Fr (gN G) locs' ∧
        ∀ target, Steps p.tables e below (T'.setTop (mkF m pc' (arL G L') (S'.map (tr G)))) target → Steps p.tables e below (T.setTop (mkF m pc (arL G L) (S.map (tr G)))) target) :
    Ev G M pc L S h r := by
  obtain ⟨⟨g1, g2⟩, hn⟩ := hn
  refine ⟨⟨Nat.le_trans hm1 g1, Nat.le_trans hm2 g2⟩, ?_⟩
  intro p e R s m args below meth c T locs cells slots X hx hZ hown hby hml hret hnm hLm hfr hlo hsz hR hF hc hs
  obtain ⟨T1, locs1, X1, R1, F1, st1⟩ := st X hx hZ hown hby hml hnm hLm hfr hlo hsz hR hF (by omega) (by omega)
  have hsz1 : s.heap.size + (cells + (h'.length - h.length)) = T1.heap.size := by
    have a1 := hR.1
    have a2 := R1.1
    omega
  obtain ⟨T2, locs2, X2, R2, F2, st2⟩ := hn p e R s m args below meth c T1 locs1 _ _ X1 hx hZ hown hby hml hret hnm (hL.trans hLm) hfr hlo hsz1 R1 F1 (by omega) (by omega)
  refine ⟨T2, locs2, ?_, R2, F2, fun fs hl => st1 _ (st2 fs hl)⟩
  have e1 : cells + (h'.length - h.length) + (r.2.length - h'.length) = cells + (r.2.length - h.length) := by omega
  have e2 : slots + (hsl (gK G) h' - hsl (gK G) h) + (hsl (gK G) r.2 - hsl (gK G) h') = slots + (hsl (gK G) r.2 - hsl (gK G) h) := by omega
  rw [e1, e2] at X2
  exact X2
/-- a step that leaves the heap -/
theorem Ev.same {pc' : Nat} {L' : List Slot} {S' : List Value} (hL : L'.length = L.length) (hn : Ev G M pc' L' S' h r)
    (st : ∀ {p : Program} {e : Env} {R : Room} {s : State} {m : MethodId} {args : Array Value} {below : List Frame} {meth : Method} {c : Code} {T : State} {locs : List Loc} {cells slots : Nat},
      Stand p (gL G) e R s m args below meth c T locs cells slots → p.tables.exec = Jvm.exec → (gZ G).Warmed39 s.vm → s.vm.findClass (mN M).cls = some m.cls →
      c.code = mB M → c.maxLocals = mL M → L.length = mL M → mF M ≤ R.frames → mW M ≤ R.locals → Rel G T.heap h →
      ∃ T', Stand p (gL G) e R s m args below meth c T' locs cells slots ∧ T'.heap = T.heap ∧
        ∀ target, Steps p.tables e below (T'.setTop (mkF m pc' (arL G L') (S'.map (tr G)))) target → Steps p.tables e below (T.setTop (mkF m pc (arL G L) (S.map (tr G)))) target) :
    Ev G M pc L S h r := by
  refine Ev.gen (Nat.le_refl _) (Nat.le_refl _) hL hn ?_
  intro p e R s m args below meth c T locs cells slots X hx hZ hown hby hml hnm hLm hfr hlo hsz hR hF hc hs
  obtain ⟨T', X', e', st'⟩ := st X hx hZ hown hby hml hLm hfr hlo hR
  refine ⟨T', locs, ?_, by rw [e']; exact hR, hF, st'⟩
  rw [Nat.sub_self, Nat.sub_self, Nat.add_zero, Nat.add_zero]
  exact X'
/-- a step that leaves all but the frame -/
theorem Ev.pure {pc' : Nat} {L' : List Slot} {S' : List Value} (hL : L'.length = L.length) (hn : Ev G M pc' L' S' h r)
    (st : ∀ {p : Program} {e : Env} {R : Room} {s : State} {m : MethodId} {args : Array Value} {below : List Frame} {meth : Method} {c : Code} {T : State} {locs : List Loc} {cells slots : Nat},
      Stand p (gL G) e R s m args below meth c T locs cells slots → p.tables.exec = Jvm.exec → (gZ G).Warmed39 s.vm → s.vm.findClass (mN M).cls = some m.cls →
      c.code = mB M → ∀ target, Steps p.tables e below (T.setTop (mkF m pc' (arL G L') (S'.map (tr G)))) target → Steps p.tables e below (T.setTop (mkF m pc (arL G L) (S.map (tr G)))) target) :
    Ev G M pc L S h r :=
  Ev.same hL hn fun {p e R s m args below meth c T locs cells slots} X hx hZ hown hby hml hLm hfr hlo hR => ⟨T, X, rfl, st X hx hZ hown hby⟩
/-! ### loads, stores, constants -/
theorem Ev.iload {k : Nat} {v : Int32} (hd : decode (mB M) pc = .ok (.iload k, 2)) (hl : L[k]? = some (.val (.int v))) (hn : Ev G M (pc + 2) L (.int v :: S) h r) : Ev G M pc L S h r :=
  Ev.pure rfl hn fun {_ _ _ _ m _ _ _ _ _ _ _ _} X hx hZ hown hby target q => XS.iload (g := mkF m pc (arL G L) (List.map (tr G) S)) X.here hx rfl (hb hby hd) (ld_of hl) q
theorem Ev.iloadN {k : Fin 4} {v : Int32} (hd : decode (mB M) pc = .ok (.iload_n k, 1)) (hl : L[k.val]? = some (.val (.int v))) (hn : Ev G M (pc + 1) L (.int v :: S) h r) : Ev G M pc L S h r :=
  Ev.pure rfl hn fun {_ _ _ _ m _ _ _ _ _ _ _ _} X hx hZ hown hby target q => XS.iloadN (g := mkF m pc (arL G L) (List.map (tr G) S)) X.here hx rfl (hb hby hd) (ld_of hl) q
theorem Ev.aload {k : Nat} {v : Nat} (hd : decode (mB M) pc = .ok (.aload k, 2)) (hl : L[k]? = some (.val (.ref v))) (hn : Ev G M (pc + 2) L (.ref v :: S) h r) : Ev G M pc L S h r :=
  Ev.pure rfl hn fun {_ _ _ _ m _ _ _ _ _ _ _ _} X hx hZ hown hby target q => XS.aload (g := mkF m pc (arL G L) (List.map (tr G) S)) X.here hx rfl (hb hby hd) (ld_of hl) rfl q
theorem Ev.aloadN {k : Fin 4} {v : Nat} (hd : decode (mB M) pc = .ok (.aload_n k, 1)) (hl : L[k.val]? = some (.val (.ref v))) (hn : Ev G M (pc + 1) L (.ref v :: S) h r) : Ev G M pc L S h r :=
  Ev.pure rfl hn fun {_ _ _ _ m _ _ _ _ _ _ _ _} X hx hZ hown hby target q => XS.aloadN (g := mkF m pc (arL G L) (List.map (tr G) S)) X.here hx rfl (hb hby hd) (ld_of hl) rfl q
theorem Ev.lload {k : Nat} {v : Int64} (hd : decode (mB M) pc = .ok (.lload k, 2)) (hl : L[k]? = some (.val (.long v))) (hn : Ev G M (pc + 2) L (.long v :: S) h r) : Ev G M pc L S h r :=
  Ev.pure rfl hn fun {_ _ _ _ m _ _ _ _ _ _ _ _} X hx hZ hown hby target q => XT.lload (g := mkF m pc (arL G L) (List.map (tr G) S)) X.here hx rfl (hb hby hd) (ld_of hl) q
theorem Ev.lloadN {k : Fin 4} {v : Int64} (hd : decode (mB M) pc = .ok (.lload_n k, 1)) (hl : L[k.val]? = some (.val (.long v))) (hn : Ev G M (pc + 1) L (.long v :: S) h r) : Ev G M pc L S h r :=
  Ev.pure rfl hn fun {_ _ _ _ m _ _ _ _ _ _ _ _} X hx hZ hown hby target q => XT.lloadN (g := mkF m pc (arL G L) (List.map (tr G) S)) X.here hx rfl (hb hby hd) (ld_of hl) q
theorem Ev.istore {k : Nat} {v : Int32} {L' : List Slot} (hd : decode (mB M) pc = .ok (.istore k, 2)) (hl : mst L k (.int v) = some L') (hn : Ev G M (pc + 2) L' S h r) : Ev G M pc L (.int v :: S) h r :=
  Ev.pure (mst_len hl) hn fun {_ _ _ _ m _ _ _ _ _ _ _ _} X hx hZ hown hby target q => XS.istore (g := mkF m pc (arL G L) (List.map (tr G) (Value.int v :: S))) X.here hx rfl (hb hby hd) rfl (st_of hl) q
theorem Ev.istoreN {k : Fin 4} {v : Int32} {L' : List Slot} (hd : decode (mB M) pc = .ok (.istore_n k, 1)) (hl : mst L k.val (.int v) = some L') (hn : Ev G M (pc + 1) L' S h r) : Ev G M pc L (.int v :: S) h r :=
  Ev.pure (mst_len hl) hn fun {_ _ _ _ m _ _ _ _ _ _ _ _} X hx hZ hown hby target q => XS.istoreN (g := mkF m pc (arL G L) (List.map (tr G) (Value.int v :: S))) X.here hx rfl (hb hby hd) rfl (st_of hl) q
theorem Ev.astore {k v : Nat} {L' : List Slot} (hd : decode (mB M) pc = .ok (.astore k, 2)) (hl : mst L k (.ref v) = some L') (hn : Ev G M (pc + 2) L' S h r) : Ev G M pc L (.ref v :: S) h r :=
  Ev.pure (mst_len hl) hn fun {_ _ _ _ m _ _ _ _ _ _ _ _} X hx hZ hown hby target q => XS.astore (g := mkF m pc (arL G L) (List.map (tr G) (Value.ref v :: S))) X.here hx rfl (hb hby hd) rfl rfl (st_of hl) q
theorem Ev.astoreN {k : Fin 4} {v : Nat} {L' : List Slot} (hd : decode (mB M) pc = .ok (.astore_n k, 1)) (hl : mst L k.val (.ref v) = some L') (hn : Ev G M (pc + 1) L' S h r) : Ev G M pc L (.ref v :: S) h r :=
  Ev.pure (mst_len hl) hn fun {_ _ _ _ m _ _ _ _ _ _ _ _} X hx hZ hown hby target q => XS.astoreN (g := mkF m pc (arL G L) (List.map (tr G) (Value.ref v :: S))) X.here hx rfl (hb hby hd) rfl rfl (st_of hl) q
theorem Ev.lstore {k : Nat} {v : Int64} {L' : List Slot} (hd : decode (mB M) pc = .ok (.lstore k, 2)) (hl : mst L k (.long v) = some L') (hn : Ev G M (pc + 2) L' S h r) : Ev G M pc L (.long v :: S) h r :=
  Ev.pure (mst_len hl) hn fun {_ _ _ _ m _ _ _ _ _ _ _ _} X hx hZ hown hby target q => XT.lstore (g := mkF m pc (arL G L) (List.map (tr G) (Value.long v :: S))) X.here hx rfl (hb hby hd) rfl (st_of hl) q
theorem Ev.lstoreN {k : Fin 4} {v : Int64} {L' : List Slot} (hd : decode (mB M) pc = .ok (.lstore_n k, 1)) (hl : mst L k.val (.long v) = some L') (hn : Ev G M (pc + 1) L' S h r) : Ev G M pc L (.long v :: S) h r :=
  Ev.pure (mst_len hl) hn fun {_ _ _ _ m _ _ _ _ _ _ _ _} X hx hZ hown hby target q => XT.lstoreN (g := mkF m pc (arL G L) (List.map (tr G) (Value.long v :: S))) X.here hx rfl (hb hby hd) rfl (st_of hl) q
theorem Ev.iconst {i : Int} {z : Int32} (hd : decode (mB M) pc = .ok (.iconst i, 1)) (hz : Int32.ofInt i = z) (hn : Ev G M (pc + 1) L (.int z :: S) h r) : Ev G M pc L S h r :=
  Ev.pure rfl (hz ▸ hn) fun {_ _ _ _ m _ _ _ _ _ _ _ _} X hx hZ hown hby target q => XS.iconst (g := mkF m pc (arL G L) (List.map (tr G) S)) X.here hx rfl (hb hby hd) q
theorem Ev.bipush {i : Int} {z : Int32} (hd : decode (mB M) pc = .ok (.bipush i, 2)) (hz : (Int8.ofInt i).toInt32 = z) (hn : Ev G M (pc + 2) L (.int z :: S) h r) : Ev G M pc L S h r :=
  Ev.pure rfl (hz ▸ hn) fun {_ _ _ _ m _ _ _ _ _ _ _ _} X hx hZ hown hby target q => XS.bipush (g := mkF m pc (arL G L) (List.map (tr G) S)) X.here hx rfl (hb hby hd) q
theorem Ev.sipush {i : Int} {z : Int32} (hd : decode (mB M) pc = .ok (.sipush i, 3)) (hz : (Int16.ofInt i).toInt32 = z) (hn : Ev G M (pc + 3) L (.int z :: S) h r) : Ev G M pc L S h r :=
  Ev.pure rfl (hz ▸ hn) fun {_ _ _ _ m _ _ _ _ _ _ _ _} X hx hZ hown hby target q => XS.sipush (g := mkF m pc (arL G L) (List.map (tr G) S)) X.here hx rfl (hb hby hd) q
theorem Ev.lconst {k : Fin 2} {z : Int64} (hd : decode (mB M) pc = .ok (.lconst k, 1)) (hz : Int64.ofNat k = z) (hn : Ev G M (pc + 1) L (.long z :: S) h r) : Ev G M pc L S h r :=
  Ev.pure rfl (hz ▸ hn) fun {_ _ _ _ m _ _ _ _ _ _ _ _} X hx hZ hown hby target q => XT.lconst (g := mkF m pc (arL G L) (List.map (tr G) S)) X.here hx rfl (hb hby hd) q
theorem Ev.ldc {k : Nat} {v : Int32} (w : (Jvm.Cond.constant (mN M).cls k v).before (gA G) (gZ G) = true) (hd : decode (mB M) pc = .ok (.ldc k, 2)) (hn : Ev G M (pc + 2) L (.int v :: S) h r) : Ev G M pc L S h r :=
  Ev.pure rfl hn fun {_ _ _ _ m _ _ _ _ _ _ _ _} X hx hZ hown hby target q => X.ldcInt hx hown (mvT hZ w) (g := mkF m pc (arL G L) (List.map (tr G) S)) rfl (hb hby hd) target q
theorem Ev.ldcW {k : Nat} {v : Int32} (w : (Jvm.Cond.constant (mN M).cls k v).before (gA G) (gZ G) = true) (hd : decode (mB M) pc = .ok (.ldc_w k, 3)) (hn : Ev G M (pc + 3) L (.int v :: S) h r) : Ev G M pc L S h r :=
  Ev.pure rfl hn fun {_ _ _ _ m _ _ _ _ _ _ _ _} X hx hZ hown hby target q => X.ldcwInt hx hown (mvT hZ w) (g := mkF m pc (arL G L) (List.map (tr G) S)) rfl (hb hby hd) target q
theorem Ev.ldcL {k : Nat} {v : Int64} (w : (Jvm.Cond.constantLong (mN M).cls k v).before (gA G) (gZ G) = true) (hd : decode (mB M) pc = .ok (.ldc2_w k, 3)) (hn : Ev G M (pc + 3) L (.long v :: S) h r) : Ev G M pc L S h r :=
  Ev.pure rfl hn fun {_ _ _ _ m _ _ _ _ _ _ _ _} X hx hZ hown hby target q => X.ldc2Long hx hown (mvT hZ w) (g := mkF m pc (arL G L) (List.map (tr G) S)) rfl (hb hby hd) target q
/-! ### reckoning -/
theorem Ev.iadd {x y : Int32} (hd : decode (mB M) pc = .ok (.iadd, 1)) (hn : Ev G M (pc + 1) L (.int (x + y) :: S) h r) : Ev G M pc L (.int y :: .int x :: S) h r :=
  Ev.pure rfl hn fun {_ _ _ _ m _ _ _ _ _ _ _ _} X hx hZ hown hby target q => XS.iadd (g := mkF m pc (arL G L) (List.map (tr G) (Value.int y :: Value.int x :: S))) X.here hx rfl (hb hby hd) rfl q
theorem Ev.isub {x y : Int32} (hd : decode (mB M) pc = .ok (.isub, 1)) (hn : Ev G M (pc + 1) L (.int (x - y) :: S) h r) : Ev G M pc L (.int y :: .int x :: S) h r :=
  Ev.pure rfl hn fun {_ _ _ _ m _ _ _ _ _ _ _ _} X hx hZ hown hby target q => XS.isub (g := mkF m pc (arL G L) (List.map (tr G) (Value.int y :: Value.int x :: S))) X.here hx rfl (hb hby hd) rfl q
theorem Ev.imul {x y : Int32} (hd : decode (mB M) pc = .ok (.imul, 1)) (hn : Ev G M (pc + 1) L (.int (x * y) :: S) h r) : Ev G M pc L (.int y :: .int x :: S) h r :=
  Ev.pure rfl hn fun {_ _ _ _ m _ _ _ _ _ _ _ _} X hx hZ hown hby target q => XS.imul (g := mkF m pc (arL G L) (List.map (tr G) (Value.int y :: Value.int x :: S))) X.here hx rfl (hb hby hd) rfl q
theorem Ev.idiv {x y : Int32} (hd : decode (mB M) pc = .ok (.idiv, 1)) (hy : y ≠ 0) (hn : Ev G M (pc + 1) L (.int (x / y) :: S) h r) : Ev G M pc L (.int y :: .int x :: S) h r :=
  Ev.pure rfl hn fun {_ _ _ _ m _ _ _ _ _ _ _ _} X hx hZ hown hby target q => XS.idiv (g := mkF m pc (arL G L) (List.map (tr G) (Value.int y :: Value.int x :: S))) X.here hx rfl (hb hby hd) rfl hy q
theorem Ev.irem {x y : Int32} (hd : decode (mB M) pc = .ok (.irem, 1)) (hy : y ≠ 0) (hn : Ev G M (pc + 1) L (.int (x % y) :: S) h r) : Ev G M pc L (.int y :: .int x :: S) h r :=
  Ev.pure rfl hn fun {_ _ _ _ m _ _ _ _ _ _ _ _} X hx hZ hown hby target q => iremM (g := mkF m pc (arL G L) (List.map (tr G) (Value.int y :: Value.int x :: S))) X hx rfl (hb hby hd) rfl hy q
theorem Ev.ineg {x : Int32} (hd : decode (mB M) pc = .ok (.ineg, 1)) (hn : Ev G M (pc + 1) L (.int (-x) :: S) h r) : Ev G M pc L (.int x :: S) h r :=
  Ev.pure rfl hn fun {_ _ _ _ m _ _ _ _ _ _ _ _} X hx hZ hown hby target q => XS.ineg (g := mkF m pc (arL G L) (List.map (tr G) (Value.int x :: S))) X.here hx rfl (hb hby hd) rfl q
theorem Ev.iand {x y : Int32} (hd : decode (mB M) pc = .ok (.iand, 1)) (hn : Ev G M (pc + 1) L (.int (x &&& y) :: S) h r) : Ev G M pc L (.int y :: .int x :: S) h r :=
  Ev.pure rfl hn fun {_ _ _ _ m _ _ _ _ _ _ _ _} X hx hZ hown hby target q => XS.iand (g := mkF m pc (arL G L) (List.map (tr G) (Value.int y :: Value.int x :: S))) X.here hx rfl (hb hby hd) rfl q
theorem Ev.ior {x y : Int32} (hd : decode (mB M) pc = .ok (.ior, 1)) (hn : Ev G M (pc + 1) L (.int (x ||| y) :: S) h r) : Ev G M pc L (.int y :: .int x :: S) h r :=
  Ev.pure rfl hn fun {_ _ _ _ m _ _ _ _ _ _ _ _} X hx hZ hown hby target q => XT.ior (g := mkF m pc (arL G L) (List.map (tr G) (Value.int y :: Value.int x :: S))) X.here hx rfl (hb hby hd) rfl q
theorem Ev.ixor {x y : Int32} (hd : decode (mB M) pc = .ok (.ixor, 1)) (hn : Ev G M (pc + 1) L (.int (x ^^^ y) :: S) h r) : Ev G M pc L (.int y :: .int x :: S) h r :=
  Ev.pure rfl hn fun {_ _ _ _ m _ _ _ _ _ _ _ _} X hx hZ hown hby target q => XT.ixor (g := mkF m pc (arL G L) (List.map (tr G) (Value.int y :: Value.int x :: S))) X.here hx rfl (hb hby hd) rfl q
theorem Ev.ishl {x y : Int32} (hd : decode (mB M) pc = .ok (.ishl, 1)) (hn : Ev G M (pc + 1) L (.int (x <<< (y &&& 31)) :: S) h r) : Ev G M pc L (.int y :: .int x :: S) h r :=
  Ev.pure rfl hn fun {_ _ _ _ m _ _ _ _ _ _ _ _} X hx hZ hown hby target q => XT.ishl (g := mkF m pc (arL G L) (List.map (tr G) (Value.int y :: Value.int x :: S))) X.here hx rfl (hb hby hd) rfl q
theorem Ev.ishr {x y : Int32} (hd : decode (mB M) pc = .ok (.ishr, 1)) (hn : Ev G M (pc + 1) L (.int (x >>> (y &&& 31)) :: S) h r) : Ev G M pc L (.int y :: .int x :: S) h r :=
  Ev.pure rfl hn fun {_ _ _ _ m _ _ _ _ _ _ _ _} X hx hZ hown hby target q => XT.ishr (g := mkF m pc (arL G L) (List.map (tr G) (Value.int y :: Value.int x :: S))) X.here hx rfl (hb hby hd) rfl q
theorem Ev.iushr {x y : Int32} (hd : decode (mB M) pc = .ok (.iushr, 1)) (hn : Ev G M (pc + 1) L (.int (XT.ushr x y) :: S) h r) : Ev G M pc L (.int y :: .int x :: S) h r :=
  Ev.pure rfl hn fun {_ _ _ _ m _ _ _ _ _ _ _ _} X hx hZ hown hby target q => XT.iushr (g := mkF m pc (arL G L) (List.map (tr G) (Value.int y :: Value.int x :: S))) X.here hx rfl (hb hby hd) rfl q
theorem Ev.ladd {x y : Int64} (hd : decode (mB M) pc = .ok (.ladd, 1)) (hn : Ev G M (pc + 1) L (.long (x + y) :: S) h r) : Ev G M pc L (.long y :: .long x :: S) h r :=
  Ev.pure rfl hn fun {_ _ _ _ m _ _ _ _ _ _ _ _} X hx hZ hown hby target q => XT.ladd (g := mkF m pc (arL G L) (List.map (tr G) (Value.long y :: Value.long x :: S))) X.here hx rfl (hb hby hd) rfl q
theorem Ev.lsub {x y : Int64} (hd : decode (mB M) pc = .ok (.lsub, 1)) (hn : Ev G M (pc + 1) L (.long (x - y) :: S) h r) : Ev G M pc L (.long y :: .long x :: S) h r :=
  Ev.pure rfl hn fun {_ _ _ _ m _ _ _ _ _ _ _ _} X hx hZ hown hby target q => XT.lsub (g := mkF m pc (arL G L) (List.map (tr G) (Value.long y :: Value.long x :: S))) X.here hx rfl (hb hby hd) rfl q
theorem Ev.lmul {x y : Int64} (hd : decode (mB M) pc = .ok (.lmul, 1)) (hn : Ev G M (pc + 1) L (.long (x * y) :: S) h r) : Ev G M pc L (.long y :: .long x :: S) h r :=
  Ev.pure rfl hn fun {_ _ _ _ m _ _ _ _ _ _ _ _} X hx hZ hown hby target q => XT.lmul (g := mkF m pc (arL G L) (List.map (tr G) (Value.long y :: Value.long x :: S))) X.here hx rfl (hb hby hd) rfl q
theorem Ev.ldiv {x y : Int64} (hd : decode (mB M) pc = .ok (.ldiv, 1)) (hy : y ≠ 0) (hn : Ev G M (pc + 1) L (.long (x / y) :: S) h r) : Ev G M pc L (.long y :: .long x :: S) h r :=
  Ev.pure rfl hn fun {_ _ _ _ m _ _ _ _ _ _ _ _} X hx hZ hown hby target q => XT.ldiv (g := mkF m pc (arL G L) (List.map (tr G) (Value.long y :: Value.long x :: S))) X.here hx rfl (hb hby hd) rfl hy q
theorem Ev.lneg {x : Int64} (hd : decode (mB M) pc = .ok (.lneg, 1)) (hn : Ev G M (pc + 1) L (.long (-x) :: S) h r) : Ev G M pc L (.long x :: S) h r :=
  Ev.pure rfl hn fun {_ _ _ _ m _ _ _ _ _ _ _ _} X hx hZ hown hby target q => XT.lneg (g := mkF m pc (arL G L) (List.map (tr G) (Value.long x :: S))) X.here hx rfl (hb hby hd) rfl q
theorem Ev.land {x y : Int64} (hd : decode (mB M) pc = .ok (.land, 1)) (hn : Ev G M (pc + 1) L (.long (x &&& y) :: S) h r) : Ev G M pc L (.long y :: .long x :: S) h r :=
  Ev.pure rfl hn fun {_ _ _ _ m _ _ _ _ _ _ _ _} X hx hZ hown hby target q => XT.land (g := mkF m pc (arL G L) (List.map (tr G) (Value.long y :: Value.long x :: S))) X.here hx rfl (hb hby hd) rfl q
theorem Ev.lor {x y : Int64} (hd : decode (mB M) pc = .ok (.lor, 1)) (hn : Ev G M (pc + 1) L (.long (x ||| y) :: S) h r) : Ev G M pc L (.long y :: .long x :: S) h r :=
  Ev.pure rfl hn fun {_ _ _ _ m _ _ _ _ _ _ _ _} X hx hZ hown hby target q => XT.lor (g := mkF m pc (arL G L) (List.map (tr G) (Value.long y :: Value.long x :: S))) X.here hx rfl (hb hby hd) rfl q
theorem Ev.lxor {x y : Int64} (hd : decode (mB M) pc = .ok (.lxor, 1)) (hn : Ev G M (pc + 1) L (.long (x ^^^ y) :: S) h r) : Ev G M pc L (.long y :: .long x :: S) h r :=
  Ev.pure rfl hn fun {_ _ _ _ m _ _ _ _ _ _ _ _} X hx hZ hown hby target q => XT.lxor (g := mkF m pc (arL G L) (List.map (tr G) (Value.long y :: Value.long x :: S))) X.here hx rfl (hb hby hd) rfl q
theorem Ev.lshl {x : Int64} {y : Int32} (hd : decode (mB M) pc = .ok (.lshl, 1)) (hn : Ev G M (pc + 1) L (.long (x <<< (y.toInt64 &&& 63)) :: S) h r) : Ev G M pc L (.int y :: .long x :: S) h r :=
  Ev.pure rfl hn fun {_ _ _ _ m _ _ _ _ _ _ _ _} X hx hZ hown hby target q => XT.lshl (g := mkF m pc (arL G L) (List.map (tr G) (Value.int y :: Value.long x :: S))) X.here hx rfl (hb hby hd) rfl q
theorem Ev.lushr {x : Int64} {y : Int32} (hd : decode (mB M) pc = .ok (.lushr, 1)) (hn : Ev G M (pc + 1) L (.long (XT.ushrL x y) :: S) h r) : Ev G M pc L (.int y :: .long x :: S) h r :=
  Ev.pure rfl hn fun {_ _ _ _ m _ _ _ _ _ _ _ _} X hx hZ hown hby target q => XT.lushr (g := mkF m pc (arL G L) (List.map (tr G) (Value.int y :: Value.long x :: S))) X.here hx rfl (hb hby hd) rfl q
theorem Ev.lcmp {x y : Int64} (hd : decode (mB M) pc = .ok (.lcmp, 1)) (hn : Ev G M (pc + 1) L (.int (XT.cmpL x y) :: S) h r) : Ev G M pc L (.long y :: .long x :: S) h r :=
  Ev.pure rfl hn fun {_ _ _ _ m _ _ _ _ _ _ _ _} X hx hZ hown hby target q => XT.lcmp (g := mkF m pc (arL G L) (List.map (tr G) (Value.long y :: Value.long x :: S))) X.here hx rfl (hb hby hd) rfl q
theorem Ev.i2l {x : Int32} (hd : decode (mB M) pc = .ok (.i2l, 1)) (hn : Ev G M (pc + 1) L (.long x.toInt64 :: S) h r) : Ev G M pc L (.int x :: S) h r :=
  Ev.pure rfl hn fun {_ _ _ _ m _ _ _ _ _ _ _ _} X hx hZ hown hby target q => XT.i2l (g := mkF m pc (arL G L) (List.map (tr G) (Value.int x :: S))) X.here hx rfl (hb hby hd) rfl q
theorem Ev.l2i {x : Int64} (hd : decode (mB M) pc = .ok (.l2i, 1)) (hn : Ev G M (pc + 1) L (.int x.toInt32 :: S) h r) : Ev G M pc L (.long x :: S) h r :=
  Ev.pure rfl hn fun {_ _ _ _ m _ _ _ _ _ _ _ _} X hx hZ hown hby target q => XT.l2i (g := mkF m pc (arL G L) (List.map (tr G) (Value.long x :: S))) X.here hx rfl (hb hby hd) rfl q
theorem Ev.i2b {x : Int32} (hd : decode (mB M) pc = .ok (.i2b, 1)) (hn : Ev G M (pc + 1) L (.int x.toInt8.toInt32 :: S) h r) : Ev G M pc L (.int x :: S) h r :=
  Ev.pure rfl hn fun {_ _ _ _ m _ _ _ _ _ _ _ _} X hx hZ hown hby target q => XT.i2b (g := mkF m pc (arL G L) (List.map (tr G) (Value.int x :: S))) X.here hx rfl (hb hby hd) rfl q
theorem Ev.iinc {k : Nat} {i : Int} {x z : Int32} {L' : List Slot} (hd : decode (mB M) pc = .ok (.iinc k i, 3)) (hl : L[k]? = some (.val (.int x))) (hz : Int32.ofInt i = z) (hl' : mst L k (.int (x + z)) = some L') (hn : Ev G M (pc + 3) L' S h r) : Ev G M pc L S h r :=
  Ev.pure (mst_len hl') hn fun {_ _ _ _ m _ _ _ _ _ _ _ _} X hx hZ hown hby target q => XS.iinc (g := mkF m pc (arL G L) (List.map (tr G) S)) X.here hx rfl (hb hby hd) (ld_of hl) (by rw [hz]; exact st_of hl') q
theorem iincW {tb : Tables} [Ours tb] {e : Env} {below : List Frame} {T target : State} {m : MethodId} {c : Code} {g : JFrame} (h : At T m c below) (hx : tb.exec = Jvm.exec) (hg : g.method = m) {k : Nat} {cst : Int} {x : Int32} {l' : Array Slot} (hd : decode c.code g.pc = .ok (.iinc k cst, 6)) (hl : g.locals[k]? = some (.val (.int x))) (hl' : storeLocals g.locals k (.int (x + Int32.ofInt cst)) = some l')
    (hr : Steps tb e below (T.setTop { g with pc := g.pc + 6, locals := l' }) target) : Steps tb e below (T.setTop g) target := by
  subst hg
  jvm_step h [h.top, hx, hd, hl, hl']
  exact hr
theorem Ev.iincW {k : Nat} {i : Int} {x z : Int32} {L' : List Slot} (hd : decode (mB M) pc = .ok (.iinc k i, 6)) (hl : L[k]? = some (.val (.int x))) (hz : Int32.ofInt i = z) (hl' : mst L k (.int (x + z)) = some L') (hn : Ev G M (pc + 6) L' S h r) : Ev G M pc L S h r :=
  Ev.pure (mst_len hl') hn fun {_ _ _ _ m _ _ _ _ _ _ _ _} X hx hZ hown hby target q => Own.iincW (g := mkF m pc (arL G L) (List.map (tr G) S)) X.here hx rfl (hb hby hd) (ld_of hl) (by rw [hz]; exact st_of hl') q
theorem Ev.dup {x : Value} (hd : decode (mB M) pc = .ok (.dup, 1)) (hc : x.category = 1) (hn : Ev G M (pc + 1) L (x :: x :: S) h r) : Ev G M pc L (x :: S) h r :=
  Ev.pure rfl hn fun {_ _ _ _ m _ _ _ _ _ _ _ _} X hx hZ hown hby target q => XS.dup (g := mkF m pc (arL G L) (List.map (tr G) (x :: S))) X.here hx rfl (hb hby hd) rfl ((tr_cat G x).trans hc) q
theorem Ev.dup2 {x y : Value} (hd : decode (mB M) pc = .ok (.dup2, 1)) (hc : x.category = 1) (hc' : y.category = 1) (hn : Ev G M (pc + 1) L (x :: y :: x :: y :: S) h r) : Ev G M pc L (x :: y :: S) h r :=
  Ev.pure rfl hn fun {_ _ _ _ m _ _ _ _ _ _ _ _} X hx hZ hown hby target q => XT.dup2 (g := mkF m pc (arL G L) (List.map (tr G) (x :: y :: S))) X.here hx rfl (hb hby hd) rfl ((tr_cat G x).trans hc) ((tr_cat G y).trans hc') q
theorem Ev.pop {x : Value} (hd : decode (mB M) pc = .ok (.pop, 1)) (hc : x.category = 1) (hn : Ev G M (pc + 1) L S h r) : Ev G M pc L (x :: S) h r :=
  Ev.pure rfl hn fun {_ _ _ _ m _ _ _ _ _ _ _ _} X hx hZ hown hby target q => XT.pop (g := mkF m pc (arL G L) (List.map (tr G) (x :: S))) X.here hx rfl (hb hby hd) rfl ((tr_cat G x).trans hc) q
/-! ### branches -/
theorem Ev.goto {o : Int} {t : Nat} (hd : decode (mB M) pc = .ok (.goto o, 3)) (hp : (pc : Int) + o = (t : Int)) (hn : Ev G M t L S h r) : Ev G M pc L S h r :=
  Ev.pure rfl hn fun {_ _ _ _ m _ _ _ _ _ _ _ _} X hx hZ hown hby target q => XS.goto (g := mkF m pc (arL G L) (List.map (tr G) S)) X.here hx rfl rfl (hb hby hd) (by rw [hp]; exact Int.natCast_nonneg t) (by rw [hp]; rfl) q
theorem Ev.ifc {cd : ClassFile.Cond} {x : Int32} {o : Int} {t : Nat} (hd : decode (mB M) pc = .ok (.ifCond cd o, 3)) (hp : (pc : Int) + o = (t : Int)) (h1 : ifCond.holds cd x = true → Ev G M t L S h r) (h2 : ifCond.holds cd x = false → Ev G M (pc + 3) L S h r) : Ev G M pc L (.int x :: S) h r := by
  cases hc : ifCond.holds cd x with
  | true => exact Ev.pure rfl (h1 hc) fun {_ _ _ _ m _ _ _ _ _ _ _ _} X hx hZ hown hby target q => XS.ifYes (g := mkF m pc (arL G L) (List.map (tr G) (Value.int x :: S))) X.here hx rfl rfl (hb hby hd) rfl hc (by rw [hp]; exact Int.natCast_nonneg t) (by rw [hp]; rfl) q
  | false => exact Ev.pure rfl (h2 hc) fun {_ _ _ _ m _ _ _ _ _ _ _ _} X hx hZ hown hby target q => XS.ifNo (g := mkF m pc (arL G L) (List.map (tr G) (Value.int x :: S))) X.here hx rfl (hb hby hd) rfl hc q
theorem Ev.icc {cd : ClassFile.Cond} {x y : Int32} {o : Int} {t : Nat} (hd : decode (mB M) pc = .ok (.if_icmp cd o, 3)) (hp : (pc : Int) + o = (t : Int)) (h1 : if_icmp.holds cd x y = true → Ev G M t L S h r) (h2 : if_icmp.holds cd x y = false → Ev G M (pc + 3) L S h r) : Ev G M pc L (.int y :: .int x :: S) h r := by
  cases hc : if_icmp.holds cd x y with
  | true => exact Ev.pure rfl (h1 hc) fun {_ _ _ _ m _ _ _ _ _ _ _ _} X hx hZ hown hby target q => XS.icmpYes (g := mkF m pc (arL G L) (List.map (tr G) (Value.int y :: Value.int x :: S))) X.here hx rfl rfl (hb hby hd) rfl hc (by rw [hp]; exact Int.natCast_nonneg t) (by rw [hp]; rfl) q
  | false => exact Ev.pure rfl (h2 hc) fun {_ _ _ _ m _ _ _ _ _ _ _ _} X hx hZ hown hby target q => XS.icmpNo (g := mkF m pc (arL G L) (List.map (tr G) (Value.int y :: Value.int x :: S))) X.here hx rfl (hb hby hd) rfl hc q
theorem Ev.iclt {x y : Int32} {o : Int} {t : Nat} (hd : decode (mB M) pc = .ok (.if_icmp .lt o, 3)) (hp : (pc : Int) + o = (t : Int)) (h1 : x < y → Ev G M t L S h r) (h2 : ¬ x < y → Ev G M (pc + 3) L S h r) : Ev G M pc L (.int y :: .int x :: S) h r :=
  Ev.icc hd hp (fun q => h1 (by simpa [if_icmp.holds] using q)) (fun q => h2 (by simpa [if_icmp.holds] using q))
theorem Ev.icge {x y : Int32} {o : Int} {t : Nat} (hd : decode (mB M) pc = .ok (.if_icmp .ge o, 3)) (hp : (pc : Int) + o = (t : Int)) (h1 : x < y → Ev G M (pc + 3) L S h r) (h2 : ¬ x < y → Ev G M t L S h r) : Ev G M pc L (.int y :: .int x :: S) h r :=
  Ev.icc hd hp (fun q => h2 (by simpa [if_icmp.holds] using q)) (fun q => h1 (by simpa [if_icmp.holds] using q))
theorem Ev.icgt {x y : Int32} {o : Int} {t : Nat} (hd : decode (mB M) pc = .ok (.if_icmp .gt o, 3)) (hp : (pc : Int) + o = (t : Int)) (h1 : y < x → Ev G M t L S h r) (h2 : ¬ y < x → Ev G M (pc + 3) L S h r) : Ev G M pc L (.int y :: .int x :: S) h r :=
  Ev.icc hd hp (fun q => h1 (by simpa [if_icmp.holds] using q)) (fun q => h2 (by simpa [if_icmp.holds] using q))
theorem Ev.icle {x y : Int32} {o : Int} {t : Nat} (hd : decode (mB M) pc = .ok (.if_icmp .le o, 3)) (hp : (pc : Int) + o = (t : Int)) (h1 : y < x → Ev G M (pc + 3) L S h r) (h2 : ¬ y < x → Ev G M t L S h r) : Ev G M pc L (.int y :: .int x :: S) h r :=
  Ev.icc hd hp (fun q => h2 (by simpa [if_icmp.holds] using q)) (fun q => h1 (by simpa [if_icmp.holds] using q))
theorem Ev.iceq {x y : Int32} {o : Int} {t : Nat} (hd : decode (mB M) pc = .ok (.if_icmp .eq o, 3)) (hp : (pc : Int) + o = (t : Int)) (h1 : x = y → Ev G M t L S h r) (h2 : ¬ x = y → Ev G M (pc + 3) L S h r) : Ev G M pc L (.int y :: .int x :: S) h r :=
  Ev.icc hd hp (fun q => h1 (by simpa [if_icmp.holds] using q)) (fun q => h2 (by simpa [if_icmp.holds] using q))
theorem Ev.icne {x y : Int32} {o : Int} {t : Nat} (hd : decode (mB M) pc = .ok (.if_icmp .ne o, 3)) (hp : (pc : Int) + o = (t : Int)) (h1 : x = y → Ev G M (pc + 3) L S h r) (h2 : ¬ x = y → Ev G M t L S h r) : Ev G M pc L (.int y :: .int x :: S) h r :=
  Ev.icc hd hp (fun q => h2 (by simpa [if_icmp.holds] using q)) (fun q => h1 (by simpa [if_icmp.holds] using q))
theorem Ev.iflt {x : Int32} {o : Int} {t : Nat} (hd : decode (mB M) pc = .ok (.ifCond .lt o, 3)) (hp : (pc : Int) + o = (t : Int)) (h1 : x < 0 → Ev G M t L S h r) (h2 : ¬ x < 0 → Ev G M (pc + 3) L S h r) : Ev G M pc L (.int x :: S) h r :=
  Ev.ifc hd hp (fun q => h1 (by simpa [ifCond.holds] using q)) (fun q => h2 (by simpa [ifCond.holds] using q))
theorem Ev.ifge {x : Int32} {o : Int} {t : Nat} (hd : decode (mB M) pc = .ok (.ifCond .ge o, 3)) (hp : (pc : Int) + o = (t : Int)) (h1 : x < 0 → Ev G M (pc + 3) L S h r) (h2 : ¬ x < 0 → Ev G M t L S h r) : Ev G M pc L (.int x :: S) h r :=
  Ev.ifc hd hp (fun q => h2 (by simpa [ifCond.holds] using q)) (fun q => h1 (by simpa [ifCond.holds] using q))
theorem Ev.ifgt {x : Int32} {o : Int} {t : Nat} (hd : decode (mB M) pc = .ok (.ifCond .gt o, 3)) (hp : (pc : Int) + o = (t : Int)) (h1 : 0 < x → Ev G M t L S h r) (h2 : ¬ 0 < x → Ev G M (pc + 3) L S h r) : Ev G M pc L (.int x :: S) h r :=
  Ev.ifc hd hp (fun q => h1 (by simpa [ifCond.holds] using q)) (fun q => h2 (by simpa [ifCond.holds] using q))
theorem Ev.ifle {x : Int32} {o : Int} {t : Nat} (hd : decode (mB M) pc = .ok (.ifCond .le o, 3)) (hp : (pc : Int) + o = (t : Int)) (h1 : 0 < x → Ev G M (pc + 3) L S h r) (h2 : ¬ 0 < x → Ev G M t L S h r) : Ev G M pc L (.int x :: S) h r :=
  Ev.ifc hd hp (fun q => h2 (by simpa [ifCond.holds] using q)) (fun q => h1 (by simpa [ifCond.holds] using q))
theorem Ev.ifeq {x : Int32} {o : Int} {t : Nat} (hd : decode (mB M) pc = .ok (.ifCond .eq o, 3)) (hp : (pc : Int) + o = (t : Int)) (h1 : x = 0 → Ev G M t L S h r) (h2 : ¬ x = 0 → Ev G M (pc + 3) L S h r) : Ev G M pc L (.int x :: S) h r :=
  Ev.ifc hd hp (fun q => h1 (by simpa [ifCond.holds] using q)) (fun q => h2 (by simpa [ifCond.holds] using q))
theorem Ev.ifne {x : Int32} {o : Int} {t : Nat} (hd : decode (mB M) pc = .ok (.ifCond .ne o, 3)) (hp : (pc : Int) + o = (t : Int)) (h1 : x = 0 → Ev G M (pc + 3) L S h r) (h2 : ¬ x = 0 → Ev G M t L S h r) : Ev G M pc L (.int x :: S) h r :=
  Ev.ifc hd hp (fun q => h2 (by simpa [ifCond.holds] using q)) (fun q => h1 (by simpa [ifCond.holds] using q))
theorem Ev.tswIn {x : Int32} {dflt low high : Int} {offs : Array Int} {len t : Nat} {o : Int} (hd : decode (mB M) pc = .ok (.tableswitch dflt low high offs, len)) (hin : ¬ (x.toInt < low ∨ x.toInt > high)) (ho : offs[(x.toInt - low).toNat]? = some o) (hp : (pc : Int) + o = (t : Int)) (hn : Ev G M t L S h r) : Ev G M pc L (.int x :: S) h r :=
  Ev.pure rfl hn fun {_ _ _ _ m _ _ _ _ _ _ _ _} X hx hZ hown hby target q => XS.tswIn (g := mkF m pc (arL G L) (List.map (tr G) (Value.int x :: S))) X.here hx rfl rfl (hb hby hd) rfl hin ho (by rw [hp]; exact Int.natCast_nonneg t) (by rw [hp]; rfl) q
theorem Ev.tswOut {x : Int32} {dflt low high : Int} {offs : Array Int} {len t : Nat} (hd : decode (mB M) pc = .ok (.tableswitch dflt low high offs, len)) (hout : x.toInt < low ∨ x.toInt > high) (hp : (pc : Int) + dflt = (t : Int)) (hn : Ev G M t L S h r) : Ev G M pc L (.int x :: S) h r :=
  Ev.pure rfl hn fun {_ _ _ _ m _ _ _ _ _ _ _ _} X hx hZ hown hby target q => XS.tswOut (g := mkF m pc (arL G L) (List.map (tr G) (Value.int x :: S))) X.here hx rfl rfl (hb hby hd) rfl hout (by rw [hp]; exact Int.natCast_nonneg t) (by rw [hp]; rfl) q
/-! ### fields -/
theorem Ev.getfield {idx j i : Nat} {n d : String} {ty : FieldType} {fs : List Value} {v : Value} (w : (Jvm.Cond.fieldLink (mN M).cls idx (gC G) n d).before (gA G) (gZ G) = true) (hd : decode (mB M) pc = .ok (.getfield idx, 3))
    (hF : (gF G)[j]? = some (n, d, ty)) (hi : h[i]? = some (.inl fs)) (hv : fs[j]? = some v) (hn : Ev G M (pc + 3) L (v :: S) h r) : Ev G M pc L (.ref i :: S) h r := by
  refine Ev.same rfl hn ?_
  intro p e R s m args below meth c T locs cells slots X hx hZ hown hby hml hLm hfr hlo hR
  obtain ⟨-, -, h3⟩ := hR.2.2.2 i _ hi
  obtain ⟨T', X', e', st⟩ := getF X hx hZ hown (host := "") (Or.inl w) Via.refl rfl (h3 j n d ty v hF hv) (g := mkF m pc (arL G L) ((Value.ref i :: S).map (tr G))) rfl rfl (hb hby hd)
  exact ⟨T', X', e', st⟩
def mput : FieldType → Value → Option Value
  | .int, .int z => some (.int z)
  | .boolean, .int z => some (.int (z &&& 1))
  | .array _, .ref a => some (.ref a)
  | _, _ => none
theorem mput_spec {G : Ctx} {ty : FieldType} {v v' : Value} (h : mput ty v = some v') : narrow ty (tr G v) = tr G v' ∧ fits ty (tr G v') = true := by
  unfold mput at h
  split at h
  · cases h; exact ⟨rfl, rfl⟩
  · cases h; exact ⟨rfl, fits_nar_bool _⟩
  · cases h; exact ⟨rfl, rfl⟩
  · cases h
theorem Ev.putfield {idx j i : Nat} {n d : String} {ty : FieldType} {fs : List Value} {v v' : Value} (K : GOk G) (w : (Jvm.Cond.fieldLink (mN M).cls idx (gC G) n d).before (gA G) (gZ G) = true)
    (wl : (Jvm.Cond.lays (gC G) (gC G) n d).before (gA G) (gZ G) = true ∨ ((Jvm.Cond.laysFinal (gC G) (gC G) n d).before (gA G) (gZ G) = true ∧ (mN M).cls = gC G ∧ (mN M).name = "<init>"))
    (hd : decode (mB M) pc = .ok (.putfield idx, 3)) (hF : (gF G)[j]? = some (n, d, ty)) (hk : k0 G ≤ i) (hi : h[i]? = some (.inl fs)) (hp : mput ty v = some v') (hn : Ev G M (pc + 3) L S (h.set i (.inl (fs.set j v'))) r) : Ev G M pc L (v :: .ref i :: S) h r := by
  have hs := hsl_set (gK G) h i (.inl fs) (.inl (fs.set j v')) hi rfl
  refine Ev.gen (by rw [List.length_set]; exact Nat.le_refl _) (by rw [hs]; exact Nat.le_refl _) rfl hn ?_
  intro p e R s m args below meth c T locs cells slots X hx hZ hown hby hml hnm hLm hfr hlo hsz hR hFr hc hsq
  obtain ⟨e1, e2, e3⟩ := hR.2.2.2 i _ hi
  obtain ⟨q1, q2⟩ := mput_spec (G := G) hp
  have hlt : j < fs.length := by rw [e2]; exact (List.getElem?_eq_some_iff.mp hF).1
  have F := e3 j n d ty _ hF (List.getElem?_eq_getElem hlt)
  obtain ⟨T', h', X', eT', W, st⟩ := putFN X hx hZ hown w Via.refl rfl F e1 (wl.imp id fun ⟨a, b, c⟩ => ⟨a, b, by rw [hnm]; exact c⟩) K.2.2.1 (K.1 j n d ty hF).2 q1 q2 (g := mkF m pc (arL G L) ((v :: Value.ref i :: S).map (tr G))) rfl rfl (hb hby hd)
  refine ⟨T', _, ?_, ?_, Fr.snoc X' hFr (rho_ge hk), st⟩
  · rw [hs, List.length_set, Nat.sub_self, Nat.sub_self, Nat.add_zero, Nat.add_zero]; exact X'
  · rw [eT']; exact hR.wrFld K hi hF W
/-! ### arrays -/
theorem get_arr {xs : List Int32} {c : Cell} (hs : c.slots = (xs.map Value.int).toArray) (k : Nat) : c.slots[k]? = (xs[k]?).map Value.int := by rw [hs]; simp
theorem arr_size {xs : List Int32} {c : Cell} (hs : c.slots = (xs.map Value.int).toArray) : c.slots.size = xs.length := by rw [hs]; simp
theorem Ev.arraylength {i : Nat} {b : Bool} {xs : List Int32} (hd : decode (mB M) pc = .ok (.arraylength, 1)) (hi : h[i]? = some (.inr (b, xs))) (hn : Ev G M (pc + 1) L (.int xs.length.toInt32 :: S) h r) : Ev G M pc L (.ref i :: S) h r := by
  refine Ev.same rfl hn ?_
  intro p e R s m args below meth c T locs cells slots X hx hZ hown hby hml hLm hfr hlo hR
  obtain ⟨cl, A, hs⟩ := hR.2.2.2 i _ hi
  refine ⟨T, X, rfl, fun target k => X.arraylength hx A.1 (State.isArrayOf_alike hZ.alike A.2.1) (g := mkF m pc (arL G L) ((Value.ref i :: S).map (tr G))) rfl rfl (hb hby hd) target ?_⟩
  rw [arr_size hs]; exact k
theorem Ev.iaload {i : Nat} {xs : List Int32} {j v : Int32} (hd : decode (mB M) pc = .ok (.iaload, 1)) (hi : h[i]? = some (.inr (false, xs))) (hj : ¬ j < 0) (hv : xs[j.toNatClampNeg]? = some v) (hn : Ev G M (pc + 1) L (.int v :: S) h r) : Ev G M pc L (.int j :: .ref i :: S) h r := by
  refine Ev.same rfl hn ?_
  intro p e R s m args below meth c T locs cells slots X hx hZ hown hby hml hLm hfr hlo hR
  obtain ⟨cl, A, hs⟩ := hR.2.2.2 i _ hi
  have hlt := (List.getElem?_eq_some_iff.mp hv).1
  exact ⟨T, X, rfl, fun target k => X.iaload hx A.1 (State.isArrayOf_alike hZ.alike A.2.1) A.2.2 (fun q => q.elim hj fun q => absurd (arr_size hs ▸ q) (Nat.not_le.mpr hlt)) (by rw [get_arr hs, hv]; rfl) (g := mkF m pc (arL G L) ((Value.int j :: Value.ref i :: S).map (tr G))) rfl rfl (hb hby hd) target k⟩
theorem Ev.baload {i : Nat} {xs : List Int32} {j v : Int32} (hd : decode (mB M) pc = .ok (.baload, 1)) (hi : h[i]? = some (.inr (true, xs))) (hj : ¬ j < 0) (hv : xs[j.toNatClampNeg]? = some v) (hn : Ev G M (pc + 1) L (.int v :: S) h r) : Ev G M pc L (.int j :: .ref i :: S) h r := by
  refine Ev.same rfl hn ?_
  intro p e R s m args below meth c T locs cells slots X hx hZ hown hby hml hLm hfr hlo hR
  obtain ⟨cl, A, hs⟩ := hR.2.2.2 i _ hi
  have hlt := (List.getElem?_eq_some_iff.mp hv).1
  exact ⟨T, X, rfl, fun target k => X.baloadBooleans hx A.1 (State.isArrayOf_alike hZ.alike A.2.1) A.2.2 (fun q => q.elim hj fun q => absurd (arr_size hs ▸ q) (Nat.not_le.mpr hlt)) (by rw [get_arr hs, hv]; rfl) (g := mkF m pc (arL G L) ((Value.int j :: Value.ref i :: S).map (tr G))) rfl rfl (hb hby hd) target k⟩
theorem Ev.iastore {i : Nat} {xs : List Int32} {j v : Int32} (hd : decode (mB M) pc = .ok (.iastore, 1)) (hk : k0 G ≤ i) (hi : h[i]? = some (.inr (false, xs))) (hj : ¬ j < 0) (hlt : j.toNatClampNeg < xs.length) (hn : Ev G M (pc + 1) L S (h.set i (.inr (false, xs.set j.toNatClampNeg v))) r) : Ev G M pc L (.int v :: .int j :: .ref i :: S) h r := by
  have hs := hsl_set (gK G) h i (.inr (false, xs)) (.inr (false, xs.set j.toNatClampNeg v)) hi (by simp [csl])
  refine Ev.gen (by rw [List.length_set]; exact Nat.le_refl _) (by rw [hs]; exact Nat.le_refl _) rfl hn ?_
  intro p e R s m args below meth c T locs cells slots X hx hZ hown hby hml hnm hLm hfr hlo hsz hR hFr hc hsq
  obtain ⟨cl, A, hsz'⟩ := hR.2.2.2 i _ hi
  obtain ⟨T', h', X', eT', W, st⟩ := stI X hx hZ rfl A (j := j) (x := v) (fun q => q.elim hj fun q => absurd (arr_size hsz' ▸ q) (Nat.not_le.mpr hlt)) (g := mkF m pc (arL G L) ((Value.int v :: Value.int j :: Value.ref i :: S).map (tr G))) rfl rfl (hb hby hd)
  refine ⟨T', _, ?_, ?_, Fr.snoc X' hFr (rho_ge hk), st⟩
  · rw [hs, List.length_set, Nat.sub_self, Nat.sub_self, Nat.add_zero, Nat.add_zero]; exact X'
  · rw [eT']; exact hR.wrArr hi W
theorem Ev.bastore {i : Nat} {xs : List Int32} {j v : Int32} (hd : decode (mB M) pc = .ok (.bastore, 1)) (hk : k0 G ≤ i) (hi : h[i]? = some (.inr (true, xs))) (hj : ¬ j < 0) (hlt : j.toNatClampNeg < xs.length) (hn : Ev G M (pc + 1) L S (h.set i (.inr (true, xs.set j.toNatClampNeg (v &&& 1)))) r) : Ev G M pc L (.int v :: .int j :: .ref i :: S) h r := by
  have hs := hsl_set (gK G) h i (.inr (true, xs)) (.inr (true, xs.set j.toNatClampNeg (v &&& 1))) hi (by simp [csl])
  refine Ev.gen (by rw [List.length_set]; exact Nat.le_refl _) (by rw [hs]; exact Nat.le_refl _) rfl hn ?_
  intro p e R s m args below meth c T locs cells slots X hx hZ hown hby hml hnm hLm hfr hlo hsz hR hFr hc hsq
  obtain ⟨cl, A, hsz'⟩ := hR.2.2.2 i _ hi
  obtain ⟨T', h', X', eT', W, st⟩ := stZ X hx hZ rfl A (j := j) (x := v) (fun q => q.elim hj fun q => absurd (arr_size hsz' ▸ q) (Nat.not_le.mpr hlt)) (g := mkF m pc (arL G L) ((Value.int v :: Value.int j :: Value.ref i :: S).map (tr G))) rfl rfl (hb hby hd)
  refine ⟨T', _, ?_, ?_, Fr.snoc X' hFr (rho_ge hk), st⟩
  · rw [hs, List.length_set, Nat.sub_self, Nat.sub_self, Nat.add_zero, Nat.add_zero]; exact X'
  · rw [eT']; exact hR.wrArr hi W
/-! ### making -/
theorem Ev.new {idx : Nat} {fs : List Value} (K : GOk G) (w : (Jvm.Cond.classLink (mN M).cls idx (gC G)).before (gA G) (gZ G) = true) (hd : decode (mB M) pc = .ok (.new idx, 3)) (hf : fs = (gF G).map fun f => defaultValue f.2.2)
    (hn : Ev G M (pc + 3) L (.ref h.length :: S) (h ++ [.inl fs]) r) : Ev G M pc L S h r := by
  subst hf
  have hs := hsl_push (gK G) h (.inl ((gF G).map fun f => defaultValue f.2.2))
  refine Ev.gen (by simp) (by rw [hs]; exact Nat.le_add_right _ _) rfl hn ?_
  intro p e R s m args below meth c T locs cells slots X hx hZ hown hby hml hnm hLm hfr hlo hsz hR hFr hc hsq
  have el : (h ++ [(.inl ((gF G).map fun f => defaultValue f.2.2) : MCell)]).length - h.length = 1 := by simp
  have es : hsl (gK G) (h ++ [.inl ((gF G).map fun f => defaultValue f.2.2)]) - hsl (gK G) h = gK G := by rw [hs]; simp [csl]
  rw [el] at hc
  rw [es] at hsq
  obtain ⟨T', h', X', eT', E, A, D, -, st⟩ := newO X hx hZ hown w K.2.2.1 K.2.2.2 rfl (g := mkF m pc (arL G L) (S.map (tr G))) rfl (hb hby hd) hc hsq
  rw [el, es]
  have hrho : rho G h.length = T.heap.size := by rw [rho_new hR.2.1]; have := hR.1; have := hR.2.1; omega
  refine ⟨T', _, X', ?_, hFr, fun target k => st target ?_⟩
  · rw [eT']
    refine hR.push E ?_ ⟨A, by simp, fun j n d ty v hf hv => ?_⟩
    · have h1 := X'.heapSize
      have h2 : T.heap.size < h'.size := A.lt
      rw [eT'] at h1
      omega
    · rw [List.getElem?_map, hf] at hv
      cases hv
      have := D (K.1 j n d ty hf).1 (K.1 j n d ty hf).2
      have e : tr G (defaultValue ty) = defaultValue ty := by cases ty <;> rfl
      rw [e]; exact this
  · rw [← hrho]; exact k
theorem Ev.newarray {aty : ArrayType} {b : Bool} {n : Int32} {k : Nat} (w : (Jvm.Cond.arrayClass (newarray.typeOf aty)).before (gA G) (gZ G) = true) (hb' : newarray.typeOf aty = kd b) (hd : decode (mB M) pc = .ok (.newarray aty, 2)) (hn0 : ¬ n < 0) (hk : n.toNatClampNeg = k) (hcap : k ≤ 67108864)
    (hn : Ev G M (pc + 2) L (.ref h.length :: S) (h ++ [.inr (b, List.replicate k 0)]) r) : Ev G M pc L (.int n :: S) h r := by
  subst hk
  have hs := hsl_push (gK G) h (.inr (b, List.replicate n.toNatClampNeg 0))
  refine Ev.gen (by simp) (by rw [hs]; exact Nat.le_add_right _ _) rfl hn ?_
  intro p e R s m args below meth c T locs cells slots X hx hZ hown hby hml hnm hLm hfr hlo hsz hR hFr hc hsq
  have el : (h ++ [(.inr (b, List.replicate n.toNatClampNeg 0) : MCell)]).length - h.length = 1 := by simp
  have es : hsl (gK G) (h ++ [.inr (b, List.replicate n.toNatClampNeg 0)]) - hsl (gK G) h = n.toNatClampNeg := by rw [hs]; simp [csl]
  rw [el] at hc
  rw [es] at hsq
  obtain ⟨T', h', cA, X', eT', E, A, st⟩ := newP X hx hZ w rfl (g := mkF m pc (arL G L) ((Value.int n :: S).map (tr G))) rfl (hb hby hd) rfl hn0 (cap := n.toNatClampNeg) (Nat.le_refl _) (by omega) hc hsq
  rw [el, es]
  have hrho : rho G h.length = T.heap.size := by rw [rho_new hR.2.1]; have := hR.1; have := hR.2.1; omega
  refine ⟨T', _, X', ?_, hFr, fun target k => st target ?_⟩
  · rw [eT']
    refine hR.push E ?_ ⟨_, hb' ▸ A, ?_⟩
    · have h1 := X'.heapSize
      have h2 : T.heap.size < h'.size := A.lt
      rw [eT'] at h1
      omega
    · have e0 : defaultValue (kd b) = .int 0 := by cases b <;> rfl
      show Array.replicate n.toNatClampNeg (defaultValue (kd b)) = _
      rw [e0]
      simp
  · rw [← hrho]; exact k
theorem Ev.initO {idx i : Nat} (w1 : (Jvm.Cond.methodLink (mN M).cls idx Lib.objectInit).before (gA G) (gZ G) = true) (w2 : (Jvm.Cond.instanceMethod Lib.objectInit).before (gA G) (gZ G) = true) (w3 : (Jvm.Cond.code Lib.objectInit ⟨#[0xb1]⟩ 1 none).before (gA G) (gZ G) = true)
    (hd : decode (mB M) pc = .ok (.invokespecial idx, 3)) (hf : 1 ≤ mF M) (hl : (S.map fun v => v.category).sum + 12 ≤ mW M) (hn : Ev G M (pc + 3) L S h r) : Ev G M pc L (.ref i :: S) h r := by
  refine Ev.same rfl hn ?_
  intro p e R s m args below meth c T locs cells slots X hx hZ hown hby hml hLm hfr hlo hR
  obtain ⟨T', X', e', st⟩ := RoadKit.initO X hx hZ hown w1 w2 w3 rfl (g := mkF m pc (arL G L) ((Value.ref i :: S).map (tr G))) rfl (by rw [hml, ← hLm]; simp [arL]) (a := rho G i) (rest := S.map (tr G)) rfl (hb hby hd) (Nat.le_trans hf hfr) (W := (S.map fun v => v.category).sum) (by rw [tr_cats]; show 2 * 0 + _ ≤ _; omega) (by omega)
  exact ⟨T', X', e', st⟩
/-! ### calls -/
def notMH (y : Mi) : Prop := (mN y).cls ≠ "java/lang/invoke/MethodHandle" ∧ (mN y).cls ≠ "java/lang/invoke/VarHandle"
theorem mapRev (G : Ctx) (args : List Value) : (args.reverse).map (tr G) = (args.map (tr G)).reverse := by simp
theorem vList (G : Ctx) (v : Option Value) (S : List Value) : (v.map (tr G)).toList ++ S.map (tr G) = (v.toList ++ S).map (tr G) := by cases v <;> simp
theorem back_of_evc {p : Program} {e : Env} {R : Room} {s : State} {args0 : Array Value} {below : List Frame} {y : Mi} {args : List Value} {r1 : Option Value × MHeap} {hr : Heap} {W : Nat} (hC : EvC G y args h r1) (hR : Rel G hr h) (hZ : (gZ G).Warmed39 s.vm)
    (wc : (Jvm.Cond.code (mN y) (mB y) (mL y) (mR y)).before (gA G) (gZ G) = true) (wz : (Jvm.Cond.initialized (mN y).cls).before (gA G) (gZ G) = true) (hf : mF y + 1 ≤ R.frames) (hl : W + (mL y + 11) + mW y ≤ R.locals) :
    Back (gL G) R p e below s args0 (mN y) 3 W (fun A a => a = (args.map (tr G)).toArray ∧ A.U.heap = hr ∧ A.cells + (r1.2.length - h.length) ≤ R.cells ∧ A.slots + (hsl (gK G) r1.2 - hsl (gK G) h) ≤ R.slots)
      (fun A _ v B => ∃ L, (v = r1.1.map (tr G) ∧ Fr (gN G) L ∧ Rel G B.U.heap r1.2) ∧ B.locs = A.locs ++ L ∧ B.cells = A.cells + (r1.2.length - h.length) ∧ B.slots = A.slots + (hsl (gK G) r1.2 - hsl (gK G) h)) :=
  backOf (Q := fun v hp L => v = r1.1.map (tr G) ∧ Fr (gN G) L ∧ Rel G hp r1.2) (rm := { frames := mF y, cells := r1.2.length - h.length, slots := hsl (gK G) r1.2 - hsl (gK G) h, locals := mW y })
    (hC.2 [] { frames := mF y, cells := r1.2.length - h.length, slots := hsl (gK G) r1.2 - hsl (gK G) h, locals := mW y } hr (Nat.le_refl _) (Nat.le_refl _) (Nat.le_refl _) (Nat.le_refl _) hR) hZ wc wz hf hl
/-- a private method of the class -/
theorem Ev.priv {y : Mi} {idx i : Nat} {args rest : List Value} {v : Option Value} {h1 : MHeap} {fs : List Value} (K : GOk G) (hcls : (mN y).cls = gC G) (hy : notMH y)
    (wl : (Jvm.Cond.methodLink (mN M).cls idx (mN y)).before (gA G) (gZ G) = true) (wi : (Jvm.Cond.instanceMethod (mN y)).before (gA G) (gZ G) = true) (wp : (Jvm.Cond.privateMethod (mN y)).before (gA G) (gZ G) = true)
    (wc : (Jvm.Cond.code (mN y) (mB y) (mL y) (mR y)).before (gA G) (gZ G) = true) (hlen : ∀ sig, parseMethodDescriptor (mN y).desc = some sig → args.length = sig.parameters.length)
    (hd : decode (mB M) pc = .ok (.invokevirtual idx, 3)) (hi : h[i]? = some (.inl fs)) (hC : EvC G y (.ref i :: args) h (v, h1)) (hfr : mF y + 1 ≤ mF M) (hlo : (rest.map fun v => v.category).sum + (mL y + 11) + mW y ≤ mW M)
    (hS : S = args.reverse ++ .ref i :: rest) (hn : Ev G M (pc + 3) L (v.toList ++ rest) h1 r) : Ev G M pc L S h r := by
  subst hS
  refine Ev.gen hC.1.1 hC.1.2 rfl hn ?_
  intro p e R s m args0 below meth c T locs cells slots X hx hZ hown hby hml hnm hLm hfr' hlo' hsz hR hFr hc hsq
  obtain ⟨e1, -, -⟩ := hR.2.2.2 i _ hi
  obtain ⟨cell, hcell, hobj⟩ := e1.cell
  have hwi : (Jvm.Cond.instanceMethod (mN y)).before args0 s = true := mvT hZ wi
  have hpr := Jvm.Cond.privateMethod_at (mvP hZ wp (args := #[]))
  have hsel : (Jvm.Cond.selects (mN y).cls (mN y) (mN y)).before args0 s = true := by
    obtain ⟨c0, k0', q1, q2, -, q4, -⟩ := Jvm.Cond.instantiable_spec (mvT hZ K.2.2.1 (args := #[]) (s := s))
    refine selects_self_of_private (c := c0) (k := k0') (by rw [hcls]; exact q1) q2 ?_ hpr hwi hy
    simp only [Bool.or_eq_false_iff] at q4
    exact q4.1
  obtain ⟨v', vm1, ⟨T', L', k', n'⟩, -, X', ⟨Lc, ⟨rfl, hF', hR'⟩, l1, l2, l3⟩, st⟩ := X.privateBack hx (y := mN y) hown (mvT hZ wl) hwi hsel hpr (mvT hZ wc) hy
    (back_of_evc (W := (rest.map fun v => v.category).sum) hC hR hZ wc (hcls ▸ K.2.2.2) (Nat.le_trans hfr hfr') (Nat.le_trans hlo hlo')) (g := mkF m pc (arL G L) ((args.reverse ++ Value.ref i :: rest).map (tr G))) rfl (by rw [hml, ← hLm]; simp [arL]) (Steps.refl _) hcell hobj
    (argsL := args.map (tr G)) (rest := rest.map (tr G)) (fun sig hsig => by rw [List.length_map]; exact hlen sig hsig) (by simp [tr]) (by rw [tr_cats]; show 2 * 0 + _ ≤ _; omega) (hb hby hd) (fun vm1 hW1 => ⟨rfl, rfl, hc, hsq⟩)
  dsimp only [Pt.U, Pt.locs, Pt.cells, Pt.slots] at X' l1 l2 l3 st hR'
  subst l1 l2 l3
  refine ⟨T', _, X', hR', hFr.app hF', fun target k => st.trans ?_⟩
  rw [vList]
  exact k
/-- a method of the class that no one overrides -/
theorem Ev.virt {y : Mi} {idx i : Nat} {args rest : List Value} {v : Option Value} {h1 : MHeap} {fs : List Value} (K : GOk G) (hcls : (mN y).cls = gC G) (hy : notMH y)
    (wl : (Jvm.Cond.methodLink (mN M).cls idx (mN y)).before (gA G) (gZ G) = true) (wd : (Jvm.Cond.declares (mN y)).before (gA G) (gZ G) = true) (wi : (Jvm.Cond.instanceMethod (mN y)).before (gA G) (gZ G) = true) (ws : (Jvm.Cond.selects (gC G) (mN y) (mN y)).before (gA G) (gZ G) = true)
    (wc : (Jvm.Cond.code (mN y) (mB y) (mL y) (mR y)).before (gA G) (gZ G) = true) (hlen : ∀ sig, parseMethodDescriptor (mN y).desc = some sig → args.length = sig.parameters.length)
    (hd : decode (mB M) pc = .ok (.invokevirtual idx, 3)) (hi : h[i]? = some (.inl fs)) (hC : EvC G y (.ref i :: args) h (v, h1)) (hfr : mF y + 1 ≤ mF M) (hlo : (rest.map fun v => v.category).sum + (mL y + 11) + mW y ≤ mW M)
    (hS : S = args.reverse ++ .ref i :: rest) (hn : Ev G M (pc + 3) L (v.toList ++ rest) h1 r) : Ev G M pc L S h r := by
  subst hS
  refine Ev.gen hC.1.1 hC.1.2 rfl hn ?_
  intro p e R s m args0 below meth c T locs cells slots X hx hZ hown hby hml hnm hLm hfr' hlo' hsz hR hFr hc hsq
  obtain ⟨e1, -, -⟩ := hR.2.2.2 i _ hi
  obtain ⟨cq, kq, qa, qb, qc⟩ := isOf (T := T) hZ rfl e1
  obtain ⟨v', vm1, ⟨T', L', k', n'⟩, -, X', ⟨Lc, ⟨rfl, hF', hR'⟩, l1, l2, l3⟩, st⟩ := X.virtualBack hx (y := mN y) (z := mN y) hown (mvT hZ wl) (mvT hZ wd) (notFace_of_selects (args := #[]) (mvT hZ ws)) (mvT hZ ws) (mvT hZ wi) hy
    (back_of_evc (W := (rest.map fun v => v.category).sum) hC hR hZ wc (hcls ▸ K.2.2.2) (Nat.le_trans hfr hfr') (Nat.le_trans hlo hlo')) qa qc (g := mkF m pc (arL G L) ((args.reverse ++ Value.ref i :: rest).map (tr G))) rfl (by rw [hml, ← hLm]; simp [arL]) (Steps.refl _)
    (argsL := args.map (tr G)) (rest := rest.map (tr G)) (fun sig hsig => by rw [List.length_map]; exact hlen sig hsig) (by simp [tr]) (by rw [tr_cats]; show 2 * 0 + _ ≤ _; omega) (hb hby hd) (fun vm1 hW1 => ⟨rfl, rfl, hc, hsq⟩)
  dsimp only [Pt.U, Pt.locs, Pt.cells, Pt.slots] at X' l1 l2 l3 st hR'
  subst l1 l2 l3
  refine ⟨T', _, X', hR', hFr.app hF', fun target k => st.trans ?_⟩
  rw [vList]
  exact k
/-- a constructor -/
theorem Ev.ctor {y : Mi} {idx i : Nat} {args rest : List Value} {v : Option Value} {h1 : MHeap} (hy1 : (mN y).name = "<init>") (hret : mR y = none) (hy : notMH y)
    (wl : (Jvm.Cond.methodLink (mN M).cls idx (mN y)).before (gA G) (gZ G) = true) (wi : (Jvm.Cond.instanceMethod (mN y)).before (gA G) (gZ G) = true)
    (wc : (Jvm.Cond.code (mN y) (mB y) (mL y) (mR y)).before (gA G) (gZ G) = true) (wz : (Jvm.Cond.initialized (mN y).cls).before (gA G) (gZ G) = true) (hlen : ∀ sig, parseMethodDescriptor (mN y).desc = some sig → args.length = sig.parameters.length)
    (hd : decode (mB M) pc = .ok (.invokespecial idx, 3)) (hC : EvC G y (.ref i :: args) h (v, h1)) (hfr : mF y + 1 ≤ mF M) (hlo : (rest.map fun v => v.category).sum + (mL y + 11) + mW y ≤ mW M)
    (hS : S = args.reverse ++ .ref i :: rest) (hn : Ev G M (pc + 3) L (v.toList ++ rest) h1 r) : Ev G M pc L S h r := by
  subst hS
  refine Ev.gen hC.1.1 hC.1.2 rfl hn ?_
  intro p e R s m args0 below meth c T locs cells slots X hx hZ hown hby hml hnm hLm hfr' hlo' hsz hR hFr hc hsq
  obtain ⟨v', vm1, ⟨T', L', k', n'⟩, -, X', ⟨Lc, ⟨rfl, hF', hR'⟩, l1, l2, l3⟩, st⟩ := X.specialBack hx (y := mN y) hy1 hown (mvT hZ wl) (mvT hZ wi) (mvT hZ (hret ▸ wc)) hy
    (back_of_evc (W := (rest.map fun v => v.category).sum) hC hR hZ wc wz (Nat.le_trans hfr hfr') (Nat.le_trans hlo hlo')) (g := mkF m pc (arL G L) ((args.reverse ++ Value.ref i :: rest).map (tr G))) rfl (by rw [hml, ← hLm]; simp [arL]) (Steps.refl _)
    (a := rho G i) (argsL := args.map (tr G)) (rest := rest.map (tr G)) (fun sig hsig => by rw [List.length_map]; exact hlen sig hsig) (by simp [tr]) (by rw [tr_cats]; show 2 * 0 + _ ≤ _; omega) (hb hby hd) (fun vm1 hW1 => ⟨rfl, rfl, hc, hsq⟩)
  dsimp only [Pt.U, Pt.locs, Pt.cells, Pt.slots] at X' l1 l2 l3 st hR'
  subst l1 l2 l3
  refine ⟨T', _, X', hR', hFr.app hF', fun target k => st.trans ?_⟩
  rw [vList]
  exact k
/-- a static method -/
theorem Ev.stat {y : Mi} {idx : Nat} {args rest : List Value} {v : Option Value} {h1 : MHeap} (hy : notMH y)
    (wl : (Jvm.Cond.methodLink (mN M).cls idx (mN y)).before (gA G) (gZ G) = true) (wst : (Jvm.Cond.static (mN y)).before (gA G) (gZ G) = true) (wz : (Jvm.Cond.initialized (mN y).cls).before (gA G) (gZ G) = true)
    (wc : (Jvm.Cond.code (mN y) (mB y) (mL y) (mR y)).before (gA G) (gZ G) = true) (hlen : ∀ sig, parseMethodDescriptor (mN y).desc = some sig → args.length = sig.parameters.length)
    (hd : decode (mB M) pc = .ok (.invokestatic idx, 3)) (hC : EvC G y args h (v, h1)) (hfr : mF y + 1 ≤ mF M) (hlo : (rest.map fun v => v.category).sum + (mL y + 11) + mW y ≤ mW M)
    (hS : S = args.reverse ++ rest) (hn : Ev G M (pc + 3) L (v.toList ++ rest) h1 r) : Ev G M pc L S h r := by
  subst hS
  refine Ev.gen hC.1.1 hC.1.2 rfl hn ?_
  intro p e R s m args0 below meth c T locs cells slots X hx hZ hown hby hml hnm hLm hfr' hlo' hsz hR hFr hc hsq
  obtain ⟨v', vm1, ⟨T', L', k', n'⟩, -, X', ⟨Lc, ⟨rfl, hF', hR'⟩, l1, l2, l3⟩, st⟩ := Jvm.LawKit.callS X hx (y := mN y) hown (mvT hZ wl) (mvT hZ wst) (mvT hZ wz) (mvT hZ wc) hy
    (back_of_evc (W := (rest.map fun v => v.category).sum) hC hR hZ wc wz (Nat.le_trans hfr hfr') (Nat.le_trans hlo hlo')) (g := mkF m pc (arL G L) ((args.reverse ++ rest).map (tr G))) rfl (by rw [hml, ← hLm]; simp [arL])
    (argsL := args.map (tr G)) (rest := rest.map (tr G)) (fun sig hsig => by rw [List.length_map]; exact hlen sig hsig) (by simp) (by rw [tr_cats]; show 2 * 0 + _ ≤ _; omega) (hb hby hd) (fun vm1 hW1 => ⟨rfl, rfl, hc, hsq⟩)
  dsimp only [Pt.U, Pt.locs, Pt.cells, Pt.slots] at X' l1 l2 l3 st hR'
  subst l1 l2 l3
  refine ⟨T', _, X', hR', hFr.app hF', fun target k => st target ?_⟩
  rw [vList]
  exact k
/-! ### returns -/
theorem Ev.ret {v : Option Value} (st : ∀ {p : Program} {e : Env} {R : Room} {s : State} {m : MethodId} {args : Array Value} {below : List Frame} {meth : Method} {c : Code} {T : State} {locs : List Loc} {cells slots : Nat},
      Stand p (gL G) e R s m args below meth c T locs cells slots → p.tables.exec = Jvm.exec → c.code = mB M → meth.sig.returnType = mR M → ∀ fs,
      (∀ (f : JFrame) (acts : List Action), f.method = m → f.locked = none → f.entered = [] → (doReturn e (T.setTop f) acts (v.map (tr G))).1 = T.setFrames fs) → Steps p.tables e below (T.setTop (mkF m pc (arL G L) (S.map (tr G)))) (T.setFrames fs)) :
    Ev G M pc L S h (v, h) := by
  refine ⟨⟨Nat.le_refl _, Nat.le_refl _⟩, ?_⟩
  intro p e R s m args below meth c T locs cells slots X hx hZ hown hby hml hret hnm hLm hfr hlo hsz hR hF hc hs
  refine ⟨T, locs, ?_, hR, hF, st X hx hby hret⟩
  rw [Nat.sub_self, Nat.sub_self, Nat.add_zero, Nat.add_zero]
  exact X
theorem Ev.ireturn {z : Int32} (hret : mR M = some .int) (hd : decode (mB M) pc = .ok (.ireturn, 1)) : Ev G M pc L (.int z :: S) h (some (.int z), h) :=
  Ev.ret fun X hx hby hr fs hl => retOut X hx (hr.trans hret) rfl (Or.inl ⟨rfl, Or.inl rfl, z, rfl⟩) (hb hby hd) hl
theorem Ev.zreturn {z : Int32} (hret : mR M = some .boolean) (hd : decode (mB M) pc = .ok (.ireturn, 1)) : Ev G M pc L (.int z :: S) h (some (.int (z &&& 1)), h) :=
  Ev.ret fun X hx hby hr fs hl => retN X hx (t := .boolean) (hr.trans hret) (Or.inl rfl) (hb hby hd) hl
theorem Ev.lreturn {z : Int64} (hret : mR M = some .long) (hd : decode (mB M) pc = .ok (.lreturn, 1)) : Ev G M pc L (.long z :: S) h (some (.long z), h) :=
  Ev.ret fun X hx hby hr fs hl => retOut X hx (hr.trans hret) rfl (Or.inr (Or.inl ⟨rfl, rfl, z, rfl⟩)) (hb hby hd) hl
theorem Ev.vreturn (hret : mR M = none) (hd : decode (mB M) pc = .ok (.return_, 1)) : Ev G M pc L [] h (none, h) :=
  Ev.ret fun X hx hby hr fs hl => X.returnOut hx (hr.trans hret) (hb hby hd) hl
/-! ### entering -/
def margs : List Value → List Slot
  | [] => []
  | v :: vs => if v.category = 2 then .val v :: .second :: margs vs else .val v :: margs vs
theorem margs_fold (vs : List Value) : ∀ acc : Array Slot, vs.foldl (init := acc) (fun acc v => if v.category = 2 then (acc.push (.val v)).push .second else acc.push (.val v)) = acc ++ (margs vs).toArray := by
  induction vs with
  | nil => intro acc; simp [margs]
  | cons v vs ih =>
    intro acc
    rw [List.foldl_cons, ih]
    by_cases h : v.category = 2
    · simp [margs, h]
    · simp [margs, h]
theorem margs_map (G : Ctx) : ∀ vs : List Value, margs (vs.map (tr G)) = (margs vs).map (trS G)
  | [] => rfl
  | v :: vs => by
    have ih := margs_map G vs
    by_cases h : v.category = 2
    · simp only [List.map_cons, margs, tr_cat, h, if_true, ih]; rfl
    · simp only [List.map_cons, margs, tr_cat, h, if_false, ih]; rfl
def ment (args : List Value) (k : Nat) : List Slot := margs args ++ List.replicate (k - (margs args).length) .unset
theorem entry_eq (G : Ctx) (m : MethodId) (args : List Value) (k : Nat) : entryFrame m (args.map (tr G)).toArray k = mkF m 0 (arL G (ment args k)) [] := by
  have e : argsToLocals (args.map (tr G)).toArray k = arL G (ment args k) := by
    unfold argsToLocals arL ment
    have q := margs_fold (args.map (tr G)) #[]
    rw [List.foldl_toArray']
    · rw [q, margs_map]
      simp [trS]
    · simp
  unfold entryFrame
  rw [e]
theorem EvC.enter {y : Mi} {args : List Value} {L0 : List Slot} (hp : plainFor (mN y) = true) (hv : mR y = none → r.1 = none) (hL : ment args (mL y) = L0) (hlen : L0.length = mL y) (hn : Ev G y 0 L0 [] h r) : EvC G y args h r := by
  subst hL
  refine ⟨hn.1, fun ws R hr hf hl hc hs hR => ?_⟩
  refine MetFree.of_bodySF hp hisR ?_
  intro p e s m args' below meth c s₁ Bd hml0 hP hK
  obtain ⟨rfl, hZ, hh⟩ := hP
  have X0 : Stand p (gL G) e R s m _ below meth c s₁ [] 0 0 := Stand.of_body Bd
  have e0 : s₁.heap = hr := by rw [← hh, Bd.state]; rfl
  obtain ⟨T', locs', X', R', F', st⟩ := hn.2 p e R s m _ below meth c s₁ [] 0 0 X0 Bd.exec hZ (findClass_of_methodNamed Bd.named) Bd.bytes hml0 Bd.returns (name_of_methodNamed Bd.named Bd.method).1 hlen hf hl (by rw [e0, hh]; rfl) (by rw [e0]; exact hR) (Fr.nil _) (by omega) (by omega)
  rw [Nat.zero_add, Nat.zero_add] at X'
  obtain ⟨fs, hret, hrun, hended, hW, hsame⟩ := X'.leave (v := r.1.map (tr G)) (fun q => by rw [hv (Bd.returns.symm.trans q)]; rfl)
  refine ⟨_, _, castTop (entry_eq G m args (mL y)) (st fs hret), hrun, hended, _, _, rfl, ⟨rfl, F', ?_⟩, ⟨_, rfl⟩, hW, hsame⟩
  exact R'
end Rules
end Jvm.Own
namespace Jvm.Own
open Sem ClassFile Op Lib Jvm.Stand Jvm.Free Jvm.LawKit Jvm.RoadKit
/-! ## 4. An object as two functions: its ints by the field's number, its arrays by the field's number and the place -/
abbrev St := (Nat → Int32) × (Nat → Nat → Int32)
def setI (s : St) (j : Nat) (z : Int32) : St := (fun k => if k = j then z else s.1 k, s.2)
def setA (s : St) (j i : Nat) (z : Int32) : St := (s.1, fun k x => if k = j ∧ x = i then z else s.2 k x)
def zeroS : St := (fun _ => 0, fun _ _ => 0)
theorem setI_1 (s : St) (j : Nat) (z : Int32) (k : Nat) : (setI s j z).1 k = if k = j then z else s.1 k := rfl
theorem setI_2 (s : St) (j : Nat) (z : Int32) : (setI s j z).2 = s.2 := rfl
theorem setA_1 (s : St) (j i : Nat) (z : Int32) : (setA s j i z).1 = s.1 := rfl
theorem setA_2 (s : St) (j i : Nat) (z : Int32) (k x : Nat) : (setA s j i z).2 k x = if k = j ∧ x = i then z else s.2 k x := rfl
def ix (j : Int32) : Nat := j.toNatClampNeg
/-- the place j lies in an array of n -/
def inb (j : Int32) (n : Nat) : Prop := ¬ j < 0 ∧ ix j < n
instance (j : Int32) (n : Nat) : Decidable (inb j n) := inferInstanceAs (Decidable (_ ∧ _))
def bnd {α β : Type} (x : α) (f : α → β) : β := f x
theorem bnd_eq {α β : Type} (x : α) (f : α → β) : bnd x f = f x := rfl
def tab (n : Nat) (f : Nat → Int32) : List Int32 := (List.range n).map f
theorem tab_len (n : Nat) (f : Nat → Int32) : (tab n f).length = n := by simp [tab]
theorem tab_get {n : Nat} {f : Nat → Int32} {i : Nat} (h : i < n) : (tab n f)[i]? = some (f i) := by simp [tab, h]
theorem tab_set {n : Nat} {f : Nat → Int32} {i : Nat} {z : Int32} : (tab n f).set i z = tab n (fun x => if x = i then z else f x) := by
  apply List.ext_getElem?
  intro k
  rw [List.getElem?_set]
  by_cases h : i = k
  · subst h
    by_cases q : i < n
    · simp [tab, q]
    · simp [tab, q]
  · by_cases q : k < n
    · simp [tab, q, h, Ne.symm h]
    · simp [tab, q, h]
theorem tab_zero (n : Nat) : tab n (fun _ => 0) = List.replicate n 0 := by
  apply List.ext_getElem?
  intro k
  by_cases q : k < n <;> simp [tab, q]
theorem tab_of (xs : List Int32) : xs = tab xs.length (fun i => xs.getD i 0) := by
  apply List.ext_getElem?
  intro k
  by_cases q : k < xs.length
  · simp [tab, q]
  · simp [tab, q]
def isA : FieldType → Bool
  | .array _ => true
  | _ => false
def isB : FieldType → Bool
  | .boolean => true
  | _ => false
def fv1 (r : Nat → Nat) (s : St) (j : Nat) (f : Fd) : Value := match f.2.2 with
  | .array _ => .ref (r j)
  | _ => .int (s.1 j)
def fvA (r : Nat → Nat) (s : St) : Nat → List Fd → List Value
  | _, [] => []
  | j, f :: fs => fv1 r s j f :: fvA r s (j + 1) fs
theorem fvA_get (r : Nat → Nat) (s : St) : ∀ (F : List Fd) (k j : Nat), (fvA r s k F)[j]? = (F[j]?).map (fv1 r s (k + j))
  | [], _, _ => by simp [fvA]
  | f :: fs, k, 0 => by simp [fvA]
  | f :: fs, k, j + 1 => by
    have := fvA_get r s fs (k + 1) j
    simp only [fvA, List.getElem?_cons_succ, this]
    rw [show k + 1 + j = k + (j + 1) by omega]
theorem fvA_len (r : Nat → Nat) (s : St) : ∀ (F : List Fd) (k : Nat), (fvA r s k F).length = F.length
  | [], _ => rfl
  | f :: fs, k => by simp [fvA, fvA_len r s fs (k + 1)]
theorem fvA_set {r : Nat → Nat} {s : St} {F : List Fd} {j : Nat} {f : Fd} {z : Int32} (hF : F[j]? = some f) (ht : isA f.2.2 = false) : (fvA r s 0 F).set j (.int z) = fvA r (setI s j z) 0 F := by
  apply List.ext_getElem?
  intro k
  rw [List.getElem?_set, fvA_get, fvA_get, Nat.zero_add]
  by_cases h : j = k
  · subst h
    simp only [if_true, fvA_len, (List.getElem?_eq_some_iff.mp hF).1, hF, Option.map_some]
    congr 1
    unfold fv1
    split
    · rename_i t e; rw [e] at ht; cases ht
    · simp [setI_1]
  · simp only [h, if_false]
    cases F[k]? with
    | none => rfl
    | some g =>
      simp only [Option.map_some]
      congr 1
      unfold fv1
      split
      · rfl
      · rw [setI_1, if_neg (Ne.symm h)]
theorem fvA_same (r : Nat → Nat) {s s' : St} (h : s.1 = s'.1) : ∀ (F : List Fd) (k : Nat), fvA r s k F = fvA r s' k F
  | [], _ => rfl
  | f :: fs, k => by
    simp only [fvA, fvA_same r h fs (k + 1)]
    congr 1
    unfold fv1
    split
    · rfl
    · rw [h]
/-- the heap K s shows the object at o, its arrays at r, as s tells -/
def View (G : Ctx) (Ln : Nat → Nat) (K : St → MHeap) (o : Nat) (r : Nat → Nat) : Prop :=
  k0 G ≤ o ∧ (∀ s, (K s)[o]? = some (.inl (fvA r s 0 (gF G)))) ∧
  (∀ s j f z, (gF G)[j]? = some f → isA f.2.2 = false → (K s).set o (.inl ((fvA r s 0 (gF G)).set j (.int z))) = K (setI s j z)) ∧
  (∀ j n d t, (gF G)[j]? = some (n, d, .array t) → k0 G ≤ r j ∧ (∀ s, (K s)[r j]? = some (.inr (isB t, tab (Ln j) (s.2 j)))) ∧ ∀ s i z, i < Ln j → (K s).set (r j) (.inr (isB t, (tab (Ln j) (s.2 j)).set i z)) = K (setA s j i z))
section ViewRules
variable {G : Ctx} {M : Mi} {pc : Nat} {L : List Slot} {S : List Value} {rr : Option Value × MHeap} {Ln : Nat → Nat} {K : St → MHeap} {o : Nat} {r : Nat → Nat} {s : St}
theorem Ev.gI {idx j : Nat} {n d : String} {ty : FieldType} (V : View G Ln K o r) (w : (Jvm.Cond.fieldLink (mN M).cls idx (gC G) n d).before (gA G) (gZ G) = true) (hd : decode (mB M) pc = .ok (.getfield idx, 3)) (hF : (gF G)[j]? = some (n, d, ty)) (ht : isA ty = false)
    (hn : Ev G M (pc + 3) L (.int (s.1 j) :: S) (K s) rr) : Ev G M pc L (.ref o :: S) (K s) rr :=
  Ev.getfield w hd hF (V.2.1 s) (v := .int (s.1 j)) (by rw [fvA_get, hF, Nat.zero_add]; simp only [Option.map_some, fv1]; cases ty <;> first | rfl | cases ht) hn
theorem Ev.gAr {idx j : Nat} {n d : String} {t : FieldType} (V : View G Ln K o r) (w : (Jvm.Cond.fieldLink (mN M).cls idx (gC G) n d).before (gA G) (gZ G) = true) (hd : decode (mB M) pc = .ok (.getfield idx, 3)) (hF : (gF G)[j]? = some (n, d, .array t))
    (hn : Ev G M (pc + 3) L (.ref (r j) :: S) (K s) rr) : Ev G M pc L (.ref o :: S) (K s) rr :=
  Ev.getfield w hd hF (V.2.1 s) (v := .ref (r j)) (by rw [fvA_get, hF, Nat.zero_add]; rfl) hn
theorem Ev.pI {idx j : Nat} {n d : String} {z : Int32} (V : View G Ln K o r) (Kk : GOk G) (w : (Jvm.Cond.fieldLink (mN M).cls idx (gC G) n d).before (gA G) (gZ G) = true)
    (wl : (Jvm.Cond.lays (gC G) (gC G) n d).before (gA G) (gZ G) = true ∨ ((Jvm.Cond.laysFinal (gC G) (gC G) n d).before (gA G) (gZ G) = true ∧ (mN M).cls = gC G ∧ (mN M).name = "<init>"))
    (hd : decode (mB M) pc = .ok (.putfield idx, 3)) (hF : (gF G)[j]? = some (n, d, .int)) (hn : Ev G M (pc + 3) L S (K (setI s j z)) rr) : Ev G M pc L (.int z :: .ref o :: S) (K s) rr := by
  refine Ev.putfield Kk w wl hd hF V.1 (V.2.1 s) (v' := .int z) rfl ?_
  rw [V.2.2.1 s j _ z hF rfl]; exact hn
theorem Ev.pZ {idx j : Nat} {n d : String} {z : Int32} (V : View G Ln K o r) (Kk : GOk G) (w : (Jvm.Cond.fieldLink (mN M).cls idx (gC G) n d).before (gA G) (gZ G) = true)
    (wl : (Jvm.Cond.lays (gC G) (gC G) n d).before (gA G) (gZ G) = true ∨ ((Jvm.Cond.laysFinal (gC G) (gC G) n d).before (gA G) (gZ G) = true ∧ (mN M).cls = gC G ∧ (mN M).name = "<init>"))
    (hd : decode (mB M) pc = .ok (.putfield idx, 3)) (hF : (gF G)[j]? = some (n, d, .boolean)) (hn : Ev G M (pc + 3) L S (K (setI s j (z &&& 1))) rr) : Ev G M pc L (.int z :: .ref o :: S) (K s) rr := by
  refine Ev.putfield Kk w wl hd hF V.1 (V.2.1 s) (v' := .int (z &&& 1)) rfl ?_
  rw [V.2.2.1 s j _ _ hF rfl]; exact hn
theorem Ev.ial {j : Nat} {n d : String} {i : Int32} {N : Nat} (V : View G Ln K o r) (hF : (gF G)[j]? = some (n, d, .array .int)) (hN : Ln j = N) (hd : decode (mB M) pc = .ok (.iaload, 1)) (hb : inb i N) (hn : Ev G M (pc + 1) L (.int (s.2 j (ix i)) :: S) (K s) rr) : Ev G M pc L (.int i :: .ref (r j) :: S) (K s) rr :=
  Ev.iaload hd ((V.2.2.2 j n d _ hF).2.1 s) hb.1 (tab_get (hN ▸ hb.2)) hn
theorem Ev.bal {j : Nat} {n d : String} {i : Int32} {N : Nat} (V : View G Ln K o r) (hF : (gF G)[j]? = some (n, d, .array .boolean)) (hN : Ln j = N) (hd : decode (mB M) pc = .ok (.baload, 1)) (hb : inb i N) (hn : Ev G M (pc + 1) L (.int (s.2 j (ix i)) :: S) (K s) rr) : Ev G M pc L (.int i :: .ref (r j) :: S) (K s) rr :=
  Ev.baload hd ((V.2.2.2 j n d _ hF).2.1 s) hb.1 (tab_get (hN ▸ hb.2)) hn
theorem Ev.ias {j : Nat} {n d : String} {i z : Int32} {N : Nat} (V : View G Ln K o r) (hF : (gF G)[j]? = some (n, d, .array .int)) (hN : Ln j = N) (hd : decode (mB M) pc = .ok (.iastore, 1)) (hb : inb i N) (hn : Ev G M (pc + 1) L S (K (setA s j (ix i) z)) rr) : Ev G M pc L (.int z :: .int i :: .ref (r j) :: S) (K s) rr := by
  obtain ⟨q1, q2, q3⟩ := V.2.2.2 j n d _ hF
  refine Ev.iastore hd q1 (q2 s) hb.1 (by rw [tab_len, hN]; exact hb.2) ?_
  have := q3 s (ix i) z (hN ▸ hb.2)
  exact this ▸ hn
theorem Ev.bas {j : Nat} {n d : String} {i z : Int32} {N : Nat} (V : View G Ln K o r) (hF : (gF G)[j]? = some (n, d, .array .boolean)) (hN : Ln j = N) (hd : decode (mB M) pc = .ok (.bastore, 1)) (hb : inb i N) (hn : Ev G M (pc + 1) L S (K (setA s j (ix i) (z &&& 1))) rr) : Ev G M pc L (.int z :: .int i :: .ref (r j) :: S) (K s) rr := by
  obtain ⟨q1, q2, q3⟩ := V.2.2.2 j n d _ hF
  refine Ev.bastore hd q1 (q2 s) hb.1 (by rw [tab_len, hN]; exact hb.2) ?_
  have := q3 s (ix i) (z &&& 1) (hN ▸ hb.2)
  exact this ▸ hn
theorem Ev.sal {h : MHeap} {i : Int32} {N k : Nat} {f : Nat → Int32} (hs : h[k]? = some (.inr (false, tab N f))) (hd : decode (mB M) pc = .ok (.iaload, 1)) (hb : inb i N) (hn : Ev G M (pc + 1) L (.int (f (ix i)) :: S) h rr) : Ev G M pc L (.int i :: .ref k :: S) h rr :=
  Ev.iaload hd hs hb.1 (tab_get hb.2) hn
theorem Ev.sln {h : MHeap} {N k : Nat} {f : Nat → Int32} (hs : h[k]? = some (.inr (false, tab N f))) (hd : decode (mB M) pc = .ok (.arraylength, 1)) (hn : Ev G M (pc + 1) L (.int N.toInt32 :: S) h rr) : Ev G M pc L (.ref k :: S) h rr :=
  Ev.arraylength hd hs (by rw [tab_len]; exact hn)
theorem Ev.zret1 {h : MHeap} (hret : mR M = some .boolean) (hd : decode (mB M) pc = .ok (.ireturn, 1)) : Ev G M pc L (.int 1 :: S) h (some (.int 1), h) := Ev.zreturn hret hd
theorem Ev.zret0 {h : MHeap} (hret : mR M = some .boolean) (hd : decode (mB M) pc = .ok (.ireturn, 1)) : Ev G M pc L (.int 0 :: S) h (some (.int 0), h) := Ev.zreturn hret hd
/-- a slot over which an int may be stored at once -/
def one1 : Slot → Bool
  | .unset => true
  | .val v => v.category == 1
  | .second => false
theorem mst_one {l : List Slot} {i : Nat} {v : Value} {o : Slot} (ho : l[i]? = some o) (h1 : one1 o = true) (hv : v.category = 1) : mst l i v = some (l.set i (.val v)) := by
  have hlt := (List.getElem?_eq_some_iff.mp ho).1
  have e : lstoreSelf l i v = some (l.set i (.val v)) := by simp [lstoreSelf, lsetAt, hlt, hv]
  unfold mst
  rw [ho]
  cases o with
  | unset => exact e
  | second => cases h1
  | val w =>
    have : w.category = 1 := by simpa [one1] using h1
    simp only [this]
    exact e
theorem Ev.istD {k : Nat} {v : Int32} {L' : List Slot} {o : Slot} {h : MHeap} (hd : decode (mB M) pc = .ok (.istore k, 2)) (ho : L[k]? = some o) (h1 : one1 o = true) (hl : L.set k (.val (.int v)) = L') (hn : Ev G M (pc + 2) L' S h rr) : Ev G M pc L (.int v :: S) h rr :=
  Ev.istore hd (by rw [mst_one ho h1 rfl, hl]) hn
theorem Ev.istDN {k : Fin 4} {v : Int32} {L' : List Slot} {o : Slot} {h : MHeap} (hd : decode (mB M) pc = .ok (.istore_n k, 1)) (ho : L[k.val]? = some o) (h1 : one1 o = true) (hl : L.set k.val (.val (.int v)) = L') (hn : Ev G M (pc + 1) L' S h rr) : Ev G M pc L (.int v :: S) h rr :=
  Ev.istoreN hd (by rw [mst_one ho h1 rfl, hl]) hn
/-- a pair of slots over which a long may be stored at once -/
def two2 (a b : Slot) : Prop := (one1 a = true ∧ one1 b = true) ∨ (∃ x, a = .val (.long x) ∧ b = .second)
theorem set_set2 {l : List Slot} {i : Nat} {a b c : Slot} : ((l.set (i + 1) a).set i b).set (i + 1) c = (l.set i b).set (i + 1) c := by
  rw [List.set_comm _ _ (by omega : i + 1 ≠ i), List.set_set]
theorem mst_two {l : List Slot} {i : Nat} {v : Int64} {o o' : Slot} (ho : l[i]? = some o) (ho' : l[i + 1]? = some o') (h2 : two2 o o') : mst l i (.long v) = some ((l.set i (.val (.long v))).set (i + 1) .second) := by
  have hlt := (List.getElem?_eq_some_iff.mp ho).1
  have hlt' := (List.getElem?_eq_some_iff.mp ho').1
  rcases h2 with ⟨h1, h1'⟩ | ⟨x, rfl, rfl⟩
  · have e : lstoreSelf l i (.long v) = some ((l.set i (.val (.long v))).set (i + 1) .second) := by
      have q : (l.set i (.val (.long v)))[i + 1]? = some o' := by rw [List.getElem?_set_ne (by omega)]; exact ho'
      have hcat : (Value.long v).category = 2 := rfl
      simp only [lstoreSelf, lsetAt, hlt, if_true, hcat, q]
      cases o' with
      | unset => simp [hlt']
      | second => cases h1'
      | val w =>
        have : w.category = 1 := by simpa [one1] using h1'
        simp [this, hlt']
    unfold mst
    rw [ho]
    cases o with
    | unset => exact e
    | second => cases h1
    | val w =>
      have : w.category = 1 := by simpa [one1] using h1
      simp only [this]
      exact e
  · unfold mst
    rw [ho]
    have q : ((l.set (i + 1) Slot.unset).set i (.val (.long v)))[i + 1]? = some .unset := by
      rw [List.getElem?_set_ne (by omega), List.getElem?_set_self hlt']
    simp only [Value.category, if_true, lsetAt, hlt', lstoreSelf, List.length_set, hlt, q, set_set2]
theorem Ev.lstD {k : Nat} {v : Int64} {L' : List Slot} {o o' : Slot} {h : MHeap} (hd : decode (mB M) pc = .ok (.lstore k, 2)) (ho : L[k]? = some o) (ho' : L[k + 1]? = some o') (h2 : two2 o o') (hl : (L.set k (.val (.long v))).set (k + 1) .second = L') (hn : Ev G M (pc + 2) L' S h rr) : Ev G M pc L (.long v :: S) h rr :=
  Ev.lstore hd (by rw [mst_two ho ho' h2, hl]) hn
theorem Ev.lstDN {k : Fin 4} {v : Int64} {L' : List Slot} {o o' : Slot} {h : MHeap} (hd : decode (mB M) pc = .ok (.lstore_n k, 1)) (ho : L[k.val]? = some o) (ho' : L[k.val + 1]? = some o') (h2 : two2 o o') (hl : (L.set k.val (.val (.long v))).set (k.val + 1) .second = L') (hn : Ev G M (pc + 1) L' S h rr) : Ev G M pc L (.long v :: S) h rr :=
  Ev.lstoreN hd (by rw [mst_two ho ho' h2, hl]) hn
end ViewRules
/-! ## 5. One object among others -/
/-- al: the array fields in the order in which the constructor makes them, each with 'of booleans' -/
def rA (o : Nat) (al : List (Nat × Bool)) (j : Nat) : Nat := o + 1 + al.findIdx (fun q => q.1 == j)
def arr1 (Ln : Nat → Nat) (s : St) (q : Nat × Bool) : MCell := .inr (q.2, tab (Ln q.1) (s.2 q.1))
def KO (F : List Fd) (al : List (Nat × Bool)) (Ln : Nat → Nat) (o : Nat) (s : St) : MHeap := .inl (fvA (rA o al) s 0 F) :: al.map (arr1 Ln s)
def KH (F : List Fd) (al : List (Nat × Bool)) (Ln : Nat → Nat) (pre post : MHeap) (s : St) : MHeap := pre ++ (KO F al Ln pre.length s ++ post)
def alOk (F : List Fd) (al : List (Nat × Bool)) : Bool := (List.range F.length).all (fun j => match F[j]? with
  | some (_, _, .array t) => al[al.findIdx (fun q => q.1 == j)]? == some (j, isB t)
  | _ => true)
theorem KO_len {F : List Fd} {al : List (Nat × Bool)} {Ln : Nat → Nat} {o : Nat} {s : St} : (KO F al Ln o s).length = al.length + 1 := by simp [KO]
theorem app_get (pre post l : MHeap) (k : Nat) (h : k < l.length) : (pre ++ (l ++ post))[pre.length + k]? = l[k]? := by
  rw [List.getElem?_append_right (by omega), Nat.add_sub_cancel_left, List.getElem?_append_left h]
theorem app_set (pre post l : MHeap) (k : Nat) (c : MCell) (h : k < l.length) : (pre ++ (l ++ post)).set (pre.length + k) c = pre ++ (l.set k c ++ post) := by
  rw [List.set_append_right _ _ (by omega), Nat.add_sub_cancel_left, List.set_append_left _ _ h]
theorem view_of {G : Ctx} {al : List (Nat × Bool)} {Ln : Nat → Nat} {pre post : MHeap} (hk : k0 G ≤ pre.length) (h1 : alOk (gF G) al = true) (h2 : (al.map (·.1)).Nodup) :
    View G Ln (KH (gF G) al Ln pre post) pre.length (rA pre.length al) := by
  refine ⟨hk, fun s => ?_, fun s j f z hF ht => ?_, fun j n d t hF => ?_⟩
  · have := app_get pre post (KO (gF G) al Ln pre.length s) 0 (by rw [KO_len]; omega)
    exact this
  · have := app_set pre post (KO (gF G) al Ln pre.length s) 0 (.inl ((fvA (rA pre.length al) s 0 (gF G)).set j (.int z))) (by rw [KO_len]; omega)
    refine Eq.trans this ?_
    show pre ++ ((.inl _ :: al.map (arr1 Ln s)) ++ post) = pre ++ ((.inl _ :: al.map (arr1 Ln (setI s j z))) ++ post)
    rw [fvA_set hF ht]
    rfl
  · have hj : j < (gF G).length := (List.getElem?_eq_some_iff.mp hF).1
    have hq := List.all_eq_true.mp h1 j (List.mem_range.mpr hj)
    simp only [hF, beq_iff_eq] at hq
    have hlt := (List.getElem?_eq_some_iff.mp hq).1
    have hlen : ∀ s, al.findIdx (fun q => q.1 == j) + 1 < (KO (gF G) al Ln pre.length s).length := fun s => by rw [KO_len]; omega
    have hr : rA pre.length al j = pre.length + (al.findIdx (fun q => q.1 == j) + 1) := by unfold rA; omega
    refine ⟨by rw [hr]; omega, fun s => ?_, fun s i z hi => ?_⟩
    · rw [hr]
      refine (app_get pre post _ _ (hlen s)).trans ?_
      show (al.map (arr1 Ln s))[al.findIdx fun q => q.1 == j]? = _
      rw [List.getElem?_map, hq]
      rfl
    · rw [hr]
      refine (app_set pre post _ _ _ (hlen s)).trans ?_
      show pre ++ ((.inl (fvA (rA pre.length al) s 0 (gF G)) :: (al.map (arr1 Ln s)).set (al.findIdx fun q => q.1 == j) (.inr (isB t, (tab (Ln j) (s.2 j)).set i z))) ++ post) = pre ++ ((.inl (fvA (rA pre.length al) (setA s j i z) 0 (gF G)) :: al.map (arr1 Ln (setA s j i z))) ++ post)
      rw [fvA_same (s := s) (s' := setA s j i z) _ rfl]
      congr 3
      apply List.ext_getElem?
      intro k
      rw [List.getElem?_set, List.getElem?_map, List.getElem?_map, List.length_map]
      by_cases e : al.findIdx (fun q => q.1 == j) = k
      · subst e
        simp only [if_true, hlt, hq, Option.map_some, arr1, tab_set]
        congr 4
        funext x
        rw [setA_2]
        simp
      · simp only [e, if_false]
        cases hk2 : al[k]? with
        | none => rfl
        | some q =>
          simp only [Option.map_some, arr1]
          have ne : q.1 ≠ j := fun hqj => by
            have a1 : (al.map (·.1))[al.findIdx (fun q => q.1 == j)]? = some j := by rw [List.getElem?_map, hq]; rfl
            have a2 : (al.map (·.1))[k]? = some j := by rw [List.getElem?_map, hk2]; simp [hqj]
            have := (List.getElem?_inj (by rw [List.length_map]; exact hlt) h2).mp (a1.trans a2.symm)
            exact e this
          congr 4
          funext x
          rw [setA_2]
          simp [ne]
/-! ### while the constructor makes the arrays -/
def cons (pre : MHeap) (fs : List Value) (as : List (Bool × List Int32)) : MHeap := pre ++ (.inl fs :: as.map .inr)
section ConsRules
variable {G : Ctx} {M : Mi} {pc : Nat} {L : List Slot} {S : List Value} {rr : Option Value × MHeap} {pre : MHeap} {fs fs' : List Value} {as : List (Bool × List Int32)}
theorem cons_get : (cons pre fs as)[pre.length]? = some (.inl fs) := by unfold cons; rw [List.getElem?_append_right (Nat.le_refl _), Nat.sub_self]; rfl
theorem cons_set (c : List Value) : (cons pre fs as).set pre.length (.inl c) = cons pre c as := by unfold cons; rw [List.set_append_right _ _ (Nat.le_refl _), Nat.sub_self]; rfl
theorem cons_len : (cons pre fs as).length = pre.length + 1 + as.length := by simp [cons]; omega
theorem cons_push (b : Bool) (xs : List Int32) : cons pre fs as ++ [.inr (b, xs)] = cons pre fs (as ++ [(b, xs)]) := by simp [cons]
theorem Ev.cput {idx j : Nat} {n d : String} {ty : FieldType} {v v' : Value} (K : GOk G) (hk : k0 G ≤ pre.length) (w : (Jvm.Cond.fieldLink (mN M).cls idx (gC G) n d).before (gA G) (gZ G) = true)
    (wl : (Jvm.Cond.lays (gC G) (gC G) n d).before (gA G) (gZ G) = true ∨ ((Jvm.Cond.laysFinal (gC G) (gC G) n d).before (gA G) (gZ G) = true ∧ (mN M).cls = gC G ∧ (mN M).name = "<init>"))
    (hd : decode (mB M) pc = .ok (.putfield idx, 3)) (hF : (gF G)[j]? = some (n, d, ty)) (hp : mput ty v = some v') (hs : fs.set j v' = fs') (hn : Ev G M (pc + 3) L S (cons pre fs' as) rr) : Ev G M pc L (v :: .ref pre.length :: S) (cons pre fs as) rr := by
  subst hs
  refine Ev.putfield K w wl hd hF hk cons_get hp ?_
  rw [cons_set]; exact hn
theorem Ev.cget {idx j : Nat} {n d : String} {ty : FieldType} {v : Value} (w : (Jvm.Cond.fieldLink (mN M).cls idx (gC G) n d).before (gA G) (gZ G) = true) (hd : decode (mB M) pc = .ok (.getfield idx, 3)) (hF : (gF G)[j]? = some (n, d, ty)) (hv : fs[j]? = some v)
    (hn : Ev G M (pc + 3) L (v :: S) (cons pre fs as) rr) : Ev G M pc L (.ref pre.length :: S) (cons pre fs as) rr := Ev.getfield w hd hF cons_get hv hn
theorem Ev.cnew {aty : ArrayType} {b : Bool} {n : Int32} {k q : Nat} {as' : List (Bool × List Int32)} (w : (Jvm.Cond.arrayClass (newarray.typeOf aty)).before (gA G) (gZ G) = true) (hb' : newarray.typeOf aty = kd b) (hd : decode (mB M) pc = .ok (.newarray aty, 2)) (hn0 : ¬ n < 0) (hk : n.toNatClampNeg = k) (hcap : k ≤ 67108864)
    (hq : as.length = q) (has : as ++ [(b, tab k (fun _ => 0))] = as') (hn : Ev G M (pc + 2) L (.ref (pre.length + 1 + q) :: S) (cons pre fs as') rr) : Ev G M pc L (.int n :: S) (cons pre fs as) rr := by
  subst hq has
  refine Ev.newarray w hb' hd hn0 hk hcap ?_
  rw [cons_push, cons_len, ← tab_zero]; exact hn
end ConsRules
theorem forall_get {P : Nat → Fd → Prop} : ∀ (F : List Fd) (k : Nat), (∀ j f, F[j]? = some f → P (k + j) f) → True := fun _ _ _ => trivial
def AllF (P : Fd → Prop) : List Fd → Prop
  | [] => True
  | f :: fs => P f ∧ AllF P fs
theorem AllF.mem {P : Fd → Prop} : ∀ {F : List Fd}, AllF P F → ∀ f ∈ F, P f
  | _ :: _, ⟨h1, h2⟩, f, hf => (List.mem_cons.mp hf).elim (fun e => e ▸ h1) (AllF.mem h2 f)
theorem gok_of {G : Ctx} (h1 : AllF (fun f => Laid (gZ G) (gA G) (gC G) (gC G) f.1 f.2.1 ∧ parseFieldDescriptor f.2.1 = some f.2.2) (gF G)) (h2 : ((gF G).map (·.1)).Nodup)
    (h3 : (Jvm.Cond.instantiable (gC G) (gK G)).before (gA G) (gZ G) = true) (h4 : (Jvm.Cond.initialized (gC G)).before (gA G) (gZ G) = true) : GOk G := by
  refine ⟨fun j n d ty hF => h1.mem _ (List.mem_of_getElem? hF), fun j j' f f' hF hF' ne e => ne ?_, h3, h4⟩
  have a1 : ((gF G).map (·.1))[j]? = some f.1 := by rw [List.getElem?_map, hF]; rfl
  have a2 : ((gF G).map (·.1))[j']? = some f.1 := by rw [List.getElem?_map, hF', e]; rfl
  exact (List.getElem?_inj (by rw [List.length_map]; exact (List.getElem?_eq_some_iff.mp hF).1) h2).mp (a1.trans a2.symm)
end Jvm.Own
namespace Jvm.Own
open Sem ClassFile Op Lib Jvm.Stand Jvm.Free Jvm.LawKit Jvm.RoadKit
def grd {α : Type} (c : Prop) [Decidable c] (x : Option α) : Option α := if c then x else none
theorem grd_some {α : Type} {c : Prop} [Decidable c] {x : Option α} {w : α} (h : grd c x = some w) : c ∧ x = some w := by
  unfold grd at h; split at h
  · exact ⟨by assumption, h⟩
  · cases h
theorem grd_pos {α : Type} {c : Prop} [Decidable c] {x : Option α} (h : c) : grd c x = x := if_pos h
theorem KH_len (F : List Fd) (al : List (Nat × Bool)) (Ln : Nat → Nat) (pre post : MHeap) (s : St) : (KH F al Ln pre post s).length = pre.length + (al.length + 1 + post.length) := by simp [KH, KO]; omega
theorem hsl_app (k : Nat) (a b : MHeap) : hsl k (a ++ b) = hsl k a + hsl k b := by simp [hsl]
theorem hsl_arr (k : Nat) (Ln : Nat → Nat) (s : St) : ∀ al : List (Nat × Bool), hsl k (al.map (arr1 Ln s)) = (al.map fun q => Ln q.1).sum
  | [] => rfl
  | q :: al => by
    have := hsl_arr k Ln s al
    simp only [hsl, List.map_cons, List.sum_cons] at this ⊢
    rw [this]
    simp [arr1, csl, tab_len]
theorem hsl_KH (k : Nat) (F : List Fd) (al : List (Nat × Bool)) (Ln : Nat → Nat) (pre post : MHeap) (s : St) : hsl k (KH F al Ln pre post s) = hsl k pre + (k + (al.map fun q => Ln q.1).sum + hsl k post) := by
  unfold KH
  rw [hsl_app, hsl_app]
  have : hsl k (KO F al Ln pre.length s) = k + (al.map fun q => Ln q.1).sum := by
    have := hsl_arr k Ln s al
    simp only [KO, hsl, List.map_cons, List.sum_cons, csl] at this ⊢
    rw [this]
  rw [this]
theorem ne_lit {x z : Int32} {k : Int} (h : ¬ x = z) (e : z.toInt = k) : x.toInt ≠ k := fun q => h (Int32.toInt_inj.mp (q.trans e.symm))
section
variable {G : Ctx} {M : Mi} {pc : Nat} {L : List Slot} {S : List Value} {rr : Option Value × MHeap}
theorem Ev.astD {k v : Nat} {L' : List Slot} {o : Slot} {h : MHeap} (hd : decode (mB M) pc = .ok (.astore k, 2)) (ho : L[k]? = some o) (h1 : one1 o = true) (hl : L.set k (.val (.ref v)) = L') (hn : Ev G M (pc + 2) L' S h rr) : Ev G M pc L (.ref v :: S) h rr :=
  Ev.astore hd (by rw [mst_one ho h1 rfl, hl]) hn
theorem Ev.astDN {k : Fin 4} {v : Nat} {L' : List Slot} {o : Slot} {h : MHeap} (hd : decode (mB M) pc = .ok (.astore_n k, 1)) (ho : L[k.val]? = some o) (h1 : one1 o = true) (hl : L.set k.val (.val (.ref v)) = L') (hn : Ev G M (pc + 1) L' S h rr) : Ev G M pc L (.ref v :: S) h rr :=
  Ev.astoreN hd (by rw [mst_one ho h1 rfl, hl]) hn
end
end Jvm.Own
namespace Jvm.Own
open Sem ClassFile Op Lib Jvm.Stand Jvm.Free Jvm.LawKit Jvm.RoadKit
section
variable {G : Ctx} {M : Mi} {pc : Nat} {L : List Slot} {S : List Value} {rr : Option Value × MHeap}
theorem mst_T {l : List Slot} {i : Nat} {v : Value} {o o' : Slot} (ho : l[i]? = some o) (ho' : l[i + 1]? = some o') (h2 : two2 o o') (hv : v.category = 1) : ∃ b, one1 b = true ∧ mst l i v = some ((l.set i (.val v)).set (i + 1) b) := by
  have hlt := (List.getElem?_eq_some_iff.mp ho).1
  have hlt' := (List.getElem?_eq_some_iff.mp ho').1
  rcases h2 with ⟨h1, h1'⟩ | ⟨x, rfl, rfl⟩
  · refine ⟨o', h1', ?_⟩
    rw [mst_one ho h1 hv]
    congr 1
    apply List.ext_getElem?
    intro k
    by_cases e : i + 1 = k
    · subst e
      rw [List.getElem?_set_self (by simpa using hlt'), List.getElem?_set_ne (by omega), ho']
    · rw [List.getElem?_set_ne e]
  · refine ⟨.unset, rfl, ?_⟩
    unfold mst
    rw [ho]
    have c2 : (Value.long x).category = 2 := rfl
    simp only [c2, if_true, lsetAt, hlt', lstoreSelf, List.length_set, hlt, hv]
    rw [List.set_comm _ _ (by omega : i + 1 ≠ i)]
    simp
theorem Ev.istT {k : Nat} {v : Int32} {L' : Slot → List Slot} {o o' : Slot} {h : MHeap} (hd : decode (mB M) pc = .ok (.istore k, 2)) (ho : L[k]? = some o) (ho' : L[k + 1]? = some o') (h2 : two2 o o') (hl : ∀ b, (L.set k (.val (.int v))).set (k + 1) b = L' b) (hn : ∀ b, one1 b = true → Ev G M (pc + 2) (L' b) S h rr) : Ev G M pc L (.int v :: S) h rr := by
  obtain ⟨b, h1, e⟩ := mst_T (v := .int v) ho ho' h2 rfl
  exact Ev.istore hd e (by rw [hl]; exact hn b h1)
theorem Ev.istTN {k : Fin 4} {v : Int32} {L' : Slot → List Slot} {o o' : Slot} {h : MHeap} (hd : decode (mB M) pc = .ok (.istore_n k, 1)) (ho : L[k.val]? = some o) (ho' : L[k.val + 1]? = some o') (h2 : two2 o o') (hl : ∀ b, (L.set k.val (.val (.int v))).set (k.val + 1) b = L' b) (hn : ∀ b, one1 b = true → Ev G M (pc + 1) (L' b) S h rr) : Ev G M pc L (.int v :: S) h rr := by
  obtain ⟨b, h1, e⟩ := mst_T (v := .int v) ho ho' h2 rfl
  exact Ev.istoreN hd e (by rw [hl]; exact hn b h1)
end
section
variable {G : Ctx} {Ln : Nat → Nat} {K : St → MHeap} {o len : Nat} {r : Nat → Nat} {F : List Fd} {al : List (Nat × Bool)}
theorem View.le (V : View G Ln K o r) (s : St) : k0 G ≤ (K s).length := Nat.le_trans V.1 (Nat.le_of_lt (List.getElem?_eq_some_iff.mp (V.2.1 s)).1)
theorem View.app (V : View G Ln K o r) (X : MHeap) : View G Ln (fun s => K s ++ X) o r := by
  refine ⟨V.1, fun s => ?_, fun s j f z hF ht => ?_, fun j n d t hF => ?_⟩
  · show (K s ++ X)[o]? = _
    rw [List.getElem?_append_left (List.getElem?_eq_some_iff.mp (V.2.1 s)).1]; exact V.2.1 s
  · show (K s ++ X).set o _ = _
    rw [List.set_append_left _ _ (List.getElem?_eq_some_iff.mp (V.2.1 s)).1, V.2.2.1 s j f z hF ht]
  · obtain ⟨q1, q2, q3⟩ := V.2.2.2 j n d t hF
    refine ⟨q1, fun s => ?_, fun s i z hi => ?_⟩
    · show (K s ++ X)[r j]? = _
      rw [List.getElem?_append_left (List.getElem?_eq_some_iff.mp (q2 s)).1]; exact q2 s
    · show (K s ++ X).set (r j) _ = _
      rw [List.set_append_left _ _ (List.getElem?_eq_some_iff.mp (q2 s)).1, q3 s i z hi]
theorem View.app2 (V : View G Ln K o r) (hl : ∀ s, (K s).length = len) (t : St) : View G Ln (fun s => KH F al Ln (K s) [] t) o r := by
  have e : (fun s => KH F al Ln (K s) [] t) = fun s => K s ++ (KO F al Ln len t ++ []) := by
    funext s; unfold KH; rw [hl]
  rw [e]
  exact V.app _
theorem app2_get (V : View G Ln K o r) {s t : St} {c : MCell} (h : (K s)[0]? = some c) : (KH F al Ln (K s) [] t)[0]? = some c := by
  unfold KH
  rw [List.getElem?_append_left (List.getElem?_eq_some_iff.mp h).1]; exact h
end
end Jvm.Own
namespace Jvm.Own
open Sem ClassFile Op Lib Jvm.Stand Jvm.Free Jvm.LawKit Jvm.RoadKit
def toI : Value → Int32
  | .int z => z
  | _ => 0
theorem script_rel {s : State} {a : Nat} {cl : Cell} {args : Array Value} {l : Launch} {C : String} {F : List Fd} {k : Nat} (hf : Fit s) (A : Arr s s.heap a cl .int) :
    ∃ xs : List Int32, xs.length = cl.slots.size ∧ Rel (s, args, l, some a, s.heap.size, C, F, k) s.heap [.inr (false, tab xs.length (fun i => xs.getD i 0))] := by
  have hl : (cl.slots.toList.map toI).length = cl.slots.size := by simp
  refine ⟨cl.slots.toList.map toI, hl, rfl, Nat.le_refl _, fun a' q => by cases q; exact A.lt, fun i c q => ?_⟩
  match i, q with
  | 0, q =>
    cases q
    refine ⟨cl, A, ?_⟩
    rw [← tab_of]
    apply Array.ext'
    apply List.ext_getElem?
    intro j
    simp only [List.map_map, List.getElem?_map]
    cases hj : cl.slots.toList[j]? with
    | none => rfl
    | some v =>
      have hj' : cl.slots[j]? = some v := by simpa using hj
      obtain ⟨hlt, hv⟩ := Array.getElem?_eq_some_iff.mp hj'
      have q := hf A.1 hlt
      obtain ⟨hs, kk, hk, comp, hkind⟩ := A.2.1
      have e : s.slotType? cl.cls cl.vm j = some .int := by
        cases hq : cl.vm <;> first | exact absurd hq (hs _) | simp [State.slotType?, hk, hkind]
      have q2 : fits .int v = true := by rw [hv] at q; simpa [State.fitsSlot, e] using q
      obtain ⟨z, rfl⟩ := fit_I q2 (Or.inl rfl)
      rfl
theorem script_len {s : State} {args : Array Value} {t : Term} {a : Nat} {cl : Cell} (A : Arr s s.heap a cl .int) (ea : t.eval args s none [] s = some (.ref a)) (h1 : (Jvm.Cond.isInt (.length t)).value args s none s [] = some true) (h2 : (Jvm.Cond.le (.length t) (.int 260)).value args s none s [] = some true) : cl.slots.size ≤ 260 := by
  obtain ⟨z, ez⟩ := is_v h1
  have ha := A.fin (Vm.Alike.refl s.vm)
  have hlen : cl.slots.size < 2 ^ 31 := by
    rcases Nat.lt_or_ge cl.slots.size (2 ^ 31) with q | q
    · exact q
    · simp [Term.eval, ea, ha, Nat.not_lt.mpr q] at ez
  have e1 := len_f ea ha hlen
  have q : cl.slots.size.toInt32 ≤ 260 := by
    have := Cond.le_ints e1 (Term.int_eval (260 : Int32)) (args := args) (first := s) (o := none) (s := s) (idx := [])
    exact gotT this h2
  have q2 := Int32.le_iff_toInt_le.mp q
  rw [len_toInt hlen] at q2
  have : (260 : Int32).toInt = 260 := by decide
  omega
end Jvm.Own
namespace Jvm.Own
open Sem ClassFile Op Lib Jvm.Stand Jvm.Free Jvm.LawKit Jvm.RoadKit
def decs (b : ByteArray) : List (Nat × Instr × Nat) → Bool
  | [] => true
  | q :: t => decide (decode b q.1 = .ok (q.2.1, q.2.2)) && decs b t
theorem dget {b : ByteArray} : ∀ {l : List (Nat × Instr × Nat)}, decs b l = true → ∀ {k p : Nat} {i : Instr} {n : Nat}, l[k]? = some (p, i, n) → decode b p = .ok (i, n)
  | [], _, k, _, _, _, hk => by simp at hk
  | q :: t, h, 0, p, i, n, hk => by
    simp only [decs, Bool.and_eq_true, decide_eq_true_eq] at h
    simp only [List.getElem?_cons_zero, Option.some.injEq] at hk
    subst hk
    exact h.1
  | q :: t, h, k + 1, p, i, n, hk => by
    simp only [decs, Bool.and_eq_true] at h
    exact dget h.2 (by simpa using hk)
end Jvm.Own
namespace Jvm.Own
/-! ## 6. Ints of 32 bits and naturals -/
theorem N_toInt {i : Nat} (h : i < 2147483648) : (Int32.ofNat i).toInt = i := Int32.toInt_ofNat_of_lt h
theorem N_lt {i j : Nat} (hi : i < 2147483648) (hj : j < 2147483648) : Int32.ofNat i < Int32.ofNat j ↔ i < j := by
  rw [Int32.lt_iff_toInt_lt, N_toInt hi, N_toInt hj]; omega
theorem N_inj {i j : Nat} (hi : i < 2147483648) (hj : j < 2147483648) : Int32.ofNat i = Int32.ofNat j ↔ i = j := by
  rw [← Int32.toInt_inj, N_toInt hi, N_toInt hj]; omega
theorem N_succ (i : Nat) : Int32.ofNat i + 1 = Int32.ofNat (i + 1) := (Int32.ofNat_add i 1).symm
theorem N_add (i j : Nat) : Int32.ofNat i + Int32.ofNat j = Int32.ofNat (i + j) := (Int32.ofNat_add i j).symm
theorem N_mul (i j : Nat) : Int32.ofNat i * Int32.ofNat j = Int32.ofNat (i * j) := (Int32.ofNat_mul i j).symm
theorem N_neg {i : Nat} (h : i < 2147483648) : ¬ Int32.ofNat i < 0 := by
  rw [Int32.lt_iff_toInt_lt, N_toInt h]; simp
theorem ix_N {i : Nat} (h : i < 2147483648) : ix (Int32.ofNat i) = i := by
  unfold ix Int32.toNatClampNeg; rw [N_toInt h]; simp
theorem inb_N {i n : Nat} (h : i < 2147483648) : inb (Int32.ofNat i) n ↔ i < n := by
  unfold inb; rw [ix_N h]; exact ⟨fun q => q.2, fun q => ⟨N_neg h, q⟩⟩
theorem ix_toInt {x : Int32} (h : ¬ x < 0) : (ix x : Int) = x.toInt := by
  unfold ix Int32.toNatClampNeg
  rw [Int32.lt_iff_toInt_lt] at h
  have : (0 : Int32).toInt = 0 := rfl
  omega
theorem ix_lt (x : Int32) : ix x < 2147483648 := by
  unfold ix Int32.toNatClampNeg
  have := Int32.toInt_lt x
  omega
theorem N_ix {x : Int32} (h : ¬ x < 0) : Int32.ofNat (ix x) = x := by
  rw [← Int32.toInt_inj, N_toInt (ix_lt x), ix_toInt h]
theorem ix_eq {x y : Int32} (hx : ¬ x < 0) (hy : ¬ y < 0) : ix x = ix y ↔ x = y := by
  refine ⟨fun e => ?_, fun e => e ▸ rfl⟩
  rw [← N_ix hx, ← N_ix hy, e]
theorem rng (x : Int32) : -2147483648 ≤ x.toInt ∧ x.toInt < 2147483648 := ⟨Int32.le_toInt x, Int32.toInt_lt x⟩
theorem lt_I {x y : Int32} : x < y ↔ x.toInt < y.toInt := Int32.lt_iff_toInt_lt
theorem le_I {x y : Int32} : x ≤ y ↔ x.toInt ≤ y.toInt := Int32.le_iff_toInt_le
theorem eq_I {x y : Int32} : x = y ↔ x.toInt = y.toInt := Int32.toInt_inj.symm
theorem bmod_eq {x : Int} (h1 : -2147483648 ≤ x) (h2 : x < 2147483648) : x.bmod (2 ^ 32) = x := by
  apply Int.bmod_eq_of_le <;> omega
theorem add_I {x y : Int32} (h1 : -2147483648 ≤ x.toInt + y.toInt) (h2 : x.toInt + y.toInt < 2147483648) : (x + y).toInt = x.toInt + y.toInt := by
  rw [Int32.toInt_add]; exact bmod_eq h1 h2
theorem sub_I {x y : Int32} (h1 : -2147483648 ≤ x.toInt - y.toInt) (h2 : x.toInt - y.toInt < 2147483648) : (x - y).toInt = x.toInt - y.toInt := by
  rw [Int32.toInt_sub]; exact bmod_eq h1 h2
theorem mul_I {x y : Int32} (h1 : -2147483648 ≤ x.toInt * y.toInt) (h2 : x.toInt * y.toInt < 2147483648) : (x * y).toInt = x.toInt * y.toInt := by
  rw [Int32.toInt_mul]; exact bmod_eq h1 h2
theorem inb_I {x : Int32} {n : Nat} (h1 : 0 ≤ x.toInt) (h2 : x.toInt < n) : inb x n := by
  have h : ¬ x < 0 := by rw [lt_I]; have : (0 : Int32).toInt = 0 := rfl; omega
  refine ⟨h, ?_⟩
  have := ix_toInt h
  omega
/-- an int between 0 and n is one of them -/
theorem cases_N {x : Int32} {n : Nat} (hn : n < 2147483648) (h0 : ¬ x < 0) (h1 : x < Int32.ofNat n) : ∃ i, i < n ∧ x = Int32.ofNat i := by
  refine ⟨ix x, ?_, (N_ix h0).symm⟩
  have a := ix_toInt h0
  rw [lt_I, N_toInt hn] at h1
  omega
/-! ## 7. Loops that count from i to N -/
def itr {α : Type} (f : Nat → α → α) : Nat → Nat → α → α
  | _, 0, s => s
  | i, m + 1, s => itr f (i + 1) m (f i s)
theorem loopN {α β : Type} {F : Nat → Int32 → α → Option β} {N : Nat} {f : Nat → α → α} {fin : α → Option β}
    (hF : ∀ k i s, i < N → F (k + 1) (Int32.ofNat i) s = F k (Int32.ofNat i + 1) (f i s)) (hE : ∀ k s, F (k + 1) (Int32.ofNat N) s = fin s) :
    ∀ m i k s, i + m = N → m < k → F k (Int32.ofNat i) s = fin (itr f i m s) := by
  intro m
  induction m with
  | zero =>
    intro i k s hi hk
    obtain ⟨k, rfl⟩ : ∃ k', k = k' + 1 := ⟨k - 1, by omega⟩
    have : i = N := by omega
    subst this
    exact hE k s
  | succ m ih =>
    intro i k s hi hk
    obtain ⟨k, rfl⟩ : ∃ k', k = k' + 1 := ⟨k - 1, by omega⟩
    rw [hF k i s (by omega), N_succ]
    exact ih (i + 1) k _ (by omega) (by omega)
theorem itr_ind {α : Type} {f : Nat → α → α} {P : Nat → α → Prop} {N : Nat} (h : ∀ i s, i < N → P i s → P (i + 1) (f i s)) : ∀ m i s, i + m = N → P i s → P N (itr f i m s) := by
  intro m
  induction m with
  | zero => intro i s hi hp; have : i = N := by omega
            subst this; exact hp
  | succ m ih => intro i s hi hp; exact ih (i + 1) _ (by omega) (h i s (by omega) hp)
theorem itr_pt {f : Nat → St → St} {u : Nat → Int32 → Int32} (h1 : ∀ i s, (f i s).1 = s.1) (h2 : ∀ i s k x, (f i s).2 k x = if x = i then u k (s.2 k x) else s.2 k x) :
    ∀ m i s, itr f i m s = (s.1, fun k x => if i ≤ x ∧ x < i + m then u k (s.2 k x) else s.2 k x) := by
  intro m
  induction m with
  | zero =>
    intro i s
    refine Prod.ext rfl ?_
    funext k x
    have : ¬ (i ≤ x ∧ x < i + 0) := by omega
    simp only [this, if_false]
    rfl
  | succ m ih =>
    intro i s
    show itr f (i + 1) m (f i s) = _
    rw [ih]
    refine Prod.ext (h1 i s) ?_
    funext k x
    simp only [h2]
    by_cases e : x = i
    · subst e
      have a : ¬ (x + 1 ≤ x ∧ x < x + 1 + m) := by omega
      have b : x ≤ x ∧ x < x + (m + 1) := by omega
      simp only [a, b, if_false, if_true, and_self]
    · have : (i + 1 ≤ x ∧ x < i + 1 + m) ↔ (i ≤ x ∧ x < i + (m + 1)) := by omega
      simp only [this, e, if_false]
theorem itr_fill (K : Nat) (z : Int32) (m : Nat) (s : St) : itr (fun i s => setA s K i z) 0 m s = (s.1, fun k x => if k = K ∧ x < m then z else s.2 k x) := by
  rw [itr_pt (f := fun i s => setA s K i z) (u := fun k v => if k = K then z else v) (fun _ _ => rfl) (fun i s j x => by
    simp only [setA_2]
    by_cases e : x = i <;> by_cases e1 : j = K <;> simp [e, e1])]
  refine Prod.ext rfl ?_
  funext k x
  have : (0 ≤ x ∧ x < 0 + m) ↔ x < m := by omega
  simp only [this]
  by_cases e : x < m <;> by_cases e1 : k = K <;> simp [e, e1]
theorem and_rng (x : Int32) {m : Nat} (hm : m < 2147483648) : 0 ≤ (x &&& Int32.ofNat m).toInt ∧ (x &&& Int32.ofNat m).toInt ≤ m := by
  have h1 : (x &&& Int32.ofNat m).toBitVec.toNat ≤ m := by
    rw [Int32.toBitVec_and, BitVec.toNat_and]
    refine Nat.le_trans Nat.and_le_right ?_
    show (BitVec.ofNat 32 m).toNat ≤ m
    rw [BitVec.toNat_ofNat]
    exact Nat.mod_le _ _
  have h2 : (x &&& Int32.ofNat m).toInt = ((x &&& Int32.ofNat m).toBitVec.toNat : Int) := by
    show (x &&& Int32.ofNat m).toBitVec.toInt = _
    exact BitVec.toInt_eq_toNat_of_lt (by omega)
  omega
theorem idx8 {o p : Int32} (h0 : ¬ o < 0) (h3 : ¬ 3 < o) : inb (o * 8 + (p &&& 7)) 32 := by
  have a := and_rng p (m := 7) (by omega)
  rw [show Int32.ofNat 7 = (7 : Int32) from rfl] at a
  rw [lt_I] at h0 h3
  have e0 : (0 : Int32).toInt = 0 := rfl
  have e3 : (3 : Int32).toInt = 3 := rfl
  have e8 : (8 : Int32).toInt = 8 := rfl
  have em : (o * 8).toInt = o.toInt * 8 := by rw [mul_I] <;> rw [e8] <;> omega
  have ea : (o * 8 + (p &&& 7)).toInt = o.toInt * 8 + (p &&& 7).toInt := by rw [add_I] <;> rw [em] <;> omega
  exact inb_I (by omega) (by omega)
theorem idx8' {o p : Int32} (h0 : ¬ o < 0) (h3 : ¬ 3 < o) (g0 : ¬ p < 0) (g7 : ¬ 7 < p) : inb (o * 8 + p) 32 ∧ (o * 8 + p).toInt = o.toInt * 8 + p.toInt := by
  rw [lt_I] at h0 h3 g0 g7
  have e0 : (0 : Int32).toInt = 0 := rfl
  have e3 : (3 : Int32).toInt = 3 := rfl
  have e7 : (7 : Int32).toInt = 7 := rfl
  have e8 : (8 : Int32).toInt = 8 := rfl
  have em : (o * 8).toInt = o.toInt * 8 := by rw [mul_I] <;> rw [e8] <;> omega
  have ea : (o * 8 + p).toInt = o.toInt * 8 + p.toInt := by rw [add_I] <;> rw [em] <;> omega
  exact ⟨inb_I (by omega) (by omega), ea⟩
theorem inb_le {x : Int32} {m : Int32} {n : Nat} (h0 : ¬ x < 0) (h1 : ¬ m < x) (hm : m.toInt < n) : inb x n := by
  rw [lt_I] at h0 h1
  have e0 : (0 : Int32).toInt = 0 := rfl
  exact inb_I (by omega) (by omega)
theorem inb_lt {x : Int32} {m : Int32} {n : Nat} (h0 : ¬ x < 0) (h1 : x < m) (hm : m.toInt ≤ n) : inb x n := by
  rw [lt_I] at h0 h1
  have e0 : (0 : Int32).toInt = 0 := rfl
  exact inb_I (by omega) (by omega)
theorem rem_N {a N : Nat} (ha : a < 2147483648) (hN : N < 2147483648) (h0 : 0 < N) : Int32.ofNat a % Int32.ofNat N = Int32.ofNat (a % N) := by
  have h1 : a % N < N := Nat.mod_lt _ h0
  rw [← Int32.toInt_inj, Int32.toInt_mod, N_toInt ha, N_toInt hN, N_toInt (by omega)]
  rw [Int.tmod_eq_emod_of_nonneg (by omega)]
  rfl
/-- the rule of a loop that counts from i to N: P before each turn; Q of what it gives -/
theorem loopP {α β : Type} {F : Nat → Int32 → α → Option β} {N : Nat} {P : Nat → α → Prop} {Q : β → Prop}
    (hF : ∀ k i s, i < N → P i s → (∃ s', F (k + 1) (Int32.ofNat i) s = F k (Int32.ofNat i + 1) s' ∧ P (i + 1) s') ∨ ∃ r, F (k + 1) (Int32.ofNat i) s = some r ∧ Q r)
    (hE : ∀ k s, P N s → ∃ r, F (k + 1) (Int32.ofNat N) s = some r ∧ Q r) :
    ∀ m i k s, i + m = N → m < k → P i s → ∃ r, F k (Int32.ofNat i) s = some r ∧ Q r := by
  intro m
  induction m with
  | zero =>
    intro i k s hi hk hp
    obtain ⟨k, rfl⟩ : ∃ k', k = k' + 1 := ⟨k - 1, by omega⟩
    have : i = N := by omega
    subst this
    exact hE k s hp
  | succ m ih =>
    intro i k s hi hk hp
    obtain ⟨k, rfl⟩ : ∃ k', k = k' + 1 := ⟨k - 1, by omega⟩
    rcases hF k i s (by omega) hp with ⟨s', e, hp'⟩ | h
    · rw [e, N_succ]
      exact ih (i + 1) k s' (by omega) (by omega) hp'
    · exact h
theorem ltN {i j : Nat} (h : i < j) (hj : j < 2147483648) : Int32.ofNat i < Int32.ofNat j := (N_lt (by omega) hj).mpr h
theorem ltZ {i : Nat} {z : Int32} (N : Nat) (hz : Int32.ofNat N = z) (h : i < N) (hN : N < 2147483648) : Int32.ofNat i < z := hz ▸ ltN h hN
theorem nltN {i : Nat} (hi : i < 2147483648) : ¬ Int32.ofNat i < Int32.ofNat i := fun q => by rw [N_lt hi hi] at q; omega
theorem inbN {i n : Nat} (h : i < n) (hi : i < 2147483648) : inb (Int32.ofNat i) n := (inb_N hi).mpr h
def own_cl (a lo hi : Int32) : Int32 := if a < lo then lo else if hi < a then hi else a
theorem own_cl_rng {a lo hi : Int32} (h : ¬ hi < lo) : lo.toInt ≤ (own_cl a lo hi).toInt ∧ (own_cl a lo hi).toInt ≤ hi.toInt := by
  unfold own_cl
  rw [lt_I] at h
  split
  · omega
  · rename_i q; rw [lt_I] at q
    split
    · omega
    · rename_i q2; rw [lt_I] at q2; omega
theorem own_nat {x : Int32} {lo hi : Nat} (h1 : (lo : Int) ≤ x.toInt) (h2 : x.toInt ≤ hi) : ∃ N : Nat, x = Int32.ofNat N ∧ lo ≤ N ∧ N ≤ hi := by
  have := rng x
  refine ⟨x.toInt.toNat, ?_, by omega, by omega⟩
  rw [← Int32.toInt_inj, N_toInt (by omega)]; omega
theorem own_clN (a : Int32) {lo hi : Nat} (h : lo ≤ hi) (hi' : hi < 2147483648) : ∃ N : Nat, own_cl a (Int32.ofNat lo) (Int32.ofNat hi) = Int32.ofNat N ∧ lo ≤ N ∧ N ≤ hi := by
  have q := own_cl_rng (a := a) (lo := Int32.ofNat lo) (hi := Int32.ofNat hi) (fun q => by rw [N_lt (by omega) (by omega)] at q; omega)
  rw [N_toInt (by omega), N_toInt (by omega)] at q
  exact own_nat q.1 q.2
end Jvm.Own
namespace Jvm.Pilot.@@N@@
open Jvm Jvm.ClassFile Sem Op Lib Jvm.Free Jvm.Stand Jvm.LawKit Jvm.RoadKit Bundle Jvm.Pilot.@@N@@.Jvm.D Jvm.Own
/-! ### the class and its words (printed by a program of this repo) -/
abbrev GT := State × Array Value × Launch × Option Addr × Nat
def flds : List Fd := [("ops", "[I", FieldType.array FieldType.int), ("fieldA", "[I", FieldType.array FieldType.int), ("fieldB", "[I", FieldType.array FieldType.int), ("fieldC", "[I", FieldType.array FieldType.int), ("match", "[I", FieldType.array FieldType.int), ("openPos", "[I", FieldType.array FieldType.int), ("openElse", "[I", FieldType.array FieldType.int), ("openLoop", "[Z", FieldType.array FieldType.boolean), ("inputs", "[I", FieldType.array FieldType.int), ("outs", "[I", FieldType.array FieldType.int), ("finals", "[I", FieldType.array FieldType.int), ("vars", "[I", FieldType.array FieldType.int), ("frameAt", "[I", FieldType.array FieldType.int), ("frameStart", "[I", FieldType.array FieldType.int), ("frameTrip", "[I", FieldType.array FieldType.int), ("frameChunk", "[I", FieldType.array FieldType.int), ("frameCopy", "[I", FieldType.array FieldType.int), ("invariantIf", "[Z", FieldType.array FieldType.boolean), ("ifLoop", "[I", FieldType.array FieldType.int), ("guardKnown", "[Z", FieldType.array FieldType.boolean), ("guardValue", "[Z", FieldType.array FieldType.boolean), ("codeSize", "I", FieldType.int), ("openCount", "I", FieldType.int), ("openLoops", "I", FieldType.int), ("factor", "I", FieldType.int), ("status", "I", FieldType.int), ("outCount", "I", FieldType.int)]
def GG (g : GT) : Ctx := (g.1, g.2.1, g.2.2.1, g.2.2.2.1, g.2.2.2.2, "LoopUnroller", flds, 31)
def HW (g : GT) : Prop := ∀ d ∈ tables_1, d.before g.2.1 g.1 = true
def al : List (Nat × Bool) := [(0, false), (1, false), (2, false), (3, false), (4, false), (5, false), (6, false), (7, true), (8, false), (9, false), (10, false), (11, false), (12, false), (13, false), (14, false), (15, false), (16, false), (17, true), (18, false), (19, true), (20, true)]
def Ln (j : Nat) : Nat := [24, 24, 24, 24, 24, 4, 4, 4, 8, 32, 8, 8, 2, 2, 2, 2, 2, 24, 24, 24, 24, 0, 0, 0, 0, 0, 0].getD j 0
def dfl : List Value := [.null, .null, .null, .null, .null, .null, .null, .null, .null, .null, .null, .null, .null, .null, .null, .null, .null, .null, .null, .null, .null, .int 0, .int 0, .int 0, .int 0, .int 0, .int 0]
theorem ww {g : GT} (hw : HW g) (k : Nat) {d : Jvm.Cond} (h : tables_1[k]? = some d) : d.before (gA (GG g)) (gZ (GG g)) = true := hw _ (List.mem_of_getElem? h)
theorem fld_nd : (flds.map (·.1)).Nodup := by decide +kernel
theorem al_ok : alOk flds al = true := by decide +kernel
theorem al_nd : (al.map (·.1)).Nodup := by decide +kernel
theorem gok {g : GT} (hw : HW g) : GOk (GG g) := gok_of ⟨⟨Or.inl (ww hw 11 rfl), by decide⟩, ⟨Or.inl (ww hw 13 rfl), by decide⟩, ⟨Or.inl (ww hw 15 rfl), by decide⟩, ⟨Or.inl (ww hw 17 rfl), by decide⟩, ⟨Or.inl (ww hw 19 rfl), by decide⟩, ⟨Or.inl (ww hw 21 rfl), by decide⟩, ⟨Or.inl (ww hw 23 rfl), by decide⟩, ⟨Or.inl (ww hw 26 rfl), by decide⟩, ⟨Or.inl (ww hw 28 rfl), by decide⟩, ⟨Or.inl (ww hw 30 rfl), by decide⟩, ⟨Or.inl (ww hw 32 rfl), by decide⟩, ⟨Or.inl (ww hw 34 rfl), by decide⟩, ⟨Or.inl (ww hw 36 rfl), by decide⟩, ⟨Or.inl (ww hw 38 rfl), by decide⟩, ⟨Or.inl (ww hw 40 rfl), by decide⟩, ⟨Or.inl (ww hw 42 rfl), by decide⟩, ⟨Or.inl (ww hw 44 rfl), by decide⟩, ⟨Or.inl (ww hw 46 rfl), by decide⟩, ⟨Or.inl (ww hw 48 rfl), by decide⟩, ⟨Or.inl (ww hw 50 rfl), by decide⟩, ⟨Or.inl (ww hw 52 rfl), by decide⟩, ⟨Or.inl (ww hw 63 rfl), by decide⟩, ⟨Or.inl (ww hw 69 rfl), by decide⟩, ⟨Or.inl (ww hw 71 rfl), by decide⟩, ⟨Or.inl (ww hw 73 rfl), by decide⟩, ⟨Or.inl (ww hw 79 rfl), by decide⟩, ⟨Or.inl (ww hw 81 rfl), by decide⟩, trivial⟩ fld_nd (ww hw 1 rfl) (ww hw 2 rfl)
theorem pcls : plainName "LoopUnroller" = true := by first | (simp [plainName, overriddenIn]; done) | decide +kernel
theorem pclsL : plainName "LoopUnrollerL2" = true := by first | (simp [plainName, overriddenIn]; done) | decide +kernel
theorem nmh : "LoopUnroller" ≠ "java/lang/invoke/MethodHandle" ∧ "LoopUnroller" ≠ "java/lang/invoke/VarHandle" := by decide
theorem nmhL : "LoopUnrollerL2" ≠ "java/lang/invoke/MethodHandle" ∧ "LoopUnrollerL2" ≠ "java/lang/invoke/VarHandle" := by decide
def M_clearProgram : Mi := ((⟨"LoopUnroller", "clearProgram", "()V"⟩ : MethodName), prog_1_method_17_code, 2, none, 0, 0)
theorem pl_clearProgram : plainFor (mN M_clearProgram) = true := plainFor_of_name pcls
theorem nm_clearProgram : notMH M_clearProgram := nmh
theorem pd_clearProgram : parseMethodDescriptor (mN M_clearProgram).desc = some ⟨[], none⟩ := by decide +kernel
def M_clearOpen : Mi := ((⟨"LoopUnroller", "clearOpen", "()V"⟩ : MethodName), prog_1_method_18_code, 2, none, 0, 0)
theorem pl_clearOpen : plainFor (mN M_clearOpen) = true := plainFor_of_name pcls
theorem nm_clearOpen : notMH M_clearOpen := nmh
theorem pd_clearOpen : parseMethodDescriptor (mN M_clearOpen).desc = some ⟨[], none⟩ := by decide +kernel
def M_clearResults : Mi := ((⟨"LoopUnroller", "clearResults", "()V"⟩ : MethodName), prog_1_method_19_code, 2, none, 0, 0)
theorem pl_clearResults : plainFor (mN M_clearResults) = true := plainFor_of_name pcls
theorem nm_clearResults : notMH M_clearResults := nmh
theorem pd_clearResults : parseMethodDescriptor (mN M_clearResults).desc = some ⟨[], none⟩ := by decide +kernel
def M_reset : Mi := ((⟨"LoopUnroller", "reset", "()V"⟩ : MethodName), prog_1_method_2_code, 2, none, 1, 13)
theorem pl_reset : plainFor (mN M_reset) = true := plainFor_of_name pcls
theorem nm_reset : notMH M_reset := nmh
theorem pd_reset : parseMethodDescriptor (mN M_reset).desc = some ⟨[], none⟩ := by decide +kernel
def M_ctor : Mi := ((⟨"LoopUnroller", "<init>", "()V"⟩ : MethodName), prog_1_method_1_code, 1, none, 2, 26)
theorem pl_ctor : plainFor (mN M_ctor) = true := plainFor_of_name pcls
theorem nm_ctor : notMH M_ctor := nmh
theorem pd_ctor : parseMethodDescriptor (mN M_ctor).desc = some ⟨[], none⟩ := by decide +kernel
def M_transform : Mi := ((⟨"LoopUnroller", "transform", "(I)Z"⟩ : MethodName), prog_1_method_10_code, 3, (some .boolean), 0, 0)
theorem pl_transform : plainFor (mN M_transform) = true := plainFor_of_name pcls
theorem nm_transform : notMH M_transform := nmh
theorem pd_transform : parseMethodDescriptor (mN M_transform).desc = some ⟨[.int], some .boolean⟩ := by decide +kernel
def M_usesA : Mi := ((⟨"LoopUnroller", "usesA", "(I)Z"⟩ : MethodName), prog_1_method_21_code, 2, (some .boolean), 0, 0)
theorem pl_usesA : plainFor (mN M_usesA) = true := plainFor_of_name pcls
theorem nm_usesA : notMH M_usesA := nmh
theorem pd_usesA : parseMethodDescriptor (mN M_usesA).desc = some ⟨[.int], some .boolean⟩ := by decide +kernel
def M_isVar : Mi := ((⟨"LoopUnroller", "isVar", "(I)Z"⟩ : MethodName), prog_1_method_20_code, 2, (some .boolean), 0, 0)
theorem pl_isVar : plainFor (mN M_isVar) = true := plainFor_of_name pcls
theorem nm_isVar : notMH M_isVar := nmh
theorem pd_isVar : parseMethodDescriptor (mN M_isVar).desc = some ⟨[.int], some .boolean⟩ := by decide +kernel
def M_usesB : Mi := ((⟨"LoopUnroller", "usesB", "(I)Z"⟩ : MethodName), prog_1_method_22_code, 2, (some .boolean), 0, 0)
theorem pl_usesB : plainFor (mN M_usesB) = true := plainFor_of_name pcls
theorem nm_usesB : notMH M_usesB := nmh
theorem pd_usesB : parseMethodDescriptor (mN M_usesB).desc = some ⟨[.int], some .boolean⟩ := by decide +kernel
def M_cIsVar : Mi := ((⟨"LoopUnroller", "cIsVar", "(I)Z"⟩ : MethodName), prog_1_method_24_code, 2, (some .boolean), 0, 0)
theorem pl_cIsVar : plainFor (mN M_cIsVar) = true := plainFor_of_name pcls
theorem nm_cIsVar : notMH M_cIsVar := nmh
theorem pd_cIsVar : parseMethodDescriptor (mN M_cIsVar).desc = some ⟨[.int], some .boolean⟩ := by decide +kernel
def M_operandsValid : Mi := ((⟨"LoopUnroller", "operandsValid", "(IIII)Z"⟩ : MethodName), prog_1_method_26_code, 5, (some .boolean), 1, 13)
theorem pl_operandsValid : plainFor (mN M_operandsValid) = true := plainFor_of_name pcls
theorem nm_operandsValid : notMH M_operandsValid := nmh
theorem pd_operandsValid : parseMethodDescriptor (mN M_operandsValid).desc = some ⟨[.int, .int, .int, .int], some .boolean⟩ := by decide +kernel
def M_structureAllows : Mi := ((⟨"LoopUnroller", "structureAllows", "(I)Z"⟩ : MethodName), prog_1_method_27_code, 3, (some .boolean), 0, 0)
theorem pl_structureAllows : plainFor (mN M_structureAllows) = true := plainFor_of_name pcls
theorem nm_structureAllows : notMH M_structureAllows := nmh
theorem pd_structureAllows : parseMethodDescriptor (mN M_structureAllows).desc = some ⟨[.int], some .boolean⟩ := by decide +kernel
def M_usesC : Mi := ((⟨"LoopUnroller", "usesC", "(I)Z"⟩ : MethodName), prog_1_method_23_code, 2, (some .boolean), 0, 0)
theorem pl_usesC : plainFor (mN M_usesC) = true := plainFor_of_name pcls
theorem nm_usesC : notMH M_usesC := nmh
theorem pd_usesC : parseMethodDescriptor (mN M_usesC).desc = some ⟨[.int], some .boolean⟩ := by decide +kernel
def M_updateOpen : Mi := ((⟨"LoopUnroller", "updateOpen", "(II)V"⟩ : MethodName), prog_1_method_28_code, 4, none, 0, 0)
theorem pl_updateOpen : plainFor (mN M_updateOpen) = true := plainFor_of_name pcls
theorem nm_updateOpen : notMH M_updateOpen := nmh
theorem pd_updateOpen : parseMethodDescriptor (mN M_updateOpen).desc = some ⟨[.int, .int], none⟩ := by decide +kernel
def M_emit : Mi := ((⟨"LoopUnroller", "emit", "(IIII)Z"⟩ : MethodName), prog_1_method_3_code, 6, (some .boolean), 2, 29)
theorem pl_emit : plainFor (mN M_emit) = true := plainFor_of_name pcls
theorem nm_emit : notMH M_emit := nmh
theorem pd_emit : parseMethodDescriptor (mN M_emit).desc = some ⟨[.int, .int, .int, .int], some .boolean⟩ := by decide +kernel
def M_size : Mi := ((⟨"LoopUnroller", "size", "()I"⟩ : MethodName), prog_1_method_4_code, 1, (some .int), 0, 0)
theorem pl_size : plainFor (mN M_size) = true := plainFor_of_name pcls
theorem nm_size : notMH M_size := nmh
theorem pd_size : parseMethodDescriptor (mN M_size).desc = some ⟨[], some .int⟩ := by decide +kernel
def M_instruction : Mi := ((⟨"LoopUnroller", "instruction", "(II)I"⟩ : MethodName), prog_1_method_5_code, 3, (some .int), 0, 0)
theorem pl_instruction : plainFor (mN M_instruction) = true := plainFor_of_name pcls
theorem nm_instruction : notMH M_instruction := nmh
theorem pd_instruction : parseMethodDescriptor (mN M_instruction).desc = some ⟨[.int, .int], some .int⟩ := by decide +kernel
def M_openDepth : Mi := ((⟨"LoopUnroller", "openDepth", "()I"⟩ : MethodName), prog_1_method_6_code, 1, (some .int), 0, 0)
theorem pl_openDepth : plainFor (mN M_openDepth) = true := plainFor_of_name pcls
theorem nm_openDepth : notMH M_openDepth := nmh
theorem pd_openDepth : parseMethodDescriptor (mN M_openDepth).desc = some ⟨[], some .int⟩ := by decide +kernel
def M_transformFactor : Mi := ((⟨"LoopUnroller", "transformFactor", "()I"⟩ : MethodName), prog_1_method_11_code, 1, (some .int), 0, 0)
theorem pl_transformFactor : plainFor (mN M_transformFactor) = true := plainFor_of_name pcls
theorem nm_transformFactor : notMH M_transformFactor := nmh
theorem pd_transformFactor : parseMethodDescriptor (mN M_transformFactor).desc = some ⟨[], some .int⟩ := by decide +kernel
def M_hv : Mi := ((⟨"LoopUnrollerL2", "v", "(I)Z"⟩ : MethodName), method_2_code, 1, (some .boolean), 0, 0)
theorem pl_hv : plainFor (mN M_hv) = true := plainFor_of_name pclsL
theorem nm_hv : notMH M_hv := nmhL
theorem pd_hv : parseMethodDescriptor (mN M_hv).desc = some ⟨[.int], some .boolean⟩ := by decide +kernel
def M_law : Mi := (x, code, maxLocals, ret, 3, 46)
theorem pl_law : plainFor (mN M_law) = true := plainFor_of_name (by first | (simp [plainName, overriddenIn, x]; done) | decide +kernel)
def c3 : List (Nat × Instr × Nat) := [(0, .iconst 0, 1), (1, .istore_n 1, 1), (2, .iload_n 1, 1), (3, .bipush 24, 2), (5, .if_icmp .ge 44, 3), (8, .aload_n 0, 1), (9, .getfield 7, 3), (12, .iload_n 1, 1), (13, .iconst 0, 1), (14, .iastore, 1), (15, .aload_n 0, 1), (16, .getfield 13, 3), (19, .iload_n 1, 1), (20, .iconst 0, 1), (21, .iastore, 1), (22, .aload_n 0, 1), (23, .getfield 16, 3), (26, .iload_n 1, 1), (27, .iconst 0, 1), (28, .iastore, 1), (29, .aload_n 0, 1), (30, .getfield 19, 3), (33, .iload_n 1, 1), (34, .iconst 0, 1), (35, .iastore, 1), (36, .aload_n 0, 1), (37, .getfield 22, 3), (40, .iload_n 1, 1), (41, .iconst (-1), 1), (42, .iastore, 1), (43, .iinc 1 1, 3), (46, .goto (-44), 3), (49, .aload_n 0, 1), (50, .iconst 0, 1), (51, .putfield 90, 3), (54, .return_, 1)]
theorem D3 : decs prog_1_method_17_code c3 = true := by decide +kernel
theorem d3 (k : Nat) {p : Nat} {i : Instr} {n : Nat} (h : c3[k]? = some (p, i, n)) : decode prog_1_method_17_code p = .ok (i, n) := dget D3 h
def c4 : List (Nat × Instr × Nat) := [(0, .iconst 0, 1), (1, .istore_n 1, 1), (2, .iload_n 1, 1), (3, .iconst 4, 1), (4, .if_icmp .ge 30, 3), (7, .aload_n 0, 1), (8, .getfield 25, 3), (11, .iload_n 1, 1), (12, .iconst 0, 1), (13, .iastore, 1), (14, .aload_n 0, 1), (15, .getfield 28, 3), (18, .iload_n 1, 1), (19, .iconst (-1), 1), (20, .iastore, 1), (21, .aload_n 0, 1), (22, .getfield 31, 3), (25, .iload_n 1, 1), (26, .iconst 0, 1), (27, .bastore, 1), (28, .iinc 1 1, 3), (31, .goto (-29), 3), (34, .aload_n 0, 1), (35, .iconst 0, 1), (36, .putfield 114, 3), (39, .aload_n 0, 1), (40, .iconst 0, 1), (41, .putfield 140, 3), (44, .return_, 1)]
theorem D4 : decs prog_1_method_18_code c4 = true := by decide +kernel
theorem d4 (k : Nat) {p : Nat} {i : Instr} {n : Nat} (h : c4[k]? = some (p, i, n)) : decode prog_1_method_18_code p = .ok (i, n) := dget D4 h
def c5 : List (Nat × Instr × Nat) := [(0, .aload_n 0, 1), (1, .iconst 0, 1), (2, .putfield 134, 3), (5, .aload_n 0, 1), (6, .iconst 0, 1), (7, .putfield 137, 3), (10, .iconst 0, 1), (11, .istore_n 1, 1), (12, .iload_n 1, 1), (13, .bipush 32, 2), (15, .if_icmp .ge 16, 3), (18, .aload_n 0, 1), (19, .getfield 38, 3), (22, .iload_n 1, 1), (23, .iconst 0, 1), (24, .iastore, 1), (25, .iinc 1 1, 3), (28, .goto (-16), 3), (31, .iconst 0, 1), (32, .istore_n 1, 1), (33, .iload_n 1, 1), (34, .bipush 8, 2), (36, .if_icmp .ge 16, 3), (39, .aload_n 0, 1), (40, .getfield 41, 3), (43, .iload_n 1, 1), (44, .iconst 0, 1), (45, .iastore, 1), (46, .iinc 1 1, 3), (49, .goto (-16), 3), (52, .return_, 1)]
theorem D5 : decs prog_1_method_19_code c5 = true := by decide +kernel
theorem d5 (k : Nat) {p : Nat} {i : Instr} {n : Nat} (h : c5[k]? = some (p, i, n)) : decode prog_1_method_19_code p = .ok (i, n) := dget D5 h
def c2 : List (Nat × Instr × Nat) := [(0, .aload_n 0, 1), (1, .invokevirtual 77, 3), (4, .aload_n 0, 1), (5, .invokevirtual 80, 3), (8, .iconst 0, 1), (9, .istore_n 1, 1), (10, .iload_n 1, 1), (11, .bipush 8, 2), (13, .if_icmp .ge 16, 3), (16, .aload_n 0, 1), (17, .getfield 35, 3), (20, .iload_n 1, 1), (21, .iconst 0, 1), (22, .iastore, 1), (23, .iinc 1 1, 3), (26, .goto (-16), 3), (29, .aload_n 0, 1), (30, .iconst 0, 1), (31, .putfield 83, 3), (34, .aload_n 0, 1), (35, .invokevirtual 87, 3), (38, .return_, 1)]
theorem D2 : decs prog_1_method_2_code c2 = true := by decide +kernel
theorem d2 (k : Nat) {p : Nat} {i : Instr} {n : Nat} (h : c2[k]? = some (p, i, n)) : decode prog_1_method_2_code p = .ok (i, n) := dget D2 h
def c0 : List (Nat × Instr × Nat) := [(0, .aload_n 0, 1), (1, .invokespecial 1, 3), (4, .aload_n 0, 1), (5, .bipush 24, 2), (7, .newarray .int, 2), (9, .putfield 7, 3), (12, .aload_n 0, 1), (13, .bipush 24, 2), (15, .newarray .int, 2), (17, .putfield 13, 3), (20, .aload_n 0, 1), (21, .bipush 24, 2), (23, .newarray .int, 2), (25, .putfield 16, 3), (28, .aload_n 0, 1), (29, .bipush 24, 2), (31, .newarray .int, 2), (33, .putfield 19, 3), (36, .aload_n 0, 1), (37, .bipush 24, 2), (39, .newarray .int, 2), (41, .putfield 22, 3), (44, .aload_n 0, 1), (45, .iconst 4, 1), (46, .newarray .int, 2), (48, .putfield 25, 3), (51, .aload_n 0, 1), (52, .iconst 4, 1), (53, .newarray .int, 2), (55, .putfield 28, 3), (58, .aload_n 0, 1), (59, .iconst 4, 1), (60, .newarray .boolean, 2), (62, .putfield 31, 3), (65, .aload_n 0, 1), (66, .bipush 8, 2), (68, .newarray .int, 2), (70, .putfield 35, 3), (73, .aload_n 0, 1), (74, .bipush 32, 2), (76, .newarray .int, 2), (78, .putfield 38, 3), (81, .aload_n 0, 1), (82, .bipush 8, 2), (84, .newarray .int, 2), (86, .putfield 41, 3), (89, .aload_n 0, 1), (90, .bipush 8, 2), (92, .newarray .int, 2), (94, .putfield 44, 3), (97, .aload_n 0, 1), (98, .iconst 2, 1), (99, .newarray .int, 2), (101, .putfield 47, 3), (104, .aload_n 0, 1), (105, .iconst 2, 1), (106, .newarray .int, 2), (108, .putfield 50, 3), (111, .aload_n 0, 1), (112, .iconst 2, 1), (113, .newarray .int, 2), (115, .putfield 53, 3), (118, .aload_n 0, 1), (119, .iconst 2, 1), (120, .newarray .int, 2), (122, .putfield 56, 3), (125, .aload_n 0, 1), (126, .iconst 2, 1), (127, .newarray .int, 2), (129, .putfield 59, 3), (132, .aload_n 0, 1), (133, .bipush 24, 2), (135, .newarray .boolean, 2), (137, .putfield 62, 3), (140, .aload_n 0, 1), (141, .bipush 24, 2), (143, .newarray .int, 2), (145, .putfield 65, 3), (148, .aload_n 0, 1), (149, .bipush 24, 2), (151, .newarray .boolean, 2), (153, .putfield 68, 3), (156, .aload_n 0, 1), (157, .bipush 24, 2), (159, .newarray .boolean, 2), (161, .putfield 71, 3), (164, .aload_n 0, 1), (165, .invokevirtual 74, 3), (168, .return_, 1)]
theorem D0 : decs prog_1_method_1_code c0 = true := by decide +kernel
theorem d0 (k : Nat) {p : Nat} {i : Instr} {n : Nat} (h : c0[k]? = some (p, i, n)) : decode prog_1_method_1_code p = .ok (i, n) := dget D0 h
def c6 : List (Nat × Instr × Nat) := [(0, .aload_n 0, 1), (1, .getfield 114, 3), (4, .ifCond .eq 5, 3), (7, .iconst 0, 1), (8, .ireturn, 1), (9, .iload_n 1, 1), (10, .istore_n 2, 1), (11, .iload_n 2, 1), (12, .iconst 1, 1), (13, .if_icmp .ge 5, 3), (16, .iconst 1, 1), (17, .istore_n 2, 1), (18, .iload_n 2, 1), (19, .bipush 8, 2), (21, .if_icmp .le 6, 3), (24, .bipush 8, 2), (26, .istore_n 2, 1), (27, .aload_n 0, 1), (28, .iload_n 2, 1), (29, .putfield 83, 3), (32, .iconst 1, 1), (33, .ireturn, 1)]
theorem D6 : decs prog_1_method_10_code c6 = true := by decide +kernel
theorem d6 (k : Nat) {p : Nat} {i : Instr} {n : Nat} (h : c6[k]? = some (p, i, n)) : decode prog_1_method_10_code p = .ok (i, n) := dget D6 h
def c13 : List (Nat × Instr × Nat) := [(0, .iload_n 1, 1), (1, .bipush 10, 2), (3, .if_icmp .le 9, 3), (6, .iload_n 1, 1), (7, .bipush 12, 2), (9, .if_icmp .ne 7, 3), (12, .iconst 1, 1), (13, .goto 4, 3), (16, .iconst 0, 1), (17, .ireturn, 1)]
theorem D13 : decs prog_1_method_21_code c13 = true := by decide +kernel
theorem d13 (k : Nat) {p : Nat} {i : Instr} {n : Nat} (h : c13[k]? = some (p, i, n)) : decode prog_1_method_21_code p = .ok (i, n) := dget D13 h
def c14 : List (Nat × Instr × Nat) := [(0, .iload_n 1, 1), (1, .ifCond .lt 13, 3), (4, .iload_n 1, 1), (5, .bipush 8, 2), (7, .if_icmp .ge 7, 3), (10, .iconst 1, 1), (11, .goto 4, 3), (14, .iconst 0, 1), (15, .ireturn, 1)]
theorem D14 : decs prog_1_method_20_code c14 = true := by decide +kernel
theorem d14 (k : Nat) {p : Nat} {i : Instr} {n : Nat} (h : c14[k]? = some (p, i, n)) : decode prog_1_method_20_code p = .ok (i, n) := dget D14 h
def c15 : List (Nat × Instr × Nat) := [(0, .iload_n 1, 1), (1, .iconst 2, 1), (2, .if_icmp .lt 9, 3), (5, .iload_n 1, 1), (6, .bipush 8, 2), (8, .if_icmp .le 9, 3), (11, .iload_n 1, 1), (12, .bipush 10, 2), (14, .if_icmp .ne 7, 3), (17, .iconst 1, 1), (18, .goto 4, 3), (21, .iconst 0, 1), (22, .ireturn, 1)]
theorem D15 : decs prog_1_method_22_code c15 = true := by decide +kernel
theorem d15 (k : Nat) {p : Nat} {i : Instr} {n : Nat} (h : c15[k]? = some (p, i, n)) : decode prog_1_method_22_code p = .ok (i, n) := dget D15 h
def c16 : List (Nat × Instr × Nat) := [(0, .iload_n 1, 1), (1, .iconst 2, 1), (2, .if_icmp .lt 13, 3), (5, .iload_n 1, 1), (6, .bipush 7, 2), (8, .if_icmp .gt 7, 3), (11, .iconst 1, 1), (12, .goto 4, 3), (15, .iconst 0, 1), (16, .ireturn, 1)]
theorem D16 : decs prog_1_method_24_code c16 = true := by decide +kernel
theorem d16 (k : Nat) {p : Nat} {i : Instr} {n : Nat} (h : c16[k]? = some (p, i, n)) : decode prog_1_method_24_code p = .ok (i, n) := dget D16 h
def c12 : List (Nat × Instr × Nat) := [(0, .aload_n 0, 1), (1, .iload_n 1, 1), (2, .invokevirtual 101, 3), (5, .ifCond .eq 13, 3), (8, .aload_n 0, 1), (9, .iload_n 2, 1), (10, .invokevirtual 117, 3), (13, .ifCond .ne 5, 3), (16, .iconst 0, 1), (17, .ireturn, 1), (18, .aload_n 0, 1), (19, .iload_n 1, 1), (20, .invokevirtual 104, 3), (23, .ifCond .eq 13, 3), (26, .aload_n 0, 1), (27, .iload_n 3, 1), (28, .invokevirtual 117, 3), (31, .ifCond .ne 5, 3), (34, .iconst 0, 1), (35, .ireturn, 1), (36, .aload_n 0, 1), (37, .iload_n 1, 1), (38, .invokevirtual 143, 3), (41, .ifCond .eq 14, 3), (44, .aload_n 0, 1), (45, .iload 4, 2), (47, .invokevirtual 117, 3), (50, .ifCond .ne 5, 3), (53, .iconst 0, 1), (54, .ireturn, 1), (55, .iload_n 1, 1), (56, .bipush 10, 2), (58, .if_icmp .ne 24, 3), (61, .iload 4, 2), (63, .bipush (-128), 2), (65, .if_icmp .lt 15, 3), (68, .iload 4, 2), (70, .bipush 127, 2), (72, .if_icmp .gt 8, 3), (75, .iload 4, 2), (77, .ifCond .ne 5, 3), (80, .iconst 0, 1), (81, .ireturn, 1), (82, .iconst 1, 1), (83, .ireturn, 1)]
theorem D12 : decs prog_1_method_26_code c12 = true := by decide +kernel
theorem d12 (k : Nat) {p : Nat} {i : Instr} {n : Nat} (h : c12[k]? = some (p, i, n)) : decode prog_1_method_26_code p = .ok (i, n) := dget D12 h
def c17 : List (Nat × Instr × Nat) := [(0, .aload_n 0, 1), (1, .getfield 114, 3), (4, .iconst 1, 1), (5, .isub, 1), (6, .istore_n 2, 1), (7, .iload_n 1, 1), (8, .bipush 10, 2), (10, .if_icmp .ne 25, 3), (13, .aload_n 0, 1), (14, .getfield 114, 3), (17, .iconst 4, 1), (18, .if_icmp .ge 15, 3), (21, .aload_n 0, 1), (22, .getfield 140, 3), (25, .iconst 2, 1), (26, .if_icmp .ge 7, 3), (29, .iconst 1, 1), (30, .goto 4, 3), (33, .iconst 0, 1), (34, .ireturn, 1), (35, .iload_n 1, 1), (36, .bipush 12, 2), (38, .if_icmp .ne 17, 3), (41, .aload_n 0, 1), (42, .getfield 114, 3), (45, .iconst 4, 1), (46, .if_icmp .ge 7, 3), (49, .iconst 1, 1), (50, .goto 4, 3), (53, .iconst 0, 1), (54, .ireturn, 1), (55, .iload_n 1, 1), (56, .bipush 13, 2), (58, .if_icmp .ne 31, 3), (61, .iload_n 2, 1), (62, .ifCond .lt 25, 3), (65, .aload_n 0, 1), (66, .getfield 31, 3), (69, .iload_n 2, 1), (70, .baload, 1), (71, .ifCond .ne 16, 3), (74, .aload_n 0, 1), (75, .getfield 28, 3), (78, .iload_n 2, 1), (79, .iaload, 1), (80, .ifCond .ge 7, 3), (83, .iconst 1, 1), (84, .goto 4, 3), (87, .iconst 0, 1), (88, .ireturn, 1), (89, .iload_n 1, 1), (90, .bipush 11, 2), (92, .if_icmp .ne 22, 3), (95, .iload_n 2, 1), (96, .ifCond .lt 16, 3), (99, .aload_n 0, 1), (100, .getfield 31, 3), (103, .iload_n 2, 1), (104, .baload, 1), (105, .ifCond .eq 7, 3), (108, .iconst 1, 1), (109, .goto 4, 3), (112, .iconst 0, 1), (113, .ireturn, 1), (114, .iload_n 1, 1), (115, .bipush 14, 2), (117, .if_icmp .ne 22, 3), (120, .iload_n 2, 1), (121, .ifCond .lt 16, 3), (124, .aload_n 0, 1), (125, .getfield 31, 3), (128, .iload_n 2, 1), (129, .baload, 1), (130, .ifCond .ne 7, 3), (133, .iconst 1, 1), (134, .goto 4, 3), (137, .iconst 0, 1), (138, .ireturn, 1), (139, .iconst 1, 1), (140, .ireturn, 1)]
theorem D17 : decs prog_1_method_27_code c17 = true := by decide +kernel
theorem d17 (k : Nat) {p : Nat} {i : Instr} {n : Nat} (h : c17[k]? = some (p, i, n)) : decode prog_1_method_27_code p = .ok (i, n) := dget D17 h
def c18 : List (Nat × Instr × Nat) := [(0, .iload_n 1, 1), (1, .bipush 8, 2), (3, .if_icmp .le 9, 3), (6, .iload_n 1, 1), (7, .bipush 10, 2), (9, .if_icmp .ne 7, 3), (12, .iconst 1, 1), (13, .goto 4, 3), (16, .iconst 0, 1), (17, .ireturn, 1)]
theorem D18 : decs prog_1_method_23_code c18 = true := by decide +kernel
theorem d18 (k : Nat) {p : Nat} {i : Instr} {n : Nat} (h : c18[k]? = some (p, i, n)) : decode prog_1_method_23_code p = .ok (i, n) := dget D18 h
def c19 : List (Nat × Instr × Nat) := [(0, .aload_n 0, 1), (1, .getfield 114, 3), (4, .iconst 1, 1), (5, .isub, 1), (6, .istore_n 3, 1), (7, .iload_n 1, 1), (8, .bipush 10, 2), (10, .if_icmp .eq 9, 3), (13, .iload_n 1, 1), (14, .bipush 12, 2), (16, .if_icmp .ne 78, 3), (19, .aload_n 0, 1), (20, .getfield 114, 3), (23, .iconst 4, 1), (24, .if_icmp .ge 69, 3), (27, .aload_n 0, 1), (28, .getfield 25, 3), (31, .aload_n 0, 1), (32, .getfield 114, 3), (35, .iload_n 2, 1), (36, .iastore, 1), (37, .aload_n 0, 1), (38, .getfield 28, 3), (41, .aload_n 0, 1), (42, .getfield 114, 3), (45, .iconst (-1), 1), (46, .iastore, 1), (47, .aload_n 0, 1), (48, .getfield 31, 3), (51, .aload_n 0, 1), (52, .getfield 114, 3), (55, .iload_n 1, 1), (56, .bipush 10, 2), (58, .if_icmp .ne 7, 3), (61, .iconst 1, 1), (62, .goto 4, 3), (65, .iconst 0, 1), (66, .bastore, 1), (67, .aload_n 0, 1), (68, .dup, 1), (69, .getfield 114, 3), (72, .iconst 1, 1), (73, .iadd, 1), (74, .putfield 114, 3), (77, .iload_n 1, 1), (78, .bipush 10, 2), (80, .if_icmp .ne 13, 3), (83, .aload_n 0, 1), (84, .dup, 1), (85, .getfield 140, 3), (88, .iconst 1, 1), (89, .iadd, 1), (90, .putfield 140, 3), (93, .return_, 1), (94, .iload_n 3, 1), (95, .ifCond .ge 4, 3), (98, .return_, 1), (99, .iload_n 1, 1), (100, .bipush 13, 2), (102, .if_icmp .ne 25, 3), (105, .aload_n 0, 1), (106, .getfield 28, 3), (109, .iload_n 3, 1), (110, .iload_n 2, 1), (111, .iastore, 1), (112, .aload_n 0, 1), (113, .getfield 22, 3), (116, .aload_n 0, 1), (117, .getfield 25, 3), (120, .iload_n 3, 1), (121, .iaload, 1), (122, .iload_n 2, 1), (123, .iastore, 1), (124, .goto 63, 3), (127, .iload_n 1, 1), (128, .bipush 11, 2), (130, .if_icmp .ne 45, 3), (133, .aload_n 0, 1), (134, .getfield 22, 3), (137, .aload_n 0, 1), (138, .getfield 25, 3), (141, .iload_n 3, 1), (142, .iaload, 1), (143, .iload_n 2, 1), (144, .iastore, 1), (145, .aload_n 0, 1), (146, .getfield 22, 3), (149, .iload_n 2, 1), (150, .aload_n 0, 1), (151, .getfield 25, 3), (154, .iload_n 3, 1), (155, .iaload, 1), (156, .iastore, 1), (157, .aload_n 0, 1), (158, .iload_n 3, 1), (159, .putfield 114, 3), (162, .aload_n 0, 1), (163, .dup, 1), (164, .getfield 140, 3), (167, .iconst 1, 1), (168, .isub, 1), (169, .putfield 140, 3), (172, .goto 15, 3), (175, .iload_n 1, 1), (176, .bipush 14, 2), (178, .if_icmp .ne 9, 3), (181, .aload_n 0, 1), (182, .iload_n 3, 1), (183, .iload_n 2, 1), (184, .invokevirtual 146, 3), (187, .return_, 1)]
theorem D19 : decs prog_1_method_28_code c19 = true := by decide +kernel
theorem d19 (k : Nat) {p : Nat} {i : Instr} {n : Nat} (h : c19[k]? = some (p, i, n)) : decode prog_1_method_28_code p = .ok (i, n) := dget D19 h
def c7 : List (Nat × Instr × Nat) := [(0, .aload_n 0, 1), (1, .getfield 90, 3), (4, .bipush 24, 2), (6, .if_icmp .lt 5, 3), (9, .iconst 0, 1), (10, .ireturn, 1), (11, .iload_n 1, 1), (12, .iconst 1, 1), (13, .if_icmp .lt 9, 3), (16, .iload_n 1, 1), (17, .bipush 14, 2), (19, .if_icmp .le 5, 3), (22, .iconst 0, 1), (23, .ireturn, 1), (24, .aload_n 0, 1), (25, .iload_n 1, 1), (26, .iload_n 2, 1), (27, .iload_n 3, 1), (28, .iload 4, 2), (30, .invokevirtual 93, 3), (33, .ifCond .ne 5, 3), (36, .iconst 0, 1), (37, .ireturn, 1), (38, .aload_n 0, 1), (39, .iload_n 1, 1), (40, .invokevirtual 97, 3), (43, .ifCond .ne 5, 3), (46, .iconst 0, 1), (47, .ireturn, 1), (48, .aload_n 0, 1), (49, .getfield 90, 3), (52, .istore 5, 2), (54, .aload_n 0, 1), (55, .getfield 7, 3), (58, .iload 5, 2), (60, .iload_n 1, 1), (61, .iastore, 1), (62, .aload_n 0, 1), (63, .getfield 13, 3), (66, .iload 5, 2), (68, .aload_n 0, 1), (69, .iload_n 1, 1), (70, .invokevirtual 101, 3), (73, .ifCond .eq 7, 3), (76, .iload_n 2, 1), (77, .goto 4, 3), (80, .iconst 0, 1), (81, .iastore, 1), (82, .aload_n 0, 1), (83, .getfield 16, 3), (86, .iload 5, 2), (88, .aload_n 0, 1), (89, .iload_n 1, 1), (90, .invokevirtual 104, 3), (93, .ifCond .eq 7, 3), (96, .iload_n 3, 1), (97, .goto 4, 3), (100, .iconst 0, 1), (101, .iastore, 1), (102, .aload_n 0, 1), (103, .getfield 19, 3), (106, .iload 5, 2), (108, .aload_n 0, 1), (109, .iload_n 1, 1), (110, .invokevirtual 107, 3), (113, .ifCond .eq 8, 3), (116, .iload 4, 2), (118, .goto 4, 3), (121, .iconst 0, 1), (122, .iastore, 1), (123, .aload_n 0, 1), (124, .getfield 22, 3), (127, .iload 5, 2), (129, .iconst (-1), 1), (130, .iastore, 1), (131, .aload_n 0, 1), (132, .iload 5, 2), (134, .iconst 1, 1), (135, .iadd, 1), (136, .putfield 90, 3), (139, .aload_n 0, 1), (140, .iload_n 1, 1), (141, .iload 5, 2), (143, .invokevirtual 110, 3), (146, .aload_n 0, 1), (147, .iconst 0, 1), (148, .putfield 83, 3), (151, .iconst 1, 1), (152, .ireturn, 1)]
theorem D7 : decs prog_1_method_3_code c7 = true := by decide +kernel
theorem d7 (k : Nat) {p : Nat} {i : Instr} {n : Nat} (h : c7[k]? = some (p, i, n)) : decode prog_1_method_3_code p = .ok (i, n) := dget D7 h
def c8 : List (Nat × Instr × Nat) := [(0, .aload_n 0, 1), (1, .getfield 90, 3), (4, .ireturn, 1)]
theorem D8 : decs prog_1_method_4_code c8 = true := by decide +kernel
theorem d8 (k : Nat) {p : Nat} {i : Instr} {n : Nat} (h : c8[k]? = some (p, i, n)) : decode prog_1_method_4_code p = .ok (i, n) := dget D8 h
def c9 : List (Nat × Instr × Nat) := [(0, .iload_n 1, 1), (1, .ifCond .lt 11, 3), (4, .iload_n 1, 1), (5, .aload_n 0, 1), (6, .getfield 90, 3), (9, .if_icmp .lt 5, 3), (12, .iconst 0, 1), (13, .ireturn, 1), (14, .iload_n 2, 1), (15, .ifCond .ne 10, 3), (18, .aload_n 0, 1), (19, .getfield 7, 3), (22, .iload_n 1, 1), (23, .iaload, 1), (24, .ireturn, 1), (25, .iload_n 2, 1), (26, .iconst 1, 1), (27, .if_icmp .ne 10, 3), (30, .aload_n 0, 1), (31, .getfield 13, 3), (34, .iload_n 1, 1), (35, .iaload, 1), (36, .ireturn, 1), (37, .iload_n 2, 1), (38, .iconst 2, 1), (39, .if_icmp .ne 10, 3), (42, .aload_n 0, 1), (43, .getfield 16, 3), (46, .iload_n 1, 1), (47, .iaload, 1), (48, .ireturn, 1), (49, .iload_n 2, 1), (50, .iconst 3, 1), (51, .if_icmp .ne 10, 3), (54, .aload_n 0, 1), (55, .getfield 19, 3), (58, .iload_n 1, 1), (59, .iaload, 1), (60, .ireturn, 1), (61, .iconst 0, 1), (62, .ireturn, 1)]
theorem D9 : decs prog_1_method_5_code c9 = true := by decide +kernel
theorem d9 (k : Nat) {p : Nat} {i : Instr} {n : Nat} (h : c9[k]? = some (p, i, n)) : decode prog_1_method_5_code p = .ok (i, n) := dget D9 h
def c10 : List (Nat × Instr × Nat) := [(0, .aload_n 0, 1), (1, .getfield 114, 3), (4, .ireturn, 1)]
theorem D10 : decs prog_1_method_6_code c10 = true := by decide +kernel
theorem d10 (k : Nat) {p : Nat} {i : Instr} {n : Nat} (h : c10[k]? = some (p, i, n)) : decode prog_1_method_6_code p = .ok (i, n) := dget D10 h
def c11 : List (Nat × Instr × Nat) := [(0, .aload_n 0, 1), (1, .getfield 83, 3), (4, .ireturn, 1)]
theorem D11 : decs prog_1_method_11_code c11 = true := by decide +kernel
theorem d11 (k : Nat) {p : Nat} {i : Instr} {n : Nat} (h : c11[k]? = some (p, i, n)) : decode prog_1_method_11_code p = .ok (i, n) := dget D11 h
def c20 : List (Nat × Instr × Nat) := [(0, .iload_n 0, 1), (1, .ifCond .lt 13, 3), (4, .iload_n 0, 1), (5, .bipush 7, 2), (7, .if_icmp .gt 7, 3), (10, .iconst 1, 1), (11, .goto 4, 3), (14, .iconst 0, 1), (15, .ireturn, 1)]
theorem D20 : decs method_2_code c20 = true := by decide +kernel
theorem d20 (k : Nat) {p : Nat} {i : Instr} {n : Nat} (h : c20[k]? = some (p, i, n)) : decode method_2_code p = .ok (i, n) := dget D20 h
def H0 : MHeap := []
def KL (s : St) : MHeap := KH flds al Ln H0 [] s
def f_clearProgram_2 (n : Nat) : Nat → Int32 → St → Option (St)
  | 0 => fun _ _ => none
  | k + 1 => fun x1 s =>
    if x1 < (24 : Int32) then
      grd (inb x1 24) <|
      bnd (setA s 0 (ix x1) (0 : Int32)) fun s3 =>
      bnd (setA s3 1 (ix x1) (0 : Int32)) fun s4 =>
      bnd (setA s4 2 (ix x1) (0 : Int32)) fun s5 =>
      bnd (setA s5 3 (ix x1) (0 : Int32)) fun s6 =>
      bnd (setA s6 4 (ix x1) (-1 : Int32)) fun s7 =>
      f_clearProgram_2 n k (x1 + (1 : Int32)) s7
    else
      bnd (setI s 21 (0 : Int32)) fun s8 =>
      some s8
set_option maxRecDepth 100000 in
theorem e_clearProgram_2 {g : GT} {n : Nat} (hw : HW g) {K : St → MHeap} {o : Nat} {r : Nat → Nat} (V : View (GG g) Ln K o r) (k : Nat) : ∀ (x1 : Int32) (s : St) (w : St), f_clearProgram_2 n k x1 s = some w → Ev (GG g) M_clearProgram 2 [.val (.ref o), .val (.int x1)] [] (K s) (none, (K w)) := by
  induction k with
  | zero => intro x1 s w hr; rw [f_clearProgram_2] at hr; cases hr
  | succ k ih =>
    intro x1 s w hr
    rw [f_clearProgram_2] at hr
    refine Ev.iloadN (d3 2 rfl) rfl ?_
    refine Ev.bipush (z := 24) (d3 3 rfl) rfl ?_
    refine Ev.icge (t := 49) (d3 4 rfl) rfl (fun c1 => ?_) (fun c1 => ?_)
    · replace hr := (if_pos c1).symm.trans hr
      refine Ev.aloadN (d3 5 rfl) rfl ?_
      refine Ev.gAr V (ww hw 10 rfl) (d3 6 rfl) (j := 0) rfl ?_
      refine Ev.iloadN (d3 7 rfl) rfl ?_
      refine Ev.iconst (z := 0) (d3 8 rfl) rfl ?_
      obtain ⟨b2, hr⟩ := grd_some hr
      refine Ev.ias V (j := 0) rfl rfl (d3 9 rfl) b2 ?_
      revert hr
      generalize setA s 0 (ix x1) (0 : Int32) = s3
      intro hr
      replace hr := (bnd_eq _ _).symm.trans hr
      refine Ev.aloadN (d3 10 rfl) rfl ?_
      refine Ev.gAr V (ww hw 12 rfl) (d3 11 rfl) (j := 1) rfl ?_
      refine Ev.iloadN (d3 12 rfl) rfl ?_
      refine Ev.iconst (z := 0) (d3 13 rfl) rfl ?_
      refine Ev.ias V (j := 1) rfl rfl (d3 14 rfl) b2 ?_
      revert hr
      generalize setA s3 1 (ix x1) (0 : Int32) = s4
      intro hr
      replace hr := (bnd_eq _ _).symm.trans hr
      refine Ev.aloadN (d3 15 rfl) rfl ?_
      refine Ev.gAr V (ww hw 14 rfl) (d3 16 rfl) (j := 2) rfl ?_
      refine Ev.iloadN (d3 17 rfl) rfl ?_
      refine Ev.iconst (z := 0) (d3 18 rfl) rfl ?_
      refine Ev.ias V (j := 2) rfl rfl (d3 19 rfl) b2 ?_
      revert hr
      generalize setA s4 2 (ix x1) (0 : Int32) = s5
      intro hr
      replace hr := (bnd_eq _ _).symm.trans hr
      refine Ev.aloadN (d3 20 rfl) rfl ?_
      refine Ev.gAr V (ww hw 16 rfl) (d3 21 rfl) (j := 3) rfl ?_
      refine Ev.iloadN (d3 22 rfl) rfl ?_
      refine Ev.iconst (z := 0) (d3 23 rfl) rfl ?_
      refine Ev.ias V (j := 3) rfl rfl (d3 24 rfl) b2 ?_
      revert hr
      generalize setA s5 3 (ix x1) (0 : Int32) = s6
      intro hr
      replace hr := (bnd_eq _ _).symm.trans hr
      refine Ev.aloadN (d3 25 rfl) rfl ?_
      refine Ev.gAr V (ww hw 18 rfl) (d3 26 rfl) (j := 4) rfl ?_
      refine Ev.iloadN (d3 27 rfl) rfl ?_
      refine Ev.iconst (z := -1) (d3 28 rfl) rfl ?_
      refine Ev.ias V (j := 4) rfl rfl (d3 29 rfl) b2 ?_
      revert hr
      generalize setA s6 4 (ix x1) (-1 : Int32) = s7
      intro hr
      replace hr := (bnd_eq _ _).symm.trans hr
      refine Ev.iinc (z := 1) (L' := [.val (.ref o), .val (.int (x1 + (1 : Int32)))]) (d3 30 rfl) rfl rfl rfl ?_
      refine Ev.goto (t := 2) (d3 31 rfl) rfl ?_
      exact ih (x1 + (1 : Int32)) s7  _ hr
    · replace hr := (if_neg c1).symm.trans hr
      refine Ev.aloadN (d3 32 rfl) rfl ?_
      refine Ev.iconst (z := 0) (d3 33 rfl) rfl ?_
      refine Ev.pI V (gok hw) (ww hw 62 rfl) (Or.inl (ww hw 63 rfl)) (d3 34 rfl) (j := 21) rfl ?_
      revert hr
      generalize setI s 21 (0 : Int32) = s8
      intro hr
      replace hr := (bnd_eq _ _).symm.trans hr
      cases hr
      exact Ev.vreturn rfl (d3 35 rfl)
def f_clearProgram (n : Nat) (s : St) : Option (St) :=
  f_clearProgram_2 n n (0 : Int32) s
set_option maxRecDepth 100000 in
theorem e_clearProgram {g : GT} {n : Nat} {s : St} {w : St} (hw : HW g) {K : St → MHeap} {o : Nat} {r : Nat → Nat} (V : View (GG g) Ln K o r) (hr : f_clearProgram n s = some w) : EvC (GG g) M_clearProgram [.ref o] (K s) (none, (K w)) := by
  refine EvC.enter (L0 := [.val (.ref o), .unset]) pl_clearProgram (fun _ => rfl) rfl rfl ?_
  unfold f_clearProgram at hr
  refine Ev.iconst (z := 0) (d3 0 rfl) rfl ?_
  refine Ev.istDN (L' := [.val (.ref o), .val (.int (0 : Int32))]) (d3 1 rfl) rfl rfl rfl ?_
  exact e_clearProgram_2 hw V  n (0 : Int32) s  _ hr
def f_clearOpen_2 (n : Nat) : Nat → Int32 → St → Option (St)
  | 0 => fun _ _ => none
  | k + 1 => fun x1 s =>
    if x1 < (4 : Int32) then
      grd (inb x1 4) <|
      bnd (setA s 5 (ix x1) (0 : Int32)) fun s3 =>
      bnd (setA s3 6 (ix x1) (-1 : Int32)) fun s4 =>
      bnd (setA s4 7 (ix x1) ((0 : Int32) &&& 1)) fun s5 =>
      f_clearOpen_2 n k (x1 + (1 : Int32)) s5
    else
      bnd (setI s 22 (0 : Int32)) fun s6 =>
      bnd (setI s6 23 (0 : Int32)) fun s7 =>
      some s7
set_option maxRecDepth 100000 in
theorem e_clearOpen_2 {g : GT} {n : Nat} (hw : HW g) {K : St → MHeap} {o : Nat} {r : Nat → Nat} (V : View (GG g) Ln K o r) (k : Nat) : ∀ (x1 : Int32) (s : St) (w : St), f_clearOpen_2 n k x1 s = some w → Ev (GG g) M_clearOpen 2 [.val (.ref o), .val (.int x1)] [] (K s) (none, (K w)) := by
  induction k with
  | zero => intro x1 s w hr; rw [f_clearOpen_2] at hr; cases hr
  | succ k ih =>
    intro x1 s w hr
    rw [f_clearOpen_2] at hr
    refine Ev.iloadN (d4 2 rfl) rfl ?_
    refine Ev.iconst (z := 4) (d4 3 rfl) rfl ?_
    refine Ev.icge (t := 34) (d4 4 rfl) rfl (fun c1 => ?_) (fun c1 => ?_)
    · replace hr := (if_pos c1).symm.trans hr
      refine Ev.aloadN (d4 5 rfl) rfl ?_
      refine Ev.gAr V (ww hw 20 rfl) (d4 6 rfl) (j := 5) rfl ?_
      refine Ev.iloadN (d4 7 rfl) rfl ?_
      refine Ev.iconst (z := 0) (d4 8 rfl) rfl ?_
      obtain ⟨b2, hr⟩ := grd_some hr
      refine Ev.ias V (j := 5) rfl rfl (d4 9 rfl) b2 ?_
      revert hr
      generalize setA s 5 (ix x1) (0 : Int32) = s3
      intro hr
      replace hr := (bnd_eq _ _).symm.trans hr
      refine Ev.aloadN (d4 10 rfl) rfl ?_
      refine Ev.gAr V (ww hw 22 rfl) (d4 11 rfl) (j := 6) rfl ?_
      refine Ev.iloadN (d4 12 rfl) rfl ?_
      refine Ev.iconst (z := -1) (d4 13 rfl) rfl ?_
      refine Ev.ias V (j := 6) rfl rfl (d4 14 rfl) b2 ?_
      revert hr
      generalize setA s3 6 (ix x1) (-1 : Int32) = s4
      intro hr
      replace hr := (bnd_eq _ _).symm.trans hr
      refine Ev.aloadN (d4 15 rfl) rfl ?_
      refine Ev.gAr V (ww hw 25 rfl) (d4 16 rfl) (j := 7) rfl ?_
      refine Ev.iloadN (d4 17 rfl) rfl ?_
      refine Ev.iconst (z := 0) (d4 18 rfl) rfl ?_
      refine Ev.bas V (j := 7) rfl rfl (d4 19 rfl) b2 ?_
      revert hr
      generalize setA s4 7 (ix x1) ((0 : Int32) &&& 1) = s5
      intro hr
      replace hr := (bnd_eq _ _).symm.trans hr
      refine Ev.iinc (z := 1) (L' := [.val (.ref o), .val (.int (x1 + (1 : Int32)))]) (d4 20 rfl) rfl rfl rfl ?_
      refine Ev.goto (t := 2) (d4 21 rfl) rfl ?_
      exact ih (x1 + (1 : Int32)) s5  _ hr
    · replace hr := (if_neg c1).symm.trans hr
      refine Ev.aloadN (d4 22 rfl) rfl ?_
      refine Ev.iconst (z := 0) (d4 23 rfl) rfl ?_
      refine Ev.pI V (gok hw) (ww hw 68 rfl) (Or.inl (ww hw 69 rfl)) (d4 24 rfl) (j := 22) rfl ?_
      revert hr
      generalize setI s 22 (0 : Int32) = s6
      intro hr
      replace hr := (bnd_eq _ _).symm.trans hr
      refine Ev.aloadN (d4 25 rfl) rfl ?_
      refine Ev.iconst (z := 0) (d4 26 rfl) rfl ?_
      refine Ev.pI V (gok hw) (ww hw 70 rfl) (Or.inl (ww hw 71 rfl)) (d4 27 rfl) (j := 23) rfl ?_
      revert hr
      generalize setI s6 23 (0 : Int32) = s7
      intro hr
      replace hr := (bnd_eq _ _).symm.trans hr
      cases hr
      exact Ev.vreturn rfl (d4 28 rfl)
def f_clearOpen (n : Nat) (s : St) : Option (St) :=
  f_clearOpen_2 n n (0 : Int32) s
set_option maxRecDepth 100000 in
theorem e_clearOpen {g : GT} {n : Nat} {s : St} {w : St} (hw : HW g) {K : St → MHeap} {o : Nat} {r : Nat → Nat} (V : View (GG g) Ln K o r) (hr : f_clearOpen n s = some w) : EvC (GG g) M_clearOpen [.ref o] (K s) (none, (K w)) := by
  refine EvC.enter (L0 := [.val (.ref o), .unset]) pl_clearOpen (fun _ => rfl) rfl rfl ?_
  unfold f_clearOpen at hr
  refine Ev.iconst (z := 0) (d4 0 rfl) rfl ?_
  refine Ev.istDN (L' := [.val (.ref o), .val (.int (0 : Int32))]) (d4 1 rfl) rfl rfl rfl ?_
  exact e_clearOpen_2 hw V  n (0 : Int32) s  _ hr
def f_clearResults_33 (n : Nat) : Nat → Int32 → St → Option (St)
  | 0 => fun _ _ => none
  | k + 1 => fun x1 s =>
    if x1 < (8 : Int32) then
      grd (inb x1 8) <|
      bnd (setA s 10 (ix x1) (0 : Int32)) fun s3 =>
      f_clearResults_33 n k (x1 + (1 : Int32)) s3
    else
      some s
set_option maxRecDepth 100000 in
theorem e_clearResults_33 {g : GT} {n : Nat} (hw : HW g) {K : St → MHeap} {o : Nat} {r : Nat → Nat} (V : View (GG g) Ln K o r) (k : Nat) : ∀ (x1 : Int32) (s : St) (w : St), f_clearResults_33 n k x1 s = some w → Ev (GG g) M_clearResults 33 [.val (.ref o), .val (.int x1)] [] (K s) (none, (K w)) := by
  induction k with
  | zero => intro x1 s w hr; rw [f_clearResults_33] at hr; cases hr
  | succ k ih =>
    intro x1 s w hr
    rw [f_clearResults_33] at hr
    refine Ev.iloadN (d5 20 rfl) rfl ?_
    refine Ev.bipush (z := 8) (d5 21 rfl) rfl ?_
    refine Ev.icge (t := 52) (d5 22 rfl) rfl (fun c1 => ?_) (fun c1 => ?_)
    · replace hr := (if_pos c1).symm.trans hr
      refine Ev.aloadN (d5 23 rfl) rfl ?_
      refine Ev.gAr V (ww hw 31 rfl) (d5 24 rfl) (j := 10) rfl ?_
      refine Ev.iloadN (d5 25 rfl) rfl ?_
      refine Ev.iconst (z := 0) (d5 26 rfl) rfl ?_
      obtain ⟨b2, hr⟩ := grd_some hr
      refine Ev.ias V (j := 10) rfl rfl (d5 27 rfl) b2 ?_
      revert hr
      generalize setA s 10 (ix x1) (0 : Int32) = s3
      intro hr
      replace hr := (bnd_eq _ _).symm.trans hr
      refine Ev.iinc (z := 1) (L' := [.val (.ref o), .val (.int (x1 + (1 : Int32)))]) (d5 28 rfl) rfl rfl rfl ?_
      refine Ev.goto (t := 33) (d5 29 rfl) rfl ?_
      exact ih (x1 + (1 : Int32)) s3  _ hr
    · replace hr := (if_neg c1).symm.trans hr
      cases hr
      exact Ev.vreturn rfl (d5 30 rfl)
def f_clearResults_12 (n : Nat) : Nat → Int32 → St → Option (St)
  | 0 => fun _ _ => none
  | k + 1 => fun x1 s =>
    if x1 < (32 : Int32) then
      grd (inb x1 32) <|
      bnd (setA s 9 (ix x1) (0 : Int32)) fun s3 =>
      f_clearResults_12 n k (x1 + (1 : Int32)) s3
    else
      f_clearResults_33 n n (0 : Int32) s
set_option maxRecDepth 100000 in
theorem e_clearResults_12 {g : GT} {n : Nat} (hw : HW g) {K : St → MHeap} {o : Nat} {r : Nat → Nat} (V : View (GG g) Ln K o r) (k : Nat) : ∀ (x1 : Int32) (s : St) (w : St), f_clearResults_12 n k x1 s = some w → Ev (GG g) M_clearResults 12 [.val (.ref o), .val (.int x1)] [] (K s) (none, (K w)) := by
  induction k with
  | zero => intro x1 s w hr; rw [f_clearResults_12] at hr; cases hr
  | succ k ih =>
    intro x1 s w hr
    rw [f_clearResults_12] at hr
    refine Ev.iloadN (d5 8 rfl) rfl ?_
    refine Ev.bipush (z := 32) (d5 9 rfl) rfl ?_
    refine Ev.icge (t := 31) (d5 10 rfl) rfl (fun c1 => ?_) (fun c1 => ?_)
    · replace hr := (if_pos c1).symm.trans hr
      refine Ev.aloadN (d5 11 rfl) rfl ?_
      refine Ev.gAr V (ww hw 29 rfl) (d5 12 rfl) (j := 9) rfl ?_
      refine Ev.iloadN (d5 13 rfl) rfl ?_
      refine Ev.iconst (z := 0) (d5 14 rfl) rfl ?_
      obtain ⟨b2, hr⟩ := grd_some hr
      refine Ev.ias V (j := 9) rfl rfl (d5 15 rfl) b2 ?_
      revert hr
      generalize setA s 9 (ix x1) (0 : Int32) = s3
      intro hr
      replace hr := (bnd_eq _ _).symm.trans hr
      refine Ev.iinc (z := 1) (L' := [.val (.ref o), .val (.int (x1 + (1 : Int32)))]) (d5 16 rfl) rfl rfl rfl ?_
      refine Ev.goto (t := 12) (d5 17 rfl) rfl ?_
      exact ih (x1 + (1 : Int32)) s3  _ hr
    · replace hr := (if_neg c1).symm.trans hr
      refine Ev.iconst (z := 0) (d5 18 rfl) rfl ?_
      refine Ev.istDN (L' := [.val (.ref o), .val (.int (0 : Int32))]) (d5 19 rfl) rfl rfl rfl ?_
      exact e_clearResults_33 hw V  n (0 : Int32) s  _ hr
def f_clearResults (n : Nat) (s : St) : Option (St) :=
  bnd (setI s 25 (0 : Int32)) fun s1 =>
  bnd (setI s1 26 (0 : Int32)) fun s2 =>
  f_clearResults_12 n n (0 : Int32) s2
set_option maxRecDepth 100000 in
theorem e_clearResults {g : GT} {n : Nat} {s : St} {w : St} (hw : HW g) {K : St → MHeap} {o : Nat} {r : Nat → Nat} (V : View (GG g) Ln K o r) (hr : f_clearResults n s = some w) : EvC (GG g) M_clearResults [.ref o] (K s) (none, (K w)) := by
  refine EvC.enter (L0 := [.val (.ref o), .unset]) pl_clearResults (fun _ => rfl) rfl rfl ?_
  unfold f_clearResults at hr
  refine Ev.aloadN (d5 0 rfl) rfl ?_
  refine Ev.iconst (z := 0) (d5 1 rfl) rfl ?_
  refine Ev.pI V (gok hw) (ww hw 78 rfl) (Or.inl (ww hw 79 rfl)) (d5 2 rfl) (j := 25) rfl ?_
  revert hr
  generalize setI s 25 (0 : Int32) = s1
  intro hr
  replace hr := (bnd_eq _ _).symm.trans hr
  refine Ev.aloadN (d5 3 rfl) rfl ?_
  refine Ev.iconst (z := 0) (d5 4 rfl) rfl ?_
  refine Ev.pI V (gok hw) (ww hw 80 rfl) (Or.inl (ww hw 81 rfl)) (d5 5 rfl) (j := 26) rfl ?_
  revert hr
  generalize setI s1 26 (0 : Int32) = s2
  intro hr
  replace hr := (bnd_eq _ _).symm.trans hr
  refine Ev.iconst (z := 0) (d5 6 rfl) rfl ?_
  refine Ev.istDN (L' := [.val (.ref o), .val (.int (0 : Int32))]) (d5 7 rfl) rfl rfl rfl ?_
  exact e_clearResults_12 hw V  n (0 : Int32) s2  _ hr
def f_reset_10 (n : Nat) : Nat → Int32 → St → Option (St)
  | 0 => fun _ _ => none
  | k + 1 => fun x1 s =>
    if x1 < (8 : Int32) then
      grd (inb x1 8) <|
      bnd (setA s 8 (ix x1) (0 : Int32)) fun s3 =>
      f_reset_10 n k (x1 + (1 : Int32)) s3
    else
      bnd (setI s 24 (0 : Int32)) fun s4 =>
      (f_clearResults n s4).bind fun q5 =>
      some q5
set_option maxRecDepth 100000 in
theorem e_reset_10 {g : GT} {n : Nat} (hw : HW g) {K : St → MHeap} {o : Nat} {r : Nat → Nat} (V : View (GG g) Ln K o r) (k : Nat) : ∀ (x1 : Int32) (s : St) (w : St), f_reset_10 n k x1 s = some w → Ev (GG g) M_reset 10 [.val (.ref o), .val (.int x1)] [] (K s) (none, (K w)) := by
  induction k with
  | zero => intro x1 s w hr; rw [f_reset_10] at hr; cases hr
  | succ k ih =>
    intro x1 s w hr
    rw [f_reset_10] at hr
    refine Ev.iloadN (d2 6 rfl) rfl ?_
    refine Ev.bipush (z := 8) (d2 7 rfl) rfl ?_
    refine Ev.icge (t := 29) (d2 8 rfl) rfl (fun c1 => ?_) (fun c1 => ?_)
    · replace hr := (if_pos c1).symm.trans hr
      refine Ev.aloadN (d2 9 rfl) rfl ?_
      refine Ev.gAr V (ww hw 27 rfl) (d2 10 rfl) (j := 8) rfl ?_
      refine Ev.iloadN (d2 11 rfl) rfl ?_
      refine Ev.iconst (z := 0) (d2 12 rfl) rfl ?_
      obtain ⟨b2, hr⟩ := grd_some hr
      refine Ev.ias V (j := 8) rfl rfl (d2 13 rfl) b2 ?_
      revert hr
      generalize setA s 8 (ix x1) (0 : Int32) = s3
      intro hr
      replace hr := (bnd_eq _ _).symm.trans hr
      refine Ev.iinc (z := 1) (L' := [.val (.ref o), .val (.int (x1 + (1 : Int32)))]) (d2 14 rfl) rfl rfl rfl ?_
      refine Ev.goto (t := 10) (d2 15 rfl) rfl ?_
      exact ih (x1 + (1 : Int32)) s3  _ hr
    · replace hr := (if_neg c1).symm.trans hr
      refine Ev.aloadN (d2 16 rfl) rfl ?_
      refine Ev.iconst (z := 0) (d2 17 rfl) rfl ?_
      refine Ev.pI V (gok hw) (ww hw 72 rfl) (Or.inl (ww hw 73 rfl)) (d2 18 rfl) (j := 24) rfl ?_
      revert hr
      generalize setI s 24 (0 : Int32) = s4
      intro hr
      replace hr := (bnd_eq _ _).symm.trans hr
      refine Ev.aloadN (d2 19 rfl) rfl ?_
      obtain ⟨q5, hq6, hr⟩ := Option.bind_eq_some_iff.mp hr
      refine Ev.priv (y := M_clearResults) (args := []) (rest := []) (gok hw) rfl nm_clearResults (ww hw 74 rfl) (ww hw 75 rfl) (ww hw 76 rfl) (ww hw 77 rfl) (lenOf pd_clearResults rfl) (d2 20 rfl) (V.2.1 s4) (e_clearResults hw V hq6) (by decide) (Nat.le_of_ble_eq_true rfl) rfl ?_
      cases hr
      exact Ev.vreturn rfl (d2 21 rfl)
def f_reset (n : Nat) (s : St) : Option (St) :=
  (f_clearProgram n s).bind fun q1 =>
  (f_clearOpen n q1).bind fun q3 =>
  f_reset_10 n n (0 : Int32) q3
set_option maxRecDepth 100000 in
theorem e_reset {g : GT} {n : Nat} {s : St} {w : St} (hw : HW g) {K : St → MHeap} {o : Nat} {r : Nat → Nat} (V : View (GG g) Ln K o r) (hr : f_reset n s = some w) : EvC (GG g) M_reset [.ref o] (K s) (none, (K w)) := by
  refine EvC.enter (L0 := [.val (.ref o), .unset]) pl_reset (fun _ => rfl) rfl rfl ?_
  unfold f_reset at hr
  refine Ev.aloadN (d2 0 rfl) rfl ?_
  obtain ⟨q1, hq2, hr⟩ := Option.bind_eq_some_iff.mp hr
  refine Ev.priv (y := M_clearProgram) (args := []) (rest := []) (gok hw) rfl nm_clearProgram (ww hw 58 rfl) (ww hw 59 rfl) (ww hw 60 rfl) (ww hw 61 rfl) (lenOf pd_clearProgram rfl) (d2 1 rfl) (V.2.1 s) (e_clearProgram hw V hq2) (by decide) (Nat.le_of_ble_eq_true rfl) rfl ?_
  refine Ev.aloadN (d2 2 rfl) rfl ?_
  obtain ⟨q3, hq4, hr⟩ := Option.bind_eq_some_iff.mp hr
  refine Ev.priv (y := M_clearOpen) (args := []) (rest := []) (gok hw) rfl nm_clearOpen (ww hw 64 rfl) (ww hw 65 rfl) (ww hw 66 rfl) (ww hw 67 rfl) (lenOf pd_clearOpen rfl) (d2 3 rfl) (V.2.1 q1) (e_clearOpen hw V hq4) (by decide) (Nat.le_of_ble_eq_true rfl) rfl ?_
  refine Ev.iconst (z := 0) (d2 4 rfl) rfl ?_
  refine Ev.istDN (L' := [.val (.ref o), .val (.int (0 : Int32))]) (d2 5 rfl) rfl rfl rfl ?_
  exact e_reset_10 hw V  n (0 : Int32) q3  _ hr
def f_ctor_164 (n : Nat) (s : St) : Option (St) :=
  (f_reset n s).bind fun q1 =>
  some q1
set_option maxRecDepth 100000 in
theorem e_ctor_164 {g : GT} {n : Nat} (hw : HW g) {K : St → MHeap} {o : Nat} {r : Nat → Nat} (V : View (GG g) Ln K o r) (s : St) (w : St) (hr : f_ctor_164 n s = some w) : Ev (GG g) M_ctor 164 [.val (.ref o)] [] (K s) (none, (K w)) := by
  unfold f_ctor_164 at hr
  refine Ev.aloadN (d0 86 rfl) rfl ?_
  obtain ⟨q1, hq2, hr⟩ := Option.bind_eq_some_iff.mp hr
  refine Ev.virt (y := M_reset) (args := []) (rest := []) (gok hw) rfl nm_reset (ww hw 53 rfl) (ww hw 54 rfl) (ww hw 55 rfl) (ww hw 56 rfl) (ww hw 57 rfl) (lenOf pd_reset rfl) (d0 87 rfl) (V.2.1 s) (e_reset hw V hq2) (by decide) (Nat.le_of_ble_eq_true rfl) rfl ?_
  cases hr
  exact Ev.vreturn rfl (d0 88 rfl)
def f_ctor (n : Nat) : Option (St) :=
  f_ctor_164 n zeroS
set_option maxRecDepth 100000 in
theorem e_ctor {g : GT} {n : Nat} {w : St} (hw : HW g) {pre : MHeap} (hk : k0 (GG g) ≤ pre.length) (hr : f_ctor n = some w) : EvC (GG g) M_ctor [.ref pre.length] (pre ++ [.inl dfl]) (none, KH flds al Ln pre [] w) := by
  refine EvC.enter (L0 := [.val (.ref pre.length)]) pl_ctor (fun _ => rfl) rfl rfl ?_
  unfold f_ctor at hr
  refine Ev.aloadN (d0 0 rfl) rfl ?_
  refine Ev.initO (ww hw 6 rfl) (ww hw 7 rfl) (ww hw 8 rfl) (d0 1 rfl) (by decide) (Nat.le_of_ble_eq_true rfl) ?_
  show Ev (GG g) M_ctor 4 _ _ (cons pre dfl []) _
  refine Ev.aloadN (d0 2 rfl) rfl ?_
  refine Ev.bipush (z := 24) (d0 3 rfl) rfl ?_
  refine Ev.cnew (aty := .int) (b := false) (k := 24) (q := 0) (as' := [(false, tab 24 (fun _ => 0))]) (ww hw 9 rfl) rfl (d0 4 rfl) (by decide) rfl (by decide) rfl rfl ?_
  refine Ev.cput (v' := .ref (pre.length + 1 + 0)) (fs' := [.ref (pre.length + 1 + 0), .null, .null, .null, .null, .null, .null, .null, .null, .null, .null, .null, .null, .null, .null, .null, .null, .null, .null, .null, .null, .int 0, .int 0, .int 0, .int 0, .int 0, .int 0]) (gok hw) hk (ww hw 10 rfl) (Or.inl (ww hw 11 rfl)) (d0 5 rfl) (j := 0) rfl rfl rfl ?_
  refine Ev.aloadN (d0 6 rfl) rfl ?_
  refine Ev.bipush (z := 24) (d0 7 rfl) rfl ?_
  refine Ev.cnew (aty := .int) (b := false) (k := 24) (q := 1) (as' := [(false, tab 24 (fun _ => 0)), (false, tab 24 (fun _ => 0))]) (ww hw 9 rfl) rfl (d0 8 rfl) (by decide) rfl (by decide) rfl rfl ?_
  refine Ev.cput (v' := .ref (pre.length + 1 + 1)) (fs' := [.ref (pre.length + 1 + 0), .ref (pre.length + 1 + 1), .null, .null, .null, .null, .null, .null, .null, .null, .null, .null, .null, .null, .null, .null, .null, .null, .null, .null, .null, .int 0, .int 0, .int 0, .int 0, .int 0, .int 0]) (gok hw) hk (ww hw 12 rfl) (Or.inl (ww hw 13 rfl)) (d0 9 rfl) (j := 1) rfl rfl rfl ?_
  refine Ev.aloadN (d0 10 rfl) rfl ?_
  refine Ev.bipush (z := 24) (d0 11 rfl) rfl ?_
  refine Ev.cnew (aty := .int) (b := false) (k := 24) (q := 2) (as' := [(false, tab 24 (fun _ => 0)), (false, tab 24 (fun _ => 0)), (false, tab 24 (fun _ => 0))]) (ww hw 9 rfl) rfl (d0 12 rfl) (by decide) rfl (by decide) rfl rfl ?_
  refine Ev.cput (v' := .ref (pre.length + 1 + 2)) (fs' := [.ref (pre.length + 1 + 0), .ref (pre.length + 1 + 1), .ref (pre.length + 1 + 2), .null, .null, .null, .null, .null, .null, .null, .null, .null, .null, .null, .null, .null, .null, .null, .null, .null, .null, .int 0, .int 0, .int 0, .int 0, .int 0, .int 0]) (gok hw) hk (ww hw 14 rfl) (Or.inl (ww hw 15 rfl)) (d0 13 rfl) (j := 2) rfl rfl rfl ?_
  refine Ev.aloadN (d0 14 rfl) rfl ?_
  refine Ev.bipush (z := 24) (d0 15 rfl) rfl ?_
  refine Ev.cnew (aty := .int) (b := false) (k := 24) (q := 3) (as' := [(false, tab 24 (fun _ => 0)), (false, tab 24 (fun _ => 0)), (false, tab 24 (fun _ => 0)), (false, tab 24 (fun _ => 0))]) (ww hw 9 rfl) rfl (d0 16 rfl) (by decide) rfl (by decide) rfl rfl ?_
  refine Ev.cput (v' := .ref (pre.length + 1 + 3)) (fs' := [.ref (pre.length + 1 + 0), .ref (pre.length + 1 + 1), .ref (pre.length + 1 + 2), .ref (pre.length + 1 + 3), .null, .null, .null, .null, .null, .null, .null, .null, .null, .null, .null, .null, .null, .null, .null, .null, .null, .int 0, .int 0, .int 0, .int 0, .int 0, .int 0]) (gok hw) hk (ww hw 16 rfl) (Or.inl (ww hw 17 rfl)) (d0 17 rfl) (j := 3) rfl rfl rfl ?_
  refine Ev.aloadN (d0 18 rfl) rfl ?_
  refine Ev.bipush (z := 24) (d0 19 rfl) rfl ?_
  refine Ev.cnew (aty := .int) (b := false) (k := 24) (q := 4) (as' := [(false, tab 24 (fun _ => 0)), (false, tab 24 (fun _ => 0)), (false, tab 24 (fun _ => 0)), (false, tab 24 (fun _ => 0)), (false, tab 24 (fun _ => 0))]) (ww hw 9 rfl) rfl (d0 20 rfl) (by decide) rfl (by decide) rfl rfl ?_
  refine Ev.cput (v' := .ref (pre.length + 1 + 4)) (fs' := [.ref (pre.length + 1 + 0), .ref (pre.length + 1 + 1), .ref (pre.length + 1 + 2), .ref (pre.length + 1 + 3), .ref (pre.length + 1 + 4), .null, .null, .null, .null, .null, .null, .null, .null, .null, .null, .null, .null, .null, .null, .null, .null, .int 0, .int 0, .int 0, .int 0, .int 0, .int 0]) (gok hw) hk (ww hw 18 rfl) (Or.inl (ww hw 19 rfl)) (d0 21 rfl) (j := 4) rfl rfl rfl ?_
  refine Ev.aloadN (d0 22 rfl) rfl ?_
  refine Ev.iconst (z := 4) (d0 23 rfl) rfl ?_
  refine Ev.cnew (aty := .int) (b := false) (k := 4) (q := 5) (as' := [(false, tab 24 (fun _ => 0)), (false, tab 24 (fun _ => 0)), (false, tab 24 (fun _ => 0)), (false, tab 24 (fun _ => 0)), (false, tab 24 (fun _ => 0)), (false, tab 4 (fun _ => 0))]) (ww hw 9 rfl) rfl (d0 24 rfl) (by decide) rfl (by decide) rfl rfl ?_
  refine Ev.cput (v' := .ref (pre.length + 1 + 5)) (fs' := [.ref (pre.length + 1 + 0), .ref (pre.length + 1 + 1), .ref (pre.length + 1 + 2), .ref (pre.length + 1 + 3), .ref (pre.length + 1 + 4), .ref (pre.length + 1 + 5), .null, .null, .null, .null, .null, .null, .null, .null, .null, .null, .null, .null, .null, .null, .null, .int 0, .int 0, .int 0, .int 0, .int 0, .int 0]) (gok hw) hk (ww hw 20 rfl) (Or.inl (ww hw 21 rfl)) (d0 25 rfl) (j := 5) rfl rfl rfl ?_
  refine Ev.aloadN (d0 26 rfl) rfl ?_
  refine Ev.iconst (z := 4) (d0 27 rfl) rfl ?_
  refine Ev.cnew (aty := .int) (b := false) (k := 4) (q := 6) (as' := [(false, tab 24 (fun _ => 0)), (false, tab 24 (fun _ => 0)), (false, tab 24 (fun _ => 0)), (false, tab 24 (fun _ => 0)), (false, tab 24 (fun _ => 0)), (false, tab 4 (fun _ => 0)), (false, tab 4 (fun _ => 0))]) (ww hw 9 rfl) rfl (d0 28 rfl) (by decide) rfl (by decide) rfl rfl ?_
  refine Ev.cput (v' := .ref (pre.length + 1 + 6)) (fs' := [.ref (pre.length + 1 + 0), .ref (pre.length + 1 + 1), .ref (pre.length + 1 + 2), .ref (pre.length + 1 + 3), .ref (pre.length + 1 + 4), .ref (pre.length + 1 + 5), .ref (pre.length + 1 + 6), .null, .null, .null, .null, .null, .null, .null, .null, .null, .null, .null, .null, .null, .null, .int 0, .int 0, .int 0, .int 0, .int 0, .int 0]) (gok hw) hk (ww hw 22 rfl) (Or.inl (ww hw 23 rfl)) (d0 29 rfl) (j := 6) rfl rfl rfl ?_
  refine Ev.aloadN (d0 30 rfl) rfl ?_
  refine Ev.iconst (z := 4) (d0 31 rfl) rfl ?_
  refine Ev.cnew (aty := .boolean) (b := true) (k := 4) (q := 7) (as' := [(false, tab 24 (fun _ => 0)), (false, tab 24 (fun _ => 0)), (false, tab 24 (fun _ => 0)), (false, tab 24 (fun _ => 0)), (false, tab 24 (fun _ => 0)), (false, tab 4 (fun _ => 0)), (false, tab 4 (fun _ => 0)), (true, tab 4 (fun _ => 0))]) (ww hw 24 rfl) rfl (d0 32 rfl) (by decide) rfl (by decide) rfl rfl ?_
  refine Ev.cput (v' := .ref (pre.length + 1 + 7)) (fs' := [.ref (pre.length + 1 + 0), .ref (pre.length + 1 + 1), .ref (pre.length + 1 + 2), .ref (pre.length + 1 + 3), .ref (pre.length + 1 + 4), .ref (pre.length + 1 + 5), .ref (pre.length + 1 + 6), .ref (pre.length + 1 + 7), .null, .null, .null, .null, .null, .null, .null, .null, .null, .null, .null, .null, .null, .int 0, .int 0, .int 0, .int 0, .int 0, .int 0]) (gok hw) hk (ww hw 25 rfl) (Or.inl (ww hw 26 rfl)) (d0 33 rfl) (j := 7) rfl rfl rfl ?_
  refine Ev.aloadN (d0 34 rfl) rfl ?_
  refine Ev.bipush (z := 8) (d0 35 rfl) rfl ?_
  refine Ev.cnew (aty := .int) (b := false) (k := 8) (q := 8) (as' := [(false, tab 24 (fun _ => 0)), (false, tab 24 (fun _ => 0)), (false, tab 24 (fun _ => 0)), (false, tab 24 (fun _ => 0)), (false, tab 24 (fun _ => 0)), (false, tab 4 (fun _ => 0)), (false, tab 4 (fun _ => 0)), (true, tab 4 (fun _ => 0)), (false, tab 8 (fun _ => 0))]) (ww hw 9 rfl) rfl (d0 36 rfl) (by decide) rfl (by decide) rfl rfl ?_
  refine Ev.cput (v' := .ref (pre.length + 1 + 8)) (fs' := [.ref (pre.length + 1 + 0), .ref (pre.length + 1 + 1), .ref (pre.length + 1 + 2), .ref (pre.length + 1 + 3), .ref (pre.length + 1 + 4), .ref (pre.length + 1 + 5), .ref (pre.length + 1 + 6), .ref (pre.length + 1 + 7), .ref (pre.length + 1 + 8), .null, .null, .null, .null, .null, .null, .null, .null, .null, .null, .null, .null, .int 0, .int 0, .int 0, .int 0, .int 0, .int 0]) (gok hw) hk (ww hw 27 rfl) (Or.inl (ww hw 28 rfl)) (d0 37 rfl) (j := 8) rfl rfl rfl ?_
  refine Ev.aloadN (d0 38 rfl) rfl ?_
  refine Ev.bipush (z := 32) (d0 39 rfl) rfl ?_
  refine Ev.cnew (aty := .int) (b := false) (k := 32) (q := 9) (as' := [(false, tab 24 (fun _ => 0)), (false, tab 24 (fun _ => 0)), (false, tab 24 (fun _ => 0)), (false, tab 24 (fun _ => 0)), (false, tab 24 (fun _ => 0)), (false, tab 4 (fun _ => 0)), (false, tab 4 (fun _ => 0)), (true, tab 4 (fun _ => 0)), (false, tab 8 (fun _ => 0)), (false, tab 32 (fun _ => 0))]) (ww hw 9 rfl) rfl (d0 40 rfl) (by decide) rfl (by decide) rfl rfl ?_
  refine Ev.cput (v' := .ref (pre.length + 1 + 9)) (fs' := [.ref (pre.length + 1 + 0), .ref (pre.length + 1 + 1), .ref (pre.length + 1 + 2), .ref (pre.length + 1 + 3), .ref (pre.length + 1 + 4), .ref (pre.length + 1 + 5), .ref (pre.length + 1 + 6), .ref (pre.length + 1 + 7), .ref (pre.length + 1 + 8), .ref (pre.length + 1 + 9), .null, .null, .null, .null, .null, .null, .null, .null, .null, .null, .null, .int 0, .int 0, .int 0, .int 0, .int 0, .int 0]) (gok hw) hk (ww hw 29 rfl) (Or.inl (ww hw 30 rfl)) (d0 41 rfl) (j := 9) rfl rfl rfl ?_
  refine Ev.aloadN (d0 42 rfl) rfl ?_
  refine Ev.bipush (z := 8) (d0 43 rfl) rfl ?_
  refine Ev.cnew (aty := .int) (b := false) (k := 8) (q := 10) (as' := [(false, tab 24 (fun _ => 0)), (false, tab 24 (fun _ => 0)), (false, tab 24 (fun _ => 0)), (false, tab 24 (fun _ => 0)), (false, tab 24 (fun _ => 0)), (false, tab 4 (fun _ => 0)), (false, tab 4 (fun _ => 0)), (true, tab 4 (fun _ => 0)), (false, tab 8 (fun _ => 0)), (false, tab 32 (fun _ => 0)), (false, tab 8 (fun _ => 0))]) (ww hw 9 rfl) rfl (d0 44 rfl) (by decide) rfl (by decide) rfl rfl ?_
  refine Ev.cput (v' := .ref (pre.length + 1 + 10)) (fs' := [.ref (pre.length + 1 + 0), .ref (pre.length + 1 + 1), .ref (pre.length + 1 + 2), .ref (pre.length + 1 + 3), .ref (pre.length + 1 + 4), .ref (pre.length + 1 + 5), .ref (pre.length + 1 + 6), .ref (pre.length + 1 + 7), .ref (pre.length + 1 + 8), .ref (pre.length + 1 + 9), .ref (pre.length + 1 + 10), .null, .null, .null, .null, .null, .null, .null, .null, .null, .null, .int 0, .int 0, .int 0, .int 0, .int 0, .int 0]) (gok hw) hk (ww hw 31 rfl) (Or.inl (ww hw 32 rfl)) (d0 45 rfl) (j := 10) rfl rfl rfl ?_
  refine Ev.aloadN (d0 46 rfl) rfl ?_
  refine Ev.bipush (z := 8) (d0 47 rfl) rfl ?_
  refine Ev.cnew (aty := .int) (b := false) (k := 8) (q := 11) (as' := [(false, tab 24 (fun _ => 0)), (false, tab 24 (fun _ => 0)), (false, tab 24 (fun _ => 0)), (false, tab 24 (fun _ => 0)), (false, tab 24 (fun _ => 0)), (false, tab 4 (fun _ => 0)), (false, tab 4 (fun _ => 0)), (true, tab 4 (fun _ => 0)), (false, tab 8 (fun _ => 0)), (false, tab 32 (fun _ => 0)), (false, tab 8 (fun _ => 0)), (false, tab 8 (fun _ => 0))]) (ww hw 9 rfl) rfl (d0 48 rfl) (by decide) rfl (by decide) rfl rfl ?_
  refine Ev.cput (v' := .ref (pre.length + 1 + 11)) (fs' := [.ref (pre.length + 1 + 0), .ref (pre.length + 1 + 1), .ref (pre.length + 1 + 2), .ref (pre.length + 1 + 3), .ref (pre.length + 1 + 4), .ref (pre.length + 1 + 5), .ref (pre.length + 1 + 6), .ref (pre.length + 1 + 7), .ref (pre.length + 1 + 8), .ref (pre.length + 1 + 9), .ref (pre.length + 1 + 10), .ref (pre.length + 1 + 11), .null, .null, .null, .null, .null, .null, .null, .null, .null, .int 0, .int 0, .int 0, .int 0, .int 0, .int 0]) (gok hw) hk (ww hw 33 rfl) (Or.inl (ww hw 34 rfl)) (d0 49 rfl) (j := 11) rfl rfl rfl ?_
  refine Ev.aloadN (d0 50 rfl) rfl ?_
  refine Ev.iconst (z := 2) (d0 51 rfl) rfl ?_
  refine Ev.cnew (aty := .int) (b := false) (k := 2) (q := 12) (as' := [(false, tab 24 (fun _ => 0)), (false, tab 24 (fun _ => 0)), (false, tab 24 (fun _ => 0)), (false, tab 24 (fun _ => 0)), (false, tab 24 (fun _ => 0)), (false, tab 4 (fun _ => 0)), (false, tab 4 (fun _ => 0)), (true, tab 4 (fun _ => 0)), (false, tab 8 (fun _ => 0)), (false, tab 32 (fun _ => 0)), (false, tab 8 (fun _ => 0)), (false, tab 8 (fun _ => 0)), (false, tab 2 (fun _ => 0))]) (ww hw 9 rfl) rfl (d0 52 rfl) (by decide) rfl (by decide) rfl rfl ?_
  refine Ev.cput (v' := .ref (pre.length + 1 + 12)) (fs' := [.ref (pre.length + 1 + 0), .ref (pre.length + 1 + 1), .ref (pre.length + 1 + 2), .ref (pre.length + 1 + 3), .ref (pre.length + 1 + 4), .ref (pre.length + 1 + 5), .ref (pre.length + 1 + 6), .ref (pre.length + 1 + 7), .ref (pre.length + 1 + 8), .ref (pre.length + 1 + 9), .ref (pre.length + 1 + 10), .ref (pre.length + 1 + 11), .ref (pre.length + 1 + 12), .null, .null, .null, .null, .null, .null, .null, .null, .int 0, .int 0, .int 0, .int 0, .int 0, .int 0]) (gok hw) hk (ww hw 35 rfl) (Or.inl (ww hw 36 rfl)) (d0 53 rfl) (j := 12) rfl rfl rfl ?_
  refine Ev.aloadN (d0 54 rfl) rfl ?_
  refine Ev.iconst (z := 2) (d0 55 rfl) rfl ?_
  refine Ev.cnew (aty := .int) (b := false) (k := 2) (q := 13) (as' := [(false, tab 24 (fun _ => 0)), (false, tab 24 (fun _ => 0)), (false, tab 24 (fun _ => 0)), (false, tab 24 (fun _ => 0)), (false, tab 24 (fun _ => 0)), (false, tab 4 (fun _ => 0)), (false, tab 4 (fun _ => 0)), (true, tab 4 (fun _ => 0)), (false, tab 8 (fun _ => 0)), (false, tab 32 (fun _ => 0)), (false, tab 8 (fun _ => 0)), (false, tab 8 (fun _ => 0)), (false, tab 2 (fun _ => 0)), (false, tab 2 (fun _ => 0))]) (ww hw 9 rfl) rfl (d0 56 rfl) (by decide) rfl (by decide) rfl rfl ?_
  refine Ev.cput (v' := .ref (pre.length + 1 + 13)) (fs' := [.ref (pre.length + 1 + 0), .ref (pre.length + 1 + 1), .ref (pre.length + 1 + 2), .ref (pre.length + 1 + 3), .ref (pre.length + 1 + 4), .ref (pre.length + 1 + 5), .ref (pre.length + 1 + 6), .ref (pre.length + 1 + 7), .ref (pre.length + 1 + 8), .ref (pre.length + 1 + 9), .ref (pre.length + 1 + 10), .ref (pre.length + 1 + 11), .ref (pre.length + 1 + 12), .ref (pre.length + 1 + 13), .null, .null, .null, .null, .null, .null, .null, .int 0, .int 0, .int 0, .int 0, .int 0, .int 0]) (gok hw) hk (ww hw 37 rfl) (Or.inl (ww hw 38 rfl)) (d0 57 rfl) (j := 13) rfl rfl rfl ?_
  refine Ev.aloadN (d0 58 rfl) rfl ?_
  refine Ev.iconst (z := 2) (d0 59 rfl) rfl ?_
  refine Ev.cnew (aty := .int) (b := false) (k := 2) (q := 14) (as' := [(false, tab 24 (fun _ => 0)), (false, tab 24 (fun _ => 0)), (false, tab 24 (fun _ => 0)), (false, tab 24 (fun _ => 0)), (false, tab 24 (fun _ => 0)), (false, tab 4 (fun _ => 0)), (false, tab 4 (fun _ => 0)), (true, tab 4 (fun _ => 0)), (false, tab 8 (fun _ => 0)), (false, tab 32 (fun _ => 0)), (false, tab 8 (fun _ => 0)), (false, tab 8 (fun _ => 0)), (false, tab 2 (fun _ => 0)), (false, tab 2 (fun _ => 0)), (false, tab 2 (fun _ => 0))]) (ww hw 9 rfl) rfl (d0 60 rfl) (by decide) rfl (by decide) rfl rfl ?_
  refine Ev.cput (v' := .ref (pre.length + 1 + 14)) (fs' := [.ref (pre.length + 1 + 0), .ref (pre.length + 1 + 1), .ref (pre.length + 1 + 2), .ref (pre.length + 1 + 3), .ref (pre.length + 1 + 4), .ref (pre.length + 1 + 5), .ref (pre.length + 1 + 6), .ref (pre.length + 1 + 7), .ref (pre.length + 1 + 8), .ref (pre.length + 1 + 9), .ref (pre.length + 1 + 10), .ref (pre.length + 1 + 11), .ref (pre.length + 1 + 12), .ref (pre.length + 1 + 13), .ref (pre.length + 1 + 14), .null, .null, .null, .null, .null, .null, .int 0, .int 0, .int 0, .int 0, .int 0, .int 0]) (gok hw) hk (ww hw 39 rfl) (Or.inl (ww hw 40 rfl)) (d0 61 rfl) (j := 14) rfl rfl rfl ?_
  refine Ev.aloadN (d0 62 rfl) rfl ?_
  refine Ev.iconst (z := 2) (d0 63 rfl) rfl ?_
  refine Ev.cnew (aty := .int) (b := false) (k := 2) (q := 15) (as' := [(false, tab 24 (fun _ => 0)), (false, tab 24 (fun _ => 0)), (false, tab 24 (fun _ => 0)), (false, tab 24 (fun _ => 0)), (false, tab 24 (fun _ => 0)), (false, tab 4 (fun _ => 0)), (false, tab 4 (fun _ => 0)), (true, tab 4 (fun _ => 0)), (false, tab 8 (fun _ => 0)), (false, tab 32 (fun _ => 0)), (false, tab 8 (fun _ => 0)), (false, tab 8 (fun _ => 0)), (false, tab 2 (fun _ => 0)), (false, tab 2 (fun _ => 0)), (false, tab 2 (fun _ => 0)), (false, tab 2 (fun _ => 0))]) (ww hw 9 rfl) rfl (d0 64 rfl) (by decide) rfl (by decide) rfl rfl ?_
  refine Ev.cput (v' := .ref (pre.length + 1 + 15)) (fs' := [.ref (pre.length + 1 + 0), .ref (pre.length + 1 + 1), .ref (pre.length + 1 + 2), .ref (pre.length + 1 + 3), .ref (pre.length + 1 + 4), .ref (pre.length + 1 + 5), .ref (pre.length + 1 + 6), .ref (pre.length + 1 + 7), .ref (pre.length + 1 + 8), .ref (pre.length + 1 + 9), .ref (pre.length + 1 + 10), .ref (pre.length + 1 + 11), .ref (pre.length + 1 + 12), .ref (pre.length + 1 + 13), .ref (pre.length + 1 + 14), .ref (pre.length + 1 + 15), .null, .null, .null, .null, .null, .int 0, .int 0, .int 0, .int 0, .int 0, .int 0]) (gok hw) hk (ww hw 41 rfl) (Or.inl (ww hw 42 rfl)) (d0 65 rfl) (j := 15) rfl rfl rfl ?_
  refine Ev.aloadN (d0 66 rfl) rfl ?_
  refine Ev.iconst (z := 2) (d0 67 rfl) rfl ?_
  refine Ev.cnew (aty := .int) (b := false) (k := 2) (q := 16) (as' := [(false, tab 24 (fun _ => 0)), (false, tab 24 (fun _ => 0)), (false, tab 24 (fun _ => 0)), (false, tab 24 (fun _ => 0)), (false, tab 24 (fun _ => 0)), (false, tab 4 (fun _ => 0)), (false, tab 4 (fun _ => 0)), (true, tab 4 (fun _ => 0)), (false, tab 8 (fun _ => 0)), (false, tab 32 (fun _ => 0)), (false, tab 8 (fun _ => 0)), (false, tab 8 (fun _ => 0)), (false, tab 2 (fun _ => 0)), (false, tab 2 (fun _ => 0)), (false, tab 2 (fun _ => 0)), (false, tab 2 (fun _ => 0)), (false, tab 2 (fun _ => 0))]) (ww hw 9 rfl) rfl (d0 68 rfl) (by decide) rfl (by decide) rfl rfl ?_
  refine Ev.cput (v' := .ref (pre.length + 1 + 16)) (fs' := [.ref (pre.length + 1 + 0), .ref (pre.length + 1 + 1), .ref (pre.length + 1 + 2), .ref (pre.length + 1 + 3), .ref (pre.length + 1 + 4), .ref (pre.length + 1 + 5), .ref (pre.length + 1 + 6), .ref (pre.length + 1 + 7), .ref (pre.length + 1 + 8), .ref (pre.length + 1 + 9), .ref (pre.length + 1 + 10), .ref (pre.length + 1 + 11), .ref (pre.length + 1 + 12), .ref (pre.length + 1 + 13), .ref (pre.length + 1 + 14), .ref (pre.length + 1 + 15), .ref (pre.length + 1 + 16), .null, .null, .null, .null, .int 0, .int 0, .int 0, .int 0, .int 0, .int 0]) (gok hw) hk (ww hw 43 rfl) (Or.inl (ww hw 44 rfl)) (d0 69 rfl) (j := 16) rfl rfl rfl ?_
  refine Ev.aloadN (d0 70 rfl) rfl ?_
  refine Ev.bipush (z := 24) (d0 71 rfl) rfl ?_
  refine Ev.cnew (aty := .boolean) (b := true) (k := 24) (q := 17) (as' := [(false, tab 24 (fun _ => 0)), (false, tab 24 (fun _ => 0)), (false, tab 24 (fun _ => 0)), (false, tab 24 (fun _ => 0)), (false, tab 24 (fun _ => 0)), (false, tab 4 (fun _ => 0)), (false, tab 4 (fun _ => 0)), (true, tab 4 (fun _ => 0)), (false, tab 8 (fun _ => 0)), (false, tab 32 (fun _ => 0)), (false, tab 8 (fun _ => 0)), (false, tab 8 (fun _ => 0)), (false, tab 2 (fun _ => 0)), (false, tab 2 (fun _ => 0)), (false, tab 2 (fun _ => 0)), (false, tab 2 (fun _ => 0)), (false, tab 2 (fun _ => 0)), (true, tab 24 (fun _ => 0))]) (ww hw 24 rfl) rfl (d0 72 rfl) (by decide) rfl (by decide) rfl rfl ?_
  refine Ev.cput (v' := .ref (pre.length + 1 + 17)) (fs' := [.ref (pre.length + 1 + 0), .ref (pre.length + 1 + 1), .ref (pre.length + 1 + 2), .ref (pre.length + 1 + 3), .ref (pre.length + 1 + 4), .ref (pre.length + 1 + 5), .ref (pre.length + 1 + 6), .ref (pre.length + 1 + 7), .ref (pre.length + 1 + 8), .ref (pre.length + 1 + 9), .ref (pre.length + 1 + 10), .ref (pre.length + 1 + 11), .ref (pre.length + 1 + 12), .ref (pre.length + 1 + 13), .ref (pre.length + 1 + 14), .ref (pre.length + 1 + 15), .ref (pre.length + 1 + 16), .ref (pre.length + 1 + 17), .null, .null, .null, .int 0, .int 0, .int 0, .int 0, .int 0, .int 0]) (gok hw) hk (ww hw 45 rfl) (Or.inl (ww hw 46 rfl)) (d0 73 rfl) (j := 17) rfl rfl rfl ?_
  refine Ev.aloadN (d0 74 rfl) rfl ?_
  refine Ev.bipush (z := 24) (d0 75 rfl) rfl ?_
  refine Ev.cnew (aty := .int) (b := false) (k := 24) (q := 18) (as' := [(false, tab 24 (fun _ => 0)), (false, tab 24 (fun _ => 0)), (false, tab 24 (fun _ => 0)), (false, tab 24 (fun _ => 0)), (false, tab 24 (fun _ => 0)), (false, tab 4 (fun _ => 0)), (false, tab 4 (fun _ => 0)), (true, tab 4 (fun _ => 0)), (false, tab 8 (fun _ => 0)), (false, tab 32 (fun _ => 0)), (false, tab 8 (fun _ => 0)), (false, tab 8 (fun _ => 0)), (false, tab 2 (fun _ => 0)), (false, tab 2 (fun _ => 0)), (false, tab 2 (fun _ => 0)), (false, tab 2 (fun _ => 0)), (false, tab 2 (fun _ => 0)), (true, tab 24 (fun _ => 0)), (false, tab 24 (fun _ => 0))]) (ww hw 9 rfl) rfl (d0 76 rfl) (by decide) rfl (by decide) rfl rfl ?_
  refine Ev.cput (v' := .ref (pre.length + 1 + 18)) (fs' := [.ref (pre.length + 1 + 0), .ref (pre.length + 1 + 1), .ref (pre.length + 1 + 2), .ref (pre.length + 1 + 3), .ref (pre.length + 1 + 4), .ref (pre.length + 1 + 5), .ref (pre.length + 1 + 6), .ref (pre.length + 1 + 7), .ref (pre.length + 1 + 8), .ref (pre.length + 1 + 9), .ref (pre.length + 1 + 10), .ref (pre.length + 1 + 11), .ref (pre.length + 1 + 12), .ref (pre.length + 1 + 13), .ref (pre.length + 1 + 14), .ref (pre.length + 1 + 15), .ref (pre.length + 1 + 16), .ref (pre.length + 1 + 17), .ref (pre.length + 1 + 18), .null, .null, .int 0, .int 0, .int 0, .int 0, .int 0, .int 0]) (gok hw) hk (ww hw 47 rfl) (Or.inl (ww hw 48 rfl)) (d0 77 rfl) (j := 18) rfl rfl rfl ?_
  refine Ev.aloadN (d0 78 rfl) rfl ?_
  refine Ev.bipush (z := 24) (d0 79 rfl) rfl ?_
  refine Ev.cnew (aty := .boolean) (b := true) (k := 24) (q := 19) (as' := [(false, tab 24 (fun _ => 0)), (false, tab 24 (fun _ => 0)), (false, tab 24 (fun _ => 0)), (false, tab 24 (fun _ => 0)), (false, tab 24 (fun _ => 0)), (false, tab 4 (fun _ => 0)), (false, tab 4 (fun _ => 0)), (true, tab 4 (fun _ => 0)), (false, tab 8 (fun _ => 0)), (false, tab 32 (fun _ => 0)), (false, tab 8 (fun _ => 0)), (false, tab 8 (fun _ => 0)), (false, tab 2 (fun _ => 0)), (false, tab 2 (fun _ => 0)), (false, tab 2 (fun _ => 0)), (false, tab 2 (fun _ => 0)), (false, tab 2 (fun _ => 0)), (true, tab 24 (fun _ => 0)), (false, tab 24 (fun _ => 0)), (true, tab 24 (fun _ => 0))]) (ww hw 24 rfl) rfl (d0 80 rfl) (by decide) rfl (by decide) rfl rfl ?_
  refine Ev.cput (v' := .ref (pre.length + 1 + 19)) (fs' := [.ref (pre.length + 1 + 0), .ref (pre.length + 1 + 1), .ref (pre.length + 1 + 2), .ref (pre.length + 1 + 3), .ref (pre.length + 1 + 4), .ref (pre.length + 1 + 5), .ref (pre.length + 1 + 6), .ref (pre.length + 1 + 7), .ref (pre.length + 1 + 8), .ref (pre.length + 1 + 9), .ref (pre.length + 1 + 10), .ref (pre.length + 1 + 11), .ref (pre.length + 1 + 12), .ref (pre.length + 1 + 13), .ref (pre.length + 1 + 14), .ref (pre.length + 1 + 15), .ref (pre.length + 1 + 16), .ref (pre.length + 1 + 17), .ref (pre.length + 1 + 18), .ref (pre.length + 1 + 19), .null, .int 0, .int 0, .int 0, .int 0, .int 0, .int 0]) (gok hw) hk (ww hw 49 rfl) (Or.inl (ww hw 50 rfl)) (d0 81 rfl) (j := 19) rfl rfl rfl ?_
  refine Ev.aloadN (d0 82 rfl) rfl ?_
  refine Ev.bipush (z := 24) (d0 83 rfl) rfl ?_
  refine Ev.cnew (aty := .boolean) (b := true) (k := 24) (q := 20) (as' := [(false, tab 24 (fun _ => 0)), (false, tab 24 (fun _ => 0)), (false, tab 24 (fun _ => 0)), (false, tab 24 (fun _ => 0)), (false, tab 24 (fun _ => 0)), (false, tab 4 (fun _ => 0)), (false, tab 4 (fun _ => 0)), (true, tab 4 (fun _ => 0)), (false, tab 8 (fun _ => 0)), (false, tab 32 (fun _ => 0)), (false, tab 8 (fun _ => 0)), (false, tab 8 (fun _ => 0)), (false, tab 2 (fun _ => 0)), (false, tab 2 (fun _ => 0)), (false, tab 2 (fun _ => 0)), (false, tab 2 (fun _ => 0)), (false, tab 2 (fun _ => 0)), (true, tab 24 (fun _ => 0)), (false, tab 24 (fun _ => 0)), (true, tab 24 (fun _ => 0)), (true, tab 24 (fun _ => 0))]) (ww hw 24 rfl) rfl (d0 84 rfl) (by decide) rfl (by decide) rfl rfl ?_
  refine Ev.cput (v' := .ref (pre.length + 1 + 20)) (fs' := [.ref (pre.length + 1 + 0), .ref (pre.length + 1 + 1), .ref (pre.length + 1 + 2), .ref (pre.length + 1 + 3), .ref (pre.length + 1 + 4), .ref (pre.length + 1 + 5), .ref (pre.length + 1 + 6), .ref (pre.length + 1 + 7), .ref (pre.length + 1 + 8), .ref (pre.length + 1 + 9), .ref (pre.length + 1 + 10), .ref (pre.length + 1 + 11), .ref (pre.length + 1 + 12), .ref (pre.length + 1 + 13), .ref (pre.length + 1 + 14), .ref (pre.length + 1 + 15), .ref (pre.length + 1 + 16), .ref (pre.length + 1 + 17), .ref (pre.length + 1 + 18), .ref (pre.length + 1 + 19), .ref (pre.length + 1 + 20), .int 0, .int 0, .int 0, .int 0, .int 0, .int 0]) (gok hw) hk (ww hw 51 rfl) (Or.inl (ww hw 52 rfl)) (d0 85 rfl) (j := 20) rfl rfl rfl ?_
  show Ev (GG g) M_ctor 164 [.val (.ref pre.length)] [] (KH flds al Ln pre [] zeroS) _
  exact e_ctor_164 hw (K := KH flds al Ln pre []) (o := pre.length) (r := rA pre.length al) (view_of hk al_ok al_nd)  zeroS  _ hr
def f_transform_27 (x2 : Int32) (s : St) : Option (Int32 × St) :=
  bnd (setI s 24 x2) fun s1 =>
  some ((1 : Int32), s1)
set_option maxRecDepth 100000 in
theorem e_transform_27 {g : GT} (hw : HW g) {K : St → MHeap} {o : Nat} {r : Nat → Nat} (V : View (GG g) Ln K o r) (x2 : Int32) (s : St) (y1 : Slot) (hy1 : one1 y1 = true) (w : Int32 × St) (hr : f_transform_27 x2 s = some w) : Ev (GG g) M_transform 27 [.val (.ref o), y1, .val (.int x2)] [] (K s) ((some (.int w.1)), (K w.2)) := by
  unfold f_transform_27 at hr
  refine Ev.aloadN (d6 17 rfl) rfl ?_
  refine Ev.iloadN (d6 18 rfl) rfl ?_
  refine Ev.pI V (gok hw) (ww hw 72 rfl) (Or.inl (ww hw 73 rfl)) (d6 19 rfl) (j := 24) rfl ?_
  revert hr
  generalize setI s 24 x2 = s1
  intro hr
  replace hr := (bnd_eq _ _).symm.trans hr
  refine Ev.iconst (z := 1) (d6 20 rfl) rfl ?_
  cases hr
  exact Ev.zret1 rfl (d6 21 rfl)
def f_transform_18 (x2 : Int32) (s : St) : Option (Int32 × St) :=
  if (8 : Int32) < x2 then
    f_transform_27 (8 : Int32) s
  else
    f_transform_27 x2 s
set_option maxRecDepth 100000 in
theorem e_transform_18 {g : GT} (hw : HW g) {K : St → MHeap} {o : Nat} {r : Nat → Nat} (V : View (GG g) Ln K o r) (x2 : Int32) (s : St) (y1 : Slot) (hy1 : one1 y1 = true) (w : Int32 × St) (hr : f_transform_18 x2 s = some w) : Ev (GG g) M_transform 18 [.val (.ref o), y1, .val (.int x2)] [] (K s) ((some (.int w.1)), (K w.2)) := by
  unfold f_transform_18 at hr
  refine Ev.iloadN (d6 12 rfl) rfl ?_
  refine Ev.bipush (z := 8) (d6 13 rfl) rfl ?_
  refine Ev.icle (t := 27) (d6 14 rfl) rfl (fun c1 => ?_) (fun c1 => ?_)
  · replace hr := (if_pos c1).symm.trans hr
    refine Ev.bipush (z := 8) (d6 15 rfl) rfl ?_
    refine Ev.istDN (L' := [.val (.ref o), y1, .val (.int (8 : Int32))]) (d6 16 rfl) rfl rfl rfl ?_
    exact e_transform_27 hw V  (8 : Int32) s y1 hy1 _ hr
  · replace hr := (if_neg c1).symm.trans hr
    exact e_transform_27 hw V  x2 s y1 hy1 _ hr
def f_transform (a0 : Int32) (s : St) : Option (Int32 × St) :=
  if (s.1 22) = 0 then
    if a0 < (1 : Int32) then
      f_transform_18 (1 : Int32) s
    else
      f_transform_18 a0 s
  else
    some ((0 : Int32), s)
set_option maxRecDepth 100000 in
theorem e_transform {g : GT} {a0 : Int32} {s : St} {w : Int32 × St} (hw : HW g) {K : St → MHeap} {o : Nat} {r : Nat → Nat} (V : View (GG g) Ln K o r) (hr : f_transform a0 s = some w) : EvC (GG g) M_transform [.ref o, .int a0] (K s) ((some (.int w.1)), (K w.2)) := by
  refine EvC.enter (L0 := [.val (.ref o), .val (.int a0), .unset]) pl_transform (fun h => nomatch h) rfl rfl ?_
  unfold f_transform at hr
  refine Ev.aloadN (d6 0 rfl) rfl ?_
  refine Ev.gI V (ww hw 68 rfl) (d6 1 rfl) (j := 22) rfl rfl ?_
  refine Ev.ifeq (t := 9) (d6 2 rfl) rfl (fun c1 => ?_) (fun c1 => ?_)
  · replace hr := (if_pos c1).symm.trans hr
    refine Ev.iloadN (d6 5 rfl) rfl ?_
    refine Ev.istDN (L' := [.val (.ref o), .val (.int a0), .val (.int a0)]) (d6 6 rfl) rfl rfl rfl ?_
    refine Ev.iloadN (d6 7 rfl) rfl ?_
    refine Ev.iconst (z := 1) (d6 8 rfl) rfl ?_
    refine Ev.icge (t := 18) (d6 9 rfl) rfl (fun c2 => ?_) (fun c2 => ?_)
    · replace hr := (if_pos c2).symm.trans hr
      refine Ev.iconst (z := 1) (d6 10 rfl) rfl ?_
      refine Ev.istDN (L' := [.val (.ref o), .val (.int a0), .val (.int (1 : Int32))]) (d6 11 rfl) rfl rfl rfl ?_
      exact e_transform_18 hw V  (1 : Int32) s (.val (.int a0)) rfl _ hr
    · replace hr := (if_neg c2).symm.trans hr
      exact e_transform_18 hw V  a0 s (.val (.int a0)) rfl _ hr
  · replace hr := (if_neg c1).symm.trans hr
    refine Ev.iconst (z := 0) (d6 3 rfl) rfl ?_
    cases hr
    exact Ev.zret0 rfl (d6 4 rfl)
def f_usesA (s : St) (a0 : Int32) : Option (Int32) :=
  if (10 : Int32) < a0 then
    if a0 = (12 : Int32) then
      some (1 : Int32)
    else
      some (0 : Int32)
  else
    some (1 : Int32)
set_option maxRecDepth 100000 in
theorem e_usesA {g : GT} {s : St} {a0 : Int32} {w : Int32} (hw : HW g) {K : St → MHeap} {o : Nat} {r : Nat → Nat} (V : View (GG g) Ln K o r) (hr : f_usesA s a0 = some w) : EvC (GG g) M_usesA [.ref o, .int a0] (K s) ((some (.int w)), (K s)) := by
  refine EvC.enter (L0 := [.val (.ref o), .val (.int a0)]) pl_usesA (fun h => nomatch h) rfl rfl ?_
  unfold f_usesA at hr
  refine Ev.iloadN (d13 0 rfl) rfl ?_
  refine Ev.bipush (z := 10) (d13 1 rfl) rfl ?_
  refine Ev.icle (t := 12) (d13 2 rfl) rfl (fun c1 => ?_) (fun c1 => ?_)
  · replace hr := (if_pos c1).symm.trans hr
    refine Ev.iloadN (d13 3 rfl) rfl ?_
    refine Ev.bipush (z := 12) (d13 4 rfl) rfl ?_
    refine Ev.icne (t := 16) (d13 5 rfl) rfl (fun c2 => ?_) (fun c2 => ?_)
    · replace hr := (if_pos c2).symm.trans hr
      refine Ev.iconst (z := 1) (d13 6 rfl) rfl ?_
      refine Ev.goto (t := 17) (d13 7 rfl) rfl ?_
      cases hr
      exact Ev.zret1 rfl (d13 9 rfl)
    · replace hr := (if_neg c2).symm.trans hr
      refine Ev.iconst (z := 0) (d13 8 rfl) rfl ?_
      cases hr
      exact Ev.zret0 rfl (d13 9 rfl)
  · replace hr := (if_neg c1).symm.trans hr
    refine Ev.iconst (z := 1) (d13 6 rfl) rfl ?_
    refine Ev.goto (t := 17) (d13 7 rfl) rfl ?_
    cases hr
    exact Ev.zret1 rfl (d13 9 rfl)
def f_isVar (s : St) (a0 : Int32) : Option (Int32) :=
  if a0 < 0 then
    some (0 : Int32)
  else
    if a0 < (8 : Int32) then
      some (1 : Int32)
    else
      some (0 : Int32)
set_option maxRecDepth 100000 in
theorem e_isVar {g : GT} {s : St} {a0 : Int32} {w : Int32} (hw : HW g) {K : St → MHeap} {o : Nat} {r : Nat → Nat} (V : View (GG g) Ln K o r) (hr : f_isVar s a0 = some w) : EvC (GG g) M_isVar [.ref o, .int a0] (K s) ((some (.int w)), (K s)) := by
  refine EvC.enter (L0 := [.val (.ref o), .val (.int a0)]) pl_isVar (fun h => nomatch h) rfl rfl ?_
  unfold f_isVar at hr
  refine Ev.iloadN (d14 0 rfl) rfl ?_
  refine Ev.iflt (t := 14) (d14 1 rfl) rfl (fun c1 => ?_) (fun c1 => ?_)
  · replace hr := (if_pos c1).symm.trans hr
    refine Ev.iconst (z := 0) (d14 7 rfl) rfl ?_
    cases hr
    exact Ev.zret0 rfl (d14 8 rfl)
  · replace hr := (if_neg c1).symm.trans hr
    refine Ev.iloadN (d14 2 rfl) rfl ?_
    refine Ev.bipush (z := 8) (d14 3 rfl) rfl ?_
    refine Ev.icge (t := 14) (d14 4 rfl) rfl (fun c2 => ?_) (fun c2 => ?_)
    · replace hr := (if_pos c2).symm.trans hr
      refine Ev.iconst (z := 1) (d14 5 rfl) rfl ?_
      refine Ev.goto (t := 15) (d14 6 rfl) rfl ?_
      cases hr
      exact Ev.zret1 rfl (d14 8 rfl)
    · replace hr := (if_neg c2).symm.trans hr
      refine Ev.iconst (z := 0) (d14 7 rfl) rfl ?_
      cases hr
      exact Ev.zret0 rfl (d14 8 rfl)
def f_usesB_11 (s : St) (x1 : Int32) : Option (Int32) :=
  if x1 = (10 : Int32) then
    some (1 : Int32)
  else
    some (0 : Int32)
set_option maxRecDepth 100000 in
theorem e_usesB_11 {g : GT} {s : St} (hw : HW g) {K : St → MHeap} {o : Nat} {r : Nat → Nat} (V : View (GG g) Ln K o r) (x1 : Int32) (y0 : Slot) (hy0 : one1 y0 = true) (w : Int32) (hr : f_usesB_11 s x1 = some w) : Ev (GG g) M_usesB 11 [y0, .val (.int x1)] [] (K s) ((some (.int w)), (K s)) := by
  unfold f_usesB_11 at hr
  refine Ev.iloadN (d15 6 rfl) rfl ?_
  refine Ev.bipush (z := 10) (d15 7 rfl) rfl ?_
  refine Ev.icne (t := 21) (d15 8 rfl) rfl (fun c1 => ?_) (fun c1 => ?_)
  · replace hr := (if_pos c1).symm.trans hr
    refine Ev.iconst (z := 1) (d15 9 rfl) rfl ?_
    refine Ev.goto (t := 22) (d15 10 rfl) rfl ?_
    cases hr
    exact Ev.zret1 rfl (d15 12 rfl)
  · replace hr := (if_neg c1).symm.trans hr
    refine Ev.iconst (z := 0) (d15 11 rfl) rfl ?_
    cases hr
    exact Ev.zret0 rfl (d15 12 rfl)
def f_usesB (s : St) (a0 : Int32) : Option (Int32) :=
  if a0 < (2 : Int32) then
    f_usesB_11 s a0
  else
    if (8 : Int32) < a0 then
      f_usesB_11 s a0
    else
      some (1 : Int32)
set_option maxRecDepth 100000 in
theorem e_usesB {g : GT} {s : St} {a0 : Int32} {w : Int32} (hw : HW g) {K : St → MHeap} {o : Nat} {r : Nat → Nat} (V : View (GG g) Ln K o r) (hr : f_usesB s a0 = some w) : EvC (GG g) M_usesB [.ref o, .int a0] (K s) ((some (.int w)), (K s)) := by
  refine EvC.enter (L0 := [.val (.ref o), .val (.int a0)]) pl_usesB (fun h => nomatch h) rfl rfl ?_
  unfold f_usesB at hr
  refine Ev.iloadN (d15 0 rfl) rfl ?_
  refine Ev.iconst (z := 2) (d15 1 rfl) rfl ?_
  refine Ev.iclt (t := 11) (d15 2 rfl) rfl (fun c1 => ?_) (fun c1 => ?_)
  · replace hr := (if_pos c1).symm.trans hr
    exact e_usesB_11 hw V  a0 (.val (.ref o)) rfl _ hr
  · replace hr := (if_neg c1).symm.trans hr
    refine Ev.iloadN (d15 3 rfl) rfl ?_
    refine Ev.bipush (z := 8) (d15 4 rfl) rfl ?_
    refine Ev.icle (t := 17) (d15 5 rfl) rfl (fun c2 => ?_) (fun c2 => ?_)
    · replace hr := (if_pos c2).symm.trans hr
      exact e_usesB_11 hw V  a0 (.val (.ref o)) rfl _ hr
    · replace hr := (if_neg c2).symm.trans hr
      refine Ev.iconst (z := 1) (d15 9 rfl) rfl ?_
      refine Ev.goto (t := 22) (d15 10 rfl) rfl ?_
      cases hr
      exact Ev.zret1 rfl (d15 12 rfl)
def f_cIsVar (s : St) (a0 : Int32) : Option (Int32) :=
  if a0 < (2 : Int32) then
    some (0 : Int32)
  else
    if (7 : Int32) < a0 then
      some (0 : Int32)
    else
      some (1 : Int32)
set_option maxRecDepth 100000 in
theorem e_cIsVar {g : GT} {s : St} {a0 : Int32} {w : Int32} (hw : HW g) {K : St → MHeap} {o : Nat} {r : Nat → Nat} (V : View (GG g) Ln K o r) (hr : f_cIsVar s a0 = some w) : EvC (GG g) M_cIsVar [.ref o, .int a0] (K s) ((some (.int w)), (K s)) := by
  refine EvC.enter (L0 := [.val (.ref o), .val (.int a0)]) pl_cIsVar (fun h => nomatch h) rfl rfl ?_
  unfold f_cIsVar at hr
  refine Ev.iloadN (d16 0 rfl) rfl ?_
  refine Ev.iconst (z := 2) (d16 1 rfl) rfl ?_
  refine Ev.iclt (t := 15) (d16 2 rfl) rfl (fun c1 => ?_) (fun c1 => ?_)
  · replace hr := (if_pos c1).symm.trans hr
    refine Ev.iconst (z := 0) (d16 8 rfl) rfl ?_
    cases hr
    exact Ev.zret0 rfl (d16 9 rfl)
  · replace hr := (if_neg c1).symm.trans hr
    refine Ev.iloadN (d16 3 rfl) rfl ?_
    refine Ev.bipush (z := 7) (d16 4 rfl) rfl ?_
    refine Ev.icgt (t := 15) (d16 5 rfl) rfl (fun c2 => ?_) (fun c2 => ?_)
    · replace hr := (if_pos c2).symm.trans hr
      refine Ev.iconst (z := 0) (d16 8 rfl) rfl ?_
      cases hr
      exact Ev.zret0 rfl (d16 9 rfl)
    · replace hr := (if_neg c2).symm.trans hr
      refine Ev.iconst (z := 1) (d16 6 rfl) rfl ?_
      refine Ev.goto (t := 16) (d16 7 rfl) rfl ?_
      cases hr
      exact Ev.zret1 rfl (d16 9 rfl)
def f_operandsValid_55 (s : St) (x1 : Int32) (x4 : Int32) : Option (Int32) :=
  if x1 = (10 : Int32) then
    if x4 < (-128 : Int32) then
      some (0 : Int32)
    else
      if (127 : Int32) < x4 then
        some (0 : Int32)
      else
        if x4 = 0 then
          some (0 : Int32)
        else
          some (1 : Int32)
  else
    some (1 : Int32)
set_option maxRecDepth 100000 in
theorem e_operandsValid_55 {g : GT} {s : St} (hw : HW g) {K : St → MHeap} {o : Nat} {r : Nat → Nat} (V : View (GG g) Ln K o r) (x1 : Int32) (x4 : Int32) (y0 : Slot) (hy0 : one1 y0 = true) (y2 : Slot) (hy2 : one1 y2 = true) (y3 : Slot) (hy3 : one1 y3 = true) (w : Int32) (hr : f_operandsValid_55 s x1 x4 = some w) : Ev (GG g) M_operandsValid 55 [y0, .val (.int x1), y2, y3, .val (.int x4)] [] (K s) ((some (.int w)), (K s)) := by
  unfold f_operandsValid_55 at hr
  refine Ev.iloadN (d12 30 rfl) rfl ?_
  refine Ev.bipush (z := 10) (d12 31 rfl) rfl ?_
  refine Ev.icne (t := 82) (d12 32 rfl) rfl (fun c1 => ?_) (fun c1 => ?_)
  · replace hr := (if_pos c1).symm.trans hr
    refine Ev.iload (d12 33 rfl) rfl ?_
    refine Ev.bipush (z := -128) (d12 34 rfl) rfl ?_
    refine Ev.iclt (t := 80) (d12 35 rfl) rfl (fun c2 => ?_) (fun c2 => ?_)
    · replace hr := (if_pos c2).symm.trans hr
      refine Ev.iconst (z := 0) (d12 41 rfl) rfl ?_
      cases hr
      exact Ev.zret0 rfl (d12 42 rfl)
    · replace hr := (if_neg c2).symm.trans hr
      refine Ev.iload (d12 36 rfl) rfl ?_
      refine Ev.bipush (z := 127) (d12 37 rfl) rfl ?_
      refine Ev.icgt (t := 80) (d12 38 rfl) rfl (fun c3 => ?_) (fun c3 => ?_)
      · replace hr := (if_pos c3).symm.trans hr
        refine Ev.iconst (z := 0) (d12 41 rfl) rfl ?_
        cases hr
        exact Ev.zret0 rfl (d12 42 rfl)
      · replace hr := (if_neg c3).symm.trans hr
        refine Ev.iload (d12 39 rfl) rfl ?_
        refine Ev.ifne (t := 82) (d12 40 rfl) rfl (fun c4 => ?_) (fun c4 => ?_)
        · replace hr := (if_pos c4).symm.trans hr
          refine Ev.iconst (z := 0) (d12 41 rfl) rfl ?_
          cases hr
          exact Ev.zret0 rfl (d12 42 rfl)
        · replace hr := (if_neg c4).symm.trans hr
          refine Ev.iconst (z := 1) (d12 43 rfl) rfl ?_
          cases hr
          exact Ev.zret1 rfl (d12 44 rfl)
  · replace hr := (if_neg c1).symm.trans hr
    refine Ev.iconst (z := 1) (d12 43 rfl) rfl ?_
    cases hr
    exact Ev.zret1 rfl (d12 44 rfl)
def f_operandsValid_36 (s : St) (x1 : Int32) (x4 : Int32) : Option (Int32) :=
  (f_cIsVar s x1).bind fun q1 =>
  if q1 = 0 then
    f_operandsValid_55 s x1 x4
  else
    (f_isVar s x4).bind fun q4 =>
    if q4 = 0 then
      some (0 : Int32)
    else
      f_operandsValid_55 s x1 x4
set_option maxRecDepth 100000 in
theorem e_operandsValid_36 {g : GT} {s : St} (hw : HW g) {K : St → MHeap} {o : Nat} {r : Nat → Nat} (V : View (GG g) Ln K o r) (x1 : Int32) (x4 : Int32) (y2 : Slot) (hy2 : one1 y2 = true) (y3 : Slot) (hy3 : one1 y3 = true) (w : Int32) (hr : f_operandsValid_36 s x1 x4 = some w) : Ev (GG g) M_operandsValid 36 [.val (.ref o), .val (.int x1), y2, y3, .val (.int x4)] [] (K s) ((some (.int w)), (K s)) := by
  unfold f_operandsValid_36 at hr
  refine Ev.aloadN (d12 20 rfl) rfl ?_
  refine Ev.iloadN (d12 21 rfl) rfl ?_
  obtain ⟨q1, hq2, hr⟩ := Option.bind_eq_some_iff.mp hr
  refine Ev.priv (y := M_cIsVar) (args := [.int x1]) (rest := []) (gok hw) rfl nm_cIsVar (ww hw 128 rfl) (ww hw 129 rfl) (ww hw 130 rfl) (ww hw 131 rfl) (lenOf pd_cIsVar rfl) (d12 22 rfl) (V.2.1 s) (e_cIsVar hw V hq2) (by decide) (Nat.le_of_ble_eq_true rfl) rfl ?_
  refine Ev.ifeq (t := 55) (d12 23 rfl) rfl (fun c3 => ?_) (fun c3 => ?_)
  · replace hr := (if_pos c3).symm.trans hr
    exact e_operandsValid_55 hw V  x1 x4 (.val (.ref o)) rfl y2 hy2 y3 hy3 _ hr
  · replace hr := (if_neg c3).symm.trans hr
    refine Ev.aloadN (d12 24 rfl) rfl ?_
    refine Ev.iload (d12 25 rfl) rfl ?_
    obtain ⟨q4, hq5, hr⟩ := Option.bind_eq_some_iff.mp hr
    refine Ev.priv (y := M_isVar) (args := [.int x4]) (rest := []) (gok hw) rfl nm_isVar (ww hw 120 rfl) (ww hw 121 rfl) (ww hw 122 rfl) (ww hw 123 rfl) (lenOf pd_isVar rfl) (d12 26 rfl) (V.2.1 s) (e_isVar hw V hq5) (by decide) (Nat.le_of_ble_eq_true rfl) rfl ?_
    refine Ev.ifne (t := 55) (d12 27 rfl) rfl (fun c6 => ?_) (fun c6 => ?_)
    · replace hr := (if_pos c6).symm.trans hr
      refine Ev.iconst (z := 0) (d12 28 rfl) rfl ?_
      cases hr
      exact Ev.zret0 rfl (d12 29 rfl)
    · replace hr := (if_neg c6).symm.trans hr
      exact e_operandsValid_55 hw V  x1 x4 (.val (.ref o)) rfl y2 hy2 y3 hy3 _ hr
def f_operandsValid_18 (s : St) (x1 : Int32) (x3 : Int32) (x4 : Int32) : Option (Int32) :=
  (f_usesB s x1).bind fun q1 =>
  if q1 = 0 then
    f_operandsValid_36 s x1 x4
  else
    (f_isVar s x3).bind fun q4 =>
    if q4 = 0 then
      some (0 : Int32)
    else
      f_operandsValid_36 s x1 x4
set_option maxRecDepth 100000 in
theorem e_operandsValid_18 {g : GT} {s : St} (hw : HW g) {K : St → MHeap} {o : Nat} {r : Nat → Nat} (V : View (GG g) Ln K o r) (x1 : Int32) (x3 : Int32) (x4 : Int32) (y2 : Slot) (hy2 : one1 y2 = true) (w : Int32) (hr : f_operandsValid_18 s x1 x3 x4 = some w) : Ev (GG g) M_operandsValid 18 [.val (.ref o), .val (.int x1), y2, .val (.int x3), .val (.int x4)] [] (K s) ((some (.int w)), (K s)) := by
  unfold f_operandsValid_18 at hr
  refine Ev.aloadN (d12 10 rfl) rfl ?_
  refine Ev.iloadN (d12 11 rfl) rfl ?_
  obtain ⟨q1, hq2, hr⟩ := Option.bind_eq_some_iff.mp hr
  refine Ev.priv (y := M_usesB) (args := [.int x1]) (rest := []) (gok hw) rfl nm_usesB (ww hw 124 rfl) (ww hw 125 rfl) (ww hw 126 rfl) (ww hw 127 rfl) (lenOf pd_usesB rfl) (d12 12 rfl) (V.2.1 s) (e_usesB hw V hq2) (by decide) (Nat.le_of_ble_eq_true rfl) rfl ?_
  refine Ev.ifeq (t := 36) (d12 13 rfl) rfl (fun c3 => ?_) (fun c3 => ?_)
  · replace hr := (if_pos c3).symm.trans hr
    exact e_operandsValid_36 hw V  x1 x4 y2 hy2 (.val (.int x3)) rfl _ hr
  · replace hr := (if_neg c3).symm.trans hr
    refine Ev.aloadN (d12 14 rfl) rfl ?_
    refine Ev.iloadN (d12 15 rfl) rfl ?_
    obtain ⟨q4, hq5, hr⟩ := Option.bind_eq_some_iff.mp hr
    refine Ev.priv (y := M_isVar) (args := [.int x3]) (rest := []) (gok hw) rfl nm_isVar (ww hw 120 rfl) (ww hw 121 rfl) (ww hw 122 rfl) (ww hw 123 rfl) (lenOf pd_isVar rfl) (d12 16 rfl) (V.2.1 s) (e_isVar hw V hq5) (by decide) (Nat.le_of_ble_eq_true rfl) rfl ?_
    refine Ev.ifne (t := 36) (d12 17 rfl) rfl (fun c6 => ?_) (fun c6 => ?_)
    · replace hr := (if_pos c6).symm.trans hr
      refine Ev.iconst (z := 0) (d12 18 rfl) rfl ?_
      cases hr
      exact Ev.zret0 rfl (d12 19 rfl)
    · replace hr := (if_neg c6).symm.trans hr
      exact e_operandsValid_36 hw V  x1 x4 y2 hy2 (.val (.int x3)) rfl _ hr
def f_operandsValid (s : St) (a0 : Int32) (a1 : Int32) (a2 : Int32) (a3 : Int32) : Option (Int32) :=
  (f_usesA s a0).bind fun q1 =>
  if q1 = 0 then
    f_operandsValid_18 s a0 a2 a3
  else
    (f_isVar s a1).bind fun q4 =>
    if q4 = 0 then
      some (0 : Int32)
    else
      f_operandsValid_18 s a0 a2 a3
set_option maxRecDepth 100000 in
theorem e_operandsValid {g : GT} {s : St} {a0 : Int32} {a1 : Int32} {a2 : Int32} {a3 : Int32} {w : Int32} (hw : HW g) {K : St → MHeap} {o : Nat} {r : Nat → Nat} (V : View (GG g) Ln K o r) (hr : f_operandsValid s a0 a1 a2 a3 = some w) : EvC (GG g) M_operandsValid [.ref o, .int a0, .int a1, .int a2, .int a3] (K s) ((some (.int w)), (K s)) := by
  refine EvC.enter (L0 := [.val (.ref o), .val (.int a0), .val (.int a1), .val (.int a2), .val (.int a3)]) pl_operandsValid (fun h => nomatch h) rfl rfl ?_
  unfold f_operandsValid at hr
  refine Ev.aloadN (d12 0 rfl) rfl ?_
  refine Ev.iloadN (d12 1 rfl) rfl ?_
  obtain ⟨q1, hq2, hr⟩ := Option.bind_eq_some_iff.mp hr
  refine Ev.priv (y := M_usesA) (args := [.int a0]) (rest := []) (gok hw) rfl nm_usesA (ww hw 116 rfl) (ww hw 117 rfl) (ww hw 118 rfl) (ww hw 119 rfl) (lenOf pd_usesA rfl) (d12 2 rfl) (V.2.1 s) (e_usesA hw V hq2) (by decide) (Nat.le_of_ble_eq_true rfl) rfl ?_
  refine Ev.ifeq (t := 18) (d12 3 rfl) rfl (fun c3 => ?_) (fun c3 => ?_)
  · replace hr := (if_pos c3).symm.trans hr
    exact e_operandsValid_18 hw V  a0 a2 a3 (.val (.int a1)) rfl _ hr
  · replace hr := (if_neg c3).symm.trans hr
    refine Ev.aloadN (d12 4 rfl) rfl ?_
    refine Ev.iloadN (d12 5 rfl) rfl ?_
    obtain ⟨q4, hq5, hr⟩ := Option.bind_eq_some_iff.mp hr
    refine Ev.priv (y := M_isVar) (args := [.int a1]) (rest := []) (gok hw) rfl nm_isVar (ww hw 120 rfl) (ww hw 121 rfl) (ww hw 122 rfl) (ww hw 123 rfl) (lenOf pd_isVar rfl) (d12 6 rfl) (V.2.1 s) (e_isVar hw V hq5) (by decide) (Nat.le_of_ble_eq_true rfl) rfl ?_
    refine Ev.ifne (t := 18) (d12 7 rfl) rfl (fun c6 => ?_) (fun c6 => ?_)
    · replace hr := (if_pos c6).symm.trans hr
      refine Ev.iconst (z := 0) (d12 8 rfl) rfl ?_
      cases hr
      exact Ev.zret0 rfl (d12 9 rfl)
    · replace hr := (if_neg c6).symm.trans hr
      exact e_operandsValid_18 hw V  a0 a2 a3 (.val (.int a1)) rfl _ hr
def f_structureAllows (s : St) (a0 : Int32) : Option (Int32) :=
  if a0 = (10 : Int32) then
    if (s.1 22) < (4 : Int32) then
      if (s.1 23) < (2 : Int32) then
        some (1 : Int32)
      else
        some (0 : Int32)
    else
      some (0 : Int32)
  else
    if a0 = (12 : Int32) then
      if (s.1 22) < (4 : Int32) then
        some (1 : Int32)
      else
        some (0 : Int32)
    else
      if a0 = (13 : Int32) then
        if ((s.1 22) - (1 : Int32)) < 0 then
          some (0 : Int32)
        else
          grd (inb ((s.1 22) - (1 : Int32)) 4) <|
          if (s.2 7 (ix ((s.1 22) - (1 : Int32)))) = 0 then
            if (s.2 6 (ix ((s.1 22) - (1 : Int32)))) < 0 then
              some (1 : Int32)
            else
              some (0 : Int32)
          else
            some (0 : Int32)
      else
        if a0 = (11 : Int32) then
          if ((s.1 22) - (1 : Int32)) < 0 then
            some (0 : Int32)
          else
            grd (inb ((s.1 22) - (1 : Int32)) 4) <|
            if (s.2 7 (ix ((s.1 22) - (1 : Int32)))) = 0 then
              some (0 : Int32)
            else
              some (1 : Int32)
        else
          if a0 = (14 : Int32) then
            if ((s.1 22) - (1 : Int32)) < 0 then
              some (0 : Int32)
            else
              grd (inb ((s.1 22) - (1 : Int32)) 4) <|
              if (s.2 7 (ix ((s.1 22) - (1 : Int32)))) = 0 then
                some (1 : Int32)
              else
                some (0 : Int32)
          else
            some (1 : Int32)
set_option maxRecDepth 100000 in
theorem e_structureAllows {g : GT} {s : St} {a0 : Int32} {w : Int32} (hw : HW g) {K : St → MHeap} {o : Nat} {r : Nat → Nat} (V : View (GG g) Ln K o r) (hr : f_structureAllows s a0 = some w) : EvC (GG g) M_structureAllows [.ref o, .int a0] (K s) ((some (.int w)), (K s)) := by
  refine EvC.enter (L0 := [.val (.ref o), .val (.int a0), .unset]) pl_structureAllows (fun h => nomatch h) rfl rfl ?_
  unfold f_structureAllows at hr
  refine Ev.aloadN (d17 0 rfl) rfl ?_
  refine Ev.gI V (ww hw 68 rfl) (d17 1 rfl) (j := 22) rfl rfl ?_
  refine Ev.iconst (z := 1) (d17 2 rfl) rfl ?_
  refine Ev.isub (d17 3 rfl) ?_
  refine Ev.istDN (L' := [.val (.ref o), .val (.int a0), .val (.int ((s.1 22) - (1 : Int32)))]) (d17 4 rfl) rfl rfl rfl ?_
  refine Ev.iloadN (d17 5 rfl) rfl ?_
  refine Ev.bipush (z := 10) (d17 6 rfl) rfl ?_
  refine Ev.icne (t := 35) (d17 7 rfl) rfl (fun c1 => ?_) (fun c1 => ?_)
  · replace hr := (if_pos c1).symm.trans hr
    refine Ev.aloadN (d17 8 rfl) rfl ?_
    refine Ev.gI V (ww hw 68 rfl) (d17 9 rfl) (j := 22) rfl rfl ?_
    refine Ev.iconst (z := 4) (d17 10 rfl) rfl ?_
    refine Ev.icge (t := 33) (d17 11 rfl) rfl (fun c2 => ?_) (fun c2 => ?_)
    · replace hr := (if_pos c2).symm.trans hr
      refine Ev.aloadN (d17 12 rfl) rfl ?_
      refine Ev.gI V (ww hw 70 rfl) (d17 13 rfl) (j := 23) rfl rfl ?_
      refine Ev.iconst (z := 2) (d17 14 rfl) rfl ?_
      refine Ev.icge (t := 33) (d17 15 rfl) rfl (fun c3 => ?_) (fun c3 => ?_)
      · replace hr := (if_pos c3).symm.trans hr
        refine Ev.iconst (z := 1) (d17 16 rfl) rfl ?_
        refine Ev.goto (t := 34) (d17 17 rfl) rfl ?_
        cases hr
        exact Ev.zret1 rfl (d17 19 rfl)
      · replace hr := (if_neg c3).symm.trans hr
        refine Ev.iconst (z := 0) (d17 18 rfl) rfl ?_
        cases hr
        exact Ev.zret0 rfl (d17 19 rfl)
    · replace hr := (if_neg c2).symm.trans hr
      refine Ev.iconst (z := 0) (d17 18 rfl) rfl ?_
      cases hr
      exact Ev.zret0 rfl (d17 19 rfl)
  · replace hr := (if_neg c1).symm.trans hr
    refine Ev.iloadN (d17 20 rfl) rfl ?_
    refine Ev.bipush (z := 12) (d17 21 rfl) rfl ?_
    refine Ev.icne (t := 55) (d17 22 rfl) rfl (fun c4 => ?_) (fun c4 => ?_)
    · replace hr := (if_pos c4).symm.trans hr
      refine Ev.aloadN (d17 23 rfl) rfl ?_
      refine Ev.gI V (ww hw 68 rfl) (d17 24 rfl) (j := 22) rfl rfl ?_
      refine Ev.iconst (z := 4) (d17 25 rfl) rfl ?_
      refine Ev.icge (t := 53) (d17 26 rfl) rfl (fun c5 => ?_) (fun c5 => ?_)
      · replace hr := (if_pos c5).symm.trans hr
        refine Ev.iconst (z := 1) (d17 27 rfl) rfl ?_
        refine Ev.goto (t := 54) (d17 28 rfl) rfl ?_
        cases hr
        exact Ev.zret1 rfl (d17 30 rfl)
      · replace hr := (if_neg c5).symm.trans hr
        refine Ev.iconst (z := 0) (d17 29 rfl) rfl ?_
        cases hr
        exact Ev.zret0 rfl (d17 30 rfl)
    · replace hr := (if_neg c4).symm.trans hr
      refine Ev.iloadN (d17 31 rfl) rfl ?_
      refine Ev.bipush (z := 13) (d17 32 rfl) rfl ?_
      refine Ev.icne (t := 89) (d17 33 rfl) rfl (fun c6 => ?_) (fun c6 => ?_)
      · replace hr := (if_pos c6).symm.trans hr
        refine Ev.iloadN (d17 34 rfl) rfl ?_
        refine Ev.iflt (t := 87) (d17 35 rfl) rfl (fun c7 => ?_) (fun c7 => ?_)
        · replace hr := (if_pos c7).symm.trans hr
          refine Ev.iconst (z := 0) (d17 48 rfl) rfl ?_
          cases hr
          exact Ev.zret0 rfl (d17 49 rfl)
        · replace hr := (if_neg c7).symm.trans hr
          refine Ev.aloadN (d17 36 rfl) rfl ?_
          refine Ev.gAr V (ww hw 25 rfl) (d17 37 rfl) (j := 7) rfl ?_
          refine Ev.iloadN (d17 38 rfl) rfl ?_
          obtain ⟨b8, hr⟩ := grd_some hr
          refine Ev.bal V (j := 7) rfl rfl (d17 39 rfl) b8 ?_
          refine Ev.ifne (t := 87) (d17 40 rfl) rfl (fun c9 => ?_) (fun c9 => ?_)
          · replace hr := (if_pos c9).symm.trans hr
            refine Ev.aloadN (d17 41 rfl) rfl ?_
            refine Ev.gAr V (ww hw 22 rfl) (d17 42 rfl) (j := 6) rfl ?_
            refine Ev.iloadN (d17 43 rfl) rfl ?_
            refine Ev.ial V (j := 6) rfl rfl (d17 44 rfl) b8 ?_
            refine Ev.ifge (t := 87) (d17 45 rfl) rfl (fun c10 => ?_) (fun c10 => ?_)
            · replace hr := (if_pos c10).symm.trans hr
              refine Ev.iconst (z := 1) (d17 46 rfl) rfl ?_
              refine Ev.goto (t := 88) (d17 47 rfl) rfl ?_
              cases hr
              exact Ev.zret1 rfl (d17 49 rfl)
            · replace hr := (if_neg c10).symm.trans hr
              refine Ev.iconst (z := 0) (d17 48 rfl) rfl ?_
              cases hr
              exact Ev.zret0 rfl (d17 49 rfl)
          · replace hr := (if_neg c9).symm.trans hr
            refine Ev.iconst (z := 0) (d17 48 rfl) rfl ?_
            cases hr
            exact Ev.zret0 rfl (d17 49 rfl)
      · replace hr := (if_neg c6).symm.trans hr
        refine Ev.iloadN (d17 50 rfl) rfl ?_
        refine Ev.bipush (z := 11) (d17 51 rfl) rfl ?_
        refine Ev.icne (t := 114) (d17 52 rfl) rfl (fun c11 => ?_) (fun c11 => ?_)
        · replace hr := (if_pos c11).symm.trans hr
          refine Ev.iloadN (d17 53 rfl) rfl ?_
          refine Ev.iflt (t := 112) (d17 54 rfl) rfl (fun c12 => ?_) (fun c12 => ?_)
          · replace hr := (if_pos c12).symm.trans hr
            refine Ev.iconst (z := 0) (d17 62 rfl) rfl ?_
            cases hr
            exact Ev.zret0 rfl (d17 63 rfl)
          · replace hr := (if_neg c12).symm.trans hr
            refine Ev.aloadN (d17 55 rfl) rfl ?_
            refine Ev.gAr V (ww hw 25 rfl) (d17 56 rfl) (j := 7) rfl ?_
            refine Ev.iloadN (d17 57 rfl) rfl ?_
            obtain ⟨b13, hr⟩ := grd_some hr
            refine Ev.bal V (j := 7) rfl rfl (d17 58 rfl) b13 ?_
            refine Ev.ifeq (t := 112) (d17 59 rfl) rfl (fun c14 => ?_) (fun c14 => ?_)
            · replace hr := (if_pos c14).symm.trans hr
              refine Ev.iconst (z := 0) (d17 62 rfl) rfl ?_
              cases hr
              exact Ev.zret0 rfl (d17 63 rfl)
            · replace hr := (if_neg c14).symm.trans hr
              refine Ev.iconst (z := 1) (d17 60 rfl) rfl ?_
              refine Ev.goto (t := 113) (d17 61 rfl) rfl ?_
              cases hr
              exact Ev.zret1 rfl (d17 63 rfl)
        · replace hr := (if_neg c11).symm.trans hr
          refine Ev.iloadN (d17 64 rfl) rfl ?_
          refine Ev.bipush (z := 14) (d17 65 rfl) rfl ?_
          refine Ev.icne (t := 139) (d17 66 rfl) rfl (fun c15 => ?_) (fun c15 => ?_)
          · replace hr := (if_pos c15).symm.trans hr
            refine Ev.iloadN (d17 67 rfl) rfl ?_
            refine Ev.iflt (t := 137) (d17 68 rfl) rfl (fun c16 => ?_) (fun c16 => ?_)
            · replace hr := (if_pos c16).symm.trans hr
              refine Ev.iconst (z := 0) (d17 76 rfl) rfl ?_
              cases hr
              exact Ev.zret0 rfl (d17 77 rfl)
            · replace hr := (if_neg c16).symm.trans hr
              refine Ev.aloadN (d17 69 rfl) rfl ?_
              refine Ev.gAr V (ww hw 25 rfl) (d17 70 rfl) (j := 7) rfl ?_
              refine Ev.iloadN (d17 71 rfl) rfl ?_
              obtain ⟨b17, hr⟩ := grd_some hr
              refine Ev.bal V (j := 7) rfl rfl (d17 72 rfl) b17 ?_
              refine Ev.ifne (t := 137) (d17 73 rfl) rfl (fun c18 => ?_) (fun c18 => ?_)
              · replace hr := (if_pos c18).symm.trans hr
                refine Ev.iconst (z := 1) (d17 74 rfl) rfl ?_
                refine Ev.goto (t := 138) (d17 75 rfl) rfl ?_
                cases hr
                exact Ev.zret1 rfl (d17 77 rfl)
              · replace hr := (if_neg c18).symm.trans hr
                refine Ev.iconst (z := 0) (d17 76 rfl) rfl ?_
                cases hr
                exact Ev.zret0 rfl (d17 77 rfl)
          · replace hr := (if_neg c15).symm.trans hr
            refine Ev.iconst (z := 1) (d17 78 rfl) rfl ?_
            cases hr
            exact Ev.zret1 rfl (d17 79 rfl)
def f_usesC (s : St) (a0 : Int32) : Option (Int32) :=
  if (8 : Int32) < a0 then
    if a0 = (10 : Int32) then
      some (1 : Int32)
    else
      some (0 : Int32)
  else
    some (1 : Int32)
set_option maxRecDepth 100000 in
theorem e_usesC {g : GT} {s : St} {a0 : Int32} {w : Int32} (hw : HW g) {K : St → MHeap} {o : Nat} {r : Nat → Nat} (V : View (GG g) Ln K o r) (hr : f_usesC s a0 = some w) : EvC (GG g) M_usesC [.ref o, .int a0] (K s) ((some (.int w)), (K s)) := by
  refine EvC.enter (L0 := [.val (.ref o), .val (.int a0)]) pl_usesC (fun h => nomatch h) rfl rfl ?_
  unfold f_usesC at hr
  refine Ev.iloadN (d18 0 rfl) rfl ?_
  refine Ev.bipush (z := 8) (d18 1 rfl) rfl ?_
  refine Ev.icle (t := 12) (d18 2 rfl) rfl (fun c1 => ?_) (fun c1 => ?_)
  · replace hr := (if_pos c1).symm.trans hr
    refine Ev.iloadN (d18 3 rfl) rfl ?_
    refine Ev.bipush (z := 10) (d18 4 rfl) rfl ?_
    refine Ev.icne (t := 16) (d18 5 rfl) rfl (fun c2 => ?_) (fun c2 => ?_)
    · replace hr := (if_pos c2).symm.trans hr
      refine Ev.iconst (z := 1) (d18 6 rfl) rfl ?_
      refine Ev.goto (t := 17) (d18 7 rfl) rfl ?_
      cases hr
      exact Ev.zret1 rfl (d18 9 rfl)
    · replace hr := (if_neg c2).symm.trans hr
      refine Ev.iconst (z := 0) (d18 8 rfl) rfl ?_
      cases hr
      exact Ev.zret0 rfl (d18 9 rfl)
  · replace hr := (if_neg c1).symm.trans hr
    refine Ev.iconst (z := 1) (d18 6 rfl) rfl ?_
    refine Ev.goto (t := 17) (d18 7 rfl) rfl ?_
    cases hr
    exact Ev.zret1 rfl (d18 9 rfl)
def f_updateOpen_66 (x1 : Int32) (z0 : Int32) (z1 : Int32) (s : St) : Option (St) :=
  grd (inb z1 4) <|
  bnd (setA s 7 (ix z1) (z0 &&& 1)) fun s2 =>
  bnd (setI s2 22 ((s2.1 22) + (1 : Int32))) fun s3 =>
  if x1 = (10 : Int32) then
    bnd (setI s3 23 ((s3.1 23) + (1 : Int32))) fun s5 =>
    some s5
  else
    some s3
set_option maxRecDepth 100000 in
theorem e_updateOpen_66 {g : GT} (hw : HW g) {K : St → MHeap} {o : Nat} {r : Nat → Nat} (V : View (GG g) Ln K o r) (x1 : Int32) (z0 : Int32) (z1 : Int32) (s : St) (y2 : Slot) (hy2 : one1 y2 = true) (y3 : Slot) (hy3 : one1 y3 = true) (w : St) (hr : f_updateOpen_66 x1 z0 z1 s = some w) : Ev (GG g) M_updateOpen 66 [.val (.ref o), .val (.int x1), y2, y3] [.int z0, .int z1, .ref (r 7)] (K s) (none, (K w)) := by
  unfold f_updateOpen_66 at hr
  obtain ⟨b1, hr⟩ := grd_some hr
  refine Ev.bas V (j := 7) rfl rfl (d19 37 rfl) b1 ?_
  revert hr
  generalize setA s 7 (ix z1) (z0 &&& 1) = s2
  intro hr
  replace hr := (bnd_eq _ _).symm.trans hr
  refine Ev.aloadN (d19 38 rfl) rfl ?_
  refine Ev.dup (d19 39 rfl) rfl ?_
  refine Ev.gI V (ww hw 68 rfl) (d19 40 rfl) (j := 22) rfl rfl ?_
  refine Ev.iconst (z := 1) (d19 41 rfl) rfl ?_
  refine Ev.iadd (d19 42 rfl) ?_
  refine Ev.pI V (gok hw) (ww hw 68 rfl) (Or.inl (ww hw 69 rfl)) (d19 43 rfl) (j := 22) rfl ?_
  revert hr
  generalize setI s2 22 ((s2.1 22) + (1 : Int32)) = s3
  intro hr
  replace hr := (bnd_eq _ _).symm.trans hr
  refine Ev.iloadN (d19 44 rfl) rfl ?_
  refine Ev.bipush (z := 10) (d19 45 rfl) rfl ?_
  refine Ev.icne (t := 93) (d19 46 rfl) rfl (fun c4 => ?_) (fun c4 => ?_)
  · replace hr := (if_pos c4).symm.trans hr
    refine Ev.aloadN (d19 47 rfl) rfl ?_
    refine Ev.dup (d19 48 rfl) rfl ?_
    refine Ev.gI V (ww hw 70 rfl) (d19 49 rfl) (j := 23) rfl rfl ?_
    refine Ev.iconst (z := 1) (d19 50 rfl) rfl ?_
    refine Ev.iadd (d19 51 rfl) ?_
    refine Ev.pI V (gok hw) (ww hw 70 rfl) (Or.inl (ww hw 71 rfl)) (d19 52 rfl) (j := 23) rfl ?_
    revert hr
    generalize setI s3 23 ((s3.1 23) + (1 : Int32)) = s5
    intro hr
    replace hr := (bnd_eq _ _).symm.trans hr
    cases hr
    exact Ev.vreturn rfl (d19 53 rfl)
  · replace hr := (if_neg c4).symm.trans hr
    cases hr
    exact Ev.vreturn rfl (d19 53 rfl)
def f_updateOpen_19 (x1 : Int32) (x2 : Int32) (s : St) : Option (St) :=
  if (s.1 22) < (4 : Int32) then
    grd (inb (s.1 22) 4) <|
    bnd (setA s 5 (ix (s.1 22)) x2) fun s3 =>
    grd (inb (s3.1 22) 4) <|
    bnd (setA s3 6 (ix (s3.1 22)) (-1 : Int32)) fun s5 =>
    if x1 = (10 : Int32) then
      f_updateOpen_66 x1 (1 : Int32) (s5.1 22) s5
    else
      f_updateOpen_66 x1 (0 : Int32) (s5.1 22) s5
  else
    some s
set_option maxRecDepth 100000 in
theorem e_updateOpen_19 {g : GT} (hw : HW g) {K : St → MHeap} {o : Nat} {r : Nat → Nat} (V : View (GG g) Ln K o r) (x1 : Int32) (x2 : Int32) (s : St) (y3 : Slot) (hy3 : one1 y3 = true) (w : St) (hr : f_updateOpen_19 x1 x2 s = some w) : Ev (GG g) M_updateOpen 19 [.val (.ref o), .val (.int x1), .val (.int x2), y3] [] (K s) (none, (K w)) := by
  unfold f_updateOpen_19 at hr
  refine Ev.aloadN (d19 11 rfl) rfl ?_
  refine Ev.gI V (ww hw 68 rfl) (d19 12 rfl) (j := 22) rfl rfl ?_
  refine Ev.iconst (z := 4) (d19 13 rfl) rfl ?_
  refine Ev.icge (t := 93) (d19 14 rfl) rfl (fun c1 => ?_) (fun c1 => ?_)
  · replace hr := (if_pos c1).symm.trans hr
    refine Ev.aloadN (d19 15 rfl) rfl ?_
    refine Ev.gAr V (ww hw 20 rfl) (d19 16 rfl) (j := 5) rfl ?_
    refine Ev.aloadN (d19 17 rfl) rfl ?_
    refine Ev.gI V (ww hw 68 rfl) (d19 18 rfl) (j := 22) rfl rfl ?_
    refine Ev.iloadN (d19 19 rfl) rfl ?_
    obtain ⟨b2, hr⟩ := grd_some hr
    refine Ev.ias V (j := 5) rfl rfl (d19 20 rfl) b2 ?_
    revert hr
    generalize setA s 5 (ix (s.1 22)) x2 = s3
    intro hr
    replace hr := (bnd_eq _ _).symm.trans hr
    refine Ev.aloadN (d19 21 rfl) rfl ?_
    refine Ev.gAr V (ww hw 22 rfl) (d19 22 rfl) (j := 6) rfl ?_
    refine Ev.aloadN (d19 23 rfl) rfl ?_
    refine Ev.gI V (ww hw 68 rfl) (d19 24 rfl) (j := 22) rfl rfl ?_
    refine Ev.iconst (z := -1) (d19 25 rfl) rfl ?_
    obtain ⟨b4, hr⟩ := grd_some hr
    refine Ev.ias V (j := 6) rfl rfl (d19 26 rfl) b4 ?_
    revert hr
    generalize setA s3 6 (ix (s3.1 22)) (-1 : Int32) = s5
    intro hr
    replace hr := (bnd_eq _ _).symm.trans hr
    refine Ev.aloadN (d19 27 rfl) rfl ?_
    refine Ev.gAr V (ww hw 25 rfl) (d19 28 rfl) (j := 7) rfl ?_
    refine Ev.aloadN (d19 29 rfl) rfl ?_
    refine Ev.gI V (ww hw 68 rfl) (d19 30 rfl) (j := 22) rfl rfl ?_
    refine Ev.iloadN (d19 31 rfl) rfl ?_
    refine Ev.bipush (z := 10) (d19 32 rfl) rfl ?_
    refine Ev.icne (t := 65) (d19 33 rfl) rfl (fun c6 => ?_) (fun c6 => ?_)
    · replace hr := (if_pos c6).symm.trans hr
      refine Ev.iconst (z := 1) (d19 34 rfl) rfl ?_
      refine Ev.goto (t := 66) (d19 35 rfl) rfl ?_
      exact e_updateOpen_66 hw V  x1 (1 : Int32) (s5.1 22) s5 (.val (.int x2)) rfl y3 hy3 _ hr
    · replace hr := (if_neg c6).symm.trans hr
      refine Ev.iconst (z := 0) (d19 36 rfl) rfl ?_
      exact e_updateOpen_66 hw V  x1 (0 : Int32) (s5.1 22) s5 (.val (.int x2)) rfl y3 hy3 _ hr
  · replace hr := (if_neg c1).symm.trans hr
    cases hr
    exact Ev.vreturn rfl (d19 53 rfl)
def f_updateOpen (a0 : Int32) (a1 : Int32) (s : St) : Option (St) :=
  if a0 = (10 : Int32) then
    f_updateOpen_19 a0 a1 s
  else
    if a0 = (12 : Int32) then
      f_updateOpen_19 a0 a1 s
    else
      if ((s.1 22) - (1 : Int32)) < 0 then
        some s
      else
        if a0 = (13 : Int32) then
          grd (inb ((s.1 22) - (1 : Int32)) 4) <|
          bnd (setA s 6 (ix ((s.1 22) - (1 : Int32))) a1) fun s6 =>
          grd (inb (s6.2 5 (ix ((s.1 22) - (1 : Int32)))) 24) <|
          bnd (setA s6 4 (ix (s6.2 5 (ix ((s.1 22) - (1 : Int32))))) a1) fun s8 =>
          some s8
        else
          if a0 = (11 : Int32) then
            grd (inb ((s.1 22) - (1 : Int32)) 4) <|
            grd (inb (s.2 5 (ix ((s.1 22) - (1 : Int32)))) 24) <|
            bnd (setA s 4 (ix (s.2 5 (ix ((s.1 22) - (1 : Int32))))) a1) fun s12 =>
            grd (inb a1 24) <|
            bnd (setA s12 4 (ix a1) (s12.2 5 (ix ((s.1 22) - (1 : Int32))))) fun s14 =>
            bnd (setI s14 22 ((s.1 22) - (1 : Int32))) fun s15 =>
            bnd (setI s15 23 ((s15.1 23) - (1 : Int32))) fun s16 =>
            some s16
          else
            if a0 = (14 : Int32) then
              none
            else
              some s
set_option maxRecDepth 100000 in
theorem e_updateOpen {g : GT} {a0 : Int32} {a1 : Int32} {s : St} {w : St} (hw : HW g) {K : St → MHeap} {o : Nat} {r : Nat → Nat} (V : View (GG g) Ln K o r) (hr : f_updateOpen a0 a1 s = some w) : EvC (GG g) M_updateOpen [.ref o, .int a0, .int a1] (K s) (none, (K w)) := by
  refine EvC.enter (L0 := [.val (.ref o), .val (.int a0), .val (.int a1), .unset]) pl_updateOpen (fun _ => rfl) rfl rfl ?_
  unfold f_updateOpen at hr
  refine Ev.aloadN (d19 0 rfl) rfl ?_
  refine Ev.gI V (ww hw 68 rfl) (d19 1 rfl) (j := 22) rfl rfl ?_
  refine Ev.iconst (z := 1) (d19 2 rfl) rfl ?_
  refine Ev.isub (d19 3 rfl) ?_
  refine Ev.istDN (L' := [.val (.ref o), .val (.int a0), .val (.int a1), .val (.int ((s.1 22) - (1 : Int32)))]) (d19 4 rfl) rfl rfl rfl ?_
  refine Ev.iloadN (d19 5 rfl) rfl ?_
  refine Ev.bipush (z := 10) (d19 6 rfl) rfl ?_
  refine Ev.iceq (t := 19) (d19 7 rfl) rfl (fun c1 => ?_) (fun c1 => ?_)
  · replace hr := (if_pos c1).symm.trans hr
    exact e_updateOpen_19 hw V  a0 a1 s (.val (.int ((s.1 22) - (1 : Int32)))) rfl _ hr
  · replace hr := (if_neg c1).symm.trans hr
    refine Ev.iloadN (d19 8 rfl) rfl ?_
    refine Ev.bipush (z := 12) (d19 9 rfl) rfl ?_
    refine Ev.icne (t := 94) (d19 10 rfl) rfl (fun c2 => ?_) (fun c2 => ?_)
    · replace hr := (if_pos c2).symm.trans hr
      exact e_updateOpen_19 hw V  a0 a1 s (.val (.int ((s.1 22) - (1 : Int32)))) rfl _ hr
    · replace hr := (if_neg c2).symm.trans hr
      refine Ev.iloadN (d19 54 rfl) rfl ?_
      refine Ev.ifge (t := 99) (d19 55 rfl) rfl (fun c3 => ?_) (fun c3 => ?_)
      · replace hr := (if_pos c3).symm.trans hr
        cases hr
        exact Ev.vreturn rfl (d19 56 rfl)
      · replace hr := (if_neg c3).symm.trans hr
        refine Ev.iloadN (d19 57 rfl) rfl ?_
        refine Ev.bipush (z := 13) (d19 58 rfl) rfl ?_
        refine Ev.icne (t := 127) (d19 59 rfl) rfl (fun c4 => ?_) (fun c4 => ?_)
        · replace hr := (if_pos c4).symm.trans hr
          refine Ev.aloadN (d19 60 rfl) rfl ?_
          refine Ev.gAr V (ww hw 22 rfl) (d19 61 rfl) (j := 6) rfl ?_
          refine Ev.iloadN (d19 62 rfl) rfl ?_
          refine Ev.iloadN (d19 63 rfl) rfl ?_
          obtain ⟨b5, hr⟩ := grd_some hr
          refine Ev.ias V (j := 6) rfl rfl (d19 64 rfl) b5 ?_
          revert hr
          generalize setA s 6 (ix ((s.1 22) - (1 : Int32))) a1 = s6
          intro hr
          replace hr := (bnd_eq _ _).symm.trans hr
          refine Ev.aloadN (d19 65 rfl) rfl ?_
          refine Ev.gAr V (ww hw 18 rfl) (d19 66 rfl) (j := 4) rfl ?_
          refine Ev.aloadN (d19 67 rfl) rfl ?_
          refine Ev.gAr V (ww hw 20 rfl) (d19 68 rfl) (j := 5) rfl ?_
          refine Ev.iloadN (d19 69 rfl) rfl ?_
          refine Ev.ial V (j := 5) rfl rfl (d19 70 rfl) b5 ?_
          refine Ev.iloadN (d19 71 rfl) rfl ?_
          obtain ⟨b7, hr⟩ := grd_some hr
          refine Ev.ias V (j := 4) rfl rfl (d19 72 rfl) b7 ?_
          revert hr
          generalize setA s6 4 (ix (s6.2 5 (ix ((s.1 22) - (1 : Int32))))) a1 = s8
          intro hr
          replace hr := (bnd_eq _ _).symm.trans hr
          refine Ev.goto (t := 187) (d19 73 rfl) rfl ?_
          cases hr
          exact Ev.vreturn rfl (d19 110 rfl)
        · replace hr := (if_neg c4).symm.trans hr
          refine Ev.iloadN (d19 74 rfl) rfl ?_
          refine Ev.bipush (z := 11) (d19 75 rfl) rfl ?_
          refine Ev.icne (t := 175) (d19 76 rfl) rfl (fun c9 => ?_) (fun c9 => ?_)
          · replace hr := (if_pos c9).symm.trans hr
            refine Ev.aloadN (d19 77 rfl) rfl ?_
            refine Ev.gAr V (ww hw 18 rfl) (d19 78 rfl) (j := 4) rfl ?_
            refine Ev.aloadN (d19 79 rfl) rfl ?_
            refine Ev.gAr V (ww hw 20 rfl) (d19 80 rfl) (j := 5) rfl ?_
            refine Ev.iloadN (d19 81 rfl) rfl ?_
            obtain ⟨b10, hr⟩ := grd_some hr
            refine Ev.ial V (j := 5) rfl rfl (d19 82 rfl) b10 ?_
            refine Ev.iloadN (d19 83 rfl) rfl ?_
            obtain ⟨b11, hr⟩ := grd_some hr
            refine Ev.ias V (j := 4) rfl rfl (d19 84 rfl) b11 ?_
            revert hr
            generalize setA s 4 (ix (s.2 5 (ix ((s.1 22) - (1 : Int32))))) a1 = s12
            intro hr
            replace hr := (bnd_eq _ _).symm.trans hr
            refine Ev.aloadN (d19 85 rfl) rfl ?_
            refine Ev.gAr V (ww hw 18 rfl) (d19 86 rfl) (j := 4) rfl ?_
            refine Ev.iloadN (d19 87 rfl) rfl ?_
            refine Ev.aloadN (d19 88 rfl) rfl ?_
            refine Ev.gAr V (ww hw 20 rfl) (d19 89 rfl) (j := 5) rfl ?_
            refine Ev.iloadN (d19 90 rfl) rfl ?_
            refine Ev.ial V (j := 5) rfl rfl (d19 91 rfl) b10 ?_
            obtain ⟨b13, hr⟩ := grd_some hr
            refine Ev.ias V (j := 4) rfl rfl (d19 92 rfl) b13 ?_
            revert hr
            generalize setA s12 4 (ix a1) (s12.2 5 (ix ((s.1 22) - (1 : Int32)))) = s14
            intro hr
            replace hr := (bnd_eq _ _).symm.trans hr
            refine Ev.aloadN (d19 93 rfl) rfl ?_
            refine Ev.iloadN (d19 94 rfl) rfl ?_
            refine Ev.pI V (gok hw) (ww hw 68 rfl) (Or.inl (ww hw 69 rfl)) (d19 95 rfl) (j := 22) rfl ?_
            revert hr
            generalize setI s14 22 ((s.1 22) - (1 : Int32)) = s15
            intro hr
            replace hr := (bnd_eq _ _).symm.trans hr
            refine Ev.aloadN (d19 96 rfl) rfl ?_
            refine Ev.dup (d19 97 rfl) rfl ?_
            refine Ev.gI V (ww hw 70 rfl) (d19 98 rfl) (j := 23) rfl rfl ?_
            refine Ev.iconst (z := 1) (d19 99 rfl) rfl ?_
            refine Ev.isub (d19 100 rfl) ?_
            refine Ev.pI V (gok hw) (ww hw 70 rfl) (Or.inl (ww hw 71 rfl)) (d19 101 rfl) (j := 23) rfl ?_
            revert hr
            generalize setI s15 23 ((s15.1 23) - (1 : Int32)) = s16
            intro hr
            replace hr := (bnd_eq _ _).symm.trans hr
            refine Ev.goto (t := 187) (d19 102 rfl) rfl ?_
            cases hr
            exact Ev.vreturn rfl (d19 110 rfl)
          · replace hr := (if_neg c9).symm.trans hr
            refine Ev.iloadN (d19 103 rfl) rfl ?_
            refine Ev.bipush (z := 14) (d19 104 rfl) rfl ?_
            refine Ev.icne (t := 187) (d19 105 rfl) rfl (fun c17 => ?_) (fun c17 => ?_)
            · replace hr := (if_pos c17).symm.trans hr
              refine Ev.aloadN (d19 106 rfl) rfl ?_
              refine Ev.iloadN (d19 107 rfl) rfl ?_
              refine Ev.iloadN (d19 108 rfl) rfl ?_
              cases hr
            · replace hr := (if_neg c17).symm.trans hr
              cases hr
              exact Ev.vreturn rfl (d19 110 rfl)
def f_emit_122 (x1 : Int32) (x5 : Int32) (z0 : Int32) (z1 : Int32) (s : St) : Option (Int32 × St) :=
  grd (inb z1 24) <|
  bnd (setA s 3 (ix z1) z0) fun s2 =>
  grd (inb x5 24) <|
  bnd (setA s2 4 (ix x5) (-1 : Int32)) fun s4 =>
  bnd (setI s4 21 (x5 + (1 : Int32))) fun s5 =>
  (f_updateOpen x1 x5 s5).bind fun q6 =>
  bnd (setI q6 24 (0 : Int32)) fun s8 =>
  some ((1 : Int32), s8)
set_option maxRecDepth 100000 in
theorem e_emit_122 {g : GT} (hw : HW g) {K : St → MHeap} {o : Nat} {r : Nat → Nat} (V : View (GG g) Ln K o r) (x1 : Int32) (x5 : Int32) (z0 : Int32) (z1 : Int32) (s : St) (y2 : Slot) (hy2 : one1 y2 = true) (y3 : Slot) (hy3 : one1 y3 = true) (y4 : Slot) (hy4 : one1 y4 = true) (w : Int32 × St) (hr : f_emit_122 x1 x5 z0 z1 s = some w) : Ev (GG g) M_emit 122 [.val (.ref o), .val (.int x1), y2, y3, y4, .val (.int x5)] [.int z0, .int z1, .ref (r 3)] (K s) ((some (.int w.1)), (K w.2)) := by
  unfold f_emit_122 at hr
  obtain ⟨b1, hr⟩ := grd_some hr
  refine Ev.ias V (j := 3) rfl rfl (d7 69 rfl) b1 ?_
  revert hr
  generalize setA s 3 (ix z1) z0 = s2
  intro hr
  replace hr := (bnd_eq _ _).symm.trans hr
  refine Ev.aloadN (d7 70 rfl) rfl ?_
  refine Ev.gAr V (ww hw 18 rfl) (d7 71 rfl) (j := 4) rfl ?_
  refine Ev.iload (d7 72 rfl) rfl ?_
  refine Ev.iconst (z := -1) (d7 73 rfl) rfl ?_
  obtain ⟨b3, hr⟩ := grd_some hr
  refine Ev.ias V (j := 4) rfl rfl (d7 74 rfl) b3 ?_
  revert hr
  generalize setA s2 4 (ix x5) (-1 : Int32) = s4
  intro hr
  replace hr := (bnd_eq _ _).symm.trans hr
  refine Ev.aloadN (d7 75 rfl) rfl ?_
  refine Ev.iload (d7 76 rfl) rfl ?_
  refine Ev.iconst (z := 1) (d7 77 rfl) rfl ?_
  refine Ev.iadd (d7 78 rfl) ?_
  refine Ev.pI V (gok hw) (ww hw 62 rfl) (Or.inl (ww hw 63 rfl)) (d7 79 rfl) (j := 21) rfl ?_
  revert hr
  generalize setI s4 21 (x5 + (1 : Int32)) = s5
  intro hr
  replace hr := (bnd_eq _ _).symm.trans hr
  refine Ev.aloadN (d7 80 rfl) rfl ?_
  refine Ev.iloadN (d7 81 rfl) rfl ?_
  refine Ev.iload (d7 82 rfl) rfl ?_
  obtain ⟨q6, hq7, hr⟩ := Option.bind_eq_some_iff.mp hr
  refine Ev.priv (y := M_updateOpen) (args := [.int x1, .int x5]) (rest := []) (gok hw) rfl nm_updateOpen (ww hw 140 rfl) (ww hw 141 rfl) (ww hw 142 rfl) (ww hw 143 rfl) (lenOf pd_updateOpen rfl) (d7 83 rfl) (V.2.1 s5) (e_updateOpen hw V hq7) (by decide) (Nat.le_of_ble_eq_true rfl) rfl ?_
  refine Ev.aloadN (d7 84 rfl) rfl ?_
  refine Ev.iconst (z := 0) (d7 85 rfl) rfl ?_
  refine Ev.pI V (gok hw) (ww hw 72 rfl) (Or.inl (ww hw 73 rfl)) (d7 86 rfl) (j := 24) rfl ?_
  revert hr
  generalize setI q6 24 (0 : Int32) = s8
  intro hr
  replace hr := (bnd_eq _ _).symm.trans hr
  refine Ev.iconst (z := 1) (d7 87 rfl) rfl ?_
  cases hr
  exact Ev.zret1 rfl (d7 88 rfl)
def f_emit_101 (x1 : Int32) (x4 : Int32) (x5 : Int32) (z0 : Int32) (z1 : Int32) (s : St) : Option (Int32 × St) :=
  grd (inb z1 24) <|
  bnd (setA s 2 (ix z1) z0) fun s2 =>
  (f_usesC s2 x1).bind fun q3 =>
  if q3 = 0 then
    f_emit_122 x1 x5 (0 : Int32) x5 s2
  else
    f_emit_122 x1 x5 x4 x5 s2
set_option maxRecDepth 100000 in
theorem e_emit_101 {g : GT} (hw : HW g) {K : St → MHeap} {o : Nat} {r : Nat → Nat} (V : View (GG g) Ln K o r) (x1 : Int32) (x4 : Int32) (x5 : Int32) (z0 : Int32) (z1 : Int32) (s : St) (y2 : Slot) (hy2 : one1 y2 = true) (y3 : Slot) (hy3 : one1 y3 = true) (w : Int32 × St) (hr : f_emit_101 x1 x4 x5 z0 z1 s = some w) : Ev (GG g) M_emit 101 [.val (.ref o), .val (.int x1), y2, y3, .val (.int x4), .val (.int x5)] [.int z0, .int z1, .ref (r 2)] (K s) ((some (.int w.1)), (K w.2)) := by
  unfold f_emit_101 at hr
  obtain ⟨b1, hr⟩ := grd_some hr
  refine Ev.ias V (j := 2) rfl rfl (d7 58 rfl) b1 ?_
  revert hr
  generalize setA s 2 (ix z1) z0 = s2
  intro hr
  replace hr := (bnd_eq _ _).symm.trans hr
  refine Ev.aloadN (d7 59 rfl) rfl ?_
  refine Ev.gAr V (ww hw 16 rfl) (d7 60 rfl) (j := 3) rfl ?_
  refine Ev.iload (d7 61 rfl) rfl ?_
  refine Ev.aloadN (d7 62 rfl) rfl ?_
  refine Ev.iloadN (d7 63 rfl) rfl ?_
  obtain ⟨q3, hq4, hr⟩ := Option.bind_eq_some_iff.mp hr
  refine Ev.priv (y := M_usesC) (args := [.int x1]) (rest := [.int x5, .ref (r 3)]) (gok hw) rfl nm_usesC (ww hw 136 rfl) (ww hw 137 rfl) (ww hw 138 rfl) (ww hw 139 rfl) (lenOf pd_usesC rfl) (d7 64 rfl) (V.2.1 s2) (e_usesC hw V hq4) (by decide) (Nat.le_of_ble_eq_true rfl) rfl ?_
  refine Ev.ifeq (t := 121) (d7 65 rfl) rfl (fun c5 => ?_) (fun c5 => ?_)
  · replace hr := (if_pos c5).symm.trans hr
    refine Ev.iconst (z := 0) (d7 68 rfl) rfl ?_
    exact e_emit_122 hw V  x1 x5 (0 : Int32) x5 s2 y2 hy2 y3 hy3 (.val (.int x4)) rfl _ hr
  · replace hr := (if_neg c5).symm.trans hr
    refine Ev.iload (d7 66 rfl) rfl ?_
    refine Ev.goto (t := 122) (d7 67 rfl) rfl ?_
    exact e_emit_122 hw V  x1 x5 x4 x5 s2 y2 hy2 y3 hy3 (.val (.int x4)) rfl _ hr
def f_emit_81 (x1 : Int32) (x3 : Int32) (x4 : Int32) (x5 : Int32) (z0 : Int32) (z1 : Int32) (s : St) : Option (Int32 × St) :=
  grd (inb z1 24) <|
  bnd (setA s 1 (ix z1) z0) fun s2 =>
  (f_usesB s2 x1).bind fun q3 =>
  if q3 = 0 then
    f_emit_101 x1 x4 x5 (0 : Int32) x5 s2
  else
    f_emit_101 x1 x4 x5 x3 x5 s2
set_option maxRecDepth 100000 in
theorem e_emit_81 {g : GT} (hw : HW g) {K : St → MHeap} {o : Nat} {r : Nat → Nat} (V : View (GG g) Ln K o r) (x1 : Int32) (x3 : Int32) (x4 : Int32) (x5 : Int32) (z0 : Int32) (z1 : Int32) (s : St) (y2 : Slot) (hy2 : one1 y2 = true) (w : Int32 × St) (hr : f_emit_81 x1 x3 x4 x5 z0 z1 s = some w) : Ev (GG g) M_emit 81 [.val (.ref o), .val (.int x1), y2, .val (.int x3), .val (.int x4), .val (.int x5)] [.int z0, .int z1, .ref (r 1)] (K s) ((some (.int w.1)), (K w.2)) := by
  unfold f_emit_81 at hr
  obtain ⟨b1, hr⟩ := grd_some hr
  refine Ev.ias V (j := 1) rfl rfl (d7 47 rfl) b1 ?_
  revert hr
  generalize setA s 1 (ix z1) z0 = s2
  intro hr
  replace hr := (bnd_eq _ _).symm.trans hr
  refine Ev.aloadN (d7 48 rfl) rfl ?_
  refine Ev.gAr V (ww hw 14 rfl) (d7 49 rfl) (j := 2) rfl ?_
  refine Ev.iload (d7 50 rfl) rfl ?_
  refine Ev.aloadN (d7 51 rfl) rfl ?_
  refine Ev.iloadN (d7 52 rfl) rfl ?_
  obtain ⟨q3, hq4, hr⟩ := Option.bind_eq_some_iff.mp hr
  refine Ev.priv (y := M_usesB) (args := [.int x1]) (rest := [.int x5, .ref (r 2)]) (gok hw) rfl nm_usesB (ww hw 124 rfl) (ww hw 125 rfl) (ww hw 126 rfl) (ww hw 127 rfl) (lenOf pd_usesB rfl) (d7 53 rfl) (V.2.1 s2) (e_usesB hw V hq4) (by decide) (Nat.le_of_ble_eq_true rfl) rfl ?_
  refine Ev.ifeq (t := 100) (d7 54 rfl) rfl (fun c5 => ?_) (fun c5 => ?_)
  · replace hr := (if_pos c5).symm.trans hr
    refine Ev.iconst (z := 0) (d7 57 rfl) rfl ?_
    exact e_emit_101 hw V  x1 x4 x5 (0 : Int32) x5 s2 y2 hy2 (.val (.int x3)) rfl _ hr
  · replace hr := (if_neg c5).symm.trans hr
    refine Ev.iloadN (d7 55 rfl) rfl ?_
    refine Ev.goto (t := 101) (d7 56 rfl) rfl ?_
    exact e_emit_101 hw V  x1 x4 x5 x3 x5 s2 y2 hy2 (.val (.int x3)) rfl _ hr
def f_emit (a0 : Int32) (a1 : Int32) (a2 : Int32) (a3 : Int32) (s : St) : Option (Int32 × St) :=
  if (s.1 21) < (24 : Int32) then
    if a0 < (1 : Int32) then
      some ((0 : Int32), s)
    else
      if (14 : Int32) < a0 then
        some ((0 : Int32), s)
      else
        (f_operandsValid s a0 a1 a2 a3).bind fun q4 =>
        if q4 = 0 then
          some ((0 : Int32), s)
        else
          (f_structureAllows s a0).bind fun q7 =>
          if q7 = 0 then
            some ((0 : Int32), s)
          else
            grd (inb (s.1 21) 24) <|
            bnd (setA s 0 (ix (s.1 21)) a0) fun s11 =>
            (f_usesA s11 a0).bind fun q12 =>
            if q12 = 0 then
              f_emit_81 a0 a2 a3 (s.1 21) (0 : Int32) (s.1 21) s11
            else
              f_emit_81 a0 a2 a3 (s.1 21) a1 (s.1 21) s11
  else
    some ((0 : Int32), s)
set_option maxRecDepth 100000 in
theorem e_emit {g : GT} {a0 : Int32} {a1 : Int32} {a2 : Int32} {a3 : Int32} {s : St} {w : Int32 × St} (hw : HW g) {K : St → MHeap} {o : Nat} {r : Nat → Nat} (V : View (GG g) Ln K o r) (hr : f_emit a0 a1 a2 a3 s = some w) : EvC (GG g) M_emit [.ref o, .int a0, .int a1, .int a2, .int a3] (K s) ((some (.int w.1)), (K w.2)) := by
  refine EvC.enter (L0 := [.val (.ref o), .val (.int a0), .val (.int a1), .val (.int a2), .val (.int a3), .unset]) pl_emit (fun h => nomatch h) rfl rfl ?_
  unfold f_emit at hr
  refine Ev.aloadN (d7 0 rfl) rfl ?_
  refine Ev.gI V (ww hw 62 rfl) (d7 1 rfl) (j := 21) rfl rfl ?_
  refine Ev.bipush (z := 24) (d7 2 rfl) rfl ?_
  refine Ev.iclt (t := 11) (d7 3 rfl) rfl (fun c1 => ?_) (fun c1 => ?_)
  · replace hr := (if_pos c1).symm.trans hr
    refine Ev.iloadN (d7 6 rfl) rfl ?_
    refine Ev.iconst (z := 1) (d7 7 rfl) rfl ?_
    refine Ev.iclt (t := 22) (d7 8 rfl) rfl (fun c2 => ?_) (fun c2 => ?_)
    · replace hr := (if_pos c2).symm.trans hr
      refine Ev.iconst (z := 0) (d7 12 rfl) rfl ?_
      cases hr
      exact Ev.zret0 rfl (d7 13 rfl)
    · replace hr := (if_neg c2).symm.trans hr
      refine Ev.iloadN (d7 9 rfl) rfl ?_
      refine Ev.bipush (z := 14) (d7 10 rfl) rfl ?_
      refine Ev.icle (t := 24) (d7 11 rfl) rfl (fun c3 => ?_) (fun c3 => ?_)
      · replace hr := (if_pos c3).symm.trans hr
        refine Ev.iconst (z := 0) (d7 12 rfl) rfl ?_
        cases hr
        exact Ev.zret0 rfl (d7 13 rfl)
      · replace hr := (if_neg c3).symm.trans hr
        refine Ev.aloadN (d7 14 rfl) rfl ?_
        refine Ev.iloadN (d7 15 rfl) rfl ?_
        refine Ev.iloadN (d7 16 rfl) rfl ?_
        refine Ev.iloadN (d7 17 rfl) rfl ?_
        refine Ev.iload (d7 18 rfl) rfl ?_
        obtain ⟨q4, hq5, hr⟩ := Option.bind_eq_some_iff.mp hr
        refine Ev.priv (y := M_operandsValid) (args := [.int a0, .int a1, .int a2, .int a3]) (rest := []) (gok hw) rfl nm_operandsValid (ww hw 112 rfl) (ww hw 113 rfl) (ww hw 114 rfl) (ww hw 115 rfl) (lenOf pd_operandsValid rfl) (d7 19 rfl) (V.2.1 s) (e_operandsValid hw V hq5) (by decide) (Nat.le_of_ble_eq_true rfl) rfl ?_
        refine Ev.ifne (t := 38) (d7 20 rfl) rfl (fun c6 => ?_) (fun c6 => ?_)
        · replace hr := (if_pos c6).symm.trans hr
          refine Ev.iconst (z := 0) (d7 21 rfl) rfl ?_
          cases hr
          exact Ev.zret0 rfl (d7 22 rfl)
        · replace hr := (if_neg c6).symm.trans hr
          refine Ev.aloadN (d7 23 rfl) rfl ?_
          refine Ev.iloadN (d7 24 rfl) rfl ?_
          obtain ⟨q7, hq8, hr⟩ := Option.bind_eq_some_iff.mp hr
          refine Ev.priv (y := M_structureAllows) (args := [.int a0]) (rest := []) (gok hw) rfl nm_structureAllows (ww hw 132 rfl) (ww hw 133 rfl) (ww hw 134 rfl) (ww hw 135 rfl) (lenOf pd_structureAllows rfl) (d7 25 rfl) (V.2.1 s) (e_structureAllows hw V hq8) (by decide) (Nat.le_of_ble_eq_true rfl) rfl ?_
          refine Ev.ifne (t := 48) (d7 26 rfl) rfl (fun c9 => ?_) (fun c9 => ?_)
          · replace hr := (if_pos c9).symm.trans hr
            refine Ev.iconst (z := 0) (d7 27 rfl) rfl ?_
            cases hr
            exact Ev.zret0 rfl (d7 28 rfl)
          · replace hr := (if_neg c9).symm.trans hr
            refine Ev.aloadN (d7 29 rfl) rfl ?_
            refine Ev.gI V (ww hw 62 rfl) (d7 30 rfl) (j := 21) rfl rfl ?_
            refine Ev.istD (L' := [.val (.ref o), .val (.int a0), .val (.int a1), .val (.int a2), .val (.int a3), .val (.int (s.1 21))]) (d7 31 rfl) rfl rfl rfl ?_
            refine Ev.aloadN (d7 32 rfl) rfl ?_
            refine Ev.gAr V (ww hw 10 rfl) (d7 33 rfl) (j := 0) rfl ?_
            refine Ev.iload (d7 34 rfl) rfl ?_
            refine Ev.iloadN (d7 35 rfl) rfl ?_
            obtain ⟨b10, hr⟩ := grd_some hr
            refine Ev.ias V (j := 0) rfl rfl (d7 36 rfl) b10 ?_
            revert hr
            generalize setA s 0 (ix (s.1 21)) a0 = s11
            intro hr
            replace hr := (bnd_eq _ _).symm.trans hr
            refine Ev.aloadN (d7 37 rfl) rfl ?_
            refine Ev.gAr V (ww hw 12 rfl) (d7 38 rfl) (j := 1) rfl ?_
            refine Ev.iload (d7 39 rfl) rfl ?_
            refine Ev.aloadN (d7 40 rfl) rfl ?_
            refine Ev.iloadN (d7 41 rfl) rfl ?_
            obtain ⟨q12, hq13, hr⟩ := Option.bind_eq_some_iff.mp hr
            refine Ev.priv (y := M_usesA) (args := [.int a0]) (rest := [.int (s.1 21), .ref (r 1)]) (gok hw) rfl nm_usesA (ww hw 116 rfl) (ww hw 117 rfl) (ww hw 118 rfl) (ww hw 119 rfl) (lenOf pd_usesA rfl) (d7 42 rfl) (V.2.1 s11) (e_usesA hw V hq13) (by decide) (Nat.le_of_ble_eq_true rfl) rfl ?_
            refine Ev.ifeq (t := 80) (d7 43 rfl) rfl (fun c14 => ?_) (fun c14 => ?_)
            · replace hr := (if_pos c14).symm.trans hr
              refine Ev.iconst (z := 0) (d7 46 rfl) rfl ?_
              exact e_emit_81 hw V  a0 a2 a3 (s.1 21) (0 : Int32) (s.1 21) s11 (.val (.int a1)) rfl _ hr
            · replace hr := (if_neg c14).symm.trans hr
              refine Ev.iloadN (d7 44 rfl) rfl ?_
              refine Ev.goto (t := 81) (d7 45 rfl) rfl ?_
              exact e_emit_81 hw V  a0 a2 a3 (s.1 21) a1 (s.1 21) s11 (.val (.int a1)) rfl _ hr
  · replace hr := (if_neg c1).symm.trans hr
    refine Ev.iconst (z := 0) (d7 4 rfl) rfl ?_
    cases hr
    exact Ev.zret0 rfl (d7 5 rfl)
def f_size (s : St) : Option (Int32) :=
  some (s.1 21)
set_option maxRecDepth 100000 in
theorem e_size {g : GT} {s : St} {w : Int32} (hw : HW g) {K : St → MHeap} {o : Nat} {r : Nat → Nat} (V : View (GG g) Ln K o r) (hr : f_size s = some w) : EvC (GG g) M_size [.ref o] (K s) ((some (.int w)), (K s)) := by
  refine EvC.enter (L0 := [.val (.ref o)]) pl_size (fun h => nomatch h) rfl rfl ?_
  unfold f_size at hr
  refine Ev.aloadN (d8 0 rfl) rfl ?_
  refine Ev.gI V (ww hw 62 rfl) (d8 1 rfl) (j := 21) rfl rfl ?_
  cases hr
  exact Ev.ireturn rfl (d8 2 rfl)
def f_instruction (s : St) (a0 : Int32) (a1 : Int32) : Option (Int32) :=
  if a0 < 0 then
    some (0 : Int32)
  else
    if a0 < (s.1 21) then
      if a1 = 0 then
        grd (inb a0 24) <|
        some (s.2 0 (ix a0))
      else
        if a1 = (1 : Int32) then
          grd (inb a0 24) <|
          some (s.2 1 (ix a0))
        else
          if a1 = (2 : Int32) then
            grd (inb a0 24) <|
            some (s.2 2 (ix a0))
          else
            if a1 = (3 : Int32) then
              grd (inb a0 24) <|
              some (s.2 3 (ix a0))
            else
              some (0 : Int32)
    else
      some (0 : Int32)
set_option maxRecDepth 100000 in
theorem e_instruction {g : GT} {s : St} {a0 : Int32} {a1 : Int32} {w : Int32} (hw : HW g) {K : St → MHeap} {o : Nat} {r : Nat → Nat} (V : View (GG g) Ln K o r) (hr : f_instruction s a0 a1 = some w) : EvC (GG g) M_instruction [.ref o, .int a0, .int a1] (K s) ((some (.int w)), (K s)) := by
  refine EvC.enter (L0 := [.val (.ref o), .val (.int a0), .val (.int a1)]) pl_instruction (fun h => nomatch h) rfl rfl ?_
  unfold f_instruction at hr
  refine Ev.iloadN (d9 0 rfl) rfl ?_
  refine Ev.iflt (t := 12) (d9 1 rfl) rfl (fun c1 => ?_) (fun c1 => ?_)
  · replace hr := (if_pos c1).symm.trans hr
    refine Ev.iconst (z := 0) (d9 6 rfl) rfl ?_
    cases hr
    exact Ev.ireturn rfl (d9 7 rfl)
  · replace hr := (if_neg c1).symm.trans hr
    refine Ev.iloadN (d9 2 rfl) rfl ?_
    refine Ev.aloadN (d9 3 rfl) rfl ?_
    refine Ev.gI V (ww hw 62 rfl) (d9 4 rfl) (j := 21) rfl rfl ?_
    refine Ev.iclt (t := 14) (d9 5 rfl) rfl (fun c2 => ?_) (fun c2 => ?_)
    · replace hr := (if_pos c2).symm.trans hr
      refine Ev.iloadN (d9 8 rfl) rfl ?_
      refine Ev.ifne (t := 25) (d9 9 rfl) rfl (fun c3 => ?_) (fun c3 => ?_)
      · replace hr := (if_pos c3).symm.trans hr
        refine Ev.aloadN (d9 10 rfl) rfl ?_
        refine Ev.gAr V (ww hw 10 rfl) (d9 11 rfl) (j := 0) rfl ?_
        refine Ev.iloadN (d9 12 rfl) rfl ?_
        obtain ⟨b4, hr⟩ := grd_some hr
        refine Ev.ial V (j := 0) rfl rfl (d9 13 rfl) b4 ?_
        cases hr
        exact Ev.ireturn rfl (d9 14 rfl)
      · replace hr := (if_neg c3).symm.trans hr
        refine Ev.iloadN (d9 15 rfl) rfl ?_
        refine Ev.iconst (z := 1) (d9 16 rfl) rfl ?_
        refine Ev.icne (t := 37) (d9 17 rfl) rfl (fun c5 => ?_) (fun c5 => ?_)
        · replace hr := (if_pos c5).symm.trans hr
          refine Ev.aloadN (d9 18 rfl) rfl ?_
          refine Ev.gAr V (ww hw 12 rfl) (d9 19 rfl) (j := 1) rfl ?_
          refine Ev.iloadN (d9 20 rfl) rfl ?_
          obtain ⟨b6, hr⟩ := grd_some hr
          refine Ev.ial V (j := 1) rfl rfl (d9 21 rfl) b6 ?_
          cases hr
          exact Ev.ireturn rfl (d9 22 rfl)
        · replace hr := (if_neg c5).symm.trans hr
          refine Ev.iloadN (d9 23 rfl) rfl ?_
          refine Ev.iconst (z := 2) (d9 24 rfl) rfl ?_
          refine Ev.icne (t := 49) (d9 25 rfl) rfl (fun c7 => ?_) (fun c7 => ?_)
          · replace hr := (if_pos c7).symm.trans hr
            refine Ev.aloadN (d9 26 rfl) rfl ?_
            refine Ev.gAr V (ww hw 14 rfl) (d9 27 rfl) (j := 2) rfl ?_
            refine Ev.iloadN (d9 28 rfl) rfl ?_
            obtain ⟨b8, hr⟩ := grd_some hr
            refine Ev.ial V (j := 2) rfl rfl (d9 29 rfl) b8 ?_
            cases hr
            exact Ev.ireturn rfl (d9 30 rfl)
          · replace hr := (if_neg c7).symm.trans hr
            refine Ev.iloadN (d9 31 rfl) rfl ?_
            refine Ev.iconst (z := 3) (d9 32 rfl) rfl ?_
            refine Ev.icne (t := 61) (d9 33 rfl) rfl (fun c9 => ?_) (fun c9 => ?_)
            · replace hr := (if_pos c9).symm.trans hr
              refine Ev.aloadN (d9 34 rfl) rfl ?_
              refine Ev.gAr V (ww hw 16 rfl) (d9 35 rfl) (j := 3) rfl ?_
              refine Ev.iloadN (d9 36 rfl) rfl ?_
              obtain ⟨b10, hr⟩ := grd_some hr
              refine Ev.ial V (j := 3) rfl rfl (d9 37 rfl) b10 ?_
              cases hr
              exact Ev.ireturn rfl (d9 38 rfl)
            · replace hr := (if_neg c9).symm.trans hr
              refine Ev.iconst (z := 0) (d9 39 rfl) rfl ?_
              cases hr
              exact Ev.ireturn rfl (d9 40 rfl)
    · replace hr := (if_neg c2).symm.trans hr
      refine Ev.iconst (z := 0) (d9 6 rfl) rfl ?_
      cases hr
      exact Ev.ireturn rfl (d9 7 rfl)
def f_openDepth (s : St) : Option (Int32) :=
  some (s.1 22)
set_option maxRecDepth 100000 in
theorem e_openDepth {g : GT} {s : St} {w : Int32} (hw : HW g) {K : St → MHeap} {o : Nat} {r : Nat → Nat} (V : View (GG g) Ln K o r) (hr : f_openDepth s = some w) : EvC (GG g) M_openDepth [.ref o] (K s) ((some (.int w)), (K s)) := by
  refine EvC.enter (L0 := [.val (.ref o)]) pl_openDepth (fun h => nomatch h) rfl rfl ?_
  unfold f_openDepth at hr
  refine Ev.aloadN (d10 0 rfl) rfl ?_
  refine Ev.gI V (ww hw 68 rfl) (d10 1 rfl) (j := 22) rfl rfl ?_
  cases hr
  exact Ev.ireturn rfl (d10 2 rfl)
def f_transformFactor (s : St) : Option (Int32) :=
  some (s.1 24)
set_option maxRecDepth 100000 in
theorem e_transformFactor {g : GT} {s : St} {w : Int32} (hw : HW g) {K : St → MHeap} {o : Nat} {r : Nat → Nat} (V : View (GG g) Ln K o r) (hr : f_transformFactor s = some w) : EvC (GG g) M_transformFactor [.ref o] (K s) ((some (.int w)), (K s)) := by
  refine EvC.enter (L0 := [.val (.ref o)]) pl_transformFactor (fun h => nomatch h) rfl rfl ?_
  unfold f_transformFactor at hr
  refine Ev.aloadN (d11 0 rfl) rfl ?_
  refine Ev.gI V (ww hw 72 rfl) (d11 1 rfl) (j := 24) rfl rfl ?_
  cases hr
  exact Ev.ireturn rfl (d11 2 rfl)
def f_hv (a0 : Int32) : Option (Int32) :=
  if a0 < 0 then
    some (0 : Int32)
  else
    if (7 : Int32) < a0 then
      some (0 : Int32)
    else
      some (1 : Int32)
set_option maxRecDepth 100000 in
theorem e_hv {g : GT} {a0 : Int32} {w : Int32} (hw : HW g) {h : MHeap} (hr : f_hv a0 = some w) : EvC (GG g) M_hv [.int a0] h ((some (.int w)), h) := by
  refine EvC.enter (L0 := [.val (.int a0)]) pl_hv (fun h => nomatch h) rfl rfl ?_
  unfold f_hv at hr
  refine Ev.iloadN (d20 0 rfl) rfl ?_
  refine Ev.iflt (t := 14) (d20 1 rfl) rfl (fun c1 => ?_) (fun c1 => ?_)
  · replace hr := (if_pos c1).symm.trans hr
    refine Ev.iconst (z := 0) (d20 7 rfl) rfl ?_
    cases hr
    exact Ev.zret0 rfl (d20 8 rfl)
  · replace hr := (if_neg c1).symm.trans hr
    refine Ev.iloadN (d20 2 rfl) rfl ?_
    refine Ev.bipush (z := 7) (d20 3 rfl) rfl ?_
    refine Ev.icgt (t := 14) (d20 4 rfl) rfl (fun c2 => ?_) (fun c2 => ?_)
    · replace hr := (if_pos c2).symm.trans hr
      refine Ev.iconst (z := 0) (d20 7 rfl) rfl ?_
      cases hr
      exact Ev.zret0 rfl (d20 8 rfl)
    · replace hr := (if_neg c2).symm.trans hr
      refine Ev.iconst (z := 1) (d20 5 rfl) rfl ?_
      refine Ev.goto (t := 15) (d20 6 rfl) rfl ?_
      cases hr
      exact Ev.zret1 rfl (d20 8 rfl)
def f_law_410 (n : Nat) (z0 : Int32) (z1 : Int32) (s : St) : Option (Int32 × St) :=
  if z1 = z0 then
    some ((1 : Int32), s)
  else
    some ((0 : Int32), s)
set_option maxRecDepth 100000 in
theorem e_law_410 {g : GT} {n : Nat} (hw : HW g) {K : St → MHeap} {o : Nat} {r : Nat → Nat} (V : View (GG g) Ln K o r) (z0 : Int32) (z1 : Int32) (s : St) (y0 : Slot) (hy0 : one1 y0 = true) (y1 : Slot) (hy1 : one1 y1 = true) (y2 : Slot) (hy2 : one1 y2 = true) (y3 : Slot) (hy3 : one1 y3 = true) (y4 : Slot) (hy4 : one1 y4 = true) (y5 : Slot) (hy5 : one1 y5 = true) (y6 : Slot) (hy6 : one1 y6 = true) (y7 : Slot) (hy7 : one1 y7 = true) (y8 : Slot) (hy8 : one1 y8 = true) (y9 : Slot) (hy9 : one1 y9 = true) (y10 : Slot) (hy10 : one1 y10 = true) (y11 : Slot) (hy11 : one1 y11 = true) (y12 : Slot) (hy12 : one1 y12 = true) (y13 : Slot) (hy13 : one1 y13 = true) (y14 : Slot) (hy14 : one1 y14 = true) (y15 : Slot) (hy15 : one1 y15 = true) (y16 : Slot) (hy16 : one1 y16 = true) (y17 : Slot) (hy17 : one1 y17 = true) (y18 : Slot) (hy18 : one1 y18 = true) (w : Int32 × St) (hr : f_law_410 n z0 z1 s = some w) : Ev (GG g) M_law 410 [y0, y1, y2, y3, y4, y5, y6, y7, y8, y9, y10, y11, y12, y13, y14, y15, y16, y17, y18] [.int z0, .int z1] (K s) ((some (.int w.1)), (K w.2)) := by
  unfold f_law_410 at hr
  refine Ev.icne (t := 417) at_410 rfl (fun c1 => ?_) (fun c1 => ?_)
  · replace hr := (if_pos c1).symm.trans hr
    refine Ev.iconst (z := 1) at_413 rfl ?_
    refine Ev.goto (t := 418) at_414 rfl ?_
    cases hr
    exact Ev.zret1 rfl at_418
  · replace hr := (if_neg c1).symm.trans hr
    refine Ev.iconst (z := 0) at_417 rfl ?_
    cases hr
    exact Ev.zret0 rfl at_418
def f_law_395 (n : Nat) (x13 : Int32) (x18 : Int32) (z0 : Int32) (z1 : Int32) (s : St) : Option (Int32 × St) :=
  if z1 = z0 then
    if x18 = 0 then
      f_law_410 n (3 : Int32) x13 s
    else
      f_law_410 n (0 : Int32) x13 s
  else
    some ((0 : Int32), s)
set_option maxRecDepth 100000 in
theorem e_law_395 {g : GT} {n : Nat} (hw : HW g) {K : St → MHeap} {o : Nat} {r : Nat → Nat} (V : View (GG g) Ln K o r) (x13 : Int32) (x18 : Int32) (z0 : Int32) (z1 : Int32) (s : St) (y0 : Slot) (hy0 : one1 y0 = true) (y1 : Slot) (hy1 : one1 y1 = true) (y2 : Slot) (hy2 : one1 y2 = true) (y3 : Slot) (hy3 : one1 y3 = true) (y4 : Slot) (hy4 : one1 y4 = true) (y5 : Slot) (hy5 : one1 y5 = true) (y6 : Slot) (hy6 : one1 y6 = true) (y7 : Slot) (hy7 : one1 y7 = true) (y8 : Slot) (hy8 : one1 y8 = true) (y9 : Slot) (hy9 : one1 y9 = true) (y10 : Slot) (hy10 : one1 y10 = true) (y11 : Slot) (hy11 : one1 y11 = true) (y12 : Slot) (hy12 : one1 y12 = true) (y14 : Slot) (hy14 : one1 y14 = true) (y15 : Slot) (hy15 : one1 y15 = true) (y16 : Slot) (hy16 : one1 y16 = true) (y17 : Slot) (hy17 : one1 y17 = true) (w : Int32 × St) (hr : f_law_395 n x13 x18 z0 z1 s = some w) : Ev (GG g) M_law 395 [y0, y1, y2, y3, y4, y5, y6, y7, y8, y9, y10, y11, y12, .val (.int x13), y14, y15, y16, y17, .val (.int x18)] [.int z0, .int z1] (K s) ((some (.int w.1)), (K w.2)) := by
  unfold f_law_395 at hr
  refine Ev.icne (t := 417) at_395 rfl (fun c1 => ?_) (fun c1 => ?_)
  · replace hr := (if_pos c1).symm.trans hr
    refine Ev.iload at_398 rfl ?_
    refine Ev.iload at_400 rfl ?_
    refine Ev.ifeq (t := 409) at_402 rfl (fun c2 => ?_) (fun c2 => ?_)
    · replace hr := (if_pos c2).symm.trans hr
      refine Ev.iconst (z := 3) at_409 rfl ?_
      exact e_law_410 hw V  (3 : Int32) x13 s y0 hy0 y1 hy1 y2 hy2 y3 hy3 y4 hy4 y5 hy5 y6 hy6 y7 hy7 y8 hy8 y9 hy9 y10 hy10 y11 hy11 y12 hy12 (.val (.int x13)) rfl y14 hy14 y15 hy15 y16 hy16 y17 hy17 (.val (.int x18)) rfl _ hr
    · replace hr := (if_neg c2).symm.trans hr
      refine Ev.iconst (z := 0) at_405 rfl ?_
      refine Ev.goto (t := 410) at_406 rfl ?_
      exact e_law_410 hw V  (0 : Int32) x13 s y0 hy0 y1 hy1 y2 hy2 y3 hy3 y4 hy4 y5 hy5 y6 hy6 y7 hy7 y8 hy8 y9 hy9 y10 hy10 y11 hy11 y12 hy12 (.val (.int x13)) rfl y14 hy14 y15 hy15 y16 hy16 y17 hy17 (.val (.int x18)) rfl _ hr
  · replace hr := (if_neg c1).symm.trans hr
    refine Ev.iconst (z := 0) at_417 rfl ?_
    cases hr
    exact Ev.zret0 rfl at_418
def f_law_368 (n : Nat) (x0 : Int32) (x12 : Int32) (x13 : Int32) (x18 : Int32) (z0 : Int32) (z1 : Int32) (s : St) : Option (Int32 × St) :=
  if z1 = z0 then
    if x18 = 0 then
      f_law_395 n x13 x18 (0 : Int32) x12 s
    else
      if x0 = (10 : Int32) then
        f_law_395 n x13 x18 (1 : Int32) x12 s
      else
        if x0 = (12 : Int32) then
          f_law_395 n x13 x18 (1 : Int32) x12 s
        else
          f_law_395 n x13 x18 (0 : Int32) x12 s
  else
    some ((0 : Int32), s)
set_option maxRecDepth 100000 in
theorem e_law_368 {g : GT} {n : Nat} (hw : HW g) {K : St → MHeap} {o : Nat} {r : Nat → Nat} (V : View (GG g) Ln K o r) (x0 : Int32) (x12 : Int32) (x13 : Int32) (x18 : Int32) (z0 : Int32) (z1 : Int32) (s : St) (y1 : Slot) (hy1 : one1 y1 = true) (y2 : Slot) (hy2 : one1 y2 = true) (y3 : Slot) (hy3 : one1 y3 = true) (y4 : Slot) (hy4 : one1 y4 = true) (y5 : Slot) (hy5 : one1 y5 = true) (y6 : Slot) (hy6 : one1 y6 = true) (y7 : Slot) (hy7 : one1 y7 = true) (y8 : Slot) (hy8 : one1 y8 = true) (y9 : Slot) (hy9 : one1 y9 = true) (y10 : Slot) (hy10 : one1 y10 = true) (y11 : Slot) (hy11 : one1 y11 = true) (y14 : Slot) (hy14 : one1 y14 = true) (y15 : Slot) (hy15 : one1 y15 = true) (y16 : Slot) (hy16 : one1 y16 = true) (y17 : Slot) (hy17 : one1 y17 = true) (w : Int32 × St) (hr : f_law_368 n x0 x12 x13 x18 z0 z1 s = some w) : Ev (GG g) M_law 368 [.val (.int x0), y1, y2, y3, y4, y5, y6, y7, y8, y9, y10, y11, .val (.int x12), .val (.int x13), y14, y15, y16, y17, .val (.int x18)] [.int z0, .int z1] (K s) ((some (.int w.1)), (K w.2)) := by
  unfold f_law_368 at hr
  refine Ev.icne (t := 417) at_368 rfl (fun c1 => ?_) (fun c1 => ?_)
  · replace hr := (if_pos c1).symm.trans hr
    refine Ev.iload at_371 rfl ?_
    refine Ev.iload at_373 rfl ?_
    refine Ev.ifeq (t := 394) at_375 rfl (fun c2 => ?_) (fun c2 => ?_)
    · replace hr := (if_pos c2).symm.trans hr
      refine Ev.iconst (z := 0) at_394 rfl ?_
      exact e_law_395 hw V  x13 x18 (0 : Int32) x12 s (.val (.int x0)) rfl y1 hy1 y2 hy2 y3 hy3 y4 hy4 y5 hy5 y6 hy6 y7 hy7 y8 hy8 y9 hy9 y10 hy10 y11 hy11 (.val (.int x12)) rfl y14 hy14 y15 hy15 y16 hy16 y17 hy17 _ hr
    · replace hr := (if_neg c2).symm.trans hr
      refine Ev.iloadN at_378 rfl ?_
      refine Ev.bipush (z := 10) at_379 rfl ?_
      refine Ev.iceq (t := 390) at_381 rfl (fun c3 => ?_) (fun c3 => ?_)
      · replace hr := (if_pos c3).symm.trans hr
        refine Ev.iconst (z := 1) at_390 rfl ?_
        refine Ev.goto (t := 395) at_391 rfl ?_
        exact e_law_395 hw V  x13 x18 (1 : Int32) x12 s (.val (.int x0)) rfl y1 hy1 y2 hy2 y3 hy3 y4 hy4 y5 hy5 y6 hy6 y7 hy7 y8 hy8 y9 hy9 y10 hy10 y11 hy11 (.val (.int x12)) rfl y14 hy14 y15 hy15 y16 hy16 y17 hy17 _ hr
      · replace hr := (if_neg c3).symm.trans hr
        refine Ev.iloadN at_384 rfl ?_
        refine Ev.bipush (z := 12) at_385 rfl ?_
        refine Ev.icne (t := 394) at_387 rfl (fun c4 => ?_) (fun c4 => ?_)
        · replace hr := (if_pos c4).symm.trans hr
          refine Ev.iconst (z := 1) at_390 rfl ?_
          refine Ev.goto (t := 395) at_391 rfl ?_
          exact e_law_395 hw V  x13 x18 (1 : Int32) x12 s (.val (.int x0)) rfl y1 hy1 y2 hy2 y3 hy3 y4 hy4 y5 hy5 y6 hy6 y7 hy7 y8 hy8 y9 hy9 y10 hy10 y11 hy11 (.val (.int x12)) rfl y14 hy14 y15 hy15 y16 hy16 y17 hy17 _ hr
        · replace hr := (if_neg c4).symm.trans hr
          refine Ev.iconst (z := 0) at_394 rfl ?_
          exact e_law_395 hw V  x13 x18 (0 : Int32) x12 s (.val (.int x0)) rfl y1 hy1 y2 hy2 y3 hy3 y4 hy4 y5 hy5 y6 hy6 y7 hy7 y8 hy8 y9 hy9 y10 hy10 y11 hy11 (.val (.int x12)) rfl y14 hy14 y15 hy15 y16 hy16 y17 hy17 _ hr
  · replace hr := (if_neg c1).symm.trans hr
    refine Ev.iconst (z := 0) at_417 rfl ?_
    cases hr
    exact Ev.zret0 rfl at_418
def f_law_348 (n : Nat) (x0 : Int32) (x3 : Int32) (x11 : Int32) (x12 : Int32) (x13 : Int32) (x17 : Int32) (x18 : Int32) (z0 : Int32) (z1 : Int32) (s : St) : Option (Int32 × St) :=
  if z1 = z0 then
    if x18 = 0 then
      f_law_368 n x0 x12 x13 x18 (0 : Int32) x11 s
    else
      if x17 = 0 then
        f_law_368 n x0 x12 x13 x18 (0 : Int32) x11 s
      else
        f_law_368 n x0 x12 x13 x18 x3 x11 s
  else
    some ((0 : Int32), s)
set_option maxRecDepth 100000 in
theorem e_law_348 {g : GT} {n : Nat} (hw : HW g) {K : St → MHeap} {o : Nat} {r : Nat → Nat} (V : View (GG g) Ln K o r) (x0 : Int32) (x3 : Int32) (x11 : Int32) (x12 : Int32) (x13 : Int32) (x17 : Int32) (x18 : Int32) (z0 : Int32) (z1 : Int32) (s : St) (y1 : Slot) (hy1 : one1 y1 = true) (y2 : Slot) (hy2 : one1 y2 = true) (y4 : Slot) (hy4 : one1 y4 = true) (y5 : Slot) (hy5 : one1 y5 = true) (y6 : Slot) (hy6 : one1 y6 = true) (y7 : Slot) (hy7 : one1 y7 = true) (y8 : Slot) (hy8 : one1 y8 = true) (y9 : Slot) (hy9 : one1 y9 = true) (y10 : Slot) (hy10 : one1 y10 = true) (y14 : Slot) (hy14 : one1 y14 = true) (y15 : Slot) (hy15 : one1 y15 = true) (y16 : Slot) (hy16 : one1 y16 = true) (w : Int32 × St) (hr : f_law_348 n x0 x3 x11 x12 x13 x17 x18 z0 z1 s = some w) : Ev (GG g) M_law 348 [.val (.int x0), y1, y2, .val (.int x3), y4, y5, y6, y7, y8, y9, y10, .val (.int x11), .val (.int x12), .val (.int x13), y14, y15, y16, .val (.int x17), .val (.int x18)] [.int z0, .int z1] (K s) ((some (.int w.1)), (K w.2)) := by
  unfold f_law_348 at hr
  refine Ev.icne (t := 417) at_348 rfl (fun c1 => ?_) (fun c1 => ?_)
  · replace hr := (if_pos c1).symm.trans hr
    refine Ev.iload at_351 rfl ?_
    refine Ev.iload at_353 rfl ?_
    refine Ev.ifeq (t := 367) at_355 rfl (fun c2 => ?_) (fun c2 => ?_)
    · replace hr := (if_pos c2).symm.trans hr
      refine Ev.iconst (z := 0) at_367 rfl ?_
      exact e_law_368 hw V  x0 x12 x13 x18 (0 : Int32) x11 s y1 hy1 y2 hy2 (.val (.int x3)) rfl y4 hy4 y5 hy5 y6 hy6 y7 hy7 y8 hy8 y9 hy9 y10 hy10 (.val (.int x11)) rfl y14 hy14 y15 hy15 y16 hy16 (.val (.int x17)) rfl _ hr
    · replace hr := (if_neg c2).symm.trans hr
      refine Ev.iload at_358 rfl ?_
      refine Ev.ifeq (t := 367) at_360 rfl (fun c3 => ?_) (fun c3 => ?_)
      · replace hr := (if_pos c3).symm.trans hr
        refine Ev.iconst (z := 0) at_367 rfl ?_
        exact e_law_368 hw V  x0 x12 x13 x18 (0 : Int32) x11 s y1 hy1 y2 hy2 (.val (.int x3)) rfl y4 hy4 y5 hy5 y6 hy6 y7 hy7 y8 hy8 y9 hy9 y10 hy10 (.val (.int x11)) rfl y14 hy14 y15 hy15 y16 hy16 (.val (.int x17)) rfl _ hr
      · replace hr := (if_neg c3).symm.trans hr
        refine Ev.iloadN at_363 rfl ?_
        refine Ev.goto (t := 368) at_364 rfl ?_
        exact e_law_368 hw V  x0 x12 x13 x18 x3 x11 s y1 hy1 y2 hy2 (.val (.int x3)) rfl y4 hy4 y5 hy5 y6 hy6 y7 hy7 y8 hy8 y9 hy9 y10 hy10 (.val (.int x11)) rfl y14 hy14 y15 hy15 y16 hy16 (.val (.int x17)) rfl _ hr
  · replace hr := (if_neg c1).symm.trans hr
    refine Ev.iconst (z := 0) at_417 rfl ?_
    cases hr
    exact Ev.zret0 rfl at_418
def f_law_328 (n : Nat) (x0 : Int32) (x2 : Int32) (x3 : Int32) (x10 : Int32) (x11 : Int32) (x12 : Int32) (x13 : Int32) (x15 : Int32) (x17 : Int32) (x18 : Int32) (z0 : Int32) (z1 : Int32) (s : St) : Option (Int32 × St) :=
  if z1 = z0 then
    if x18 = 0 then
      f_law_348 n x0 x3 x11 x12 x13 x17 x18 (0 : Int32) x10 s
    else
      if x15 = 0 then
        f_law_348 n x0 x3 x11 x12 x13 x17 x18 (0 : Int32) x10 s
      else
        f_law_348 n x0 x3 x11 x12 x13 x17 x18 x2 x10 s
  else
    some ((0 : Int32), s)
set_option maxRecDepth 100000 in
theorem e_law_328 {g : GT} {n : Nat} (hw : HW g) {K : St → MHeap} {o : Nat} {r : Nat → Nat} (V : View (GG g) Ln K o r) (x0 : Int32) (x2 : Int32) (x3 : Int32) (x10 : Int32) (x11 : Int32) (x12 : Int32) (x13 : Int32) (x15 : Int32) (x17 : Int32) (x18 : Int32) (z0 : Int32) (z1 : Int32) (s : St) (y1 : Slot) (hy1 : one1 y1 = true) (y4 : Slot) (hy4 : one1 y4 = true) (y5 : Slot) (hy5 : one1 y5 = true) (y6 : Slot) (hy6 : one1 y6 = true) (y7 : Slot) (hy7 : one1 y7 = true) (y8 : Slot) (hy8 : one1 y8 = true) (y9 : Slot) (hy9 : one1 y9 = true) (y14 : Slot) (hy14 : one1 y14 = true) (y16 : Slot) (hy16 : one1 y16 = true) (w : Int32 × St) (hr : f_law_328 n x0 x2 x3 x10 x11 x12 x13 x15 x17 x18 z0 z1 s = some w) : Ev (GG g) M_law 328 [.val (.int x0), y1, .val (.int x2), .val (.int x3), y4, y5, y6, y7, y8, y9, .val (.int x10), .val (.int x11), .val (.int x12), .val (.int x13), y14, .val (.int x15), y16, .val (.int x17), .val (.int x18)] [.int z0, .int z1] (K s) ((some (.int w.1)), (K w.2)) := by
  unfold f_law_328 at hr
  refine Ev.icne (t := 417) at_328 rfl (fun c1 => ?_) (fun c1 => ?_)
  · replace hr := (if_pos c1).symm.trans hr
    refine Ev.iload at_331 rfl ?_
    refine Ev.iload at_333 rfl ?_
    refine Ev.ifeq (t := 347) at_335 rfl (fun c2 => ?_) (fun c2 => ?_)
    · replace hr := (if_pos c2).symm.trans hr
      refine Ev.iconst (z := 0) at_347 rfl ?_
      exact e_law_348 hw V  x0 x3 x11 x12 x13 x17 x18 (0 : Int32) x10 s y1 hy1 (.val (.int x2)) rfl y4 hy4 y5 hy5 y6 hy6 y7 hy7 y8 hy8 y9 hy9 (.val (.int x10)) rfl y14 hy14 (.val (.int x15)) rfl y16 hy16 _ hr
    · replace hr := (if_neg c2).symm.trans hr
      refine Ev.iload at_338 rfl ?_
      refine Ev.ifeq (t := 347) at_340 rfl (fun c3 => ?_) (fun c3 => ?_)
      · replace hr := (if_pos c3).symm.trans hr
        refine Ev.iconst (z := 0) at_347 rfl ?_
        exact e_law_348 hw V  x0 x3 x11 x12 x13 x17 x18 (0 : Int32) x10 s y1 hy1 (.val (.int x2)) rfl y4 hy4 y5 hy5 y6 hy6 y7 hy7 y8 hy8 y9 hy9 (.val (.int x10)) rfl y14 hy14 (.val (.int x15)) rfl y16 hy16 _ hr
      · replace hr := (if_neg c3).symm.trans hr
        refine Ev.iloadN at_343 rfl ?_
        refine Ev.goto (t := 348) at_344 rfl ?_
        exact e_law_348 hw V  x0 x3 x11 x12 x13 x17 x18 x2 x10 s y1 hy1 (.val (.int x2)) rfl y4 hy4 y5 hy5 y6 hy6 y7 hy7 y8 hy8 y9 hy9 (.val (.int x10)) rfl y14 hy14 (.val (.int x15)) rfl y16 hy16 _ hr
  · replace hr := (if_neg c1).symm.trans hr
    refine Ev.iconst (z := 0) at_417 rfl ?_
    cases hr
    exact Ev.zret0 rfl at_418
def f_law_308 (n : Nat) (x0 : Int32) (x1 : Int32) (x2 : Int32) (x3 : Int32) (x9 : Int32) (x10 : Int32) (x11 : Int32) (x12 : Int32) (x13 : Int32) (x14 : Int32) (x15 : Int32) (x17 : Int32) (x18 : Int32) (z0 : Int32) (z1 : Int32) (s : St) : Option (Int32 × St) :=
  if z1 = z0 then
    if x18 = 0 then
      f_law_328 n x0 x2 x3 x10 x11 x12 x13 x15 x17 x18 (0 : Int32) x9 s
    else
      if x14 = 0 then
        f_law_328 n x0 x2 x3 x10 x11 x12 x13 x15 x17 x18 (0 : Int32) x9 s
      else
        f_law_328 n x0 x2 x3 x10 x11 x12 x13 x15 x17 x18 x1 x9 s
  else
    some ((0 : Int32), s)
set_option maxRecDepth 100000 in
theorem e_law_308 {g : GT} {n : Nat} (hw : HW g) {K : St → MHeap} {o : Nat} {r : Nat → Nat} (V : View (GG g) Ln K o r) (x0 : Int32) (x1 : Int32) (x2 : Int32) (x3 : Int32) (x9 : Int32) (x10 : Int32) (x11 : Int32) (x12 : Int32) (x13 : Int32) (x14 : Int32) (x15 : Int32) (x17 : Int32) (x18 : Int32) (z0 : Int32) (z1 : Int32) (s : St) (y4 : Slot) (hy4 : one1 y4 = true) (y5 : Slot) (hy5 : one1 y5 = true) (y6 : Slot) (hy6 : one1 y6 = true) (y7 : Slot) (hy7 : one1 y7 = true) (y8 : Slot) (hy8 : one1 y8 = true) (y16 : Slot) (hy16 : one1 y16 = true) (w : Int32 × St) (hr : f_law_308 n x0 x1 x2 x3 x9 x10 x11 x12 x13 x14 x15 x17 x18 z0 z1 s = some w) : Ev (GG g) M_law 308 [.val (.int x0), .val (.int x1), .val (.int x2), .val (.int x3), y4, y5, y6, y7, y8, .val (.int x9), .val (.int x10), .val (.int x11), .val (.int x12), .val (.int x13), .val (.int x14), .val (.int x15), y16, .val (.int x17), .val (.int x18)] [.int z0, .int z1] (K s) ((some (.int w.1)), (K w.2)) := by
  unfold f_law_308 at hr
  refine Ev.icne (t := 417) at_308 rfl (fun c1 => ?_) (fun c1 => ?_)
  · replace hr := (if_pos c1).symm.trans hr
    refine Ev.iload at_311 rfl ?_
    refine Ev.iload at_313 rfl ?_
    refine Ev.ifeq (t := 327) at_315 rfl (fun c2 => ?_) (fun c2 => ?_)
    · replace hr := (if_pos c2).symm.trans hr
      refine Ev.iconst (z := 0) at_327 rfl ?_
      exact e_law_328 hw V  x0 x2 x3 x10 x11 x12 x13 x15 x17 x18 (0 : Int32) x9 s (.val (.int x1)) rfl y4 hy4 y5 hy5 y6 hy6 y7 hy7 y8 hy8 (.val (.int x9)) rfl (.val (.int x14)) rfl y16 hy16 _ hr
    · replace hr := (if_neg c2).symm.trans hr
      refine Ev.iload at_318 rfl ?_
      refine Ev.ifeq (t := 327) at_320 rfl (fun c3 => ?_) (fun c3 => ?_)
      · replace hr := (if_pos c3).symm.trans hr
        refine Ev.iconst (z := 0) at_327 rfl ?_
        exact e_law_328 hw V  x0 x2 x3 x10 x11 x12 x13 x15 x17 x18 (0 : Int32) x9 s (.val (.int x1)) rfl y4 hy4 y5 hy5 y6 hy6 y7 hy7 y8 hy8 (.val (.int x9)) rfl (.val (.int x14)) rfl y16 hy16 _ hr
      · replace hr := (if_neg c3).symm.trans hr
        refine Ev.iloadN at_323 rfl ?_
        refine Ev.goto (t := 328) at_324 rfl ?_
        exact e_law_328 hw V  x0 x2 x3 x10 x11 x12 x13 x15 x17 x18 x1 x9 s (.val (.int x1)) rfl y4 hy4 y5 hy5 y6 hy6 y7 hy7 y8 hy8 (.val (.int x9)) rfl (.val (.int x14)) rfl y16 hy16 _ hr
  · replace hr := (if_neg c1).symm.trans hr
    refine Ev.iconst (z := 0) at_417 rfl ?_
    cases hr
    exact Ev.zret0 rfl at_418
def f_law_293 (n : Nat) (x0 : Int32) (x1 : Int32) (x2 : Int32) (x3 : Int32) (x8 : Int32) (x9 : Int32) (x10 : Int32) (x11 : Int32) (x12 : Int32) (x13 : Int32) (x14 : Int32) (x15 : Int32) (x17 : Int32) (x18 : Int32) (z0 : Int32) (z1 : Int32) (s : St) : Option (Int32 × St) :=
  if z1 = z0 then
    if x18 = 0 then
      f_law_308 n x0 x1 x2 x3 x9 x10 x11 x12 x13 x14 x15 x17 x18 (0 : Int32) x8 s
    else
      f_law_308 n x0 x1 x2 x3 x9 x10 x11 x12 x13 x14 x15 x17 x18 x0 x8 s
  else
    some ((0 : Int32), s)
set_option maxRecDepth 100000 in
theorem e_law_293 {g : GT} {n : Nat} (hw : HW g) {K : St → MHeap} {o : Nat} {r : Nat → Nat} (V : View (GG g) Ln K o r) (x0 : Int32) (x1 : Int32) (x2 : Int32) (x3 : Int32) (x8 : Int32) (x9 : Int32) (x10 : Int32) (x11 : Int32) (x12 : Int32) (x13 : Int32) (x14 : Int32) (x15 : Int32) (x17 : Int32) (x18 : Int32) (z0 : Int32) (z1 : Int32) (s : St) (y4 : Slot) (hy4 : one1 y4 = true) (y5 : Slot) (hy5 : one1 y5 = true) (y6 : Slot) (hy6 : one1 y6 = true) (y7 : Slot) (hy7 : one1 y7 = true) (y16 : Slot) (hy16 : one1 y16 = true) (w : Int32 × St) (hr : f_law_293 n x0 x1 x2 x3 x8 x9 x10 x11 x12 x13 x14 x15 x17 x18 z0 z1 s = some w) : Ev (GG g) M_law 293 [.val (.int x0), .val (.int x1), .val (.int x2), .val (.int x3), y4, y5, y6, y7, .val (.int x8), .val (.int x9), .val (.int x10), .val (.int x11), .val (.int x12), .val (.int x13), .val (.int x14), .val (.int x15), y16, .val (.int x17), .val (.int x18)] [.int z0, .int z1] (K s) ((some (.int w.1)), (K w.2)) := by
  unfold f_law_293 at hr
  refine Ev.icne (t := 417) at_293 rfl (fun c1 => ?_) (fun c1 => ?_)
  · replace hr := (if_pos c1).symm.trans hr
    refine Ev.iload at_296 rfl ?_
    refine Ev.iload at_298 rfl ?_
    refine Ev.ifeq (t := 307) at_300 rfl (fun c2 => ?_) (fun c2 => ?_)
    · replace hr := (if_pos c2).symm.trans hr
      refine Ev.iconst (z := 0) at_307 rfl ?_
      exact e_law_308 hw V  x0 x1 x2 x3 x9 x10 x11 x12 x13 x14 x15 x17 x18 (0 : Int32) x8 s y4 hy4 y5 hy5 y6 hy6 y7 hy7 (.val (.int x8)) rfl y16 hy16 _ hr
    · replace hr := (if_neg c2).symm.trans hr
      refine Ev.iloadN at_303 rfl ?_
      refine Ev.goto (t := 308) at_304 rfl ?_
      exact e_law_308 hw V  x0 x1 x2 x3 x9 x10 x11 x12 x13 x14 x15 x17 x18 x0 x8 s y4 hy4 y5 hy5 y6 hy6 y7 hy7 (.val (.int x8)) rfl y16 hy16 _ hr
  · replace hr := (if_neg c1).symm.trans hr
    refine Ev.iconst (z := 0) at_417 rfl ?_
    cases hr
    exact Ev.zret0 rfl at_418
def f_law_267 (n : Nat) (x0 : Int32) (x1 : Int32) (x2 : Int32) (x3 : Int32) (x5 : Int32) (x6 : Int32) (x7 : Int32) (x8 : Int32) (x9 : Int32) (x10 : Int32) (x11 : Int32) (x12 : Int32) (x13 : Int32) (x14 : Int32) (x15 : Int32) (x17 : Int32) (z0 : Int32) (s : St) : Option (Int32 × St) :=
  if x5 = 0 then
    some ((0 : Int32), s)
  else
    if x6 = z0 then
      if z0 = 0 then
        f_law_293 n x0 x1 x2 x3 x8 x9 x10 x11 x12 x13 x14 x15 x17 z0 (0 : Int32) x7 s
      else
        f_law_293 n x0 x1 x2 x3 x8 x9 x10 x11 x12 x13 x14 x15 x17 z0 (1 : Int32) x7 s
    else
      some ((0 : Int32), s)
set_option maxRecDepth 100000 in
theorem e_law_267 {g : GT} {n : Nat} (hw : HW g) {K : St → MHeap} {o : Nat} {r : Nat → Nat} (V : View (GG g) Ln K o r) (x0 : Int32) (x1 : Int32) (x2 : Int32) (x3 : Int32) (x5 : Int32) (x6 : Int32) (x7 : Int32) (x8 : Int32) (x9 : Int32) (x10 : Int32) (x11 : Int32) (x12 : Int32) (x13 : Int32) (x14 : Int32) (x15 : Int32) (x17 : Int32) (z0 : Int32) (s : St) (y4 : Slot) (hy4 : one1 y4 = true) (y16 : Slot) (hy16 : one1 y16 = true) (y18 : Slot) (hy18 : one1 y18 = true) (w : Int32 × St) (hr : f_law_267 n x0 x1 x2 x3 x5 x6 x7 x8 x9 x10 x11 x12 x13 x14 x15 x17 z0 s = some w) : Ev (GG g) M_law 267 [.val (.int x0), .val (.int x1), .val (.int x2), .val (.int x3), y4, .val (.int x5), .val (.int x6), .val (.int x7), .val (.int x8), .val (.int x9), .val (.int x10), .val (.int x11), .val (.int x12), .val (.int x13), .val (.int x14), .val (.int x15), y16, .val (.int x17), y18] [.int z0] (K s) ((some (.int w.1)), (K w.2)) := by
  unfold f_law_267 at hr
  refine Ev.istD (L' := [.val (.int x0), .val (.int x1), .val (.int x2), .val (.int x3), y4, .val (.int x5), .val (.int x6), .val (.int x7), .val (.int x8), .val (.int x9), .val (.int x10), .val (.int x11), .val (.int x12), .val (.int x13), .val (.int x14), .val (.int x15), y16, .val (.int x17), .val (.int z0)]) at_267 rfl hy18 rfl ?_
  refine Ev.iload at_269 rfl ?_
  refine Ev.ifeq (t := 417) at_271 rfl (fun c1 => ?_) (fun c1 => ?_)
  · replace hr := (if_pos c1).symm.trans hr
    refine Ev.iconst (z := 0) at_417 rfl ?_
    cases hr
    exact Ev.zret0 rfl at_418
  · replace hr := (if_neg c1).symm.trans hr
    refine Ev.iload at_274 rfl ?_
    refine Ev.iload at_276 rfl ?_
    refine Ev.icne (t := 417) at_278 rfl (fun c2 => ?_) (fun c2 => ?_)
    · replace hr := (if_pos c2).symm.trans hr
      refine Ev.iload at_281 rfl ?_
      refine Ev.iload at_283 rfl ?_
      refine Ev.ifeq (t := 292) at_285 rfl (fun c3 => ?_) (fun c3 => ?_)
      · replace hr := (if_pos c3).symm.trans hr
        refine Ev.iconst (z := 0) at_292 rfl ?_
        exact e_law_293 hw V  x0 x1 x2 x3 x8 x9 x10 x11 x12 x13 x14 x15 x17 z0 (0 : Int32) x7 s y4 hy4 (.val (.int x5)) rfl (.val (.int x6)) rfl (.val (.int x7)) rfl y16 hy16 _ hr
      · replace hr := (if_neg c3).symm.trans hr
        refine Ev.iconst (z := 1) at_288 rfl ?_
        refine Ev.goto (t := 293) at_289 rfl ?_
        exact e_law_293 hw V  x0 x1 x2 x3 x8 x9 x10 x11 x12 x13 x14 x15 x17 z0 (1 : Int32) x7 s y4 hy4 (.val (.int x5)) rfl (.val (.int x6)) rfl (.val (.int x7)) rfl y16 hy16 _ hr
    · replace hr := (if_neg c2).symm.trans hr
      refine Ev.iconst (z := 0) at_417 rfl ?_
      cases hr
      exact Ev.zret0 rfl at_418
def f_law_240 (n : Nat) (x0 : Int32) (x1 : Int32) (x2 : Int32) (x3 : Int32) (x5 : Int32) (x6 : Int32) (x7 : Int32) (x8 : Int32) (x9 : Int32) (x10 : Int32) (x11 : Int32) (x12 : Int32) (x13 : Int32) (x14 : Int32) (x15 : Int32) (x17 : Int32) (s : St) : Option (Int32 × St) :=
  if x0 = (10 : Int32) then
    if x3 < (-128 : Int32) then
      f_law_267 n x0 x1 x2 x3 x5 x6 x7 x8 x9 x10 x11 x12 x13 x14 x15 x17 (0 : Int32) s
    else
      if (127 : Int32) < x3 then
        f_law_267 n x0 x1 x2 x3 x5 x6 x7 x8 x9 x10 x11 x12 x13 x14 x15 x17 (0 : Int32) s
      else
        if x3 = 0 then
          f_law_267 n x0 x1 x2 x3 x5 x6 x7 x8 x9 x10 x11 x12 x13 x14 x15 x17 (0 : Int32) s
        else
          f_law_267 n x0 x1 x2 x3 x5 x6 x7 x8 x9 x10 x11 x12 x13 x14 x15 x17 (1 : Int32) s
  else
    f_law_267 n x0 x1 x2 x3 x5 x6 x7 x8 x9 x10 x11 x12 x13 x14 x15 x17 (1 : Int32) s
set_option maxRecDepth 100000 in
theorem e_law_240 {g : GT} {n : Nat} (hw : HW g) {K : St → MHeap} {o : Nat} {r : Nat → Nat} (V : View (GG g) Ln K o r) (x0 : Int32) (x1 : Int32) (x2 : Int32) (x3 : Int32) (x5 : Int32) (x6 : Int32) (x7 : Int32) (x8 : Int32) (x9 : Int32) (x10 : Int32) (x11 : Int32) (x12 : Int32) (x13 : Int32) (x14 : Int32) (x15 : Int32) (x17 : Int32) (s : St) (y4 : Slot) (hy4 : one1 y4 = true) (y16 : Slot) (hy16 : one1 y16 = true) (y18 : Slot) (hy18 : one1 y18 = true) (w : Int32 × St) (hr : f_law_240 n x0 x1 x2 x3 x5 x6 x7 x8 x9 x10 x11 x12 x13 x14 x15 x17 s = some w) : Ev (GG g) M_law 240 [.val (.int x0), .val (.int x1), .val (.int x2), .val (.int x3), y4, .val (.int x5), .val (.int x6), .val (.int x7), .val (.int x8), .val (.int x9), .val (.int x10), .val (.int x11), .val (.int x12), .val (.int x13), .val (.int x14), .val (.int x15), y16, .val (.int x17), y18] [] (K s) ((some (.int w.1)), (K w.2)) := by
  unfold f_law_240 at hr
  refine Ev.iloadN at_240 rfl ?_
  refine Ev.bipush (z := 10) at_241 rfl ?_
  refine Ev.icne (t := 262) at_243 rfl (fun c1 => ?_) (fun c1 => ?_)
  · replace hr := (if_pos c1).symm.trans hr
    refine Ev.iloadN at_246 rfl ?_
    refine Ev.bipush (z := -128) at_247 rfl ?_
    refine Ev.iclt (t := 266) at_249 rfl (fun c2 => ?_) (fun c2 => ?_)
    · replace hr := (if_pos c2).symm.trans hr
      refine Ev.iconst (z := 0) at_266 rfl ?_
      exact e_law_267 hw V  x0 x1 x2 x3 x5 x6 x7 x8 x9 x10 x11 x12 x13 x14 x15 x17 (0 : Int32) s y4 hy4 y16 hy16 y18 hy18 _ hr
    · replace hr := (if_neg c2).symm.trans hr
      refine Ev.iloadN at_252 rfl ?_
      refine Ev.bipush (z := 127) at_253 rfl ?_
      refine Ev.icgt (t := 266) at_255 rfl (fun c3 => ?_) (fun c3 => ?_)
      · replace hr := (if_pos c3).symm.trans hr
        refine Ev.iconst (z := 0) at_266 rfl ?_
        exact e_law_267 hw V  x0 x1 x2 x3 x5 x6 x7 x8 x9 x10 x11 x12 x13 x14 x15 x17 (0 : Int32) s y4 hy4 y16 hy16 y18 hy18 _ hr
      · replace hr := (if_neg c3).symm.trans hr
        refine Ev.iloadN at_258 rfl ?_
        refine Ev.ifeq (t := 266) at_259 rfl (fun c4 => ?_) (fun c4 => ?_)
        · replace hr := (if_pos c4).symm.trans hr
          refine Ev.iconst (z := 0) at_266 rfl ?_
          exact e_law_267 hw V  x0 x1 x2 x3 x5 x6 x7 x8 x9 x10 x11 x12 x13 x14 x15 x17 (0 : Int32) s y4 hy4 y16 hy16 y18 hy18 _ hr
        · replace hr := (if_neg c4).symm.trans hr
          refine Ev.iconst (z := 1) at_262 rfl ?_
          refine Ev.goto (t := 267) at_263 rfl ?_
          exact e_law_267 hw V  x0 x1 x2 x3 x5 x6 x7 x8 x9 x10 x11 x12 x13 x14 x15 x17 (1 : Int32) s y4 hy4 y16 hy16 y18 hy18 _ hr
  · replace hr := (if_neg c1).symm.trans hr
    refine Ev.iconst (z := 1) at_262 rfl ?_
    refine Ev.goto (t := 267) at_263 rfl ?_
    exact e_law_267 hw V  x0 x1 x2 x3 x5 x6 x7 x8 x9 x10 x11 x12 x13 x14 x15 x17 (1 : Int32) s y4 hy4 y16 hy16 y18 hy18 _ hr
def f_law_228 (n : Nat) (x0 : Int32) (x1 : Int32) (x2 : Int32) (x3 : Int32) (x5 : Int32) (x6 : Int32) (x7 : Int32) (x8 : Int32) (x9 : Int32) (x10 : Int32) (x11 : Int32) (x12 : Int32) (x13 : Int32) (x14 : Int32) (x15 : Int32) (x16 : Int32) (x17 : Int32) (s : St) : Option (Int32 × St) :=
  if x16 = 0 then
    f_law_240 n x0 x1 x2 x3 x5 x6 x7 x8 x9 x10 x11 x12 x13 x14 x15 x17 s
  else
    (f_hv x3).bind fun q2 =>
    if q2 = 0 then
      f_law_267 n x0 x1 x2 x3 x5 x6 x7 x8 x9 x10 x11 x12 x13 x14 x15 x17 (0 : Int32) s
    else
      f_law_240 n x0 x1 x2 x3 x5 x6 x7 x8 x9 x10 x11 x12 x13 x14 x15 x17 s
set_option maxRecDepth 100000 in
theorem e_law_228 {g : GT} {n : Nat} (hw : HW g) {K : St → MHeap} {o : Nat} {r : Nat → Nat} (V : View (GG g) Ln K o r) (x0 : Int32) (x1 : Int32) (x2 : Int32) (x3 : Int32) (x5 : Int32) (x6 : Int32) (x7 : Int32) (x8 : Int32) (x9 : Int32) (x10 : Int32) (x11 : Int32) (x12 : Int32) (x13 : Int32) (x14 : Int32) (x15 : Int32) (x16 : Int32) (x17 : Int32) (s : St) (y4 : Slot) (hy4 : one1 y4 = true) (y18 : Slot) (hy18 : one1 y18 = true) (w : Int32 × St) (hr : f_law_228 n x0 x1 x2 x3 x5 x6 x7 x8 x9 x10 x11 x12 x13 x14 x15 x16 x17 s = some w) : Ev (GG g) M_law 228 [.val (.int x0), .val (.int x1), .val (.int x2), .val (.int x3), y4, .val (.int x5), .val (.int x6), .val (.int x7), .val (.int x8), .val (.int x9), .val (.int x10), .val (.int x11), .val (.int x12), .val (.int x13), .val (.int x14), .val (.int x15), .val (.int x16), .val (.int x17), y18] [] (K s) ((some (.int w.1)), (K w.2)) := by
  unfold f_law_228 at hr
  refine Ev.iload at_228 rfl ?_
  refine Ev.ifeq (t := 240) at_230 rfl (fun c1 => ?_) (fun c1 => ?_)
  · replace hr := (if_pos c1).symm.trans hr
    exact e_law_240 hw V  x0 x1 x2 x3 x5 x6 x7 x8 x9 x10 x11 x12 x13 x14 x15 x17 s y4 hy4 (.val (.int x16)) rfl y18 hy18 _ hr
  · replace hr := (if_neg c1).symm.trans hr
    refine Ev.iloadN at_233 rfl ?_
    obtain ⟨q2, hq3, hr⟩ := Option.bind_eq_some_iff.mp hr
    refine Ev.stat (y := M_hv) (args := [.int x3]) (rest := []) nm_hv (ww hw 144 rfl) (ww hw 145 rfl) (ww hw 146 rfl) (ww hw 147 rfl) (lenOf pd_hv rfl) at_234 (e_hv hw hq3) (by decide) (Nat.le_of_ble_eq_true rfl) rfl ?_
    refine Ev.ifeq (t := 266) at_237 rfl (fun c4 => ?_) (fun c4 => ?_)
    · replace hr := (if_pos c4).symm.trans hr
      refine Ev.iconst (z := 0) at_266 rfl ?_
      exact e_law_267 hw V  x0 x1 x2 x3 x5 x6 x7 x8 x9 x10 x11 x12 x13 x14 x15 x17 (0 : Int32) s y4 hy4 (.val (.int x16)) rfl y18 hy18 _ hr
    · replace hr := (if_neg c4).symm.trans hr
      exact e_law_240 hw V  x0 x1 x2 x3 x5 x6 x7 x8 x9 x10 x11 x12 x13 x14 x15 x17 s y4 hy4 (.val (.int x16)) rfl y18 hy18 _ hr
def f_law_216 (n : Nat) (x0 : Int32) (x1 : Int32) (x2 : Int32) (x3 : Int32) (x5 : Int32) (x6 : Int32) (x7 : Int32) (x8 : Int32) (x9 : Int32) (x10 : Int32) (x11 : Int32) (x12 : Int32) (x13 : Int32) (x14 : Int32) (x15 : Int32) (x16 : Int32) (x17 : Int32) (s : St) : Option (Int32 × St) :=
  if x15 = 0 then
    f_law_228 n x0 x1 x2 x3 x5 x6 x7 x8 x9 x10 x11 x12 x13 x14 x15 x16 x17 s
  else
    (f_hv x2).bind fun q2 =>
    if q2 = 0 then
      f_law_267 n x0 x1 x2 x3 x5 x6 x7 x8 x9 x10 x11 x12 x13 x14 x15 x17 (0 : Int32) s
    else
      f_law_228 n x0 x1 x2 x3 x5 x6 x7 x8 x9 x10 x11 x12 x13 x14 x15 x16 x17 s
set_option maxRecDepth 100000 in
theorem e_law_216 {g : GT} {n : Nat} (hw : HW g) {K : St → MHeap} {o : Nat} {r : Nat → Nat} (V : View (GG g) Ln K o r) (x0 : Int32) (x1 : Int32) (x2 : Int32) (x3 : Int32) (x5 : Int32) (x6 : Int32) (x7 : Int32) (x8 : Int32) (x9 : Int32) (x10 : Int32) (x11 : Int32) (x12 : Int32) (x13 : Int32) (x14 : Int32) (x15 : Int32) (x16 : Int32) (x17 : Int32) (s : St) (y4 : Slot) (hy4 : one1 y4 = true) (y18 : Slot) (hy18 : one1 y18 = true) (w : Int32 × St) (hr : f_law_216 n x0 x1 x2 x3 x5 x6 x7 x8 x9 x10 x11 x12 x13 x14 x15 x16 x17 s = some w) : Ev (GG g) M_law 216 [.val (.int x0), .val (.int x1), .val (.int x2), .val (.int x3), y4, .val (.int x5), .val (.int x6), .val (.int x7), .val (.int x8), .val (.int x9), .val (.int x10), .val (.int x11), .val (.int x12), .val (.int x13), .val (.int x14), .val (.int x15), .val (.int x16), .val (.int x17), y18] [] (K s) ((some (.int w.1)), (K w.2)) := by
  unfold f_law_216 at hr
  refine Ev.iload at_216 rfl ?_
  refine Ev.ifeq (t := 228) at_218 rfl (fun c1 => ?_) (fun c1 => ?_)
  · replace hr := (if_pos c1).symm.trans hr
    exact e_law_228 hw V  x0 x1 x2 x3 x5 x6 x7 x8 x9 x10 x11 x12 x13 x14 x15 x16 x17 s y4 hy4 y18 hy18 _ hr
  · replace hr := (if_neg c1).symm.trans hr
    refine Ev.iloadN at_221 rfl ?_
    obtain ⟨q2, hq3, hr⟩ := Option.bind_eq_some_iff.mp hr
    refine Ev.stat (y := M_hv) (args := [.int x2]) (rest := []) nm_hv (ww hw 144 rfl) (ww hw 145 rfl) (ww hw 146 rfl) (ww hw 147 rfl) (lenOf pd_hv rfl) at_222 (e_hv hw hq3) (by decide) (Nat.le_of_ble_eq_true rfl) rfl ?_
    refine Ev.ifeq (t := 266) at_225 rfl (fun c4 => ?_) (fun c4 => ?_)
    · replace hr := (if_pos c4).symm.trans hr
      refine Ev.iconst (z := 0) at_266 rfl ?_
      exact e_law_267 hw V  x0 x1 x2 x3 x5 x6 x7 x8 x9 x10 x11 x12 x13 x14 x15 x17 (0 : Int32) s y4 hy4 (.val (.int x16)) rfl y18 hy18 _ hr
    · replace hr := (if_neg c4).symm.trans hr
      exact e_law_228 hw V  x0 x1 x2 x3 x5 x6 x7 x8 x9 x10 x11 x12 x13 x14 x15 x16 x17 s y4 hy4 y18 hy18 _ hr
def f_law_173 (n : Nat) (x0 : Int32) (x1 : Int32) (x2 : Int32) (x3 : Int32) (x5 : Int32) (x6 : Int32) (x7 : Int32) (x8 : Int32) (x9 : Int32) (x10 : Int32) (x11 : Int32) (x12 : Int32) (x13 : Int32) (x14 : Int32) (x15 : Int32) (x16 : Int32) (z0 : Int32) (s : St) : Option (Int32 × St) :=
  if x0 < (1 : Int32) then
    f_law_267 n x0 x1 x2 x3 x5 x6 x7 x8 x9 x10 x11 x12 x13 x14 x15 z0 (0 : Int32) s
  else
    if (14 : Int32) < x0 then
      f_law_267 n x0 x1 x2 x3 x5 x6 x7 x8 x9 x10 x11 x12 x13 x14 x15 z0 (0 : Int32) s
    else
      if x0 = (11 : Int32) then
        f_law_267 n x0 x1 x2 x3 x5 x6 x7 x8 x9 x10 x11 x12 x13 x14 x15 z0 (0 : Int32) s
      else
        if x0 = (13 : Int32) then
          f_law_267 n x0 x1 x2 x3 x5 x6 x7 x8 x9 x10 x11 x12 x13 x14 x15 z0 (0 : Int32) s
        else
          if x0 = (14 : Int32) then
            f_law_267 n x0 x1 x2 x3 x5 x6 x7 x8 x9 x10 x11 x12 x13 x14 x15 z0 (0 : Int32) s
          else
            if x14 = 0 then
              f_law_216 n x0 x1 x2 x3 x5 x6 x7 x8 x9 x10 x11 x12 x13 x14 x15 x16 z0 s
            else
              (f_hv x1).bind fun q7 =>
              if q7 = 0 then
                f_law_267 n x0 x1 x2 x3 x5 x6 x7 x8 x9 x10 x11 x12 x13 x14 x15 z0 (0 : Int32) s
              else
                f_law_216 n x0 x1 x2 x3 x5 x6 x7 x8 x9 x10 x11 x12 x13 x14 x15 x16 z0 s
set_option maxRecDepth 100000 in
theorem e_law_173 {g : GT} {n : Nat} (hw : HW g) {K : St → MHeap} {o : Nat} {r : Nat → Nat} (V : View (GG g) Ln K o r) (x0 : Int32) (x1 : Int32) (x2 : Int32) (x3 : Int32) (x5 : Int32) (x6 : Int32) (x7 : Int32) (x8 : Int32) (x9 : Int32) (x10 : Int32) (x11 : Int32) (x12 : Int32) (x13 : Int32) (x14 : Int32) (x15 : Int32) (x16 : Int32) (z0 : Int32) (s : St) (y4 : Slot) (hy4 : one1 y4 = true) (y17 : Slot) (hy17 : one1 y17 = true) (y18 : Slot) (hy18 : one1 y18 = true) (w : Int32 × St) (hr : f_law_173 n x0 x1 x2 x3 x5 x6 x7 x8 x9 x10 x11 x12 x13 x14 x15 x16 z0 s = some w) : Ev (GG g) M_law 173 [.val (.int x0), .val (.int x1), .val (.int x2), .val (.int x3), y4, .val (.int x5), .val (.int x6), .val (.int x7), .val (.int x8), .val (.int x9), .val (.int x10), .val (.int x11), .val (.int x12), .val (.int x13), .val (.int x14), .val (.int x15), .val (.int x16), y17, y18] [.int z0] (K s) ((some (.int w.1)), (K w.2)) := by
  unfold f_law_173 at hr
  refine Ev.istD (L' := [.val (.int x0), .val (.int x1), .val (.int x2), .val (.int x3), y4, .val (.int x5), .val (.int x6), .val (.int x7), .val (.int x8), .val (.int x9), .val (.int x10), .val (.int x11), .val (.int x12), .val (.int x13), .val (.int x14), .val (.int x15), .val (.int x16), .val (.int z0), y18]) at_173 rfl hy17 rfl ?_
  refine Ev.iloadN at_175 rfl ?_
  refine Ev.iconst (z := 1) at_176 rfl ?_
  refine Ev.iclt (t := 266) at_177 rfl (fun c1 => ?_) (fun c1 => ?_)
  · replace hr := (if_pos c1).symm.trans hr
    refine Ev.iconst (z := 0) at_266 rfl ?_
    exact e_law_267 hw V  x0 x1 x2 x3 x5 x6 x7 x8 x9 x10 x11 x12 x13 x14 x15 z0 (0 : Int32) s y4 hy4 (.val (.int x16)) rfl y18 hy18 _ hr
  · replace hr := (if_neg c1).symm.trans hr
    refine Ev.iloadN at_180 rfl ?_
    refine Ev.bipush (z := 14) at_181 rfl ?_
    refine Ev.icgt (t := 266) at_183 rfl (fun c2 => ?_) (fun c2 => ?_)
    · replace hr := (if_pos c2).symm.trans hr
      refine Ev.iconst (z := 0) at_266 rfl ?_
      exact e_law_267 hw V  x0 x1 x2 x3 x5 x6 x7 x8 x9 x10 x11 x12 x13 x14 x15 z0 (0 : Int32) s y4 hy4 (.val (.int x16)) rfl y18 hy18 _ hr
    · replace hr := (if_neg c2).symm.trans hr
      refine Ev.iloadN at_186 rfl ?_
      refine Ev.bipush (z := 11) at_187 rfl ?_
      refine Ev.iceq (t := 266) at_189 rfl (fun c3 => ?_) (fun c3 => ?_)
      · replace hr := (if_pos c3).symm.trans hr
        refine Ev.iconst (z := 0) at_266 rfl ?_
        exact e_law_267 hw V  x0 x1 x2 x3 x5 x6 x7 x8 x9 x10 x11 x12 x13 x14 x15 z0 (0 : Int32) s y4 hy4 (.val (.int x16)) rfl y18 hy18 _ hr
      · replace hr := (if_neg c3).symm.trans hr
        refine Ev.iloadN at_192 rfl ?_
        refine Ev.bipush (z := 13) at_193 rfl ?_
        refine Ev.iceq (t := 266) at_195 rfl (fun c4 => ?_) (fun c4 => ?_)
        · replace hr := (if_pos c4).symm.trans hr
          refine Ev.iconst (z := 0) at_266 rfl ?_
          exact e_law_267 hw V  x0 x1 x2 x3 x5 x6 x7 x8 x9 x10 x11 x12 x13 x14 x15 z0 (0 : Int32) s y4 hy4 (.val (.int x16)) rfl y18 hy18 _ hr
        · replace hr := (if_neg c4).symm.trans hr
          refine Ev.iloadN at_198 rfl ?_
          refine Ev.bipush (z := 14) at_199 rfl ?_
          refine Ev.iceq (t := 266) at_201 rfl (fun c5 => ?_) (fun c5 => ?_)
          · replace hr := (if_pos c5).symm.trans hr
            refine Ev.iconst (z := 0) at_266 rfl ?_
            exact e_law_267 hw V  x0 x1 x2 x3 x5 x6 x7 x8 x9 x10 x11 x12 x13 x14 x15 z0 (0 : Int32) s y4 hy4 (.val (.int x16)) rfl y18 hy18 _ hr
          · replace hr := (if_neg c5).symm.trans hr
            refine Ev.iload at_204 rfl ?_
            refine Ev.ifeq (t := 216) at_206 rfl (fun c6 => ?_) (fun c6 => ?_)
            · replace hr := (if_pos c6).symm.trans hr
              exact e_law_216 hw V  x0 x1 x2 x3 x5 x6 x7 x8 x9 x10 x11 x12 x13 x14 x15 x16 z0 s y4 hy4 y18 hy18 _ hr
            · replace hr := (if_neg c6).symm.trans hr
              refine Ev.iloadN at_209 rfl ?_
              obtain ⟨q7, hq8, hr⟩ := Option.bind_eq_some_iff.mp hr
              refine Ev.stat (y := M_hv) (args := [.int x1]) (rest := []) nm_hv (ww hw 144 rfl) (ww hw 145 rfl) (ww hw 146 rfl) (ww hw 147 rfl) (lenOf pd_hv rfl) at_210 (e_hv hw hq8) (by decide) (Nat.le_of_ble_eq_true rfl) rfl ?_
              refine Ev.ifeq (t := 266) at_213 rfl (fun c9 => ?_) (fun c9 => ?_)
              · replace hr := (if_pos c9).symm.trans hr
                refine Ev.iconst (z := 0) at_266 rfl ?_
                exact e_law_267 hw V  x0 x1 x2 x3 x5 x6 x7 x8 x9 x10 x11 x12 x13 x14 x15 z0 (0 : Int32) s y4 hy4 (.val (.int x16)) rfl y18 hy18 _ hr
              · replace hr := (if_neg c9).symm.trans hr
                exact e_law_216 hw V  x0 x1 x2 x3 x5 x6 x7 x8 x9 x10 x11 x12 x13 x14 x15 x16 z0 s y4 hy4 y18 hy18 _ hr
def f_law_162 (n : Nat) (x0 : Int32) (x1 : Int32) (x2 : Int32) (x3 : Int32) (x5 : Int32) (x6 : Int32) (x7 : Int32) (x8 : Int32) (x9 : Int32) (x10 : Int32) (x11 : Int32) (x12 : Int32) (x13 : Int32) (x14 : Int32) (x15 : Int32) (x16 : Int32) (s : St) : Option (Int32 × St) :=
  if x0 = (10 : Int32) then
    f_law_173 n x0 x1 x2 x3 x5 x6 x7 x8 x9 x10 x11 x12 x13 x14 x15 x16 (1 : Int32) s
  else
    f_law_173 n x0 x1 x2 x3 x5 x6 x7 x8 x9 x10 x11 x12 x13 x14 x15 x16 (0 : Int32) s
set_option maxRecDepth 100000 in
theorem e_law_162 {g : GT} {n : Nat} (hw : HW g) {K : St → MHeap} {o : Nat} {r : Nat → Nat} (V : View (GG g) Ln K o r) (x0 : Int32) (x1 : Int32) (x2 : Int32) (x3 : Int32) (x5 : Int32) (x6 : Int32) (x7 : Int32) (x8 : Int32) (x9 : Int32) (x10 : Int32) (x11 : Int32) (x12 : Int32) (x13 : Int32) (x14 : Int32) (x15 : Int32) (x16 : Int32) (s : St) (y4 : Slot) (hy4 : one1 y4 = true) (y17 : Slot) (hy17 : one1 y17 = true) (y18 : Slot) (hy18 : one1 y18 = true) (w : Int32 × St) (hr : f_law_162 n x0 x1 x2 x3 x5 x6 x7 x8 x9 x10 x11 x12 x13 x14 x15 x16 s = some w) : Ev (GG g) M_law 162 [.val (.int x0), .val (.int x1), .val (.int x2), .val (.int x3), y4, .val (.int x5), .val (.int x6), .val (.int x7), .val (.int x8), .val (.int x9), .val (.int x10), .val (.int x11), .val (.int x12), .val (.int x13), .val (.int x14), .val (.int x15), .val (.int x16), y17, y18] [] (K s) ((some (.int w.1)), (K w.2)) := by
  unfold f_law_162 at hr
  refine Ev.iloadN at_162 rfl ?_
  refine Ev.bipush (z := 10) at_163 rfl ?_
  refine Ev.icne (t := 172) at_165 rfl (fun c1 => ?_) (fun c1 => ?_)
  · replace hr := (if_pos c1).symm.trans hr
    refine Ev.iconst (z := 1) at_168 rfl ?_
    refine Ev.goto (t := 173) at_169 rfl ?_
    exact e_law_173 hw V  x0 x1 x2 x3 x5 x6 x7 x8 x9 x10 x11 x12 x13 x14 x15 x16 (1 : Int32) s y4 hy4 y17 hy17 y18 hy18 _ hr
  · replace hr := (if_neg c1).symm.trans hr
    refine Ev.iconst (z := 0) at_172 rfl ?_
    exact e_law_173 hw V  x0 x1 x2 x3 x5 x6 x7 x8 x9 x10 x11 x12 x13 x14 x15 x16 (0 : Int32) s y4 hy4 y17 hy17 y18 hy18 _ hr
def f_law_149 (n : Nat) (x0 : Int32) (x1 : Int32) (x2 : Int32) (x3 : Int32) (x5 : Int32) (x6 : Int32) (x7 : Int32) (x8 : Int32) (x9 : Int32) (x10 : Int32) (x11 : Int32) (x12 : Int32) (x13 : Int32) (x14 : Int32) (x15 : Int32) (z0 : Int32) (s : St) : Option (Int32 × St) :=
  if x0 < (1 : Int32) then
    f_law_162 n x0 x1 x2 x3 x5 x6 x7 x8 x9 x10 x11 x12 x13 x14 x15 z0 s
  else
    if (8 : Int32) < x0 then
      f_law_162 n x0 x1 x2 x3 x5 x6 x7 x8 x9 x10 x11 x12 x13 x14 x15 z0 s
    else
      f_law_173 n x0 x1 x2 x3 x5 x6 x7 x8 x9 x10 x11 x12 x13 x14 x15 z0 (1 : Int32) s
set_option maxRecDepth 100000 in
theorem e_law_149 {g : GT} {n : Nat} (hw : HW g) {K : St → MHeap} {o : Nat} {r : Nat → Nat} (V : View (GG g) Ln K o r) (x0 : Int32) (x1 : Int32) (x2 : Int32) (x3 : Int32) (x5 : Int32) (x6 : Int32) (x7 : Int32) (x8 : Int32) (x9 : Int32) (x10 : Int32) (x11 : Int32) (x12 : Int32) (x13 : Int32) (x14 : Int32) (x15 : Int32) (z0 : Int32) (s : St) (y4 : Slot) (hy4 : one1 y4 = true) (y16 : Slot) (hy16 : one1 y16 = true) (y17 : Slot) (hy17 : one1 y17 = true) (y18 : Slot) (hy18 : one1 y18 = true) (w : Int32 × St) (hr : f_law_149 n x0 x1 x2 x3 x5 x6 x7 x8 x9 x10 x11 x12 x13 x14 x15 z0 s = some w) : Ev (GG g) M_law 149 [.val (.int x0), .val (.int x1), .val (.int x2), .val (.int x3), y4, .val (.int x5), .val (.int x6), .val (.int x7), .val (.int x8), .val (.int x9), .val (.int x10), .val (.int x11), .val (.int x12), .val (.int x13), .val (.int x14), .val (.int x15), y16, y17, y18] [.int z0] (K s) ((some (.int w.1)), (K w.2)) := by
  unfold f_law_149 at hr
  refine Ev.istD (L' := [.val (.int x0), .val (.int x1), .val (.int x2), .val (.int x3), y4, .val (.int x5), .val (.int x6), .val (.int x7), .val (.int x8), .val (.int x9), .val (.int x10), .val (.int x11), .val (.int x12), .val (.int x13), .val (.int x14), .val (.int x15), .val (.int z0), y17, y18]) at_149 rfl hy16 rfl ?_
  refine Ev.iloadN at_151 rfl ?_
  refine Ev.iconst (z := 1) at_152 rfl ?_
  refine Ev.iclt (t := 162) at_153 rfl (fun c1 => ?_) (fun c1 => ?_)
  · replace hr := (if_pos c1).symm.trans hr
    exact e_law_162 hw V  x0 x1 x2 x3 x5 x6 x7 x8 x9 x10 x11 x12 x13 x14 x15 z0 s y4 hy4 y17 hy17 y18 hy18 _ hr
  · replace hr := (if_neg c1).symm.trans hr
    refine Ev.iloadN at_156 rfl ?_
    refine Ev.bipush (z := 8) at_157 rfl ?_
    refine Ev.icle (t := 168) at_159 rfl (fun c2 => ?_) (fun c2 => ?_)
    · replace hr := (if_pos c2).symm.trans hr
      exact e_law_162 hw V  x0 x1 x2 x3 x5 x6 x7 x8 x9 x10 x11 x12 x13 x14 x15 z0 s y4 hy4 y17 hy17 y18 hy18 _ hr
    · replace hr := (if_neg c2).symm.trans hr
      refine Ev.iconst (z := 1) at_168 rfl ?_
      refine Ev.goto (t := 173) at_169 rfl ?_
      exact e_law_173 hw V  x0 x1 x2 x3 x5 x6 x7 x8 x9 x10 x11 x12 x13 x14 x15 z0 (1 : Int32) s y4 hy4 y17 hy17 y18 hy18 _ hr
def f_law_131 (n : Nat) (x0 : Int32) (x1 : Int32) (x2 : Int32) (x3 : Int32) (x5 : Int32) (x6 : Int32) (x7 : Int32) (x8 : Int32) (x9 : Int32) (x10 : Int32) (x11 : Int32) (x12 : Int32) (x13 : Int32) (x14 : Int32) (z0 : Int32) (s : St) : Option (Int32 × St) :=
  if x0 < (2 : Int32) then
    f_law_149 n x0 x1 x2 x3 x5 x6 x7 x8 x9 x10 x11 x12 x13 x14 z0 (0 : Int32) s
  else
    if (7 : Int32) < x0 then
      f_law_149 n x0 x1 x2 x3 x5 x6 x7 x8 x9 x10 x11 x12 x13 x14 z0 (0 : Int32) s
    else
      f_law_149 n x0 x1 x2 x3 x5 x6 x7 x8 x9 x10 x11 x12 x13 x14 z0 (1 : Int32) s
set_option maxRecDepth 100000 in
theorem e_law_131 {g : GT} {n : Nat} (hw : HW g) {K : St → MHeap} {o : Nat} {r : Nat → Nat} (V : View (GG g) Ln K o r) (x0 : Int32) (x1 : Int32) (x2 : Int32) (x3 : Int32) (x5 : Int32) (x6 : Int32) (x7 : Int32) (x8 : Int32) (x9 : Int32) (x10 : Int32) (x11 : Int32) (x12 : Int32) (x13 : Int32) (x14 : Int32) (z0 : Int32) (s : St) (y4 : Slot) (hy4 : one1 y4 = true) (y15 : Slot) (hy15 : one1 y15 = true) (y16 : Slot) (hy16 : one1 y16 = true) (y17 : Slot) (hy17 : one1 y17 = true) (y18 : Slot) (hy18 : one1 y18 = true) (w : Int32 × St) (hr : f_law_131 n x0 x1 x2 x3 x5 x6 x7 x8 x9 x10 x11 x12 x13 x14 z0 s = some w) : Ev (GG g) M_law 131 [.val (.int x0), .val (.int x1), .val (.int x2), .val (.int x3), y4, .val (.int x5), .val (.int x6), .val (.int x7), .val (.int x8), .val (.int x9), .val (.int x10), .val (.int x11), .val (.int x12), .val (.int x13), .val (.int x14), y15, y16, y17, y18] [.int z0] (K s) ((some (.int w.1)), (K w.2)) := by
  unfold f_law_131 at hr
  refine Ev.istD (L' := [.val (.int x0), .val (.int x1), .val (.int x2), .val (.int x3), y4, .val (.int x5), .val (.int x6), .val (.int x7), .val (.int x8), .val (.int x9), .val (.int x10), .val (.int x11), .val (.int x12), .val (.int x13), .val (.int x14), .val (.int z0), y16, y17, y18]) at_131 rfl hy15 rfl ?_
  refine Ev.iloadN at_133 rfl ?_
  refine Ev.iconst (z := 2) at_134 rfl ?_
  refine Ev.iclt (t := 148) at_135 rfl (fun c1 => ?_) (fun c1 => ?_)
  · replace hr := (if_pos c1).symm.trans hr
    refine Ev.iconst (z := 0) at_148 rfl ?_
    exact e_law_149 hw V  x0 x1 x2 x3 x5 x6 x7 x8 x9 x10 x11 x12 x13 x14 z0 (0 : Int32) s y4 hy4 y16 hy16 y17 hy17 y18 hy18 _ hr
  · replace hr := (if_neg c1).symm.trans hr
    refine Ev.iloadN at_138 rfl ?_
    refine Ev.bipush (z := 7) at_139 rfl ?_
    refine Ev.icgt (t := 148) at_141 rfl (fun c2 => ?_) (fun c2 => ?_)
    · replace hr := (if_pos c2).symm.trans hr
      refine Ev.iconst (z := 0) at_148 rfl ?_
      exact e_law_149 hw V  x0 x1 x2 x3 x5 x6 x7 x8 x9 x10 x11 x12 x13 x14 z0 (0 : Int32) s y4 hy4 y16 hy16 y17 hy17 y18 hy18 _ hr
    · replace hr := (if_neg c2).symm.trans hr
      refine Ev.iconst (z := 1) at_144 rfl ?_
      refine Ev.goto (t := 149) at_145 rfl ?_
      exact e_law_149 hw V  x0 x1 x2 x3 x5 x6 x7 x8 x9 x10 x11 x12 x13 x14 z0 (1 : Int32) s y4 hy4 y16 hy16 y17 hy17 y18 hy18 _ hr
def f_law_120 (n : Nat) (x0 : Int32) (x1 : Int32) (x2 : Int32) (x3 : Int32) (x5 : Int32) (x6 : Int32) (x7 : Int32) (x8 : Int32) (x9 : Int32) (x10 : Int32) (x11 : Int32) (x12 : Int32) (x13 : Int32) (x14 : Int32) (s : St) : Option (Int32 × St) :=
  if x0 = (10 : Int32) then
    f_law_131 n x0 x1 x2 x3 x5 x6 x7 x8 x9 x10 x11 x12 x13 x14 (1 : Int32) s
  else
    f_law_131 n x0 x1 x2 x3 x5 x6 x7 x8 x9 x10 x11 x12 x13 x14 (0 : Int32) s
set_option maxRecDepth 100000 in
theorem e_law_120 {g : GT} {n : Nat} (hw : HW g) {K : St → MHeap} {o : Nat} {r : Nat → Nat} (V : View (GG g) Ln K o r) (x0 : Int32) (x1 : Int32) (x2 : Int32) (x3 : Int32) (x5 : Int32) (x6 : Int32) (x7 : Int32) (x8 : Int32) (x9 : Int32) (x10 : Int32) (x11 : Int32) (x12 : Int32) (x13 : Int32) (x14 : Int32) (s : St) (y4 : Slot) (hy4 : one1 y4 = true) (y15 : Slot) (hy15 : one1 y15 = true) (y16 : Slot) (hy16 : one1 y16 = true) (y17 : Slot) (hy17 : one1 y17 = true) (y18 : Slot) (hy18 : one1 y18 = true) (w : Int32 × St) (hr : f_law_120 n x0 x1 x2 x3 x5 x6 x7 x8 x9 x10 x11 x12 x13 x14 s = some w) : Ev (GG g) M_law 120 [.val (.int x0), .val (.int x1), .val (.int x2), .val (.int x3), y4, .val (.int x5), .val (.int x6), .val (.int x7), .val (.int x8), .val (.int x9), .val (.int x10), .val (.int x11), .val (.int x12), .val (.int x13), .val (.int x14), y15, y16, y17, y18] [] (K s) ((some (.int w.1)), (K w.2)) := by
  unfold f_law_120 at hr
  refine Ev.iloadN at_120 rfl ?_
  refine Ev.bipush (z := 10) at_121 rfl ?_
  refine Ev.icne (t := 130) at_123 rfl (fun c1 => ?_) (fun c1 => ?_)
  · replace hr := (if_pos c1).symm.trans hr
    refine Ev.iconst (z := 1) at_126 rfl ?_
    refine Ev.goto (t := 131) at_127 rfl ?_
    exact e_law_131 hw V  x0 x1 x2 x3 x5 x6 x7 x8 x9 x10 x11 x12 x13 x14 (1 : Int32) s y4 hy4 y15 hy15 y16 hy16 y17 hy17 y18 hy18 _ hr
  · replace hr := (if_neg c1).symm.trans hr
    refine Ev.iconst (z := 0) at_130 rfl ?_
    exact e_law_131 hw V  x0 x1 x2 x3 x5 x6 x7 x8 x9 x10 x11 x12 x13 x14 (0 : Int32) s y4 hy4 y15 hy15 y16 hy16 y17 hy17 y18 hy18 _ hr
def f_law_107 (n : Nat) (x0 : Int32) (x1 : Int32) (x2 : Int32) (x3 : Int32) (x5 : Int32) (x6 : Int32) (x7 : Int32) (x8 : Int32) (x9 : Int32) (x10 : Int32) (x11 : Int32) (x12 : Int32) (x13 : Int32) (z0 : Int32) (s : St) : Option (Int32 × St) :=
  if x0 < (2 : Int32) then
    f_law_120 n x0 x1 x2 x3 x5 x6 x7 x8 x9 x10 x11 x12 x13 z0 s
  else
    if (8 : Int32) < x0 then
      f_law_120 n x0 x1 x2 x3 x5 x6 x7 x8 x9 x10 x11 x12 x13 z0 s
    else
      f_law_131 n x0 x1 x2 x3 x5 x6 x7 x8 x9 x10 x11 x12 x13 z0 (1 : Int32) s
set_option maxRecDepth 100000 in
theorem e_law_107 {g : GT} {n : Nat} (hw : HW g) {K : St → MHeap} {o : Nat} {r : Nat → Nat} (V : View (GG g) Ln K o r) (x0 : Int32) (x1 : Int32) (x2 : Int32) (x3 : Int32) (x5 : Int32) (x6 : Int32) (x7 : Int32) (x8 : Int32) (x9 : Int32) (x10 : Int32) (x11 : Int32) (x12 : Int32) (x13 : Int32) (z0 : Int32) (s : St) (y4 : Slot) (hy4 : one1 y4 = true) (y14 : Slot) (hy14 : one1 y14 = true) (y15 : Slot) (hy15 : one1 y15 = true) (y16 : Slot) (hy16 : one1 y16 = true) (y17 : Slot) (hy17 : one1 y17 = true) (y18 : Slot) (hy18 : one1 y18 = true) (w : Int32 × St) (hr : f_law_107 n x0 x1 x2 x3 x5 x6 x7 x8 x9 x10 x11 x12 x13 z0 s = some w) : Ev (GG g) M_law 107 [.val (.int x0), .val (.int x1), .val (.int x2), .val (.int x3), y4, .val (.int x5), .val (.int x6), .val (.int x7), .val (.int x8), .val (.int x9), .val (.int x10), .val (.int x11), .val (.int x12), .val (.int x13), y14, y15, y16, y17, y18] [.int z0] (K s) ((some (.int w.1)), (K w.2)) := by
  unfold f_law_107 at hr
  refine Ev.istD (L' := [.val (.int x0), .val (.int x1), .val (.int x2), .val (.int x3), y4, .val (.int x5), .val (.int x6), .val (.int x7), .val (.int x8), .val (.int x9), .val (.int x10), .val (.int x11), .val (.int x12), .val (.int x13), .val (.int z0), y15, y16, y17, y18]) at_107 rfl hy14 rfl ?_
  refine Ev.iloadN at_109 rfl ?_
  refine Ev.iconst (z := 2) at_110 rfl ?_
  refine Ev.iclt (t := 120) at_111 rfl (fun c1 => ?_) (fun c1 => ?_)
  · replace hr := (if_pos c1).symm.trans hr
    exact e_law_120 hw V  x0 x1 x2 x3 x5 x6 x7 x8 x9 x10 x11 x12 x13 z0 s y4 hy4 y15 hy15 y16 hy16 y17 hy17 y18 hy18 _ hr
  · replace hr := (if_neg c1).symm.trans hr
    refine Ev.iloadN at_114 rfl ?_
    refine Ev.bipush (z := 8) at_115 rfl ?_
    refine Ev.icle (t := 126) at_117 rfl (fun c2 => ?_) (fun c2 => ?_)
    · replace hr := (if_pos c2).symm.trans hr
      exact e_law_120 hw V  x0 x1 x2 x3 x5 x6 x7 x8 x9 x10 x11 x12 x13 z0 s y4 hy4 y15 hy15 y16 hy16 y17 hy17 y18 hy18 _ hr
    · replace hr := (if_neg c2).symm.trans hr
      refine Ev.iconst (z := 1) at_126 rfl ?_
      refine Ev.goto (t := 131) at_127 rfl ?_
      exact e_law_131 hw V  x0 x1 x2 x3 x5 x6 x7 x8 x9 x10 x11 x12 x13 z0 (1 : Int32) s y4 hy4 y15 hy15 y16 hy16 y17 hy17 y18 hy18 _ hr
def f_law_96 (n : Nat) (x0 : Int32) (x1 : Int32) (x2 : Int32) (x3 : Int32) (x5 : Int32) (x6 : Int32) (x7 : Int32) (x8 : Int32) (x9 : Int32) (x10 : Int32) (x11 : Int32) (x12 : Int32) (x13 : Int32) (s : St) : Option (Int32 × St) :=
  if x0 = (12 : Int32) then
    f_law_107 n x0 x1 x2 x3 x5 x6 x7 x8 x9 x10 x11 x12 x13 (1 : Int32) s
  else
    f_law_107 n x0 x1 x2 x3 x5 x6 x7 x8 x9 x10 x11 x12 x13 (0 : Int32) s
set_option maxRecDepth 100000 in
theorem e_law_96 {g : GT} {n : Nat} (hw : HW g) {K : St → MHeap} {o : Nat} {r : Nat → Nat} (V : View (GG g) Ln K o r) (x0 : Int32) (x1 : Int32) (x2 : Int32) (x3 : Int32) (x5 : Int32) (x6 : Int32) (x7 : Int32) (x8 : Int32) (x9 : Int32) (x10 : Int32) (x11 : Int32) (x12 : Int32) (x13 : Int32) (s : St) (y4 : Slot) (hy4 : one1 y4 = true) (y14 : Slot) (hy14 : one1 y14 = true) (y15 : Slot) (hy15 : one1 y15 = true) (y16 : Slot) (hy16 : one1 y16 = true) (y17 : Slot) (hy17 : one1 y17 = true) (y18 : Slot) (hy18 : one1 y18 = true) (w : Int32 × St) (hr : f_law_96 n x0 x1 x2 x3 x5 x6 x7 x8 x9 x10 x11 x12 x13 s = some w) : Ev (GG g) M_law 96 [.val (.int x0), .val (.int x1), .val (.int x2), .val (.int x3), y4, .val (.int x5), .val (.int x6), .val (.int x7), .val (.int x8), .val (.int x9), .val (.int x10), .val (.int x11), .val (.int x12), .val (.int x13), y14, y15, y16, y17, y18] [] (K s) ((some (.int w.1)), (K w.2)) := by
  unfold f_law_96 at hr
  refine Ev.iloadN at_96 rfl ?_
  refine Ev.bipush (z := 12) at_97 rfl ?_
  refine Ev.icne (t := 106) at_99 rfl (fun c1 => ?_) (fun c1 => ?_)
  · replace hr := (if_pos c1).symm.trans hr
    refine Ev.iconst (z := 1) at_102 rfl ?_
    refine Ev.goto (t := 107) at_103 rfl ?_
    exact e_law_107 hw V  x0 x1 x2 x3 x5 x6 x7 x8 x9 x10 x11 x12 x13 (1 : Int32) s y4 hy4 y14 hy14 y15 hy15 y16 hy16 y17 hy17 y18 hy18 _ hr
  · replace hr := (if_neg c1).symm.trans hr
    refine Ev.iconst (z := 0) at_106 rfl ?_
    exact e_law_107 hw V  x0 x1 x2 x3 x5 x6 x7 x8 x9 x10 x11 x12 x13 (0 : Int32) s y4 hy4 y14 hy14 y15 hy15 y16 hy16 y17 hy17 y18 hy18 _ hr
def f_law_7 (n : Nat) (x0 : Int32) (x1 : Int32) (x2 : Int32) (x3 : Int32) (s : St) : Option (Int32 × St) :=
  (f_transform (3 : Int32) s).bind fun q1 =>
  (f_emit x0 x1 x2 x3 q1.2).bind fun q3 =>
  (f_size q3.2).bind fun q5 =>
  (f_instruction q3.2 (0 : Int32) (0 : Int32)).bind fun q7 =>
  (f_instruction q3.2 (0 : Int32) (1 : Int32)).bind fun q9 =>
  (f_instruction q3.2 (0 : Int32) (2 : Int32)).bind fun q11 =>
  (f_instruction q3.2 (0 : Int32) (3 : Int32)).bind fun q13 =>
  (f_openDepth q3.2).bind fun q15 =>
  (f_transformFactor q3.2).bind fun q17 =>
  if x0 < (1 : Int32) then
    f_law_96 n x0 x1 x2 x3 q1.1 q3.1 q5 q7 q9 q11 q13 q15 q17 q3.2
  else
    if (10 : Int32) < x0 then
      f_law_96 n x0 x1 x2 x3 q1.1 q3.1 q5 q7 q9 q11 q13 q15 q17 q3.2
    else
      f_law_107 n x0 x1 x2 x3 q1.1 q3.1 q5 q7 q9 q11 q13 q15 q17 (1 : Int32) q3.2
set_option maxRecDepth 100000 in
theorem e_law_7 {g : GT} {n : Nat} (hw : HW g) {K : St → MHeap} {o : Nat} {r : Nat → Nat} (V : View (GG g) Ln K o r) (x0 : Int32) (x1 : Int32) (x2 : Int32) (x3 : Int32) (s : St) (y4 : Slot) (hy4 : one1 y4 = true) (y5 : Slot) (hy5 : one1 y5 = true) (y6 : Slot) (hy6 : one1 y6 = true) (y7 : Slot) (hy7 : one1 y7 = true) (y8 : Slot) (hy8 : one1 y8 = true) (y9 : Slot) (hy9 : one1 y9 = true) (y10 : Slot) (hy10 : one1 y10 = true) (y11 : Slot) (hy11 : one1 y11 = true) (y12 : Slot) (hy12 : one1 y12 = true) (y13 : Slot) (hy13 : one1 y13 = true) (y14 : Slot) (hy14 : one1 y14 = true) (y15 : Slot) (hy15 : one1 y15 = true) (y16 : Slot) (hy16 : one1 y16 = true) (y17 : Slot) (hy17 : one1 y17 = true) (y18 : Slot) (hy18 : one1 y18 = true) (w : Int32 × St) (hr : f_law_7 n x0 x1 x2 x3 s = some w) : Ev (GG g) M_law 7 [.val (.int x0), .val (.int x1), .val (.int x2), .val (.int x3), y4, y5, y6, y7, y8, y9, y10, y11, y12, y13, y14, y15, y16, y17, y18] [.ref o] (K s) ((some (.int w.1)), (K w.2)) := by
  unfold f_law_7 at hr
  refine Ev.astD (L' := [.val (.int x0), .val (.int x1), .val (.int x2), .val (.int x3), .val (.ref o), y5, y6, y7, y8, y9, y10, y11, y12, y13, y14, y15, y16, y17, y18]) at_7 rfl hy4 rfl ?_
  refine Ev.aload at_9 rfl ?_
  refine Ev.iconst (z := 3) at_11 rfl ?_
  obtain ⟨q1, hq2, hr⟩ := Option.bind_eq_some_iff.mp hr
  refine Ev.virt (y := M_transform) (args := [.int (3 : Int32)]) (rest := []) (gok hw) rfl nm_transform (ww hw 82 rfl) (ww hw 83 rfl) (ww hw 84 rfl) (ww hw 85 rfl) (ww hw 86 rfl) (lenOf pd_transform rfl) at_12 (V.2.1 s) (e_transform hw V hq2) (by decide) (Nat.le_of_ble_eq_true rfl) rfl ?_
  refine Ev.istD (L' := [.val (.int x0), .val (.int x1), .val (.int x2), .val (.int x3), .val (.ref o), .val (.int q1.1), y6, y7, y8, y9, y10, y11, y12, y13, y14, y15, y16, y17, y18]) at_15 rfl hy5 rfl ?_
  refine Ev.aload at_17 rfl ?_
  refine Ev.iloadN at_19 rfl ?_
  refine Ev.iloadN at_20 rfl ?_
  refine Ev.iloadN at_21 rfl ?_
  refine Ev.iloadN at_22 rfl ?_
  obtain ⟨q3, hq4, hr⟩ := Option.bind_eq_some_iff.mp hr
  refine Ev.virt (y := M_emit) (args := [.int x0, .int x1, .int x2, .int x3]) (rest := []) (gok hw) rfl nm_emit (ww hw 87 rfl) (ww hw 88 rfl) (ww hw 89 rfl) (ww hw 90 rfl) (ww hw 91 rfl) (lenOf pd_emit rfl) at_23 (V.2.1 q1.2) (e_emit hw V hq4) (by decide) (Nat.le_of_ble_eq_true rfl) rfl ?_
  refine Ev.istD (L' := [.val (.int x0), .val (.int x1), .val (.int x2), .val (.int x3), .val (.ref o), .val (.int q1.1), .val (.int q3.1), y7, y8, y9, y10, y11, y12, y13, y14, y15, y16, y17, y18]) at_26 rfl hy6 rfl ?_
  refine Ev.aload at_28 rfl ?_
  obtain ⟨q5, hq6, hr⟩ := Option.bind_eq_some_iff.mp hr
  refine Ev.virt (y := M_size) (args := []) (rest := []) (gok hw) rfl nm_size (ww hw 92 rfl) (ww hw 93 rfl) (ww hw 94 rfl) (ww hw 95 rfl) (ww hw 96 rfl) (lenOf pd_size rfl) at_30 (V.2.1 q3.2) (e_size hw V hq6) (by decide) (Nat.le_of_ble_eq_true rfl) rfl ?_
  refine Ev.istD (L' := [.val (.int x0), .val (.int x1), .val (.int x2), .val (.int x3), .val (.ref o), .val (.int q1.1), .val (.int q3.1), .val (.int q5), y8, y9, y10, y11, y12, y13, y14, y15, y16, y17, y18]) at_33 rfl hy7 rfl ?_
  refine Ev.aload at_35 rfl ?_
  refine Ev.iconst (z := 0) at_37 rfl ?_
  refine Ev.iconst (z := 0) at_38 rfl ?_
  obtain ⟨q7, hq8, hr⟩ := Option.bind_eq_some_iff.mp hr
  refine Ev.virt (y := M_instruction) (args := [.int (0 : Int32), .int (0 : Int32)]) (rest := []) (gok hw) rfl nm_instruction (ww hw 97 rfl) (ww hw 98 rfl) (ww hw 99 rfl) (ww hw 100 rfl) (ww hw 101 rfl) (lenOf pd_instruction rfl) at_39 (V.2.1 q3.2) (e_instruction hw V hq8) (by decide) (Nat.le_of_ble_eq_true rfl) rfl ?_
  refine Ev.istD (L' := [.val (.int x0), .val (.int x1), .val (.int x2), .val (.int x3), .val (.ref o), .val (.int q1.1), .val (.int q3.1), .val (.int q5), .val (.int q7), y9, y10, y11, y12, y13, y14, y15, y16, y17, y18]) at_42 rfl hy8 rfl ?_
  refine Ev.aload at_44 rfl ?_
  refine Ev.iconst (z := 0) at_46 rfl ?_
  refine Ev.iconst (z := 1) at_47 rfl ?_
  obtain ⟨q9, hq10, hr⟩ := Option.bind_eq_some_iff.mp hr
  refine Ev.virt (y := M_instruction) (args := [.int (0 : Int32), .int (1 : Int32)]) (rest := []) (gok hw) rfl nm_instruction (ww hw 97 rfl) (ww hw 98 rfl) (ww hw 99 rfl) (ww hw 100 rfl) (ww hw 101 rfl) (lenOf pd_instruction rfl) at_48 (V.2.1 q3.2) (e_instruction hw V hq10) (by decide) (Nat.le_of_ble_eq_true rfl) rfl ?_
  refine Ev.istD (L' := [.val (.int x0), .val (.int x1), .val (.int x2), .val (.int x3), .val (.ref o), .val (.int q1.1), .val (.int q3.1), .val (.int q5), .val (.int q7), .val (.int q9), y10, y11, y12, y13, y14, y15, y16, y17, y18]) at_51 rfl hy9 rfl ?_
  refine Ev.aload at_53 rfl ?_
  refine Ev.iconst (z := 0) at_55 rfl ?_
  refine Ev.iconst (z := 2) at_56 rfl ?_
  obtain ⟨q11, hq12, hr⟩ := Option.bind_eq_some_iff.mp hr
  refine Ev.virt (y := M_instruction) (args := [.int (0 : Int32), .int (2 : Int32)]) (rest := []) (gok hw) rfl nm_instruction (ww hw 97 rfl) (ww hw 98 rfl) (ww hw 99 rfl) (ww hw 100 rfl) (ww hw 101 rfl) (lenOf pd_instruction rfl) at_57 (V.2.1 q3.2) (e_instruction hw V hq12) (by decide) (Nat.le_of_ble_eq_true rfl) rfl ?_
  refine Ev.istD (L' := [.val (.int x0), .val (.int x1), .val (.int x2), .val (.int x3), .val (.ref o), .val (.int q1.1), .val (.int q3.1), .val (.int q5), .val (.int q7), .val (.int q9), .val (.int q11), y11, y12, y13, y14, y15, y16, y17, y18]) at_60 rfl hy10 rfl ?_
  refine Ev.aload at_62 rfl ?_
  refine Ev.iconst (z := 0) at_64 rfl ?_
  refine Ev.iconst (z := 3) at_65 rfl ?_
  obtain ⟨q13, hq14, hr⟩ := Option.bind_eq_some_iff.mp hr
  refine Ev.virt (y := M_instruction) (args := [.int (0 : Int32), .int (3 : Int32)]) (rest := []) (gok hw) rfl nm_instruction (ww hw 97 rfl) (ww hw 98 rfl) (ww hw 99 rfl) (ww hw 100 rfl) (ww hw 101 rfl) (lenOf pd_instruction rfl) at_66 (V.2.1 q3.2) (e_instruction hw V hq14) (by decide) (Nat.le_of_ble_eq_true rfl) rfl ?_
  refine Ev.istD (L' := [.val (.int x0), .val (.int x1), .val (.int x2), .val (.int x3), .val (.ref o), .val (.int q1.1), .val (.int q3.1), .val (.int q5), .val (.int q7), .val (.int q9), .val (.int q11), .val (.int q13), y12, y13, y14, y15, y16, y17, y18]) at_69 rfl hy11 rfl ?_
  refine Ev.aload at_71 rfl ?_
  obtain ⟨q15, hq16, hr⟩ := Option.bind_eq_some_iff.mp hr
  refine Ev.virt (y := M_openDepth) (args := []) (rest := []) (gok hw) rfl nm_openDepth (ww hw 102 rfl) (ww hw 103 rfl) (ww hw 104 rfl) (ww hw 105 rfl) (ww hw 106 rfl) (lenOf pd_openDepth rfl) at_73 (V.2.1 q3.2) (e_openDepth hw V hq16) (by decide) (Nat.le_of_ble_eq_true rfl) rfl ?_
  refine Ev.istD (L' := [.val (.int x0), .val (.int x1), .val (.int x2), .val (.int x3), .val (.ref o), .val (.int q1.1), .val (.int q3.1), .val (.int q5), .val (.int q7), .val (.int q9), .val (.int q11), .val (.int q13), .val (.int q15), y13, y14, y15, y16, y17, y18]) at_76 rfl hy12 rfl ?_
  refine Ev.aload at_78 rfl ?_
  obtain ⟨q17, hq18, hr⟩ := Option.bind_eq_some_iff.mp hr
  refine Ev.virt (y := M_transformFactor) (args := []) (rest := []) (gok hw) rfl nm_transformFactor (ww hw 107 rfl) (ww hw 108 rfl) (ww hw 109 rfl) (ww hw 110 rfl) (ww hw 111 rfl) (lenOf pd_transformFactor rfl) at_80 (V.2.1 q3.2) (e_transformFactor hw V hq18) (by decide) (Nat.le_of_ble_eq_true rfl) rfl ?_
  refine Ev.istD (L' := [.val (.int x0), .val (.int x1), .val (.int x2), .val (.int x3), .val (.ref o), .val (.int q1.1), .val (.int q3.1), .val (.int q5), .val (.int q7), .val (.int q9), .val (.int q11), .val (.int q13), .val (.int q15), .val (.int q17), y14, y15, y16, y17, y18]) at_83 rfl hy13 rfl ?_
  refine Ev.iloadN at_85 rfl ?_
  refine Ev.iconst (z := 1) at_86 rfl ?_
  refine Ev.iclt (t := 96) at_87 rfl (fun c19 => ?_) (fun c19 => ?_)
  · replace hr := (if_pos c19).symm.trans hr
    exact e_law_96 hw V  x0 x1 x2 x3 q1.1 q3.1 q5 q7 q9 q11 q13 q15 q17 q3.2 (.val (.ref o)) rfl y14 hy14 y15 hy15 y16 hy16 y17 hy17 y18 hy18 _ hr
  · replace hr := (if_neg c19).symm.trans hr
    refine Ev.iloadN at_90 rfl ?_
    refine Ev.bipush (z := 10) at_91 rfl ?_
    refine Ev.icle (t := 102) at_93 rfl (fun c20 => ?_) (fun c20 => ?_)
    · replace hr := (if_pos c20).symm.trans hr
      exact e_law_96 hw V  x0 x1 x2 x3 q1.1 q3.1 q5 q7 q9 q11 q13 q15 q17 q3.2 (.val (.ref o)) rfl y14 hy14 y15 hy15 y16 hy16 y17 hy17 y18 hy18 _ hr
    · replace hr := (if_neg c20).symm.trans hr
      refine Ev.iconst (z := 1) at_102 rfl ?_
      refine Ev.goto (t := 107) at_103 rfl ?_
      exact e_law_107 hw V  x0 x1 x2 x3 q1.1 q3.1 q5 q7 q9 q11 q13 q15 q17 (1 : Int32) q3.2 (.val (.ref o)) rfl y14 hy14 y15 hy15 y16 hy16 y17 hy17 y18 hy18 _ hr
def f_law (n : Nat) (a0 : Int32) (a1 : Int32) (a2 : Int32) (a3 : Int32) : Option (Int32 × St) :=
  (f_ctor n).bind fun q1 =>
  f_law_7 n a0 a1 a2 a3 q1
set_option maxRecDepth 100000 in
theorem e_law {g : GT} {n : Nat} {a0 : Int32} {a1 : Int32} {a2 : Int32} {a3 : Int32} {w : Int32 × St} (hw : HW g) (hk : k0 (GG g) ≤ (H0).length) (hr : f_law n a0 a1 a2 a3 = some w) : EvC (GG g) M_law [.int a0, .int a1, .int a2, .int a3] H0 ((some (.int w.1)), (KL w.2)) := by
  refine EvC.enter (L0 := [.val (.int a0), .val (.int a1), .val (.int a2), .val (.int a3), .unset, .unset, .unset, .unset, .unset, .unset, .unset, .unset, .unset, .unset, .unset, .unset, .unset, .unset, .unset]) pl_law (fun h => nomatch h) rfl rfl ?_
  unfold f_law at hr
  refine Ev.new (gok hw) (ww hw 0 rfl) at_0 (fs := dfl) rfl ?_
  refine Ev.dup at_3 rfl ?_
  obtain ⟨q1, hq2, hr⟩ := Option.bind_eq_some_iff.mp hr
  refine Ev.ctor (y := M_ctor) (args := []) (rest := [.ref (H0).length]) rfl rfl nm_ctor (ww hw 3 rfl) (ww hw 4 rfl) (ww hw 5 rfl) (ww hw 2 rfl) (lenOf pd_ctor rfl) at_4 (e_ctor hw hk hq2) (by decide) (Nat.le_of_ble_eq_true rfl) rfl ?_
  exact e_law_7 hw (K := KL) (o := (H0).length) (r := rA (H0).length al) (view_of hk al_ok al_nd)  a0 a1 a2 a3 q1 .unset rfl .unset rfl .unset rfl .unset rfl .unset rfl .unset rfl .unset rfl .unset rfl .unset rfl .unset rfl .unset rfl .unset rfl .unset rfl .unset rfl .unset rfl _ hr
theorem fin_len (w : St) : (KL w).length - H0.length ≤ 56 := by
  have q : al.length = 21 := rfl
  unfold KL; rw [KH_len]; simp only [List.length_nil]; omega
theorem fin_hsl (w : St) : hsl 31 (KL w) - hsl 31 H0 ≤ 768 := by
  have q : (al.map fun q => Ln q.1).sum = 294 := by decide +kernel
  have z : hsl 31 [] = 0 := rfl
  unfold KL; rw [hsl_KH, q, z]; omega
set_option maxRecDepth 100000 in
theorem comes_1 (plain : ∀ i0 i1 i2 i3 : Int32, ∃ n w, f_law n i0 i1 i2 i3 = some (1, w)) {Post : Tables → Env → Array Value → State → Outcome → State → Prop} (hpost : ∀ tb e args s v u, (limb_1_1.after args s (.returned v) u = true ∧ limb_1_2.after args s (.returned v) u = true ∧ True) → FrameEnd s (.returned v) u (Jvm.fieldLocs frame_1_writes args s ++ Jvm.arrayLocs frame_1_arrays args s ++ Jvm.staticLocs frame_1_statics s) 56 768 → Post tb e args s (.returned v) u) :
    ArmFor flags0 classFile x code maxLocals ret World_1 tables_1 room_1 Calls_1 rest_1 Pre_1 Post := by
  intro l hfl _ _ p e ha hc hk s m args below hf hA hF happ hP
  obtain ⟨hcalls, hrest, hpre⟩ := hP
  obtain ⟨-, -, -, hnamed, -, -, -, hat⟩ := (Spec.applies_iff hf).mp happ
  obtain ⟨hg, hn⟩ := and_e (Cond.before_iff.mp (show (Jvm.Cond.and given_1 narrow_1).before args s = true from hpre))
  obtain ⟨g0, hg⟩ := and_e hg
  obtain ⟨g1, hg⟩ := and_e hg
  obtain ⟨g2, hg⟩ := and_e hg
  obtain ⟨g3, hg⟩ := and_e hg
  obtain ⟨w0, w1, w2, w3, rfl⟩ : ∃ w0 w1 w2 w3 : Value, args = #[w0, w1, w2, w3] := by
    have hs : args.size = 4 := by simpa [Cond.value, given_1] using g0
    obtain ⟨L⟩ := args
    match L, hs with
    | [w0, w1, w2, w3], _ => exact ⟨w0, w1, w2, w3, rfl⟩
  have hw := fun d (hd : d ∈ tables_1) => atoms_spec (ws := Jvm.Cond.code x code maxLocals ret :: tables_1) hat d (List.mem_cons_of_mem _ hd)
  obtain ⟨i0, ei0⟩ := is_v g1
  obtain rfl : w0 = (.int i0) := Option.some.inj ei0
  obtain ⟨i1, ei1⟩ := is_v g2
  obtain rfl : w1 = (.int i1) := Option.some.inj ei1
  obtain ⟨i2, ei2⟩ := is_v g3
  obtain rfl : w2 = (.int i2) := Option.some.inj ei2
  obtain ⟨i3, ei3⟩ := is_v hg
  obtain rfl : w3 = (.int i3) := Option.some.inj ei3
  obtain ⟨n, w, hr⟩ := plain i0 i1 i2 i3
  have hE := e_law (g := (s, _, l, none, s.heap.size)) hw (Nat.le_refl _) hr
  obtain ⟨n, o, h1, h2, h3, _, L, rfl, ⟨rfl, N, -⟩, hq⟩ := hE.2 tables_1 room_1 s.heap (by decide) (by decide) (fin_len w) (fin_hsl w) ⟨rfl, Nat.le_refl _, fun a q => (nomatch q), fun i c q => by simp [H0] at q⟩ p e ha hc hk s m _ below hf ((Spec.applies_iff_loose hf).mp happ).1 ⟨rfl, State.Warmed39.refl s, rfl⟩ trivial
  exact ⟨n, _, h1, h2, h3, hpost _ _ _ _ _ _ ⟨Cond.after_iff.mpr rfl, Cond.after_iff.mpr (eq_i res_at (Term.int_eval (1)) rfl), trivial⟩ ⟨hq.1, hq.2.1, (hq.2.2.sift fun y hy => Or.inr (N y hy)).mono (fin_len w) (fin_hsl w)⟩⟩
theorem u_clearProgram_2 (n : Nat) (k : Nat) (x1 : Int32) (s : St) : f_clearProgram_2 n (k + 1) x1 s =
    (if x1 < (24 : Int32) then
      grd (inb x1 24) <|
      bnd (setA s 0 (ix x1) (0 : Int32)) fun s3 =>
      bnd (setA s3 1 (ix x1) (0 : Int32)) fun s4 =>
      bnd (setA s4 2 (ix x1) (0 : Int32)) fun s5 =>
      bnd (setA s5 3 (ix x1) (0 : Int32)) fun s6 =>
      bnd (setA s6 4 (ix x1) (-1 : Int32)) fun s7 =>
      f_clearProgram_2 n k (x1 + (1 : Int32)) s7
    else
      bnd (setI s 21 (0 : Int32)) fun s8 =>
      some s8) := rfl
theorem u_clearOpen_2 (n : Nat) (k : Nat) (x1 : Int32) (s : St) : f_clearOpen_2 n (k + 1) x1 s =
    (if x1 < (4 : Int32) then
      grd (inb x1 4) <|
      bnd (setA s 5 (ix x1) (0 : Int32)) fun s3 =>
      bnd (setA s3 6 (ix x1) (-1 : Int32)) fun s4 =>
      bnd (setA s4 7 (ix x1) ((0 : Int32) &&& 1)) fun s5 =>
      f_clearOpen_2 n k (x1 + (1 : Int32)) s5
    else
      bnd (setI s 22 (0 : Int32)) fun s6 =>
      bnd (setI s6 23 (0 : Int32)) fun s7 =>
      some s7) := rfl
theorem u_clearResults_12 (n : Nat) (k : Nat) (x1 : Int32) (s : St) : f_clearResults_12 n (k + 1) x1 s =
    (if x1 < (32 : Int32) then
      grd (inb x1 32) <|
      bnd (setA s 9 (ix x1) (0 : Int32)) fun s3 =>
      f_clearResults_12 n k (x1 + (1 : Int32)) s3
    else
      f_clearResults_33 n n (0 : Int32) s) := rfl
theorem u_clearResults_33 (n : Nat) (k : Nat) (x1 : Int32) (s : St) : f_clearResults_33 n (k + 1) x1 s =
    (if x1 < (8 : Int32) then
      grd (inb x1 8) <|
      bnd (setA s 10 (ix x1) (0 : Int32)) fun s3 =>
      f_clearResults_33 n k (x1 + (1 : Int32)) s3
    else
      some s) := rfl
theorem u_reset_10 (n : Nat) (k : Nat) (x1 : Int32) (s : St) : f_reset_10 n (k + 1) x1 s =
    (if x1 < (8 : Int32) then
      grd (inb x1 8) <|
      bnd (setA s 8 (ix x1) (0 : Int32)) fun s3 =>
      f_reset_10 n k (x1 + (1 : Int32)) s3
    else
      bnd (setI s 24 (0 : Int32)) fun s4 =>
      (f_clearResults n s4).bind fun q5 =>
      some q5) := rfl
/-! ### the plain law -/
theorem own_clrProg {n : Nat} (hn : 40 ≤ n) (s : St) : ∃ s', f_clearProgram n s = some s' ∧ s'.1 = (setI s 21 0).1 :=
  loopP (F := f_clearProgram_2 n) (N := 24) (P := fun _ t => t.1 = s.1) (Q := fun t => t.1 = (setI s 21 0).1)
    (fun k i t hi hp => Or.inl (by rw [u_clearProgram_2, if_pos (ltZ (z := 24) 24 rfl hi (by omega)), grd_pos (inbN hi (by omega))]; simp only [bnd_eq]; exact ⟨_, rfl, hp⟩))
    (fun k t hp => ⟨_, by rw [u_clearProgram_2, if_neg (by decide)]; rfl, by show (setI t _ _).1 = _; unfold setI; rw [hp]⟩) 24 0 n s (by omega) (by omega) rfl
theorem own_clrOpen {n : Nat} (hn : 40 ≤ n) (s : St) : ∃ s', f_clearOpen n s = some s' ∧ s'.1 = (setI (setI s 22 0) 23 0).1 :=
  loopP (F := f_clearOpen_2 n) (N := 4) (P := fun _ t => t.1 = s.1) (Q := fun t => t.1 = (setI (setI s 22 0) 23 0).1)
    (fun k i t hi hp => Or.inl (by rw [u_clearOpen_2, if_pos (ltZ (z := 4) 4 rfl hi (by omega)), grd_pos (inbN hi (by omega))]; simp only [bnd_eq]; exact ⟨_, rfl, hp⟩))
    (fun k t hp => ⟨_, by rw [u_clearOpen_2, if_neg (by decide)]; rfl, by show (setI (setI t _ _) _ _).1 = _; unfold setI; rw [hp]⟩) 4 0 n s (by omega) (by omega) rfl
theorem own_clrRes {n : Nat} (hn : 40 ≤ n) (s : St) : ∃ s', f_clearResults n s = some s' ∧ s'.1 = (setI (setI s 25 0) 26 0).1 := by
  unfold f_clearResults
  simp only [bnd_eq]
  exact loopP (F := f_clearResults_12 n) (N := 32) (P := fun _ t => t.1 = (setI (setI s 25 0) 26 0).1) (Q := fun t => t.1 = (setI (setI s 25 0) 26 0).1)
    (fun k i t hi hp => Or.inl (by rw [u_clearResults_12, if_pos (ltZ (z := 32) 32 rfl hi (by omega)), grd_pos (inbN hi (by omega))]; simp only [bnd_eq]; exact ⟨_, rfl, hp⟩))
    (fun k t hp => by
      rw [u_clearResults_12, if_neg (by decide)]
      exact loopP (F := f_clearResults_33 n) (N := 8) (P := fun _ t => t.1 = (setI (setI s 25 0) 26 0).1) (Q := fun t => t.1 = (setI (setI s 25 0) 26 0).1)
        (fun k i t hi hp => Or.inl (by rw [u_clearResults_33, if_pos (ltZ (z := 8) 8 rfl hi (by omega)), grd_pos (inbN hi (by omega))]; simp only [bnd_eq]; exact ⟨_, rfl, hp⟩))
        (fun k t hp => ⟨_, by rw [u_clearResults_33, if_neg (by decide)], hp⟩) 8 0 n t (by omega) (by omega) hp) 32 0 n _ (by omega) (by omega) rfl
theorem own_reset {n : Nat} (hn : 40 ≤ n) (s : St) : ∃ s', f_reset n s = some s' ∧ s'.1 = (setI (setI (setI (setI (setI (setI s 21 0) 22 0) 23 0) 24 0) 25 0) 26 0).1 := by
  obtain ⟨s1, e1, f1⟩ := own_clrProg hn s
  obtain ⟨s2, e2, f2⟩ := own_clrOpen hn s1
  unfold f_reset
  simp only [e1, e2, Option.bind_some]
  have h2 : s2.1 = (setI (setI (setI s 21 0) 22 0) 23 0).1 := by rw [f2]; unfold setI; rw [f1]; rfl
  exact loopP (F := f_reset_10 n) (N := 8) (P := fun _ t => t.1 = s2.1) (Q := fun t => t.1 = (setI (setI (setI (setI (setI (setI s 21 0) 22 0) 23 0) 24 0) 25 0) 26 0).1)
    (fun k i t hi hp => Or.inl (by rw [u_reset_10, if_pos (ltZ (z := 8) 8 rfl hi (by omega)), grd_pos (inbN hi (by omega))]; simp only [bnd_eq]; exact ⟨_, rfl, hp⟩))
    (fun k t hp => by
      rw [u_reset_10, if_neg (by decide)]
      simp only [bnd_eq]
      obtain ⟨u, e3, f3⟩ := own_clrRes hn (setI t 24 0)
      simp only [e3, Option.bind_some]
      refine ⟨u, rfl, ?_⟩
      rw [f3]; unfold setI; rw [hp, h2]; rfl) 8 0 n s2 (by omega) (by omega) rfl

def own_iv (a : Int32) : Int32 := if a < 0 then 0 else if a < 8 then 1 else 0
theorem own_isVar (s : St) (a : Int32) : f_isVar s a = some (own_iv a) := by
  unfold f_isVar own_iv
  split
  · rfl
  · split <;> rfl
theorem own_hv (a : Int32) : f_hv a = some (own_iv a) := by
  unfold f_hv own_iv
  have e : (7 : Int32) < a ↔ ¬ a < 8 := by
    rw [lt_I, lt_I, show (7 : Int32).toInt = 7 from rfl, show (8 : Int32).toInt = 8 from rfl]; omega
  by_cases q : a < 0
  · simp [q]
  · by_cases q2 : a < 8
    · have : ¬ (7 : Int32) < a := fun h => e.mp h q2
      simp [q, q2, this]
    · simp [q, q2, e.mpr q2]
theorem own_iv01 (a : Int32) : own_iv a = 0 ∨ own_iv a = 1 := by
  unfold own_iv
  split
  · exact Or.inl rfl
  · split
    · exact Or.inr rfl
    · exact Or.inl rfl
theorem own_gT {α : Type} {d : Decidable True} (x : Option α) : @grd α True d x = x := if_pos trivial
theorem own_L0 (n : Nat) (x0 x1 x2 x3 x14 x15 x17 : Int32) (t : St) : f_law_267 n x0 x1 x2 x3 1 0 0 0 0 0 0 0 3 x14 x15 x17 0 t = some (1, t) := by
  simp [f_law_267, f_law_293, f_law_308, f_law_328, f_law_348, f_law_368, f_law_395, f_law_410]
set_option maxHeartbeats 4000000 in
theorem own_law7 (n : Nat) (s : St) (h21 : s.1 21 = 0) (h22 : s.1 22 = 0) (h23 : s.1 23 = 0) (x0 x1 x2 x3 : Int32) : ∃ w, f_law_7 n x0 x1 x2 x3 s = some (1, w) := by
  have tr : f_transform 3 s = some (1, setI s 24 3) := by
    unfold f_transform f_transform_18 f_transform_27
    simp [h22, bnd_eq]
  have t21 : (setI s 24 3).1 21 = 0 := by simp [setI_1, h21]
  have t22 : (setI s 24 3).1 22 = 0 := by simp [setI_1, h22]
  have t23 : (setI s 24 3).1 23 = 0 := by simp [setI_1, h23]
  have t24 : (setI s 24 3).1 24 = 3 := by simp [setI_1]
  generalize setI s 24 3 = t at tr t21 t22 t23 t24
  have i0 : ix (0 : Int32) = 0 := rfl
  have b24 : inb (0 : Int32) 24 := by decide
  have b4 : inb (0 : Int32) 4 := by decide
  by_cases c1 : x0 < 1 ∨ 14 < x0
  · have em : f_emit x0 x1 x2 x3 t = some (0, t) := by
      unfold f_emit
      by_cases c2 : x0 < 1
      · simp [t21, c2]
      · simp [t21, c2, c1.resolve_left c2]
    have hR : ∀ x14 x15 x16 z0, f_law_173 n x0 x1 x2 x3 1 0 0 0 0 0 0 0 3 x14 x15 x16 z0 t = some (1, t) := fun x14 x15 x16 z0 => by
      unfold f_law_173
      by_cases c2 : x0 < 1
      · rw [if_pos c2, own_L0]
      · rw [if_neg c2, if_pos (c1.resolve_left c2), own_L0]
    refine ⟨t, ?_⟩
    unfold f_law_7
    simp only [tr, Option.bind_some, em, f_size, f_instruction, f_openDepth, f_transformFactor, t21, t22, t24, show ¬ (0 : Int32) < 0 by decide, if_false]
    unfold f_law_96 f_law_107 f_law_120 f_law_131 f_law_149 f_law_162
    simp only [hR, ite_self]
  · obtain ⟨K, rfl, k1, k2⟩ : ∃ K : Nat, x0 = Int32.ofNat K ∧ 1 ≤ K ∧ K ≤ 14 := by
      apply own_nat
      · have : ¬ x0 < 1 := fun h => c1 (Or.inl h)
        rw [lt_I, show (1 : Int32).toInt = 1 from rfl] at this; omega
      · have : ¬ 14 < x0 := fun h => c1 (Or.inr h)
        rw [lt_I, show (14 : Int32).toInt = 14 from rfl] at this; omega
    have e1 := own_iv01 x1
    have e2 := own_iv01 x2
    have e3 := own_iv01 x3
    have : K = 1 ∨ K = 2 ∨ K = 3 ∨ K = 4 ∨ K = 5 ∨ K = 6 ∨ K = 7 ∨ K = 8 ∨ K = 9 ∨ K = 10 ∨ K = 11 ∨ K = 12 ∨ K = 13 ∨ K = 14 := by omega
    have cc : x3 < -128 ∨ ¬ x3 < -128 ∧ (127 < x3 ∨ ¬ 127 < x3 ∧ (x3 = 0 ∨ ¬ x3 = 0)) := by
      by_cases q1 : x3 < -128
      · exact Or.inl q1
      · refine Or.inr ⟨q1, ?_⟩
        by_cases q2 : 127 < x3
        · exact Or.inl q2
        · refine Or.inr ⟨q2, ?_⟩
          by_cases q3 : x3 = 0
          · exact Or.inl q3
          · exact Or.inr q3
    rcases this with rfl | rfl | rfl | rfl | rfl | rfl | rfl | rfl | rfl | rfl | rfl | rfl | rfl | rfl
    case inr.inr.inr.inr.inr.inr.inr.inr.inr.inl =>
      rcases e1 with e1 | e1 <;> rcases e2 with e2 | e2 <;> rcases cc with q1 | ⟨q1, q2 | ⟨q2, q3 | q3⟩⟩ <;>
      simp [f_law_7, tr, f_emit, f_operandsValid, f_operandsValid_18, f_operandsValid_36, f_operandsValid_55, f_usesA, f_usesB, f_usesB_11, f_usesC, f_cIsVar, own_isVar, own_hv, f_structureAllows, f_emit_81, f_emit_101, f_emit_122, f_updateOpen, f_updateOpen_19, f_updateOpen_66, f_size, f_instruction, f_openDepth, f_transformFactor, f_law_96, f_law_107, f_law_120, f_law_131, f_law_149, f_law_162, f_law_173, f_law_216, f_law_228, f_law_240, f_law_267, f_law_293, f_law_308, f_law_328, f_law_348, f_law_368, f_law_395, f_law_410, bnd_eq, setA_1, setA_2, setI_1, setI_2, t21, t22, t23, t24, i0, grd_pos b24, grd_pos b4, own_gT, e1, e2, q1, *]
    all_goals
      rcases e1 with e1 | e1 <;> rcases e2 with e2 | e2 <;> rcases e3 with e3 | e3 <;>
      simp [f_law_7, tr, f_emit, f_operandsValid, f_operandsValid_18, f_operandsValid_36, f_operandsValid_55, f_usesA, f_usesB, f_usesB_11, f_usesC, f_cIsVar, own_isVar, own_hv, f_structureAllows, f_emit_81, f_emit_101, f_emit_122, f_updateOpen, f_updateOpen_19, f_updateOpen_66, f_size, f_instruction, f_openDepth, f_transformFactor, f_law_96, f_law_107, f_law_120, f_law_131, f_law_149, f_law_162, f_law_173, f_law_216, f_law_228, f_law_240, f_law_267, f_law_293, f_law_308, f_law_328, f_law_348, f_law_368, f_law_395, f_law_410, bnd_eq, setA_1, setA_2, setI_1, setI_2, t21, t22, t23, t24, i0, grd_pos b24, grd_pos b4, own_gT, e1, e2, e3]
theorem plain : ∀ a b c d, ∃ n w, f_law n a b c d = some (1, w) := by
  intro a b c d
  obtain ⟨s, e, f⟩ := own_reset (n := 40) (by omega) zeroS
  refine ⟨40, ?_⟩
  obtain ⟨w, hw⟩ := own_law7 40 s (by rw [f]; simp [setI_1]) (by rw [f]; simp [setI_1]) (by rw [f]; simp [setI_1]) a b c d
  refine ⟨w, ?_⟩
  unfold f_law f_ctor f_ctor_164
  simp only [e, Option.bind_some, hw]
theorem main_1_1 : Claimed_1_1 := comes_1 plain fun _ _ _ _ _ _ h hF => ⟨h.1, hF⟩
theorem main_1_2 : Claimed_1_2 := comes_1 plain fun _ _ _ _ _ _ h hF => ⟨h.2.1, hF⟩

end Jvm.Pilot.@@N@@
namespace Jvm.Pilot.@@N@@
open Jvm Jvm.ClassFile Sem Op Lib Jvm.Free Jvm.Stand Jvm.Pilot.@@N@@.Jvm.D
/-! MADE BY PROGRAM (witnessworld.py) out of the Statement's table words and the real class files: 11 classes; the members and pool entries that the words name. The judged class is class 1, her method 2. -/
namespace start1
open Jvm.ClassFile
def u (s : String) : CpInfo := .utf8 (stringToUtf16 s)
/-- a pool by its gaps: so many unusable entries, then the entry; so many at the end -/
def gap : Nat → List CpInfo → List CpInfo
  | 0, r => r
  | n + 1, r => .unusable :: gap n r
def poolList (es : List (Nat × CpInfo)) (last : Nat) : List CpInfo := es.foldr (fun e r => gap e.1 (e.2 :: r)) (gap last [])
def pool (es : List (Nat × CpInfo)) (last : Nat) : Array CpInfo := ⟨poolList es last⟩
def fileOf (pool : Array CpInfo) (this : Nat) (attrs : Array Attribute := #[]) (ms : Array MethodInfo := #[]) (fl : Nat := 33) (sup : Nat := 0) (ifs : Array Nat := #[]) (fds : Array FieldInfo := #[]) : ClassFile where
  minorVersion := 0
  majorVersion := 65
  constantPool := pool
  accessFlags := fl
  thisClass := this
  superClass := sup
  interfaces := ifs
  fields := fds
  methods := ms
  attributes := attrs
def plain (name : String) (sup : Option ClassId) : Class where
  name := name
  kind := .ordinary
  loader := none
  accessFlags := 33
  super := sup
  interfaces := #[]
  cf := none
  fields := #[]
  methods := #[]
  instanceTypes := #[]
  staticTypes := #[]
  resolved := #[]
  callSites := []
  init := .initialized
  statics := none
  mirror := none

def pool0 : Array CpInfo := pool [(5, u "<init>"), (0, u "()V"), (1, .class_ 10), (1, u "java/lang/Object")] 113

def k0c0 : Code := { maxStack := 0, maxLocals := 1, code := object_method_1_code, exceptionTable := #[], attributes := #[] }
def k0m0 : Method := { name := "<init>", desc := "()V", sig := { parameters := [], returnType := none }, accessFlags := 1, code := some k0c0 }
/-- java/lang/Object -/
def k0 : Class := { plain "java/lang/Object" none with
  accessFlags := 33
  interfaces := #[]
  cf := some (fileOf pool0 8 #[] #[{ accessFlags := 1, nameIndex := 5, descriptorIndex := 6, attributes := #[] }] 33 0 #[] #[])
  fields := #[]
  methods := #[k0m0]
  instanceTypes := #[]
  staticTypes := #[]
  resolved := Array.replicate 124 none
  statics := none }

def pool1 : Array CpInfo := pool [(2, .class_ 4), (0, .nameAndType 5 6), (0, u "java/lang/Object"), (0, u "<init>"), (0, u "()V"), (0, .class_ 8), (0, u "LoopUnroller"), (0, .methodref 7 3), (0, .methodref 7 11), (0, .nameAndType 12 13), (0, u "transform"), (0, u "(I)Z"), (0, .methodref 7 15), (0, .nameAndType 16 17), (0, u "emit"), (0, u "(IIII)Z"), (0, .methodref 7 19), (0, .nameAndType 20 21), (0, u "size"), (0, u "()I"), (0, .methodref 7 23), (0, .nameAndType 24 25), (0, u "instruction"), (0, u "(II)I"), (0, .methodref 7 27), (0, .nameAndType 28 21), (0, u "openDepth"), (0, .methodref 7 30), (0, .nameAndType 31 21), (0, u "transformFactor"), (0, .methodref 33 34), (0, .class_ 35), (0, .nameAndType 36 13), (0, u "LoopUnrollerL2"), (0, u "v"), (3, u "law")] 2

def k1m0 : Method := { name := "<init>", desc := "()V", sig := { parameters := [], returnType := none }, accessFlags := 1, code := none }
def k1c1 : Code := { maxStack := 2, maxLocals := 1, code := method_2_code, exceptionTable := #[], attributes := #[] }
def k1m1 : Method := { name := "v", desc := "(I)Z", sig := { parameters := [.int], returnType := some .boolean }, accessFlags := 10, code := some k1c1 }
def k1c2 : Code := { maxStack := 5, maxLocals := 19, code := code, exceptionTable := #[], attributes := #[] }
def k1m2 : Method := { name := "law", desc := "(IIII)Z", sig := { parameters := [.int, .int, .int, .int], returnType := some .boolean }, accessFlags := 9, code := some k1c2 }
/-- LoopUnrollerL2 -/
def k1 : Class := { plain "LoopUnrollerL2" (some 0) with
  accessFlags := 49
  interfaces := #[]
  cf := some (fileOf pool1 33 #[] #[{ accessFlags := 1, nameIndex := 5, descriptorIndex := 6, attributes := #[] }, { accessFlags := 10, nameIndex := 36, descriptorIndex := 13, attributes := #[] }, { accessFlags := 9, nameIndex := 40, descriptorIndex := 17, attributes := #[] }] 49 2 #[] #[])
  fields := #[]
  methods := #[k1m0, k1m1, k1m2]
  instanceTypes := #[]
  staticTypes := #[]
  resolved := Array.replicate 43 none
  statics := none }

def pool2 : Array CpInfo := pool [(1, .methodref 2 3), (0, .class_ 4), (0, .nameAndType 5 6), (0, u "java/lang/Object"), (0, u "<init>"), (0, u "()V"), (0, .fieldref 8 9), (0, .class_ 10), (0, .nameAndType 11 12), (0, u "LoopUnroller"), (0, u "ops"), (0, u "[I"), (0, .fieldref 8 14), (0, .nameAndType 15 12), (0, u "fieldA"), (0, .fieldref 8 17), (0, .nameAndType 18 12), (0, u "fieldB"), (0, .fieldref 8 20), (0, .nameAndType 21 12), (0, u "fieldC"), (0, .fieldref 8 23), (0, .nameAndType 24 12), (0, u "match"), (0, .fieldref 8 26), (0, .nameAndType 27 12), (0, u "openPos"), (0, .fieldref 8 29), (0, .nameAndType 30 12), (0, u "openElse"), (0, .fieldref 8 32), (0, .nameAndType 33 34), (0, u "openLoop"), (0, u "[Z"), (0, .fieldref 8 36), (0, .nameAndType 37 12), (0, u "inputs"), (0, .fieldref 8 39), (0, .nameAndType 40 12), (0, u "outs"), (0, .fieldref 8 42), (0, .nameAndType 43 12), (0, u "finals"), (0, .fieldref 8 45), (0, .nameAndType 46 12), (0, u "vars"), (0, .fieldref 8 48), (0, .nameAndType 49 12), (0, u "frameAt"), (0, .fieldref 8 51), (0, .nameAndType 52 12), (0, u "frameStart"), (0, .fieldref 8 54), (0, .nameAndType 55 12), (0, u "frameTrip"), (0, .fieldref 8 57), (0, .nameAndType 58 12), (0, u "frameChunk"), (0, .fieldref 8 60), (0, .nameAndType 61 12), (0, u "frameCopy"), (0, .fieldref 8 63), (0, .nameAndType 64 34), (0, u "invariantIf"), (0, .fieldref 8 66), (0, .nameAndType 67 12), (0, u "ifLoop"), (0, .fieldref 8 69), (0, .nameAndType 70 34), (0, u "guardKnown"), (0, .fieldref 8 72), (0, .nameAndType 73 34), (0, u "guardValue"), (0, .methodref 8 75), (0, .nameAndType 76 6), (0, u "reset"), (0, .methodref 8 78), (0, .nameAndType 79 6), (0, u "clearProgram"), (0, .methodref 8 81), (0, .nameAndType 82 6), (0, u "clearOpen"), (0, .fieldref 8 84), (0, .nameAndType 85 86), (0, u "factor"), (0, u "I"), (0, .methodref 8 88), (0, .nameAndType 89 6), (0, u "clearResults"), (0, .fieldref 8 91), (0, .nameAndType 92 86), (0, u "codeSize"), (0, .methodref 8 94), (0, .nameAndType 95 96), (0, u "operandsValid"), (0, u "(IIII)Z"), (0, .methodref 8 98), (0, .nameAndType 99 100), (0, u "structureAllows"), (0, u "(I)Z"), (0, .methodref 8 102), (0, .nameAndType 103 100), (0, u "usesA"), (0, .methodref 8 105), (0, .nameAndType 106 100), (0, u "usesB"), (0, .methodref 8 108), (0, .nameAndType 109 100), (0, u "usesC"), (0, .methodref 8 111), (0, .nameAndType 112 113), (0, u "updateOpen"), (0, u "(II)V"), (0, .fieldref 8 115), (0, .nameAndType 116 86), (0, u "openCount"), (0, .methodref 8 118), (0, .nameAndType 119 100), (0, u "isVar"), (12, u "stopped"), (0, u "Z"), (0, .fieldref 8 135), (0, .nameAndType 136 86), (0, u "status"), (0, .fieldref 8 138), (0, .nameAndType 139 86), (0, u "outCount"), (0, .fieldref 8 141), (0, .nameAndType 142 86), (0, u "openLoops"), (0, .methodref 8 144), (0, .nameAndType 145 100), (0, u "cIsVar"), (12, u "runFactor"), (2, u "pc"), (2, u "frames"), (28, u "SET"), (2, u "ADD"), (1, u "SUB"), (1, u "MUL"), (1, u "AND"), (1, u "XOR"), (1, u "LT"), (1, u "ADDI"), (1, u "OUT"), (1, u "LOOP"), (1, u "END"), (1, u "IF"), (1, u "ELSE"), (1, u "ENDIF"), (1, u "FIELD_OP"), (1, u "FIELD_A"), (0, u "FIELD_B"), (0, u "FIELD_C"), (0, u "RUN_ORIGINAL"), (0, u "RUN_TRANSFORMED"), (0, u "REFUSED"), (1, u "STATUS_NONE"), (0, u "STATUS_DONE"), (0, u "STATUS_TOO_LONG"), (0, u "MAX_CODE"), (1, u "NUM_VARS"), (0, u "MAX_OUT"), (1, u "MAX_TRIP"), (1, u "MAX_OPEN"), (0, u "MAX_OPEN_LOOPS"), (0, u "MIN_STEP"), (1, u "MAX_STEP"), (1, u "MIN_FACTOR"), (0, u "MAX_FACTOR"), (3, u "emit"), (1, u "size"), (0, u "()I"), (0, u "instruction"), (0, u "(II)I"), (0, u "openDepth"), (4, u "transform"), (0, u "transformFactor")] 8

def k2c0 : Code := { maxStack := 2, maxLocals := 1, code := prog_1_method_1_code, exceptionTable := #[], attributes := #[] }
def k2m0 : Method := { name := "<init>", desc := "()V", sig := { parameters := [], returnType := none }, accessFlags := 1, code := some k2c0 }
def k2c1 : Code := { maxStack := 3, maxLocals := 2, code := prog_1_method_2_code, exceptionTable := #[], attributes := #[] }
def k2m1 : Method := { name := "reset", desc := "()V", sig := { parameters := [], returnType := none }, accessFlags := 1, code := some k2c1 }
def k2c2 : Code := { maxStack := 5, maxLocals := 6, code := prog_1_method_3_code, exceptionTable := #[], attributes := #[] }
def k2m2 : Method := { name := "emit", desc := "(IIII)Z", sig := { parameters := [.int, .int, .int, .int], returnType := some .boolean }, accessFlags := 1, code := some k2c2 }
def k2c3 : Code := { maxStack := 1, maxLocals := 1, code := prog_1_method_4_code, exceptionTable := #[], attributes := #[] }
def k2m3 : Method := { name := "size", desc := "()I", sig := { parameters := [], returnType := some .int }, accessFlags := 1, code := some k2c3 }
def k2c4 : Code := { maxStack := 2, maxLocals := 3, code := prog_1_method_5_code, exceptionTable := #[], attributes := #[] }
def k2m4 : Method := { name := "instruction", desc := "(II)I", sig := { parameters := [.int, .int], returnType := some .int }, accessFlags := 1, code := some k2c4 }
def k2c5 : Code := { maxStack := 1, maxLocals := 1, code := prog_1_method_6_code, exceptionTable := #[], attributes := #[] }
def k2m5 : Method := { name := "openDepth", desc := "()I", sig := { parameters := [], returnType := some .int }, accessFlags := 1, code := some k2c5 }
def k2c6 : Code := { maxStack := 2, maxLocals := 3, code := prog_1_method_10_code, exceptionTable := #[], attributes := #[] }
def k2m6 : Method := { name := "transform", desc := "(I)Z", sig := { parameters := [.int], returnType := some .boolean }, accessFlags := 1, code := some k2c6 }
def k2c7 : Code := { maxStack := 1, maxLocals := 1, code := prog_1_method_11_code, exceptionTable := #[], attributes := #[] }
def k2m7 : Method := { name := "transformFactor", desc := "()I", sig := { parameters := [], returnType := some .int }, accessFlags := 1, code := some k2c7 }
def k2c8 : Code := { maxStack := 3, maxLocals := 2, code := prog_1_method_17_code, exceptionTable := #[], attributes := #[] }
def k2m8 : Method := { name := "clearProgram", desc := "()V", sig := { parameters := [], returnType := none }, accessFlags := 2, code := some k2c8 }
def k2c9 : Code := { maxStack := 3, maxLocals := 2, code := prog_1_method_18_code, exceptionTable := #[], attributes := #[] }
def k2m9 : Method := { name := "clearOpen", desc := "()V", sig := { parameters := [], returnType := none }, accessFlags := 2, code := some k2c9 }
def k2c10 : Code := { maxStack := 3, maxLocals := 2, code := prog_1_method_19_code, exceptionTable := #[], attributes := #[] }
def k2m10 : Method := { name := "clearResults", desc := "()V", sig := { parameters := [], returnType := none }, accessFlags := 2, code := some k2c10 }
def k2c11 : Code := { maxStack := 2, maxLocals := 2, code := prog_1_method_20_code, exceptionTable := #[], attributes := #[] }
def k2m11 : Method := { name := "isVar", desc := "(I)Z", sig := { parameters := [.int], returnType := some .boolean }, accessFlags := 2, code := some k2c11 }
def k2c12 : Code := { maxStack := 2, maxLocals := 2, code := prog_1_method_21_code, exceptionTable := #[], attributes := #[] }
def k2m12 : Method := { name := "usesA", desc := "(I)Z", sig := { parameters := [.int], returnType := some .boolean }, accessFlags := 2, code := some k2c12 }
def k2c13 : Code := { maxStack := 2, maxLocals := 2, code := prog_1_method_22_code, exceptionTable := #[], attributes := #[] }
def k2m13 : Method := { name := "usesB", desc := "(I)Z", sig := { parameters := [.int], returnType := some .boolean }, accessFlags := 2, code := some k2c13 }
def k2c14 : Code := { maxStack := 2, maxLocals := 2, code := prog_1_method_23_code, exceptionTable := #[], attributes := #[] }
def k2m14 : Method := { name := "usesC", desc := "(I)Z", sig := { parameters := [.int], returnType := some .boolean }, accessFlags := 2, code := some k2c14 }
def k2c15 : Code := { maxStack := 2, maxLocals := 2, code := prog_1_method_24_code, exceptionTable := #[], attributes := #[] }
def k2m15 : Method := { name := "cIsVar", desc := "(I)Z", sig := { parameters := [.int], returnType := some .boolean }, accessFlags := 2, code := some k2c15 }
def k2c16 : Code := { maxStack := 2, maxLocals := 5, code := prog_1_method_26_code, exceptionTable := #[], attributes := #[] }
def k2m16 : Method := { name := "operandsValid", desc := "(IIII)Z", sig := { parameters := [.int, .int, .int, .int], returnType := some .boolean }, accessFlags := 2, code := some k2c16 }
def k2c17 : Code := { maxStack := 2, maxLocals := 3, code := prog_1_method_27_code, exceptionTable := #[], attributes := #[] }
def k2m17 : Method := { name := "structureAllows", desc := "(I)Z", sig := { parameters := [.int], returnType := some .boolean }, accessFlags := 2, code := some k2c17 }
def k2c18 : Code := { maxStack := 4, maxLocals := 4, code := prog_1_method_28_code, exceptionTable := #[], attributes := #[] }
def k2m18 : Method := { name := "updateOpen", desc := "(II)V", sig := { parameters := [.int, .int], returnType := none }, accessFlags := 2, code := some k2c18 }
/-- LoopUnroller -/
def k2 : Class := { plain "LoopUnroller" (some 0) with
  accessFlags := 49
  interfaces := #[]
  cf := some (fileOf pool2 8 #[] #[{ accessFlags := 1, nameIndex := 5, descriptorIndex := 6, attributes := #[] }, { accessFlags := 1, nameIndex := 76, descriptorIndex := 6, attributes := #[] }, { accessFlags := 1, nameIndex := 252, descriptorIndex := 96, attributes := #[] }, { accessFlags := 1, nameIndex := 254, descriptorIndex := 255, attributes := #[] }, { accessFlags := 1, nameIndex := 256, descriptorIndex := 257, attributes := #[] }, { accessFlags := 1, nameIndex := 258, descriptorIndex := 255, attributes := #[] }, { accessFlags := 1, nameIndex := 263, descriptorIndex := 100, attributes := #[] }, { accessFlags := 1, nameIndex := 264, descriptorIndex := 255, attributes := #[] }, { accessFlags := 2, nameIndex := 79, descriptorIndex := 6, attributes := #[] }, { accessFlags := 2, nameIndex := 82, descriptorIndex := 6, attributes := #[] }, { accessFlags := 2, nameIndex := 89, descriptorIndex := 6, attributes := #[] }, { accessFlags := 2, nameIndex := 119, descriptorIndex := 100, attributes := #[] }, { accessFlags := 2, nameIndex := 103, descriptorIndex := 100, attributes := #[] }, { accessFlags := 2, nameIndex := 106, descriptorIndex := 100, attributes := #[] }, { accessFlags := 2, nameIndex := 109, descriptorIndex := 100, attributes := #[] }, { accessFlags := 2, nameIndex := 145, descriptorIndex := 100, attributes := #[] }, { accessFlags := 2, nameIndex := 95, descriptorIndex := 96, attributes := #[] }, { accessFlags := 2, nameIndex := 99, descriptorIndex := 100, attributes := #[] }, { accessFlags := 2, nameIndex := 112, descriptorIndex := 113, attributes := #[] }] 49 2 #[] #[{ accessFlags := 25, nameIndex := 193, descriptorIndex := 86, attributes := #[] }, { accessFlags := 25, nameIndex := 196, descriptorIndex := 86, attributes := #[] }, { accessFlags := 25, nameIndex := 198, descriptorIndex := 86, attributes := #[] }, { accessFlags := 25, nameIndex := 200, descriptorIndex := 86, attributes := #[] }, { accessFlags := 25, nameIndex := 202, descriptorIndex := 86, attributes := #[] }, { accessFlags := 25, nameIndex := 204, descriptorIndex := 86, attributes := #[] }, { accessFlags := 25, nameIndex := 206, descriptorIndex := 86, attributes := #[] }, { accessFlags := 25, nameIndex := 208, descriptorIndex := 86, attributes := #[] }, { accessFlags := 25, nameIndex := 210, descriptorIndex := 86, attributes := #[] }, { accessFlags := 25, nameIndex := 212, descriptorIndex := 86, attributes := #[] }, { accessFlags := 25, nameIndex := 214, descriptorIndex := 86, attributes := #[] }, { accessFlags := 25, nameIndex := 216, descriptorIndex := 86, attributes := #[] }, { accessFlags := 25, nameIndex := 218, descriptorIndex := 86, attributes := #[] }, { accessFlags := 25, nameIndex := 220, descriptorIndex := 86, attributes := #[] }, { accessFlags := 25, nameIndex := 222, descriptorIndex := 86, attributes := #[] }, { accessFlags := 25, nameIndex := 224, descriptorIndex := 86, attributes := #[] }, { accessFlags := 25, nameIndex := 225, descriptorIndex := 86, attributes := #[] }, { accessFlags := 25, nameIndex := 226, descriptorIndex := 86, attributes := #[] }, { accessFlags := 25, nameIndex := 227, descriptorIndex := 86, attributes := #[] }, { accessFlags := 25, nameIndex := 228, descriptorIndex := 86, attributes := #[] }, { accessFlags := 25, nameIndex := 229, descriptorIndex := 86, attributes := #[] }, { accessFlags := 25, nameIndex := 231, descriptorIndex := 86, attributes := #[] }, { accessFlags := 25, nameIndex := 232, descriptorIndex := 86, attributes := #[] }, { accessFlags := 25, nameIndex := 233, descriptorIndex := 86, attributes := #[] }, { accessFlags := 25, nameIndex := 234, descriptorIndex := 86, attributes := #[] }, { accessFlags := 25, nameIndex := 236, descriptorIndex := 86, attributes := #[] }, { accessFlags := 25, nameIndex := 237, descriptorIndex := 86, attributes := #[] }, { accessFlags := 25, nameIndex := 239, descriptorIndex := 86, attributes := #[] }, { accessFlags := 25, nameIndex := 241, descriptorIndex := 86, attributes := #[] }, { accessFlags := 25, nameIndex := 242, descriptorIndex := 86, attributes := #[] }, { accessFlags := 25, nameIndex := 243, descriptorIndex := 86, attributes := #[] }, { accessFlags := 25, nameIndex := 245, descriptorIndex := 86, attributes := #[] }, { accessFlags := 25, nameIndex := 247, descriptorIndex := 86, attributes := #[] }, { accessFlags := 25, nameIndex := 248, descriptorIndex := 86, attributes := #[] }, { accessFlags := 2, nameIndex := 11, descriptorIndex := 12, attributes := #[] }, { accessFlags := 2, nameIndex := 15, descriptorIndex := 12, attributes := #[] }, { accessFlags := 2, nameIndex := 18, descriptorIndex := 12, attributes := #[] }, { accessFlags := 2, nameIndex := 21, descriptorIndex := 12, attributes := #[] }, { accessFlags := 2, nameIndex := 24, descriptorIndex := 12, attributes := #[] }, { accessFlags := 2, nameIndex := 92, descriptorIndex := 86, attributes := #[] }, { accessFlags := 2, nameIndex := 27, descriptorIndex := 12, attributes := #[] }, { accessFlags := 2, nameIndex := 30, descriptorIndex := 12, attributes := #[] }, { accessFlags := 2, nameIndex := 33, descriptorIndex := 34, attributes := #[] }, { accessFlags := 2, nameIndex := 116, descriptorIndex := 86, attributes := #[] }, { accessFlags := 2, nameIndex := 142, descriptorIndex := 86, attributes := #[] }, { accessFlags := 2, nameIndex := 37, descriptorIndex := 12, attributes := #[] }, { accessFlags := 2, nameIndex := 85, descriptorIndex := 86, attributes := #[] }, { accessFlags := 2, nameIndex := 136, descriptorIndex := 86, attributes := #[] }, { accessFlags := 2, nameIndex := 139, descriptorIndex := 86, attributes := #[] }, { accessFlags := 2, nameIndex := 40, descriptorIndex := 12, attributes := #[] }, { accessFlags := 2, nameIndex := 43, descriptorIndex := 12, attributes := #[] }, { accessFlags := 2, nameIndex := 46, descriptorIndex := 12, attributes := #[] }, { accessFlags := 2, nameIndex := 161, descriptorIndex := 86, attributes := #[] }, { accessFlags := 2, nameIndex := 132, descriptorIndex := 133, attributes := #[] }, { accessFlags := 2, nameIndex := 158, descriptorIndex := 86, attributes := #[] }, { accessFlags := 2, nameIndex := 164, descriptorIndex := 86, attributes := #[] }, { accessFlags := 2, nameIndex := 49, descriptorIndex := 12, attributes := #[] }, { accessFlags := 2, nameIndex := 52, descriptorIndex := 12, attributes := #[] }, { accessFlags := 2, nameIndex := 55, descriptorIndex := 12, attributes := #[] }, { accessFlags := 2, nameIndex := 58, descriptorIndex := 12, attributes := #[] }, { accessFlags := 2, nameIndex := 61, descriptorIndex := 12, attributes := #[] }, { accessFlags := 2, nameIndex := 64, descriptorIndex := 34, attributes := #[] }, { accessFlags := 2, nameIndex := 67, descriptorIndex := 12, attributes := #[] }, { accessFlags := 2, nameIndex := 70, descriptorIndex := 34, attributes := #[] }, { accessFlags := 2, nameIndex := 73, descriptorIndex := 34, attributes := #[] }])
  fields := #[{ name := "SET", type := .int, accessFlags := 25, slot := 0, constantValue := 0 }, { name := "ADD", type := .int, accessFlags := 25, slot := 1, constantValue := 0 }, { name := "SUB", type := .int, accessFlags := 25, slot := 2, constantValue := 0 }, { name := "MUL", type := .int, accessFlags := 25, slot := 3, constantValue := 0 }, { name := "AND", type := .int, accessFlags := 25, slot := 4, constantValue := 0 }, { name := "XOR", type := .int, accessFlags := 25, slot := 5, constantValue := 0 }, { name := "LT", type := .int, accessFlags := 25, slot := 6, constantValue := 0 }, { name := "ADDI", type := .int, accessFlags := 25, slot := 7, constantValue := 0 }, { name := "OUT", type := .int, accessFlags := 25, slot := 8, constantValue := 0 }, { name := "LOOP", type := .int, accessFlags := 25, slot := 9, constantValue := 0 }, { name := "END", type := .int, accessFlags := 25, slot := 10, constantValue := 0 }, { name := "IF", type := .int, accessFlags := 25, slot := 11, constantValue := 0 }, { name := "ELSE", type := .int, accessFlags := 25, slot := 12, constantValue := 0 }, { name := "ENDIF", type := .int, accessFlags := 25, slot := 13, constantValue := 0 }, { name := "FIELD_OP", type := .int, accessFlags := 25, slot := 14, constantValue := 0 }, { name := "FIELD_A", type := .int, accessFlags := 25, slot := 15, constantValue := 0 }, { name := "FIELD_B", type := .int, accessFlags := 25, slot := 16, constantValue := 0 }, { name := "FIELD_C", type := .int, accessFlags := 25, slot := 17, constantValue := 0 }, { name := "RUN_ORIGINAL", type := .int, accessFlags := 25, slot := 18, constantValue := 0 }, { name := "RUN_TRANSFORMED", type := .int, accessFlags := 25, slot := 19, constantValue := 0 }, { name := "REFUSED", type := .int, accessFlags := 25, slot := 20, constantValue := 0 }, { name := "STATUS_NONE", type := .int, accessFlags := 25, slot := 21, constantValue := 0 }, { name := "STATUS_DONE", type := .int, accessFlags := 25, slot := 22, constantValue := 0 }, { name := "STATUS_TOO_LONG", type := .int, accessFlags := 25, slot := 23, constantValue := 0 }, { name := "MAX_CODE", type := .int, accessFlags := 25, slot := 24, constantValue := 0 }, { name := "NUM_VARS", type := .int, accessFlags := 25, slot := 25, constantValue := 0 }, { name := "MAX_OUT", type := .int, accessFlags := 25, slot := 26, constantValue := 0 }, { name := "MAX_TRIP", type := .int, accessFlags := 25, slot := 27, constantValue := 0 }, { name := "MAX_OPEN", type := .int, accessFlags := 25, slot := 28, constantValue := 0 }, { name := "MAX_OPEN_LOOPS", type := .int, accessFlags := 25, slot := 29, constantValue := 0 }, { name := "MIN_STEP", type := .int, accessFlags := 25, slot := 30, constantValue := 0 }, { name := "MAX_STEP", type := .int, accessFlags := 25, slot := 31, constantValue := 0 }, { name := "MIN_FACTOR", type := .int, accessFlags := 25, slot := 32, constantValue := 0 }, { name := "MAX_FACTOR", type := .int, accessFlags := 25, slot := 33, constantValue := 0 }, { name := "ops", type := (.array .int), accessFlags := 2, slot := 0, constantValue := 0 }, { name := "fieldA", type := (.array .int), accessFlags := 2, slot := 1, constantValue := 0 }, { name := "fieldB", type := (.array .int), accessFlags := 2, slot := 2, constantValue := 0 }, { name := "fieldC", type := (.array .int), accessFlags := 2, slot := 3, constantValue := 0 }, { name := "match", type := (.array .int), accessFlags := 2, slot := 4, constantValue := 0 }, { name := "codeSize", type := .int, accessFlags := 2, slot := 5, constantValue := 0 }, { name := "openPos", type := (.array .int), accessFlags := 2, slot := 6, constantValue := 0 }, { name := "openElse", type := (.array .int), accessFlags := 2, slot := 7, constantValue := 0 }, { name := "openLoop", type := (.array .boolean), accessFlags := 2, slot := 8, constantValue := 0 }, { name := "openCount", type := .int, accessFlags := 2, slot := 9, constantValue := 0 }, { name := "openLoops", type := .int, accessFlags := 2, slot := 10, constantValue := 0 }, { name := "inputs", type := (.array .int), accessFlags := 2, slot := 11, constantValue := 0 }, { name := "factor", type := .int, accessFlags := 2, slot := 12, constantValue := 0 }, { name := "status", type := .int, accessFlags := 2, slot := 13, constantValue := 0 }, { name := "outCount", type := .int, accessFlags := 2, slot := 14, constantValue := 0 }, { name := "outs", type := (.array .int), accessFlags := 2, slot := 15, constantValue := 0 }, { name := "finals", type := (.array .int), accessFlags := 2, slot := 16, constantValue := 0 }, { name := "vars", type := (.array .int), accessFlags := 2, slot := 17, constantValue := 0 }, { name := "pc", type := .int, accessFlags := 2, slot := 18, constantValue := 0 }, { name := "stopped", type := .boolean, accessFlags := 2, slot := 19, constantValue := 0 }, { name := "runFactor", type := .int, accessFlags := 2, slot := 20, constantValue := 0 }, { name := "frames", type := .int, accessFlags := 2, slot := 21, constantValue := 0 }, { name := "frameAt", type := (.array .int), accessFlags := 2, slot := 22, constantValue := 0 }, { name := "frameStart", type := (.array .int), accessFlags := 2, slot := 23, constantValue := 0 }, { name := "frameTrip", type := (.array .int), accessFlags := 2, slot := 24, constantValue := 0 }, { name := "frameChunk", type := (.array .int), accessFlags := 2, slot := 25, constantValue := 0 }, { name := "frameCopy", type := (.array .int), accessFlags := 2, slot := 26, constantValue := 0 }, { name := "invariantIf", type := (.array .boolean), accessFlags := 2, slot := 27, constantValue := 0 }, { name := "ifLoop", type := (.array .int), accessFlags := 2, slot := 28, constantValue := 0 }, { name := "guardKnown", type := (.array .boolean), accessFlags := 2, slot := 29, constantValue := 0 }, { name := "guardValue", type := (.array .boolean), accessFlags := 2, slot := 30, constantValue := 0 }]
  methods := #[k2m0, k2m1, k2m2, k2m3, k2m4, k2m5, k2m6, k2m7, k2m8, k2m9, k2m10, k2m11, k2m12, k2m13, k2m14, k2m15, k2m16, k2m17, k2m18]
  instanceTypes := #[(.array .int), (.array .int), (.array .int), (.array .int), (.array .int), .int, (.array .int), (.array .int), (.array .boolean), .int, .int, (.array .int), .int, .int, .int, (.array .int), (.array .int), (.array .int), .int, .boolean, .int, .int, (.array .int), (.array .int), (.array .int), (.array .int), (.array .int), (.array .boolean), (.array .int), (.array .boolean), (.array .boolean)]
  staticTypes := #[.int, .int, .int, .int, .int, .int, .int, .int, .int, .int, .int, .int, .int, .int, .int, .int, .int, .int, .int, .int, .int, .int, .int, .int, .int, .int, .int, .int, .int, .int, .int, .int, .int, .int]
  resolved := Array.replicate 273 none
  statics := none }

def pool3 : Array CpInfo := pool [(1, u "java/lang/Cloneable"), (0, .class_ 1), (0, u "java/lang/Object"), (0, .class_ 3)] 3

/-- java/lang/Cloneable -/
def k3 : Class := { plain "java/lang/Cloneable" (some 0) with
  accessFlags := 1537
  interfaces := #[]
  cf := some (fileOf pool3 2 #[] #[] 1537 4 #[] #[])
  fields := #[]
  methods := #[]
  instanceTypes := #[]
  staticTypes := #[]
  resolved := Array.replicate 8 none
  statics := none }

def pool4 : Array CpInfo := pool [(1, u "java/io/Serializable"), (0, .class_ 1), (0, u "java/lang/Object"), (0, .class_ 3)] 3

/-- java/io/Serializable -/
def k4 : Class := { plain "java/io/Serializable" (some 0) with
  accessFlags := 1537
  interfaces := #[]
  cf := some (fileOf pool4 2 #[] #[] 1537 4 #[] #[])
  fields := #[]
  methods := #[]
  instanceTypes := #[]
  staticTypes := #[]
  resolved := Array.replicate 8 none
  statics := none }

/-- the primitive boolean -/
def k5 : Class := { plain "boolean" none with kind := .primitive 'Z', accessFlags := 0x411 }
/-- [Z -/
def k6 : Class := { plain "[Z" (some 0) with kind := .array 5 .boolean, interfaces := #[3, 4], accessFlags := 1041 }

/-- the primitive byte -/
def k7 : Class := { plain "byte" none with kind := .primitive 'B', accessFlags := 0x411 }
/-- [B -/
def k8 : Class := { plain "[B" (some 0) with kind := .array 7 .byte, interfaces := #[3, 4], accessFlags := 1041 }

/-- the primitive int -/
def k9 : Class := { plain "int" none with kind := .primitive 'I', accessFlags := 0x411 }
/-- [I -/
def k10 : Class := { plain "[I" (some 0) with kind := .array 9 .int, interfaces := #[3, 4], accessFlags := 1041 }

def heap : Heap := #[]
def classes : Array Class := #[k0, k1, k2, k3, k4, k5, k6, k7, k8, k9, k10]
def interned : List (Array UInt16 × Addr) := []
def slotsUsed : Nat := 0
def theMethod : MethodId := ⟨1, 2⟩
def args0 : Array Value := #[.int 5, .int 5, .int 5, .int 5]
def aboutOver (below : List Frame) : State where
  vm := { classes := classes, interned := interned.toArray }
  heap := heap
  slotsUsed := slotsUsed
  threads := #[{ frames := .invoking theMethod args0 :: below }]
def below0 : List Frame := [.native { method := ⟨0, 0⟩, args := #[] }]
def about1 : State := aboutOver below0
def p0 : Program := .bare "" "" ""
def e0 : Env := launch0.env 0 0 0
theorem w_frames : about1.frames = Frame.invoking theMethod args0 :: below0 := rfl
set_option maxRecDepth 65536 in
theorem w_args : argsFit about1.vm theMethod args0 = true := by decide +kernel
set_option maxRecDepth 65536 in
theorem w_heap : heapFits about1 = true := by decide +kernel
set_option maxRecDepth 65536 in
theorem w_runnable : about1.curStatus? = some .runnable := by decide +kernel
set_option maxRecDepth 65536 in
theorem w_alone : about1.alone = true := by decide +kernel
set_option maxRecDepth 65536 in
theorem w_named : about1.methodNamed? x = some theMethod := by decide +kernel
set_option maxRecDepth 65536 in
theorem w_hears : about1.hears theMethod below0 = true := by decide +kernel
set_option maxRecDepth 65536 in
theorem w_ripe : about1.ripe theMethod args0 below0 = true := by decide +kernel
theorem w_running : about1.status = .running := rfl
set_option maxRecDepth 65536 in
theorem w_room : about1.hasRoom e0.platform room_1 = true :=
  launch0.hasRoom_least _ room_1 (by decide +kernel) (by decide +kernel) (by decide +kernel) (by decide +kernel) (by decide +kernel) (by decide +kernel)
theorem allAtoms_all (ts : List Jvm.Cond) (a : Array Jvm.Value) (st : Jvm.State) : (allAtoms ts).before a st = ts.all (fun c => c.before a st) := by
  induction ts with
  | nil => rfl
  | cons c t ih =>
    show (Jvm.Cond.and c (allAtoms t)).before a st = _
    rw [Jvm.Cond.before_and, ih, List.all_cons]
def words1 : List Jvm.Cond := Jvm.Cond.code x code maxLocals ret :: tables_1
/-- a 'code' word, met by the world's own term for the bytes: nothing is compared byte by byte -/
theorem code_word {y : MethodName} {bytes : ByteArray} {mx : Nat} {rt : Option FieldType} {a : Array Value} {s : State} {m : MethodId} {meth : Method} {c : Code} (h1 : s.methodNamed? y = some m) (h2 : s.vm.method? m = some meth) (h3 : meth.code = some c) (h4 : c.code = bytes)
    (h5 : (c.maxLocals == mx && c.exceptionTable.isEmpty && decide (c.maxStack ≤ mostOperands) && decide (meth.sig.returnType = rt) && !meth.locks && decide (parseMethodDescriptor y.desc = some meth.sig)) = true) : (Jvm.Cond.code y bytes mx rt).before a s = true := by
  simp only [Bool.and_eq_true, beq_iff_eq, Bool.not_eq_true', decide_eq_true_eq] at h5
  obtain ⟨⟨⟨⟨⟨g1, g2⟩, g3⟩, g4⟩, g5⟩, g6⟩ := h5
  simp [Cond.before, Cond.holds, Cond.value, h1, h2, h3, h4, g1, g2, g3, g4, g5, g6]
def isCode : Jvm.Cond → Bool
  | .code _ _ _ _ => true
  | _ => false
theorem all_split {L : List Jvm.Cond} {P : Jvm.Cond → Bool} (h1 : L.all (fun c => isCode c || P c) = true) (h2 : ∀ c ∈ L.filter isCode, P c = true) : L.all P = true := by
  refine List.all_eq_true.mpr fun c hc => ?_
  have h := List.all_eq_true.mp h1 c hc
  rcases Bool.eq_false_or_eq_true (isCode c) with hi | hi
  · exact h2 c (List.mem_filter.mpr ⟨hc, hi⟩)
  · simpa [hi] using h
set_option maxRecDepth 65536 in
theorem w_c0 : (Jvm.Cond.code x code maxLocals ret).before args0 about1 = true := code_word (m := ⟨1, 2⟩) (meth := k1m2) (c := k1c2) (by decide +kernel) rfl rfl rfl (by decide +kernel)
set_option maxRecDepth 65536 in
theorem w_c1 : (Jvm.Cond.code ({ cls := "LoopUnroller", name := "<init>", desc := "()V" } : Jvm.MethodName) prog_1_method_1_code (1 : Nat) (Option.none : Option Jvm.ClassFile.FieldType)).before args0 about1 = true := code_word (m := ⟨2, 0⟩) (meth := k2m0) (c := k2c0) (by decide +kernel) rfl rfl rfl (by decide +kernel)
set_option maxRecDepth 65536 in
theorem w_c2 : (Jvm.Cond.code ({ cls := "java/lang/Object", name := "<init>", desc := "()V" } : Jvm.MethodName) object_method_1_code (1 : Nat) (Option.none : Option Jvm.ClassFile.FieldType)).before args0 about1 = true := code_word (m := ⟨0, 0⟩) (meth := k0m0) (c := k0c0) (by decide +kernel) rfl rfl rfl (by decide +kernel)
set_option maxRecDepth 65536 in
theorem w_c3 : (Jvm.Cond.code ({ cls := "LoopUnroller", name := "reset", desc := "()V" } : Jvm.MethodName) prog_1_method_2_code (2 : Nat) (Option.none : Option Jvm.ClassFile.FieldType)).before args0 about1 = true := code_word (m := ⟨2, 1⟩) (meth := k2m1) (c := k2c1) (by decide +kernel) rfl rfl rfl (by decide +kernel)
set_option maxRecDepth 65536 in
theorem w_c4 : (Jvm.Cond.code ({ cls := "LoopUnroller", name := "clearProgram", desc := "()V" } : Jvm.MethodName) prog_1_method_17_code (2 : Nat) (Option.none : Option Jvm.ClassFile.FieldType)).before args0 about1 = true := code_word (m := ⟨2, 8⟩) (meth := k2m8) (c := k2c8) (by decide +kernel) rfl rfl rfl (by decide +kernel)
set_option maxRecDepth 65536 in
theorem w_c5 : (Jvm.Cond.code ({ cls := "LoopUnroller", name := "clearOpen", desc := "()V" } : Jvm.MethodName) prog_1_method_18_code (2 : Nat) (Option.none : Option Jvm.ClassFile.FieldType)).before args0 about1 = true := code_word (m := ⟨2, 9⟩) (meth := k2m9) (c := k2c9) (by decide +kernel) rfl rfl rfl (by decide +kernel)
set_option maxRecDepth 65536 in
theorem w_c6 : (Jvm.Cond.code ({ cls := "LoopUnroller", name := "clearResults", desc := "()V" } : Jvm.MethodName) prog_1_method_19_code (2 : Nat) (Option.none : Option Jvm.ClassFile.FieldType)).before args0 about1 = true := code_word (m := ⟨2, 10⟩) (meth := k2m10) (c := k2c10) (by decide +kernel) rfl rfl rfl (by decide +kernel)
set_option maxRecDepth 65536 in
theorem w_c7 : (Jvm.Cond.code ({ cls := "LoopUnroller", name := "transform", desc := "(I)Z" } : Jvm.MethodName) prog_1_method_10_code (3 : Nat) (Option.some Jvm.ClassFile.FieldType.boolean)).before args0 about1 = true := code_word (m := ⟨2, 6⟩) (meth := k2m6) (c := k2c6) (by decide +kernel) rfl rfl rfl (by decide +kernel)
set_option maxRecDepth 65536 in
theorem w_c8 : (Jvm.Cond.code ({ cls := "LoopUnroller", name := "emit", desc := "(IIII)Z" } : Jvm.MethodName) prog_1_method_3_code (6 : Nat) (Option.some Jvm.ClassFile.FieldType.boolean)).before args0 about1 = true := code_word (m := ⟨2, 2⟩) (meth := k2m2) (c := k2c2) (by decide +kernel) rfl rfl rfl (by decide +kernel)
set_option maxRecDepth 65536 in
theorem w_c9 : (Jvm.Cond.code ({ cls := "LoopUnroller", name := "size", desc := "()I" } : Jvm.MethodName) prog_1_method_4_code (1 : Nat) (Option.some Jvm.ClassFile.FieldType.int)).before args0 about1 = true := code_word (m := ⟨2, 3⟩) (meth := k2m3) (c := k2c3) (by decide +kernel) rfl rfl rfl (by decide +kernel)
set_option maxRecDepth 65536 in
theorem w_c10 : (Jvm.Cond.code ({ cls := "LoopUnroller", name := "instruction", desc := "(II)I" } : Jvm.MethodName) prog_1_method_5_code (3 : Nat) (Option.some Jvm.ClassFile.FieldType.int)).before args0 about1 = true := code_word (m := ⟨2, 4⟩) (meth := k2m4) (c := k2c4) (by decide +kernel) rfl rfl rfl (by decide +kernel)
set_option maxRecDepth 65536 in
theorem w_c11 : (Jvm.Cond.code ({ cls := "LoopUnroller", name := "openDepth", desc := "()I" } : Jvm.MethodName) prog_1_method_6_code (1 : Nat) (Option.some Jvm.ClassFile.FieldType.int)).before args0 about1 = true := code_word (m := ⟨2, 5⟩) (meth := k2m5) (c := k2c5) (by decide +kernel) rfl rfl rfl (by decide +kernel)
set_option maxRecDepth 65536 in
theorem w_c12 : (Jvm.Cond.code ({ cls := "LoopUnroller", name := "transformFactor", desc := "()I" } : Jvm.MethodName) prog_1_method_11_code (1 : Nat) (Option.some Jvm.ClassFile.FieldType.int)).before args0 about1 = true := code_word (m := ⟨2, 7⟩) (meth := k2m7) (c := k2c7) (by decide +kernel) rfl rfl rfl (by decide +kernel)
set_option maxRecDepth 65536 in
theorem w_c13 : (Jvm.Cond.code ({ cls := "LoopUnroller", name := "operandsValid", desc := "(IIII)Z" } : Jvm.MethodName) prog_1_method_26_code (5 : Nat) (Option.some Jvm.ClassFile.FieldType.boolean)).before args0 about1 = true := code_word (m := ⟨2, 16⟩) (meth := k2m16) (c := k2c16) (by decide +kernel) rfl rfl rfl (by decide +kernel)
set_option maxRecDepth 65536 in
theorem w_c14 : (Jvm.Cond.code ({ cls := "LoopUnroller", name := "usesA", desc := "(I)Z" } : Jvm.MethodName) prog_1_method_21_code (2 : Nat) (Option.some Jvm.ClassFile.FieldType.boolean)).before args0 about1 = true := code_word (m := ⟨2, 12⟩) (meth := k2m12) (c := k2c12) (by decide +kernel) rfl rfl rfl (by decide +kernel)
set_option maxRecDepth 65536 in
theorem w_c15 : (Jvm.Cond.code ({ cls := "LoopUnroller", name := "isVar", desc := "(I)Z" } : Jvm.MethodName) prog_1_method_20_code (2 : Nat) (Option.some Jvm.ClassFile.FieldType.boolean)).before args0 about1 = true := code_word (m := ⟨2, 11⟩) (meth := k2m11) (c := k2c11) (by decide +kernel) rfl rfl rfl (by decide +kernel)
set_option maxRecDepth 65536 in
theorem w_c16 : (Jvm.Cond.code ({ cls := "LoopUnroller", name := "usesB", desc := "(I)Z" } : Jvm.MethodName) prog_1_method_22_code (2 : Nat) (Option.some Jvm.ClassFile.FieldType.boolean)).before args0 about1 = true := code_word (m := ⟨2, 13⟩) (meth := k2m13) (c := k2c13) (by decide +kernel) rfl rfl rfl (by decide +kernel)
set_option maxRecDepth 65536 in
theorem w_c17 : (Jvm.Cond.code ({ cls := "LoopUnroller", name := "cIsVar", desc := "(I)Z" } : Jvm.MethodName) prog_1_method_24_code (2 : Nat) (Option.some Jvm.ClassFile.FieldType.boolean)).before args0 about1 = true := code_word (m := ⟨2, 15⟩) (meth := k2m15) (c := k2c15) (by decide +kernel) rfl rfl rfl (by decide +kernel)
set_option maxRecDepth 65536 in
theorem w_c18 : (Jvm.Cond.code ({ cls := "LoopUnroller", name := "structureAllows", desc := "(I)Z" } : Jvm.MethodName) prog_1_method_27_code (3 : Nat) (Option.some Jvm.ClassFile.FieldType.boolean)).before args0 about1 = true := code_word (m := ⟨2, 17⟩) (meth := k2m17) (c := k2c17) (by decide +kernel) rfl rfl rfl (by decide +kernel)
set_option maxRecDepth 65536 in
theorem w_c19 : (Jvm.Cond.code ({ cls := "LoopUnroller", name := "usesC", desc := "(I)Z" } : Jvm.MethodName) prog_1_method_23_code (2 : Nat) (Option.some Jvm.ClassFile.FieldType.boolean)).before args0 about1 = true := code_word (m := ⟨2, 14⟩) (meth := k2m14) (c := k2c14) (by decide +kernel) rfl rfl rfl (by decide +kernel)
set_option maxRecDepth 65536 in
theorem w_c20 : (Jvm.Cond.code ({ cls := "LoopUnroller", name := "updateOpen", desc := "(II)V" } : Jvm.MethodName) prog_1_method_28_code (4 : Nat) (Option.none : Option Jvm.ClassFile.FieldType)).before args0 about1 = true := code_word (m := ⟨2, 18⟩) (meth := k2m18) (c := k2c18) (by decide +kernel) rfl rfl rfl (by decide +kernel)
set_option maxRecDepth 65536 in
theorem w_c21 : (Jvm.Cond.code ({ cls := "LoopUnrollerL2", name := "v", desc := "(I)Z" } : Jvm.MethodName) method_2_code (1 : Nat) (Option.some Jvm.ClassFile.FieldType.boolean)).before args0 about1 = true := code_word (m := ⟨1, 1⟩) (meth := k1m1) (c := k1c1) (by decide +kernel) rfl rfl rfl (by decide +kernel)
def codes1 : List Jvm.Cond := [Jvm.Cond.code x code maxLocals ret, Jvm.Cond.code ({ cls := "LoopUnroller", name := "<init>", desc := "()V" } : Jvm.MethodName) prog_1_method_1_code (1 : Nat) (Option.none : Option Jvm.ClassFile.FieldType), Jvm.Cond.code ({ cls := "java/lang/Object", name := "<init>", desc := "()V" } : Jvm.MethodName) object_method_1_code (1 : Nat) (Option.none : Option Jvm.ClassFile.FieldType), Jvm.Cond.code ({ cls := "LoopUnroller", name := "reset", desc := "()V" } : Jvm.MethodName) prog_1_method_2_code (2 : Nat) (Option.none : Option Jvm.ClassFile.FieldType), Jvm.Cond.code ({ cls := "LoopUnroller", name := "clearProgram", desc := "()V" } : Jvm.MethodName) prog_1_method_17_code (2 : Nat) (Option.none : Option Jvm.ClassFile.FieldType), Jvm.Cond.code ({ cls := "LoopUnroller", name := "clearOpen", desc := "()V" } : Jvm.MethodName) prog_1_method_18_code (2 : Nat) (Option.none : Option Jvm.ClassFile.FieldType), Jvm.Cond.code ({ cls := "LoopUnroller", name := "clearResults", desc := "()V" } : Jvm.MethodName) prog_1_method_19_code (2 : Nat) (Option.none : Option Jvm.ClassFile.FieldType), Jvm.Cond.code ({ cls := "LoopUnroller", name := "transform", desc := "(I)Z" } : Jvm.MethodName) prog_1_method_10_code (3 : Nat) (Option.some Jvm.ClassFile.FieldType.boolean), Jvm.Cond.code ({ cls := "LoopUnroller", name := "emit", desc := "(IIII)Z" } : Jvm.MethodName) prog_1_method_3_code (6 : Nat) (Option.some Jvm.ClassFile.FieldType.boolean), Jvm.Cond.code ({ cls := "LoopUnroller", name := "size", desc := "()I" } : Jvm.MethodName) prog_1_method_4_code (1 : Nat) (Option.some Jvm.ClassFile.FieldType.int), Jvm.Cond.code ({ cls := "LoopUnroller", name := "instruction", desc := "(II)I" } : Jvm.MethodName) prog_1_method_5_code (3 : Nat) (Option.some Jvm.ClassFile.FieldType.int), Jvm.Cond.code ({ cls := "LoopUnroller", name := "openDepth", desc := "()I" } : Jvm.MethodName) prog_1_method_6_code (1 : Nat) (Option.some Jvm.ClassFile.FieldType.int), Jvm.Cond.code ({ cls := "LoopUnroller", name := "transformFactor", desc := "()I" } : Jvm.MethodName) prog_1_method_11_code (1 : Nat) (Option.some Jvm.ClassFile.FieldType.int), Jvm.Cond.code ({ cls := "LoopUnroller", name := "operandsValid", desc := "(IIII)Z" } : Jvm.MethodName) prog_1_method_26_code (5 : Nat) (Option.some Jvm.ClassFile.FieldType.boolean), Jvm.Cond.code ({ cls := "LoopUnroller", name := "usesA", desc := "(I)Z" } : Jvm.MethodName) prog_1_method_21_code (2 : Nat) (Option.some Jvm.ClassFile.FieldType.boolean), Jvm.Cond.code ({ cls := "LoopUnroller", name := "isVar", desc := "(I)Z" } : Jvm.MethodName) prog_1_method_20_code (2 : Nat) (Option.some Jvm.ClassFile.FieldType.boolean), Jvm.Cond.code ({ cls := "LoopUnroller", name := "usesB", desc := "(I)Z" } : Jvm.MethodName) prog_1_method_22_code (2 : Nat) (Option.some Jvm.ClassFile.FieldType.boolean), Jvm.Cond.code ({ cls := "LoopUnroller", name := "cIsVar", desc := "(I)Z" } : Jvm.MethodName) prog_1_method_24_code (2 : Nat) (Option.some Jvm.ClassFile.FieldType.boolean), Jvm.Cond.code ({ cls := "LoopUnroller", name := "structureAllows", desc := "(I)Z" } : Jvm.MethodName) prog_1_method_27_code (3 : Nat) (Option.some Jvm.ClassFile.FieldType.boolean), Jvm.Cond.code ({ cls := "LoopUnroller", name := "usesC", desc := "(I)Z" } : Jvm.MethodName) prog_1_method_23_code (2 : Nat) (Option.some Jvm.ClassFile.FieldType.boolean), Jvm.Cond.code ({ cls := "LoopUnroller", name := "updateOpen", desc := "(II)V" } : Jvm.MethodName) prog_1_method_28_code (4 : Nat) (Option.none : Option Jvm.ClassFile.FieldType), Jvm.Cond.code ({ cls := "LoopUnrollerL2", name := "v", desc := "(I)Z" } : Jvm.MethodName) method_2_code (1 : Nat) (Option.some Jvm.ClassFile.FieldType.boolean)]
set_option maxRecDepth 65536 in
theorem codes_eq : words1.filter isCode = codes1 := rfl
theorem w_codes : ∀ c ∈ words1.filter isCode, c.before args0 about1 = true := by
  rw [codes_eq]
  intro c hc
  simp only [codes1, List.mem_cons, List.not_mem_nil, or_false] at hc
  rcases hc with rfl | rfl | rfl | rfl | rfl | rfl | rfl | rfl | rfl | rfl | rfl | rfl | rfl | rfl | rfl | rfl | rfl | rfl | rfl | rfl | rfl | rfl
  · exact w_c0
  · exact w_c1
  · exact w_c2
  · exact w_c3
  · exact w_c4
  · exact w_c5
  · exact w_c6
  · exact w_c7
  · exact w_c8
  · exact w_c9
  · exact w_c10
  · exact w_c11
  · exact w_c12
  · exact w_c13
  · exact w_c14
  · exact w_c15
  · exact w_c16
  · exact w_c17
  · exact w_c18
  · exact w_c19
  · exact w_c20
  · exact w_c21
set_option maxRecDepth 65536 in
theorem w_t1 : (words1.take 24).all (fun c => isCode c || c.before args0 about1) = true := by decide +kernel
set_option maxRecDepth 65536 in
theorem w_t2 : ((words1.drop 24).take 24).all (fun c => isCode c || c.before args0 about1) = true := by decide +kernel
set_option maxRecDepth 65536 in
theorem w_t3 : (((words1.drop 24).drop 24).take 24).all (fun c => isCode c || c.before args0 about1) = true := by decide +kernel
set_option maxRecDepth 65536 in
theorem w_t4 : ((((words1.drop 24).drop 24).drop 24).take 24).all (fun c => isCode c || c.before args0 about1) = true := by decide +kernel
set_option maxRecDepth 65536 in
theorem w_t5 : (((((words1.drop 24).drop 24).drop 24).drop 24).take 24).all (fun c => isCode c || c.before args0 about1) = true := by decide +kernel
set_option maxRecDepth 65536 in
theorem w_t6 : ((((((words1.drop 24).drop 24).drop 24).drop 24).drop 24).take 24).all (fun c => isCode c || c.before args0 about1) = true := by decide +kernel
set_option maxRecDepth 65536 in
theorem w_t7 : ((((((words1.drop 24).drop 24).drop 24).drop 24).drop 24).drop 24).all (fun c => isCode c || c.before args0 about1) = true := by decide +kernel
theorem w_tables : (allAtoms (Jvm.Cond.code x code maxLocals ret :: tables_1)).before args0 about1 = true := by
  rw [allAtoms_all]
  show words1.all (fun c => c.before args0 about1) = true
  refine all_split ?_ w_codes
  rw [← List.take_append_drop 24 words1, List.all_append, w_t1, ← List.take_append_drop 24 (words1.drop 24), List.all_append, w_t2, ← List.take_append_drop 24 ((words1.drop 24).drop 24), List.all_append, w_t3, ← List.take_append_drop 24 (((words1.drop 24).drop 24).drop 24), List.all_append, w_t4, ← List.take_append_drop 24 ((((words1.drop 24).drop 24).drop 24).drop 24), List.all_append, w_t5, ← List.take_append_drop 24 (((((words1.drop 24).drop 24).drop 24).drop 24).drop 24), List.all_append, w_t6, w_t7]
  rfl
set_option maxRecDepth 65536 in
theorem w_case : (Jvm.Cond.and given_1 narrow_1).before args0 about1 = true := by decide +kernel
theorem w_applies : (headSpec (Jvm.Cond.code x code maxLocals ret :: tables_1) room_1).applies x e0.platform about1 = true :=
  (Spec.applies_iff w_frames).mpr ⟨w_running, w_runnable, w_alone, w_named, w_hears, w_ripe, w_room, w_tables⟩
theorem atStart : AtStart classFile x code maxLocals ret World_1 tables_1 room_1 Calls_1 rest_1 Pre_1 launch0 p0 e0 about1 theMethod args0 below0 :=
  ⟨lists_1, trivial, launch0.admits_env _ _ _, launch0.least_env, fairChoices_fair.cas, fairChoices_fair.clock, w_frames, w_args, w_heap, w_applies, trivial, trivial, w_case⟩
end start1
theorem witness_1 : WitnessClaimed_1 := ⟨start1.p0, start1.e0, start1.about1, start1.theMethod, start1.args0, start1.below0, start1.atStart⟩
end Jvm.Pilot.@@N@@
