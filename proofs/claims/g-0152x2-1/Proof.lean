import JvmDerived
import JvmDerived.Pilot.@@N@@Statement
import JvmDerived.Pilot.@@N@@Code
set_option linter.unusedVariables false
set_option linter.unusedSimpArgs false
namespace Jvm.Own
open Sem ClassFile Op Lib Jvm.Stand Jvm.Free Jvm.LawKit Jvm.RoadKit
/-! ## 1. Small heaps: a list of cells: an object of the one class (its fields in order), or an array (of booleans, of ints) -/
abbrev MCell := List Value ⊕ (Bool × List Int32)
abbrev MHeap := List MCell
abbrev Fd := String × String × FieldType
/-- start, its arguments, launch, the script's place, the heap's first length, the class, its fields, its slots -/
abbrev Ctx := State × Array Value × Launch × Option Nat × Nat × String × List Fd × Nat
abbrev gZ (G : Ctx) : State := G.1
abbrev gA (G : Ctx) : Array Value := G.2.1
abbrev gL (G : Ctx) : Launch := G.2.2.1
abbrev gS (G : Ctx) : Option Nat := G.2.2.2.1
abbrev gN (G : Ctx) : Nat := G.2.2.2.2.1
abbrev gC (G : Ctx) : String := G.2.2.2.2.2.1
abbrev gF (G : Ctx) : List Fd := G.2.2.2.2.2.2.1
abbrev gK (G : Ctx) : Nat := G.2.2.2.2.2.2.2
/-- a method: name, bytes, locals, result, frames and words that it needs -/
abbrev Mi := MethodName × ByteArray × Nat × Option FieldType × Nat × Nat
abbrev mN (M : Mi) : MethodName := M.1
abbrev mB (M : Mi) : ByteArray := M.2.1
abbrev mL (M : Mi) : Nat := M.2.2.1
abbrev mR (M : Mi) : Option FieldType := M.2.2.2.1
abbrev mF (M : Mi) : Nat := M.2.2.2.2.1
abbrev mW (M : Mi) : Nat := M.2.2.2.2.2
def rhoA (sa : Option Nat) (n0 i : Nat) : Nat := match sa with
  | none => n0 + i
  | some a => match i with
    | 0 => a
    | j + 1 => n0 + j
def k0A (sa : Option Nat) : Nat := match sa with
  | none => 0
  | some _ => 1
def rho (G : Ctx) (i : Nat) : Nat := rhoA (gS G) (gN G) i
def k0 (G : Ctx) : Nat := k0A (gS G)
def tr (G : Ctx) : Value → Value
  | .ref i => .ref (rho G i)
  | v => v
def trS (G : Ctx) : Slot → Slot
  | .val v => .val (tr G v)
  | s => s
theorem tr_cat (G : Ctx) (v : Value) : (tr G v).category = v.category := by cases v <;> rfl
theorem tr_cats (G : Ctx) (S : List Value) : ((S.map (tr G)).map fun v => v.category).sum = (S.map fun v => v.category).sum := by
  rw [List.map_map]
  congr 1
  exact List.map_congr_left fun v _ => tr_cat G v
def kd : Bool → FieldType
  | true => .boolean
  | false => .int
def CellAt (G : Ctx) (hr : Heap) (a : Nat) : MCell → Prop
  | .inl fs => Exa (gZ G) hr a (gC G) ∧ fs.length = (gF G).length ∧ ∀ (j : Nat) (n d : String) (ty : FieldType) (v : Value), (gF G)[j]? = some (n, d, ty) → fs[j]? = some v → Fld (gZ G) hr a (gC G) n d (tr G v)
  | .inr bx => ∃ c : Cell, Arr (gZ G) hr a c (kd bx.1) ∧ c.slots = (bx.2.map Value.int).toArray
def Rel (G : Ctx) (hr : Heap) (h : MHeap) : Prop :=
  hr.size + k0 G = gN G + h.length ∧ k0 G ≤ h.length ∧ (∀ a, gS G = some a → a < gN G) ∧ ∀ i c, h[i]? = some c → CellAt G hr (rho G i) c
/-- what the sheet says of the class -/
def GOk (G : Ctx) : Prop :=
  (∀ (j : Nat) (n d : String) (ty : FieldType), (gF G)[j]? = some (n, d, ty) → Laid (gZ G) (gA G) (gC G) (gC G) n d ∧ parseFieldDescriptor d = some ty) ∧
  (∀ (j j' : Nat) (f f' : Fd), (gF G)[j]? = some f → (gF G)[j']? = some f' → j ≠ j' → f.1 ≠ f'.1) ∧
  (Cond.instantiable (gC G) (gK G)).before (gA G) (gZ G) = true ∧ (Cond.initialized (gC G)).before (gA G) (gZ G) = true
theorem rhoA_inj {sa : Option Nat} {n0 i j : Nat} (h : ∀ a, sa = some a → a < n0) (e : rhoA sa n0 i = rhoA sa n0 j) : i = j := by
  cases sa with
  | none => simp only [rhoA] at e; omega
  | some a =>
    have := h a rfl
    cases i <;> cases j <;> simp only [rhoA] at e <;> omega
theorem rho_inj {G : Ctx} {i j : Nat} (h : ∀ a, gS G = some a → a < gN G) (e : rho G i = rho G j) : i = j := rhoA_inj h e
theorem rhoA_new {sa : Option Nat} {n0 i : Nat} (h : k0A sa ≤ i) : rhoA sa n0 i = n0 + (i - k0A sa) := by
  cases sa with
  | none => simp only [rhoA, k0A]; omega
  | some a =>
    cases i with
    | zero => simp only [k0A] at h; omega
    | succ j => simp only [rhoA, k0A]; omega
theorem rho_new {G : Ctx} {i : Nat} (h : k0 G ≤ i) : rho G i = gN G + (i - k0 G) := rhoA_new h
theorem rho_ge {G : Ctx} {i : Nat} (h : k0 G ≤ i) : gN G ≤ rho G i := by rw [rho_new h]; omega
theorem CellAt.other {G : Ctx} {hr hr' : Heap} {a b : Nat} {sl : Nat} {v : Value} (W : Wr hr hr' a sl v) (hne : b ≠ a) : ∀ {c : MCell}, CellAt G hr b c → CellAt G hr' b c
  | .inl _, ⟨h1, h2, h3⟩ => ⟨h1.wr W, h2, fun j n d ty v hf hv => Fld.other W (h3 j n d ty v hf hv) (Or.inl hne)⟩
  | .inr _, ⟨c, h1, h2⟩ => ⟨c, h1.other W hne, h2⟩
theorem CellAt.ext {G : Ctx} {hr hr' : Heap} {b : Nat} (E : Ext hr hr') : ∀ {c : MCell}, CellAt G hr b c → CellAt G hr' b c
  | .inl _, ⟨h1, h2, h3⟩ => ⟨h1.ext E, h2, fun j n d ty v hf hv => Fld.ext E (h3 j n d ty v hf hv)⟩
  | .inr _, ⟨c, h1, h2⟩ => ⟨c, h1.ext E, h2⟩
theorem Rel.push {G : Ctx} {hr hr' : Heap} {h : MHeap} {c : MCell} (R : Rel G hr h) (E : Ext hr hr') (hs : hr'.size = hr.size + 1) (hc : CellAt G hr' hr.size c) : Rel G hr' (h ++ [c]) := by
  obtain ⟨h1, h2, h3, h4⟩ := R
  refine ⟨by rw [List.length_append, List.length_singleton]; omega, by rw [List.length_append]; omega, h3, fun i c' hi => ?_⟩
  rcases Nat.lt_or_ge i h.length with q | q
  · rw [List.getElem?_append_left q] at hi
    exact (h4 i c' hi).ext E
  · have hi2 := hi
    rw [List.getElem?_append_right q] at hi2
    have : i - h.length = 0 := by
      rcases Nat.eq_zero_or_pos (i - h.length) with z | z
      · exact z
      · rw [List.getElem?_eq_none (by simp; omega)] at hi2; cases hi2
    have e : i = h.length := by omega
    subst e
    rw [Nat.sub_self] at hi2
    cases hi2
    have : rho G h.length = hr.size := by rw [rho_new h2]; omega
    rw [this]; exact hc
theorem Rel.wrArr {G : Ctx} {hr hr' : Heap} {h : MHeap} {i j : Nat} {b : Bool} {xs : List Int32} {x : Int32} (R : Rel G hr h) (hi : h[i]? = some (.inr (b, xs))) (W : Wr hr hr' (rho G i) j (.int x)) : Rel G hr' (h.set i (.inr (b, xs.set j x))) := by
  obtain ⟨h1, h2, h3, h4⟩ := R
  refine ⟨by rw [W.size, List.length_set]; exact h1, by rw [List.length_set]; exact h2, h3, fun k c' hk => ?_⟩
  by_cases e : i = k
  · subst e
    rw [List.getElem?_set_self (List.getElem?_eq_some_iff.mp hi).1] at hk
    cases hk
    obtain ⟨c, A, hs⟩ := h4 i _ hi
    refine ⟨c.setSlot j (.int x), A.same W, ?_⟩
    show c.slots.setIfInBounds j (.int x) = _
    rw [hs]
    simp [List.map_set]
  · rw [List.getElem?_set_ne e] at hk
    exact (h4 k c' hk).other W fun q => e (rho_inj h3 q).symm
theorem Rel.wrFld {G : Ctx} {hr hr' : Heap} {h : MHeap} {i j : Nat} {fs : List Value} {n d : String} {ty : FieldType} {v : Value} (R : Rel G hr h) (K : GOk G) (hi : h[i]? = some (.inl fs)) (hF : (gF G)[j]? = some (n, d, ty)) (W : Wr hr hr' (rho G i) (Jvm.RoadKit.slotOf (gZ G) (gC G) n d) (tr G v)) : Rel G hr' (h.set i (.inl (fs.set j v))) := by
  obtain ⟨h1, h2, h3, h4⟩ := R
  refine ⟨by rw [W.size, List.length_set]; exact h1, by rw [List.length_set]; exact h2, h3, fun k c' hk => ?_⟩
  by_cases e : i = k
  · subst e
    rw [List.getElem?_set_self (List.getElem?_eq_some_iff.mp hi).1] at hk
    cases hk
    obtain ⟨e1, e2, e3⟩ := h4 i _ hi
    refine ⟨e1.wr W, by rw [List.length_set]; exact e2, fun j' n' d' ty' v' hf' hv' => ?_⟩
    by_cases q : j = j'
    · subst q
      cases hF.symm.trans hf'
      have hlt : j < fs.length := by rw [e2]; exact (List.getElem?_eq_some_iff.mp hF).1
      rw [List.getElem?_set_self hlt] at hv'
      cases hv'
      obtain ⟨w, hw⟩ : ∃ w, fs[j]? = some w := ⟨_, List.getElem?_eq_getElem hlt⟩
      exact Fld.same W (e3 j n d ty w hF hw)
    · rw [List.getElem?_set_ne q] at hv'
      refine Fld.other W (e3 j' n' d' ty' v' hf' hv') (Or.inr ?_)
      exact slot_ne (K.1 j' n' d' ty' hf').1 (K.1 j n d ty hF).1 (K.2.1 j' j _ _ hf' hF (Ne.symm q)) (K.1 j' n' d' ty' hf').2 (K.1 j n d ty hF).2
  · rw [List.getElem?_set_ne e] at hk
    exact (h4 k c' hk).other W fun q => e (rho_inj h3 q).symm
def csl (k : Nat) : MCell → Nat
  | .inl _ => k
  | .inr bx => bx.2.length
def hsl (k : Nat) (h : MHeap) : Nat := (h.map (csl k)).sum
theorem hsl_push (k : Nat) (h : MHeap) (c : MCell) : hsl k (h ++ [c]) = hsl k h + csl k c := by simp [hsl]
theorem hsl_set (k : Nat) : ∀ (h : MHeap) (i : Nat) (c c' : MCell), h[i]? = some c → csl k c' = csl k c → hsl k (h.set i c') = hsl k h
  | [], _, _, _, h, _ => by simp at h
  | a :: t, 0, c, c', h, e => by simp at h; subst h; simp [hsl, e]
  | a :: t, i + 1, c, c', h, e => by
    have := hsl_set k t i c c' (by simpa using h) e
    simp only [hsl, List.set_cons_succ, List.map_cons, List.sum_cons] at this ⊢
    omega
/-! ## 2. Storing a local variable, on lists -/
def lsetAt (l : List Slot) (i : Nat) (x : Slot) : Option (List Slot) := if i < l.length then some (l.set i x) else none
def lstoreSelf (l : List Slot) (i : Nat) (v : Value) : Option (List Slot) :=
  match lsetAt l i (.val v) with
  | none => none
  | some l => if v.category = 2 then
      (match l[i + 1]? with
      | none => none
      | some (.val old) => if old.category = 2 then (match lsetAt l (i + 2) .unset with | none => none | some l2 => lsetAt l2 (i + 1) .second) else lsetAt l (i + 1) .second
      | some _ => lsetAt l (i + 1) .second)
    else some l
def mst (l : List Slot) (i : Nat) (v : Value) : Option (List Slot) :=
  match l[i]? with
  | none => none
  | some .second => (match lsetAt l (i - 1) .unset with | none => none | some l2 => lstoreSelf l2 i v)
  | some (.val old) => if old.category = 2 then (match lsetAt l (i + 1) .unset with | none => none | some l2 => lstoreSelf l2 i v) else lstoreSelf l i v
  | some .unset => lstoreSelf l i v
def arL (G : Ctx) (l : List Slot) : Array Slot := (l.map (trS G)).toArray
theorem setAt_map (G : Ctx) (l : List Slot) (i : Nat) (x : Slot) : setAt (arL G l) i (trS G x) = (lsetAt l i x).map (arL G) := by
  unfold setAt lsetAt arL
  by_cases h : i < l.length <;> simp [h, List.map_set]
theorem arL_get (G : Ctx) (l : List Slot) (i : Nat) : (arL G l)[i]? = (l[i]?).map (trS G) := by simp [arL]
theorem storeSelf_map (G : Ctx) (l : List Slot) (i : Nat) (v : Value) : storeSelf (arL G l) i (tr G v) = (lstoreSelf l i v).map (arL G) := by
  unfold storeSelf lstoreSelf
  have e := setAt_map G l i (.val v)
  simp only [trS] at e
  rw [e]
  cases h1 : lsetAt l i (.val v) with
  | none => rfl
  | some l1 =>
    simp only [Option.map_some, Option.bind_eq_bind, Option.bind_some, tr_cat]
    by_cases hc : v.category = 2
    · simp only [hc, if_true, arL_get]
      cases h2 : l1[i + 1]? with
      | none => rfl
      | some sl =>
        simp only [Option.map_some, Option.bind_some]
        have u2 := setAt_map G l1 (i + 2) .unset
        have s1 := setAt_map G l1 (i + 1) .second
        simp only [trS] at u2 s1
        cases sl with
        | unset => exact s1
        | second => exact s1
        | val old =>
          simp only [trS, tr_cat]
          by_cases hq : old.category = 2
          · simp only [hq, if_true, u2]
            cases h3 : lsetAt l1 (i + 2) .unset with
            | none => rfl
            | some l2 =>
              have s2 := setAt_map G l2 (i + 1) .second
              simp only [trS] at s2
              exact s2
          · simp only [hq, if_false]
            exact s1
    · simp only [hc, if_false]
      rfl
theorem mst_map (G : Ctx) (l : List Slot) (i : Nat) (v : Value) : storeLocals (arL G l) i (tr G v) = (mst l i v).map (arL G) := by
  unfold storeLocals mst
  simp only [arL_get]
  cases h1 : l[i]? with
  | none => rfl
  | some sl =>
    simp only [Option.map_some, Option.bind_eq_bind, Option.bind_some]
    have u1 := setAt_map G l (i - 1) .unset
    have u2 := setAt_map G l (i + 1) .unset
    simp only [trS] at u1 u2
    cases sl with
    | unset => exact storeSelf_map G l i v
    | second =>
      simp only [trS, u1]
      cases h3 : lsetAt l (i - 1) .unset with
      | none => rfl
      | some l2 => exact storeSelf_map G l2 i v
    | val old =>
      simp only [trS, tr_cat]
      by_cases hq : old.category = 2
      · simp only [hq, if_true, u2]
        cases h3 : lsetAt l (i + 1) .unset with
        | none => rfl
        | some l2 => exact storeSelf_map G l2 i v
      · simp only [hq, if_false]
        exact storeSelf_map G l i v
theorem lsetAt_len {l l' : List Slot} {i : Nat} {x : Slot} (h : lsetAt l i x = some l') : l'.length = l.length := by
  unfold lsetAt at h; split at h
  · cases h; simp
  · cases h
theorem lstoreSelf_len {l l' : List Slot} {i : Nat} {v : Value} (h : lstoreSelf l i v = some l') : l'.length = l.length := by
  unfold lstoreSelf at h
  split at h
  · cases h
  · rename_i l1 h1
    have e1 := lsetAt_len h1
    split at h
    · split at h
      · cases h
      · split at h
        · split at h
          · cases h
          · rename_i h2; rw [lsetAt_len h, lsetAt_len h2, e1]
        · rw [lsetAt_len h, e1]
      · rw [lsetAt_len h, e1]
    · cases h; exact e1
theorem mst_len {l l' : List Slot} {i : Nat} {v : Value} (h : mst l i v = some l') : l'.length = l.length := by
  unfold mst at h
  split at h
  · cases h
  · split at h
    · cases h
    · rename_i h2; rw [lstoreSelf_len h, lsetAt_len h2]
  · split at h
    · split at h
      · cases h
      · rename_i h2; rw [lstoreSelf_len h, lsetAt_len h2]
    · exact lstoreSelf_len h
  · exact lstoreSelf_len h
theorem st_of {G : Ctx} {l l' : List Slot} {i : Nat} {v : Value} (h : mst l i v = some l') : storeLocals (arL G l) i (tr G v) = some (arL G l') := by rw [mst_map, h]; rfl
theorem ld_of {G : Ctx} {l : List Slot} {i : Nat} {s : Slot} (h : l[i]? = some s) : (arL G l)[i]? = some (trS G s) := by rw [arL_get, h]; rfl
/-! ## 3. What a run of a body from a point does -/
def Ev (G : Ctx) (M : Mi) (pc : Nat) (L : List Slot) (S : List Value) (h : MHeap) (r : Option Value × MHeap) : Prop :=
  (h.length ≤ r.2.length ∧ hsl (gK G) h ≤ hsl (gK G) r.2) ∧
  ∀ (p : Program) (e : Env) (R : Room) (s : State) (m : MethodId) (args : Array Value) (below : List Frame) (meth : Method) (c : Code) (T : State) (locs : List Loc) (cells slots : Nat),
    Stand p (gL G) e R s m args below meth c T locs cells slots → p.tables.exec = Jvm.exec → (gZ G).Warmed39 s.vm → s.vm.findClass (mN M).cls = some m.cls →
    c.code = mB M → c.maxLocals = mL M → meth.sig.returnType = mR M → meth.name = (mN M).name → L.length = mL M → mF M ≤ R.frames → mW M ≤ R.locals →
    s.heap.size + cells = T.heap.size → Rel G T.heap h → Fr (gN G) locs → cells + (r.2.length - h.length) ≤ R.cells → slots + (hsl (gK G) r.2 - hsl (gK G) h) ≤ R.slots →
    ∃ T' locs', Stand p (gL G) e R s m args below meth c T' locs' (cells + (r.2.length - h.length)) (slots + (hsl (gK G) r.2 - hsl (gK G) h)) ∧ Rel G T'.heap r.2 ∧ Fr (gN G) locs' ∧
      ∀ fs, (∀ (f : JFrame) (acts : List Action), f.method = m → f.locked = none → f.entered = [] → (doReturn e (T'.setTop f) acts (r.1.map (tr G))).1 = T'.setFrames fs) →
        Steps p.tables e below (T.setTop (mkF m pc (arL G L) (S.map (tr G)))) (T'.setFrames fs)
/-- a whole call -/
def EvC (G : Ctx) (y : Mi) (args : List Value) (h : MHeap) (r : Option Value × MHeap) : Prop :=
  (h.length ≤ r.2.length ∧ hsl (gK G) h ≤ hsl (gK G) r.2) ∧
  ∀ (ws : List Jvm.Cond) (R : Room) (hr : Heap), mF y ≤ R.frames → mW y ≤ R.locals → r.2.length - h.length ≤ R.cells → hsl (gK G) r.2 - hsl (gK G) h ≤ R.slots → Rel G hr h →
    MetFree (gL G) (mN y) (head1 (Jvm.Cond.code (mN y) (mB y) (mL y) (mR y) :: ws) R) (fun a U => a = (args.map (tr G)).toArray ∧ (gZ G).Warmed39 U.vm ∧ U.heap = hr) (fun _ _ _ _ _ => True)
      (fun _ U o U' => ∃ v L, o = .returned v ∧ (v = r.1.map (tr G) ∧ Fr (gN G) L ∧ Rel G U'.heap r.2) ∧ FrameEnd U o U' L (r.2.length - h.length) (hsl (gK G) r.2 - hsl (gK G) h))
section Rules
variable {G : Ctx} {M : Mi} {pc : Nat} {L : List Slot} {S : List Value} {h : MHeap} {r : Option Value × MHeap}
theorem Ev.gen {pc' : Nat} {L' : List Slot} {S' : List Value} {h' : MHeap} (hm1 : h.length ≤ h'.length) (hm2 : hsl (gK G) h ≤ hsl (gK G) h') (hL : L'.length = L.length) (hn : Ev G M pc' L' S' h' r)
    (st : ∀ {p : Program} {e : Env} {R : Room} {s : State} {m : MethodId} {args : Array Value} {below : List Frame} {meth : Method} {c : Code} {T : State} {locs : List Loc} {cells slots : Nat},
      Stand p (gL G) e R s m args below meth c T locs cells slots → p.tables.exec = Jvm.exec → (gZ G).Warmed39 s.vm → s.vm.findClass (mN M).cls = some m.cls →
      c.code = mB M → c.maxLocals = mL M → meth.name = (mN M).name → L.length = mL M → mF M ≤ R.frames → mW M ≤ R.locals →
      s.heap.size + cells = T.heap.size → Rel G T.heap h → Fr (gN G) locs → cells + (h'.length - h.length) ≤ R.cells → slots + (hsl (gK G) h' - hsl (gK G) h) ≤ R.slots →
      ∃ T' locs', Stand p (gL G) e R s m args below meth c T' locs' (cells + (h'.length - h.length)) (slots + (hsl (gK G) h' - hsl (gK G) h)) ∧ Rel G T'.heap h' ∧ Fr (gN G) locs' ∧
        ∀ target, Steps p.tables e below (T'.setTop (mkF m pc' (arL G L') (S'.map (tr G)))) target → Steps p.tables e below (T.setTop (mkF m pc (arL G L) (S.map (tr G)))) target) :
    Ev G M pc L S h r := by
  obtain ⟨⟨g1, g2⟩, hn⟩ := hn
  refine ⟨⟨Nat.le_trans hm1 g1, Nat.le_trans hm2 g2⟩, ?_⟩
  intro p e R s m args below meth c T locs cells slots X hx hZ hown hby hml hret hnm hLm hfr hlo hsz hR hF hc hs
  obtain ⟨T1, locs1, X1, R1, F1, st1⟩ := st X hx hZ hown hby hml hnm hLm hfr hlo hsz hR hF (by omega) (by omega)
  have hsz1 : s.heap.size + (cells + (h'.length - h.length)) = T1.heap.size := by
    have a1 := hR.1
    have a2 := R1.1
    omega
  obtain ⟨T2, locs2, X2, R2, F2, st2⟩ := hn p e R s m args below meth c T1 locs1 _ _ X1 hx hZ hown hby hml hret hnm (hL.trans hLm) hfr hlo hsz1 R1 F1 (by omega) (by omega)
  refine ⟨T2, locs2, ?_, R2, F2, fun fs hl => st1 _ (st2 fs hl)⟩
  have e1 : cells + (h'.length - h.length) + (r.2.length - h'.length) = cells + (r.2.length - h.length) := by omega
  have e2 : slots + (hsl (gK G) h' - hsl (gK G) h) + (hsl (gK G) r.2 - hsl (gK G) h') = slots + (hsl (gK G) r.2 - hsl (gK G) h) := by omega
  rw [e1, e2] at X2
  exact X2
/-- a step that leaves the heap -/
theorem Ev.same {pc' : Nat} {L' : List Slot} {S' : List Value} (hL : L'.length = L.length) (hn : Ev G M pc' L' S' h r)
    (st : ∀ {p : Program} {e : Env} {R : Room} {s : State} {m : MethodId} {args : Array Value} {below : List Frame} {meth : Method} {c : Code} {T : State} {locs : List Loc} {cells slots : Nat},
      Stand p (gL G) e R s m args below meth c T locs cells slots → p.tables.exec = Jvm.exec → (gZ G).Warmed39 s.vm → s.vm.findClass (mN M).cls = some m.cls →
      c.code = mB M → c.maxLocals = mL M → L.length = mL M → mF M ≤ R.frames → mW M ≤ R.locals → Rel G T.heap h →
      ∃ T', Stand p (gL G) e R s m args below meth c T' locs cells slots ∧ T'.heap = T.heap ∧
        ∀ target, Steps p.tables e below (T'.setTop (mkF m pc' (arL G L') (S'.map (tr G)))) target → Steps p.tables e below (T.setTop (mkF m pc (arL G L) (S.map (tr G)))) target) :
    Ev G M pc L S h r := by
  refine Ev.gen (Nat.le_refl _) (Nat.le_refl _) hL hn ?_
  intro p e R s m args below meth c T locs cells slots X hx hZ hown hby hml hnm hLm hfr hlo hsz hR hF hc hs
  obtain ⟨T', X', e', st'⟩ := st X hx hZ hown hby hml hLm hfr hlo hR
  refine ⟨T', locs, ?_, by rw [e']; exact hR, hF, st'⟩
  rw [Nat.sub_self, Nat.sub_self, Nat.add_zero, Nat.add_zero]
  exact X'
/-- a step that leaves all but the frame -/
theorem Ev.pure {pc' : Nat} {L' : List Slot} {S' : List Value} (hL : L'.length = L.length) (hn : Ev G M pc' L' S' h r)
    (st : ∀ {p : Program} {e : Env} {R : Room} {s : State} {m : MethodId} {args : Array Value} {below : List Frame} {meth : Method} {c : Code} {T : State} {locs : List Loc} {cells slots : Nat},
      Stand p (gL G) e R s m args below meth c T locs cells slots → p.tables.exec = Jvm.exec → (gZ G).Warmed39 s.vm → s.vm.findClass (mN M).cls = some m.cls →
      c.code = mB M → ∀ target, Steps p.tables e below (T.setTop (mkF m pc' (arL G L') (S'.map (tr G)))) target → Steps p.tables e below (T.setTop (mkF m pc (arL G L) (S.map (tr G)))) target) :
    Ev G M pc L S h r :=
  Ev.same hL hn fun {p e R s m args below meth c T locs cells slots} X hx hZ hown hby hml hLm hfr hlo hR => ⟨T, X, rfl, st X hx hZ hown hby⟩
/-! ### loads, stores, constants -/
theorem Ev.iload {k : Nat} {v : Int32} (hd : decode (mB M) pc = .ok (.iload k, 2)) (hl : L[k]? = some (.val (.int v))) (hn : Ev G M (pc + 2) L (.int v :: S) h r) : Ev G M pc L S h r :=
  Ev.pure rfl hn fun {_ _ _ _ m _ _ _ _ _ _ _ _} X hx hZ hown hby target q => XS.iload (g := mkF m pc (arL G L) (List.map (tr G) S)) X.here hx rfl (hb hby hd) (ld_of hl) q
theorem Ev.iloadN {k : Fin 4} {v : Int32} (hd : decode (mB M) pc = .ok (.iload_n k, 1)) (hl : L[k.val]? = some (.val (.int v))) (hn : Ev G M (pc + 1) L (.int v :: S) h r) : Ev G M pc L S h r :=
  Ev.pure rfl hn fun {_ _ _ _ m _ _ _ _ _ _ _ _} X hx hZ hown hby target q => XS.iloadN (g := mkF m pc (arL G L) (List.map (tr G) S)) X.here hx rfl (hb hby hd) (ld_of hl) q
theorem Ev.aload {k : Nat} {v : Nat} (hd : decode (mB M) pc = .ok (.aload k, 2)) (hl : L[k]? = some (.val (.ref v))) (hn : Ev G M (pc + 2) L (.ref v :: S) h r) : Ev G M pc L S h r :=
  Ev.pure rfl hn fun {_ _ _ _ m _ _ _ _ _ _ _ _} X hx hZ hown hby target q => XS.aload (g := mkF m pc (arL G L) (List.map (tr G) S)) X.here hx rfl (hb hby hd) (ld_of hl) rfl q
theorem Ev.aloadN {k : Fin 4} {v : Nat} (hd : decode (mB M) pc = .ok (.aload_n k, 1)) (hl : L[k.val]? = some (.val (.ref v))) (hn : Ev G M (pc + 1) L (.ref v :: S) h r) : Ev G M pc L S h r :=
  Ev.pure rfl hn fun {_ _ _ _ m _ _ _ _ _ _ _ _} X hx hZ hown hby target q => XS.aloadN (g := mkF m pc (arL G L) (List.map (tr G) S)) X.here hx rfl (hb hby hd) (ld_of hl) rfl q
theorem Ev.lload {k : Nat} {v : Int64} (hd : decode (mB M) pc = .ok (.lload k, 2)) (hl : L[k]? = some (.val (.long v))) (hn : Ev G M (pc + 2) L (.long v :: S) h r) : Ev G M pc L S h r :=
  Ev.pure rfl hn fun {_ _ _ _ m _ _ _ _ _ _ _ _} X hx hZ hown hby target q => XT.lload (g := mkF m pc (arL G L) (List.map (tr G) S)) X.here hx rfl (hb hby hd) (ld_of hl) q
theorem Ev.lloadN {k : Fin 4} {v : Int64} (hd : decode (mB M) pc = .ok (.lload_n k, 1)) (hl : L[k.val]? = some (.val (.long v))) (hn : Ev G M (pc + 1) L (.long v :: S) h r) : Ev G M pc L S h r :=
  Ev.pure rfl hn fun {_ _ _ _ m _ _ _ _ _ _ _ _} X hx hZ hown hby target q => XT.lloadN (g := mkF m pc (arL G L) (List.map (tr G) S)) X.here hx rfl (hb hby hd) (ld_of hl) q
theorem Ev.istore {k : Nat} {v : Int32} {L' : List Slot} (hd : decode (mB M) pc = .ok (.istore k, 2)) (hl : mst L k (.int v) = some L') (hn : Ev G M (pc + 2) L' S h r) : Ev G M pc L (.int v :: S) h r :=
  Ev.pure (mst_len hl) hn fun {_ _ _ _ m _ _ _ _ _ _ _ _} X hx hZ hown hby target q => XS.istore (g := mkF m pc (arL G L) (List.map (tr G) (Value.int v :: S))) X.here hx rfl (hb hby hd) rfl (st_of hl) q
theorem Ev.istoreN {k : Fin 4} {v : Int32} {L' : List Slot} (hd : decode (mB M) pc = .ok (.istore_n k, 1)) (hl : mst L k.val (.int v) = some L') (hn : Ev G M (pc + 1) L' S h r) : Ev G M pc L (.int v :: S) h r :=
  Ev.pure (mst_len hl) hn fun {_ _ _ _ m _ _ _ _ _ _ _ _} X hx hZ hown hby target q => XS.istoreN (g := mkF m pc (arL G L) (List.map (tr G) (Value.int v :: S))) X.here hx rfl (hb hby hd) rfl (st_of hl) q
theorem Ev.astore {k v : Nat} {L' : List Slot} (hd : decode (mB M) pc = .ok (.astore k, 2)) (hl : mst L k (.ref v) = some L') (hn : Ev G M (pc + 2) L' S h r) : Ev G M pc L (.ref v :: S) h r :=
  Ev.pure (mst_len hl) hn fun {_ _ _ _ m _ _ _ _ _ _ _ _} X hx hZ hown hby target q => XS.astore (g := mkF m pc (arL G L) (List.map (tr G) (Value.ref v :: S))) X.here hx rfl (hb hby hd) rfl rfl (st_of hl) q
theorem Ev.astoreN {k : Fin 4} {v : Nat} {L' : List Slot} (hd : decode (mB M) pc = .ok (.astore_n k, 1)) (hl : mst L k.val (.ref v) = some L') (hn : Ev G M (pc + 1) L' S h r) : Ev G M pc L (.ref v :: S) h r :=
  Ev.pure (mst_len hl) hn fun {_ _ _ _ m _ _ _ _ _ _ _ _} X hx hZ hown hby target q => XS.astoreN (g := mkF m pc (arL G L) (List.map (tr G) (Value.ref v :: S))) X.here hx rfl (hb hby hd) rfl rfl (st_of hl) q
theorem Ev.lstore {k : Nat} {v : Int64} {L' : List Slot} (hd : decode (mB M) pc = .ok (.lstore k, 2)) (hl : mst L k (.long v) = some L') (hn : Ev G M (pc + 2) L' S h r) : Ev G M pc L (.long v :: S) h r :=
  Ev.pure (mst_len hl) hn fun {_ _ _ _ m _ _ _ _ _ _ _ _} X hx hZ hown hby target q => XT.lstore (g := mkF m pc (arL G L) (List.map (tr G) (Value.long v :: S))) X.here hx rfl (hb hby hd) rfl (st_of hl) q
theorem Ev.lstoreN {k : Fin 4} {v : Int64} {L' : List Slot} (hd : decode (mB M) pc = .ok (.lstore_n k, 1)) (hl : mst L k.val (.long v) = some L') (hn : Ev G M (pc + 1) L' S h r) : Ev G M pc L (.long v :: S) h r :=
  Ev.pure (mst_len hl) hn fun {_ _ _ _ m _ _ _ _ _ _ _ _} X hx hZ hown hby target q => XT.lstoreN (g := mkF m pc (arL G L) (List.map (tr G) (Value.long v :: S))) X.here hx rfl (hb hby hd) rfl (st_of hl) q
theorem Ev.iconst {i : Int} {z : Int32} (hd : decode (mB M) pc = .ok (.iconst i, 1)) (hz : Int32.ofInt i = z) (hn : Ev G M (pc + 1) L (.int z :: S) h r) : Ev G M pc L S h r :=
  Ev.pure rfl (hz ▸ hn) fun {_ _ _ _ m _ _ _ _ _ _ _ _} X hx hZ hown hby target q => XS.iconst (g := mkF m pc (arL G L) (List.map (tr G) S)) X.here hx rfl (hb hby hd) q
theorem Ev.bipush {i : Int} {z : Int32} (hd : decode (mB M) pc = .ok (.bipush i, 2)) (hz : (Int8.ofInt i).toInt32 = z) (hn : Ev G M (pc + 2) L (.int z :: S) h r) : Ev G M pc L S h r :=
  Ev.pure rfl (hz ▸ hn) fun {_ _ _ _ m _ _ _ _ _ _ _ _} X hx hZ hown hby target q => XS.bipush (g := mkF m pc (arL G L) (List.map (tr G) S)) X.here hx rfl (hb hby hd) q
theorem Ev.sipush {i : Int} {z : Int32} (hd : decode (mB M) pc = .ok (.sipush i, 3)) (hz : (Int16.ofInt i).toInt32 = z) (hn : Ev G M (pc + 3) L (.int z :: S) h r) : Ev G M pc L S h r :=
  Ev.pure rfl (hz ▸ hn) fun {_ _ _ _ m _ _ _ _ _ _ _ _} X hx hZ hown hby target q => XS.sipush (g := mkF m pc (arL G L) (List.map (tr G) S)) X.here hx rfl (hb hby hd) q
theorem Ev.lconst {k : Fin 2} {z : Int64} (hd : decode (mB M) pc = .ok (.lconst k, 1)) (hz : Int64.ofNat k = z) (hn : Ev G M (pc + 1) L (.long z :: S) h r) : Ev G M pc L S h r :=
  Ev.pure rfl (hz ▸ hn) fun {_ _ _ _ m _ _ _ _ _ _ _ _} X hx hZ hown hby target q => XT.lconst (g := mkF m pc (arL G L) (List.map (tr G) S)) X.here hx rfl (hb hby hd) q
theorem Ev.ldc {k : Nat} {v : Int32} (w : (Jvm.Cond.constant (mN M).cls k v).before (gA G) (gZ G) = true) (hd : decode (mB M) pc = .ok (.ldc k, 2)) (hn : Ev G M (pc + 2) L (.int v :: S) h r) : Ev G M pc L S h r :=
  Ev.pure rfl hn fun {_ _ _ _ m _ _ _ _ _ _ _ _} X hx hZ hown hby target q => X.ldcInt hx hown (mvT hZ w) (g := mkF m pc (arL G L) (List.map (tr G) S)) rfl (hb hby hd) target q
theorem Ev.ldcW {k : Nat} {v : Int32} (w : (Jvm.Cond.constant (mN M).cls k v).before (gA G) (gZ G) = true) (hd : decode (mB M) pc = .ok (.ldc_w k, 3)) (hn : Ev G M (pc + 3) L (.int v :: S) h r) : Ev G M pc L S h r :=
  Ev.pure rfl hn fun {_ _ _ _ m _ _ _ _ _ _ _ _} X hx hZ hown hby target q => X.ldcwInt hx hown (mvT hZ w) (g := mkF m pc (arL G L) (List.map (tr G) S)) rfl (hb hby hd) target q
theorem Ev.ldcL {k : Nat} {v : Int64} (w : (Jvm.Cond.constantLong (mN M).cls k v).before (gA G) (gZ G) = true) (hd : decode (mB M) pc = .ok (.ldc2_w k, 3)) (hn : Ev G M (pc + 3) L (.long v :: S) h r) : Ev G M pc L S h r :=
  Ev.pure rfl hn fun {_ _ _ _ m _ _ _ _ _ _ _ _} X hx hZ hown hby target q => X.ldc2Long hx hown (mvT hZ w) (g := mkF m pc (arL G L) (List.map (tr G) S)) rfl (hb hby hd) target q
/-! ### reckoning -/
theorem Ev.iadd {x y : Int32} (hd : decode (mB M) pc = .ok (.iadd, 1)) (hn : Ev G M (pc + 1) L (.int (x + y) :: S) h r) : Ev G M pc L (.int y :: .int x :: S) h r :=
  Ev.pure rfl hn fun {_ _ _ _ m _ _ _ _ _ _ _ _} X hx hZ hown hby target q => XS.iadd (g := mkF m pc (arL G L) (List.map (tr G) (Value.int y :: Value.int x :: S))) X.here hx rfl (hb hby hd) rfl q
theorem Ev.isub {x y : Int32} (hd : decode (mB M) pc = .ok (.isub, 1)) (hn : Ev G M (pc + 1) L (.int (x - y) :: S) h r) : Ev G M pc L (.int y :: .int x :: S) h r :=
  Ev.pure rfl hn fun {_ _ _ _ m _ _ _ _ _ _ _ _} X hx hZ hown hby target q => XS.isub (g := mkF m pc (arL G L) (List.map (tr G) (Value.int y :: Value.int x :: S))) X.here hx rfl (hb hby hd) rfl q
theorem Ev.imul {x y : Int32} (hd : decode (mB M) pc = .ok (.imul, 1)) (hn : Ev G M (pc + 1) L (.int (x * y) :: S) h r) : Ev G M pc L (.int y :: .int x :: S) h r :=
  Ev.pure rfl hn fun {_ _ _ _ m _ _ _ _ _ _ _ _} X hx hZ hown hby target q => XS.imul (g := mkF m pc (arL G L) (List.map (tr G) (Value.int y :: Value.int x :: S))) X.here hx rfl (hb hby hd) rfl q
theorem Ev.idiv {x y : Int32} (hd : decode (mB M) pc = .ok (.idiv, 1)) (hy : y ≠ 0) (hn : Ev G M (pc + 1) L (.int (x / y) :: S) h r) : Ev G M pc L (.int y :: .int x :: S) h r :=
  Ev.pure rfl hn fun {_ _ _ _ m _ _ _ _ _ _ _ _} X hx hZ hown hby target q => XS.idiv (g := mkF m pc (arL G L) (List.map (tr G) (Value.int y :: Value.int x :: S))) X.here hx rfl (hb hby hd) rfl hy q
theorem Ev.irem {x y : Int32} (hd : decode (mB M) pc = .ok (.irem, 1)) (hy : y ≠ 0) (hn : Ev G M (pc + 1) L (.int (x % y) :: S) h r) : Ev G M pc L (.int y :: .int x :: S) h r :=
  Ev.pure rfl hn fun {_ _ _ _ m _ _ _ _ _ _ _ _} X hx hZ hown hby target q => iremM (g := mkF m pc (arL G L) (List.map (tr G) (Value.int y :: Value.int x :: S))) X hx rfl (hb hby hd) rfl hy q
theorem Ev.ineg {x : Int32} (hd : decode (mB M) pc = .ok (.ineg, 1)) (hn : Ev G M (pc + 1) L (.int (-x) :: S) h r) : Ev G M pc L (.int x :: S) h r :=
  Ev.pure rfl hn fun {_ _ _ _ m _ _ _ _ _ _ _ _} X hx hZ hown hby target q => XS.ineg (g := mkF m pc (arL G L) (List.map (tr G) (Value.int x :: S))) X.here hx rfl (hb hby hd) rfl q
theorem Ev.iand {x y : Int32} (hd : decode (mB M) pc = .ok (.iand, 1)) (hn : Ev G M (pc + 1) L (.int (x &&& y) :: S) h r) : Ev G M pc L (.int y :: .int x :: S) h r :=
  Ev.pure rfl hn fun {_ _ _ _ m _ _ _ _ _ _ _ _} X hx hZ hown hby target q => XS.iand (g := mkF m pc (arL G L) (List.map (tr G) (Value.int y :: Value.int x :: S))) X.here hx rfl (hb hby hd) rfl q
theorem Ev.ior {x y : Int32} (hd : decode (mB M) pc = .ok (.ior, 1)) (hn : Ev G M (pc + 1) L (.int (x ||| y) :: S) h r) : Ev G M pc L (.int y :: .int x :: S) h r :=
  Ev.pure rfl hn fun {_ _ _ _ m _ _ _ _ _ _ _ _} X hx hZ hown hby target q => XT.ior (g := mkF m pc (arL G L) (List.map (tr G) (Value.int y :: Value.int x :: S))) X.here hx rfl (hb hby hd) rfl q
theorem Ev.ixor {x y : Int32} (hd : decode (mB M) pc = .ok (.ixor, 1)) (hn : Ev G M (pc + 1) L (.int (x ^^^ y) :: S) h r) : Ev G M pc L (.int y :: .int x :: S) h r :=
  Ev.pure rfl hn fun {_ _ _ _ m _ _ _ _ _ _ _ _} X hx hZ hown hby target q => XT.ixor (g := mkF m pc (arL G L) (List.map (tr G) (Value.int y :: Value.int x :: S))) X.here hx rfl (hb hby hd) rfl q
theorem Ev.ishl {x y : Int32} (hd : decode (mB M) pc = .ok (.ishl, 1)) (hn : Ev G M (pc + 1) L (.int (x <<< (y &&& 31)) :: S) h r) : Ev G M pc L (.int y :: .int x :: S) h r :=
  Ev.pure rfl hn fun {_ _ _ _ m _ _ _ _ _ _ _ _} X hx hZ hown hby target q => XT.ishl (g := mkF m pc (arL G L) (List.map (tr G) (Value.int y :: Value.int x :: S))) X.here hx rfl (hb hby hd) rfl q
theorem Ev.ishr {x y : Int32} (hd : decode (mB M) pc = .ok (.ishr, 1)) (hn : Ev G M (pc + 1) L (.int (x >>> (y &&& 31)) :: S) h r) : Ev G M pc L (.int y :: .int x :: S) h r :=
  Ev.pure rfl hn fun {_ _ _ _ m _ _ _ _ _ _ _ _} X hx hZ hown hby target q => XT.ishr (g := mkF m pc (arL G L) (List.map (tr G) (Value.int y :: Value.int x :: S))) X.here hx rfl (hb hby hd) rfl q
theorem Ev.iushr {x y : Int32} (hd : decode (mB M) pc = .ok (.iushr, 1)) (hn : Ev G M (pc + 1) L (.int (XT.ushr x y) :: S) h r) : Ev G M pc L (.int y :: .int x :: S) h r :=
  Ev.pure rfl hn fun {_ _ _ _ m _ _ _ _ _ _ _ _} X hx hZ hown hby target q => XT.iushr (g := mkF m pc (arL G L) (List.map (tr G) (Value.int y :: Value.int x :: S))) X.here hx rfl (hb hby hd) rfl q
theorem Ev.ladd {x y : Int64} (hd : decode (mB M) pc = .ok (.ladd, 1)) (hn : Ev G M (pc + 1) L (.long (x + y) :: S) h r) : Ev G M pc L (.long y :: .long x :: S) h r :=
  Ev.pure rfl hn fun {_ _ _ _ m _ _ _ _ _ _ _ _} X hx hZ hown hby target q => XT.ladd (g := mkF m pc (arL G L) (List.map (tr G) (Value.long y :: Value.long x :: S))) X.here hx rfl (hb hby hd) rfl q
theorem Ev.lsub {x y : Int64} (hd : decode (mB M) pc = .ok (.lsub, 1)) (hn : Ev G M (pc + 1) L (.long (x - y) :: S) h r) : Ev G M pc L (.long y :: .long x :: S) h r :=
  Ev.pure rfl hn fun {_ _ _ _ m _ _ _ _ _ _ _ _} X hx hZ hown hby target q => XT.lsub (g := mkF m pc (arL G L) (List.map (tr G) (Value.long y :: Value.long x :: S))) X.here hx rfl (hb hby hd) rfl q
theorem Ev.lmul {x y : Int64} (hd : decode (mB M) pc = .ok (.lmul, 1)) (hn : Ev G M (pc + 1) L (.long (x * y) :: S) h r) : Ev G M pc L (.long y :: .long x :: S) h r :=
  Ev.pure rfl hn fun {_ _ _ _ m _ _ _ _ _ _ _ _} X hx hZ hown hby target q => XT.lmul (g := mkF m pc (arL G L) (List.map (tr G) (Value.long y :: Value.long x :: S))) X.here hx rfl (hb hby hd) rfl q
theorem Ev.ldiv {x y : Int64} (hd : decode (mB M) pc = .ok (.ldiv, 1)) (hy : y ≠ 0) (hn : Ev G M (pc + 1) L (.long (x / y) :: S) h r) : Ev G M pc L (.long y :: .long x :: S) h r :=
  Ev.pure rfl hn fun {_ _ _ _ m _ _ _ _ _ _ _ _} X hx hZ hown hby target q => XT.ldiv (g := mkF m pc (arL G L) (List.map (tr G) (Value.long y :: Value.long x :: S))) X.here hx rfl (hb hby hd) rfl hy q
theorem Ev.lneg {x : Int64} (hd : decode (mB M) pc = .ok (.lneg, 1)) (hn : Ev G M (pc + 1) L (.long (-x) :: S) h r) : Ev G M pc L (.long x :: S) h r :=
  Ev.pure rfl hn fun {_ _ _ _ m _ _ _ _ _ _ _ _} X hx hZ hown hby target q => XT.lneg (g := mkF m pc (arL G L) (List.map (tr G) (Value.long x :: S))) X.here hx rfl (hb hby hd) rfl q
theorem Ev.land {x y : Int64} (hd : decode (mB M) pc = .ok (.land, 1)) (hn : Ev G M (pc + 1) L (.long (x &&& y) :: S) h r) : Ev G M pc L (.long y :: .long x :: S) h r :=
  Ev.pure rfl hn fun {_ _ _ _ m _ _ _ _ _ _ _ _} X hx hZ hown hby target q => XT.land (g := mkF m pc (arL G L) (List.map (tr G) (Value.long y :: Value.long x :: S))) X.here hx rfl (hb hby hd) rfl q
theorem Ev.lor {x y : Int64} (hd : decode (mB M) pc = .ok (.lor, 1)) (hn : Ev G M (pc + 1) L (.long (x ||| y) :: S) h r) : Ev G M pc L (.long y :: .long x :: S) h r :=
  Ev.pure rfl hn fun {_ _ _ _ m _ _ _ _ _ _ _ _} X hx hZ hown hby target q => XT.lor (g := mkF m pc (arL G L) (List.map (tr G) (Value.long y :: Value.long x :: S))) X.here hx rfl (hb hby hd) rfl q
theorem Ev.lxor {x y : Int64} (hd : decode (mB M) pc = .ok (.lxor, 1)) (hn : Ev G M (pc + 1) L (.long (x ^^^ y) :: S) h r) : Ev G M pc L (.long y :: .long x :: S) h r :=
  Ev.pure rfl hn fun {_ _ _ _ m _ _ _ _ _ _ _ _} X hx hZ hown hby target q => XT.lxor (g := mkF m pc (arL G L) (List.map (tr G) (Value.long y :: Value.long x :: S))) X.here hx rfl (hb hby hd) rfl q
theorem Ev.lshl {x : Int64} {y : Int32} (hd : decode (mB M) pc = .ok (.lshl, 1)) (hn : Ev G M (pc + 1) L (.long (x <<< (y.toInt64 &&& 63)) :: S) h r) : Ev G M pc L (.int y :: .long x :: S) h r :=
  Ev.pure rfl hn fun {_ _ _ _ m _ _ _ _ _ _ _ _} X hx hZ hown hby target q => XT.lshl (g := mkF m pc (arL G L) (List.map (tr G) (Value.int y :: Value.long x :: S))) X.here hx rfl (hb hby hd) rfl q
theorem Ev.lushr {x : Int64} {y : Int32} (hd : decode (mB M) pc = .ok (.lushr, 1)) (hn : Ev G M (pc + 1) L (.long (XT.ushrL x y) :: S) h r) : Ev G M pc L (.int y :: .long x :: S) h r :=
  Ev.pure rfl hn fun {_ _ _ _ m _ _ _ _ _ _ _ _} X hx hZ hown hby target q => XT.lushr (g := mkF m pc (arL G L) (List.map (tr G) (Value.int y :: Value.long x :: S))) X.here hx rfl (hb hby hd) rfl q
theorem Ev.lcmp {x y : Int64} (hd : decode (mB M) pc = .ok (.lcmp, 1)) (hn : Ev G M (pc + 1) L (.int (XT.cmpL x y) :: S) h r) : Ev G M pc L (.long y :: .long x :: S) h r :=
  Ev.pure rfl hn fun {_ _ _ _ m _ _ _ _ _ _ _ _} X hx hZ hown hby target q => XT.lcmp (g := mkF m pc (arL G L) (List.map (tr G) (Value.long y :: Value.long x :: S))) X.here hx rfl (hb hby hd) rfl q
theorem Ev.i2l {x : Int32} (hd : decode (mB M) pc = .ok (.i2l, 1)) (hn : Ev G M (pc + 1) L (.long x.toInt64 :: S) h r) : Ev G M pc L (.int x :: S) h r :=
  Ev.pure rfl hn fun {_ _ _ _ m _ _ _ _ _ _ _ _} X hx hZ hown hby target q => XT.i2l (g := mkF m pc (arL G L) (List.map (tr G) (Value.int x :: S))) X.here hx rfl (hb hby hd) rfl q
theorem Ev.l2i {x : Int64} (hd : decode (mB M) pc = .ok (.l2i, 1)) (hn : Ev G M (pc + 1) L (.int x.toInt32 :: S) h r) : Ev G M pc L (.long x :: S) h r :=
  Ev.pure rfl hn fun {_ _ _ _ m _ _ _ _ _ _ _ _} X hx hZ hown hby target q => XT.l2i (g := mkF m pc (arL G L) (List.map (tr G) (Value.long x :: S))) X.here hx rfl (hb hby hd) rfl q
theorem Ev.i2b {x : Int32} (hd : decode (mB M) pc = .ok (.i2b, 1)) (hn : Ev G M (pc + 1) L (.int x.toInt8.toInt32 :: S) h r) : Ev G M pc L (.int x :: S) h r :=
  Ev.pure rfl hn fun {_ _ _ _ m _ _ _ _ _ _ _ _} X hx hZ hown hby target q => XT.i2b (g := mkF m pc (arL G L) (List.map (tr G) (Value.int x :: S))) X.here hx rfl (hb hby hd) rfl q
theorem Ev.iinc {k : Nat} {i : Int} {x z : Int32} {L' : List Slot} (hd : decode (mB M) pc = .ok (.iinc k i, 3)) (hl : L[k]? = some (.val (.int x))) (hz : Int32.ofInt i = z) (hl' : mst L k (.int (x + z)) = some L') (hn : Ev G M (pc + 3) L' S h r) : Ev G M pc L S h r :=
  Ev.pure (mst_len hl') hn fun {_ _ _ _ m _ _ _ _ _ _ _ _} X hx hZ hown hby target q => XS.iinc (g := mkF m pc (arL G L) (List.map (tr G) S)) X.here hx rfl (hb hby hd) (ld_of hl) (by rw [hz]; exact st_of hl') q
theorem iincW {tb : Tables} [Ours tb] {e : Env} {below : List Frame} {T target : State} {m : MethodId} {c : Code} {g : JFrame} (h : At T m c below) (hx : tb.exec = Jvm.exec) (hg : g.method = m) {k : Nat} {cst : Int} {x : Int32} {l' : Array Slot} (hd : decode c.code g.pc = .ok (.iinc k cst, 6)) (hl : g.locals[k]? = some (.val (.int x))) (hl' : storeLocals g.locals k (.int (x + Int32.ofInt cst)) = some l')
    (hr : Steps tb e below (T.setTop { g with pc := g.pc + 6, locals := l' }) target) : Steps tb e below (T.setTop g) target := by
  subst hg
  jvm_step h [h.top, hx, hd, hl, hl']
  exact hr
theorem Ev.iincW {k : Nat} {i : Int} {x z : Int32} {L' : List Slot} (hd : decode (mB M) pc = .ok (.iinc k i, 6)) (hl : L[k]? = some (.val (.int x))) (hz : Int32.ofInt i = z) (hl' : mst L k (.int (x + z)) = some L') (hn : Ev G M (pc + 6) L' S h r) : Ev G M pc L S h r :=
  Ev.pure (mst_len hl') hn fun {_ _ _ _ m _ _ _ _ _ _ _ _} X hx hZ hown hby target q => Own.iincW (g := mkF m pc (arL G L) (List.map (tr G) S)) X.here hx rfl (hb hby hd) (ld_of hl) (by rw [hz]; exact st_of hl') q
theorem Ev.dup {x : Value} (hd : decode (mB M) pc = .ok (.dup, 1)) (hc : x.category = 1) (hn : Ev G M (pc + 1) L (x :: x :: S) h r) : Ev G M pc L (x :: S) h r :=
  Ev.pure rfl hn fun {_ _ _ _ m _ _ _ _ _ _ _ _} X hx hZ hown hby target q => XS.dup (g := mkF m pc (arL G L) (List.map (tr G) (x :: S))) X.here hx rfl (hb hby hd) rfl ((tr_cat G x).trans hc) q
theorem Ev.dup2 {x y : Value} (hd : decode (mB M) pc = .ok (.dup2, 1)) (hc : x.category = 1) (hc' : y.category = 1) (hn : Ev G M (pc + 1) L (x :: y :: x :: y :: S) h r) : Ev G M pc L (x :: y :: S) h r :=
  Ev.pure rfl hn fun {_ _ _ _ m _ _ _ _ _ _ _ _} X hx hZ hown hby target q => XT.dup2 (g := mkF m pc (arL G L) (List.map (tr G) (x :: y :: S))) X.here hx rfl (hb hby hd) rfl ((tr_cat G x).trans hc) ((tr_cat G y).trans hc') q
theorem Ev.pop {x : Value} (hd : decode (mB M) pc = .ok (.pop, 1)) (hc : x.category = 1) (hn : Ev G M (pc + 1) L S h r) : Ev G M pc L (x :: S) h r :=
  Ev.pure rfl hn fun {_ _ _ _ m _ _ _ _ _ _ _ _} X hx hZ hown hby target q => XT.pop (g := mkF m pc (arL G L) (List.map (tr G) (x :: S))) X.here hx rfl (hb hby hd) rfl ((tr_cat G x).trans hc) q
/-! ### branches -/
theorem Ev.goto {o : Int} {t : Nat} (hd : decode (mB M) pc = .ok (.goto o, 3)) (hp : (pc : Int) + o = (t : Int)) (hn : Ev G M t L S h r) : Ev G M pc L S h r :=
  Ev.pure rfl hn fun {_ _ _ _ m _ _ _ _ _ _ _ _} X hx hZ hown hby target q => XS.goto (g := mkF m pc (arL G L) (List.map (tr G) S)) X.here hx rfl rfl (hb hby hd) (by rw [hp]; exact Int.natCast_nonneg t) (by rw [hp]; rfl) q
theorem Ev.ifc {cd : ClassFile.Cond} {x : Int32} {o : Int} {t : Nat} (hd : decode (mB M) pc = .ok (.ifCond cd o, 3)) (hp : (pc : Int) + o = (t : Int)) (h1 : ifCond.holds cd x = true → Ev G M t L S h r) (h2 : ifCond.holds cd x = false → Ev G M (pc + 3) L S h r) : Ev G M pc L (.int x :: S) h r := by
  cases hc : ifCond.holds cd x with
  | true => exact Ev.pure rfl (h1 hc) fun {_ _ _ _ m _ _ _ _ _ _ _ _} X hx hZ hown hby target q => XS.ifYes (g := mkF m pc (arL G L) (List.map (tr G) (Value.int x :: S))) X.here hx rfl rfl (hb hby hd) rfl hc (by rw [hp]; exact Int.natCast_nonneg t) (by rw [hp]; rfl) q
  | false => exact Ev.pure rfl (h2 hc) fun {_ _ _ _ m _ _ _ _ _ _ _ _} X hx hZ hown hby target q => XS.ifNo (g := mkF m pc (arL G L) (List.map (tr G) (Value.int x :: S))) X.here hx rfl (hb hby hd) rfl hc q
theorem Ev.icc {cd : ClassFile.Cond} {x y : Int32} {o : Int} {t : Nat} (hd : decode (mB M) pc = .ok (.if_icmp cd o, 3)) (hp : (pc : Int) + o = (t : Int)) (h1 : if_icmp.holds cd x y = true → Ev G M t L S h r) (h2 : if_icmp.holds cd x y = false → Ev G M (pc + 3) L S h r) : Ev G M pc L (.int y :: .int x :: S) h r := by
  cases hc : if_icmp.holds cd x y with
  | true => exact Ev.pure rfl (h1 hc) fun {_ _ _ _ m _ _ _ _ _ _ _ _} X hx hZ hown hby target q => XS.icmpYes (g := mkF m pc (arL G L) (List.map (tr G) (Value.int y :: Value.int x :: S))) X.here hx rfl rfl (hb hby hd) rfl hc (by rw [hp]; exact Int.natCast_nonneg t) (by rw [hp]; rfl) q
  | false => exact Ev.pure rfl (h2 hc) fun {_ _ _ _ m _ _ _ _ _ _ _ _} X hx hZ hown hby target q => XS.icmpNo (g := mkF m pc (arL G L) (List.map (tr G) (Value.int y :: Value.int x :: S))) X.here hx rfl (hb hby hd) rfl hc q
theorem Ev.iclt {x y : Int32} {o : Int} {t : Nat} (hd : decode (mB M) pc = .ok (.if_icmp .lt o, 3)) (hp : (pc : Int) + o = (t : Int)) (h1 : x < y → Ev G M t L S h r) (h2 : ¬ x < y → Ev G M (pc + 3) L S h r) : Ev G M pc L (.int y :: .int x :: S) h r :=
  Ev.icc hd hp (fun q => h1 (by simpa [if_icmp.holds] using q)) (fun q => h2 (by simpa [if_icmp.holds] using q))
theorem Ev.icge {x y : Int32} {o : Int} {t : Nat} (hd : decode (mB M) pc = .ok (.if_icmp .ge o, 3)) (hp : (pc : Int) + o = (t : Int)) (h1 : x < y → Ev G M (pc + 3) L S h r) (h2 : ¬ x < y → Ev G M t L S h r) : Ev G M pc L (.int y :: .int x :: S) h r :=
  Ev.icc hd hp (fun q => h2 (by simpa [if_icmp.holds] using q)) (fun q => h1 (by simpa [if_icmp.holds] using q))
theorem Ev.icgt {x y : Int32} {o : Int} {t : Nat} (hd : decode (mB M) pc = .ok (.if_icmp .gt o, 3)) (hp : (pc : Int) + o = (t : Int)) (h1 : y < x → Ev G M t L S h r) (h2 : ¬ y < x → Ev G M (pc + 3) L S h r) : Ev G M pc L (.int y :: .int x :: S) h r :=
  Ev.icc hd hp (fun q => h1 (by simpa [if_icmp.holds] using q)) (fun q => h2 (by simpa [if_icmp.holds] using q))
theorem Ev.icle {x y : Int32} {o : Int} {t : Nat} (hd : decode (mB M) pc = .ok (.if_icmp .le o, 3)) (hp : (pc : Int) + o = (t : Int)) (h1 : y < x → Ev G M (pc + 3) L S h r) (h2 : ¬ y < x → Ev G M t L S h r) : Ev G M pc L (.int y :: .int x :: S) h r :=
  Ev.icc hd hp (fun q => h2 (by simpa [if_icmp.holds] using q)) (fun q => h1 (by simpa [if_icmp.holds] using q))
theorem Ev.iceq {x y : Int32} {o : Int} {t : Nat} (hd : decode (mB M) pc = .ok (.if_icmp .eq o, 3)) (hp : (pc : Int) + o = (t : Int)) (h1 : x = y → Ev G M t L S h r) (h2 : ¬ x = y → Ev G M (pc + 3) L S h r) : Ev G M pc L (.int y :: .int x :: S) h r :=
  Ev.icc hd hp (fun q => h1 (by simpa [if_icmp.holds] using q)) (fun q => h2 (by simpa [if_icmp.holds] using q))
theorem Ev.icne {x y : Int32} {o : Int} {t : Nat} (hd : decode (mB M) pc = .ok (.if_icmp .ne o, 3)) (hp : (pc : Int) + o = (t : Int)) (h1 : x = y → Ev G M (pc + 3) L S h r) (h2 : ¬ x = y → Ev G M t L S h r) : Ev G M pc L (.int y :: .int x :: S) h r :=
  Ev.icc hd hp (fun q => h2 (by simpa [if_icmp.holds] using q)) (fun q => h1 (by simpa [if_icmp.holds] using q))
theorem Ev.iflt {x : Int32} {o : Int} {t : Nat} (hd : decode (mB M) pc = .ok (.ifCond .lt o, 3)) (hp : (pc : Int) + o = (t : Int)) (h1 : x < 0 → Ev G M t L S h r) (h2 : ¬ x < 0 → Ev G M (pc + 3) L S h r) : Ev G M pc L (.int x :: S) h r :=
  Ev.ifc hd hp (fun q => h1 (by simpa [ifCond.holds] using q)) (fun q => h2 (by simpa [ifCond.holds] using q))
theorem Ev.ifge {x : Int32} {o : Int} {t : Nat} (hd : decode (mB M) pc = .ok (.ifCond .ge o, 3)) (hp : (pc : Int) + o = (t : Int)) (h1 : x < 0 → Ev G M (pc + 3) L S h r) (h2 : ¬ x < 0 → Ev G M t L S h r) : Ev G M pc L (.int x :: S) h r :=
  Ev.ifc hd hp (fun q => h2 (by simpa [ifCond.holds] using q)) (fun q => h1 (by simpa [ifCond.holds] using q))
theorem Ev.ifgt {x : Int32} {o : Int} {t : Nat} (hd : decode (mB M) pc = .ok (.ifCond .gt o, 3)) (hp : (pc : Int) + o = (t : Int)) (h1 : 0 < x → Ev G M t L S h r) (h2 : ¬ 0 < x → Ev G M (pc + 3) L S h r) : Ev G M pc L (.int x :: S) h r :=
  Ev.ifc hd hp (fun q => h1 (by simpa [ifCond.holds] using q)) (fun q => h2 (by simpa [ifCond.holds] using q))
theorem Ev.ifle {x : Int32} {o : Int} {t : Nat} (hd : decode (mB M) pc = .ok (.ifCond .le o, 3)) (hp : (pc : Int) + o = (t : Int)) (h1 : 0 < x → Ev G M (pc + 3) L S h r) (h2 : ¬ 0 < x → Ev G M t L S h r) : Ev G M pc L (.int x :: S) h r :=
  Ev.ifc hd hp (fun q => h2 (by simpa [ifCond.holds] using q)) (fun q => h1 (by simpa [ifCond.holds] using q))
theorem Ev.ifeq {x : Int32} {o : Int} {t : Nat} (hd : decode (mB M) pc = .ok (.ifCond .eq o, 3)) (hp : (pc : Int) + o = (t : Int)) (h1 : x = 0 → Ev G M t L S h r) (h2 : ¬ x = 0 → Ev G M (pc + 3) L S h r) : Ev G M pc L (.int x :: S) h r :=
  Ev.ifc hd hp (fun q => h1 (by simpa [ifCond.holds] using q)) (fun q => h2 (by simpa [ifCond.holds] using q))
theorem Ev.ifne {x : Int32} {o : Int} {t : Nat} (hd : decode (mB M) pc = .ok (.ifCond .ne o, 3)) (hp : (pc : Int) + o = (t : Int)) (h1 : x = 0 → Ev G M (pc + 3) L S h r) (h2 : ¬ x = 0 → Ev G M t L S h r) : Ev G M pc L (.int x :: S) h r :=
  Ev.ifc hd hp (fun q => h2 (by simpa [ifCond.holds] using q)) (fun q => h1 (by simpa [ifCond.holds] using q))
theorem Ev.tswIn {x : Int32} {dflt low high : Int} {offs : Array Int} {len t : Nat} {o : Int} (hd : decode (mB M) pc = .ok (.tableswitch dflt low high offs, len)) (hin : ¬ (x.toInt < low ∨ x.toInt > high)) (ho : offs[(x.toInt - low).toNat]? = some o) (hp : (pc : Int) + o = (t : Int)) (hn : Ev G M t L S h r) : Ev G M pc L (.int x :: S) h r :=
  Ev.pure rfl hn fun {_ _ _ _ m _ _ _ _ _ _ _ _} X hx hZ hown hby target q => XS.tswIn (g := mkF m pc (arL G L) (List.map (tr G) (Value.int x :: S))) X.here hx rfl rfl (hb hby hd) rfl hin ho (by rw [hp]; exact Int.natCast_nonneg t) (by rw [hp]; rfl) q
theorem Ev.tswOut {x : Int32} {dflt low high : Int} {offs : Array Int} {len t : Nat} (hd : decode (mB M) pc = .ok (.tableswitch dflt low high offs, len)) (hout : x.toInt < low ∨ x.toInt > high) (hp : (pc : Int) + dflt = (t : Int)) (hn : Ev G M t L S h r) : Ev G M pc L (.int x :: S) h r :=
  Ev.pure rfl hn fun {_ _ _ _ m _ _ _ _ _ _ _ _} X hx hZ hown hby target q => XS.tswOut (g := mkF m pc (arL G L) (List.map (tr G) (Value.int x :: S))) X.here hx rfl rfl (hb hby hd) rfl hout (by rw [hp]; exact Int.natCast_nonneg t) (by rw [hp]; rfl) q
/-! ### fields -/
theorem Ev.getfield {idx j i : Nat} {n d : String} {ty : FieldType} {fs : List Value} {v : Value} (w : (Jvm.Cond.fieldLink (mN M).cls idx (gC G) n d).before (gA G) (gZ G) = true) (hd : decode (mB M) pc = .ok (.getfield idx, 3))
    (hF : (gF G)[j]? = some (n, d, ty)) (hi : h[i]? = some (.inl fs)) (hv : fs[j]? = some v) (hn : Ev G M (pc + 3) L (v :: S) h r) : Ev G M pc L (.ref i :: S) h r := by
  refine Ev.same rfl hn ?_
  intro p e R s m args below meth c T locs cells slots X hx hZ hown hby hml hLm hfr hlo hR
  obtain ⟨-, -, h3⟩ := hR.2.2.2 i _ hi
  obtain ⟨T', X', e', st⟩ := getF X hx hZ hown (host := "") (Or.inl w) Via.refl rfl (h3 j n d ty v hF hv) (g := mkF m pc (arL G L) ((Value.ref i :: S).map (tr G))) rfl rfl (hb hby hd)
  exact ⟨T', X', e', st⟩
def mput : FieldType → Value → Option Value
  | .int, .int z => some (.int z)
  | .boolean, .int z => some (.int (z &&& 1))
  | .array _, .ref a => some (.ref a)
  | _, _ => none
theorem mput_spec {G : Ctx} {ty : FieldType} {v v' : Value} (h : mput ty v = some v') : narrow ty (tr G v) = tr G v' ∧ fits ty (tr G v') = true := by
  unfold mput at h
  split at h
  · cases h; exact ⟨rfl, rfl⟩
  · cases h; exact ⟨rfl, fits_nar_bool _⟩
  · cases h; exact ⟨rfl, rfl⟩
  · cases h
theorem Ev.putfield {idx j i : Nat} {n d : String} {ty : FieldType} {fs : List Value} {v v' : Value} (K : GOk G) (w : (Jvm.Cond.fieldLink (mN M).cls idx (gC G) n d).before (gA G) (gZ G) = true)
    (wl : (Jvm.Cond.lays (gC G) (gC G) n d).before (gA G) (gZ G) = true ∨ ((Jvm.Cond.laysFinal (gC G) (gC G) n d).before (gA G) (gZ G) = true ∧ (mN M).cls = gC G ∧ (mN M).name = "<init>"))
    (hd : decode (mB M) pc = .ok (.putfield idx, 3)) (hF : (gF G)[j]? = some (n, d, ty)) (hk : k0 G ≤ i) (hi : h[i]? = some (.inl fs)) (hp : mput ty v = some v') (hn : Ev G M (pc + 3) L S (h.set i (.inl (fs.set j v'))) r) : Ev G M pc L (v :: .ref i :: S) h r := by
  have hs := hsl_set (gK G) h i (.inl fs) (.inl (fs.set j v')) hi rfl
  refine Ev.gen (by rw [List.length_set]; exact Nat.le_refl _) (by rw [hs]; exact Nat.le_refl _) rfl hn ?_
  intro p e R s m args below meth c T locs cells slots X hx hZ hown hby hml hnm hLm hfr hlo hsz hR hFr hc hsq
  obtain ⟨e1, e2, e3⟩ := hR.2.2.2 i _ hi
  obtain ⟨q1, q2⟩ := mput_spec (G := G) hp
  have hlt : j < fs.length := by rw [e2]; exact (List.getElem?_eq_some_iff.mp hF).1
  have F := e3 j n d ty _ hF (List.getElem?_eq_getElem hlt)
  obtain ⟨T', h', X', eT', W, st⟩ := putFN X hx hZ hown w Via.refl rfl F e1 (wl.imp id fun ⟨a, b, c⟩ => ⟨a, b, by rw [hnm]; exact c⟩) K.2.2.1 (K.1 j n d ty hF).2 q1 q2 (g := mkF m pc (arL G L) ((v :: Value.ref i :: S).map (tr G))) rfl rfl (hb hby hd)
  refine ⟨T', _, ?_, ?_, Fr.snoc X' hFr (rho_ge hk), st⟩
  · rw [hs, List.length_set, Nat.sub_self, Nat.sub_self, Nat.add_zero, Nat.add_zero]; exact X'
  · rw [eT']; exact hR.wrFld K hi hF W
/-! ### arrays -/
theorem get_arr {xs : List Int32} {c : Cell} (hs : c.slots = (xs.map Value.int).toArray) (k : Nat) : c.slots[k]? = (xs[k]?).map Value.int := by rw [hs]; simp
theorem arr_size {xs : List Int32} {c : Cell} (hs : c.slots = (xs.map Value.int).toArray) : c.slots.size = xs.length := by rw [hs]; simp
theorem Ev.arraylength {i : Nat} {b : Bool} {xs : List Int32} (hd : decode (mB M) pc = .ok (.arraylength, 1)) (hi : h[i]? = some (.inr (b, xs))) (hn : Ev G M (pc + 1) L (.int xs.length.toInt32 :: S) h r) : Ev G M pc L (.ref i :: S) h r := by
  refine Ev.same rfl hn ?_
  intro p e R s m args below meth c T locs cells slots X hx hZ hown hby hml hLm hfr hlo hR
  obtain ⟨cl, A, hs⟩ := hR.2.2.2 i _ hi
  refine ⟨T, X, rfl, fun target k => X.arraylength hx A.1 (State.isArrayOf_alike hZ.alike A.2.1) (g := mkF m pc (arL G L) ((Value.ref i :: S).map (tr G))) rfl rfl (hb hby hd) target ?_⟩
  rw [arr_size hs]; exact k
theorem Ev.iaload {i : Nat} {xs : List Int32} {j v : Int32} (hd : decode (mB M) pc = .ok (.iaload, 1)) (hi : h[i]? = some (.inr (false, xs))) (hj : ¬ j < 0) (hv : xs[j.toNatClampNeg]? = some v) (hn : Ev G M (pc + 1) L (.int v :: S) h r) : Ev G M pc L (.int j :: .ref i :: S) h r := by
  refine Ev.same rfl hn ?_
  intro p e R s m args below meth c T locs cells slots X hx hZ hown hby hml hLm hfr hlo hR
  obtain ⟨cl, A, hs⟩ := hR.2.2.2 i _ hi
  have hlt := (List.getElem?_eq_some_iff.mp hv).1
  exact ⟨T, X, rfl, fun target k => X.iaload hx A.1 (State.isArrayOf_alike hZ.alike A.2.1) A.2.2 (fun q => q.elim hj fun q => absurd (arr_size hs ▸ q) (Nat.not_le.mpr hlt)) (by rw [get_arr hs, hv]; rfl) (g := mkF m pc (arL G L) ((Value.int j :: Value.ref i :: S).map (tr G))) rfl rfl (hb hby hd) target k⟩
theorem Ev.baload {i : Nat} {xs : List Int32} {j v : Int32} (hd : decode (mB M) pc = .ok (.baload, 1)) (hi : h[i]? = some (.inr (true, xs))) (hj : ¬ j < 0) (hv : xs[j.toNatClampNeg]? = some v) (hn : Ev G M (pc + 1) L (.int v :: S) h r) : Ev G M pc L (.int j :: .ref i :: S) h r := by
  refine Ev.same rfl hn ?_
  intro p e R s m args below meth c T locs cells slots X hx hZ hown hby hml hLm hfr hlo hR
  obtain ⟨cl, A, hs⟩ := hR.2.2.2 i _ hi
  have hlt := (List.getElem?_eq_some_iff.mp hv).1
  exact ⟨T, X, rfl, fun target k => X.baloadBooleans hx A.1 (State.isArrayOf_alike hZ.alike A.2.1) A.2.2 (fun q => q.elim hj fun q => absurd (arr_size hs ▸ q) (Nat.not_le.mpr hlt)) (by rw [get_arr hs, hv]; rfl) (g := mkF m pc (arL G L) ((Value.int j :: Value.ref i :: S).map (tr G))) rfl rfl (hb hby hd) target k⟩
theorem Ev.iastore {i : Nat} {xs : List Int32} {j v : Int32} (hd : decode (mB M) pc = .ok (.iastore, 1)) (hk : k0 G ≤ i) (hi : h[i]? = some (.inr (false, xs))) (hj : ¬ j < 0) (hlt : j.toNatClampNeg < xs.length) (hn : Ev G M (pc + 1) L S (h.set i (.inr (false, xs.set j.toNatClampNeg v))) r) : Ev G M pc L (.int v :: .int j :: .ref i :: S) h r := by
  have hs := hsl_set (gK G) h i (.inr (false, xs)) (.inr (false, xs.set j.toNatClampNeg v)) hi (by simp [csl])
  refine Ev.gen (by rw [List.length_set]; exact Nat.le_refl _) (by rw [hs]; exact Nat.le_refl _) rfl hn ?_
  intro p e R s m args below meth c T locs cells slots X hx hZ hown hby hml hnm hLm hfr hlo hsz hR hFr hc hsq
  obtain ⟨cl, A, hsz'⟩ := hR.2.2.2 i _ hi
  obtain ⟨T', h', X', eT', W, st⟩ := stI X hx hZ rfl A (j := j) (x := v) (fun q => q.elim hj fun q => absurd (arr_size hsz' ▸ q) (Nat.not_le.mpr hlt)) (g := mkF m pc (arL G L) ((Value.int v :: Value.int j :: Value.ref i :: S).map (tr G))) rfl rfl (hb hby hd)
  refine ⟨T', _, ?_, ?_, Fr.snoc X' hFr (rho_ge hk), st⟩
  · rw [hs, List.length_set, Nat.sub_self, Nat.sub_self, Nat.add_zero, Nat.add_zero]; exact X'
  · rw [eT']; exact hR.wrArr hi W
theorem Ev.bastore {i : Nat} {xs : List Int32} {j v : Int32} (hd : decode (mB M) pc = .ok (.bastore, 1)) (hk : k0 G ≤ i) (hi : h[i]? = some (.inr (true, xs))) (hj : ¬ j < 0) (hlt : j.toNatClampNeg < xs.length) (hn : Ev G M (pc + 1) L S (h.set i (.inr (true, xs.set j.toNatClampNeg (v &&& 1)))) r) : Ev G M pc L (.int v :: .int j :: .ref i :: S) h r := by
  have hs := hsl_set (gK G) h i (.inr (true, xs)) (.inr (true, xs.set j.toNatClampNeg (v &&& 1))) hi (by simp [csl])
  refine Ev.gen (by rw [List.length_set]; exact Nat.le_refl _) (by rw [hs]; exact Nat.le_refl _) rfl hn ?_
  intro p e R s m args below meth c T locs cells slots X hx hZ hown hby hml hnm hLm hfr hlo hsz hR hFr hc hsq
  obtain ⟨cl, A, hsz'⟩ := hR.2.2.2 i _ hi
  obtain ⟨T', h', X', eT', W, st⟩ := stZ X hx hZ rfl A (j := j) (x := v) (fun q => q.elim hj fun q => absurd (arr_size hsz' ▸ q) (Nat.not_le.mpr hlt)) (g := mkF m pc (arL G L) ((Value.int v :: Value.int j :: Value.ref i :: S).map (tr G))) rfl rfl (hb hby hd)
  refine ⟨T', _, ?_, ?_, Fr.snoc X' hFr (rho_ge hk), st⟩
  · rw [hs, List.length_set, Nat.sub_self, Nat.sub_self, Nat.add_zero, Nat.add_zero]; exact X'
  · rw [eT']; exact hR.wrArr hi W
/-! ### making -/
theorem Ev.new {idx : Nat} {fs : List Value} (K : GOk G) (w : (Jvm.Cond.classLink (mN M).cls idx (gC G)).before (gA G) (gZ G) = true) (hd : decode (mB M) pc = .ok (.new idx, 3)) (hf : fs = (gF G).map fun f => defaultValue f.2.2)
    (hn : Ev G M (pc + 3) L (.ref h.length :: S) (h ++ [.inl fs]) r) : Ev G M pc L S h r := by
  subst hf
  have hs := hsl_push (gK G) h (.inl ((gF G).map fun f => defaultValue f.2.2))
  refine Ev.gen (by simp) (by rw [hs]; exact Nat.le_add_right _ _) rfl hn ?_
  intro p e R s m args below meth c T locs cells slots X hx hZ hown hby hml hnm hLm hfr hlo hsz hR hFr hc hsq
  have el : (h ++ [(.inl ((gF G).map fun f => defaultValue f.2.2) : MCell)]).length - h.length = 1 := by simp
  have es : hsl (gK G) (h ++ [.inl ((gF G).map fun f => defaultValue f.2.2)]) - hsl (gK G) h = gK G := by rw [hs]; simp [csl]
  rw [el] at hc
  rw [es] at hsq
  obtain ⟨T', h', X', eT', E, A, D, -, st⟩ := newO X hx hZ hown w K.2.2.1 K.2.2.2 rfl (g := mkF m pc (arL G L) (S.map (tr G))) rfl (hb hby hd) hc hsq
  rw [el, es]
  have hrho : rho G h.length = T.heap.size := by rw [rho_new hR.2.1]; have := hR.1; have := hR.2.1; omega
  refine ⟨T', _, X', ?_, hFr, fun target k => st target ?_⟩
  · rw [eT']
    refine hR.push E ?_ ⟨A, by simp, fun j n d ty v hf hv => ?_⟩
    · have h1 := X'.heapSize
      have h2 : T.heap.size < h'.size := A.lt
      rw [eT'] at h1
      omega
    · rw [List.getElem?_map, hf] at hv
      cases hv
      have := D (K.1 j n d ty hf).1 (K.1 j n d ty hf).2
      have e : tr G (defaultValue ty) = defaultValue ty := by cases ty <;> rfl
      rw [e]; exact this
  · rw [← hrho]; exact k
theorem Ev.newarray {aty : ArrayType} {b : Bool} {n : Int32} {k : Nat} (w : (Jvm.Cond.arrayClass (newarray.typeOf aty)).before (gA G) (gZ G) = true) (hb' : newarray.typeOf aty = kd b) (hd : decode (mB M) pc = .ok (.newarray aty, 2)) (hn0 : ¬ n < 0) (hk : n.toNatClampNeg = k) (hcap : k ≤ 67108864)
    (hn : Ev G M (pc + 2) L (.ref h.length :: S) (h ++ [.inr (b, List.replicate k 0)]) r) : Ev G M pc L (.int n :: S) h r := by
  subst hk
  have hs := hsl_push (gK G) h (.inr (b, List.replicate n.toNatClampNeg 0))
  refine Ev.gen (by simp) (by rw [hs]; exact Nat.le_add_right _ _) rfl hn ?_
  intro p e R s m args below meth c T locs cells slots X hx hZ hown hby hml hnm hLm hfr hlo hsz hR hFr hc hsq
  have el : (h ++ [(.inr (b, List.replicate n.toNatClampNeg 0) : MCell)]).length - h.length = 1 := by simp
  have es : hsl (gK G) (h ++ [.inr (b, List.replicate n.toNatClampNeg 0)]) - hsl (gK G) h = n.toNatClampNeg := by rw [hs]; simp [csl]
  rw [el] at hc
  rw [es] at hsq
  obtain ⟨T', h', cA, X', eT', E, A, st⟩ := newP X hx hZ w rfl (g := mkF m pc (arL G L) ((Value.int n :: S).map (tr G))) rfl (hb hby hd) rfl hn0 (cap := n.toNatClampNeg) (Nat.le_refl _) (by omega) hc hsq
  rw [el, es]
  have hrho : rho G h.length = T.heap.size := by rw [rho_new hR.2.1]; have := hR.1; have := hR.2.1; omega
  refine ⟨T', _, X', ?_, hFr, fun target k => st target ?_⟩
  · rw [eT']
    refine hR.push E ?_ ⟨_, hb' ▸ A, ?_⟩
    · have h1 := X'.heapSize
      have h2 : T.heap.size < h'.size := A.lt
      rw [eT'] at h1
      omega
    · have e0 : defaultValue (kd b) = .int 0 := by cases b <;> rfl
      show Array.replicate n.toNatClampNeg (defaultValue (kd b)) = _
      rw [e0]
      simp
  · rw [← hrho]; exact k
theorem Ev.initO {idx i : Nat} (w1 : (Jvm.Cond.methodLink (mN M).cls idx Lib.objectInit).before (gA G) (gZ G) = true) (w2 : (Jvm.Cond.instanceMethod Lib.objectInit).before (gA G) (gZ G) = true) (w3 : (Jvm.Cond.code Lib.objectInit ⟨#[0xb1]⟩ 1 none).before (gA G) (gZ G) = true)
    (hd : decode (mB M) pc = .ok (.invokespecial idx, 3)) (hf : 1 ≤ mF M) (hl : (S.map fun v => v.category).sum + 12 ≤ mW M) (hn : Ev G M (pc + 3) L S h r) : Ev G M pc L (.ref i :: S) h r := by
  refine Ev.same rfl hn ?_
  intro p e R s m args below meth c T locs cells slots X hx hZ hown hby hml hLm hfr hlo hR
  obtain ⟨T', X', e', st⟩ := RoadKit.initO X hx hZ hown w1 w2 w3 rfl (g := mkF m pc (arL G L) ((Value.ref i :: S).map (tr G))) rfl (by rw [hml, ← hLm]; simp [arL]) (a := rho G i) (rest := S.map (tr G)) rfl (hb hby hd) (Nat.le_trans hf hfr) (W := (S.map fun v => v.category).sum) (by rw [tr_cats]; show 2 * 0 + _ ≤ _; omega) (by omega)
  exact ⟨T', X', e', st⟩
/-! ### calls -/
def notMH (y : Mi) : Prop := (mN y).cls ≠ "java/lang/invoke/MethodHandle" ∧ (mN y).cls ≠ "java/lang/invoke/VarHandle"
theorem mapRev (G : Ctx) (args : List Value) : (args.reverse).map (tr G) = (args.map (tr G)).reverse := by simp
theorem vList (G : Ctx) (v : Option Value) (S : List Value) : (v.map (tr G)).toList ++ S.map (tr G) = (v.toList ++ S).map (tr G) := by cases v <;> simp
theorem back_of_evc {p : Program} {e : Env} {R : Room} {s : State} {args0 : Array Value} {below : List Frame} {y : Mi} {args : List Value} {r1 : Option Value × MHeap} {hr : Heap} {W : Nat} (hC : EvC G y args h r1) (hR : Rel G hr h) (hZ : (gZ G).Warmed39 s.vm)
    (wc : (Jvm.Cond.code (mN y) (mB y) (mL y) (mR y)).before (gA G) (gZ G) = true) (wz : (Jvm.Cond.initialized (mN y).cls).before (gA G) (gZ G) = true) (hf : mF y + 1 ≤ R.frames) (hl : W + (mL y + 11) + mW y ≤ R.locals) :
    Back (gL G) R p e below s args0 (mN y) 3 W (fun A a => a = (args.map (tr G)).toArray ∧ A.U.heap = hr ∧ A.cells + (r1.2.length - h.length) ≤ R.cells ∧ A.slots + (hsl (gK G) r1.2 - hsl (gK G) h) ≤ R.slots)
      (fun A _ v B => ∃ L, (v = r1.1.map (tr G) ∧ Fr (gN G) L ∧ Rel G B.U.heap r1.2) ∧ B.locs = A.locs ++ L ∧ B.cells = A.cells + (r1.2.length - h.length) ∧ B.slots = A.slots + (hsl (gK G) r1.2 - hsl (gK G) h)) :=
  backOf (Q := fun v hp L => v = r1.1.map (tr G) ∧ Fr (gN G) L ∧ Rel G hp r1.2) (rm := { frames := mF y, cells := r1.2.length - h.length, slots := hsl (gK G) r1.2 - hsl (gK G) h, locals := mW y })
    (hC.2 [] { frames := mF y, cells := r1.2.length - h.length, slots := hsl (gK G) r1.2 - hsl (gK G) h, locals := mW y } hr (Nat.le_refl _) (Nat.le_refl _) (Nat.le_refl _) (Nat.le_refl _) hR) hZ wc wz hf hl
/-- a private method of the class -/
theorem Ev.priv {y : Mi} {idx i : Nat} {args rest : List Value} {v : Option Value} {h1 : MHeap} {fs : List Value} (K : GOk G) (hcls : (mN y).cls = gC G) (hy : notMH y)
    (wl : (Jvm.Cond.methodLink (mN M).cls idx (mN y)).before (gA G) (gZ G) = true) (wi : (Jvm.Cond.instanceMethod (mN y)).before (gA G) (gZ G) = true) (wp : (Jvm.Cond.privateMethod (mN y)).before (gA G) (gZ G) = true)
    (wc : (Jvm.Cond.code (mN y) (mB y) (mL y) (mR y)).before (gA G) (gZ G) = true) (hlen : ∀ sig, parseMethodDescriptor (mN y).desc = some sig → args.length = sig.parameters.length)
    (hd : decode (mB M) pc = .ok (.invokevirtual idx, 3)) (hi : h[i]? = some (.inl fs)) (hC : EvC G y (.ref i :: args) h (v, h1)) (hfr : mF y + 1 ≤ mF M) (hlo : (rest.map fun v => v.category).sum + (mL y + 11) + mW y ≤ mW M)
    (hS : S = args.reverse ++ .ref i :: rest) (hn : Ev G M (pc + 3) L (v.toList ++ rest) h1 r) : Ev G M pc L S h r := by
  subst hS
  refine Ev.gen hC.1.1 hC.1.2 rfl hn ?_
  intro p e R s m args0 below meth c T locs cells slots X hx hZ hown hby hml hnm hLm hfr' hlo' hsz hR hFr hc hsq
  obtain ⟨e1, -, -⟩ := hR.2.2.2 i _ hi
  obtain ⟨cell, hcell, hobj⟩ := e1.cell
  have hwi : (Jvm.Cond.instanceMethod (mN y)).before args0 s = true := mvT hZ wi
  have hpr := Jvm.Cond.privateMethod_at (mvP hZ wp (args := #[]))
  have hsel : (Jvm.Cond.selects (mN y).cls (mN y) (mN y)).before args0 s = true := by
    obtain ⟨c0, k0', q1, q2, -, q4, -⟩ := Jvm.Cond.instantiable_spec (mvT hZ K.2.2.1 (args := #[]) (s := s))
    refine selects_self_of_private (c := c0) (k := k0') (by rw [hcls]; exact q1) q2 ?_ hpr hwi hy
    simp only [Bool.or_eq_false_iff] at q4
    exact q4.1
  obtain ⟨v', vm1, ⟨T', L', k', n'⟩, -, X', ⟨Lc, ⟨rfl, hF', hR'⟩, l1, l2, l3⟩, st⟩ := X.privateBack hx (y := mN y) hown (mvT hZ wl) hwi hsel hpr (mvT hZ wc) hy
    (back_of_evc (W := (rest.map fun v => v.category).sum) hC hR hZ wc (hcls ▸ K.2.2.2) (Nat.le_trans hfr hfr') (Nat.le_trans hlo hlo')) (g := mkF m pc (arL G L) ((args.reverse ++ Value.ref i :: rest).map (tr G))) rfl (by rw [hml, ← hLm]; simp [arL]) (Steps.refl _) hcell hobj
    (argsL := args.map (tr G)) (rest := rest.map (tr G)) (fun sig hsig => by rw [List.length_map]; exact hlen sig hsig) (by simp [tr]) (by rw [tr_cats]; show 2 * 0 + _ ≤ _; omega) (hb hby hd) (fun vm1 hW1 => ⟨rfl, rfl, hc, hsq⟩)
  dsimp only [Pt.U, Pt.locs, Pt.cells, Pt.slots] at X' l1 l2 l3 st hR'
  subst l1 l2 l3
  refine ⟨T', _, X', hR', hFr.app hF', fun target k => st.trans ?_⟩
  rw [vList]
  exact k
/-- a method of the class that no one overrides -/
theorem Ev.virt {y : Mi} {idx i : Nat} {args rest : List Value} {v : Option Value} {h1 : MHeap} {fs : List Value} (K : GOk G) (hcls : (mN y).cls = gC G) (hy : notMH y)
    (wl : (Jvm.Cond.methodLink (mN M).cls idx (mN y)).before (gA G) (gZ G) = true) (wd : (Jvm.Cond.declares (mN y)).before (gA G) (gZ G) = true) (wi : (Jvm.Cond.instanceMethod (mN y)).before (gA G) (gZ G) = true) (ws : (Jvm.Cond.selects (gC G) (mN y) (mN y)).before (gA G) (gZ G) = true)
    (wc : (Jvm.Cond.code (mN y) (mB y) (mL y) (mR y)).before (gA G) (gZ G) = true) (hlen : ∀ sig, parseMethodDescriptor (mN y).desc = some sig → args.length = sig.parameters.length)
    (hd : decode (mB M) pc = .ok (.invokevirtual idx, 3)) (hi : h[i]? = some (.inl fs)) (hC : EvC G y (.ref i :: args) h (v, h1)) (hfr : mF y + 1 ≤ mF M) (hlo : (rest.map fun v => v.category).sum + (mL y + 11) + mW y ≤ mW M)
    (hS : S = args.reverse ++ .ref i :: rest) (hn : Ev G M (pc + 3) L (v.toList ++ rest) h1 r) : Ev G M pc L S h r := by
  subst hS
  refine Ev.gen hC.1.1 hC.1.2 rfl hn ?_
  intro p e R s m args0 below meth c T locs cells slots X hx hZ hown hby hml hnm hLm hfr' hlo' hsz hR hFr hc hsq
  obtain ⟨e1, -, -⟩ := hR.2.2.2 i _ hi
  obtain ⟨cq, kq, qa, qb, qc⟩ := isOf (T := T) hZ rfl e1
  obtain ⟨v', vm1, ⟨T', L', k', n'⟩, -, X', ⟨Lc, ⟨rfl, hF', hR'⟩, l1, l2, l3⟩, st⟩ := X.virtualBack hx (y := mN y) (z := mN y) hown (mvT hZ wl) (mvT hZ wd) (notFace_of_selects (args := #[]) (mvT hZ ws)) (mvT hZ ws) (mvT hZ wi) hy
    (back_of_evc (W := (rest.map fun v => v.category).sum) hC hR hZ wc (hcls ▸ K.2.2.2) (Nat.le_trans hfr hfr') (Nat.le_trans hlo hlo')) qa qc (g := mkF m pc (arL G L) ((args.reverse ++ Value.ref i :: rest).map (tr G))) rfl (by rw [hml, ← hLm]; simp [arL]) (Steps.refl _)
    (argsL := args.map (tr G)) (rest := rest.map (tr G)) (fun sig hsig => by rw [List.length_map]; exact hlen sig hsig) (by simp [tr]) (by rw [tr_cats]; show 2 * 0 + _ ≤ _; omega) (hb hby hd) (fun vm1 hW1 => ⟨rfl, rfl, hc, hsq⟩)
  dsimp only [Pt.U, Pt.locs, Pt.cells, Pt.slots] at X' l1 l2 l3 st hR'
  subst l1 l2 l3
  refine ⟨T', _, X', hR', hFr.app hF', fun target k => st.trans ?_⟩
  rw [vList]
  exact k
/-- a constructor -/
theorem Ev.ctor {y : Mi} {idx i : Nat} {args rest : List Value} {v : Option Value} {h1 : MHeap} (hy1 : (mN y).name = "<init>") (hret : mR y = none) (hy : notMH y)
    (wl : (Jvm.Cond.methodLink (mN M).cls idx (mN y)).before (gA G) (gZ G) = true) (wi : (Jvm.Cond.instanceMethod (mN y)).before (gA G) (gZ G) = true)
    (wc : (Jvm.Cond.code (mN y) (mB y) (mL y) (mR y)).before (gA G) (gZ G) = true) (wz : (Jvm.Cond.initialized (mN y).cls).before (gA G) (gZ G) = true) (hlen : ∀ sig, parseMethodDescriptor (mN y).desc = some sig → args.length = sig.parameters.length)
    (hd : decode (mB M) pc = .ok (.invokespecial idx, 3)) (hC : EvC G y (.ref i :: args) h (v, h1)) (hfr : mF y + 1 ≤ mF M) (hlo : (rest.map fun v => v.category).sum + (mL y + 11) + mW y ≤ mW M)
    (hS : S = args.reverse ++ .ref i :: rest) (hn : Ev G M (pc + 3) L (v.toList ++ rest) h1 r) : Ev G M pc L S h r := by
  subst hS
  refine Ev.gen hC.1.1 hC.1.2 rfl hn ?_
  intro p e R s m args0 below meth c T locs cells slots X hx hZ hown hby hml hnm hLm hfr' hlo' hsz hR hFr hc hsq
  obtain ⟨v', vm1, ⟨T', L', k', n'⟩, -, X', ⟨Lc, ⟨rfl, hF', hR'⟩, l1, l2, l3⟩, st⟩ := X.specialBack hx (y := mN y) hy1 hown (mvT hZ wl) (mvT hZ wi) (mvT hZ (hret ▸ wc)) hy
    (back_of_evc (W := (rest.map fun v => v.category).sum) hC hR hZ wc wz (Nat.le_trans hfr hfr') (Nat.le_trans hlo hlo')) (g := mkF m pc (arL G L) ((args.reverse ++ Value.ref i :: rest).map (tr G))) rfl (by rw [hml, ← hLm]; simp [arL]) (Steps.refl _)
    (a := rho G i) (argsL := args.map (tr G)) (rest := rest.map (tr G)) (fun sig hsig => by rw [List.length_map]; exact hlen sig hsig) (by simp [tr]) (by rw [tr_cats]; show 2 * 0 + _ ≤ _; omega) (hb hby hd) (fun vm1 hW1 => ⟨rfl, rfl, hc, hsq⟩)
  dsimp only [Pt.U, Pt.locs, Pt.cells, Pt.slots] at X' l1 l2 l3 st hR'
  subst l1 l2 l3
  refine ⟨T', _, X', hR', hFr.app hF', fun target k => st.trans ?_⟩
  rw [vList]
  exact k
/-- a static method -/
theorem Ev.stat {y : Mi} {idx : Nat} {args rest : List Value} {v : Option Value} {h1 : MHeap} (hy : notMH y)
    (wl : (Jvm.Cond.methodLink (mN M).cls idx (mN y)).before (gA G) (gZ G) = true) (wst : (Jvm.Cond.static (mN y)).before (gA G) (gZ G) = true) (wz : (Jvm.Cond.initialized (mN y).cls).before (gA G) (gZ G) = true)
    (wc : (Jvm.Cond.code (mN y) (mB y) (mL y) (mR y)).before (gA G) (gZ G) = true) (hlen : ∀ sig, parseMethodDescriptor (mN y).desc = some sig → args.length = sig.parameters.length)
    (hd : decode (mB M) pc = .ok (.invokestatic idx, 3)) (hC : EvC G y args h (v, h1)) (hfr : mF y + 1 ≤ mF M) (hlo : (rest.map fun v => v.category).sum + (mL y + 11) + mW y ≤ mW M)
    (hS : S = args.reverse ++ rest) (hn : Ev G M (pc + 3) L (v.toList ++ rest) h1 r) : Ev G M pc L S h r := by
  subst hS
  refine Ev.gen hC.1.1 hC.1.2 rfl hn ?_
  intro p e R s m args0 below meth c T locs cells slots X hx hZ hown hby hml hnm hLm hfr' hlo' hsz hR hFr hc hsq
  obtain ⟨v', vm1, ⟨T', L', k', n'⟩, -, X', ⟨Lc, ⟨rfl, hF', hR'⟩, l1, l2, l3⟩, st⟩ := Jvm.LawKit.callS X hx (y := mN y) hown (mvT hZ wl) (mvT hZ wst) (mvT hZ wz) (mvT hZ wc) hy
    (back_of_evc (W := (rest.map fun v => v.category).sum) hC hR hZ wc wz (Nat.le_trans hfr hfr') (Nat.le_trans hlo hlo')) (g := mkF m pc (arL G L) ((args.reverse ++ rest).map (tr G))) rfl (by rw [hml, ← hLm]; simp [arL])
    (argsL := args.map (tr G)) (rest := rest.map (tr G)) (fun sig hsig => by rw [List.length_map]; exact hlen sig hsig) (by simp) (by rw [tr_cats]; show 2 * 0 + _ ≤ _; omega) (hb hby hd) (fun vm1 hW1 => ⟨rfl, rfl, hc, hsq⟩)
  dsimp only [Pt.U, Pt.locs, Pt.cells, Pt.slots] at X' l1 l2 l3 st hR'
  subst l1 l2 l3
  refine ⟨T', _, X', hR', hFr.app hF', fun target k => st target ?_⟩
  rw [vList]
  exact k
/-! ### returns -/
theorem Ev.ret {v : Option Value} (st : ∀ {p : Program} {e : Env} {R : Room} {s : State} {m : MethodId} {args : Array Value} {below : List Frame} {meth : Method} {c : Code} {T : State} {locs : List Loc} {cells slots : Nat},
      Stand p (gL G) e R s m args below meth c T locs cells slots → p.tables.exec = Jvm.exec → c.code = mB M → meth.sig.returnType = mR M → ∀ fs,
      (∀ (f : JFrame) (acts : List Action), f.method = m → f.locked = none → f.entered = [] → (doReturn e (T.setTop f) acts (v.map (tr G))).1 = T.setFrames fs) → Steps p.tables e below (T.setTop (mkF m pc (arL G L) (S.map (tr G)))) (T.setFrames fs)) :
    Ev G M pc L S h (v, h) := by
  refine ⟨⟨Nat.le_refl _, Nat.le_refl _⟩, ?_⟩
  intro p e R s m args below meth c T locs cells slots X hx hZ hown hby hml hret hnm hLm hfr hlo hsz hR hF hc hs
  refine ⟨T, locs, ?_, hR, hF, st X hx hby hret⟩
  rw [Nat.sub_self, Nat.sub_self, Nat.add_zero, Nat.add_zero]
  exact X
theorem Ev.ireturn {z : Int32} (hret : mR M = some .int) (hd : decode (mB M) pc = .ok (.ireturn, 1)) : Ev G M pc L (.int z :: S) h (some (.int z), h) :=
  Ev.ret fun X hx hby hr fs hl => retOut X hx (hr.trans hret) rfl (Or.inl ⟨rfl, Or.inl rfl, z, rfl⟩) (hb hby hd) hl
theorem Ev.zreturn {z : Int32} (hret : mR M = some .boolean) (hd : decode (mB M) pc = .ok (.ireturn, 1)) : Ev G M pc L (.int z :: S) h (some (.int (z &&& 1)), h) :=
  Ev.ret fun X hx hby hr fs hl => retN X hx (t := .boolean) (hr.trans hret) (Or.inl rfl) (hb hby hd) hl
theorem Ev.lreturn {z : Int64} (hret : mR M = some .long) (hd : decode (mB M) pc = .ok (.lreturn, 1)) : Ev G M pc L (.long z :: S) h (some (.long z), h) :=
  Ev.ret fun X hx hby hr fs hl => retOut X hx (hr.trans hret) rfl (Or.inr (Or.inl ⟨rfl, rfl, z, rfl⟩)) (hb hby hd) hl
theorem Ev.vreturn (hret : mR M = none) (hd : decode (mB M) pc = .ok (.return_, 1)) : Ev G M pc L [] h (none, h) :=
  Ev.ret fun X hx hby hr fs hl => X.returnOut hx (hr.trans hret) (hb hby hd) hl
/-! ### entering -/
def margs : List Value → List Slot
  | [] => []
  | v :: vs => if v.category = 2 then .val v :: .second :: margs vs else .val v :: margs vs
theorem margs_fold (vs : List Value) : ∀ acc : Array Slot, vs.foldl (init := acc) (fun acc v => if v.category = 2 then (acc.push (.val v)).push .second else acc.push (.val v)) = acc ++ (margs vs).toArray := by
  induction vs with
  | nil => intro acc; simp [margs]
  | cons v vs ih =>
    intro acc
    rw [List.foldl_cons, ih]
    by_cases h : v.category = 2
    · simp [margs, h]
    · simp [margs, h]
theorem margs_map (G : Ctx) : ∀ vs : List Value, margs (vs.map (tr G)) = (margs vs).map (trS G)
  | [] => rfl
  | v :: vs => by
    have ih := margs_map G vs
    by_cases h : v.category = 2
    · simp only [List.map_cons, margs, tr_cat, h, if_true, ih]; rfl
    · simp only [List.map_cons, margs, tr_cat, h, if_false, ih]; rfl
def ment (args : List Value) (k : Nat) : List Slot := margs args ++ List.replicate (k - (margs args).length) .unset
theorem entry_eq (G : Ctx) (m : MethodId) (args : List Value) (k : Nat) : entryFrame m (args.map (tr G)).toArray k = mkF m 0 (arL G (ment args k)) [] := by
  have e : argsToLocals (args.map (tr G)).toArray k = arL G (ment args k) := by
    unfold argsToLocals arL ment
    have q := margs_fold (args.map (tr G)) #[]
    rw [List.foldl_toArray']
    · rw [q, margs_map]
      simp [trS]
    · simp
  unfold entryFrame
  rw [e]
theorem EvC.enter {y : Mi} {args : List Value} {L0 : List Slot} (hp : plainFor (mN y) = true) (hv : mR y = none → r.1 = none) (hL : ment args (mL y) = L0) (hlen : L0.length = mL y) (hn : Ev G y 0 L0 [] h r) : EvC G y args h r := by
  subst hL
  refine ⟨hn.1, fun ws R hr hf hl hc hs hR => ?_⟩
  refine MetFree.of_bodySF hp hisR ?_
  intro p e s m args' below meth c s₁ Bd hml0 hP hK
  obtain ⟨rfl, hZ, hh⟩ := hP
  have X0 : Stand p (gL G) e R s m _ below meth c s₁ [] 0 0 := Stand.of_body Bd
  have e0 : s₁.heap = hr := by rw [← hh, Bd.state]; rfl
  obtain ⟨T', locs', X', R', F', st⟩ := hn.2 p e R s m _ below meth c s₁ [] 0 0 X0 Bd.exec hZ (findClass_of_methodNamed Bd.named) Bd.bytes hml0 Bd.returns (name_of_methodNamed Bd.named Bd.method).1 hlen hf hl (by rw [e0, hh]; rfl) (by rw [e0]; exact hR) (Fr.nil _) (by omega) (by omega)
  rw [Nat.zero_add, Nat.zero_add] at X'
  obtain ⟨fs, hret, hrun, hended, hW, hsame⟩ := X'.leave (v := r.1.map (tr G)) (fun q => by rw [hv (Bd.returns.symm.trans q)]; rfl)
  refine ⟨_, _, castTop (entry_eq G m args (mL y)) (st fs hret), hrun, hended, _, _, rfl, ⟨rfl, F', ?_⟩, ⟨_, rfl⟩, hW, hsame⟩
  exact R'
end Rules
end Jvm.Own
namespace Jvm.Own
open Sem ClassFile Op Lib Jvm.Stand Jvm.Free Jvm.LawKit Jvm.RoadKit
/-! ## 4. An object as two functions: its ints by the field's number, its arrays by the field's number and the place -/
abbrev St := (Nat → Int32) × (Nat → Nat → Int32)
def setI (s : St) (j : Nat) (z : Int32) : St := (fun k => if k = j then z else s.1 k, s.2)
def setA (s : St) (j i : Nat) (z : Int32) : St := (s.1, fun k x => if k = j ∧ x = i then z else s.2 k x)
def zeroS : St := (fun _ => 0, fun _ _ => 0)
theorem setI_1 (s : St) (j : Nat) (z : Int32) (k : Nat) : (setI s j z).1 k = if k = j then z else s.1 k := rfl
theorem setI_2 (s : St) (j : Nat) (z : Int32) : (setI s j z).2 = s.2 := rfl
theorem setA_1 (s : St) (j i : Nat) (z : Int32) : (setA s j i z).1 = s.1 := rfl
theorem setA_2 (s : St) (j i : Nat) (z : Int32) (k x : Nat) : (setA s j i z).2 k x = if k = j ∧ x = i then z else s.2 k x := rfl
def ix (j : Int32) : Nat := j.toNatClampNeg
/-- the place j lies in an array of n -/
def inb (j : Int32) (n : Nat) : Prop := ¬ j < 0 ∧ ix j < n
instance (j : Int32) (n : Nat) : Decidable (inb j n) := inferInstanceAs (Decidable (_ ∧ _))
def bnd {α β : Type} (x : α) (f : α → β) : β := f x
theorem bnd_eq {α β : Type} (x : α) (f : α → β) : bnd x f = f x := rfl
def tab (n : Nat) (f : Nat → Int32) : List Int32 := (List.range n).map f
theorem tab_len (n : Nat) (f : Nat → Int32) : (tab n f).length = n := by simp [tab]
theorem tab_get {n : Nat} {f : Nat → Int32} {i : Nat} (h : i < n) : (tab n f)[i]? = some (f i) := by simp [tab, h]
theorem tab_set {n : Nat} {f : Nat → Int32} {i : Nat} {z : Int32} : (tab n f).set i z = tab n (fun x => if x = i then z else f x) := by
  apply List.ext_getElem?
  intro k
  rw [List.getElem?_set]
  by_cases h : i = k
  · subst h
    by_cases q : i < n
    · simp [tab, q]
    · simp [tab, q]
  · by_cases q : k < n
    · simp [tab, q, h, Ne.symm h]
    · simp [tab, q, h]
theorem tab_zero (n : Nat) : tab n (fun _ => 0) = List.replicate n 0 := by
  apply List.ext_getElem?
  intro k
  by_cases q : k < n <;> simp [tab, q]
theorem tab_of (xs : List Int32) : xs = tab xs.length (fun i => xs.getD i 0) := by
  apply List.ext_getElem?
  intro k
  by_cases q : k < xs.length
  · simp [tab, q]
  · simp [tab, q]
def isA : FieldType → Bool
  | .array _ => true
  | _ => false
def isB : FieldType → Bool
  | .boolean => true
  | _ => false
def fv1 (r : Nat → Nat) (s : St) (j : Nat) (f : Fd) : Value := match f.2.2 with
  | .array _ => .ref (r j)
  | _ => .int (s.1 j)
def fvA (r : Nat → Nat) (s : St) : Nat → List Fd → List Value
  | _, [] => []
  | j, f :: fs => fv1 r s j f :: fvA r s (j + 1) fs
theorem fvA_get (r : Nat → Nat) (s : St) : ∀ (F : List Fd) (k j : Nat), (fvA r s k F)[j]? = (F[j]?).map (fv1 r s (k + j))
  | [], _, _ => by simp [fvA]
  | f :: fs, k, 0 => by simp [fvA]
  | f :: fs, k, j + 1 => by
    have := fvA_get r s fs (k + 1) j
    simp only [fvA, List.getElem?_cons_succ, this]
    rw [show k + 1 + j = k + (j + 1) by omega]
theorem fvA_len (r : Nat → Nat) (s : St) : ∀ (F : List Fd) (k : Nat), (fvA r s k F).length = F.length
  | [], _ => rfl
  | f :: fs, k => by simp [fvA, fvA_len r s fs (k + 1)]
theorem fvA_set {r : Nat → Nat} {s : St} {F : List Fd} {j : Nat} {f : Fd} {z : Int32} (hF : F[j]? = some f) (ht : isA f.2.2 = false) : (fvA r s 0 F).set j (.int z) = fvA r (setI s j z) 0 F := by
  apply List.ext_getElem?
  intro k
  rw [List.getElem?_set, fvA_get, fvA_get, Nat.zero_add]
  by_cases h : j = k
  · subst h
    simp only [if_true, fvA_len, (List.getElem?_eq_some_iff.mp hF).1, hF, Option.map_some]
    congr 1
    unfold fv1
    split
    · rename_i t e; rw [e] at ht; cases ht
    · simp [setI_1]
  · simp only [h, if_false]
    cases F[k]? with
    | none => rfl
    | some g =>
      simp only [Option.map_some]
      congr 1
      unfold fv1
      split
      · rfl
      · rw [setI_1, if_neg (Ne.symm h)]
theorem fvA_same (r : Nat → Nat) {s s' : St} (h : s.1 = s'.1) : ∀ (F : List Fd) (k : Nat), fvA r s k F = fvA r s' k F
  | [], _ => rfl
  | f :: fs, k => by
    simp only [fvA, fvA_same r h fs (k + 1)]
    congr 1
    unfold fv1
    split
    · rfl
    · rw [h]
/-- the heap K s shows the object at o, its arrays at r, as s tells -/
def View (G : Ctx) (Ln : Nat → Nat) (K : St → MHeap) (o : Nat) (r : Nat → Nat) : Prop :=
  k0 G ≤ o ∧ (∀ s, (K s)[o]? = some (.inl (fvA r s 0 (gF G)))) ∧
  (∀ s j f z, (gF G)[j]? = some f → isA f.2.2 = false → (K s).set o (.inl ((fvA r s 0 (gF G)).set j (.int z))) = K (setI s j z)) ∧
  (∀ j n d t, (gF G)[j]? = some (n, d, .array t) → k0 G ≤ r j ∧ (∀ s, (K s)[r j]? = some (.inr (isB t, tab (Ln j) (s.2 j)))) ∧ ∀ s i z, i < Ln j → (K s).set (r j) (.inr (isB t, (tab (Ln j) (s.2 j)).set i z)) = K (setA s j i z))
section ViewRules
variable {G : Ctx} {M : Mi} {pc : Nat} {L : List Slot} {S : List Value} {rr : Option Value × MHeap} {Ln : Nat → Nat} {K : St → MHeap} {o : Nat} {r : Nat → Nat} {s : St}
theorem Ev.gI {idx j : Nat} {n d : String} {ty : FieldType} (V : View G Ln K o r) (w : (Jvm.Cond.fieldLink (mN M).cls idx (gC G) n d).before (gA G) (gZ G) = true) (hd : decode (mB M) pc = .ok (.getfield idx, 3)) (hF : (gF G)[j]? = some (n, d, ty)) (ht : isA ty = false)
    (hn : Ev G M (pc + 3) L (.int (s.1 j) :: S) (K s) rr) : Ev G M pc L (.ref o :: S) (K s) rr :=
  Ev.getfield w hd hF (V.2.1 s) (v := .int (s.1 j)) (by rw [fvA_get, hF, Nat.zero_add]; simp only [Option.map_some, fv1]; cases ty <;> first | rfl | cases ht) hn
theorem Ev.gAr {idx j : Nat} {n d : String} {t : FieldType} (V : View G Ln K o r) (w : (Jvm.Cond.fieldLink (mN M).cls idx (gC G) n d).before (gA G) (gZ G) = true) (hd : decode (mB M) pc = .ok (.getfield idx, 3)) (hF : (gF G)[j]? = some (n, d, .array t))
    (hn : Ev G M (pc + 3) L (.ref (r j) :: S) (K s) rr) : Ev G M pc L (.ref o :: S) (K s) rr :=
  Ev.getfield w hd hF (V.2.1 s) (v := .ref (r j)) (by rw [fvA_get, hF, Nat.zero_add]; rfl) hn
theorem Ev.pI {idx j : Nat} {n d : String} {z : Int32} (V : View G Ln K o r) (Kk : GOk G) (w : (Jvm.Cond.fieldLink (mN M).cls idx (gC G) n d).before (gA G) (gZ G) = true)
    (wl : (Jvm.Cond.lays (gC G) (gC G) n d).before (gA G) (gZ G) = true ∨ ((Jvm.Cond.laysFinal (gC G) (gC G) n d).before (gA G) (gZ G) = true ∧ (mN M).cls = gC G ∧ (mN M).name = "<init>"))
    (hd : decode (mB M) pc = .ok (.putfield idx, 3)) (hF : (gF G)[j]? = some (n, d, .int)) (hn : Ev G M (pc + 3) L S (K (setI s j z)) rr) : Ev G M pc L (.int z :: .ref o :: S) (K s) rr := by
  refine Ev.putfield Kk w wl hd hF V.1 (V.2.1 s) (v' := .int z) rfl ?_
  rw [V.2.2.1 s j _ z hF rfl]; exact hn
theorem Ev.pZ {idx j : Nat} {n d : String} {z : Int32} (V : View G Ln K o r) (Kk : GOk G) (w : (Jvm.Cond.fieldLink (mN M).cls idx (gC G) n d).before (gA G) (gZ G) = true)
    (wl : (Jvm.Cond.lays (gC G) (gC G) n d).before (gA G) (gZ G) = true ∨ ((Jvm.Cond.laysFinal (gC G) (gC G) n d).before (gA G) (gZ G) = true ∧ (mN M).cls = gC G ∧ (mN M).name = "<init>"))
    (hd : decode (mB M) pc = .ok (.putfield idx, 3)) (hF : (gF G)[j]? = some (n, d, .boolean)) (hn : Ev G M (pc + 3) L S (K (setI s j (z &&& 1))) rr) : Ev G M pc L (.int z :: .ref o :: S) (K s) rr := by
  refine Ev.putfield Kk w wl hd hF V.1 (V.2.1 s) (v' := .int (z &&& 1)) rfl ?_
  rw [V.2.2.1 s j _ _ hF rfl]; exact hn
theorem Ev.ial {j : Nat} {n d : String} {i : Int32} {N : Nat} (V : View G Ln K o r) (hF : (gF G)[j]? = some (n, d, .array .int)) (hN : Ln j = N) (hd : decode (mB M) pc = .ok (.iaload, 1)) (hb : inb i N) (hn : Ev G M (pc + 1) L (.int (s.2 j (ix i)) :: S) (K s) rr) : Ev G M pc L (.int i :: .ref (r j) :: S) (K s) rr :=
  Ev.iaload hd ((V.2.2.2 j n d _ hF).2.1 s) hb.1 (tab_get (hN ▸ hb.2)) hn
theorem Ev.bal {j : Nat} {n d : String} {i : Int32} {N : Nat} (V : View G Ln K o r) (hF : (gF G)[j]? = some (n, d, .array .boolean)) (hN : Ln j = N) (hd : decode (mB M) pc = .ok (.baload, 1)) (hb : inb i N) (hn : Ev G M (pc + 1) L (.int (s.2 j (ix i)) :: S) (K s) rr) : Ev G M pc L (.int i :: .ref (r j) :: S) (K s) rr :=
  Ev.baload hd ((V.2.2.2 j n d _ hF).2.1 s) hb.1 (tab_get (hN ▸ hb.2)) hn
theorem Ev.ias {j : Nat} {n d : String} {i z : Int32} {N : Nat} (V : View G Ln K o r) (hF : (gF G)[j]? = some (n, d, .array .int)) (hN : Ln j = N) (hd : decode (mB M) pc = .ok (.iastore, 1)) (hb : inb i N) (hn : Ev G M (pc + 1) L S (K (setA s j (ix i) z)) rr) : Ev G M pc L (.int z :: .int i :: .ref (r j) :: S) (K s) rr := by
  obtain ⟨q1, q2, q3⟩ := V.2.2.2 j n d _ hF
  refine Ev.iastore hd q1 (q2 s) hb.1 (by rw [tab_len, hN]; exact hb.2) ?_
  have := q3 s (ix i) z (hN ▸ hb.2)
  exact this ▸ hn
theorem Ev.bas {j : Nat} {n d : String} {i z : Int32} {N : Nat} (V : View G Ln K o r) (hF : (gF G)[j]? = some (n, d, .array .boolean)) (hN : Ln j = N) (hd : decode (mB M) pc = .ok (.bastore, 1)) (hb : inb i N) (hn : Ev G M (pc + 1) L S (K (setA s j (ix i) (z &&& 1))) rr) : Ev G M pc L (.int z :: .int i :: .ref (r j) :: S) (K s) rr := by
  obtain ⟨q1, q2, q3⟩ := V.2.2.2 j n d _ hF
  refine Ev.bastore hd q1 (q2 s) hb.1 (by rw [tab_len, hN]; exact hb.2) ?_
  have := q3 s (ix i) (z &&& 1) (hN ▸ hb.2)
  exact this ▸ hn
theorem Ev.sal {h : MHeap} {i : Int32} {N k : Nat} {f : Nat → Int32} (hs : h[k]? = some (.inr (false, tab N f))) (hd : decode (mB M) pc = .ok (.iaload, 1)) (hb : inb i N) (hn : Ev G M (pc + 1) L (.int (f (ix i)) :: S) h rr) : Ev G M pc L (.int i :: .ref k :: S) h rr :=
  Ev.iaload hd hs hb.1 (tab_get hb.2) hn
theorem Ev.sln {h : MHeap} {N k : Nat} {f : Nat → Int32} (hs : h[k]? = some (.inr (false, tab N f))) (hd : decode (mB M) pc = .ok (.arraylength, 1)) (hn : Ev G M (pc + 1) L (.int N.toInt32 :: S) h rr) : Ev G M pc L (.ref k :: S) h rr :=
  Ev.arraylength hd hs (by rw [tab_len]; exact hn)
theorem Ev.zret1 {h : MHeap} (hret : mR M = some .boolean) (hd : decode (mB M) pc = .ok (.ireturn, 1)) : Ev G M pc L (.int 1 :: S) h (some (.int 1), h) := Ev.zreturn hret hd
theorem Ev.zret0 {h : MHeap} (hret : mR M = some .boolean) (hd : decode (mB M) pc = .ok (.ireturn, 1)) : Ev G M pc L (.int 0 :: S) h (some (.int 0), h) := Ev.zreturn hret hd
/-- a slot over which an int may be stored at once -/
def one1 : Slot → Bool
  | .unset => true
  | .val v => v.category == 1
  | .second => false
theorem mst_one {l : List Slot} {i : Nat} {v : Value} {o : Slot} (ho : l[i]? = some o) (h1 : one1 o = true) (hv : v.category = 1) : mst l i v = some (l.set i (.val v)) := by
  have hlt := (List.getElem?_eq_some_iff.mp ho).1
  have e : lstoreSelf l i v = some (l.set i (.val v)) := by simp [lstoreSelf, lsetAt, hlt, hv]
  unfold mst
  rw [ho]
  cases o with
  | unset => exact e
  | second => cases h1
  | val w =>
    have : w.category = 1 := by simpa [one1] using h1
    simp only [this]
    exact e
theorem Ev.istD {k : Nat} {v : Int32} {L' : List Slot} {o : Slot} {h : MHeap} (hd : decode (mB M) pc = .ok (.istore k, 2)) (ho : L[k]? = some o) (h1 : one1 o = true) (hl : L.set k (.val (.int v)) = L') (hn : Ev G M (pc + 2) L' S h rr) : Ev G M pc L (.int v :: S) h rr :=
  Ev.istore hd (by rw [mst_one ho h1 rfl, hl]) hn
theorem Ev.istDN {k : Fin 4} {v : Int32} {L' : List Slot} {o : Slot} {h : MHeap} (hd : decode (mB M) pc = .ok (.istore_n k, 1)) (ho : L[k.val]? = some o) (h1 : one1 o = true) (hl : L.set k.val (.val (.int v)) = L') (hn : Ev G M (pc + 1) L' S h rr) : Ev G M pc L (.int v :: S) h rr :=
  Ev.istoreN hd (by rw [mst_one ho h1 rfl, hl]) hn
/-- a pair of slots over which a long may be stored at once -/
def two2 (a b : Slot) : Prop := (one1 a = true ∧ one1 b = true) ∨ (∃ x, a = .val (.long x) ∧ b = .second)
theorem set_set2 {l : List Slot} {i : Nat} {a b c : Slot} : ((l.set (i + 1) a).set i b).set (i + 1) c = (l.set i b).set (i + 1) c := by
  rw [List.set_comm _ _ (by omega : i + 1 ≠ i), List.set_set]
theorem mst_two {l : List Slot} {i : Nat} {v : Int64} {o o' : Slot} (ho : l[i]? = some o) (ho' : l[i + 1]? = some o') (h2 : two2 o o') : mst l i (.long v) = some ((l.set i (.val (.long v))).set (i + 1) .second) := by
  have hlt := (List.getElem?_eq_some_iff.mp ho).1
  have hlt' := (List.getElem?_eq_some_iff.mp ho').1
  rcases h2 with ⟨h1, h1'⟩ | ⟨x, rfl, rfl⟩
  · have e : lstoreSelf l i (.long v) = some ((l.set i (.val (.long v))).set (i + 1) .second) := by
      have q : (l.set i (.val (.long v)))[i + 1]? = some o' := by rw [List.getElem?_set_ne (by omega)]; exact ho'
      have hcat : (Value.long v).category = 2 := rfl
      simp only [lstoreSelf, lsetAt, hlt, if_true, hcat, q]
      cases o' with
      | unset => simp [hlt']
      | second => cases h1'
      | val w =>
        have : w.category = 1 := by simpa [one1] using h1'
        simp [this, hlt']
    unfold mst
    rw [ho]
    cases o with
    | unset => exact e
    | second => cases h1
    | val w =>
      have : w.category = 1 := by simpa [one1] using h1
      simp only [this]
      exact e
  · unfold mst
    rw [ho]
    have q : ((l.set (i + 1) Slot.unset).set i (.val (.long v)))[i + 1]? = some .unset := by
      rw [List.getElem?_set_ne (by omega), List.getElem?_set_self hlt']
    simp only [Value.category, if_true, lsetAt, hlt', lstoreSelf, List.length_set, hlt, q, set_set2]
theorem Ev.lstD {k : Nat} {v : Int64} {L' : List Slot} {o o' : Slot} {h : MHeap} (hd : decode (mB M) pc = .ok (.lstore k, 2)) (ho : L[k]? = some o) (ho' : L[k + 1]? = some o') (h2 : two2 o o') (hl : (L.set k (.val (.long v))).set (k + 1) .second = L') (hn : Ev G M (pc + 2) L' S h rr) : Ev G M pc L (.long v :: S) h rr :=
  Ev.lstore hd (by rw [mst_two ho ho' h2, hl]) hn
theorem Ev.lstDN {k : Fin 4} {v : Int64} {L' : List Slot} {o o' : Slot} {h : MHeap} (hd : decode (mB M) pc = .ok (.lstore_n k, 1)) (ho : L[k.val]? = some o) (ho' : L[k.val + 1]? = some o') (h2 : two2 o o') (hl : (L.set k.val (.val (.long v))).set (k.val + 1) .second = L') (hn : Ev G M (pc + 1) L' S h rr) : Ev G M pc L (.long v :: S) h rr :=
  Ev.lstoreN hd (by rw [mst_two ho ho' h2, hl]) hn
end ViewRules
/-! ## 5. One object among others -/
/-- al: the array fields in the order in which the constructor makes them, each with 'of booleans' -/
def rA (o : Nat) (al : List (Nat × Bool)) (j : Nat) : Nat := o + 1 + al.findIdx (fun q => q.1 == j)
def arr1 (Ln : Nat → Nat) (s : St) (q : Nat × Bool) : MCell := .inr (q.2, tab (Ln q.1) (s.2 q.1))
def KO (F : List Fd) (al : List (Nat × Bool)) (Ln : Nat → Nat) (o : Nat) (s : St) : MHeap := .inl (fvA (rA o al) s 0 F) :: al.map (arr1 Ln s)
def KH (F : List Fd) (al : List (Nat × Bool)) (Ln : Nat → Nat) (pre post : MHeap) (s : St) : MHeap := pre ++ (KO F al Ln pre.length s ++ post)
def alOk (F : List Fd) (al : List (Nat × Bool)) : Bool := (List.range F.length).all (fun j => match F[j]? with
  | some (_, _, .array t) => al[al.findIdx (fun q => q.1 == j)]? == some (j, isB t)
  | _ => true)
theorem KO_len {F : List Fd} {al : List (Nat × Bool)} {Ln : Nat → Nat} {o : Nat} {s : St} : (KO F al Ln o s).length = al.length + 1 := by simp [KO]
theorem app_get (pre post l : MHeap) (k : Nat) (h : k < l.length) : (pre ++ (l ++ post))[pre.length + k]? = l[k]? := by
  rw [List.getElem?_append_right (by omega), Nat.add_sub_cancel_left, List.getElem?_append_left h]
theorem app_set (pre post l : MHeap) (k : Nat) (c : MCell) (h : k < l.length) : (pre ++ (l ++ post)).set (pre.length + k) c = pre ++ (l.set k c ++ post) := by
  rw [List.set_append_right _ _ (by omega), Nat.add_sub_cancel_left, List.set_append_left _ _ h]
theorem view_of {G : Ctx} {al : List (Nat × Bool)} {Ln : Nat → Nat} {pre post : MHeap} (hk : k0 G ≤ pre.length) (h1 : alOk (gF G) al = true) (h2 : (al.map (·.1)).Nodup) :
    View G Ln (KH (gF G) al Ln pre post) pre.length (rA pre.length al) := by
  refine ⟨hk, fun s => ?_, fun s j f z hF ht => ?_, fun j n d t hF => ?_⟩
  · have := app_get pre post (KO (gF G) al Ln pre.length s) 0 (by rw [KO_len]; omega)
    exact this
  · have := app_set pre post (KO (gF G) al Ln pre.length s) 0 (.inl ((fvA (rA pre.length al) s 0 (gF G)).set j (.int z))) (by rw [KO_len]; omega)
    refine Eq.trans this ?_
    show pre ++ ((.inl _ :: al.map (arr1 Ln s)) ++ post) = pre ++ ((.inl _ :: al.map (arr1 Ln (setI s j z))) ++ post)
    rw [fvA_set hF ht]
    rfl
  · have hj : j < (gF G).length := (List.getElem?_eq_some_iff.mp hF).1
    have hq := List.all_eq_true.mp h1 j (List.mem_range.mpr hj)
    simp only [hF, beq_iff_eq] at hq
    have hlt := (List.getElem?_eq_some_iff.mp hq).1
    have hlen : ∀ s, al.findIdx (fun q => q.1 == j) + 1 < (KO (gF G) al Ln pre.length s).length := fun s => by rw [KO_len]; omega
    have hr : rA pre.length al j = pre.length + (al.findIdx (fun q => q.1 == j) + 1) := by unfold rA; omega
    refine ⟨by rw [hr]; omega, fun s => ?_, fun s i z hi => ?_⟩
    · rw [hr]
      refine (app_get pre post _ _ (hlen s)).trans ?_
      show (al.map (arr1 Ln s))[al.findIdx fun q => q.1 == j]? = _
      rw [List.getElem?_map, hq]
      rfl
    · rw [hr]
      refine (app_set pre post _ _ _ (hlen s)).trans ?_
      show pre ++ ((.inl (fvA (rA pre.length al) s 0 (gF G)) :: (al.map (arr1 Ln s)).set (al.findIdx fun q => q.1 == j) (.inr (isB t, (tab (Ln j) (s.2 j)).set i z))) ++ post) = pre ++ ((.inl (fvA (rA pre.length al) (setA s j i z) 0 (gF G)) :: al.map (arr1 Ln (setA s j i z))) ++ post)
      rw [fvA_same (s := s) (s' := setA s j i z) _ rfl]
      congr 3
      apply List.ext_getElem?
      intro k
      rw [List.getElem?_set, List.getElem?_map, List.getElem?_map, List.length_map]
      by_cases e : al.findIdx (fun q => q.1 == j) = k
      · subst e
        simp only [if_true, hlt, hq, Option.map_some, arr1, tab_set]
        congr 4
        funext x
        rw [setA_2]
        simp
      · simp only [e, if_false]
        cases hk2 : al[k]? with
        | none => rfl
        | some q =>
          simp only [Option.map_some, arr1]
          have ne : q.1 ≠ j := fun hqj => by
            have a1 : (al.map (·.1))[al.findIdx (fun q => q.1 == j)]? = some j := by rw [List.getElem?_map, hq]; rfl
            have a2 : (al.map (·.1))[k]? = some j := by rw [List.getElem?_map, hk2]; simp [hqj]
            have := (List.getElem?_inj (by rw [List.length_map]; exact hlt) h2).mp (a1.trans a2.symm)
            exact e this
          congr 4
          funext x
          rw [setA_2]
          simp [ne]
/-! ### while the constructor makes the arrays -/
def cons (pre : MHeap) (fs : List Value) (as : List (Bool × List Int32)) : MHeap := pre ++ (.inl fs :: as.map .inr)
section ConsRules
variable {G : Ctx} {M : Mi} {pc : Nat} {L : List Slot} {S : List Value} {rr : Option Value × MHeap} {pre : MHeap} {fs fs' : List Value} {as : List (Bool × List Int32)}
theorem cons_get : (cons pre fs as)[pre.length]? = some (.inl fs) := by unfold cons; rw [List.getElem?_append_right (Nat.le_refl _), Nat.sub_self]; rfl
theorem cons_set (c : List Value) : (cons pre fs as).set pre.length (.inl c) = cons pre c as := by unfold cons; rw [List.set_append_right _ _ (Nat.le_refl _), Nat.sub_self]; rfl
theorem cons_len : (cons pre fs as).length = pre.length + 1 + as.length := by simp [cons]; omega
theorem cons_push (b : Bool) (xs : List Int32) : cons pre fs as ++ [.inr (b, xs)] = cons pre fs (as ++ [(b, xs)]) := by simp [cons]
theorem Ev.cput {idx j : Nat} {n d : String} {ty : FieldType} {v v' : Value} (K : GOk G) (hk : k0 G ≤ pre.length) (w : (Jvm.Cond.fieldLink (mN M).cls idx (gC G) n d).before (gA G) (gZ G) = true)
    (wl : (Jvm.Cond.lays (gC G) (gC G) n d).before (gA G) (gZ G) = true ∨ ((Jvm.Cond.laysFinal (gC G) (gC G) n d).before (gA G) (gZ G) = true ∧ (mN M).cls = gC G ∧ (mN M).name = "<init>"))
    (hd : decode (mB M) pc = .ok (.putfield idx, 3)) (hF : (gF G)[j]? = some (n, d, ty)) (hp : mput ty v = some v') (hs : fs.set j v' = fs') (hn : Ev G M (pc + 3) L S (cons pre fs' as) rr) : Ev G M pc L (v :: .ref pre.length :: S) (cons pre fs as) rr := by
  subst hs
  refine Ev.putfield K w wl hd hF hk cons_get hp ?_
  rw [cons_set]; exact hn
theorem Ev.cget {idx j : Nat} {n d : String} {ty : FieldType} {v : Value} (w : (Jvm.Cond.fieldLink (mN M).cls idx (gC G) n d).before (gA G) (gZ G) = true) (hd : decode (mB M) pc = .ok (.getfield idx, 3)) (hF : (gF G)[j]? = some (n, d, ty)) (hv : fs[j]? = some v)
    (hn : Ev G M (pc + 3) L (v :: S) (cons pre fs as) rr) : Ev G M pc L (.ref pre.length :: S) (cons pre fs as) rr := Ev.getfield w hd hF cons_get hv hn
theorem Ev.cnew {aty : ArrayType} {b : Bool} {n : Int32} {k q : Nat} {as' : List (Bool × List Int32)} (w : (Jvm.Cond.arrayClass (newarray.typeOf aty)).before (gA G) (gZ G) = true) (hb' : newarray.typeOf aty = kd b) (hd : decode (mB M) pc = .ok (.newarray aty, 2)) (hn0 : ¬ n < 0) (hk : n.toNatClampNeg = k) (hcap : k ≤ 67108864)
    (hq : as.length = q) (has : as ++ [(b, tab k (fun _ => 0))] = as') (hn : Ev G M (pc + 2) L (.ref (pre.length + 1 + q) :: S) (cons pre fs as') rr) : Ev G M pc L (.int n :: S) (cons pre fs as) rr := by
  subst hq has
  refine Ev.newarray w hb' hd hn0 hk hcap ?_
  rw [cons_push, cons_len, ← tab_zero]; exact hn
end ConsRules
theorem forall_get {P : Nat → Fd → Prop} : ∀ (F : List Fd) (k : Nat), (∀ j f, F[j]? = some f → P (k + j) f) → True := fun _ _ _ => trivial
def AllF (P : Fd → Prop) : List Fd → Prop
  | [] => True
  | f :: fs => P f ∧ AllF P fs
theorem AllF.mem {P : Fd → Prop} : ∀ {F : List Fd}, AllF P F → ∀ f ∈ F, P f
  | _ :: _, ⟨h1, h2⟩, f, hf => (List.mem_cons.mp hf).elim (fun e => e ▸ h1) (AllF.mem h2 f)
theorem gok_of {G : Ctx} (h1 : AllF (fun f => Laid (gZ G) (gA G) (gC G) (gC G) f.1 f.2.1 ∧ parseFieldDescriptor f.2.1 = some f.2.2) (gF G)) (h2 : ((gF G).map (·.1)).Nodup)
    (h3 : (Jvm.Cond.instantiable (gC G) (gK G)).before (gA G) (gZ G) = true) (h4 : (Jvm.Cond.initialized (gC G)).before (gA G) (gZ G) = true) : GOk G := by
  refine ⟨fun j n d ty hF => h1.mem _ (List.mem_of_getElem? hF), fun j j' f f' hF hF' ne e => ne ?_, h3, h4⟩
  have a1 : ((gF G).map (·.1))[j]? = some f.1 := by rw [List.getElem?_map, hF]; rfl
  have a2 : ((gF G).map (·.1))[j']? = some f.1 := by rw [List.getElem?_map, hF', e]; rfl
  exact (List.getElem?_inj (by rw [List.length_map]; exact (List.getElem?_eq_some_iff.mp hF).1) h2).mp (a1.trans a2.symm)
end Jvm.Own
namespace Jvm.Own
open Sem ClassFile Op Lib Jvm.Stand Jvm.Free Jvm.LawKit Jvm.RoadKit
def grd {α : Type} (c : Prop) [Decidable c] (x : Option α) : Option α := if c then x else none
theorem grd_some {α : Type} {c : Prop} [Decidable c] {x : Option α} {w : α} (h : grd c x = some w) : c ∧ x = some w := by
  unfold grd at h; split at h
  · exact ⟨by assumption, h⟩
  · cases h
theorem grd_pos {α : Type} {c : Prop} [Decidable c] {x : Option α} (h : c) : grd c x = x := if_pos h
theorem KH_len (F : List Fd) (al : List (Nat × Bool)) (Ln : Nat → Nat) (pre post : MHeap) (s : St) : (KH F al Ln pre post s).length = pre.length + (al.length + 1 + post.length) := by simp [KH, KO]; omega
theorem hsl_app (k : Nat) (a b : MHeap) : hsl k (a ++ b) = hsl k a + hsl k b := by simp [hsl]
theorem hsl_arr (k : Nat) (Ln : Nat → Nat) (s : St) : ∀ al : List (Nat × Bool), hsl k (al.map (arr1 Ln s)) = (al.map fun q => Ln q.1).sum
  | [] => rfl
  | q :: al => by
    have := hsl_arr k Ln s al
    simp only [hsl, List.map_cons, List.sum_cons] at this ⊢
    rw [this]
    simp [arr1, csl, tab_len]
theorem hsl_KH (k : Nat) (F : List Fd) (al : List (Nat × Bool)) (Ln : Nat → Nat) (pre post : MHeap) (s : St) : hsl k (KH F al Ln pre post s) = hsl k pre + (k + (al.map fun q => Ln q.1).sum + hsl k post) := by
  unfold KH
  rw [hsl_app, hsl_app]
  have : hsl k (KO F al Ln pre.length s) = k + (al.map fun q => Ln q.1).sum := by
    have := hsl_arr k Ln s al
    simp only [KO, hsl, List.map_cons, List.sum_cons, csl] at this ⊢
    rw [this]
  rw [this]
theorem ne_lit {x z : Int32} {k : Int} (h : ¬ x = z) (e : z.toInt = k) : x.toInt ≠ k := fun q => h (Int32.toInt_inj.mp (q.trans e.symm))
section
variable {G : Ctx} {M : Mi} {pc : Nat} {L : List Slot} {S : List Value} {rr : Option Value × MHeap}
theorem Ev.astD {k v : Nat} {L' : List Slot} {o : Slot} {h : MHeap} (hd : decode (mB M) pc = .ok (.astore k, 2)) (ho : L[k]? = some o) (h1 : one1 o = true) (hl : L.set k (.val (.ref v)) = L') (hn : Ev G M (pc + 2) L' S h rr) : Ev G M pc L (.ref v :: S) h rr :=
  Ev.astore hd (by rw [mst_one ho h1 rfl, hl]) hn
theorem Ev.astDN {k : Fin 4} {v : Nat} {L' : List Slot} {o : Slot} {h : MHeap} (hd : decode (mB M) pc = .ok (.astore_n k, 1)) (ho : L[k.val]? = some o) (h1 : one1 o = true) (hl : L.set k.val (.val (.ref v)) = L') (hn : Ev G M (pc + 1) L' S h rr) : Ev G M pc L (.ref v :: S) h rr :=
  Ev.astoreN hd (by rw [mst_one ho h1 rfl, hl]) hn
end
end Jvm.Own
namespace Jvm.Own
open Sem ClassFile Op Lib Jvm.Stand Jvm.Free Jvm.LawKit Jvm.RoadKit
section
variable {G : Ctx} {M : Mi} {pc : Nat} {L : List Slot} {S : List Value} {rr : Option Value × MHeap}
theorem mst_T {l : List Slot} {i : Nat} {v : Value} {o o' : Slot} (ho : l[i]? = some o) (ho' : l[i + 1]? = some o') (h2 : two2 o o') (hv : v.category = 1) : ∃ b, one1 b = true ∧ mst l i v = some ((l.set i (.val v)).set (i + 1) b) := by
  have hlt := (List.getElem?_eq_some_iff.mp ho).1
  have hlt' := (List.getElem?_eq_some_iff.mp ho').1
  rcases h2 with ⟨h1, h1'⟩ | ⟨x, rfl, rfl⟩
  · refine ⟨o', h1', ?_⟩
    rw [mst_one ho h1 hv]
    congr 1
    apply List.ext_getElem?
    intro k
    by_cases e : i + 1 = k
    · subst e
      rw [List.getElem?_set_self (by simpa using hlt'), List.getElem?_set_ne (by omega), ho']
    · rw [List.getElem?_set_ne e]
  · refine ⟨.unset, rfl, ?_⟩
    unfold mst
    rw [ho]
    have c2 : (Value.long x).category = 2 := rfl
    simp only [c2, if_true, lsetAt, hlt', lstoreSelf, List.length_set, hlt, hv]
    rw [List.set_comm _ _ (by omega : i + 1 ≠ i)]
    simp
theorem Ev.istT {k : Nat} {v : Int32} {L' : Slot → List Slot} {o o' : Slot} {h : MHeap} (hd : decode (mB M) pc = .ok (.istore k, 2)) (ho : L[k]? = some o) (ho' : L[k + 1]? = some o') (h2 : two2 o o') (hl : ∀ b, (L.set k (.val (.int v))).set (k + 1) b = L' b) (hn : ∀ b, one1 b = true → Ev G M (pc + 2) (L' b) S h rr) : Ev G M pc L (.int v :: S) h rr := by
  obtain ⟨b, h1, e⟩ := mst_T (v := .int v) ho ho' h2 rfl
  exact Ev.istore hd e (by rw [hl]; exact hn b h1)
theorem Ev.istTN {k : Fin 4} {v : Int32} {L' : Slot → List Slot} {o o' : Slot} {h : MHeap} (hd : decode (mB M) pc = .ok (.istore_n k, 1)) (ho : L[k.val]? = some o) (ho' : L[k.val + 1]? = some o') (h2 : two2 o o') (hl : ∀ b, (L.set k.val (.val (.int v))).set (k.val + 1) b = L' b) (hn : ∀ b, one1 b = true → Ev G M (pc + 1) (L' b) S h rr) : Ev G M pc L (.int v :: S) h rr := by
  obtain ⟨b, h1, e⟩ := mst_T (v := .int v) ho ho' h2 rfl
  exact Ev.istoreN hd e (by rw [hl]; exact hn b h1)
end
section
variable {G : Ctx} {Ln : Nat → Nat} {K : St → MHeap} {o len : Nat} {r : Nat → Nat} {F : List Fd} {al : List (Nat × Bool)}
theorem View.le (V : View G Ln K o r) (s : St) : k0 G ≤ (K s).length := Nat.le_trans V.1 (Nat.le_of_lt (List.getElem?_eq_some_iff.mp (V.2.1 s)).1)
theorem View.app (V : View G Ln K o r) (X : MHeap) : View G Ln (fun s => K s ++ X) o r := by
  refine ⟨V.1, fun s => ?_, fun s j f z hF ht => ?_, fun j n d t hF => ?_⟩
  · show (K s ++ X)[o]? = _
    rw [List.getElem?_append_left (List.getElem?_eq_some_iff.mp (V.2.1 s)).1]; exact V.2.1 s
  · show (K s ++ X).set o _ = _
    rw [List.set_append_left _ _ (List.getElem?_eq_some_iff.mp (V.2.1 s)).1, V.2.2.1 s j f z hF ht]
  · obtain ⟨q1, q2, q3⟩ := V.2.2.2 j n d t hF
    refine ⟨q1, fun s => ?_, fun s i z hi => ?_⟩
    · show (K s ++ X)[r j]? = _
      rw [List.getElem?_append_left (List.getElem?_eq_some_iff.mp (q2 s)).1]; exact q2 s
    · show (K s ++ X).set (r j) _ = _
      rw [List.set_append_left _ _ (List.getElem?_eq_some_iff.mp (q2 s)).1, q3 s i z hi]
theorem View.app2 (V : View G Ln K o r) (hl : ∀ s, (K s).length = len) (t : St) : View G Ln (fun s => KH F al Ln (K s) [] t) o r := by
  have e : (fun s => KH F al Ln (K s) [] t) = fun s => K s ++ (KO F al Ln len t ++ []) := by
    funext s; unfold KH; rw [hl]
  rw [e]
  exact V.app _
theorem app2_get (V : View G Ln K o r) {s t : St} {c : MCell} (h : (K s)[0]? = some c) : (KH F al Ln (K s) [] t)[0]? = some c := by
  unfold KH
  rw [List.getElem?_append_left (List.getElem?_eq_some_iff.mp h).1]; exact h
end
end Jvm.Own
namespace Jvm.Own
open Sem ClassFile Op Lib Jvm.Stand Jvm.Free Jvm.LawKit Jvm.RoadKit
def toI : Value → Int32
  | .int z => z
  | _ => 0
theorem script_rel {s : State} {a : Nat} {cl : Cell} {args : Array Value} {l : Launch} {C : String} {F : List Fd} {k : Nat} (hf : Fit s) (A : Arr s s.heap a cl .int) :
    ∃ xs : List Int32, xs.length = cl.slots.size ∧ Rel (s, args, l, some a, s.heap.size, C, F, k) s.heap [.inr (false, tab xs.length (fun i => xs.getD i 0))] := by
  have hl : (cl.slots.toList.map toI).length = cl.slots.size := by simp
  refine ⟨cl.slots.toList.map toI, hl, rfl, Nat.le_refl _, fun a' q => by cases q; exact A.lt, fun i c q => ?_⟩
  match i, q with
  | 0, q =>
    cases q
    refine ⟨cl, A, ?_⟩
    rw [← tab_of]
    apply Array.ext'
    apply List.ext_getElem?
    intro j
    simp only [List.map_map, List.getElem?_map]
    cases hj : cl.slots.toList[j]? with
    | none => rfl
    | some v =>
      have hj' : cl.slots[j]? = some v := by simpa using hj
      obtain ⟨hlt, hv⟩ := Array.getElem?_eq_some_iff.mp hj'
      have q := hf A.1 hlt
      obtain ⟨hs, kk, hk, comp, hkind⟩ := A.2.1
      have e : s.slotType? cl.cls cl.vm j = some .int := by
        cases hq : cl.vm <;> first | exact absurd hq (hs _) | simp [State.slotType?, hk, hkind]
      have q2 : fits .int v = true := by rw [hv] at q; simpa [State.fitsSlot, e] using q
      obtain ⟨z, rfl⟩ := fit_I q2 (Or.inl rfl)
      rfl
theorem script_len {s : State} {args : Array Value} {t : Term} {a : Nat} {cl : Cell} (A : Arr s s.heap a cl .int) (ea : t.eval args s none [] s = some (.ref a)) (h1 : (Jvm.Cond.isInt (.length t)).value args s none s [] = some true) (h2 : (Jvm.Cond.le (.length t) (.int 260)).value args s none s [] = some true) : cl.slots.size ≤ 260 := by
  obtain ⟨z, ez⟩ := is_v h1
  have ha := A.fin (Vm.Alike.refl s.vm)
  have hlen : cl.slots.size < 2 ^ 31 := by
    rcases Nat.lt_or_ge cl.slots.size (2 ^ 31) with q | q
    · exact q
    · simp [Term.eval, ea, ha, Nat.not_lt.mpr q] at ez
  have e1 := len_f ea ha hlen
  have q : cl.slots.size.toInt32 ≤ 260 := by
    have := Cond.le_ints e1 (Term.int_eval (260 : Int32)) (args := args) (first := s) (o := none) (s := s) (idx := [])
    exact gotT this h2
  have q2 := Int32.le_iff_toInt_le.mp q
  rw [len_toInt hlen] at q2
  have : (260 : Int32).toInt = 260 := by decide
  omega
end Jvm.Own
namespace Jvm.Own
open Sem ClassFile Op Lib Jvm.Stand Jvm.Free Jvm.LawKit Jvm.RoadKit
def decs (b : ByteArray) : List (Nat × Instr × Nat) → Bool
  | [] => true
  | q :: t => decide (decode b q.1 = .ok (q.2.1, q.2.2)) && decs b t
theorem dget {b : ByteArray} : ∀ {l : List (Nat × Instr × Nat)}, decs b l = true → ∀ {k p : Nat} {i : Instr} {n : Nat}, l[k]? = some (p, i, n) → decode b p = .ok (i, n)
  | [], _, k, _, _, _, hk => by simp at hk
  | q :: t, h, 0, p, i, n, hk => by
    simp only [decs, Bool.and_eq_true, decide_eq_true_eq] at h
    simp only [List.getElem?_cons_zero, Option.some.injEq] at hk
    subst hk
    exact h.1
  | q :: t, h, k + 1, p, i, n, hk => by
    simp only [decs, Bool.and_eq_true] at h
    exact dget h.2 (by simpa using hk)
end Jvm.Own
namespace Jvm.Own
/-! ## 6. Ints of 32 bits and naturals -/
theorem N_toInt {i : Nat} (h : i < 2147483648) : (Int32.ofNat i).toInt = i := Int32.toInt_ofNat_of_lt h
theorem N_lt {i j : Nat} (hi : i < 2147483648) (hj : j < 2147483648) : Int32.ofNat i < Int32.ofNat j ↔ i < j := by
  rw [Int32.lt_iff_toInt_lt, N_toInt hi, N_toInt hj]; omega
theorem N_inj {i j : Nat} (hi : i < 2147483648) (hj : j < 2147483648) : Int32.ofNat i = Int32.ofNat j ↔ i = j := by
  rw [← Int32.toInt_inj, N_toInt hi, N_toInt hj]; omega
theorem N_succ (i : Nat) : Int32.ofNat i + 1 = Int32.ofNat (i + 1) := (Int32.ofNat_add i 1).symm
theorem N_add (i j : Nat) : Int32.ofNat i + Int32.ofNat j = Int32.ofNat (i + j) := (Int32.ofNat_add i j).symm
theorem N_mul (i j : Nat) : Int32.ofNat i * Int32.ofNat j = Int32.ofNat (i * j) := (Int32.ofNat_mul i j).symm
theorem N_neg {i : Nat} (h : i < 2147483648) : ¬ Int32.ofNat i < 0 := by
  rw [Int32.lt_iff_toInt_lt, N_toInt h]; simp
theorem ix_N {i : Nat} (h : i < 2147483648) : ix (Int32.ofNat i) = i := by
  unfold ix Int32.toNatClampNeg; rw [N_toInt h]; simp
theorem inb_N {i n : Nat} (h : i < 2147483648) : inb (Int32.ofNat i) n ↔ i < n := by
  unfold inb; rw [ix_N h]; exact ⟨fun q => q.2, fun q => ⟨N_neg h, q⟩⟩
theorem ix_toInt {x : Int32} (h : ¬ x < 0) : (ix x : Int) = x.toInt := by
  unfold ix Int32.toNatClampNeg
  rw [Int32.lt_iff_toInt_lt] at h
  have : (0 : Int32).toInt = 0 := rfl
  omega
theorem ix_lt (x : Int32) : ix x < 2147483648 := by
  unfold ix Int32.toNatClampNeg
  have := Int32.toInt_lt x
  omega
theorem N_ix {x : Int32} (h : ¬ x < 0) : Int32.ofNat (ix x) = x := by
  rw [← Int32.toInt_inj, N_toInt (ix_lt x), ix_toInt h]
theorem ix_eq {x y : Int32} (hx : ¬ x < 0) (hy : ¬ y < 0) : ix x = ix y ↔ x = y := by
  refine ⟨fun e => ?_, fun e => e ▸ rfl⟩
  rw [← N_ix hx, ← N_ix hy, e]
theorem rng (x : Int32) : -2147483648 ≤ x.toInt ∧ x.toInt < 2147483648 := ⟨Int32.le_toInt x, Int32.toInt_lt x⟩
theorem lt_I {x y : Int32} : x < y ↔ x.toInt < y.toInt := Int32.lt_iff_toInt_lt
theorem le_I {x y : Int32} : x ≤ y ↔ x.toInt ≤ y.toInt := Int32.le_iff_toInt_le
theorem eq_I {x y : Int32} : x = y ↔ x.toInt = y.toInt := Int32.toInt_inj.symm
theorem bmod_eq {x : Int} (h1 : -2147483648 ≤ x) (h2 : x < 2147483648) : x.bmod (2 ^ 32) = x := by
  apply Int.bmod_eq_of_le <;> omega
theorem add_I {x y : Int32} (h1 : -2147483648 ≤ x.toInt + y.toInt) (h2 : x.toInt + y.toInt < 2147483648) : (x + y).toInt = x.toInt + y.toInt := by
  rw [Int32.toInt_add]; exact bmod_eq h1 h2
theorem sub_I {x y : Int32} (h1 : -2147483648 ≤ x.toInt - y.toInt) (h2 : x.toInt - y.toInt < 2147483648) : (x - y).toInt = x.toInt - y.toInt := by
  rw [Int32.toInt_sub]; exact bmod_eq h1 h2
theorem mul_I {x y : Int32} (h1 : -2147483648 ≤ x.toInt * y.toInt) (h2 : x.toInt * y.toInt < 2147483648) : (x * y).toInt = x.toInt * y.toInt := by
  rw [Int32.toInt_mul]; exact bmod_eq h1 h2
theorem inb_I {x : Int32} {n : Nat} (h1 : 0 ≤ x.toInt) (h2 : x.toInt < n) : inb x n := by
  have h : ¬ x < 0 := by rw [lt_I]; have : (0 : Int32).toInt = 0 := rfl; omega
  refine ⟨h, ?_⟩
  have := ix_toInt h
  omega
/-- an int between 0 and n is one of them -/
theorem cases_N {x : Int32} {n : Nat} (hn : n < 2147483648) (h0 : ¬ x < 0) (h1 : x < Int32.ofNat n) : ∃ i, i < n ∧ x = Int32.ofNat i := by
  refine ⟨ix x, ?_, (N_ix h0).symm⟩
  have a := ix_toInt h0
  rw [lt_I, N_toInt hn] at h1
  omega
/-! ## 7. Loops that count from i to N -/
def itr {α : Type} (f : Nat → α → α) : Nat → Nat → α → α
  | _, 0, s => s
  | i, m + 1, s => itr f (i + 1) m (f i s)
theorem loopN {α β : Type} {F : Nat → Int32 → α → Option β} {N : Nat} {f : Nat → α → α} {fin : α → Option β}
    (hF : ∀ k i s, i < N → F (k + 1) (Int32.ofNat i) s = F k (Int32.ofNat i + 1) (f i s)) (hE : ∀ k s, F (k + 1) (Int32.ofNat N) s = fin s) :
    ∀ m i k s, i + m = N → m < k → F k (Int32.ofNat i) s = fin (itr f i m s) := by
  intro m
  induction m with
  | zero =>
    intro i k s hi hk
    obtain ⟨k, rfl⟩ : ∃ k', k = k' + 1 := ⟨k - 1, by omega⟩
    have : i = N := by omega
    subst this
    exact hE k s
  | succ m ih =>
    intro i k s hi hk
    obtain ⟨k, rfl⟩ : ∃ k', k = k' + 1 := ⟨k - 1, by omega⟩
    rw [hF k i s (by omega), N_succ]
    exact ih (i + 1) k _ (by omega) (by omega)
theorem itr_ind {α : Type} {f : Nat → α → α} {P : Nat → α → Prop} {N : Nat} (h : ∀ i s, i < N → P i s → P (i + 1) (f i s)) : ∀ m i s, i + m = N → P i s → P N (itr f i m s) := by
  intro m
  induction m with
  | zero => intro i s hi hp; have : i = N := by omega
            subst this; exact hp
  | succ m ih => intro i s hi hp; exact ih (i + 1) _ (by omega) (h i s (by omega) hp)
theorem itr_pt {f : Nat → St → St} {u : Nat → Int32 → Int32} (h1 : ∀ i s, (f i s).1 = s.1) (h2 : ∀ i s k x, (f i s).2 k x = if x = i then u k (s.2 k x) else s.2 k x) :
    ∀ m i s, itr f i m s = (s.1, fun k x => if i ≤ x ∧ x < i + m then u k (s.2 k x) else s.2 k x) := by
  intro m
  induction m with
  | zero =>
    intro i s
    refine Prod.ext rfl ?_
    funext k x
    have : ¬ (i ≤ x ∧ x < i + 0) := by omega
    simp only [this, if_false]
    rfl
  | succ m ih =>
    intro i s
    show itr f (i + 1) m (f i s) = _
    rw [ih]
    refine Prod.ext (h1 i s) ?_
    funext k x
    simp only [h2]
    by_cases e : x = i
    · subst e
      have a : ¬ (x + 1 ≤ x ∧ x < x + 1 + m) := by omega
      have b : x ≤ x ∧ x < x + (m + 1) := by omega
      simp only [a, b, if_false, if_true, and_self]
    · have : (i + 1 ≤ x ∧ x < i + 1 + m) ↔ (i ≤ x ∧ x < i + (m + 1)) := by omega
      simp only [this, e, if_false]
theorem itr_fill (K : Nat) (z : Int32) (m : Nat) (s : St) : itr (fun i s => setA s K i z) 0 m s = (s.1, fun k x => if k = K ∧ x < m then z else s.2 k x) := by
  rw [itr_pt (f := fun i s => setA s K i z) (u := fun k v => if k = K then z else v) (fun _ _ => rfl) (fun i s j x => by
    simp only [setA_2]
    by_cases e : x = i <;> by_cases e1 : j = K <;> simp [e, e1])]
  refine Prod.ext rfl ?_
  funext k x
  have : (0 ≤ x ∧ x < 0 + m) ↔ x < m := by omega
  simp only [this]
  by_cases e : x < m <;> by_cases e1 : k = K <;> simp [e, e1]
theorem and_rng (x : Int32) {m : Nat} (hm : m < 2147483648) : 0 ≤ (x &&& Int32.ofNat m).toInt ∧ (x &&& Int32.ofNat m).toInt ≤ m := by
  have h1 : (x &&& Int32.ofNat m).toBitVec.toNat ≤ m := by
    rw [Int32.toBitVec_and, BitVec.toNat_and]
    refine Nat.le_trans Nat.and_le_right ?_
    show (BitVec.ofNat 32 m).toNat ≤ m
    rw [BitVec.toNat_ofNat]
    exact Nat.mod_le _ _
  have h2 : (x &&& Int32.ofNat m).toInt = ((x &&& Int32.ofNat m).toBitVec.toNat : Int) := by
    show (x &&& Int32.ofNat m).toBitVec.toInt = _
    exact BitVec.toInt_eq_toNat_of_lt (by omega)
  omega
theorem idx8 {o p : Int32} (h0 : ¬ o < 0) (h3 : ¬ 3 < o) : inb (o * 8 + (p &&& 7)) 32 := by
  have a := and_rng p (m := 7) (by omega)
  rw [show Int32.ofNat 7 = (7 : Int32) from rfl] at a
  rw [lt_I] at h0 h3
  have e0 : (0 : Int32).toInt = 0 := rfl
  have e3 : (3 : Int32).toInt = 3 := rfl
  have e8 : (8 : Int32).toInt = 8 := rfl
  have em : (o * 8).toInt = o.toInt * 8 := by rw [mul_I] <;> rw [e8] <;> omega
  have ea : (o * 8 + (p &&& 7)).toInt = o.toInt * 8 + (p &&& 7).toInt := by rw [add_I] <;> rw [em] <;> omega
  exact inb_I (by omega) (by omega)
theorem idx8' {o p : Int32} (h0 : ¬ o < 0) (h3 : ¬ 3 < o) (g0 : ¬ p < 0) (g7 : ¬ 7 < p) : inb (o * 8 + p) 32 ∧ (o * 8 + p).toInt = o.toInt * 8 + p.toInt := by
  rw [lt_I] at h0 h3 g0 g7
  have e0 : (0 : Int32).toInt = 0 := rfl
  have e3 : (3 : Int32).toInt = 3 := rfl
  have e7 : (7 : Int32).toInt = 7 := rfl
  have e8 : (8 : Int32).toInt = 8 := rfl
  have em : (o * 8).toInt = o.toInt * 8 := by rw [mul_I] <;> rw [e8] <;> omega
  have ea : (o * 8 + p).toInt = o.toInt * 8 + p.toInt := by rw [add_I] <;> rw [em] <;> omega
  exact ⟨inb_I (by omega) (by omega), ea⟩
theorem inb_le {x : Int32} {m : Int32} {n : Nat} (h0 : ¬ x < 0) (h1 : ¬ m < x) (hm : m.toInt < n) : inb x n := by
  rw [lt_I] at h0 h1
  have e0 : (0 : Int32).toInt = 0 := rfl
  exact inb_I (by omega) (by omega)
theorem inb_lt {x : Int32} {m : Int32} {n : Nat} (h0 : ¬ x < 0) (h1 : x < m) (hm : m.toInt ≤ n) : inb x n := by
  rw [lt_I] at h0 h1
  have e0 : (0 : Int32).toInt = 0 := rfl
  exact inb_I (by omega) (by omega)
theorem rem_N {a N : Nat} (ha : a < 2147483648) (hN : N < 2147483648) (h0 : 0 < N) : Int32.ofNat a % Int32.ofNat N = Int32.ofNat (a % N) := by
  have h1 : a % N < N := Nat.mod_lt _ h0
  rw [← Int32.toInt_inj, Int32.toInt_mod, N_toInt ha, N_toInt hN, N_toInt (by omega)]
  rw [Int.tmod_eq_emod_of_nonneg (by omega)]
  rfl
/-- the rule of a loop that counts from i to N: P before each turn; Q of what it gives -/
theorem loopP {α β : Type} {F : Nat → Int32 → α → Option β} {N : Nat} {P : Nat → α → Prop} {Q : β → Prop}
    (hF : ∀ k i s, i < N → P i s → (∃ s', F (k + 1) (Int32.ofNat i) s = F k (Int32.ofNat i + 1) s' ∧ P (i + 1) s') ∨ ∃ r, F (k + 1) (Int32.ofNat i) s = some r ∧ Q r)
    (hE : ∀ k s, P N s → ∃ r, F (k + 1) (Int32.ofNat N) s = some r ∧ Q r) :
    ∀ m i k s, i + m = N → m < k → P i s → ∃ r, F k (Int32.ofNat i) s = some r ∧ Q r := by
  intro m
  induction m with
  | zero =>
    intro i k s hi hk hp
    obtain ⟨k, rfl⟩ : ∃ k', k = k' + 1 := ⟨k - 1, by omega⟩
    have : i = N := by omega
    subst this
    exact hE k s hp
  | succ m ih =>
    intro i k s hi hk hp
    obtain ⟨k, rfl⟩ : ∃ k', k = k' + 1 := ⟨k - 1, by omega⟩
    rcases hF k i s (by omega) hp with ⟨s', e, hp'⟩ | h
    · rw [e, N_succ]
      exact ih (i + 1) k s' (by omega) (by omega) hp'
    · exact h
theorem ltN {i j : Nat} (h : i < j) (hj : j < 2147483648) : Int32.ofNat i < Int32.ofNat j := (N_lt (by omega) hj).mpr h
theorem ltZ {i : Nat} {z : Int32} (N : Nat) (hz : Int32.ofNat N = z) (h : i < N) (hN : N < 2147483648) : Int32.ofNat i < z := hz ▸ ltN h hN
theorem nltN {i : Nat} (hi : i < 2147483648) : ¬ Int32.ofNat i < Int32.ofNat i := fun q => by rw [N_lt hi hi] at q; omega
theorem inbN {i n : Nat} (h : i < n) (hi : i < 2147483648) : inb (Int32.ofNat i) n := (inb_N hi).mpr h
def own_cl (a lo hi : Int32) : Int32 := if a < lo then lo else if hi < a then hi else a
theorem own_cl_rng {a lo hi : Int32} (h : ¬ hi < lo) : lo.toInt ≤ (own_cl a lo hi).toInt ∧ (own_cl a lo hi).toInt ≤ hi.toInt := by
  unfold own_cl
  rw [lt_I] at h
  split
  · omega
  · rename_i q; rw [lt_I] at q
    split
    · omega
    · rename_i q2; rw [lt_I] at q2; omega
theorem own_nat {x : Int32} {lo hi : Nat} (h1 : (lo : Int) ≤ x.toInt) (h2 : x.toInt ≤ hi) : ∃ N : Nat, x = Int32.ofNat N ∧ lo ≤ N ∧ N ≤ hi := by
  have := rng x
  refine ⟨x.toInt.toNat, ?_, by omega, by omega⟩
  rw [← Int32.toInt_inj, N_toInt (by omega)]; omega
theorem own_clN (a : Int32) {lo hi : Nat} (h : lo ≤ hi) (hi' : hi < 2147483648) : ∃ N : Nat, own_cl a (Int32.ofNat lo) (Int32.ofNat hi) = Int32.ofNat N ∧ lo ≤ N ∧ N ≤ hi := by
  have q := own_cl_rng (a := a) (lo := Int32.ofNat lo) (hi := Int32.ofNat hi) (fun q => by rw [N_lt (by omega) (by omega)] at q; omega)
  rw [N_toInt (by omega), N_toInt (by omega)] at q
  exact own_nat q.1 q.2
end Jvm.Own
namespace Jvm.Pilot.@@N@@
open Jvm Jvm.ClassFile Sem Op Lib Jvm.Free Jvm.Stand Jvm.LawKit Jvm.RoadKit Bundle Jvm.Pilot.@@N@@.Jvm.D Jvm.Own
/-! ### the class and its words (printed by a program of this repo) -/
abbrev GT := State × Array Value × Launch × Option Addr × Nat
def flds : List Fd := [("heap", "[I", FieldType.array FieldType.int), ("mark", "[Z", FieldType.array FieldType.boolean), ("state", "[I", FieldType.array FieldType.int), ("addr", "[I", FieldType.array FieldType.int), ("size", "[I", FieldType.array FieldType.int), ("stamp", "[I", FieldType.array FieldType.int), ("order", "[I", FieldType.array FieldType.int), ("locked", "[Z", FieldType.array FieldType.boolean), ("purg", "[Z", FieldType.array FieldType.boolean), ("hw", "I", FieldType.int), ("nh", "I", FieldType.int), ("clock", "I", FieldType.int)]
def GG (g : GT) : Ctx := (g.1, g.2.1, g.2.2.1, g.2.2.2.1, g.2.2.2.2, "HandleHeap", flds, 12)
def HW (g : GT) : Prop := ∀ d ∈ tables_1, d.before g.2.1 g.1 = true
def al : List (Nat × Bool) := [(0, false), (1, true), (2, false), (3, false), (4, false), (5, false), (6, false), (7, true), (8, true)]
def Ln (j : Nat) : Nat := [256, 256, 32, 32, 32, 32, 32, 32, 32, 0, 0, 0].getD j 0
def dfl : List Value := [.null, .null, .null, .null, .null, .null, .null, .null, .null, .int 0, .int 0, .int 0]
theorem ww {g : GT} (hw : HW g) (k : Nat) {d : Jvm.Cond} (h : tables_1[k]? = some d) : d.before (gA (GG g)) (gZ (GG g)) = true := hw _ (List.mem_of_getElem? h)
theorem fld_nd : (flds.map (·.1)).Nodup := by decide +kernel
theorem al_ok : alOk flds al = true := by decide +kernel
theorem al_nd : (al.map (·.1)).Nodup := by decide +kernel
theorem gok {g : GT} (hw : HW g) : GOk (GG g) := gok_of ⟨⟨Or.inl (ww hw 15 rfl), by decide⟩, ⟨Or.inl (ww hw 18 rfl), by decide⟩, ⟨Or.inl (ww hw 20 rfl), by decide⟩, ⟨Or.inl (ww hw 22 rfl), by decide⟩, ⟨Or.inl (ww hw 24 rfl), by decide⟩, ⟨Or.inl (ww hw 26 rfl), by decide⟩, ⟨Or.inl (ww hw 28 rfl), by decide⟩, ⟨Or.inl (ww hw 30 rfl), by decide⟩, ⟨Or.inl (ww hw 32 rfl), by decide⟩, ⟨Or.inl (ww hw 34 rfl), by decide⟩, ⟨Or.inl (ww hw 36 rfl), by decide⟩, ⟨Or.inl (ww hw 38 rfl), by decide⟩, trivial⟩ fld_nd (ww hw 5 rfl) (ww hw 6 rfl)
theorem pcls : plainName "HandleHeap" = true := by first | (simp [plainName, overriddenIn]; done) | decide +kernel
theorem pclsL : plainName "HandleHeapOwnLaw" = true := by first | (simp [plainName, overriddenIn]; done) | decide +kernel
theorem nmh : "HandleHeap" ≠ "java/lang/invoke/MethodHandle" ∧ "HandleHeap" ≠ "java/lang/invoke/VarHandle" := by decide
theorem nmhL : "HandleHeapOwnLaw" ≠ "java/lang/invoke/MethodHandle" ∧ "HandleHeapOwnLaw" ≠ "java/lang/invoke/VarHandle" := by decide
def M_hcell : Mi := ((⟨"HandleHeapOwnLaw", "cell", "([II)I"⟩ : MethodName), method_2_code, 2, (some .int), 0, 0)
theorem pl_hcell : plainFor (mN M_hcell) = true := plainFor_of_name pclsL
theorem nm_hcell : notMH M_hcell := nmhL
theorem pd_hcell : parseMethodDescriptor (mN M_hcell).desc = some ⟨[.array .int, .int], some .int⟩ := by decide +kernel
def M_clearHandle : Mi := ((⟨"HandleHeap", "clearHandle", "(I)V"⟩ : MethodName), prog_1_method_21_code, 2, none, 0, 0)
theorem pl_clearHandle : plainFor (mN M_clearHandle) = true := plainFor_of_name pcls
theorem nm_clearHandle : notMH M_clearHandle := nmh
theorem pd_clearHandle : parseMethodDescriptor (mN M_clearHandle).desc = some ⟨[.int], none⟩ := by decide +kernel
def M_ctor : Mi := ((⟨"HandleHeap", "<init>", "(II)V"⟩ : MethodName), prog_1_method_1_code, 6, none, 1, 13)
theorem pl_ctor : plainFor (mN M_ctor) = true := plainFor_of_name pcls
theorem nm_ctor : notMH M_ctor := nmh
theorem pd_ctor : parseMethodDescriptor (mN M_ctor).desc = some ⟨[.int, .int], none⟩ := by decide +kernel
def M_valid : Mi := ((⟨"HandleHeap", "valid", "(I)Z"⟩ : MethodName), prog_1_method_18_code, 2, (some .boolean), 0, 0)
theorem pl_valid : plainFor (mN M_valid) = true := plainFor_of_name pcls
theorem nm_valid : notMH M_valid := nmh
theorem pd_valid : parseMethodDescriptor (mN M_valid).desc = some ⟨[.int], some .boolean⟩ := by decide +kernel
def M_getState : Mi := ((⟨"HandleHeap", "getState", "(I)I"⟩ : MethodName), prog_1_method_12_code, 2, (some .int), 1, 13)
theorem pl_getState : plainFor (mN M_getState) = true := plainFor_of_name pcls
theorem nm_getState : notMH M_getState := nmh
theorem pd_getState : parseMethodDescriptor (mN M_getState).desc = some ⟨[.int], some .int⟩ := by decide +kernel
def M_getFlags : Mi := ((⟨"HandleHeap", "getFlags", "(I)I"⟩ : MethodName), prog_1_method_15_code, 3, (some .int), 1, 13)
theorem pl_getFlags : plainFor (mN M_getFlags) = true := plainFor_of_name pcls
theorem nm_getFlags : notMH M_getFlags := nmh
theorem pd_getFlags : parseMethodDescriptor (mN M_getFlags).desc = some ⟨[.int], some .int⟩ := by decide +kernel
def M_getAddress : Mi := ((⟨"HandleHeap", "getAddress", "(I)I"⟩ : MethodName), prog_1_method_14_code, 2, (some .int), 1, 13)
theorem pl_getAddress : plainFor (mN M_getAddress) = true := plainFor_of_name pcls
theorem nm_getAddress : notMH M_getAddress := nmh
theorem pd_getAddress : parseMethodDescriptor (mN M_getAddress).desc = some ⟨[.int], some .int⟩ := by decide +kernel
def M_hpick : Mi := ((⟨"HandleHeapOwnLaw", "pick", "(IIIII)I"⟩ : MethodName), method_3_code, 5, (some .int), 0, 0)
theorem pl_hpick : plainFor (mN M_hpick) = true := plainFor_of_name pclsL
theorem nm_hpick : notMH M_hpick := nmhL
theorem pd_hpick : parseMethodDescriptor (mN M_hpick).desc = some ⟨[.int, .int, .int, .int, .int], some .int⟩ := by decide +kernel
def M_getSize : Mi := ((⟨"HandleHeap", "getSize", "(I)I"⟩ : MethodName), prog_1_method_13_code, 2, (some .int), 1, 13)
theorem pl_getSize : plainFor (mN M_getSize) = true := plainFor_of_name pcls
theorem nm_getSize : notMH M_getSize := nmh
theorem pd_getSize : parseMethodDescriptor (mN M_getSize).desc = some ⟨[.int], some .int⟩ := by decide +kernel
def M_clearMark : Mi := ((⟨"HandleHeap", "clearMark", "()V"⟩ : MethodName), prog_1_method_27_code, 2, none, 0, 0)
theorem pl_clearMark : plainFor (mN M_clearMark) = true := plainFor_of_name pcls
theorem nm_clearMark : notMH M_clearMark := nmh
theorem pd_clearMark : parseMethodDescriptor (mN M_clearMark).desc = some ⟨[], none⟩ := by decide +kernel
def M_markBlock : Mi := ((⟨"HandleHeap", "markBlock", "(I)V"⟩ : MethodName), prog_1_method_28_code, 6, none, 0, 0)
theorem pl_markBlock : plainFor (mN M_markBlock) = true := plainFor_of_name pcls
theorem nm_markBlock : notMH M_markBlock := nmh
theorem pd_markBlock : parseMethodDescriptor (mN M_markBlock).desc = some ⟨[.int], none⟩ := by decide +kernel
def M_markLive : Mi := ((⟨"HandleHeap", "markLive", "()V"⟩ : MethodName), prog_1_method_29_code, 2, none, 1, 17)
theorem pl_markLive : plainFor (mN M_markLive) = true := plainFor_of_name pcls
theorem nm_markLive : notMH M_markLive := nmh
theorem pd_markLive : parseMethodDescriptor (mN M_markLive).desc = some ⟨[], none⟩ := by decide +kernel
def M_firstRun : Mi := ((⟨"HandleHeap", "firstRun", "(I)I"⟩ : MethodName), prog_1_method_30_code, 4, (some .int), 0, 0)
theorem pl_firstRun : plainFor (mN M_firstRun) = true := plainFor_of_name pcls
theorem nm_firstRun : notMH M_firstRun := nmh
theorem pd_firstRun : parseMethodDescriptor (mN M_firstRun).desc = some ⟨[.int], some .int⟩ := by decide +kernel
def M_fit : Mi := ((⟨"HandleHeap", "fit", "(I)I"⟩ : MethodName), prog_1_method_31_code, 2, (some .int), 2, 30)
theorem pl_fit : plainFor (mN M_fit) = true := plainFor_of_name pcls
theorem nm_fit : notMH M_fit := nmh
theorem pd_fit : parseMethodDescriptor (mN M_fit).desc = some ⟨[.int], some .int⟩ := by decide +kernel
def M_sortOrder : Mi := ((⟨"HandleHeap", "sortOrder", "(I)V"⟩ : MethodName), prog_1_method_34_code, 6, none, 0, 0)
theorem pl_sortOrder : plainFor (mN M_sortOrder) = true := plainFor_of_name pcls
theorem nm_sortOrder : notMH M_sortOrder := nmh
theorem pd_sortOrder : parseMethodDescriptor (mN M_sortOrder).desc = some ⟨[.int], none⟩ := by decide +kernel
def M_copyOne : Mi := ((⟨"HandleHeap", "copyOne", "(II)V"⟩ : MethodName), prog_1_method_26_code, 3, none, 0, 0)
theorem pl_copyOne : plainFor (mN M_copyOne) = true := plainFor_of_name pcls
theorem nm_copyOne : notMH M_copyOne := nmh
theorem pd_copyOne : parseMethodDescriptor (mN M_copyOne).desc = some ⟨[.int, .int], none⟩ := by decide +kernel
def M_copyWords : Mi := ((⟨"HandleHeap", "copyWords", "(III)V"⟩ : MethodName), prog_1_method_25_code, 5, none, 1, 14)
theorem pl_copyWords : plainFor (mN M_copyWords) = true := plainFor_of_name pcls
theorem nm_copyWords : notMH M_copyWords := nmh
theorem pd_copyWords : parseMethodDescriptor (mN M_copyWords).desc = some ⟨[.int, .int, .int], none⟩ := by decide +kernel
def M_moveBlock : Mi := ((⟨"HandleHeap", "moveBlock", "(I)V"⟩ : MethodName), prog_1_method_35_code, 4, none, 2, 30)
theorem pl_moveBlock : plainFor (mN M_moveBlock) = true := plainFor_of_name pcls
theorem nm_moveBlock : notMH M_moveBlock := nmh
theorem pd_moveBlock : parseMethodDescriptor (mN M_moveBlock).desc = some ⟨[.int], none⟩ := by decide +kernel
def M_compactRun : Mi := ((⟨"HandleHeap", "compactRun", "(I)V"⟩ : MethodName), prog_1_method_33_code, 4, none, 3, 45)
theorem pl_compactRun : plainFor (mN M_compactRun) = true := plainFor_of_name pcls
theorem nm_compactRun : notMH M_compactRun := nmh
theorem pd_compactRun : parseMethodDescriptor (mN M_compactRun).desc = some ⟨[.int], none⟩ := by decide +kernel
def M_victim : Mi := ((⟨"HandleHeap", "victim", "(I)I"⟩ : MethodName), prog_1_method_36_code, 4, (some .int), 0, 0)
theorem pl_victim : plainFor (mN M_victim) = true := plainFor_of_name pcls
theorem nm_victim : notMH M_victim := nmh
theorem pd_victim : parseMethodDescriptor (mN M_victim).desc = some ⟨[.int], some .int⟩ := by decide +kernel
def M_purge : Mi := ((⟨"HandleHeap", "purge", "(I)V"⟩ : MethodName), prog_1_method_22_code, 2, none, 0, 0)
theorem pl_purge : plainFor (mN M_purge) = true := plainFor_of_name pcls
theorem nm_purge : notMH M_purge := nmh
theorem pd_purge : parseMethodDescriptor (mN M_purge).desc = some ⟨[.int], none⟩ := by decide +kernel
def M_alloc : Mi := ((⟨"HandleHeap", "alloc", "(II)I"⟩ : MethodName), prog_1_method_37_code, 6, (some .int), 4, 60)
theorem pl_alloc : plainFor (mN M_alloc) = true := plainFor_of_name pcls
theorem nm_alloc : notMH M_alloc := nmh
theorem pd_alloc : parseMethodDescriptor (mN M_alloc).desc = some ⟨[.int, .int], some .int⟩ := by decide +kernel
def M_zeroWords : Mi := ((⟨"HandleHeap", "zeroWords", "(II)V"⟩ : MethodName), prog_1_method_24_code, 5, none, 0, 0)
theorem pl_zeroWords : plainFor (mN M_zeroWords) = true := plainFor_of_name pcls
theorem nm_zeroWords : notMH M_zeroWords := nmh
theorem pd_zeroWords : parseMethodDescriptor (mN M_zeroWords).desc = some ⟨[.int, .int], none⟩ := by decide +kernel
def M_touch : Mi := ((⟨"HandleHeap", "touch", "(I)V"⟩ : MethodName), prog_1_method_20_code, 2, none, 0, 0)
theorem pl_touch : plainFor (mN M_touch) = true := plainFor_of_name pcls
theorem nm_touch : notMH M_touch := nmh
theorem pd_touch : parseMethodDescriptor (mN M_touch).desc = some ⟨[.int], none⟩ := by decide +kernel
def M_establish : Mi := ((⟨"HandleHeap", "establish", "(III)V"⟩ : MethodName), prog_1_method_23_code, 4, none, 1, 16)
theorem pl_establish : plainFor (mN M_establish) = true := plainFor_of_name pcls
theorem nm_establish : notMH M_establish := nmh
theorem pd_establish : parseMethodDescriptor (mN M_establish).desc = some ⟨[.int, .int, .int], none⟩ := by decide +kernel
def M_newHandle : Mi := ((⟨"HandleHeap", "newHandle", "(I)I"⟩ : MethodName), prog_1_method_2_code, 4, (some .int), 5, 77)
theorem pl_newHandle : plainFor (mN M_newHandle) = true := plainFor_of_name pcls
theorem nm_newHandle : notMH M_newHandle := nmh
theorem pd_newHandle : parseMethodDescriptor (mN M_newHandle).desc = some ⟨[.int], some .int⟩ := by decide +kernel
def M_hmix : Mi := ((⟨"HandleHeapOwnLaw", "mix", "(II)I"⟩ : MethodName), method_4_code, 2, (some .int), 0, 0)
theorem pl_hmix : plainFor (mN M_hmix) = true := plainFor_of_name pclsL
theorem nm_hmix : notMH M_hmix := nmhL
theorem pd_hmix : parseMethodDescriptor (mN M_hmix).desc = some ⟨[.int, .int], some .int⟩ := by decide +kernel
def M_check : Mi := ((⟨"HandleHeap", "check", "(I)I"⟩ : MethodName), prog_1_method_19_code, 2, (some .int), 1, 13)
theorem pl_check : plainFor (mN M_check) = true := plainFor_of_name pcls
theorem nm_check : notMH M_check := nmh
theorem pd_check : parseMethodDescriptor (mN M_check).desc = some ⟨[.int], some .int⟩ := by decide +kernel
def M_write : Mi := ((⟨"HandleHeap", "write", "(III)I"⟩ : MethodName), prog_1_method_10_code, 6, (some .int), 2, 26)
theorem pl_write : plainFor (mN M_write) = true := plainFor_of_name pcls
theorem nm_write : notMH M_write := nmh
theorem pd_write : parseMethodDescriptor (mN M_write).desc = some ⟨[.int, .int, .int], some .int⟩ := by decide +kernel
def M_rangeFree : Mi := ((⟨"HandleHeap", "rangeFree", "(II)Z"⟩ : MethodName), prog_1_method_32_code, 4, (some .boolean), 2, 30)
theorem pl_rangeFree : plainFor (mN M_rangeFree) = true := plainFor_of_name pcls
theorem nm_rangeFree : notMH M_rangeFree := nmh
theorem pd_rangeFree : parseMethodDescriptor (mN M_rangeFree).desc = some ⟨[.int, .int], some .boolean⟩ := by decide +kernel
def M_setSize : Mi := ((⟨"HandleHeap", "setSize", "(II)I"⟩ : MethodName), prog_1_method_4_code, 8, (some .int), 5, 77)
theorem pl_setSize : plainFor (mN M_setSize) = true := plainFor_of_name pcls
theorem nm_setSize : notMH M_setSize := nmh
theorem pd_setSize : parseMethodDescriptor (mN M_setSize).desc = some ⟨[.int, .int], some .int⟩ := by decide +kernel
def M_read : Mi := ((⟨"HandleHeap", "read", "(II)I"⟩ : MethodName), prog_1_method_9_code, 4, (some .int), 1, 13)
theorem pl_read : plainFor (mN M_read) = true := plainFor_of_name pcls
theorem nm_read : notMH M_read := nmh
theorem pd_read : parseMethodDescriptor (mN M_read).desc = some ⟨[.int, .int], some .int⟩ := by decide +kernel
def M_hexpect : Mi := ((⟨"HandleHeapOwnLaw", "expect", "(II)I"⟩ : MethodName), method_5_code, 3, (some .int), 1, 13)
theorem pl_hexpect : plainFor (mN M_hexpect) = true := plainFor_of_name pclsL
theorem nm_hexpect : notMH M_hexpect := nmhL
theorem pd_hexpect : parseMethodDescriptor (mN M_hexpect).desc = some ⟨[.int, .int], some .int⟩ := by decide +kernel
def M_lock : Mi := ((⟨"HandleHeap", "lock", "(I)I"⟩ : MethodName), prog_1_method_6_code, 3, (some .int), 2, 26)
theorem pl_lock : plainFor (mN M_lock) = true := plainFor_of_name pcls
theorem nm_lock : notMH M_lock := nmh
theorem pd_lock : parseMethodDescriptor (mN M_lock).desc = some ⟨[.int], some .int⟩ := by decide +kernel
def M_unlock : Mi := ((⟨"HandleHeap", "unlock", "(I)I"⟩ : MethodName), prog_1_method_7_code, 3, (some .int), 2, 26)
theorem pl_unlock : plainFor (mN M_unlock) = true := plainFor_of_name pcls
theorem nm_unlock : notMH M_unlock := nmh
theorem pd_unlock : parseMethodDescriptor (mN M_unlock).desc = some ⟨[.int], some .int⟩ := by decide +kernel
def M_setPurgeable : Mi := ((⟨"HandleHeap", "setPurgeable", "(IZ)I"⟩ : MethodName), prog_1_method_8_code, 4, (some .int), 2, 26)
theorem pl_setPurgeable : plainFor (mN M_setPurgeable) = true := plainFor_of_name pcls
theorem nm_setPurgeable : notMH M_setPurgeable := nmh
theorem pd_setPurgeable : parseMethodDescriptor (mN M_setPurgeable).desc = some ⟨[.int, .boolean], some .int⟩ := by decide +kernel
def M_dispose : Mi := ((⟨"HandleHeap", "dispose", "(I)I"⟩ : MethodName), prog_1_method_3_code, 2, (some .int), 1, 13)
theorem pl_dispose : plainFor (mN M_dispose) = true := plainFor_of_name pcls
theorem nm_dispose : notMH M_dispose := nmh
theorem pd_dispose : parseMethodDescriptor (mN M_dispose).desc = some ⟨[.int], some .int⟩ := by decide +kernel
def M_reallocHandle : Mi := ((⟨"HandleHeap", "reallocHandle", "(II)I"⟩ : MethodName), prog_1_method_5_code, 4, (some .int), 5, 77)
theorem pl_reallocHandle : plainFor (mN M_reallocHandle) = true := plainFor_of_name pcls
theorem nm_reallocHandle : notMH M_reallocHandle := nmh
theorem pd_reallocHandle : parseMethodDescriptor (mN M_reallocHandle).desc = some ⟨[.int, .int], some .int⟩ := by decide +kernel
def M_largestFree : Mi := ((⟨"HandleHeap", "largestFree", "()I"⟩ : MethodName), prog_1_method_17_code, 4, (some .int), 2, 30)
theorem pl_largestFree : plainFor (mN M_largestFree) = true := plainFor_of_name pcls
theorem nm_largestFree : notMH M_largestFree := nmh
theorem pd_largestFree : parseMethodDescriptor (mN M_largestFree).desc = some ⟨[], some .int⟩ := by decide +kernel
def M_compact : Mi := ((⟨"HandleHeap", "compact", "()I"⟩ : MethodName), prog_1_method_11_code, 1, (some .int), 4, 60)
theorem pl_compact : plainFor (mN M_compact) = true := plainFor_of_name pcls
theorem nm_compact : notMH M_compact := nmh
theorem pd_compact : parseMethodDescriptor (mN M_compact).desc = some ⟨[], some .int⟩ := by decide +kernel
def M_law : Mi := (x, code, maxLocals, ret, 6, 96)
theorem pl_law : plainFor (mN M_law) = true := plainFor_of_name (by first | (simp [plainName, overriddenIn, x]; done) | decide +kernel)
def c0 : List (Nat × Instr × Nat) := [(0, .iload_n 1, 1), (1, .aload_n 0, 1), (2, .arraylength, 1), (3, .if_icmp .ge 9, 3), (6, .aload_n 0, 1), (7, .iload_n 1, 1), (8, .iaload, 1), (9, .goto 4, 3), (12, .iconst 0, 1), (13, .ireturn, 1)]
theorem D0 : decs method_2_code c0 = true := by decide +kernel
theorem d0 (k : Nat) {p : Nat} {i : Instr} {n : Nat} (h : c0[k]? = some (p, i, n)) : decode method_2_code p = .ok (i, n) := dget D0 h
def c3 : List (Nat × Instr × Nat) := [(0, .aload_n 0, 1), (1, .getfield 17, 3), (4, .iload_n 1, 1), (5, .iconst 0, 1), (6, .iastore, 1), (7, .aload_n 0, 1), (8, .getfield 20, 3), (11, .iload_n 1, 1), (12, .iconst (-1), 1), (13, .iastore, 1), (14, .aload_n 0, 1), (15, .getfield 23, 3), (18, .iload_n 1, 1), (19, .iconst 0, 1), (20, .iastore, 1), (21, .aload_n 0, 1), (22, .getfield 32, 3), (25, .iload_n 1, 1), (26, .iconst 0, 1), (27, .bastore, 1), (28, .aload_n 0, 1), (29, .getfield 35, 3), (32, .iload_n 1, 1), (33, .iconst 0, 1), (34, .bastore, 1), (35, .return_, 1)]
theorem D3 : decs prog_1_method_21_code c3 = true := by decide +kernel
theorem d3 (k : Nat) {p : Nat} {i : Instr} {n : Nat} (h : c3[k]? = some (p, i, n)) : decode prog_1_method_21_code p = .ok (i, n) := dget D3 h
def c1 : List (Nat × Instr × Nat) := [(0, .aload_n 0, 1), (1, .invokespecial 1, 3), (4, .aload_n 0, 1), (5, .sipush 256, 3), (8, .newarray .int, 2), (10, .putfield 7, 3), (13, .aload_n 0, 1), (14, .sipush 256, 3), (17, .newarray .boolean, 2), (19, .putfield 13, 3), (22, .aload_n 0, 1), (23, .bipush 32, 2), (25, .newarray .int, 2), (27, .putfield 17, 3), (30, .aload_n 0, 1), (31, .bipush 32, 2), (33, .newarray .int, 2), (35, .putfield 20, 3), (38, .aload_n 0, 1), (39, .bipush 32, 2), (41, .newarray .int, 2), (43, .putfield 23, 3), (46, .aload_n 0, 1), (47, .bipush 32, 2), (49, .newarray .int, 2), (51, .putfield 26, 3), (54, .aload_n 0, 1), (55, .bipush 32, 2), (57, .newarray .int, 2), (59, .putfield 29, 3), (62, .aload_n 0, 1), (63, .bipush 32, 2), (65, .newarray .boolean, 2), (67, .putfield 32, 3), (70, .aload_n 0, 1), (71, .bipush 32, 2), (73, .newarray .boolean, 2), (75, .putfield 35, 3), (78, .iload_n 1, 1), (79, .istore_n 3, 1), (80, .iload_n 3, 1), (81, .bipush 8, 2), (83, .if_icmp .ge 6, 3), (86, .bipush 8, 2), (88, .istore_n 3, 1), (89, .iload_n 3, 1), (90, .sipush 256, 3), (93, .if_icmp .le 7, 3), (96, .sipush 256, 3), (99, .istore_n 3, 1), (100, .iload_n 2, 1), (101, .istore 4, 2), (103, .iload 4, 2), (105, .iconst 2, 1), (106, .if_icmp .ge 6, 3), (109, .iconst 2, 1), (110, .istore 4, 2), (112, .iload 4, 2), (114, .bipush 32, 2), (116, .if_icmp .le 7, 3), (119, .bipush 32, 2), (121, .istore 4, 2), (123, .aload_n 0, 1), (124, .iload_n 3, 1), (125, .putfield 38, 3), (128, .aload_n 0, 1), (129, .iload 4, 2), (131, .putfield 42, 3), (134, .aload_n 0, 1), (135, .iconst 0, 1), (136, .putfield 45, 3), (139, .iconst 0, 1), (140, .istore 5, 2), (142, .iload 5, 2), (144, .bipush 32, 2), (146, .if_icmp .ge 15, 3), (149, .aload_n 0, 1), (150, .iload 5, 2), (152, .invokevirtual 48, 3), (155, .iinc 5 1, 3), (158, .goto (-16), 3), (161, .return_, 1)]
theorem D1 : decs prog_1_method_1_code c1 = true := by decide +kernel
theorem d1 (k : Nat) {p : Nat} {i : Instr} {n : Nat} (h : c1[k]? = some (p, i, n)) : decode prog_1_method_1_code p = .ok (i, n) := dget D1 h
def c5 : List (Nat × Instr × Nat) := [(0, .iload_n 1, 1), (1, .ifCond .lt 15, 3), (4, .iload_n 1, 1), (5, .aload_n 0, 1), (6, .getfield 42, 3), (9, .if_icmp .ge 7, 3), (12, .iconst 1, 1), (13, .goto 4, 3), (16, .iconst 0, 1), (17, .ireturn, 1)]
theorem D5 : decs prog_1_method_18_code c5 = true := by decide +kernel
theorem d5 (k : Nat) {p : Nat} {i : Instr} {n : Nat} (h : c5[k]? = some (p, i, n)) : decode prog_1_method_18_code p = .ok (i, n) := dget D5 h
def c4 : List (Nat × Instr × Nat) := [(0, .aload_n 0, 1), (1, .iload_n 1, 1), (2, .invokevirtual 60, 3), (5, .ifCond .ne 5, 3), (8, .iconst (-1), 1), (9, .ireturn, 1), (10, .aload_n 0, 1), (11, .getfield 17, 3), (14, .iload_n 1, 1), (15, .iaload, 1), (16, .ireturn, 1)]
theorem D4 : decs prog_1_method_12_code c4 = true := by decide +kernel
theorem d4 (k : Nat) {p : Nat} {i : Instr} {n : Nat} (h : c4[k]? = some (p, i, n)) : decode prog_1_method_12_code p = .ok (i, n) := dget D4 h
def c20 : List (Nat × Instr × Nat) := [(0, .aload_n 0, 1), (1, .iload_n 1, 1), (2, .invokevirtual 60, 3), (5, .ifCond .eq 13, 3), (8, .aload_n 0, 1), (9, .getfield 17, 3), (12, .iload_n 1, 1), (13, .iaload, 1), (14, .iconst 1, 1), (15, .if_icmp .eq 5, 3), (18, .iconst 0, 1), (19, .ireturn, 1), (20, .iconst 0, 1), (21, .istore_n 2, 1), (22, .aload_n 0, 1), (23, .getfield 32, 3), (26, .iload_n 1, 1), (27, .baload, 1), (28, .ifCond .eq 7, 3), (31, .iload_n 2, 1), (32, .iconst 1, 1), (33, .iadd, 1), (34, .istore_n 2, 1), (35, .aload_n 0, 1), (36, .getfield 35, 3), (39, .iload_n 1, 1), (40, .baload, 1), (41, .ifCond .eq 7, 3), (44, .iload_n 2, 1), (45, .iconst 2, 1), (46, .iadd, 1), (47, .istore_n 2, 1), (48, .iload_n 2, 1), (49, .ireturn, 1)]
theorem D20 : decs prog_1_method_15_code c20 = true := by decide +kernel
theorem d20 (k : Nat) {p : Nat} {i : Instr} {n : Nat} (h : c20[k]? = some (p, i, n)) : decode prog_1_method_15_code p = .ok (i, n) := dget D20 h
def c19 : List (Nat × Instr × Nat) := [(0, .aload_n 0, 1), (1, .iload_n 1, 1), (2, .invokevirtual 60, 3), (5, .ifCond .eq 13, 3), (8, .aload_n 0, 1), (9, .getfield 17, 3), (12, .iload_n 1, 1), (13, .iaload, 1), (14, .iconst 1, 1), (15, .if_icmp .eq 5, 3), (18, .iconst (-1), 1), (19, .ireturn, 1), (20, .aload_n 0, 1), (21, .getfield 20, 3), (24, .iload_n 1, 1), (25, .iaload, 1), (26, .ireturn, 1)]
theorem D19 : decs prog_1_method_14_code c19 = true := by decide +kernel
theorem d19 (k : Nat) {p : Nat} {i : Instr} {n : Nat} (h : c19[k]? = some (p, i, n)) : decode prog_1_method_14_code p = .ok (i, n) := dget D19 h
def c6 : List (Nat × Instr × Nat) := [(0, .iload_n 0, 1), (1, .ifCond .ne 7, 3), (4, .iload_n 1, 1), (5, .goto 23, 3), (8, .iload_n 0, 1), (9, .iconst 1, 1), (10, .if_icmp .ne 7, 3), (13, .iload_n 2, 1), (14, .goto 14, 3), (17, .iload_n 0, 1), (18, .iconst 2, 1), (19, .if_icmp .ne 7, 3), (22, .iload_n 3, 1), (23, .goto 5, 3), (26, .iload 4, 2), (28, .ireturn, 1)]
theorem D6 : decs method_3_code c6 = true := by decide +kernel
theorem d6 (k : Nat) {p : Nat} {i : Instr} {n : Nat} (h : c6[k]? = some (p, i, n)) : decode method_3_code p = .ok (i, n) := dget D6 h
def c7 : List (Nat × Instr × Nat) := [(0, .aload_n 0, 1), (1, .iload_n 1, 1), (2, .invokevirtual 60, 3), (5, .ifCond .eq 13, 3), (8, .aload_n 0, 1), (9, .getfield 17, 3), (12, .iload_n 1, 1), (13, .iaload, 1), (14, .iconst 1, 1), (15, .if_icmp .eq 5, 3), (18, .iconst 0, 1), (19, .ireturn, 1), (20, .aload_n 0, 1), (21, .getfield 23, 3), (24, .iload_n 1, 1), (25, .iaload, 1), (26, .ireturn, 1)]
theorem D7 : decs prog_1_method_13_code c7 = true := by decide +kernel
theorem d7 (k : Nat) {p : Nat} {i : Instr} {n : Nat} (h : c7[k]? = some (p, i, n)) : decode prog_1_method_13_code p = .ok (i, n) := dget D7 h
def c14 : List (Nat × Instr × Nat) := [(0, .iconst 0, 1), (1, .istore_n 1, 1), (2, .iload_n 1, 1), (3, .sipush 256, 3), (6, .if_icmp .ge 16, 3), (9, .aload_n 0, 1), (10, .getfield 13, 3), (13, .iload_n 1, 1), (14, .iconst 0, 1), (15, .bastore, 1), (16, .iinc 1 1, 3), (19, .goto (-17), 3), (22, .return_, 1)]
theorem D14 : decs prog_1_method_27_code c14 = true := by decide +kernel
theorem d14 (k : Nat) {p : Nat} {i : Instr} {n : Nat} (h : c14[k]? = some (p, i, n)) : decode prog_1_method_27_code p = .ok (i, n) := dget D14 h
def c21 : List (Nat × Instr × Nat) := [(0, .aload_n 0, 1), (1, .getfield 20, 3), (4, .iload_n 1, 1), (5, .iaload, 1), (6, .istore_n 2, 1), (7, .aload_n 0, 1), (8, .getfield 23, 3), (11, .iload_n 1, 1), (12, .iaload, 1), (13, .istore_n 3, 1), (14, .iconst 0, 1), (15, .istore 4, 2), (17, .iload 4, 2), (19, .iload_n 3, 1), (20, .if_icmp .ge 36, 3), (23, .iload_n 2, 1), (24, .iload 4, 2), (26, .iadd, 1), (27, .istore 5, 2), (29, .iload 5, 2), (31, .ifCond .lt 19, 3), (34, .iload 5, 2), (36, .sipush 256, 3), (39, .if_icmp .ge 11, 3), (42, .aload_n 0, 1), (43, .getfield 13, 3), (46, .iload 5, 2), (48, .iconst 1, 1), (49, .bastore, 1), (50, .iinc 4 1, 3), (53, .goto (-36), 3), (56, .return_, 1)]
theorem D21 : decs prog_1_method_28_code c21 = true := by decide +kernel
theorem d21 (k : Nat) {p : Nat} {i : Instr} {n : Nat} (h : c21[k]? = some (p, i, n)) : decode prog_1_method_28_code p = .ok (i, n) := dget D21 h
def c13 : List (Nat × Instr × Nat) := [(0, .aload_n 0, 1), (1, .invokevirtual 95, 3), (4, .iconst 0, 1), (5, .istore_n 1, 1), (6, .iload_n 1, 1), (7, .aload_n 0, 1), (8, .getfield 42, 3), (11, .if_icmp .ge 24, 3), (14, .aload_n 0, 1), (15, .getfield 17, 3), (18, .iload_n 1, 1), (19, .iaload, 1), (20, .iconst 1, 1), (21, .if_icmp .ne 8, 3), (24, .aload_n 0, 1), (25, .iload_n 1, 1), (26, .invokevirtual 98, 3), (29, .iinc 1 1, 3), (32, .goto (-26), 3), (35, .return_, 1)]
theorem D13 : decs prog_1_method_29_code c13 = true := by decide +kernel
theorem d13 (k : Nat) {p : Nat} {i : Instr} {n : Nat} (h : c13[k]? = some (p, i, n)) : decode prog_1_method_29_code p = .ok (i, n) := dget D13 h
def c15 : List (Nat × Instr × Nat) := [(0, .iconst 0, 1), (1, .istore_n 2, 1), (2, .iconst 0, 1), (3, .istore_n 3, 1), (4, .iload_n 3, 1), (5, .aload_n 0, 1), (6, .getfield 38, 3), (9, .if_icmp .ge 37, 3), (12, .aload_n 0, 1), (13, .getfield 13, 3), (16, .iload_n 3, 1), (17, .baload, 1), (18, .ifCond .eq 8, 3), (21, .iconst 0, 1), (22, .istore_n 2, 1), (23, .goto 17, 3), (26, .iinc 2 1, 3), (29, .iload_n 2, 1), (30, .iload_n 1, 1), (31, .if_icmp .lt 9, 3), (34, .iload_n 3, 1), (35, .iload_n 1, 1), (36, .isub, 1), (37, .iconst 1, 1), (38, .iadd, 1), (39, .ireturn, 1), (40, .iinc 3 1, 3), (43, .goto (-39), 3), (46, .iconst (-1), 1), (47, .ireturn, 1)]
theorem D15 : decs prog_1_method_30_code c15 = true := by decide +kernel
theorem d15 (k : Nat) {p : Nat} {i : Instr} {n : Nat} (h : c15[k]? = some (p, i, n)) : decode prog_1_method_30_code p = .ok (i, n) := dget D15 h
def c12 : List (Nat × Instr × Nat) := [(0, .aload_n 0, 1), (1, .invokevirtual 89, 3), (4, .aload_n 0, 1), (5, .iload_n 1, 1), (6, .invokevirtual 101, 3), (9, .ireturn, 1)]
theorem D12 : decs prog_1_method_31_code c12 = true := by decide +kernel
theorem d12 (k : Nat) {p : Nat} {i : Instr} {n : Nat} (h : c12[k]? = some (p, i, n)) : decode prog_1_method_31_code p = .ok (i, n) := dget D12 h
def c33 : List (Nat × Instr × Nat) := [(0, .iconst 1, 1), (1, .istore_n 2, 1), (2, .iload_n 2, 1), (3, .iload_n 1, 1), (4, .if_icmp .ge 77, 3), (7, .iload_n 2, 1), (8, .istore_n 3, 1), (9, .iload_n 3, 1), (10, .ifCond .le 65, 3), (13, .aload_n 0, 1), (14, .getfield 29, 3), (17, .iload_n 3, 1), (18, .iconst 1, 1), (19, .isub, 1), (20, .iaload, 1), (21, .istore 4, 2), (23, .aload_n 0, 1), (24, .getfield 29, 3), (27, .iload_n 3, 1), (28, .iaload, 1), (29, .istore 5, 2), (31, .aload_n 0, 1), (32, .getfield 20, 3), (35, .iload 4, 2), (37, .iaload, 1), (38, .aload_n 0, 1), (39, .getfield 20, 3), (42, .iload 5, 2), (44, .iaload, 1), (45, .if_icmp .gt 6, 3), (48, .goto 27, 3), (51, .aload_n 0, 1), (52, .getfield 29, 3), (55, .iload_n 3, 1), (56, .iconst 1, 1), (57, .isub, 1), (58, .iload 5, 2), (60, .iastore, 1), (61, .aload_n 0, 1), (62, .getfield 29, 3), (65, .iload_n 3, 1), (66, .iload 4, 2), (68, .iastore, 1), (69, .iinc 3 (-1), 3), (72, .goto (-63), 3), (75, .iinc 2 1, 3), (78, .goto (-76), 3), (81, .return_, 1)]
theorem D33 : decs prog_1_method_34_code c33 = true := by decide +kernel
theorem d33 (k : Nat) {p : Nat} {i : Instr} {n : Nat} (h : c33[k]? = some (p, i, n)) : decode prog_1_method_34_code p = .ok (i, n) := dget D33 h
def c26 : List (Nat × Instr × Nat) := [(0, .iload_n 1, 1), (1, .ifCond .lt 33, 3), (4, .iload_n 1, 1), (5, .sipush 256, 3), (8, .if_icmp .ge 26, 3), (11, .iload_n 2, 1), (12, .ifCond .lt 22, 3), (15, .iload_n 2, 1), (16, .sipush 256, 3), (19, .if_icmp .ge 15, 3), (22, .aload_n 0, 1), (23, .getfield 7, 3), (26, .iload_n 2, 1), (27, .aload_n 0, 1), (28, .getfield 7, 3), (31, .iload_n 1, 1), (32, .iaload, 1), (33, .iastore, 1), (34, .return_, 1)]
theorem D26 : decs prog_1_method_26_code c26 = true := by decide +kernel
theorem d26 (k : Nat) {p : Nat} {i : Instr} {n : Nat} (h : c26[k]? = some (p, i, n)) : decode prog_1_method_26_code p = .ok (i, n) := dget D26 h
def c25 : List (Nat × Instr × Nat) := [(0, .iload_n 2, 1), (1, .iload_n 1, 1), (2, .if_icmp .gt 33, 3), (5, .iconst 0, 1), (6, .istore 4, 2), (8, .iload 4, 2), (10, .iload_n 3, 1), (11, .if_icmp .ge 21, 3), (14, .aload_n 0, 1), (15, .iload_n 1, 1), (16, .iload 4, 2), (18, .iadd, 1), (19, .iload_n 2, 1), (20, .iload 4, 2), (22, .iadd, 1), (23, .invokevirtual 92, 3), (26, .iinc 4 1, 3), (29, .goto (-21), 3), (32, .goto 31, 3), (35, .iload_n 3, 1), (36, .iconst 1, 1), (37, .isub, 1), (38, .istore 4, 2), (40, .iload 4, 2), (42, .ifCond .lt 21, 3), (45, .aload_n 0, 1), (46, .iload_n 1, 1), (47, .iload 4, 2), (49, .iadd, 1), (50, .iload_n 2, 1), (51, .iload 4, 2), (53, .iadd, 1), (54, .invokevirtual 92, 3), (57, .iinc 4 (-1), 3), (60, .goto (-20), 3), (63, .return_, 1)]
theorem D25 : decs prog_1_method_25_code c25 = true := by decide +kernel
theorem d25 (k : Nat) {p : Nat} {i : Instr} {n : Nat} (h : c25[k]? = some (p, i, n)) : decode prog_1_method_25_code p = .ok (i, n) := dget D25 h
def c34 : List (Nat × Instr × Nat) := [(0, .aload_n 0, 1), (1, .getfield 23, 3), (4, .iload_n 1, 1), (5, .iaload, 1), (6, .istore_n 2, 1), (7, .aload_n 0, 1), (8, .iload_n 2, 1), (9, .invokevirtual 101, 3), (12, .istore_n 3, 1), (13, .iload_n 3, 1), (14, .ifCond .lt 13, 3), (17, .iload_n 3, 1), (18, .aload_n 0, 1), (19, .getfield 20, 3), (22, .iload_n 1, 1), (23, .iaload, 1), (24, .if_icmp .le 10, 3), (27, .aload_n 0, 1), (28, .getfield 20, 3), (31, .iload_n 1, 1), (32, .iaload, 1), (33, .istore_n 3, 1), (34, .aload_n 0, 1), (35, .aload_n 0, 1), (36, .getfield 20, 3), (39, .iload_n 1, 1), (40, .iaload, 1), (41, .iload_n 3, 1), (42, .iload_n 2, 1), (43, .invokevirtual 79, 3), (46, .aload_n 0, 1), (47, .getfield 20, 3), (50, .iload_n 1, 1), (51, .iload_n 3, 1), (52, .iastore, 1), (53, .aload_n 0, 1), (54, .iload_n 1, 1), (55, .invokevirtual 98, 3), (58, .return_, 1)]
theorem D34 : decs prog_1_method_35_code c34 = true := by decide +kernel
theorem d34 (k : Nat) {p : Nat} {i : Instr} {n : Nat} (h : c34[k]? = some (p, i, n)) : decode prog_1_method_35_code p = .ok (i, n) := dget D34 h
def c32 : List (Nat × Instr × Nat) := [(0, .aload_n 0, 1), (1, .invokevirtual 95, 3), (4, .iconst 0, 1), (5, .istore_n 2, 1), (6, .iconst 0, 1), (7, .istore_n 3, 1), (8, .iload_n 3, 1), (9, .aload_n 0, 1), (10, .getfield 42, 3), (13, .if_icmp .ge 51, 3), (16, .aload_n 0, 1), (17, .getfield 17, 3), (20, .iload_n 3, 1), (21, .iaload, 1), (22, .iconst 1, 1), (23, .if_icmp .ne 35, 3), (26, .aload_n 0, 1), (27, .getfield 32, 3), (30, .iload_n 3, 1), (31, .baload, 1), (32, .ifCond .ne 8, 3), (35, .iload_n 3, 1), (36, .iload_n 1, 1), (37, .if_icmp .ne 11, 3), (40, .aload_n 0, 1), (41, .iload_n 3, 1), (42, .invokevirtual 98, 3), (45, .goto 13, 3), (48, .aload_n 0, 1), (49, .getfield 29, 3), (52, .iload_n 2, 1), (53, .iload_n 3, 1), (54, .iastore, 1), (55, .iinc 2 1, 3), (58, .iinc 3 1, 3), (61, .goto (-53), 3), (64, .aload_n 0, 1), (65, .iload_n 2, 1), (66, .invokevirtual 104, 3), (69, .iconst 0, 1), (70, .istore_n 3, 1), (71, .iload_n 3, 1), (72, .iload_n 2, 1), (73, .if_icmp .ge 19, 3), (76, .aload_n 0, 1), (77, .aload_n 0, 1), (78, .getfield 29, 3), (81, .iload_n 3, 1), (82, .iaload, 1), (83, .invokevirtual 107, 3), (86, .iinc 3 1, 3), (89, .goto (-18), 3), (92, .return_, 1)]
theorem D32 : decs prog_1_method_33_code c32 = true := by decide +kernel
theorem d32 (k : Nat) {p : Nat} {i : Instr} {n : Nat} (h : c32[k]? = some (p, i, n)) : decode prog_1_method_33_code p = .ok (i, n) := dget D32 h
def c39 : List (Nat × Instr × Nat) := [(0, .iconst (-1), 1), (1, .istore_n 2, 1), (2, .iconst 0, 1), (3, .istore_n 3, 1), (4, .iload_n 3, 1), (5, .aload_n 0, 1), (6, .getfield 42, 3), (9, .if_icmp .ge 63, 3), (12, .aload_n 0, 1), (13, .getfield 17, 3), (16, .iload_n 3, 1), (17, .iaload, 1), (18, .iconst 1, 1), (19, .if_icmp .ne 47, 3), (22, .iload_n 3, 1), (23, .iload_n 1, 1), (24, .if_icmp .eq 42, 3), (27, .aload_n 0, 1), (28, .getfield 35, 3), (31, .iload_n 3, 1), (32, .baload, 1), (33, .ifCond .eq 33, 3), (36, .aload_n 0, 1), (37, .getfield 32, 3), (40, .iload_n 3, 1), (41, .baload, 1), (42, .ifCond .ne 24, 3), (45, .iload_n 2, 1), (46, .ifCond .lt 18, 3), (49, .aload_n 0, 1), (50, .getfield 26, 3), (53, .iload_n 3, 1), (54, .iaload, 1), (55, .aload_n 0, 1), (56, .getfield 26, 3), (59, .iload_n 2, 1), (60, .iaload, 1), (61, .if_icmp .ge 5, 3), (64, .iload_n 3, 1), (65, .istore_n 2, 1), (66, .iinc 3 1, 3), (69, .goto (-65), 3), (72, .iload_n 2, 1), (73, .ireturn, 1)]
theorem D39 : decs prog_1_method_36_code c39 = true := by decide +kernel
theorem d39 (k : Nat) {p : Nat} {i : Instr} {n : Nat} (h : c39[k]? = some (p, i, n)) : decode prog_1_method_36_code p = .ok (i, n) := dget D39 h
def c40 : List (Nat × Instr × Nat) := [(0, .aload_n 0, 1), (1, .getfield 17, 3), (4, .iload_n 1, 1), (5, .iconst 2, 1), (6, .iastore, 1), (7, .aload_n 0, 1), (8, .getfield 20, 3), (11, .iload_n 1, 1), (12, .iconst (-1), 1), (13, .iastore, 1), (14, .aload_n 0, 1), (15, .getfield 23, 3), (18, .iload_n 1, 1), (19, .iconst 0, 1), (20, .iastore, 1), (21, .aload_n 0, 1), (22, .getfield 32, 3), (25, .iload_n 1, 1), (26, .iconst 0, 1), (27, .bastore, 1), (28, .aload_n 0, 1), (29, .getfield 35, 3), (32, .iload_n 1, 1), (33, .iconst 0, 1), (34, .bastore, 1), (35, .return_, 1)]
theorem D40 : decs prog_1_method_22_code c40 = true := by decide +kernel
theorem d40 (k : Nat) {p : Nat} {i : Instr} {n : Nat} (h : c40[k]? = some (p, i, n)) : decode prog_1_method_22_code p = .ok (i, n) := dget D40 h
def c11 : List (Nat × Instr × Nat) := [(0, .aload_n 0, 1), (1, .iload_n 1, 1), (2, .invokevirtual 110, 3), (5, .istore_n 3, 1), (6, .iload_n 3, 1), (7, .ifCond .lt 5, 3), (10, .iload_n 3, 1), (11, .ireturn, 1), (12, .aload_n 0, 1), (13, .iload_n 2, 1), (14, .invokevirtual 82, 3), (17, .aload_n 0, 1), (18, .iload_n 1, 1), (19, .invokevirtual 110, 3), (22, .istore_n 3, 1), (23, .iload_n 3, 1), (24, .ifCond .lt 5, 3), (27, .iload_n 3, 1), (28, .ireturn, 1), (29, .iconst 0, 1), (30, .istore 4, 2), (32, .iload 4, 2), (34, .bipush 32, 2), (36, .if_icmp .gt 46, 3), (39, .aload_n 0, 1), (40, .iload_n 2, 1), (41, .invokevirtual 113, 3), (44, .istore 5, 2), (46, .iload 5, 2), (48, .ifCond .ge 5, 3), (51, .iconst (-1), 1), (52, .ireturn, 1), (53, .aload_n 0, 1), (54, .iload 5, 2), (56, .invokevirtual 116, 3), (59, .aload_n 0, 1), (60, .iload_n 2, 1), (61, .invokevirtual 82, 3), (64, .aload_n 0, 1), (65, .iload_n 1, 1), (66, .invokevirtual 110, 3), (69, .istore_n 3, 1), (70, .iload_n 3, 1), (71, .ifCond .lt 5, 3), (74, .iload_n 3, 1), (75, .ireturn, 1), (76, .iinc 4 1, 3), (79, .goto (-47), 3), (82, .iconst (-1), 1), (83, .ireturn, 1)]
theorem D11 : decs prog_1_method_37_code c11 = true := by decide +kernel
theorem d11 (k : Nat) {p : Nat} {i : Instr} {n : Nat} (h : c11[k]? = some (p, i, n)) : decode prog_1_method_37_code p = .ok (i, n) := dget D11 h
def c17 : List (Nat × Instr × Nat) := [(0, .iconst 0, 1), (1, .istore_n 3, 1), (2, .iload_n 3, 1), (3, .iload_n 2, 1), (4, .if_icmp .ge 35, 3), (7, .iload_n 1, 1), (8, .iload_n 3, 1), (9, .iadd, 1), (10, .istore 4, 2), (12, .iload 4, 2), (14, .ifCond .lt 19, 3), (17, .iload 4, 2), (19, .sipush 256, 3), (22, .if_icmp .ge 11, 3), (25, .aload_n 0, 1), (26, .getfield 7, 3), (29, .iload 4, 2), (31, .iconst 0, 1), (32, .iastore, 1), (33, .iinc 3 1, 3), (36, .goto (-34), 3), (39, .return_, 1)]
theorem D17 : decs prog_1_method_24_code c17 = true := by decide +kernel
theorem d17 (k : Nat) {p : Nat} {i : Instr} {n : Nat} (h : c17[k]? = some (p, i, n)) : decode prog_1_method_24_code p = .ok (i, n) := dget D17 h
def c18 : List (Nat × Instr × Nat) := [(0, .aload_n 0, 1), (1, .aload_n 0, 1), (2, .getfield 45, 3), (5, .iconst 1, 1), (6, .iadd, 1), (7, .putfield 45, 3), (10, .aload_n 0, 1), (11, .getfield 26, 3), (14, .iload_n 1, 1), (15, .aload_n 0, 1), (16, .getfield 45, 3), (19, .iastore, 1), (20, .return_, 1)]
theorem D18 : decs prog_1_method_20_code c18 = true := by decide +kernel
theorem d18 (k : Nat) {p : Nat} {i : Instr} {n : Nat} (h : c18[k]? = some (p, i, n)) : decode prog_1_method_20_code p = .ok (i, n) := dget D18 h
def c16 : List (Nat × Instr × Nat) := [(0, .aload_n 0, 1), (1, .getfield 17, 3), (4, .iload_n 1, 1), (5, .iconst 1, 1), (6, .iastore, 1), (7, .aload_n 0, 1), (8, .getfield 20, 3), (11, .iload_n 1, 1), (12, .iload_n 2, 1), (13, .iastore, 1), (14, .aload_n 0, 1), (15, .getfield 23, 3), (18, .iload_n 1, 1), (19, .iload_n 3, 1), (20, .iastore, 1), (21, .aload_n 0, 1), (22, .getfield 32, 3), (25, .iload_n 1, 1), (26, .iconst 0, 1), (27, .bastore, 1), (28, .aload_n 0, 1), (29, .getfield 35, 3), (32, .iload_n 1, 1), (33, .iconst 0, 1), (34, .bastore, 1), (35, .aload_n 0, 1), (36, .iload_n 2, 1), (37, .iload_n 3, 1), (38, .invokevirtual 75, 3), (41, .aload_n 0, 1), (42, .iload_n 1, 1), (43, .invokevirtual 68, 3), (46, .return_, 1)]
theorem D16 : decs prog_1_method_23_code c16 = true := by decide +kernel
theorem d16 (k : Nat) {p : Nat} {i : Instr} {n : Nat} (h : c16[k]? = some (p, i, n)) : decode prog_1_method_23_code p = .ok (i, n) := dget D16 h
def c10 : List (Nat × Instr × Nat) := [(0, .iload_n 1, 1), (1, .iconst 1, 1), (2, .if_icmp .lt 11, 3), (5, .iload_n 1, 1), (6, .aload_n 0, 1), (7, .getfield 38, 3), (10, .if_icmp .le 6, 3), (13, .bipush (-2), 2), (15, .ireturn, 1), (16, .iconst (-1), 1), (17, .istore_n 2, 1), (18, .iconst 0, 1), (19, .istore_n 3, 1), (20, .iload_n 3, 1), (21, .aload_n 0, 1), (22, .getfield 42, 3), (25, .if_icmp .ge 23, 3), (28, .aload_n 0, 1), (29, .getfield 17, 3), (32, .iload_n 3, 1), (33, .iaload, 1), (34, .ifCond .ne 8, 3), (37, .iload_n 3, 1), (38, .istore_n 2, 1), (39, .goto 9, 3), (42, .iinc 3 1, 3), (45, .goto (-25), 3), (48, .iload_n 2, 1), (49, .ifCond .ge 6, 3), (52, .bipush (-7), 2), (54, .ireturn, 1), (55, .aload_n 0, 1), (56, .iload_n 1, 1), (57, .iconst (-1), 1), (58, .invokevirtual 52, 3), (61, .istore_n 3, 1), (62, .iload_n 3, 1), (63, .ifCond .ge 6, 3), (66, .bipush (-6), 2), (68, .ireturn, 1), (69, .aload_n 0, 1), (70, .iload_n 2, 1), (71, .iload_n 3, 1), (72, .iload_n 1, 1), (73, .invokevirtual 56, 3), (76, .iload_n 2, 1), (77, .ireturn, 1)]
theorem D10 : decs prog_1_method_2_code c10 = true := by decide +kernel
theorem d10 (k : Nat) {p : Nat} {i : Instr} {n : Nat} (h : c10[k]? = some (p, i, n)) : decode prog_1_method_2_code p = .ok (i, n) := dget D10 h
def c22 : List (Nat × Instr × Nat) := [(0, .iload_n 0, 1), (1, .sipush 7919, 3), (4, .imul, 1), (5, .iload_n 1, 1), (6, .ldc 7, 2), (8, .imul, 1), (9, .iadd, 1), (10, .bipush 13, 2), (12, .iadd, 1), (13, .ireturn, 1)]
theorem D22 : decs method_4_code c22 = true := by decide +kernel
theorem d22 (k : Nat) {p : Nat} {i : Instr} {n : Nat} (h : c22[k]? = some (p, i, n)) : decode method_4_code p = .ok (i, n) := dget D22 h
def c9 : List (Nat × Instr × Nat) := [(0, .aload_n 0, 1), (1, .iload_n 1, 1), (2, .invokevirtual 60, 3), (5, .ifCond .eq 12, 3), (8, .aload_n 0, 1), (9, .getfield 17, 3), (12, .iload_n 1, 1), (13, .iaload, 1), (14, .ifCond .ne 5, 3), (17, .iconst (-1), 1), (18, .ireturn, 1), (19, .aload_n 0, 1), (20, .getfield 17, 3), (23, .iload_n 1, 1), (24, .iaload, 1), (25, .iconst 2, 1), (26, .if_icmp .ne 6, 3), (29, .bipush (-4), 2), (31, .ireturn, 1), (32, .iconst 0, 1), (33, .ireturn, 1)]
theorem D9 : decs prog_1_method_19_code c9 = true := by decide +kernel
theorem d9 (k : Nat) {p : Nat} {i : Instr} {n : Nat} (h : c9[k]? = some (p, i, n)) : decode prog_1_method_19_code p = .ok (i, n) := dget D9 h
def c23 : List (Nat × Instr × Nat) := [(0, .aload_n 0, 1), (1, .iload_n 1, 1), (2, .invokevirtual 64, 3), (5, .istore 4, 2), (7, .iload 4, 2), (9, .ifCond .eq 6, 3), (12, .iload 4, 2), (14, .ireturn, 1), (15, .iload_n 2, 1), (16, .ifCond .lt 13, 3), (19, .iload_n 2, 1), (20, .aload_n 0, 1), (21, .getfield 23, 3), (24, .iload_n 1, 1), (25, .iaload, 1), (26, .if_icmp .lt 6, 3), (29, .bipush (-3), 2), (31, .ireturn, 1), (32, .aload_n 0, 1), (33, .getfield 20, 3), (36, .iload_n 1, 1), (37, .iaload, 1), (38, .iload_n 2, 1), (39, .iadd, 1), (40, .istore 5, 2), (42, .iload 5, 2), (44, .ifCond .lt 19, 3), (47, .iload 5, 2), (49, .sipush 256, 3), (52, .if_icmp .ge 11, 3), (55, .aload_n 0, 1), (56, .getfield 7, 3), (59, .iload 5, 2), (61, .iload_n 3, 1), (62, .iastore, 1), (63, .aload_n 0, 1), (64, .iload_n 1, 1), (65, .invokevirtual 68, 3), (68, .iconst 0, 1), (69, .ireturn, 1)]
theorem D23 : decs prog_1_method_10_code c23 = true := by decide +kernel
theorem d23 (k : Nat) {p : Nat} {i : Instr} {n : Nat} (h : c23[k]? = some (p, i, n)) : decode prog_1_method_10_code p = .ok (i, n) := dget D23 h
def c24 : List (Nat × Instr × Nat) := [(0, .aload_n 0, 1), (1, .invokevirtual 89, 3), (4, .iload_n 1, 1), (5, .istore_n 3, 1), (6, .iload_n 3, 1), (7, .iload_n 2, 1), (8, .if_icmp .ge 31, 3), (11, .iload_n 3, 1), (12, .ifCond .lt 19, 3), (15, .iload_n 3, 1), (16, .sipush 256, 3), (19, .if_icmp .ge 12, 3), (22, .aload_n 0, 1), (23, .getfield 13, 3), (26, .iload_n 3, 1), (27, .baload, 1), (28, .ifCond .eq 5, 3), (31, .iconst 0, 1), (32, .ireturn, 1), (33, .iinc 3 1, 3), (36, .goto (-30), 3), (39, .iconst 1, 1), (40, .ireturn, 1)]
theorem D24 : decs prog_1_method_32_code c24 = true := by decide +kernel
theorem d24 (k : Nat) {p : Nat} {i : Instr} {n : Nat} (h : c24[k]? = some (p, i, n)) : decode prog_1_method_32_code p = .ok (i, n) := dget D24 h
def c8 : List (Nat × Instr × Nat) := [(0, .aload_n 0, 1), (1, .iload_n 1, 1), (2, .invokevirtual 64, 3), (5, .istore_n 3, 1), (6, .iload_n 3, 1), (7, .ifCond .eq 5, 3), (10, .iload_n 3, 1), (11, .ireturn, 1), (12, .iload_n 2, 1), (13, .iconst 1, 1), (14, .if_icmp .lt 11, 3), (17, .iload_n 2, 1), (18, .aload_n 0, 1), (19, .getfield 38, 3), (22, .if_icmp .le 6, 3), (25, .bipush (-2), 2), (27, .ireturn, 1), (28, .aload_n 0, 1), (29, .getfield 20, 3), (32, .iload_n 1, 1), (33, .iaload, 1), (34, .istore 4, 2), (36, .aload_n 0, 1), (37, .getfield 23, 3), (40, .iload_n 1, 1), (41, .iaload, 1), (42, .istore 5, 2), (44, .iload_n 2, 1), (45, .iload 5, 2), (47, .if_icmp .gt 17, 3), (50, .aload_n 0, 1), (51, .getfield 23, 3), (54, .iload_n 1, 1), (55, .iload_n 2, 1), (56, .iastore, 1), (57, .aload_n 0, 1), (58, .iload_n 1, 1), (59, .invokevirtual 68, 3), (62, .iconst 0, 1), (63, .ireturn, 1), (64, .iload 4, 2), (66, .iload_n 2, 1), (67, .iadd, 1), (68, .aload_n 0, 1), (69, .getfield 38, 3), (72, .if_icmp .gt 46, 3), (75, .aload_n 0, 1), (76, .iload 4, 2), (78, .iload 5, 2), (80, .iadd, 1), (81, .iload 4, 2), (83, .iload_n 2, 1), (84, .iadd, 1), (85, .invokevirtual 71, 3), (88, .ifCond .eq 30, 3), (91, .aload_n 0, 1), (92, .iload 4, 2), (94, .iload 5, 2), (96, .iadd, 1), (97, .iload_n 2, 1), (98, .iload 5, 2), (100, .isub, 1), (101, .invokevirtual 75, 3), (104, .aload_n 0, 1), (105, .getfield 23, 3), (108, .iload_n 1, 1), (109, .iload_n 2, 1), (110, .iastore, 1), (111, .aload_n 0, 1), (112, .iload_n 1, 1), (113, .invokevirtual 68, 3), (116, .iconst 0, 1), (117, .ireturn, 1), (118, .aload_n 0, 1), (119, .getfield 32, 3), (122, .iload_n 1, 1), (123, .baload, 1), (124, .ifCond .eq 6, 3), (127, .bipush (-5), 2), (129, .ireturn, 1), (130, .aload_n 0, 1), (131, .iload_n 2, 1), (132, .iload_n 1, 1), (133, .invokevirtual 52, 3), (136, .istore 6, 2), (138, .iload 6, 2), (140, .ifCond .ge 6, 3), (143, .bipush (-6), 2), (145, .ireturn, 1), (146, .aload_n 0, 1), (147, .getfield 20, 3), (150, .iload_n 1, 1), (151, .iaload, 1), (152, .istore 7, 2), (154, .aload_n 0, 1), (155, .iload 7, 2), (157, .iload 6, 2), (159, .iload 5, 2), (161, .invokevirtual 79, 3), (164, .aload_n 0, 1), (165, .iload 6, 2), (167, .iload 5, 2), (169, .iadd, 1), (170, .iload_n 2, 1), (171, .iload 5, 2), (173, .isub, 1), (174, .invokevirtual 75, 3), (177, .aload_n 0, 1), (178, .getfield 20, 3), (181, .iload_n 1, 1), (182, .iload 6, 2), (184, .iastore, 1), (185, .aload_n 0, 1), (186, .getfield 23, 3), (189, .iload_n 1, 1), (190, .iload_n 2, 1), (191, .iastore, 1), (192, .aload_n 0, 1), (193, .iload_n 1, 1), (194, .invokevirtual 68, 3), (197, .iconst 0, 1), (198, .ireturn, 1)]
theorem D8 : decs prog_1_method_4_code c8 = true := by decide +kernel
theorem d8 (k : Nat) {p : Nat} {i : Instr} {n : Nat} (h : c8[k]? = some (p, i, n)) : decode prog_1_method_4_code p = .ok (i, n) := dget D8 h
def c27 : List (Nat × Instr × Nat) := [(0, .aload_n 0, 1), (1, .iload_n 1, 1), (2, .invokevirtual 60, 3), (5, .ifCond .eq 13, 3), (8, .aload_n 0, 1), (9, .getfield 17, 3), (12, .iload_n 1, 1), (13, .iaload, 1), (14, .iconst 1, 1), (15, .if_icmp .eq 5, 3), (18, .iconst 0, 1), (19, .ireturn, 1), (20, .iload_n 2, 1), (21, .ifCond .lt 13, 3), (24, .iload_n 2, 1), (25, .aload_n 0, 1), (26, .getfield 23, 3), (29, .iload_n 1, 1), (30, .iaload, 1), (31, .if_icmp .lt 5, 3), (34, .iconst 0, 1), (35, .ireturn, 1), (36, .aload_n 0, 1), (37, .getfield 20, 3), (40, .iload_n 1, 1), (41, .iaload, 1), (42, .iload_n 2, 1), (43, .iadd, 1), (44, .istore_n 3, 1), (45, .iload_n 3, 1), (46, .ifCond .lt 10, 3), (49, .iload_n 3, 1), (50, .sipush 256, 3), (53, .if_icmp .lt 5, 3), (56, .iconst 0, 1), (57, .ireturn, 1), (58, .aload_n 0, 1), (59, .iload_n 1, 1), (60, .invokevirtual 68, 3), (63, .aload_n 0, 1), (64, .getfield 7, 3), (67, .iload_n 3, 1), (68, .iaload, 1), (69, .ireturn, 1)]
theorem D27 : decs prog_1_method_9_code c27 = true := by decide +kernel
theorem d27 (k : Nat) {p : Nat} {i : Instr} {n : Nat} (h : c27[k]? = some (p, i, n)) : decode prog_1_method_9_code p = .ok (i, n) := dget D27 h
def c28 : List (Nat × Instr × Nat) := [(0, .iload_n 0, 1), (1, .sipush 511, 3), (4, .iand, 1), (5, .istore_n 2, 1), (6, .iload_n 1, 1), (7, .iload_n 2, 1), (8, .if_icmp .ge 14, 3), (11, .iload_n 0, 1), (12, .bipush 9, 2), (14, .ishr, 1), (15, .iload_n 1, 1), (16, .invokestatic 8, 3), (19, .goto 4, 3), (22, .iconst 0, 1), (23, .ireturn, 1)]
theorem D28 : decs method_5_code c28 = true := by decide +kernel
theorem d28 (k : Nat) {p : Nat} {i : Instr} {n : Nat} (h : c28[k]? = some (p, i, n)) : decode method_5_code p = .ok (i, n) := dget D28 h
def c37 : List (Nat × Instr × Nat) := [(0, .aload_n 0, 1), (1, .iload_n 1, 1), (2, .invokevirtual 64, 3), (5, .istore_n 2, 1), (6, .iload_n 2, 1), (7, .ifCond .eq 5, 3), (10, .iload_n 2, 1), (11, .ireturn, 1), (12, .aload_n 0, 1), (13, .getfield 32, 3), (16, .iload_n 1, 1), (17, .iconst 1, 1), (18, .bastore, 1), (19, .iconst 0, 1), (20, .ireturn, 1)]
theorem D37 : decs prog_1_method_6_code c37 = true := by decide +kernel
theorem d37 (k : Nat) {p : Nat} {i : Instr} {n : Nat} (h : c37[k]? = some (p, i, n)) : decode prog_1_method_6_code p = .ok (i, n) := dget D37 h
def c30 : List (Nat × Instr × Nat) := [(0, .aload_n 0, 1), (1, .iload_n 1, 1), (2, .invokevirtual 64, 3), (5, .istore_n 2, 1), (6, .iload_n 2, 1), (7, .ifCond .eq 5, 3), (10, .iload_n 2, 1), (11, .ireturn, 1), (12, .aload_n 0, 1), (13, .getfield 32, 3), (16, .iload_n 1, 1), (17, .iconst 0, 1), (18, .bastore, 1), (19, .iconst 0, 1), (20, .ireturn, 1)]
theorem D30 : decs prog_1_method_7_code c30 = true := by decide +kernel
theorem d30 (k : Nat) {p : Nat} {i : Instr} {n : Nat} (h : c30[k]? = some (p, i, n)) : decode prog_1_method_7_code p = .ok (i, n) := dget D30 h
def c29 : List (Nat × Instr × Nat) := [(0, .aload_n 0, 1), (1, .iload_n 1, 1), (2, .invokevirtual 64, 3), (5, .istore_n 3, 1), (6, .iload_n 3, 1), (7, .ifCond .eq 5, 3), (10, .iload_n 3, 1), (11, .ireturn, 1), (12, .aload_n 0, 1), (13, .getfield 35, 3), (16, .iload_n 1, 1), (17, .iload_n 2, 1), (18, .bastore, 1), (19, .iconst 0, 1), (20, .ireturn, 1)]
theorem D29 : decs prog_1_method_8_code c29 = true := by decide +kernel
theorem d29 (k : Nat) {p : Nat} {i : Instr} {n : Nat} (h : c29[k]? = some (p, i, n)) : decode prog_1_method_8_code p = .ok (i, n) := dget D29 h
def c36 : List (Nat × Instr × Nat) := [(0, .aload_n 0, 1), (1, .iload_n 1, 1), (2, .invokevirtual 60, 3), (5, .ifCond .eq 12, 3), (8, .aload_n 0, 1), (9, .getfield 17, 3), (12, .iload_n 1, 1), (13, .iaload, 1), (14, .ifCond .ne 5, 3), (17, .iconst (-1), 1), (18, .ireturn, 1), (19, .aload_n 0, 1), (20, .iload_n 1, 1), (21, .invokevirtual 48, 3), (24, .iconst 0, 1), (25, .ireturn, 1)]
theorem D36 : decs prog_1_method_3_code c36 = true := by decide +kernel
theorem d36 (k : Nat) {p : Nat} {i : Instr} {n : Nat} (h : c36[k]? = some (p, i, n)) : decode prog_1_method_3_code p = .ok (i, n) := dget D36 h
def c38 : List (Nat × Instr × Nat) := [(0, .aload_n 0, 1), (1, .iload_n 1, 1), (2, .invokevirtual 60, 3), (5, .ifCond .eq 12, 3), (8, .aload_n 0, 1), (9, .getfield 17, 3), (12, .iload_n 1, 1), (13, .iaload, 1), (14, .ifCond .ne 5, 3), (17, .iconst (-1), 1), (18, .ireturn, 1), (19, .aload_n 0, 1), (20, .getfield 17, 3), (23, .iload_n 1, 1), (24, .iaload, 1), (25, .iconst 1, 1), (26, .if_icmp .ne 6, 3), (29, .bipush (-8), 2), (31, .ireturn, 1), (32, .iload_n 2, 1), (33, .iconst 1, 1), (34, .if_icmp .lt 11, 3), (37, .iload_n 2, 1), (38, .aload_n 0, 1), (39, .getfield 38, 3), (42, .if_icmp .le 6, 3), (45, .bipush (-2), 2), (47, .ireturn, 1), (48, .aload_n 0, 1), (49, .iload_n 2, 1), (50, .iconst (-1), 1), (51, .invokevirtual 52, 3), (54, .istore_n 3, 1), (55, .iload_n 3, 1), (56, .ifCond .ge 6, 3), (59, .bipush (-6), 2), (61, .ireturn, 1), (62, .aload_n 0, 1), (63, .iload_n 1, 1), (64, .iload_n 3, 1), (65, .iload_n 2, 1), (66, .invokevirtual 56, 3), (69, .iconst 0, 1), (70, .ireturn, 1)]
theorem D38 : decs prog_1_method_5_code c38 = true := by decide +kernel
theorem d38 (k : Nat) {p : Nat} {i : Instr} {n : Nat} (h : c38[k]? = some (p, i, n)) : decode prog_1_method_5_code p = .ok (i, n) := dget D38 h
def c35 : List (Nat × Instr × Nat) := [(0, .aload_n 0, 1), (1, .invokevirtual 89, 3), (4, .iconst 0, 1), (5, .istore_n 1, 1), (6, .iconst 0, 1), (7, .istore_n 2, 1), (8, .iconst 0, 1), (9, .istore_n 3, 1), (10, .iload_n 3, 1), (11, .aload_n 0, 1), (12, .getfield 38, 3), (15, .if_icmp .ge 33, 3), (18, .aload_n 0, 1), (19, .getfield 13, 3), (22, .iload_n 3, 1), (23, .baload, 1), (24, .ifCond .eq 8, 3), (27, .iconst 0, 1), (28, .istore_n 2, 1), (29, .goto 13, 3), (32, .iinc 2 1, 3), (35, .iload_n 2, 1), (36, .iload_n 1, 1), (37, .if_icmp .le 5, 3), (40, .iload_n 2, 1), (41, .istore_n 1, 1), (42, .iinc 3 1, 3), (45, .goto (-35), 3), (48, .iload_n 1, 1), (49, .ireturn, 1)]
theorem D35 : decs prog_1_method_17_code c35 = true := by decide +kernel
theorem d35 (k : Nat) {p : Nat} {i : Instr} {n : Nat} (h : c35[k]? = some (p, i, n)) : decode prog_1_method_17_code p = .ok (i, n) := dget D35 h
def c31 : List (Nat × Instr × Nat) := [(0, .aload_n 0, 1), (1, .iconst (-1), 1), (2, .invokevirtual 82, 3), (5, .aload_n 0, 1), (6, .invokevirtual 85, 3), (9, .ireturn, 1)]
theorem D31 : decs prog_1_method_11_code c31 = true := by decide +kernel
theorem d31 (k : Nat) {p : Nat} {i : Instr} {n : Nat} (h : c31[k]? = some (p, i, n)) : decode prog_1_method_11_code p = .ok (i, n) := dget D31 h
def H0 (sn : Nat) (sf : Nat → Int32) : MHeap := [.inr (false, tab sn sf)]
def KL (sn : Nat) (sf : Nat → Int32) (s : St) : MHeap := KH flds al Ln (H0 sn sf) [] s
def f_hcell (sn : Nat) (sf : Nat → Int32) (a1 : Int32) : Option (Int32) :=
  if a1 < sn.toInt32 then
    grd (inb a1 sn) <|
    some (sf (ix a1))
  else
    some (0 : Int32)
set_option maxRecDepth 100000 in
theorem e_hcell {g : GT} {sn : Nat} {sf : Nat → Int32} {a1 : Int32} {w : Int32} (hw : HW g) {h : MHeap} (hs : h[0]? = some (.inr (false, tab sn sf))) (hr : f_hcell sn sf a1 = some w) : EvC (GG g) M_hcell [.ref 0, .int a1] h ((some (.int w)), h) := by
  refine EvC.enter (L0 := [.val (.ref 0), .val (.int a1)]) pl_hcell (fun h => nomatch h) rfl rfl ?_
  unfold f_hcell at hr
  refine Ev.iloadN (d0 0 rfl) rfl ?_
  refine Ev.aloadN (d0 1 rfl) rfl ?_
  refine Ev.sln hs (d0 2 rfl) ?_
  refine Ev.icge (t := 12) (d0 3 rfl) rfl (fun c1 => ?_) (fun c1 => ?_)
  · replace hr := (if_pos c1).symm.trans hr
    refine Ev.aloadN (d0 4 rfl) rfl ?_
    refine Ev.iloadN (d0 5 rfl) rfl ?_
    obtain ⟨b2, hr⟩ := grd_some hr
    refine Ev.sal hs (d0 6 rfl) b2 ?_
    refine Ev.goto (t := 13) (d0 7 rfl) rfl ?_
    cases hr
    exact Ev.ireturn rfl (d0 9 rfl)
  · replace hr := (if_neg c1).symm.trans hr
    refine Ev.iconst (z := 0) (d0 8 rfl) rfl ?_
    cases hr
    exact Ev.ireturn rfl (d0 9 rfl)
def f_clearHandle (a0 : Int32) (s : St) : Option (St) :=
  grd (inb a0 32) <|
  bnd (setA s 2 (ix a0) (0 : Int32)) fun s2 =>
  bnd (setA s2 3 (ix a0) (-1 : Int32)) fun s3 =>
  bnd (setA s3 4 (ix a0) (0 : Int32)) fun s4 =>
  bnd (setA s4 7 (ix a0) ((0 : Int32) &&& 1)) fun s5 =>
  bnd (setA s5 8 (ix a0) ((0 : Int32) &&& 1)) fun s6 =>
  some s6
set_option maxRecDepth 100000 in
theorem e_clearHandle {g : GT} {a0 : Int32} {s : St} {w : St} (hw : HW g) {K : St → MHeap} {o : Nat} {r : Nat → Nat} (V : View (GG g) Ln K o r) (hr : f_clearHandle a0 s = some w) : EvC (GG g) M_clearHandle [.ref o, .int a0] (K s) (none, (K w)) := by
  refine EvC.enter (L0 := [.val (.ref o), .val (.int a0)]) pl_clearHandle (fun _ => rfl) rfl rfl ?_
  unfold f_clearHandle at hr
  refine Ev.aloadN (d3 0 rfl) rfl ?_
  refine Ev.gAr V (ww hw 19 rfl) (d3 1 rfl) (j := 2) rfl ?_
  refine Ev.iloadN (d3 2 rfl) rfl ?_
  refine Ev.iconst (z := 0) (d3 3 rfl) rfl ?_
  obtain ⟨b1, hr⟩ := grd_some hr
  refine Ev.ias V (j := 2) rfl rfl (d3 4 rfl) b1 ?_
  revert hr
  generalize setA s 2 (ix a0) (0 : Int32) = s2
  intro hr
  replace hr := (bnd_eq _ _).symm.trans hr
  refine Ev.aloadN (d3 5 rfl) rfl ?_
  refine Ev.gAr V (ww hw 21 rfl) (d3 6 rfl) (j := 3) rfl ?_
  refine Ev.iloadN (d3 7 rfl) rfl ?_
  refine Ev.iconst (z := -1) (d3 8 rfl) rfl ?_
  refine Ev.ias V (j := 3) rfl rfl (d3 9 rfl) b1 ?_
  revert hr
  generalize setA s2 3 (ix a0) (-1 : Int32) = s3
  intro hr
  replace hr := (bnd_eq _ _).symm.trans hr
  refine Ev.aloadN (d3 10 rfl) rfl ?_
  refine Ev.gAr V (ww hw 23 rfl) (d3 11 rfl) (j := 4) rfl ?_
  refine Ev.iloadN (d3 12 rfl) rfl ?_
  refine Ev.iconst (z := 0) (d3 13 rfl) rfl ?_
  refine Ev.ias V (j := 4) rfl rfl (d3 14 rfl) b1 ?_
  revert hr
  generalize setA s3 4 (ix a0) (0 : Int32) = s4
  intro hr
  replace hr := (bnd_eq _ _).symm.trans hr
  refine Ev.aloadN (d3 15 rfl) rfl ?_
  refine Ev.gAr V (ww hw 29 rfl) (d3 16 rfl) (j := 7) rfl ?_
  refine Ev.iloadN (d3 17 rfl) rfl ?_
  refine Ev.iconst (z := 0) (d3 18 rfl) rfl ?_
  refine Ev.bas V (j := 7) rfl rfl (d3 19 rfl) b1 ?_
  revert hr
  generalize setA s4 7 (ix a0) ((0 : Int32) &&& 1) = s5
  intro hr
  replace hr := (bnd_eq _ _).symm.trans hr
  refine Ev.aloadN (d3 20 rfl) rfl ?_
  refine Ev.gAr V (ww hw 31 rfl) (d3 21 rfl) (j := 8) rfl ?_
  refine Ev.iloadN (d3 22 rfl) rfl ?_
  refine Ev.iconst (z := 0) (d3 23 rfl) rfl ?_
  refine Ev.bas V (j := 8) rfl rfl (d3 24 rfl) b1 ?_
  revert hr
  generalize setA s5 8 (ix a0) ((0 : Int32) &&& 1) = s6
  intro hr
  replace hr := (bnd_eq _ _).symm.trans hr
  cases hr
  exact Ev.vreturn rfl (d3 25 rfl)
def f_ctor_142 (n : Nat) : Nat → Int32 → St → Option (St)
  | 0 => fun _ _ => none
  | k + 1 => fun x5 s =>
    if x5 < (32 : Int32) then
      (f_clearHandle x5 s).bind fun q2 =>
      f_ctor_142 n k (x5 + (1 : Int32)) q2
    else
      some s
set_option maxRecDepth 100000 in
theorem e_ctor_142 {g : GT} {n : Nat} (hw : HW g) {K : St → MHeap} {o : Nat} {r : Nat → Nat} (V : View (GG g) Ln K o r) (k : Nat) : ∀ (x5 : Int32) (s : St) (y1 : Slot) (hy1 : one1 y1 = true) (y2 : Slot) (hy2 : one1 y2 = true) (y3 : Slot) (hy3 : one1 y3 = true) (y4 : Slot) (hy4 : one1 y4 = true) (w : St), f_ctor_142 n k x5 s = some w → Ev (GG g) M_ctor 142 [.val (.ref o), y1, y2, y3, y4, .val (.int x5)] [] (K s) (none, (K w)) := by
  induction k with
  | zero => intro x5 s y1 hy1 y2 hy2 y3 hy3 y4 hy4 w hr; rw [f_ctor_142] at hr; cases hr
  | succ k ih =>
    intro x5 s y1 hy1 y2 hy2 y3 hy3 y4 hy4 w hr
    rw [f_ctor_142] at hr
    refine Ev.iload (d1 73 rfl) rfl ?_
    refine Ev.bipush (z := 32) (d1 74 rfl) rfl ?_
    refine Ev.icge (t := 161) (d1 75 rfl) rfl (fun c1 => ?_) (fun c1 => ?_)
    · replace hr := (if_pos c1).symm.trans hr
      refine Ev.aloadN (d1 76 rfl) rfl ?_
      refine Ev.iload (d1 77 rfl) rfl ?_
      obtain ⟨q2, hq3, hr⟩ := Option.bind_eq_some_iff.mp hr
      refine Ev.priv (y := M_clearHandle) (args := [.int x5]) (rest := []) (gok hw) rfl nm_clearHandle (ww hw 39 rfl) (ww hw 40 rfl) (ww hw 41 rfl) (ww hw 42 rfl) (lenOf pd_clearHandle rfl) (d1 78 rfl) (V.2.1 s) (e_clearHandle hw V hq3) (by decide) (Nat.le_of_ble_eq_true rfl) rfl ?_
      refine Ev.iinc (z := 1) (L' := [.val (.ref o), y1, y2, y3, y4, .val (.int (x5 + (1 : Int32)))]) (d1 79 rfl) rfl rfl rfl ?_
      refine Ev.goto (t := 142) (d1 80 rfl) rfl ?_
      exact ih (x5 + (1 : Int32)) q2 y1 hy1 y2 hy2 y3 hy3 y4 hy4 _ hr
    · replace hr := (if_neg c1).symm.trans hr
      cases hr
      exact Ev.vreturn rfl (d1 81 rfl)
def f_ctor_123 (n : Nat) (x3 : Int32) (x4 : Int32) (s : St) : Option (St) :=
  bnd (setI s 9 x3) fun s1 =>
  bnd (setI s1 10 x4) fun s2 =>
  bnd (setI s2 11 (0 : Int32)) fun s3 =>
  f_ctor_142 n n (0 : Int32) s3
set_option maxRecDepth 100000 in
theorem e_ctor_123 {g : GT} {n : Nat} (hw : HW g) {K : St → MHeap} {o : Nat} {r : Nat → Nat} (V : View (GG g) Ln K o r) (x3 : Int32) (x4 : Int32) (s : St) (y1 : Slot) (hy1 : one1 y1 = true) (y2 : Slot) (hy2 : one1 y2 = true) (y5 : Slot) (hy5 : one1 y5 = true) (w : St) (hr : f_ctor_123 n x3 x4 s = some w) : Ev (GG g) M_ctor 123 [.val (.ref o), y1, y2, .val (.int x3), .val (.int x4), y5] [] (K s) (none, (K w)) := by
  unfold f_ctor_123 at hr
  refine Ev.aloadN (d1 62 rfl) rfl ?_
  refine Ev.iloadN (d1 63 rfl) rfl ?_
  refine Ev.pI V (gok hw) (ww hw 33 rfl) (Or.inl (ww hw 34 rfl)) (d1 64 rfl) (j := 9) rfl ?_
  revert hr
  generalize setI s 9 x3 = s1
  intro hr
  replace hr := (bnd_eq _ _).symm.trans hr
  refine Ev.aloadN (d1 65 rfl) rfl ?_
  refine Ev.iload (d1 66 rfl) rfl ?_
  refine Ev.pI V (gok hw) (ww hw 35 rfl) (Or.inl (ww hw 36 rfl)) (d1 67 rfl) (j := 10) rfl ?_
  revert hr
  generalize setI s1 10 x4 = s2
  intro hr
  replace hr := (bnd_eq _ _).symm.trans hr
  refine Ev.aloadN (d1 68 rfl) rfl ?_
  refine Ev.iconst (z := 0) (d1 69 rfl) rfl ?_
  refine Ev.pI V (gok hw) (ww hw 37 rfl) (Or.inl (ww hw 38 rfl)) (d1 70 rfl) (j := 11) rfl ?_
  revert hr
  generalize setI s2 11 (0 : Int32) = s3
  intro hr
  replace hr := (bnd_eq _ _).symm.trans hr
  refine Ev.iconst (z := 0) (d1 71 rfl) rfl ?_
  refine Ev.istD (L' := [.val (.ref o), y1, y2, .val (.int x3), .val (.int x4), .val (.int (0 : Int32))]) (d1 72 rfl) rfl hy5 rfl ?_
  exact e_ctor_142 hw V  n (0 : Int32) s3 y1 hy1 y2 hy2 (.val (.int x3)) rfl (.val (.int x4)) rfl _ hr
def f_ctor_112 (n : Nat) (x3 : Int32) (x4 : Int32) (s : St) : Option (St) :=
  if (32 : Int32) < x4 then
    f_ctor_123 n x3 (32 : Int32) s
  else
    f_ctor_123 n x3 x4 s
set_option maxRecDepth 100000 in
theorem e_ctor_112 {g : GT} {n : Nat} (hw : HW g) {K : St → MHeap} {o : Nat} {r : Nat → Nat} (V : View (GG g) Ln K o r) (x3 : Int32) (x4 : Int32) (s : St) (y1 : Slot) (hy1 : one1 y1 = true) (y2 : Slot) (hy2 : one1 y2 = true) (y5 : Slot) (hy5 : one1 y5 = true) (w : St) (hr : f_ctor_112 n x3 x4 s = some w) : Ev (GG g) M_ctor 112 [.val (.ref o), y1, y2, .val (.int x3), .val (.int x4), y5] [] (K s) (none, (K w)) := by
  unfold f_ctor_112 at hr
  refine Ev.iload (d1 57 rfl) rfl ?_
  refine Ev.bipush (z := 32) (d1 58 rfl) rfl ?_
  refine Ev.icle (t := 123) (d1 59 rfl) rfl (fun c1 => ?_) (fun c1 => ?_)
  · replace hr := (if_pos c1).symm.trans hr
    refine Ev.bipush (z := 32) (d1 60 rfl) rfl ?_
    refine Ev.istD (L' := [.val (.ref o), y1, y2, .val (.int x3), .val (.int (32 : Int32)), y5]) (d1 61 rfl) rfl rfl rfl ?_
    exact e_ctor_123 hw V  x3 (32 : Int32) s y1 hy1 y2 hy2 y5 hy5 _ hr
  · replace hr := (if_neg c1).symm.trans hr
    exact e_ctor_123 hw V  x3 x4 s y1 hy1 y2 hy2 y5 hy5 _ hr
def f_ctor_100 (n : Nat) (x2 : Int32) (x3 : Int32) (s : St) : Option (St) :=
  if x2 < (2 : Int32) then
    f_ctor_112 n x3 (2 : Int32) s
  else
    f_ctor_112 n x3 x2 s
set_option maxRecDepth 100000 in
theorem e_ctor_100 {g : GT} {n : Nat} (hw : HW g) {K : St → MHeap} {o : Nat} {r : Nat → Nat} (V : View (GG g) Ln K o r) (x2 : Int32) (x3 : Int32) (s : St) (y1 : Slot) (hy1 : one1 y1 = true) (y4 : Slot) (hy4 : one1 y4 = true) (y5 : Slot) (hy5 : one1 y5 = true) (w : St) (hr : f_ctor_100 n x2 x3 s = some w) : Ev (GG g) M_ctor 100 [.val (.ref o), y1, .val (.int x2), .val (.int x3), y4, y5] [] (K s) (none, (K w)) := by
  unfold f_ctor_100 at hr
  refine Ev.iloadN (d1 50 rfl) rfl ?_
  refine Ev.istD (L' := [.val (.ref o), y1, .val (.int x2), .val (.int x3), .val (.int x2), y5]) (d1 51 rfl) rfl hy4 rfl ?_
  refine Ev.iload (d1 52 rfl) rfl ?_
  refine Ev.iconst (z := 2) (d1 53 rfl) rfl ?_
  refine Ev.icge (t := 112) (d1 54 rfl) rfl (fun c1 => ?_) (fun c1 => ?_)
  · replace hr := (if_pos c1).symm.trans hr
    refine Ev.iconst (z := 2) (d1 55 rfl) rfl ?_
    refine Ev.istD (L' := [.val (.ref o), y1, .val (.int x2), .val (.int x3), .val (.int (2 : Int32)), y5]) (d1 56 rfl) rfl rfl rfl ?_
    exact e_ctor_112 hw V  x3 (2 : Int32) s y1 hy1 (.val (.int x2)) rfl y5 hy5 _ hr
  · replace hr := (if_neg c1).symm.trans hr
    exact e_ctor_112 hw V  x3 x2 s y1 hy1 (.val (.int x2)) rfl y5 hy5 _ hr
def f_ctor_89 (n : Nat) (x2 : Int32) (x3 : Int32) (s : St) : Option (St) :=
  if (256 : Int32) < x3 then
    f_ctor_100 n x2 (256 : Int32) s
  else
    f_ctor_100 n x2 x3 s
set_option maxRecDepth 100000 in
theorem e_ctor_89 {g : GT} {n : Nat} (hw : HW g) {K : St → MHeap} {o : Nat} {r : Nat → Nat} (V : View (GG g) Ln K o r) (x2 : Int32) (x3 : Int32) (s : St) (y1 : Slot) (hy1 : one1 y1 = true) (y4 : Slot) (hy4 : one1 y4 = true) (y5 : Slot) (hy5 : one1 y5 = true) (w : St) (hr : f_ctor_89 n x2 x3 s = some w) : Ev (GG g) M_ctor 89 [.val (.ref o), y1, .val (.int x2), .val (.int x3), y4, y5] [] (K s) (none, (K w)) := by
  unfold f_ctor_89 at hr
  refine Ev.iloadN (d1 45 rfl) rfl ?_
  refine Ev.sipush (z := 256) (d1 46 rfl) rfl ?_
  refine Ev.icle (t := 100) (d1 47 rfl) rfl (fun c1 => ?_) (fun c1 => ?_)
  · replace hr := (if_pos c1).symm.trans hr
    refine Ev.sipush (z := 256) (d1 48 rfl) rfl ?_
    refine Ev.istDN (L' := [.val (.ref o), y1, .val (.int x2), .val (.int (256 : Int32)), y4, y5]) (d1 49 rfl) rfl rfl rfl ?_
    exact e_ctor_100 hw V  x2 (256 : Int32) s y1 hy1 y4 hy4 y5 hy5 _ hr
  · replace hr := (if_neg c1).symm.trans hr
    exact e_ctor_100 hw V  x2 x3 s y1 hy1 y4 hy4 y5 hy5 _ hr
def f_ctor_78 (n : Nat) (x1 : Int32) (x2 : Int32) (s : St) : Option (St) :=
  if x1 < (8 : Int32) then
    f_ctor_89 n x2 (8 : Int32) s
  else
    f_ctor_89 n x2 x1 s
set_option maxRecDepth 100000 in
theorem e_ctor_78 {g : GT} {n : Nat} (hw : HW g) {K : St → MHeap} {o : Nat} {r : Nat → Nat} (V : View (GG g) Ln K o r) (x1 : Int32) (x2 : Int32) (s : St) (y3 : Slot) (hy3 : one1 y3 = true) (y4 : Slot) (hy4 : one1 y4 = true) (y5 : Slot) (hy5 : one1 y5 = true) (w : St) (hr : f_ctor_78 n x1 x2 s = some w) : Ev (GG g) M_ctor 78 [.val (.ref o), .val (.int x1), .val (.int x2), y3, y4, y5] [] (K s) (none, (K w)) := by
  unfold f_ctor_78 at hr
  refine Ev.iloadN (d1 38 rfl) rfl ?_
  refine Ev.istDN (L' := [.val (.ref o), .val (.int x1), .val (.int x2), .val (.int x1), y4, y5]) (d1 39 rfl) rfl hy3 rfl ?_
  refine Ev.iloadN (d1 40 rfl) rfl ?_
  refine Ev.bipush (z := 8) (d1 41 rfl) rfl ?_
  refine Ev.icge (t := 89) (d1 42 rfl) rfl (fun c1 => ?_) (fun c1 => ?_)
  · replace hr := (if_pos c1).symm.trans hr
    refine Ev.bipush (z := 8) (d1 43 rfl) rfl ?_
    refine Ev.istDN (L' := [.val (.ref o), .val (.int x1), .val (.int x2), .val (.int (8 : Int32)), y4, y5]) (d1 44 rfl) rfl rfl rfl ?_
    exact e_ctor_89 hw V  x2 (8 : Int32) s (.val (.int x1)) rfl y4 hy4 y5 hy5 _ hr
  · replace hr := (if_neg c1).symm.trans hr
    exact e_ctor_89 hw V  x2 x1 s (.val (.int x1)) rfl y4 hy4 y5 hy5 _ hr
def f_ctor (n : Nat) (a0 : Int32) (a1 : Int32) : Option (St) :=
  f_ctor_78 n a0 a1 zeroS
set_option maxRecDepth 100000 in
theorem e_ctor {g : GT} {n : Nat} {a0 : Int32} {a1 : Int32} {w : St} (hw : HW g) {pre : MHeap} (hk : k0 (GG g) ≤ pre.length) (hr : f_ctor n a0 a1 = some w) : EvC (GG g) M_ctor [.ref pre.length, .int a0, .int a1] (pre ++ [.inl dfl]) (none, KH flds al Ln pre [] w) := by
  refine EvC.enter (L0 := [.val (.ref pre.length), .val (.int a0), .val (.int a1), .unset, .unset, .unset]) pl_ctor (fun _ => rfl) rfl rfl ?_
  unfold f_ctor at hr
  refine Ev.aloadN (d1 0 rfl) rfl ?_
  refine Ev.initO (ww hw 10 rfl) (ww hw 11 rfl) (ww hw 12 rfl) (d1 1 rfl) (by decide) (Nat.le_of_ble_eq_true rfl) ?_
  show Ev (GG g) M_ctor 4 _ _ (cons pre dfl []) _
  refine Ev.aloadN (d1 2 rfl) rfl ?_
  refine Ev.sipush (z := 256) (d1 3 rfl) rfl ?_
  refine Ev.cnew (aty := .int) (b := false) (k := 256) (q := 0) (as' := [(false, tab 256 (fun _ => 0))]) (ww hw 13 rfl) rfl (d1 4 rfl) (by decide) rfl (by decide) rfl rfl ?_
  refine Ev.cput (v' := .ref (pre.length + 1 + 0)) (fs' := [.ref (pre.length + 1 + 0), .null, .null, .null, .null, .null, .null, .null, .null, .int 0, .int 0, .int 0]) (gok hw) hk (ww hw 14 rfl) (Or.inl (ww hw 15 rfl)) (d1 5 rfl) (j := 0) rfl rfl rfl ?_
  refine Ev.aloadN (d1 6 rfl) rfl ?_
  refine Ev.sipush (z := 256) (d1 7 rfl) rfl ?_
  refine Ev.cnew (aty := .boolean) (b := true) (k := 256) (q := 1) (as' := [(false, tab 256 (fun _ => 0)), (true, tab 256 (fun _ => 0))]) (ww hw 16 rfl) rfl (d1 8 rfl) (by decide) rfl (by decide) rfl rfl ?_
  refine Ev.cput (v' := .ref (pre.length + 1 + 1)) (fs' := [.ref (pre.length + 1 + 0), .ref (pre.length + 1 + 1), .null, .null, .null, .null, .null, .null, .null, .int 0, .int 0, .int 0]) (gok hw) hk (ww hw 17 rfl) (Or.inl (ww hw 18 rfl)) (d1 9 rfl) (j := 1) rfl rfl rfl ?_
  refine Ev.aloadN (d1 10 rfl) rfl ?_
  refine Ev.bipush (z := 32) (d1 11 rfl) rfl ?_
  refine Ev.cnew (aty := .int) (b := false) (k := 32) (q := 2) (as' := [(false, tab 256 (fun _ => 0)), (true, tab 256 (fun _ => 0)), (false, tab 32 (fun _ => 0))]) (ww hw 13 rfl) rfl (d1 12 rfl) (by decide) rfl (by decide) rfl rfl ?_
  refine Ev.cput (v' := .ref (pre.length + 1 + 2)) (fs' := [.ref (pre.length + 1 + 0), .ref (pre.length + 1 + 1), .ref (pre.length + 1 + 2), .null, .null, .null, .null, .null, .null, .int 0, .int 0, .int 0]) (gok hw) hk (ww hw 19 rfl) (Or.inl (ww hw 20 rfl)) (d1 13 rfl) (j := 2) rfl rfl rfl ?_
  refine Ev.aloadN (d1 14 rfl) rfl ?_
  refine Ev.bipush (z := 32) (d1 15 rfl) rfl ?_
  refine Ev.cnew (aty := .int) (b := false) (k := 32) (q := 3) (as' := [(false, tab 256 (fun _ => 0)), (true, tab 256 (fun _ => 0)), (false, tab 32 (fun _ => 0)), (false, tab 32 (fun _ => 0))]) (ww hw 13 rfl) rfl (d1 16 rfl) (by decide) rfl (by decide) rfl rfl ?_
  refine Ev.cput (v' := .ref (pre.length + 1 + 3)) (fs' := [.ref (pre.length + 1 + 0), .ref (pre.length + 1 + 1), .ref (pre.length + 1 + 2), .ref (pre.length + 1 + 3), .null, .null, .null, .null, .null, .int 0, .int 0, .int 0]) (gok hw) hk (ww hw 21 rfl) (Or.inl (ww hw 22 rfl)) (d1 17 rfl) (j := 3) rfl rfl rfl ?_
  refine Ev.aloadN (d1 18 rfl) rfl ?_
  refine Ev.bipush (z := 32) (d1 19 rfl) rfl ?_
  refine Ev.cnew (aty := .int) (b := false) (k := 32) (q := 4) (as' := [(false, tab 256 (fun _ => 0)), (true, tab 256 (fun _ => 0)), (false, tab 32 (fun _ => 0)), (false, tab 32 (fun _ => 0)), (false, tab 32 (fun _ => 0))]) (ww hw 13 rfl) rfl (d1 20 rfl) (by decide) rfl (by decide) rfl rfl ?_
  refine Ev.cput (v' := .ref (pre.length + 1 + 4)) (fs' := [.ref (pre.length + 1 + 0), .ref (pre.length + 1 + 1), .ref (pre.length + 1 + 2), .ref (pre.length + 1 + 3), .ref (pre.length + 1 + 4), .null, .null, .null, .null, .int 0, .int 0, .int 0]) (gok hw) hk (ww hw 23 rfl) (Or.inl (ww hw 24 rfl)) (d1 21 rfl) (j := 4) rfl rfl rfl ?_
  refine Ev.aloadN (d1 22 rfl) rfl ?_
  refine Ev.bipush (z := 32) (d1 23 rfl) rfl ?_
  refine Ev.cnew (aty := .int) (b := false) (k := 32) (q := 5) (as' := [(false, tab 256 (fun _ => 0)), (true, tab 256 (fun _ => 0)), (false, tab 32 (fun _ => 0)), (false, tab 32 (fun _ => 0)), (false, tab 32 (fun _ => 0)), (false, tab 32 (fun _ => 0))]) (ww hw 13 rfl) rfl (d1 24 rfl) (by decide) rfl (by decide) rfl rfl ?_
  refine Ev.cput (v' := .ref (pre.length + 1 + 5)) (fs' := [.ref (pre.length + 1 + 0), .ref (pre.length + 1 + 1), .ref (pre.length + 1 + 2), .ref (pre.length + 1 + 3), .ref (pre.length + 1 + 4), .ref (pre.length + 1 + 5), .null, .null, .null, .int 0, .int 0, .int 0]) (gok hw) hk (ww hw 25 rfl) (Or.inl (ww hw 26 rfl)) (d1 25 rfl) (j := 5) rfl rfl rfl ?_
  refine Ev.aloadN (d1 26 rfl) rfl ?_
  refine Ev.bipush (z := 32) (d1 27 rfl) rfl ?_
  refine Ev.cnew (aty := .int) (b := false) (k := 32) (q := 6) (as' := [(false, tab 256 (fun _ => 0)), (true, tab 256 (fun _ => 0)), (false, tab 32 (fun _ => 0)), (false, tab 32 (fun _ => 0)), (false, tab 32 (fun _ => 0)), (false, tab 32 (fun _ => 0)), (false, tab 32 (fun _ => 0))]) (ww hw 13 rfl) rfl (d1 28 rfl) (by decide) rfl (by decide) rfl rfl ?_
  refine Ev.cput (v' := .ref (pre.length + 1 + 6)) (fs' := [.ref (pre.length + 1 + 0), .ref (pre.length + 1 + 1), .ref (pre.length + 1 + 2), .ref (pre.length + 1 + 3), .ref (pre.length + 1 + 4), .ref (pre.length + 1 + 5), .ref (pre.length + 1 + 6), .null, .null, .int 0, .int 0, .int 0]) (gok hw) hk (ww hw 27 rfl) (Or.inl (ww hw 28 rfl)) (d1 29 rfl) (j := 6) rfl rfl rfl ?_
  refine Ev.aloadN (d1 30 rfl) rfl ?_
  refine Ev.bipush (z := 32) (d1 31 rfl) rfl ?_
  refine Ev.cnew (aty := .boolean) (b := true) (k := 32) (q := 7) (as' := [(false, tab 256 (fun _ => 0)), (true, tab 256 (fun _ => 0)), (false, tab 32 (fun _ => 0)), (false, tab 32 (fun _ => 0)), (false, tab 32 (fun _ => 0)), (false, tab 32 (fun _ => 0)), (false, tab 32 (fun _ => 0)), (true, tab 32 (fun _ => 0))]) (ww hw 16 rfl) rfl (d1 32 rfl) (by decide) rfl (by decide) rfl rfl ?_
  refine Ev.cput (v' := .ref (pre.length + 1 + 7)) (fs' := [.ref (pre.length + 1 + 0), .ref (pre.length + 1 + 1), .ref (pre.length + 1 + 2), .ref (pre.length + 1 + 3), .ref (pre.length + 1 + 4), .ref (pre.length + 1 + 5), .ref (pre.length + 1 + 6), .ref (pre.length + 1 + 7), .null, .int 0, .int 0, .int 0]) (gok hw) hk (ww hw 29 rfl) (Or.inl (ww hw 30 rfl)) (d1 33 rfl) (j := 7) rfl rfl rfl ?_
  refine Ev.aloadN (d1 34 rfl) rfl ?_
  refine Ev.bipush (z := 32) (d1 35 rfl) rfl ?_
  refine Ev.cnew (aty := .boolean) (b := true) (k := 32) (q := 8) (as' := [(false, tab 256 (fun _ => 0)), (true, tab 256 (fun _ => 0)), (false, tab 32 (fun _ => 0)), (false, tab 32 (fun _ => 0)), (false, tab 32 (fun _ => 0)), (false, tab 32 (fun _ => 0)), (false, tab 32 (fun _ => 0)), (true, tab 32 (fun _ => 0)), (true, tab 32 (fun _ => 0))]) (ww hw 16 rfl) rfl (d1 36 rfl) (by decide) rfl (by decide) rfl rfl ?_
  refine Ev.cput (v' := .ref (pre.length + 1 + 8)) (fs' := [.ref (pre.length + 1 + 0), .ref (pre.length + 1 + 1), .ref (pre.length + 1 + 2), .ref (pre.length + 1 + 3), .ref (pre.length + 1 + 4), .ref (pre.length + 1 + 5), .ref (pre.length + 1 + 6), .ref (pre.length + 1 + 7), .ref (pre.length + 1 + 8), .int 0, .int 0, .int 0]) (gok hw) hk (ww hw 31 rfl) (Or.inl (ww hw 32 rfl)) (d1 37 rfl) (j := 8) rfl rfl rfl ?_
  show Ev (GG g) M_ctor 78 [.val (.ref pre.length), .val (.int a0), .val (.int a1), .unset, .unset, .unset] [] (KH flds al Ln pre [] zeroS) _
  exact e_ctor_78 hw (K := KH flds al Ln pre []) (o := pre.length) (r := rA pre.length al) (view_of hk al_ok al_nd) a0 a1 zeroS .unset rfl .unset rfl .unset rfl _ hr
def f_valid (s : St) (a0 : Int32) : Option (Int32) :=
  if a0 < 0 then
    some (0 : Int32)
  else
    if a0 < (s.1 10) then
      some (1 : Int32)
    else
      some (0 : Int32)
set_option maxRecDepth 100000 in
theorem e_valid {g : GT} {s : St} {a0 : Int32} {w : Int32} (hw : HW g) {K : St → MHeap} {o : Nat} {r : Nat → Nat} (V : View (GG g) Ln K o r) (hr : f_valid s a0 = some w) : EvC (GG g) M_valid [.ref o, .int a0] (K s) ((some (.int w)), (K s)) := by
  refine EvC.enter (L0 := [.val (.ref o), .val (.int a0)]) pl_valid (fun h => nomatch h) rfl rfl ?_
  unfold f_valid at hr
  refine Ev.iloadN (d5 0 rfl) rfl ?_
  refine Ev.iflt (t := 16) (d5 1 rfl) rfl (fun c1 => ?_) (fun c1 => ?_)
  · replace hr := (if_pos c1).symm.trans hr
    refine Ev.iconst (z := 0) (d5 8 rfl) rfl ?_
    cases hr
    exact Ev.zret0 rfl (d5 9 rfl)
  · replace hr := (if_neg c1).symm.trans hr
    refine Ev.iloadN (d5 2 rfl) rfl ?_
    refine Ev.aloadN (d5 3 rfl) rfl ?_
    refine Ev.gI V (ww hw 35 rfl) (d5 4 rfl) (j := 10) rfl rfl ?_
    refine Ev.icge (t := 16) (d5 5 rfl) rfl (fun c2 => ?_) (fun c2 => ?_)
    · replace hr := (if_pos c2).symm.trans hr
      refine Ev.iconst (z := 1) (d5 6 rfl) rfl ?_
      refine Ev.goto (t := 17) (d5 7 rfl) rfl ?_
      cases hr
      exact Ev.zret1 rfl (d5 9 rfl)
    · replace hr := (if_neg c2).symm.trans hr
      refine Ev.iconst (z := 0) (d5 8 rfl) rfl ?_
      cases hr
      exact Ev.zret0 rfl (d5 9 rfl)
def f_getState (s : St) (a0 : Int32) : Option (Int32) :=
  (f_valid s a0).bind fun q1 =>
  if q1 = 0 then
    some (-1 : Int32)
  else
    grd (inb a0 32) <|
    some (s.2 2 (ix a0))
set_option maxRecDepth 100000 in
theorem e_getState {g : GT} {s : St} {a0 : Int32} {w : Int32} (hw : HW g) {K : St → MHeap} {o : Nat} {r : Nat → Nat} (V : View (GG g) Ln K o r) (hr : f_getState s a0 = some w) : EvC (GG g) M_getState [.ref o, .int a0] (K s) ((some (.int w)), (K s)) := by
  refine EvC.enter (L0 := [.val (.ref o), .val (.int a0)]) pl_getState (fun h => nomatch h) rfl rfl ?_
  unfold f_getState at hr
  refine Ev.aloadN (d4 0 rfl) rfl ?_
  refine Ev.iloadN (d4 1 rfl) rfl ?_
  obtain ⟨q1, hq2, hr⟩ := Option.bind_eq_some_iff.mp hr
  refine Ev.priv (y := M_valid) (args := [.int a0]) (rest := []) (gok hw) rfl nm_valid (ww hw 48 rfl) (ww hw 49 rfl) (ww hw 50 rfl) (ww hw 51 rfl) (lenOf pd_valid rfl) (d4 2 rfl) (V.2.1 s) (e_valid hw V hq2) (by decide) (Nat.le_of_ble_eq_true rfl) rfl ?_
  refine Ev.ifne (t := 10) (d4 3 rfl) rfl (fun c3 => ?_) (fun c3 => ?_)
  · replace hr := (if_pos c3).symm.trans hr
    refine Ev.iconst (z := -1) (d4 4 rfl) rfl ?_
    cases hr
    exact Ev.ireturn rfl (d4 5 rfl)
  · replace hr := (if_neg c3).symm.trans hr
    refine Ev.aloadN (d4 6 rfl) rfl ?_
    refine Ev.gAr V (ww hw 19 rfl) (d4 7 rfl) (j := 2) rfl ?_
    refine Ev.iloadN (d4 8 rfl) rfl ?_
    obtain ⟨b4, hr⟩ := grd_some hr
    refine Ev.ial V (j := 2) rfl rfl (d4 9 rfl) b4 ?_
    cases hr
    exact Ev.ireturn rfl (d4 10 rfl)
def f_getFlags_35 (s : St) (x1 : Int32) (x2 : Int32) : Option (Int32) :=
  grd (inb x1 32) <|
  if (s.2 8 (ix x1)) = 0 then
    some x2
  else
    some (x2 + (2 : Int32))
set_option maxRecDepth 100000 in
theorem e_getFlags_35 {g : GT} {s : St} (hw : HW g) {K : St → MHeap} {o : Nat} {r : Nat → Nat} (V : View (GG g) Ln K o r) (x1 : Int32) (x2 : Int32) (w : Int32) (hr : f_getFlags_35 s x1 x2 = some w) : Ev (GG g) M_getFlags 35 [.val (.ref o), .val (.int x1), .val (.int x2)] [] (K s) ((some (.int w)), (K s)) := by
  unfold f_getFlags_35 at hr
  refine Ev.aloadN (d20 23 rfl) rfl ?_
  refine Ev.gAr V (ww hw 31 rfl) (d20 24 rfl) (j := 8) rfl ?_
  refine Ev.iloadN (d20 25 rfl) rfl ?_
  obtain ⟨b1, hr⟩ := grd_some hr
  refine Ev.bal V (j := 8) rfl rfl (d20 26 rfl) b1 ?_
  refine Ev.ifeq (t := 48) (d20 27 rfl) rfl (fun c2 => ?_) (fun c2 => ?_)
  · replace hr := (if_pos c2).symm.trans hr
    refine Ev.iloadN (d20 32 rfl) rfl ?_
    cases hr
    exact Ev.ireturn rfl (d20 33 rfl)
  · replace hr := (if_neg c2).symm.trans hr
    refine Ev.iloadN (d20 28 rfl) rfl ?_
    refine Ev.iconst (z := 2) (d20 29 rfl) rfl ?_
    refine Ev.iadd (d20 30 rfl) ?_
    refine Ev.istDN (L' := [.val (.ref o), .val (.int x1), .val (.int (x2 + (2 : Int32)))]) (d20 31 rfl) rfl rfl rfl ?_
    refine Ev.iloadN (d20 32 rfl) rfl ?_
    cases hr
    exact Ev.ireturn rfl (d20 33 rfl)
def f_getFlags (s : St) (a0 : Int32) : Option (Int32) :=
  (f_valid s a0).bind fun q1 =>
  if q1 = 0 then
    some (0 : Int32)
  else
    grd (inb a0 32) <|
    if (s.2 2 (ix a0)) = (1 : Int32) then
      if (s.2 7 (ix a0)) = 0 then
        f_getFlags_35 s a0 (0 : Int32)
      else
        f_getFlags_35 s a0 ((0 : Int32) + (1 : Int32))
    else
      some (0 : Int32)
set_option maxRecDepth 100000 in
theorem e_getFlags {g : GT} {s : St} {a0 : Int32} {w : Int32} (hw : HW g) {K : St → MHeap} {o : Nat} {r : Nat → Nat} (V : View (GG g) Ln K o r) (hr : f_getFlags s a0 = some w) : EvC (GG g) M_getFlags [.ref o, .int a0] (K s) ((some (.int w)), (K s)) := by
  refine EvC.enter (L0 := [.val (.ref o), .val (.int a0), .unset]) pl_getFlags (fun h => nomatch h) rfl rfl ?_
  unfold f_getFlags at hr
  refine Ev.aloadN (d20 0 rfl) rfl ?_
  refine Ev.iloadN (d20 1 rfl) rfl ?_
  obtain ⟨q1, hq2, hr⟩ := Option.bind_eq_some_iff.mp hr
  refine Ev.priv (y := M_valid) (args := [.int a0]) (rest := []) (gok hw) rfl nm_valid (ww hw 48 rfl) (ww hw 49 rfl) (ww hw 50 rfl) (ww hw 51 rfl) (lenOf pd_valid rfl) (d20 2 rfl) (V.2.1 s) (e_valid hw V hq2) (by decide) (Nat.le_of_ble_eq_true rfl) rfl ?_
  refine Ev.ifeq (t := 18) (d20 3 rfl) rfl (fun c3 => ?_) (fun c3 => ?_)
  · replace hr := (if_pos c3).symm.trans hr
    refine Ev.iconst (z := 0) (d20 10 rfl) rfl ?_
    cases hr
    exact Ev.ireturn rfl (d20 11 rfl)
  · replace hr := (if_neg c3).symm.trans hr
    refine Ev.aloadN (d20 4 rfl) rfl ?_
    refine Ev.gAr V (ww hw 19 rfl) (d20 5 rfl) (j := 2) rfl ?_
    refine Ev.iloadN (d20 6 rfl) rfl ?_
    obtain ⟨b4, hr⟩ := grd_some hr
    refine Ev.ial V (j := 2) rfl rfl (d20 7 rfl) b4 ?_
    refine Ev.iconst (z := 1) (d20 8 rfl) rfl ?_
    refine Ev.iceq (t := 20) (d20 9 rfl) rfl (fun c5 => ?_) (fun c5 => ?_)
    · replace hr := (if_pos c5).symm.trans hr
      refine Ev.iconst (z := 0) (d20 12 rfl) rfl ?_
      refine Ev.istDN (L' := [.val (.ref o), .val (.int a0), .val (.int (0 : Int32))]) (d20 13 rfl) rfl rfl rfl ?_
      refine Ev.aloadN (d20 14 rfl) rfl ?_
      refine Ev.gAr V (ww hw 29 rfl) (d20 15 rfl) (j := 7) rfl ?_
      refine Ev.iloadN (d20 16 rfl) rfl ?_
      refine Ev.bal V (j := 7) rfl rfl (d20 17 rfl) b4 ?_
      refine Ev.ifeq (t := 35) (d20 18 rfl) rfl (fun c6 => ?_) (fun c6 => ?_)
      · replace hr := (if_pos c6).symm.trans hr
        exact e_getFlags_35 hw V  a0 (0 : Int32)  _ hr
      · replace hr := (if_neg c6).symm.trans hr
        refine Ev.iloadN (d20 19 rfl) rfl ?_
        refine Ev.iconst (z := 1) (d20 20 rfl) rfl ?_
        refine Ev.iadd (d20 21 rfl) ?_
        refine Ev.istDN (L' := [.val (.ref o), .val (.int a0), .val (.int ((0 : Int32) + (1 : Int32)))]) (d20 22 rfl) rfl rfl rfl ?_
        exact e_getFlags_35 hw V  a0 ((0 : Int32) + (1 : Int32))  _ hr
    · replace hr := (if_neg c5).symm.trans hr
      refine Ev.iconst (z := 0) (d20 10 rfl) rfl ?_
      cases hr
      exact Ev.ireturn rfl (d20 11 rfl)
def f_getAddress (s : St) (a0 : Int32) : Option (Int32) :=
  (f_valid s a0).bind fun q1 =>
  if q1 = 0 then
    some (-1 : Int32)
  else
    grd (inb a0 32) <|
    if (s.2 2 (ix a0)) = (1 : Int32) then
      some (s.2 3 (ix a0))
    else
      some (-1 : Int32)
set_option maxRecDepth 100000 in
theorem e_getAddress {g : GT} {s : St} {a0 : Int32} {w : Int32} (hw : HW g) {K : St → MHeap} {o : Nat} {r : Nat → Nat} (V : View (GG g) Ln K o r) (hr : f_getAddress s a0 = some w) : EvC (GG g) M_getAddress [.ref o, .int a0] (K s) ((some (.int w)), (K s)) := by
  refine EvC.enter (L0 := [.val (.ref o), .val (.int a0)]) pl_getAddress (fun h => nomatch h) rfl rfl ?_
  unfold f_getAddress at hr
  refine Ev.aloadN (d19 0 rfl) rfl ?_
  refine Ev.iloadN (d19 1 rfl) rfl ?_
  obtain ⟨q1, hq2, hr⟩ := Option.bind_eq_some_iff.mp hr
  refine Ev.priv (y := M_valid) (args := [.int a0]) (rest := []) (gok hw) rfl nm_valid (ww hw 48 rfl) (ww hw 49 rfl) (ww hw 50 rfl) (ww hw 51 rfl) (lenOf pd_valid rfl) (d19 2 rfl) (V.2.1 s) (e_valid hw V hq2) (by decide) (Nat.le_of_ble_eq_true rfl) rfl ?_
  refine Ev.ifeq (t := 18) (d19 3 rfl) rfl (fun c3 => ?_) (fun c3 => ?_)
  · replace hr := (if_pos c3).symm.trans hr
    refine Ev.iconst (z := -1) (d19 10 rfl) rfl ?_
    cases hr
    exact Ev.ireturn rfl (d19 11 rfl)
  · replace hr := (if_neg c3).symm.trans hr
    refine Ev.aloadN (d19 4 rfl) rfl ?_
    refine Ev.gAr V (ww hw 19 rfl) (d19 5 rfl) (j := 2) rfl ?_
    refine Ev.iloadN (d19 6 rfl) rfl ?_
    obtain ⟨b4, hr⟩ := grd_some hr
    refine Ev.ial V (j := 2) rfl rfl (d19 7 rfl) b4 ?_
    refine Ev.iconst (z := 1) (d19 8 rfl) rfl ?_
    refine Ev.iceq (t := 20) (d19 9 rfl) rfl (fun c5 => ?_) (fun c5 => ?_)
    · replace hr := (if_pos c5).symm.trans hr
      refine Ev.aloadN (d19 12 rfl) rfl ?_
      refine Ev.gAr V (ww hw 21 rfl) (d19 13 rfl) (j := 3) rfl ?_
      refine Ev.iloadN (d19 14 rfl) rfl ?_
      refine Ev.ial V (j := 3) rfl rfl (d19 15 rfl) b4 ?_
      cases hr
      exact Ev.ireturn rfl (d19 16 rfl)
    · replace hr := (if_neg c5).symm.trans hr
      refine Ev.iconst (z := -1) (d19 10 rfl) rfl ?_
      cases hr
      exact Ev.ireturn rfl (d19 11 rfl)
def f_hpick (a0 : Int32) (a1 : Int32) (a2 : Int32) (a3 : Int32) (a4 : Int32) : Option (Int32) :=
  if a0 = 0 then
    some a1
  else
    if a0 = (1 : Int32) then
      some a2
    else
      if a0 = (2 : Int32) then
        some a3
      else
        some a4
set_option maxRecDepth 100000 in
theorem e_hpick {g : GT} {a0 : Int32} {a1 : Int32} {a2 : Int32} {a3 : Int32} {a4 : Int32} {w : Int32} (hw : HW g) {h : MHeap} (hr : f_hpick a0 a1 a2 a3 a4 = some w) : EvC (GG g) M_hpick [.int a0, .int a1, .int a2, .int a3, .int a4] h ((some (.int w)), h) := by
  refine EvC.enter (L0 := [.val (.int a0), .val (.int a1), .val (.int a2), .val (.int a3), .val (.int a4)]) pl_hpick (fun h => nomatch h) rfl rfl ?_
  unfold f_hpick at hr
  refine Ev.iloadN (d6 0 rfl) rfl ?_
  refine Ev.ifne (t := 8) (d6 1 rfl) rfl (fun c1 => ?_) (fun c1 => ?_)
  · replace hr := (if_pos c1).symm.trans hr
    refine Ev.iloadN (d6 2 rfl) rfl ?_
    refine Ev.goto (t := 28) (d6 3 rfl) rfl ?_
    cases hr
    exact Ev.ireturn rfl (d6 15 rfl)
  · replace hr := (if_neg c1).symm.trans hr
    refine Ev.iloadN (d6 4 rfl) rfl ?_
    refine Ev.iconst (z := 1) (d6 5 rfl) rfl ?_
    refine Ev.icne (t := 17) (d6 6 rfl) rfl (fun c2 => ?_) (fun c2 => ?_)
    · replace hr := (if_pos c2).symm.trans hr
      refine Ev.iloadN (d6 7 rfl) rfl ?_
      refine Ev.goto (t := 28) (d6 8 rfl) rfl ?_
      cases hr
      exact Ev.ireturn rfl (d6 15 rfl)
    · replace hr := (if_neg c2).symm.trans hr
      refine Ev.iloadN (d6 9 rfl) rfl ?_
      refine Ev.iconst (z := 2) (d6 10 rfl) rfl ?_
      refine Ev.icne (t := 26) (d6 11 rfl) rfl (fun c3 => ?_) (fun c3 => ?_)
      · replace hr := (if_pos c3).symm.trans hr
        refine Ev.iloadN (d6 12 rfl) rfl ?_
        refine Ev.goto (t := 28) (d6 13 rfl) rfl ?_
        cases hr
        exact Ev.ireturn rfl (d6 15 rfl)
      · replace hr := (if_neg c3).symm.trans hr
        refine Ev.iload (d6 14 rfl) rfl ?_
        cases hr
        exact Ev.ireturn rfl (d6 15 rfl)
def f_getSize (s : St) (a0 : Int32) : Option (Int32) :=
  (f_valid s a0).bind fun q1 =>
  if q1 = 0 then
    some (0 : Int32)
  else
    grd (inb a0 32) <|
    if (s.2 2 (ix a0)) = (1 : Int32) then
      some (s.2 4 (ix a0))
    else
      some (0 : Int32)
set_option maxRecDepth 100000 in
theorem e_getSize {g : GT} {s : St} {a0 : Int32} {w : Int32} (hw : HW g) {K : St → MHeap} {o : Nat} {r : Nat → Nat} (V : View (GG g) Ln K o r) (hr : f_getSize s a0 = some w) : EvC (GG g) M_getSize [.ref o, .int a0] (K s) ((some (.int w)), (K s)) := by
  refine EvC.enter (L0 := [.val (.ref o), .val (.int a0)]) pl_getSize (fun h => nomatch h) rfl rfl ?_
  unfold f_getSize at hr
  refine Ev.aloadN (d7 0 rfl) rfl ?_
  refine Ev.iloadN (d7 1 rfl) rfl ?_
  obtain ⟨q1, hq2, hr⟩ := Option.bind_eq_some_iff.mp hr
  refine Ev.priv (y := M_valid) (args := [.int a0]) (rest := []) (gok hw) rfl nm_valid (ww hw 48 rfl) (ww hw 49 rfl) (ww hw 50 rfl) (ww hw 51 rfl) (lenOf pd_valid rfl) (d7 2 rfl) (V.2.1 s) (e_valid hw V hq2) (by decide) (Nat.le_of_ble_eq_true rfl) rfl ?_
  refine Ev.ifeq (t := 18) (d7 3 rfl) rfl (fun c3 => ?_) (fun c3 => ?_)
  · replace hr := (if_pos c3).symm.trans hr
    refine Ev.iconst (z := 0) (d7 10 rfl) rfl ?_
    cases hr
    exact Ev.ireturn rfl (d7 11 rfl)
  · replace hr := (if_neg c3).symm.trans hr
    refine Ev.aloadN (d7 4 rfl) rfl ?_
    refine Ev.gAr V (ww hw 19 rfl) (d7 5 rfl) (j := 2) rfl ?_
    refine Ev.iloadN (d7 6 rfl) rfl ?_
    obtain ⟨b4, hr⟩ := grd_some hr
    refine Ev.ial V (j := 2) rfl rfl (d7 7 rfl) b4 ?_
    refine Ev.iconst (z := 1) (d7 8 rfl) rfl ?_
    refine Ev.iceq (t := 20) (d7 9 rfl) rfl (fun c5 => ?_) (fun c5 => ?_)
    · replace hr := (if_pos c5).symm.trans hr
      refine Ev.aloadN (d7 12 rfl) rfl ?_
      refine Ev.gAr V (ww hw 23 rfl) (d7 13 rfl) (j := 4) rfl ?_
      refine Ev.iloadN (d7 14 rfl) rfl ?_
      refine Ev.ial V (j := 4) rfl rfl (d7 15 rfl) b4 ?_
      cases hr
      exact Ev.ireturn rfl (d7 16 rfl)
    · replace hr := (if_neg c5).symm.trans hr
      refine Ev.iconst (z := 0) (d7 10 rfl) rfl ?_
      cases hr
      exact Ev.ireturn rfl (d7 11 rfl)
def f_clearMark_2 (n : Nat) : Nat → Int32 → St → Option (St)
  | 0 => fun _ _ => none
  | k + 1 => fun x1 s =>
    if x1 < (256 : Int32) then
      grd (inb x1 256) <|
      bnd (setA s 1 (ix x1) ((0 : Int32) &&& 1)) fun s3 =>
      f_clearMark_2 n k (x1 + (1 : Int32)) s3
    else
      some s
set_option maxRecDepth 100000 in
theorem e_clearMark_2 {g : GT} {n : Nat} (hw : HW g) {K : St → MHeap} {o : Nat} {r : Nat → Nat} (V : View (GG g) Ln K o r) (k : Nat) : ∀ (x1 : Int32) (s : St) (w : St), f_clearMark_2 n k x1 s = some w → Ev (GG g) M_clearMark 2 [.val (.ref o), .val (.int x1)] [] (K s) (none, (K w)) := by
  induction k with
  | zero => intro x1 s w hr; rw [f_clearMark_2] at hr; cases hr
  | succ k ih =>
    intro x1 s w hr
    rw [f_clearMark_2] at hr
    refine Ev.iloadN (d14 2 rfl) rfl ?_
    refine Ev.sipush (z := 256) (d14 3 rfl) rfl ?_
    refine Ev.icge (t := 22) (d14 4 rfl) rfl (fun c1 => ?_) (fun c1 => ?_)
    · replace hr := (if_pos c1).symm.trans hr
      refine Ev.aloadN (d14 5 rfl) rfl ?_
      refine Ev.gAr V (ww hw 17 rfl) (d14 6 rfl) (j := 1) rfl ?_
      refine Ev.iloadN (d14 7 rfl) rfl ?_
      refine Ev.iconst (z := 0) (d14 8 rfl) rfl ?_
      obtain ⟨b2, hr⟩ := grd_some hr
      refine Ev.bas V (j := 1) rfl rfl (d14 9 rfl) b2 ?_
      revert hr
      generalize setA s 1 (ix x1) ((0 : Int32) &&& 1) = s3
      intro hr
      replace hr := (bnd_eq _ _).symm.trans hr
      refine Ev.iinc (z := 1) (L' := [.val (.ref o), .val (.int (x1 + (1 : Int32)))]) (d14 10 rfl) rfl rfl rfl ?_
      refine Ev.goto (t := 2) (d14 11 rfl) rfl ?_
      exact ih (x1 + (1 : Int32)) s3  _ hr
    · replace hr := (if_neg c1).symm.trans hr
      cases hr
      exact Ev.vreturn rfl (d14 12 rfl)
def f_clearMark (n : Nat) (s : St) : Option (St) :=
  f_clearMark_2 n n (0 : Int32) s
set_option maxRecDepth 100000 in
theorem e_clearMark {g : GT} {n : Nat} {s : St} {w : St} (hw : HW g) {K : St → MHeap} {o : Nat} {r : Nat → Nat} (V : View (GG g) Ln K o r) (hr : f_clearMark n s = some w) : EvC (GG g) M_clearMark [.ref o] (K s) (none, (K w)) := by
  refine EvC.enter (L0 := [.val (.ref o), .unset]) pl_clearMark (fun _ => rfl) rfl rfl ?_
  unfold f_clearMark at hr
  refine Ev.iconst (z := 0) (d14 0 rfl) rfl ?_
  refine Ev.istDN (L' := [.val (.ref o), .val (.int (0 : Int32))]) (d14 1 rfl) rfl rfl rfl ?_
  exact e_clearMark_2 hw V  n (0 : Int32) s  _ hr
def f_markBlock_17 (n : Nat) : Nat → Int32 → Int32 → Int32 → St → Option (St)
  | 0 => fun _ _ _ _ => none
  | k + 1 => fun x2 x3 x4 s =>
    if x4 < x3 then
      if (x2 + x4) < 0 then
        f_markBlock_17 n k x2 x3 (x4 + (1 : Int32)) s
      else
        if (x2 + x4) < (256 : Int32) then
          grd (inb (x2 + x4) 256) <|
          bnd (setA s 1 (ix (x2 + x4)) ((1 : Int32) &&& 1)) fun s5 =>
          f_markBlock_17 n k x2 x3 (x4 + (1 : Int32)) s5
        else
          f_markBlock_17 n k x2 x3 (x4 + (1 : Int32)) s
    else
      some s
set_option maxRecDepth 100000 in
theorem e_markBlock_17 {g : GT} {n : Nat} (hw : HW g) {K : St → MHeap} {o : Nat} {r : Nat → Nat} (V : View (GG g) Ln K o r) (k : Nat) : ∀ (x2 : Int32) (x3 : Int32) (x4 : Int32) (s : St) (y1 : Slot) (hy1 : one1 y1 = true) (y5 : Slot) (hy5 : one1 y5 = true) (w : St), f_markBlock_17 n k x2 x3 x4 s = some w → Ev (GG g) M_markBlock 17 [.val (.ref o), y1, .val (.int x2), .val (.int x3), .val (.int x4), y5] [] (K s) (none, (K w)) := by
  induction k with
  | zero => intro x2 x3 x4 s y1 hy1 y5 hy5 w hr; rw [f_markBlock_17] at hr; cases hr
  | succ k ih =>
    intro x2 x3 x4 s y1 hy1 y5 hy5 w hr
    rw [f_markBlock_17] at hr
    refine Ev.iload (d21 12 rfl) rfl ?_
    refine Ev.iloadN (d21 13 rfl) rfl ?_
    refine Ev.icge (t := 56) (d21 14 rfl) rfl (fun c1 => ?_) (fun c1 => ?_)
    · replace hr := (if_pos c1).symm.trans hr
      refine Ev.iloadN (d21 15 rfl) rfl ?_
      refine Ev.iload (d21 16 rfl) rfl ?_
      refine Ev.iadd (d21 17 rfl) ?_
      refine Ev.istD (L' := [.val (.ref o), y1, .val (.int x2), .val (.int x3), .val (.int x4), .val (.int (x2 + x4))]) (d21 18 rfl) rfl hy5 rfl ?_
      refine Ev.iload (d21 19 rfl) rfl ?_
      refine Ev.iflt (t := 50) (d21 20 rfl) rfl (fun c2 => ?_) (fun c2 => ?_)
      · replace hr := (if_pos c2).symm.trans hr
        refine Ev.iinc (z := 1) (L' := [.val (.ref o), y1, .val (.int x2), .val (.int x3), .val (.int (x4 + (1 : Int32))), .val (.int (x2 + x4))]) (d21 29 rfl) rfl rfl rfl ?_
        refine Ev.goto (t := 17) (d21 30 rfl) rfl ?_
        exact ih x2 x3 (x4 + (1 : Int32)) s y1 hy1 (.val (.int (x2 + x4))) rfl _ hr
      · replace hr := (if_neg c2).symm.trans hr
        refine Ev.iload (d21 21 rfl) rfl ?_
        refine Ev.sipush (z := 256) (d21 22 rfl) rfl ?_
        refine Ev.icge (t := 50) (d21 23 rfl) rfl (fun c3 => ?_) (fun c3 => ?_)
        · replace hr := (if_pos c3).symm.trans hr
          refine Ev.aloadN (d21 24 rfl) rfl ?_
          refine Ev.gAr V (ww hw 17 rfl) (d21 25 rfl) (j := 1) rfl ?_
          refine Ev.iload (d21 26 rfl) rfl ?_
          refine Ev.iconst (z := 1) (d21 27 rfl) rfl ?_
          obtain ⟨b4, hr⟩ := grd_some hr
          refine Ev.bas V (j := 1) rfl rfl (d21 28 rfl) b4 ?_
          revert hr
          generalize setA s 1 (ix (x2 + x4)) ((1 : Int32) &&& 1) = s5
          intro hr
          replace hr := (bnd_eq _ _).symm.trans hr
          refine Ev.iinc (z := 1) (L' := [.val (.ref o), y1, .val (.int x2), .val (.int x3), .val (.int (x4 + (1 : Int32))), .val (.int (x2 + x4))]) (d21 29 rfl) rfl rfl rfl ?_
          refine Ev.goto (t := 17) (d21 30 rfl) rfl ?_
          exact ih x2 x3 (x4 + (1 : Int32)) s5 y1 hy1 (.val (.int (x2 + x4))) rfl _ hr
        · replace hr := (if_neg c3).symm.trans hr
          refine Ev.iinc (z := 1) (L' := [.val (.ref o), y1, .val (.int x2), .val (.int x3), .val (.int (x4 + (1 : Int32))), .val (.int (x2 + x4))]) (d21 29 rfl) rfl rfl rfl ?_
          refine Ev.goto (t := 17) (d21 30 rfl) rfl ?_
          exact ih x2 x3 (x4 + (1 : Int32)) s y1 hy1 (.val (.int (x2 + x4))) rfl _ hr
    · replace hr := (if_neg c1).symm.trans hr
      cases hr
      exact Ev.vreturn rfl (d21 31 rfl)
def f_markBlock (n : Nat) (a0 : Int32) (s : St) : Option (St) :=
  grd (inb a0 32) <|
  f_markBlock_17 n n (s.2 3 (ix a0)) (s.2 4 (ix a0)) (0 : Int32) s
set_option maxRecDepth 100000 in
theorem e_markBlock {g : GT} {n : Nat} {a0 : Int32} {s : St} {w : St} (hw : HW g) {K : St → MHeap} {o : Nat} {r : Nat → Nat} (V : View (GG g) Ln K o r) (hr : f_markBlock n a0 s = some w) : EvC (GG g) M_markBlock [.ref o, .int a0] (K s) (none, (K w)) := by
  refine EvC.enter (L0 := [.val (.ref o), .val (.int a0), .unset, .unset, .unset, .unset]) pl_markBlock (fun _ => rfl) rfl rfl ?_
  unfold f_markBlock at hr
  refine Ev.aloadN (d21 0 rfl) rfl ?_
  refine Ev.gAr V (ww hw 21 rfl) (d21 1 rfl) (j := 3) rfl ?_
  refine Ev.iloadN (d21 2 rfl) rfl ?_
  obtain ⟨b1, hr⟩ := grd_some hr
  refine Ev.ial V (j := 3) rfl rfl (d21 3 rfl) b1 ?_
  refine Ev.istDN (L' := [.val (.ref o), .val (.int a0), .val (.int (s.2 3 (ix a0))), .unset, .unset, .unset]) (d21 4 rfl) rfl rfl rfl ?_
  refine Ev.aloadN (d21 5 rfl) rfl ?_
  refine Ev.gAr V (ww hw 23 rfl) (d21 6 rfl) (j := 4) rfl ?_
  refine Ev.iloadN (d21 7 rfl) rfl ?_
  refine Ev.ial V (j := 4) rfl rfl (d21 8 rfl) b1 ?_
  refine Ev.istDN (L' := [.val (.ref o), .val (.int a0), .val (.int (s.2 3 (ix a0))), .val (.int (s.2 4 (ix a0))), .unset, .unset]) (d21 9 rfl) rfl rfl rfl ?_
  refine Ev.iconst (z := 0) (d21 10 rfl) rfl ?_
  refine Ev.istD (L' := [.val (.ref o), .val (.int a0), .val (.int (s.2 3 (ix a0))), .val (.int (s.2 4 (ix a0))), .val (.int (0 : Int32)), .unset]) (d21 11 rfl) rfl rfl rfl ?_
  exact e_markBlock_17 hw V  n (s.2 3 (ix a0)) (s.2 4 (ix a0)) (0 : Int32) s (.val (.int a0)) rfl .unset rfl _ hr
def f_markLive_6 (n : Nat) : Nat → Int32 → St → Option (St)
  | 0 => fun _ _ => none
  | k + 1 => fun x1 s =>
    if x1 < (s.1 10) then
      grd (inb x1 32) <|
      if (s.2 2 (ix x1)) = (1 : Int32) then
        (f_markBlock n x1 s).bind fun q4 =>
        f_markLive_6 n k (x1 + (1 : Int32)) q4
      else
        f_markLive_6 n k (x1 + (1 : Int32)) s
    else
      some s
set_option maxRecDepth 100000 in
theorem e_markLive_6 {g : GT} {n : Nat} (hw : HW g) {K : St → MHeap} {o : Nat} {r : Nat → Nat} (V : View (GG g) Ln K o r) (k : Nat) : ∀ (x1 : Int32) (s : St) (w : St), f_markLive_6 n k x1 s = some w → Ev (GG g) M_markLive 6 [.val (.ref o), .val (.int x1)] [] (K s) (none, (K w)) := by
  induction k with
  | zero => intro x1 s w hr; rw [f_markLive_6] at hr; cases hr
  | succ k ih =>
    intro x1 s w hr
    rw [f_markLive_6] at hr
    refine Ev.iloadN (d13 4 rfl) rfl ?_
    refine Ev.aloadN (d13 5 rfl) rfl ?_
    refine Ev.gI V (ww hw 35 rfl) (d13 6 rfl) (j := 10) rfl rfl ?_
    refine Ev.icge (t := 35) (d13 7 rfl) rfl (fun c1 => ?_) (fun c1 => ?_)
    · replace hr := (if_pos c1).symm.trans hr
      refine Ev.aloadN (d13 8 rfl) rfl ?_
      refine Ev.gAr V (ww hw 19 rfl) (d13 9 rfl) (j := 2) rfl ?_
      refine Ev.iloadN (d13 10 rfl) rfl ?_
      obtain ⟨b2, hr⟩ := grd_some hr
      refine Ev.ial V (j := 2) rfl rfl (d13 11 rfl) b2 ?_
      refine Ev.iconst (z := 1) (d13 12 rfl) rfl ?_
      refine Ev.icne (t := 29) (d13 13 rfl) rfl (fun c3 => ?_) (fun c3 => ?_)
      · replace hr := (if_pos c3).symm.trans hr
        refine Ev.aloadN (d13 14 rfl) rfl ?_
        refine Ev.iloadN (d13 15 rfl) rfl ?_
        obtain ⟨q4, hq5, hr⟩ := Option.bind_eq_some_iff.mp hr
        refine Ev.priv (y := M_markBlock) (args := [.int x1]) (rest := []) (gok hw) rfl nm_markBlock (ww hw 116 rfl) (ww hw 117 rfl) (ww hw 118 rfl) (ww hw 119 rfl) (lenOf pd_markBlock rfl) (d13 16 rfl) (V.2.1 s) (e_markBlock hw V hq5) (by decide) (Nat.le_of_ble_eq_true rfl) rfl ?_
        refine Ev.iinc (z := 1) (L' := [.val (.ref o), .val (.int (x1 + (1 : Int32)))]) (d13 17 rfl) rfl rfl rfl ?_
        refine Ev.goto (t := 6) (d13 18 rfl) rfl ?_
        exact ih (x1 + (1 : Int32)) q4  _ hr
      · replace hr := (if_neg c3).symm.trans hr
        refine Ev.iinc (z := 1) (L' := [.val (.ref o), .val (.int (x1 + (1 : Int32)))]) (d13 17 rfl) rfl rfl rfl ?_
        refine Ev.goto (t := 6) (d13 18 rfl) rfl ?_
        exact ih (x1 + (1 : Int32)) s  _ hr
    · replace hr := (if_neg c1).symm.trans hr
      cases hr
      exact Ev.vreturn rfl (d13 19 rfl)
def f_markLive (n : Nat) (s : St) : Option (St) :=
  (f_clearMark n s).bind fun q1 =>
  f_markLive_6 n n (0 : Int32) q1
set_option maxRecDepth 100000 in
theorem e_markLive {g : GT} {n : Nat} {s : St} {w : St} (hw : HW g) {K : St → MHeap} {o : Nat} {r : Nat → Nat} (V : View (GG g) Ln K o r) (hr : f_markLive n s = some w) : EvC (GG g) M_markLive [.ref o] (K s) (none, (K w)) := by
  refine EvC.enter (L0 := [.val (.ref o), .unset]) pl_markLive (fun _ => rfl) rfl rfl ?_
  unfold f_markLive at hr
  refine Ev.aloadN (d13 0 rfl) rfl ?_
  obtain ⟨q1, hq2, hr⟩ := Option.bind_eq_some_iff.mp hr
  refine Ev.priv (y := M_clearMark) (args := []) (rest := []) (gok hw) rfl nm_clearMark (ww hw 86 rfl) (ww hw 87 rfl) (ww hw 88 rfl) (ww hw 89 rfl) (lenOf pd_clearMark rfl) (d13 1 rfl) (V.2.1 s) (e_clearMark hw V hq2) (by decide) (Nat.le_of_ble_eq_true rfl) rfl ?_
  refine Ev.iconst (z := 0) (d13 2 rfl) rfl ?_
  refine Ev.istDN (L' := [.val (.ref o), .val (.int (0 : Int32))]) (d13 3 rfl) rfl rfl rfl ?_
  exact e_markLive_6 hw V  n (0 : Int32) q1  _ hr
def f_firstRun_4 (n : Nat) (s : St) : Nat → Int32 → Int32 → Int32 → Option (Int32)
  | 0 => fun _ _ _ => none
  | k + 1 => fun x1 x2 x3 =>
    if x3 < (s.1 9) then
      grd (inb x3 256) <|
      if (s.2 1 (ix x3)) = 0 then
        if (x2 + (1 : Int32)) < x1 then
          f_firstRun_4 n s k x1 (x2 + (1 : Int32)) (x3 + (1 : Int32))
        else
          some ((x3 - x1) + (1 : Int32))
      else
        f_firstRun_4 n s k x1 (0 : Int32) (x3 + (1 : Int32))
    else
      some (-1 : Int32)
set_option maxRecDepth 100000 in
theorem e_firstRun_4 {g : GT} {n : Nat} {s : St} (hw : HW g) {K : St → MHeap} {o : Nat} {r : Nat → Nat} (V : View (GG g) Ln K o r) (k : Nat) : ∀ (x1 : Int32) (x2 : Int32) (x3 : Int32) (w : Int32), f_firstRun_4 n s k x1 x2 x3 = some w → Ev (GG g) M_firstRun 4 [.val (.ref o), .val (.int x1), .val (.int x2), .val (.int x3)] [] (K s) ((some (.int w)), (K s)) := by
  induction k with
  | zero => intro x1 x2 x3 w hr; rw [f_firstRun_4] at hr; cases hr
  | succ k ih =>
    intro x1 x2 x3 w hr
    rw [f_firstRun_4] at hr
    refine Ev.iloadN (d15 4 rfl) rfl ?_
    refine Ev.aloadN (d15 5 rfl) rfl ?_
    refine Ev.gI V (ww hw 33 rfl) (d15 6 rfl) (j := 9) rfl rfl ?_
    refine Ev.icge (t := 46) (d15 7 rfl) rfl (fun c1 => ?_) (fun c1 => ?_)
    · replace hr := (if_pos c1).symm.trans hr
      refine Ev.aloadN (d15 8 rfl) rfl ?_
      refine Ev.gAr V (ww hw 17 rfl) (d15 9 rfl) (j := 1) rfl ?_
      refine Ev.iloadN (d15 10 rfl) rfl ?_
      obtain ⟨b2, hr⟩ := grd_some hr
      refine Ev.bal V (j := 1) rfl rfl (d15 11 rfl) b2 ?_
      refine Ev.ifeq (t := 26) (d15 12 rfl) rfl (fun c3 => ?_) (fun c3 => ?_)
      · replace hr := (if_pos c3).symm.trans hr
        refine Ev.iinc (z := 1) (L' := [.val (.ref o), .val (.int x1), .val (.int (x2 + (1 : Int32))), .val (.int x3)]) (d15 16 rfl) rfl rfl rfl ?_
        refine Ev.iloadN (d15 17 rfl) rfl ?_
        refine Ev.iloadN (d15 18 rfl) rfl ?_
        refine Ev.iclt (t := 40) (d15 19 rfl) rfl (fun c4 => ?_) (fun c4 => ?_)
        · replace hr := (if_pos c4).symm.trans hr
          refine Ev.iinc (z := 1) (L' := [.val (.ref o), .val (.int x1), .val (.int (x2 + (1 : Int32))), .val (.int (x3 + (1 : Int32)))]) (d15 26 rfl) rfl rfl rfl ?_
          refine Ev.goto (t := 4) (d15 27 rfl) rfl ?_
          exact ih x1 (x2 + (1 : Int32)) (x3 + (1 : Int32))  _ hr
        · replace hr := (if_neg c4).symm.trans hr
          refine Ev.iloadN (d15 20 rfl) rfl ?_
          refine Ev.iloadN (d15 21 rfl) rfl ?_
          refine Ev.isub (d15 22 rfl) ?_
          refine Ev.iconst (z := 1) (d15 23 rfl) rfl ?_
          refine Ev.iadd (d15 24 rfl) ?_
          cases hr
          exact Ev.ireturn rfl (d15 25 rfl)
      · replace hr := (if_neg c3).symm.trans hr
        refine Ev.iconst (z := 0) (d15 13 rfl) rfl ?_
        refine Ev.istDN (L' := [.val (.ref o), .val (.int x1), .val (.int (0 : Int32)), .val (.int x3)]) (d15 14 rfl) rfl rfl rfl ?_
        refine Ev.goto (t := 40) (d15 15 rfl) rfl ?_
        refine Ev.iinc (z := 1) (L' := [.val (.ref o), .val (.int x1), .val (.int (0 : Int32)), .val (.int (x3 + (1 : Int32)))]) (d15 26 rfl) rfl rfl rfl ?_
        refine Ev.goto (t := 4) (d15 27 rfl) rfl ?_
        exact ih x1 (0 : Int32) (x3 + (1 : Int32))  _ hr
    · replace hr := (if_neg c1).symm.trans hr
      refine Ev.iconst (z := -1) (d15 28 rfl) rfl ?_
      cases hr
      exact Ev.ireturn rfl (d15 29 rfl)
def f_firstRun (n : Nat) (s : St) (a0 : Int32) : Option (Int32) :=
  f_firstRun_4 n s n a0 (0 : Int32) (0 : Int32)
set_option maxRecDepth 100000 in
theorem e_firstRun {g : GT} {n : Nat} {s : St} {a0 : Int32} {w : Int32} (hw : HW g) {K : St → MHeap} {o : Nat} {r : Nat → Nat} (V : View (GG g) Ln K o r) (hr : f_firstRun n s a0 = some w) : EvC (GG g) M_firstRun [.ref o, .int a0] (K s) ((some (.int w)), (K s)) := by
  refine EvC.enter (L0 := [.val (.ref o), .val (.int a0), .unset, .unset]) pl_firstRun (fun h => nomatch h) rfl rfl ?_
  unfold f_firstRun at hr
  refine Ev.iconst (z := 0) (d15 0 rfl) rfl ?_
  refine Ev.istDN (L' := [.val (.ref o), .val (.int a0), .val (.int (0 : Int32)), .unset]) (d15 1 rfl) rfl rfl rfl ?_
  refine Ev.iconst (z := 0) (d15 2 rfl) rfl ?_
  refine Ev.istDN (L' := [.val (.ref o), .val (.int a0), .val (.int (0 : Int32)), .val (.int (0 : Int32))]) (d15 3 rfl) rfl rfl rfl ?_
  exact e_firstRun_4 hw V  n a0 (0 : Int32) (0 : Int32)  _ hr
def f_fit (n : Nat) (a0 : Int32) (s : St) : Option (Int32 × St) :=
  (f_markLive n s).bind fun q1 =>
  (f_firstRun n q1 a0).bind fun q3 =>
  some (q3, q1)
set_option maxRecDepth 100000 in
theorem e_fit {g : GT} {n : Nat} {a0 : Int32} {s : St} {w : Int32 × St} (hw : HW g) {K : St → MHeap} {o : Nat} {r : Nat → Nat} (V : View (GG g) Ln K o r) (hr : f_fit n a0 s = some w) : EvC (GG g) M_fit [.ref o, .int a0] (K s) ((some (.int w.1)), (K w.2)) := by
  refine EvC.enter (L0 := [.val (.ref o), .val (.int a0)]) pl_fit (fun h => nomatch h) rfl rfl ?_
  unfold f_fit at hr
  refine Ev.aloadN (d12 0 rfl) rfl ?_
  obtain ⟨q1, hq2, hr⟩ := Option.bind_eq_some_iff.mp hr
  refine Ev.priv (y := M_markLive) (args := []) (rest := []) (gok hw) rfl nm_markLive (ww hw 82 rfl) (ww hw 83 rfl) (ww hw 84 rfl) (ww hw 85 rfl) (lenOf pd_markLive rfl) (d12 1 rfl) (V.2.1 s) (e_markLive hw V hq2) (by decide) (Nat.le_of_ble_eq_true rfl) rfl ?_
  refine Ev.aloadN (d12 2 rfl) rfl ?_
  refine Ev.iloadN (d12 3 rfl) rfl ?_
  obtain ⟨q3, hq4, hr⟩ := Option.bind_eq_some_iff.mp hr
  refine Ev.priv (y := M_firstRun) (args := [.int a0]) (rest := []) (gok hw) rfl nm_firstRun (ww hw 90 rfl) (ww hw 91 rfl) (ww hw 92 rfl) (ww hw 93 rfl) (lenOf pd_firstRun rfl) (d12 4 rfl) (V.2.1 q1) (e_firstRun hw V hq4) (by decide) (Nat.le_of_ble_eq_true rfl) rfl ?_
  cases hr
  exact Ev.ireturn rfl (d12 5 rfl)
def f_sortOrder_9 (n : Nat) (k2 : Int32 → Int32 → St → Option (St)) : Nat → Int32 → Int32 → Int32 → St → Option (St)
  | 0 => fun _ _ _ _ => none
  | k + 1 => fun x1 x2 x3 s =>
    if 0 < x3 then
      grd (inb (x3 - (1 : Int32)) 32) <|
      grd (inb x3 32) <|
      grd (inb (s.2 6 (ix (x3 - (1 : Int32)))) 32) <|
      grd (inb (s.2 6 (ix x3)) 32) <|
      if (s.2 3 (ix (s.2 6 (ix x3)))) < (s.2 3 (ix (s.2 6 (ix (x3 - (1 : Int32)))))) then
        bnd (setA s 6 (ix (x3 - (1 : Int32))) (s.2 6 (ix x3))) fun s7 =>
        bnd (setA s7 6 (ix x3) (s.2 6 (ix (x3 - (1 : Int32))))) fun s8 =>
        f_sortOrder_9 n k2 k x1 x2 (x3 + (-1 : Int32)) s8
      else
        k2 x1 (x2 + (1 : Int32)) s
    else
      k2 x1 (x2 + (1 : Int32)) s
set_option maxRecDepth 100000 in
theorem e_sortOrder_9 {g : GT} {n : Nat} (hw : HW g) {K : St → MHeap} {o : Nat} {r : Nat → Nat} (V : View (GG g) Ln K o r) {k2 : Int32 → Int32 → St → Option (St)} (hk2 : ∀ (x1 : Int32) (x2 : Int32) (s : St) (y3 : Slot) (hy3 : one1 y3 = true) (y4 : Slot) (hy4 : one1 y4 = true) (y5 : Slot) (hy5 : one1 y5 = true) (w : St), k2 x1 x2 s = some w → Ev (GG g) M_sortOrder 2 [.val (.ref o), .val (.int x1), .val (.int x2), y3, y4, y5] [] (K s) (none, (K w))) (k : Nat) : ∀ (x1 : Int32) (x2 : Int32) (x3 : Int32) (s : St) (y4 : Slot) (hy4 : one1 y4 = true) (y5 : Slot) (hy5 : one1 y5 = true) (w : St), f_sortOrder_9 n k2 k x1 x2 x3 s = some w → Ev (GG g) M_sortOrder 9 [.val (.ref o), .val (.int x1), .val (.int x2), .val (.int x3), y4, y5] [] (K s) (none, (K w)) := by
  induction k with
  | zero => intro x1 x2 x3 s y4 hy4 y5 hy5 w hr; rw [f_sortOrder_9] at hr; cases hr
  | succ k ih =>
    intro x1 x2 x3 s y4 hy4 y5 hy5 w hr
    rw [f_sortOrder_9] at hr
    refine Ev.iloadN (d33 7 rfl) rfl ?_
    refine Ev.ifle (t := 75) (d33 8 rfl) rfl (fun c1 => ?_) (fun c1 => ?_)
    · replace hr := (if_pos c1).symm.trans hr
      refine Ev.aloadN (d33 9 rfl) rfl ?_
      refine Ev.gAr V (ww hw 27 rfl) (d33 10 rfl) (j := 6) rfl ?_
      refine Ev.iloadN (d33 11 rfl) rfl ?_
      refine Ev.iconst (z := 1) (d33 12 rfl) rfl ?_
      refine Ev.isub (d33 13 rfl) ?_
      obtain ⟨b2, hr⟩ := grd_some hr
      refine Ev.ial V (j := 6) rfl rfl (d33 14 rfl) b2 ?_
      refine Ev.istD (L' := [.val (.ref o), .val (.int x1), .val (.int x2), .val (.int x3), .val (.int (s.2 6 (ix (x3 - (1 : Int32))))), y5]) (d33 15 rfl) rfl hy4 rfl ?_
      refine Ev.aloadN (d33 16 rfl) rfl ?_
      refine Ev.gAr V (ww hw 27 rfl) (d33 17 rfl) (j := 6) rfl ?_
      refine Ev.iloadN (d33 18 rfl) rfl ?_
      obtain ⟨b3, hr⟩ := grd_some hr
      refine Ev.ial V (j := 6) rfl rfl (d33 19 rfl) b3 ?_
      refine Ev.istD (L' := [.val (.ref o), .val (.int x1), .val (.int x2), .val (.int x3), .val (.int (s.2 6 (ix (x3 - (1 : Int32))))), .val (.int (s.2 6 (ix x3)))]) (d33 20 rfl) rfl hy5 rfl ?_
      refine Ev.aloadN (d33 21 rfl) rfl ?_
      refine Ev.gAr V (ww hw 21 rfl) (d33 22 rfl) (j := 3) rfl ?_
      refine Ev.iload (d33 23 rfl) rfl ?_
      obtain ⟨b4, hr⟩ := grd_some hr
      refine Ev.ial V (j := 3) rfl rfl (d33 24 rfl) b4 ?_
      refine Ev.aloadN (d33 25 rfl) rfl ?_
      refine Ev.gAr V (ww hw 21 rfl) (d33 26 rfl) (j := 3) rfl ?_
      refine Ev.iload (d33 27 rfl) rfl ?_
      obtain ⟨b5, hr⟩ := grd_some hr
      refine Ev.ial V (j := 3) rfl rfl (d33 28 rfl) b5 ?_
      refine Ev.icgt (t := 51) (d33 29 rfl) rfl (fun c6 => ?_) (fun c6 => ?_)
      · replace hr := (if_pos c6).symm.trans hr
        refine Ev.aloadN (d33 31 rfl) rfl ?_
        refine Ev.gAr V (ww hw 27 rfl) (d33 32 rfl) (j := 6) rfl ?_
        refine Ev.iloadN (d33 33 rfl) rfl ?_
        refine Ev.iconst (z := 1) (d33 34 rfl) rfl ?_
        refine Ev.isub (d33 35 rfl) ?_
        refine Ev.iload (d33 36 rfl) rfl ?_
        refine Ev.ias V (j := 6) rfl rfl (d33 37 rfl) b2 ?_
        revert hr
        generalize setA s 6 (ix (x3 - (1 : Int32))) (s.2 6 (ix x3)) = s7
        intro hr
        replace hr := (bnd_eq _ _).symm.trans hr
        refine Ev.aloadN (d33 38 rfl) rfl ?_
        refine Ev.gAr V (ww hw 27 rfl) (d33 39 rfl) (j := 6) rfl ?_
        refine Ev.iloadN (d33 40 rfl) rfl ?_
        refine Ev.iload (d33 41 rfl) rfl ?_
        refine Ev.ias V (j := 6) rfl rfl (d33 42 rfl) b3 ?_
        revert hr
        generalize setA s7 6 (ix x3) (s.2 6 (ix (x3 - (1 : Int32)))) = s8
        intro hr
        replace hr := (bnd_eq _ _).symm.trans hr
        refine Ev.iinc (z := -1) (L' := [.val (.ref o), .val (.int x1), .val (.int x2), .val (.int (x3 + (-1 : Int32))), .val (.int (s.2 6 (ix (x3 - (1 : Int32))))), .val (.int (s.2 6 (ix x3)))]) (d33 43 rfl) rfl rfl rfl ?_
        refine Ev.goto (t := 9) (d33 44 rfl) rfl ?_
        exact ih x1 x2 (x3 + (-1 : Int32)) s8 (.val (.int (s.2 6 (ix (x3 - (1 : Int32)))))) rfl (.val (.int (s.2 6 (ix x3)))) rfl _ hr
      · replace hr := (if_neg c6).symm.trans hr
        refine Ev.goto (t := 75) (d33 30 rfl) rfl ?_
        refine Ev.iinc (z := 1) (L' := [.val (.ref o), .val (.int x1), .val (.int (x2 + (1 : Int32))), .val (.int x3), .val (.int (s.2 6 (ix (x3 - (1 : Int32))))), .val (.int (s.2 6 (ix x3)))]) (d33 45 rfl) rfl rfl rfl ?_
        refine Ev.goto (t := 2) (d33 46 rfl) rfl ?_
        exact hk2 x1 (x2 + (1 : Int32)) s (.val (.int x3)) rfl (.val (.int (s.2 6 (ix (x3 - (1 : Int32)))))) rfl (.val (.int (s.2 6 (ix x3)))) rfl _ hr
    · replace hr := (if_neg c1).symm.trans hr
      refine Ev.iinc (z := 1) (L' := [.val (.ref o), .val (.int x1), .val (.int (x2 + (1 : Int32))), .val (.int x3), y4, y5]) (d33 45 rfl) rfl rfl rfl ?_
      refine Ev.goto (t := 2) (d33 46 rfl) rfl ?_
      exact hk2 x1 (x2 + (1 : Int32)) s (.val (.int x3)) rfl y4 hy4 y5 hy5 _ hr
def f_sortOrder_2 (n : Nat) : Nat → Int32 → Int32 → St → Option (St)
  | 0 => fun _ _ _ => none
  | k + 1 => fun x1 x2 s =>
    if x2 < x1 then
      f_sortOrder_9 n (f_sortOrder_2 n k) n x1 x2 x2 s
    else
      some s
set_option maxRecDepth 100000 in
theorem e_sortOrder_2 {g : GT} {n : Nat} (hw : HW g) {K : St → MHeap} {o : Nat} {r : Nat → Nat} (V : View (GG g) Ln K o r) (k : Nat) : ∀ (x1 : Int32) (x2 : Int32) (s : St) (y3 : Slot) (hy3 : one1 y3 = true) (y4 : Slot) (hy4 : one1 y4 = true) (y5 : Slot) (hy5 : one1 y5 = true) (w : St), f_sortOrder_2 n k x1 x2 s = some w → Ev (GG g) M_sortOrder 2 [.val (.ref o), .val (.int x1), .val (.int x2), y3, y4, y5] [] (K s) (none, (K w)) := by
  induction k with
  | zero => intro x1 x2 s y3 hy3 y4 hy4 y5 hy5 w hr; rw [f_sortOrder_2] at hr; cases hr
  | succ k ih =>
    intro x1 x2 s y3 hy3 y4 hy4 y5 hy5 w hr
    rw [f_sortOrder_2] at hr
    refine Ev.iloadN (d33 2 rfl) rfl ?_
    refine Ev.iloadN (d33 3 rfl) rfl ?_
    refine Ev.icge (t := 81) (d33 4 rfl) rfl (fun c1 => ?_) (fun c1 => ?_)
    · replace hr := (if_pos c1).symm.trans hr
      refine Ev.iloadN (d33 5 rfl) rfl ?_
      refine Ev.istDN (L' := [.val (.ref o), .val (.int x1), .val (.int x2), .val (.int x2), y4, y5]) (d33 6 rfl) rfl hy3 rfl ?_
      exact e_sortOrder_9 hw V ih n x1 x2 x2 s y4 hy4 y5 hy5 _ hr
    · replace hr := (if_neg c1).symm.trans hr
      cases hr
      exact Ev.vreturn rfl (d33 47 rfl)
def f_sortOrder (n : Nat) (a0 : Int32) (s : St) : Option (St) :=
  f_sortOrder_2 n n a0 (1 : Int32) s
set_option maxRecDepth 100000 in
theorem e_sortOrder {g : GT} {n : Nat} {a0 : Int32} {s : St} {w : St} (hw : HW g) {K : St → MHeap} {o : Nat} {r : Nat → Nat} (V : View (GG g) Ln K o r) (hr : f_sortOrder n a0 s = some w) : EvC (GG g) M_sortOrder [.ref o, .int a0] (K s) (none, (K w)) := by
  refine EvC.enter (L0 := [.val (.ref o), .val (.int a0), .unset, .unset, .unset, .unset]) pl_sortOrder (fun _ => rfl) rfl rfl ?_
  unfold f_sortOrder at hr
  refine Ev.iconst (z := 1) (d33 0 rfl) rfl ?_
  refine Ev.istDN (L' := [.val (.ref o), .val (.int a0), .val (.int (1 : Int32)), .unset, .unset, .unset]) (d33 1 rfl) rfl rfl rfl ?_
  exact e_sortOrder_2 hw V  n a0 (1 : Int32) s .unset rfl .unset rfl .unset rfl _ hr
def f_copyOne (a0 : Int32) (a1 : Int32) (s : St) : Option (St) :=
  if a0 < 0 then
    some s
  else
    if a0 < (256 : Int32) then
      if a1 < 0 then
        some s
      else
        if a1 < (256 : Int32) then
          grd (inb a0 256) <|
          grd (inb a1 256) <|
          bnd (setA s 0 (ix a1) (s.2 0 (ix a0))) fun s7 =>
          some s7
        else
          some s
    else
      some s
set_option maxRecDepth 100000 in
theorem e_copyOne {g : GT} {a0 : Int32} {a1 : Int32} {s : St} {w : St} (hw : HW g) {K : St → MHeap} {o : Nat} {r : Nat → Nat} (V : View (GG g) Ln K o r) (hr : f_copyOne a0 a1 s = some w) : EvC (GG g) M_copyOne [.ref o, .int a0, .int a1] (K s) (none, (K w)) := by
  refine EvC.enter (L0 := [.val (.ref o), .val (.int a0), .val (.int a1)]) pl_copyOne (fun _ => rfl) rfl rfl ?_
  unfold f_copyOne at hr
  refine Ev.iloadN (d26 0 rfl) rfl ?_
  refine Ev.iflt (t := 34) (d26 1 rfl) rfl (fun c1 => ?_) (fun c1 => ?_)
  · replace hr := (if_pos c1).symm.trans hr
    cases hr
    exact Ev.vreturn rfl (d26 18 rfl)
  · replace hr := (if_neg c1).symm.trans hr
    refine Ev.iloadN (d26 2 rfl) rfl ?_
    refine Ev.sipush (z := 256) (d26 3 rfl) rfl ?_
    refine Ev.icge (t := 34) (d26 4 rfl) rfl (fun c2 => ?_) (fun c2 => ?_)
    · replace hr := (if_pos c2).symm.trans hr
      refine Ev.iloadN (d26 5 rfl) rfl ?_
      refine Ev.iflt (t := 34) (d26 6 rfl) rfl (fun c3 => ?_) (fun c3 => ?_)
      · replace hr := (if_pos c3).symm.trans hr
        cases hr
        exact Ev.vreturn rfl (d26 18 rfl)
      · replace hr := (if_neg c3).symm.trans hr
        refine Ev.iloadN (d26 7 rfl) rfl ?_
        refine Ev.sipush (z := 256) (d26 8 rfl) rfl ?_
        refine Ev.icge (t := 34) (d26 9 rfl) rfl (fun c4 => ?_) (fun c4 => ?_)
        · replace hr := (if_pos c4).symm.trans hr
          refine Ev.aloadN (d26 10 rfl) rfl ?_
          refine Ev.gAr V (ww hw 14 rfl) (d26 11 rfl) (j := 0) rfl ?_
          refine Ev.iloadN (d26 12 rfl) rfl ?_
          refine Ev.aloadN (d26 13 rfl) rfl ?_
          refine Ev.gAr V (ww hw 14 rfl) (d26 14 rfl) (j := 0) rfl ?_
          refine Ev.iloadN (d26 15 rfl) rfl ?_
          obtain ⟨b5, hr⟩ := grd_some hr
          refine Ev.ial V (j := 0) rfl rfl (d26 16 rfl) b5 ?_
          obtain ⟨b6, hr⟩ := grd_some hr
          refine Ev.ias V (j := 0) rfl rfl (d26 17 rfl) b6 ?_
          revert hr
          generalize setA s 0 (ix a1) (s.2 0 (ix a0)) = s7
          intro hr
          replace hr := (bnd_eq _ _).symm.trans hr
          cases hr
          exact Ev.vreturn rfl (d26 18 rfl)
        · replace hr := (if_neg c4).symm.trans hr
          cases hr
          exact Ev.vreturn rfl (d26 18 rfl)
    · replace hr := (if_neg c2).symm.trans hr
      cases hr
      exact Ev.vreturn rfl (d26 18 rfl)
def f_copyWords_8 (n : Nat) : Nat → Int32 → Int32 → Int32 → Int32 → St → Option (St)
  | 0 => fun _ _ _ _ _ => none
  | k + 1 => fun x1 x2 x3 x4 s =>
    if x4 < x3 then
      (f_copyOne (x1 + x4) (x2 + x4) s).bind fun q2 =>
      f_copyWords_8 n k x1 x2 x3 (x4 + (1 : Int32)) q2
    else
      some s
set_option maxRecDepth 100000 in
theorem e_copyWords_8 {g : GT} {n : Nat} (hw : HW g) {K : St → MHeap} {o : Nat} {r : Nat → Nat} (V : View (GG g) Ln K o r) (k : Nat) : ∀ (x1 : Int32) (x2 : Int32) (x3 : Int32) (x4 : Int32) (s : St) (w : St), f_copyWords_8 n k x1 x2 x3 x4 s = some w → Ev (GG g) M_copyWords 8 [.val (.ref o), .val (.int x1), .val (.int x2), .val (.int x3), .val (.int x4)] [] (K s) (none, (K w)) := by
  induction k with
  | zero => intro x1 x2 x3 x4 s w hr; rw [f_copyWords_8] at hr; cases hr
  | succ k ih =>
    intro x1 x2 x3 x4 s w hr
    rw [f_copyWords_8] at hr
    refine Ev.iload (d25 5 rfl) rfl ?_
    refine Ev.iloadN (d25 6 rfl) rfl ?_
    refine Ev.icge (t := 32) (d25 7 rfl) rfl (fun c1 => ?_) (fun c1 => ?_)
    · replace hr := (if_pos c1).symm.trans hr
      refine Ev.aloadN (d25 8 rfl) rfl ?_
      refine Ev.iloadN (d25 9 rfl) rfl ?_
      refine Ev.iload (d25 10 rfl) rfl ?_
      refine Ev.iadd (d25 11 rfl) ?_
      refine Ev.iloadN (d25 12 rfl) rfl ?_
      refine Ev.iload (d25 13 rfl) rfl ?_
      refine Ev.iadd (d25 14 rfl) ?_
      obtain ⟨q2, hq3, hr⟩ := Option.bind_eq_some_iff.mp hr
      refine Ev.priv (y := M_copyOne) (args := [.int (x1 + x4), .int (x2 + x4)]) (rest := []) (gok hw) rfl nm_copyOne (ww hw 137 rfl) (ww hw 138 rfl) (ww hw 139 rfl) (ww hw 140 rfl) (lenOf pd_copyOne rfl) (d25 15 rfl) (V.2.1 s) (e_copyOne hw V hq3) (by decide) (Nat.le_of_ble_eq_true rfl) rfl ?_
      refine Ev.iinc (z := 1) (L' := [.val (.ref o), .val (.int x1), .val (.int x2), .val (.int x3), .val (.int (x4 + (1 : Int32)))]) (d25 16 rfl) rfl rfl rfl ?_
      refine Ev.goto (t := 8) (d25 17 rfl) rfl ?_
      exact ih x1 x2 x3 (x4 + (1 : Int32)) q2  _ hr
    · replace hr := (if_neg c1).symm.trans hr
      refine Ev.goto (t := 63) (d25 18 rfl) rfl ?_
      cases hr
      exact Ev.vreturn rfl (d25 35 rfl)
def f_copyWords_40 (n : Nat) : Nat → Int32 → Int32 → Int32 → St → Option (St)
  | 0 => fun _ _ _ _ => none
  | k + 1 => fun x1 x2 x4 s =>
    if x4 < 0 then
      some s
    else
      (f_copyOne (x1 + x4) (x2 + x4) s).bind fun q2 =>
      f_copyWords_40 n k x1 x2 (x4 + (-1 : Int32)) q2
set_option maxRecDepth 100000 in
theorem e_copyWords_40 {g : GT} {n : Nat} (hw : HW g) {K : St → MHeap} {o : Nat} {r : Nat → Nat} (V : View (GG g) Ln K o r) (k : Nat) : ∀ (x1 : Int32) (x2 : Int32) (x4 : Int32) (s : St) (y3 : Slot) (hy3 : one1 y3 = true) (w : St), f_copyWords_40 n k x1 x2 x4 s = some w → Ev (GG g) M_copyWords 40 [.val (.ref o), .val (.int x1), .val (.int x2), y3, .val (.int x4)] [] (K s) (none, (K w)) := by
  induction k with
  | zero => intro x1 x2 x4 s y3 hy3 w hr; rw [f_copyWords_40] at hr; cases hr
  | succ k ih =>
    intro x1 x2 x4 s y3 hy3 w hr
    rw [f_copyWords_40] at hr
    refine Ev.iload (d25 23 rfl) rfl ?_
    refine Ev.iflt (t := 63) (d25 24 rfl) rfl (fun c1 => ?_) (fun c1 => ?_)
    · replace hr := (if_pos c1).symm.trans hr
      cases hr
      exact Ev.vreturn rfl (d25 35 rfl)
    · replace hr := (if_neg c1).symm.trans hr
      refine Ev.aloadN (d25 25 rfl) rfl ?_
      refine Ev.iloadN (d25 26 rfl) rfl ?_
      refine Ev.iload (d25 27 rfl) rfl ?_
      refine Ev.iadd (d25 28 rfl) ?_
      refine Ev.iloadN (d25 29 rfl) rfl ?_
      refine Ev.iload (d25 30 rfl) rfl ?_
      refine Ev.iadd (d25 31 rfl) ?_
      obtain ⟨q2, hq3, hr⟩ := Option.bind_eq_some_iff.mp hr
      refine Ev.priv (y := M_copyOne) (args := [.int (x1 + x4), .int (x2 + x4)]) (rest := []) (gok hw) rfl nm_copyOne (ww hw 137 rfl) (ww hw 138 rfl) (ww hw 139 rfl) (ww hw 140 rfl) (lenOf pd_copyOne rfl) (d25 32 rfl) (V.2.1 s) (e_copyOne hw V hq3) (by decide) (Nat.le_of_ble_eq_true rfl) rfl ?_
      refine Ev.iinc (z := -1) (L' := [.val (.ref o), .val (.int x1), .val (.int x2), y3, .val (.int (x4 + (-1 : Int32)))]) (d25 33 rfl) rfl rfl rfl ?_
      refine Ev.goto (t := 40) (d25 34 rfl) rfl ?_
      exact ih x1 x2 (x4 + (-1 : Int32)) q2 y3 hy3 _ hr
def f_copyWords (n : Nat) (a0 : Int32) (a1 : Int32) (a2 : Int32) (s : St) : Option (St) :=
  if a0 < a1 then
    f_copyWords_40 n n a0 a1 (a2 - (1 : Int32)) s
  else
    f_copyWords_8 n n a0 a1 a2 (0 : Int32) s
set_option maxRecDepth 100000 in
theorem e_copyWords {g : GT} {n : Nat} {a0 : Int32} {a1 : Int32} {a2 : Int32} {s : St} {w : St} (hw : HW g) {K : St → MHeap} {o : Nat} {r : Nat → Nat} (V : View (GG g) Ln K o r) (hr : f_copyWords n a0 a1 a2 s = some w) : EvC (GG g) M_copyWords [.ref o, .int a0, .int a1, .int a2] (K s) (none, (K w)) := by
  refine EvC.enter (L0 := [.val (.ref o), .val (.int a0), .val (.int a1), .val (.int a2), .unset]) pl_copyWords (fun _ => rfl) rfl rfl ?_
  unfold f_copyWords at hr
  refine Ev.iloadN (d25 0 rfl) rfl ?_
  refine Ev.iloadN (d25 1 rfl) rfl ?_
  refine Ev.icgt (t := 35) (d25 2 rfl) rfl (fun c1 => ?_) (fun c1 => ?_)
  · replace hr := (if_pos c1).symm.trans hr
    refine Ev.iloadN (d25 19 rfl) rfl ?_
    refine Ev.iconst (z := 1) (d25 20 rfl) rfl ?_
    refine Ev.isub (d25 21 rfl) ?_
    refine Ev.istD (L' := [.val (.ref o), .val (.int a0), .val (.int a1), .val (.int a2), .val (.int (a2 - (1 : Int32)))]) (d25 22 rfl) rfl rfl rfl ?_
    exact e_copyWords_40 hw V  n a0 a1 (a2 - (1 : Int32)) s (.val (.int a2)) rfl _ hr
  · replace hr := (if_neg c1).symm.trans hr
    refine Ev.iconst (z := 0) (d25 3 rfl) rfl ?_
    refine Ev.istD (L' := [.val (.ref o), .val (.int a0), .val (.int a1), .val (.int a2), .val (.int (0 : Int32))]) (d25 4 rfl) rfl rfl rfl ?_
    exact e_copyWords_8 hw V  n a0 a1 a2 (0 : Int32) s  _ hr
def f_moveBlock_34 (n : Nat) (x1 : Int32) (x2 : Int32) (x3 : Int32) (s : St) : Option (St) :=
  grd (inb x1 32) <|
  (f_copyWords n (s.2 3 (ix x1)) x3 x2 s).bind fun q2 =>
  bnd (setA q2 3 (ix x1) x3) fun s4 =>
  (f_markBlock n x1 s4).bind fun q5 =>
  some q5
set_option maxRecDepth 100000 in
theorem e_moveBlock_34 {g : GT} {n : Nat} (hw : HW g) {K : St → MHeap} {o : Nat} {r : Nat → Nat} (V : View (GG g) Ln K o r) (x1 : Int32) (x2 : Int32) (x3 : Int32) (s : St) (w : St) (hr : f_moveBlock_34 n x1 x2 x3 s = some w) : Ev (GG g) M_moveBlock 34 [.val (.ref o), .val (.int x1), .val (.int x2), .val (.int x3)] [] (K s) (none, (K w)) := by
  unfold f_moveBlock_34 at hr
  refine Ev.aloadN (d34 22 rfl) rfl ?_
  refine Ev.aloadN (d34 23 rfl) rfl ?_
  refine Ev.gAr V (ww hw 21 rfl) (d34 24 rfl) (j := 3) rfl ?_
  refine Ev.iloadN (d34 25 rfl) rfl ?_
  obtain ⟨b1, hr⟩ := grd_some hr
  refine Ev.ial V (j := 3) rfl rfl (d34 26 rfl) b1 ?_
  refine Ev.iloadN (d34 27 rfl) rfl ?_
  refine Ev.iloadN (d34 28 rfl) rfl ?_
  obtain ⟨q2, hq3, hr⟩ := Option.bind_eq_some_iff.mp hr
  refine Ev.priv (y := M_copyWords) (args := [.int (s.2 3 (ix x1)), .int x3, .int x2]) (rest := []) (gok hw) rfl nm_copyWords (ww hw 133 rfl) (ww hw 134 rfl) (ww hw 135 rfl) (ww hw 136 rfl) (lenOf pd_copyWords rfl) (d34 29 rfl) (V.2.1 s) (e_copyWords hw V hq3) (by decide) (Nat.le_of_ble_eq_true rfl) rfl ?_
  refine Ev.aloadN (d34 30 rfl) rfl ?_
  refine Ev.gAr V (ww hw 21 rfl) (d34 31 rfl) (j := 3) rfl ?_
  refine Ev.iloadN (d34 32 rfl) rfl ?_
  refine Ev.iloadN (d34 33 rfl) rfl ?_
  refine Ev.ias V (j := 3) rfl rfl (d34 34 rfl) b1 ?_
  revert hr
  generalize setA q2 3 (ix x1) x3 = s4
  intro hr
  replace hr := (bnd_eq _ _).symm.trans hr
  refine Ev.aloadN (d34 35 rfl) rfl ?_
  refine Ev.iloadN (d34 36 rfl) rfl ?_
  obtain ⟨q5, hq6, hr⟩ := Option.bind_eq_some_iff.mp hr
  refine Ev.priv (y := M_markBlock) (args := [.int x1]) (rest := []) (gok hw) rfl nm_markBlock (ww hw 116 rfl) (ww hw 117 rfl) (ww hw 118 rfl) (ww hw 119 rfl) (lenOf pd_markBlock rfl) (d34 37 rfl) (V.2.1 s4) (e_markBlock hw V hq6) (by decide) (Nat.le_of_ble_eq_true rfl) rfl ?_
  cases hr
  exact Ev.vreturn rfl (d34 38 rfl)
def f_moveBlock_27 (n : Nat) (x1 : Int32) (x2 : Int32) (s : St) : Option (St) :=
  grd (inb x1 32) <|
  f_moveBlock_34 n x1 x2 (s.2 3 (ix x1)) s
set_option maxRecDepth 100000 in
theorem e_moveBlock_27 {g : GT} {n : Nat} (hw : HW g) {K : St → MHeap} {o : Nat} {r : Nat → Nat} (V : View (GG g) Ln K o r) (x1 : Int32) (x2 : Int32) (s : St) (y3 : Slot) (hy3 : one1 y3 = true) (w : St) (hr : f_moveBlock_27 n x1 x2 s = some w) : Ev (GG g) M_moveBlock 27 [.val (.ref o), .val (.int x1), .val (.int x2), y3] [] (K s) (none, (K w)) := by
  unfold f_moveBlock_27 at hr
  refine Ev.aloadN (d34 17 rfl) rfl ?_
  refine Ev.gAr V (ww hw 21 rfl) (d34 18 rfl) (j := 3) rfl ?_
  refine Ev.iloadN (d34 19 rfl) rfl ?_
  obtain ⟨b1, hr⟩ := grd_some hr
  refine Ev.ial V (j := 3) rfl rfl (d34 20 rfl) b1 ?_
  refine Ev.istDN (L' := [.val (.ref o), .val (.int x1), .val (.int x2), .val (.int (s.2 3 (ix x1)))]) (d34 21 rfl) rfl hy3 rfl ?_
  exact e_moveBlock_34 hw V  x1 x2 (s.2 3 (ix x1)) s  _ hr
def f_moveBlock (n : Nat) (a0 : Int32) (s : St) : Option (St) :=
  grd (inb a0 32) <|
  (f_firstRun n s (s.2 4 (ix a0))).bind fun q2 =>
  if q2 < 0 then
    f_moveBlock_27 n a0 (s.2 4 (ix a0)) s
  else
    if (s.2 3 (ix a0)) < q2 then
      f_moveBlock_27 n a0 (s.2 4 (ix a0)) s
    else
      f_moveBlock_34 n a0 (s.2 4 (ix a0)) q2 s
set_option maxRecDepth 100000 in
theorem e_moveBlock {g : GT} {n : Nat} {a0 : Int32} {s : St} {w : St} (hw : HW g) {K : St → MHeap} {o : Nat} {r : Nat → Nat} (V : View (GG g) Ln K o r) (hr : f_moveBlock n a0 s = some w) : EvC (GG g) M_moveBlock [.ref o, .int a0] (K s) (none, (K w)) := by
  refine EvC.enter (L0 := [.val (.ref o), .val (.int a0), .unset, .unset]) pl_moveBlock (fun _ => rfl) rfl rfl ?_
  unfold f_moveBlock at hr
  refine Ev.aloadN (d34 0 rfl) rfl ?_
  refine Ev.gAr V (ww hw 23 rfl) (d34 1 rfl) (j := 4) rfl ?_
  refine Ev.iloadN (d34 2 rfl) rfl ?_
  obtain ⟨b1, hr⟩ := grd_some hr
  refine Ev.ial V (j := 4) rfl rfl (d34 3 rfl) b1 ?_
  refine Ev.istDN (L' := [.val (.ref o), .val (.int a0), .val (.int (s.2 4 (ix a0))), .unset]) (d34 4 rfl) rfl rfl rfl ?_
  refine Ev.aloadN (d34 5 rfl) rfl ?_
  refine Ev.iloadN (d34 6 rfl) rfl ?_
  obtain ⟨q2, hq3, hr⟩ := Option.bind_eq_some_iff.mp hr
  refine Ev.priv (y := M_firstRun) (args := [.int (s.2 4 (ix a0))]) (rest := []) (gok hw) rfl nm_firstRun (ww hw 90 rfl) (ww hw 91 rfl) (ww hw 92 rfl) (ww hw 93 rfl) (lenOf pd_firstRun rfl) (d34 7 rfl) (V.2.1 s) (e_firstRun hw V hq3) (by decide) (Nat.le_of_ble_eq_true rfl) rfl ?_
  refine Ev.istDN (L' := [.val (.ref o), .val (.int a0), .val (.int (s.2 4 (ix a0))), .val (.int q2)]) (d34 8 rfl) rfl rfl rfl ?_
  refine Ev.iloadN (d34 9 rfl) rfl ?_
  refine Ev.iflt (t := 27) (d34 10 rfl) rfl (fun c4 => ?_) (fun c4 => ?_)
  · replace hr := (if_pos c4).symm.trans hr
    exact e_moveBlock_27 hw V  a0 (s.2 4 (ix a0)) s (.val (.int q2)) rfl _ hr
  · replace hr := (if_neg c4).symm.trans hr
    refine Ev.iloadN (d34 11 rfl) rfl ?_
    refine Ev.aloadN (d34 12 rfl) rfl ?_
    refine Ev.gAr V (ww hw 21 rfl) (d34 13 rfl) (j := 3) rfl ?_
    refine Ev.iloadN (d34 14 rfl) rfl ?_
    refine Ev.ial V (j := 3) rfl rfl (d34 15 rfl) b1 ?_
    refine Ev.icle (t := 34) (d34 16 rfl) rfl (fun c5 => ?_) (fun c5 => ?_)
    · replace hr := (if_pos c5).symm.trans hr
      exact e_moveBlock_27 hw V  a0 (s.2 4 (ix a0)) s (.val (.int q2)) rfl _ hr
    · replace hr := (if_neg c5).symm.trans hr
      exact e_moveBlock_34 hw V  a0 (s.2 4 (ix a0)) q2 s  _ hr
def f_compactRun_40 (n : Nat) (k8 : Int32 → Int32 → Int32 → St → Option (St)) (x1 : Int32) (x2 : Int32) (x3 : Int32) (s : St) : Option (St) :=
  (f_markBlock n x3 s).bind fun q1 =>
  k8 x1 x2 (x3 + (1 : Int32)) q1
set_option maxRecDepth 100000 in
theorem e_compactRun_40 {g : GT} {n : Nat} (hw : HW g) {K : St → MHeap} {o : Nat} {r : Nat → Nat} (V : View (GG g) Ln K o r) {k8 : Int32 → Int32 → Int32 → St → Option (St)} (hk8 : ∀ (x1 : Int32) (x2 : Int32) (x3 : Int32) (s : St) (w : St), k8 x1 x2 x3 s = some w → Ev (GG g) M_compactRun 8 [.val (.ref o), .val (.int x1), .val (.int x2), .val (.int x3)] [] (K s) (none, (K w))) (x1 : Int32) (x2 : Int32) (x3 : Int32) (s : St) (w : St) (hr : f_compactRun_40 n k8 x1 x2 x3 s = some w) : Ev (GG g) M_compactRun 40 [.val (.ref o), .val (.int x1), .val (.int x2), .val (.int x3)] [] (K s) (none, (K w)) := by
  unfold f_compactRun_40 at hr
  refine Ev.aloadN (d32 24 rfl) rfl ?_
  refine Ev.iloadN (d32 25 rfl) rfl ?_
  obtain ⟨q1, hq2, hr⟩ := Option.bind_eq_some_iff.mp hr
  refine Ev.priv (y := M_markBlock) (args := [.int x3]) (rest := []) (gok hw) rfl nm_markBlock (ww hw 116 rfl) (ww hw 117 rfl) (ww hw 118 rfl) (ww hw 119 rfl) (lenOf pd_markBlock rfl) (d32 26 rfl) (V.2.1 s) (e_markBlock hw V hq2) (by decide) (Nat.le_of_ble_eq_true rfl) rfl ?_
  refine Ev.goto (t := 58) (d32 27 rfl) rfl ?_
  refine Ev.iinc (z := 1) (L' := [.val (.ref o), .val (.int x1), .val (.int x2), .val (.int (x3 + (1 : Int32)))]) (d32 34 rfl) rfl rfl rfl ?_
  refine Ev.goto (t := 8) (d32 35 rfl) rfl ?_
  exact hk8 x1 x2 (x3 + (1 : Int32)) q1  _ hr
def f_compactRun_71 (n : Nat) : Nat → Int32 → Int32 → St → Option (St)
  | 0 => fun _ _ _ => none
  | k + 1 => fun x2 x3 s =>
    if x3 < x2 then
      grd (inb x3 32) <|
      (f_moveBlock n (s.2 6 (ix x3)) s).bind fun q3 =>
      f_compactRun_71 n k x2 (x3 + (1 : Int32)) q3
    else
      some s
set_option maxRecDepth 100000 in
theorem e_compactRun_71 {g : GT} {n : Nat} (hw : HW g) {K : St → MHeap} {o : Nat} {r : Nat → Nat} (V : View (GG g) Ln K o r) (k : Nat) : ∀ (x2 : Int32) (x3 : Int32) (s : St) (y1 : Slot) (hy1 : one1 y1 = true) (w : St), f_compactRun_71 n k x2 x3 s = some w → Ev (GG g) M_compactRun 71 [.val (.ref o), y1, .val (.int x2), .val (.int x3)] [] (K s) (none, (K w)) := by
  induction k with
  | zero => intro x2 x3 s y1 hy1 w hr; rw [f_compactRun_71] at hr; cases hr
  | succ k ih =>
    intro x2 x3 s y1 hy1 w hr
    rw [f_compactRun_71] at hr
    refine Ev.iloadN (d32 41 rfl) rfl ?_
    refine Ev.iloadN (d32 42 rfl) rfl ?_
    refine Ev.icge (t := 92) (d32 43 rfl) rfl (fun c1 => ?_) (fun c1 => ?_)
    · replace hr := (if_pos c1).symm.trans hr
      refine Ev.aloadN (d32 44 rfl) rfl ?_
      refine Ev.aloadN (d32 45 rfl) rfl ?_
      refine Ev.gAr V (ww hw 27 rfl) (d32 46 rfl) (j := 6) rfl ?_
      refine Ev.iloadN (d32 47 rfl) rfl ?_
      obtain ⟨b2, hr⟩ := grd_some hr
      refine Ev.ial V (j := 6) rfl rfl (d32 48 rfl) b2 ?_
      obtain ⟨q3, hq4, hr⟩ := Option.bind_eq_some_iff.mp hr
      refine Ev.priv (y := M_moveBlock) (args := [.int (s.2 6 (ix x3))]) (rest := []) (gok hw) rfl nm_moveBlock (ww hw 172 rfl) (ww hw 173 rfl) (ww hw 174 rfl) (ww hw 175 rfl) (lenOf pd_moveBlock rfl) (d32 49 rfl) (V.2.1 s) (e_moveBlock hw V hq4) (by decide) (Nat.le_of_ble_eq_true rfl) rfl ?_
      refine Ev.iinc (z := 1) (L' := [.val (.ref o), y1, .val (.int x2), .val (.int (x3 + (1 : Int32)))]) (d32 50 rfl) rfl rfl rfl ?_
      refine Ev.goto (t := 71) (d32 51 rfl) rfl ?_
      exact ih x2 (x3 + (1 : Int32)) q3 y1 hy1 _ hr
    · replace hr := (if_neg c1).symm.trans hr
      cases hr
      exact Ev.vreturn rfl (d32 52 rfl)
def f_compactRun_8 (n : Nat) : Nat → Int32 → Int32 → Int32 → St → Option (St)
  | 0 => fun _ _ _ _ => none
  | k + 1 => fun x1 x2 x3 s =>
    if x3 < (s.1 10) then
      grd (inb x3 32) <|
      if (s.2 2 (ix x3)) = (1 : Int32) then
        if (s.2 7 (ix x3)) = 0 then
          if x3 = x1 then
            f_compactRun_40 n (f_compactRun_8 n k) x1 x2 x3 s
          else
            grd (inb x2 32) <|
            bnd (setA s 6 (ix x2) x3) fun s7 =>
            f_compactRun_8 n k x1 (x2 + (1 : Int32)) (x3 + (1 : Int32)) s7
        else
          f_compactRun_40 n (f_compactRun_8 n k) x1 x2 x3 s
      else
        f_compactRun_8 n k x1 x2 (x3 + (1 : Int32)) s
    else
      (f_sortOrder n x2 s).bind fun q8 =>
      f_compactRun_71 n n x2 (0 : Int32) q8
set_option maxRecDepth 100000 in
theorem e_compactRun_8 {g : GT} {n : Nat} (hw : HW g) {K : St → MHeap} {o : Nat} {r : Nat → Nat} (V : View (GG g) Ln K o r) (k : Nat) : ∀ (x1 : Int32) (x2 : Int32) (x3 : Int32) (s : St) (w : St), f_compactRun_8 n k x1 x2 x3 s = some w → Ev (GG g) M_compactRun 8 [.val (.ref o), .val (.int x1), .val (.int x2), .val (.int x3)] [] (K s) (none, (K w)) := by
  induction k with
  | zero => intro x1 x2 x3 s w hr; rw [f_compactRun_8] at hr; cases hr
  | succ k ih =>
    intro x1 x2 x3 s w hr
    rw [f_compactRun_8] at hr
    refine Ev.iloadN (d32 6 rfl) rfl ?_
    refine Ev.aloadN (d32 7 rfl) rfl ?_
    refine Ev.gI V (ww hw 35 rfl) (d32 8 rfl) (j := 10) rfl rfl ?_
    refine Ev.icge (t := 64) (d32 9 rfl) rfl (fun c1 => ?_) (fun c1 => ?_)
    · replace hr := (if_pos c1).symm.trans hr
      refine Ev.aloadN (d32 10 rfl) rfl ?_
      refine Ev.gAr V (ww hw 19 rfl) (d32 11 rfl) (j := 2) rfl ?_
      refine Ev.iloadN (d32 12 rfl) rfl ?_
      obtain ⟨b2, hr⟩ := grd_some hr
      refine Ev.ial V (j := 2) rfl rfl (d32 13 rfl) b2 ?_
      refine Ev.iconst (z := 1) (d32 14 rfl) rfl ?_
      refine Ev.icne (t := 58) (d32 15 rfl) rfl (fun c3 => ?_) (fun c3 => ?_)
      · replace hr := (if_pos c3).symm.trans hr
        refine Ev.aloadN (d32 16 rfl) rfl ?_
        refine Ev.gAr V (ww hw 29 rfl) (d32 17 rfl) (j := 7) rfl ?_
        refine Ev.iloadN (d32 18 rfl) rfl ?_
        refine Ev.bal V (j := 7) rfl rfl (d32 19 rfl) b2 ?_
        refine Ev.ifne (t := 40) (d32 20 rfl) rfl (fun c4 => ?_) (fun c4 => ?_)
        · replace hr := (if_pos c4).symm.trans hr
          refine Ev.iloadN (d32 21 rfl) rfl ?_
          refine Ev.iloadN (d32 22 rfl) rfl ?_
          refine Ev.icne (t := 48) (d32 23 rfl) rfl (fun c5 => ?_) (fun c5 => ?_)
          · replace hr := (if_pos c5).symm.trans hr
            exact e_compactRun_40 hw V ih x1 x2 x3 s  _ hr
          · replace hr := (if_neg c5).symm.trans hr
            refine Ev.aloadN (d32 28 rfl) rfl ?_
            refine Ev.gAr V (ww hw 27 rfl) (d32 29 rfl) (j := 6) rfl ?_
            refine Ev.iloadN (d32 30 rfl) rfl ?_
            refine Ev.iloadN (d32 31 rfl) rfl ?_
            obtain ⟨b6, hr⟩ := grd_some hr
            refine Ev.ias V (j := 6) rfl rfl (d32 32 rfl) b6 ?_
            revert hr
            generalize setA s 6 (ix x2) x3 = s7
            intro hr
            replace hr := (bnd_eq _ _).symm.trans hr
            refine Ev.iinc (z := 1) (L' := [.val (.ref o), .val (.int x1), .val (.int (x2 + (1 : Int32))), .val (.int x3)]) (d32 33 rfl) rfl rfl rfl ?_
            refine Ev.iinc (z := 1) (L' := [.val (.ref o), .val (.int x1), .val (.int (x2 + (1 : Int32))), .val (.int (x3 + (1 : Int32)))]) (d32 34 rfl) rfl rfl rfl ?_
            refine Ev.goto (t := 8) (d32 35 rfl) rfl ?_
            exact ih x1 (x2 + (1 : Int32)) (x3 + (1 : Int32)) s7  _ hr
        · replace hr := (if_neg c4).symm.trans hr
          exact e_compactRun_40 hw V ih x1 x2 x3 s  _ hr
      · replace hr := (if_neg c3).symm.trans hr
        refine Ev.iinc (z := 1) (L' := [.val (.ref o), .val (.int x1), .val (.int x2), .val (.int (x3 + (1 : Int32)))]) (d32 34 rfl) rfl rfl rfl ?_
        refine Ev.goto (t := 8) (d32 35 rfl) rfl ?_
        exact ih x1 x2 (x3 + (1 : Int32)) s  _ hr
    · replace hr := (if_neg c1).symm.trans hr
      refine Ev.aloadN (d32 36 rfl) rfl ?_
      refine Ev.iloadN (d32 37 rfl) rfl ?_
      obtain ⟨q8, hq9, hr⟩ := Option.bind_eq_some_iff.mp hr
      refine Ev.priv (y := M_sortOrder) (args := [.int x2]) (rest := []) (gok hw) rfl nm_sortOrder (ww hw 168 rfl) (ww hw 169 rfl) (ww hw 170 rfl) (ww hw 171 rfl) (lenOf pd_sortOrder rfl) (d32 38 rfl) (V.2.1 s) (e_sortOrder hw V hq9) (by decide) (Nat.le_of_ble_eq_true rfl) rfl ?_
      refine Ev.iconst (z := 0) (d32 39 rfl) rfl ?_
      refine Ev.istDN (L' := [.val (.ref o), .val (.int x1), .val (.int x2), .val (.int (0 : Int32))]) (d32 40 rfl) rfl rfl rfl ?_
      exact e_compactRun_71 hw V  n x2 (0 : Int32) q8 (.val (.int x1)) rfl _ hr
def f_compactRun (n : Nat) (a0 : Int32) (s : St) : Option (St) :=
  (f_clearMark n s).bind fun q1 =>
  f_compactRun_8 n n a0 (0 : Int32) (0 : Int32) q1
set_option maxRecDepth 100000 in
theorem e_compactRun {g : GT} {n : Nat} {a0 : Int32} {s : St} {w : St} (hw : HW g) {K : St → MHeap} {o : Nat} {r : Nat → Nat} (V : View (GG g) Ln K o r) (hr : f_compactRun n a0 s = some w) : EvC (GG g) M_compactRun [.ref o, .int a0] (K s) (none, (K w)) := by
  refine EvC.enter (L0 := [.val (.ref o), .val (.int a0), .unset, .unset]) pl_compactRun (fun _ => rfl) rfl rfl ?_
  unfold f_compactRun at hr
  refine Ev.aloadN (d32 0 rfl) rfl ?_
  obtain ⟨q1, hq2, hr⟩ := Option.bind_eq_some_iff.mp hr
  refine Ev.priv (y := M_clearMark) (args := []) (rest := []) (gok hw) rfl nm_clearMark (ww hw 86 rfl) (ww hw 87 rfl) (ww hw 88 rfl) (ww hw 89 rfl) (lenOf pd_clearMark rfl) (d32 1 rfl) (V.2.1 s) (e_clearMark hw V hq2) (by decide) (Nat.le_of_ble_eq_true rfl) rfl ?_
  refine Ev.iconst (z := 0) (d32 2 rfl) rfl ?_
  refine Ev.istDN (L' := [.val (.ref o), .val (.int a0), .val (.int (0 : Int32)), .unset]) (d32 3 rfl) rfl rfl rfl ?_
  refine Ev.iconst (z := 0) (d32 4 rfl) rfl ?_
  refine Ev.istDN (L' := [.val (.ref o), .val (.int a0), .val (.int (0 : Int32)), .val (.int (0 : Int32))]) (d32 5 rfl) rfl rfl rfl ?_
  exact e_compactRun_8 hw V  n a0 (0 : Int32) (0 : Int32) q1  _ hr
def f_victim_64 (n : Nat) (s : St) (k4 : Int32 → Int32 → Int32 → Option (Int32)) (x1 : Int32) (x3 : Int32) : Option (Int32) :=
  k4 x1 x3 (x3 + (1 : Int32))
set_option maxRecDepth 100000 in
theorem e_victim_64 {g : GT} {n : Nat} {s : St} (hw : HW g) {K : St → MHeap} {o : Nat} {r : Nat → Nat} (V : View (GG g) Ln K o r) {k4 : Int32 → Int32 → Int32 → Option (Int32)} (hk4 : ∀ (x1 : Int32) (x2 : Int32) (x3 : Int32) (w : Int32), k4 x1 x2 x3 = some w → Ev (GG g) M_victim 4 [.val (.ref o), .val (.int x1), .val (.int x2), .val (.int x3)] [] (K s) ((some (.int w)), (K s))) (x1 : Int32) (x3 : Int32) (y2 : Slot) (hy2 : one1 y2 = true) (w : Int32) (hr : f_victim_64 n s k4 x1 x3 = some w) : Ev (GG g) M_victim 64 [.val (.ref o), .val (.int x1), y2, .val (.int x3)] [] (K s) ((some (.int w)), (K s)) := by
  unfold f_victim_64 at hr
  refine Ev.iloadN (d39 38 rfl) rfl ?_
  refine Ev.istDN (L' := [.val (.ref o), .val (.int x1), .val (.int x3), .val (.int x3)]) (d39 39 rfl) rfl hy2 rfl ?_
  refine Ev.iinc (z := 1) (L' := [.val (.ref o), .val (.int x1), .val (.int x3), .val (.int (x3 + (1 : Int32)))]) (d39 40 rfl) rfl rfl rfl ?_
  refine Ev.goto (t := 4) (d39 41 rfl) rfl ?_
  exact hk4 x1 x3 (x3 + (1 : Int32))  _ hr
def f_victim_4 (n : Nat) (s : St) : Nat → Int32 → Int32 → Int32 → Option (Int32)
  | 0 => fun _ _ _ => none
  | k + 1 => fun x1 x2 x3 =>
    if x3 < (s.1 10) then
      grd (inb x3 32) <|
      if (s.2 2 (ix x3)) = (1 : Int32) then
        if x3 = x1 then
          f_victim_4 n s k x1 x2 (x3 + (1 : Int32))
        else
          if (s.2 8 (ix x3)) = 0 then
            f_victim_4 n s k x1 x2 (x3 + (1 : Int32))
          else
            if (s.2 7 (ix x3)) = 0 then
              if x2 < 0 then
                f_victim_64 n s (f_victim_4 n s k) x1 x3
              else
                grd (inb x2 32) <|
                if (s.2 5 (ix x3)) < (s.2 5 (ix x2)) then
                  f_victim_64 n s (f_victim_4 n s k) x1 x3
                else
                  f_victim_4 n s k x1 x2 (x3 + (1 : Int32))
            else
              f_victim_4 n s k x1 x2 (x3 + (1 : Int32))
      else
        f_victim_4 n s k x1 x2 (x3 + (1 : Int32))
    else
      some x2
set_option maxRecDepth 100000 in
theorem e_victim_4 {g : GT} {n : Nat} {s : St} (hw : HW g) {K : St → MHeap} {o : Nat} {r : Nat → Nat} (V : View (GG g) Ln K o r) (k : Nat) : ∀ (x1 : Int32) (x2 : Int32) (x3 : Int32) (w : Int32), f_victim_4 n s k x1 x2 x3 = some w → Ev (GG g) M_victim 4 [.val (.ref o), .val (.int x1), .val (.int x2), .val (.int x3)] [] (K s) ((some (.int w)), (K s)) := by
  induction k with
  | zero => intro x1 x2 x3 w hr; rw [f_victim_4] at hr; cases hr
  | succ k ih =>
    intro x1 x2 x3 w hr
    rw [f_victim_4] at hr
    refine Ev.iloadN (d39 4 rfl) rfl ?_
    refine Ev.aloadN (d39 5 rfl) rfl ?_
    refine Ev.gI V (ww hw 35 rfl) (d39 6 rfl) (j := 10) rfl rfl ?_
    refine Ev.icge (t := 72) (d39 7 rfl) rfl (fun c1 => ?_) (fun c1 => ?_)
    · replace hr := (if_pos c1).symm.trans hr
      refine Ev.aloadN (d39 8 rfl) rfl ?_
      refine Ev.gAr V (ww hw 19 rfl) (d39 9 rfl) (j := 2) rfl ?_
      refine Ev.iloadN (d39 10 rfl) rfl ?_
      obtain ⟨b2, hr⟩ := grd_some hr
      refine Ev.ial V (j := 2) rfl rfl (d39 11 rfl) b2 ?_
      refine Ev.iconst (z := 1) (d39 12 rfl) rfl ?_
      refine Ev.icne (t := 66) (d39 13 rfl) rfl (fun c3 => ?_) (fun c3 => ?_)
      · replace hr := (if_pos c3).symm.trans hr
        refine Ev.iloadN (d39 14 rfl) rfl ?_
        refine Ev.iloadN (d39 15 rfl) rfl ?_
        refine Ev.iceq (t := 66) (d39 16 rfl) rfl (fun c4 => ?_) (fun c4 => ?_)
        · replace hr := (if_pos c4).symm.trans hr
          refine Ev.iinc (z := 1) (L' := [.val (.ref o), .val (.int x1), .val (.int x2), .val (.int (x3 + (1 : Int32)))]) (d39 40 rfl) rfl rfl rfl ?_
          refine Ev.goto (t := 4) (d39 41 rfl) rfl ?_
          exact ih x1 x2 (x3 + (1 : Int32))  _ hr
        · replace hr := (if_neg c4).symm.trans hr
          refine Ev.aloadN (d39 17 rfl) rfl ?_
          refine Ev.gAr V (ww hw 31 rfl) (d39 18 rfl) (j := 8) rfl ?_
          refine Ev.iloadN (d39 19 rfl) rfl ?_
          refine Ev.bal V (j := 8) rfl rfl (d39 20 rfl) b2 ?_
          refine Ev.ifeq (t := 66) (d39 21 rfl) rfl (fun c5 => ?_) (fun c5 => ?_)
          · replace hr := (if_pos c5).symm.trans hr
            refine Ev.iinc (z := 1) (L' := [.val (.ref o), .val (.int x1), .val (.int x2), .val (.int (x3 + (1 : Int32)))]) (d39 40 rfl) rfl rfl rfl ?_
            refine Ev.goto (t := 4) (d39 41 rfl) rfl ?_
            exact ih x1 x2 (x3 + (1 : Int32))  _ hr
          · replace hr := (if_neg c5).symm.trans hr
            refine Ev.aloadN (d39 22 rfl) rfl ?_
            refine Ev.gAr V (ww hw 29 rfl) (d39 23 rfl) (j := 7) rfl ?_
            refine Ev.iloadN (d39 24 rfl) rfl ?_
            refine Ev.bal V (j := 7) rfl rfl (d39 25 rfl) b2 ?_
            refine Ev.ifne (t := 66) (d39 26 rfl) rfl (fun c6 => ?_) (fun c6 => ?_)
            · replace hr := (if_pos c6).symm.trans hr
              refine Ev.iloadN (d39 27 rfl) rfl ?_
              refine Ev.iflt (t := 64) (d39 28 rfl) rfl (fun c7 => ?_) (fun c7 => ?_)
              · replace hr := (if_pos c7).symm.trans hr
                exact e_victim_64 hw V ih x1 x3 (.val (.int x2)) rfl _ hr
              · replace hr := (if_neg c7).symm.trans hr
                refine Ev.aloadN (d39 29 rfl) rfl ?_
                refine Ev.gAr V (ww hw 25 rfl) (d39 30 rfl) (j := 5) rfl ?_
                refine Ev.iloadN (d39 31 rfl) rfl ?_
                refine Ev.ial V (j := 5) rfl rfl (d39 32 rfl) b2 ?_
                refine Ev.aloadN (d39 33 rfl) rfl ?_
                refine Ev.gAr V (ww hw 25 rfl) (d39 34 rfl) (j := 5) rfl ?_
                refine Ev.iloadN (d39 35 rfl) rfl ?_
                obtain ⟨b8, hr⟩ := grd_some hr
                refine Ev.ial V (j := 5) rfl rfl (d39 36 rfl) b8 ?_
                refine Ev.icge (t := 66) (d39 37 rfl) rfl (fun c9 => ?_) (fun c9 => ?_)
                · replace hr := (if_pos c9).symm.trans hr
                  exact e_victim_64 hw V ih x1 x3 (.val (.int x2)) rfl _ hr
                · replace hr := (if_neg c9).symm.trans hr
                  refine Ev.iinc (z := 1) (L' := [.val (.ref o), .val (.int x1), .val (.int x2), .val (.int (x3 + (1 : Int32)))]) (d39 40 rfl) rfl rfl rfl ?_
                  refine Ev.goto (t := 4) (d39 41 rfl) rfl ?_
                  exact ih x1 x2 (x3 + (1 : Int32))  _ hr
            · replace hr := (if_neg c6).symm.trans hr
              refine Ev.iinc (z := 1) (L' := [.val (.ref o), .val (.int x1), .val (.int x2), .val (.int (x3 + (1 : Int32)))]) (d39 40 rfl) rfl rfl rfl ?_
              refine Ev.goto (t := 4) (d39 41 rfl) rfl ?_
              exact ih x1 x2 (x3 + (1 : Int32))  _ hr
      · replace hr := (if_neg c3).symm.trans hr
        refine Ev.iinc (z := 1) (L' := [.val (.ref o), .val (.int x1), .val (.int x2), .val (.int (x3 + (1 : Int32)))]) (d39 40 rfl) rfl rfl rfl ?_
        refine Ev.goto (t := 4) (d39 41 rfl) rfl ?_
        exact ih x1 x2 (x3 + (1 : Int32))  _ hr
    · replace hr := (if_neg c1).symm.trans hr
      refine Ev.iloadN (d39 42 rfl) rfl ?_
      cases hr
      exact Ev.ireturn rfl (d39 43 rfl)
def f_victim (n : Nat) (s : St) (a0 : Int32) : Option (Int32) :=
  f_victim_4 n s n a0 (-1 : Int32) (0 : Int32)
set_option maxRecDepth 100000 in
theorem e_victim {g : GT} {n : Nat} {s : St} {a0 : Int32} {w : Int32} (hw : HW g) {K : St → MHeap} {o : Nat} {r : Nat → Nat} (V : View (GG g) Ln K o r) (hr : f_victim n s a0 = some w) : EvC (GG g) M_victim [.ref o, .int a0] (K s) ((some (.int w)), (K s)) := by
  refine EvC.enter (L0 := [.val (.ref o), .val (.int a0), .unset, .unset]) pl_victim (fun h => nomatch h) rfl rfl ?_
  unfold f_victim at hr
  refine Ev.iconst (z := -1) (d39 0 rfl) rfl ?_
  refine Ev.istDN (L' := [.val (.ref o), .val (.int a0), .val (.int (-1 : Int32)), .unset]) (d39 1 rfl) rfl rfl rfl ?_
  refine Ev.iconst (z := 0) (d39 2 rfl) rfl ?_
  refine Ev.istDN (L' := [.val (.ref o), .val (.int a0), .val (.int (-1 : Int32)), .val (.int (0 : Int32))]) (d39 3 rfl) rfl rfl rfl ?_
  exact e_victim_4 hw V  n a0 (-1 : Int32) (0 : Int32)  _ hr
def f_purge (a0 : Int32) (s : St) : Option (St) :=
  grd (inb a0 32) <|
  bnd (setA s 2 (ix a0) (2 : Int32)) fun s2 =>
  bnd (setA s2 3 (ix a0) (-1 : Int32)) fun s3 =>
  bnd (setA s3 4 (ix a0) (0 : Int32)) fun s4 =>
  bnd (setA s4 7 (ix a0) ((0 : Int32) &&& 1)) fun s5 =>
  bnd (setA s5 8 (ix a0) ((0 : Int32) &&& 1)) fun s6 =>
  some s6
set_option maxRecDepth 100000 in
theorem e_purge {g : GT} {a0 : Int32} {s : St} {w : St} (hw : HW g) {K : St → MHeap} {o : Nat} {r : Nat → Nat} (V : View (GG g) Ln K o r) (hr : f_purge a0 s = some w) : EvC (GG g) M_purge [.ref o, .int a0] (K s) (none, (K w)) := by
  refine EvC.enter (L0 := [.val (.ref o), .val (.int a0)]) pl_purge (fun _ => rfl) rfl rfl ?_
  unfold f_purge at hr
  refine Ev.aloadN (d40 0 rfl) rfl ?_
  refine Ev.gAr V (ww hw 19 rfl) (d40 1 rfl) (j := 2) rfl ?_
  refine Ev.iloadN (d40 2 rfl) rfl ?_
  refine Ev.iconst (z := 2) (d40 3 rfl) rfl ?_
  obtain ⟨b1, hr⟩ := grd_some hr
  refine Ev.ias V (j := 2) rfl rfl (d40 4 rfl) b1 ?_
  revert hr
  generalize setA s 2 (ix a0) (2 : Int32) = s2
  intro hr
  replace hr := (bnd_eq _ _).symm.trans hr
  refine Ev.aloadN (d40 5 rfl) rfl ?_
  refine Ev.gAr V (ww hw 21 rfl) (d40 6 rfl) (j := 3) rfl ?_
  refine Ev.iloadN (d40 7 rfl) rfl ?_
  refine Ev.iconst (z := -1) (d40 8 rfl) rfl ?_
  refine Ev.ias V (j := 3) rfl rfl (d40 9 rfl) b1 ?_
  revert hr
  generalize setA s2 3 (ix a0) (-1 : Int32) = s3
  intro hr
  replace hr := (bnd_eq _ _).symm.trans hr
  refine Ev.aloadN (d40 10 rfl) rfl ?_
  refine Ev.gAr V (ww hw 23 rfl) (d40 11 rfl) (j := 4) rfl ?_
  refine Ev.iloadN (d40 12 rfl) rfl ?_
  refine Ev.iconst (z := 0) (d40 13 rfl) rfl ?_
  refine Ev.ias V (j := 4) rfl rfl (d40 14 rfl) b1 ?_
  revert hr
  generalize setA s3 4 (ix a0) (0 : Int32) = s4
  intro hr
  replace hr := (bnd_eq _ _).symm.trans hr
  refine Ev.aloadN (d40 15 rfl) rfl ?_
  refine Ev.gAr V (ww hw 29 rfl) (d40 16 rfl) (j := 7) rfl ?_
  refine Ev.iloadN (d40 17 rfl) rfl ?_
  refine Ev.iconst (z := 0) (d40 18 rfl) rfl ?_
  refine Ev.bas V (j := 7) rfl rfl (d40 19 rfl) b1 ?_
  revert hr
  generalize setA s4 7 (ix a0) ((0 : Int32) &&& 1) = s5
  intro hr
  replace hr := (bnd_eq _ _).symm.trans hr
  refine Ev.aloadN (d40 20 rfl) rfl ?_
  refine Ev.gAr V (ww hw 31 rfl) (d40 21 rfl) (j := 8) rfl ?_
  refine Ev.iloadN (d40 22 rfl) rfl ?_
  refine Ev.iconst (z := 0) (d40 23 rfl) rfl ?_
  refine Ev.bas V (j := 8) rfl rfl (d40 24 rfl) b1 ?_
  revert hr
  generalize setA s5 8 (ix a0) ((0 : Int32) &&& 1) = s6
  intro hr
  replace hr := (bnd_eq _ _).symm.trans hr
  cases hr
  exact Ev.vreturn rfl (d40 25 rfl)
def f_alloc_32 (n : Nat) : Nat → Int32 → Int32 → Int32 → St → Option (Int32 × St)
  | 0 => fun _ _ _ _ => none
  | k + 1 => fun x1 x2 x4 s =>
    if (32 : Int32) < x4 then
      some ((-1 : Int32), s)
    else
      (f_victim n s x2).bind fun q2 =>
      if q2 < 0 then
        some ((-1 : Int32), s)
      else
        (f_purge q2 s).bind fun q5 =>
        (f_compactRun n x2 q5).bind fun q7 =>
        (f_fit n x1 q7).bind fun q9 =>
        if q9.1 < 0 then
          f_alloc_32 n k x1 x2 (x4 + (1 : Int32)) q9.2
        else
          some (q9.1, q9.2)
set_option maxRecDepth 100000 in
theorem e_alloc_32 {g : GT} {n : Nat} (hw : HW g) {K : St → MHeap} {o : Nat} {r : Nat → Nat} (V : View (GG g) Ln K o r) (k : Nat) : ∀ (x1 : Int32) (x2 : Int32) (x4 : Int32) (s : St) (y3 : Slot) (hy3 : one1 y3 = true) (y5 : Slot) (hy5 : one1 y5 = true) (w : Int32 × St), f_alloc_32 n k x1 x2 x4 s = some w → Ev (GG g) M_alloc 32 [.val (.ref o), .val (.int x1), .val (.int x2), y3, .val (.int x4), y5] [] (K s) ((some (.int w.1)), (K w.2)) := by
  induction k with
  | zero => intro x1 x2 x4 s y3 hy3 y5 hy5 w hr; rw [f_alloc_32] at hr; cases hr
  | succ k ih =>
    intro x1 x2 x4 s y3 hy3 y5 hy5 w hr
    rw [f_alloc_32] at hr
    refine Ev.iload (d11 21 rfl) rfl ?_
    refine Ev.bipush (z := 32) (d11 22 rfl) rfl ?_
    refine Ev.icgt (t := 82) (d11 23 rfl) rfl (fun c1 => ?_) (fun c1 => ?_)
    · replace hr := (if_pos c1).symm.trans hr
      refine Ev.iconst (z := -1) (d11 48 rfl) rfl ?_
      cases hr
      exact Ev.ireturn rfl (d11 49 rfl)
    · replace hr := (if_neg c1).symm.trans hr
      refine Ev.aloadN (d11 24 rfl) rfl ?_
      refine Ev.iloadN (d11 25 rfl) rfl ?_
      obtain ⟨q2, hq3, hr⟩ := Option.bind_eq_some_iff.mp hr
      refine Ev.priv (y := M_victim) (args := [.int x2]) (rest := []) (gok hw) rfl nm_victim (ww hw 196 rfl) (ww hw 197 rfl) (ww hw 198 rfl) (ww hw 199 rfl) (lenOf pd_victim rfl) (d11 26 rfl) (V.2.1 s) (e_victim hw V hq3) (by decide) (Nat.le_of_ble_eq_true rfl) rfl ?_
      refine Ev.istD (L' := [.val (.ref o), .val (.int x1), .val (.int x2), y3, .val (.int x4), .val (.int q2)]) (d11 27 rfl) rfl hy5 rfl ?_
      refine Ev.iload (d11 28 rfl) rfl ?_
      refine Ev.ifge (t := 53) (d11 29 rfl) rfl (fun c4 => ?_) (fun c4 => ?_)
      · replace hr := (if_pos c4).symm.trans hr
        refine Ev.iconst (z := -1) (d11 30 rfl) rfl ?_
        cases hr
        exact Ev.ireturn rfl (d11 31 rfl)
      · replace hr := (if_neg c4).symm.trans hr
        refine Ev.aloadN (d11 32 rfl) rfl ?_
        refine Ev.iload (d11 33 rfl) rfl ?_
        obtain ⟨q5, hq6, hr⟩ := Option.bind_eq_some_iff.mp hr
        refine Ev.priv (y := M_purge) (args := [.int q2]) (rest := []) (gok hw) rfl nm_purge (ww hw 200 rfl) (ww hw 201 rfl) (ww hw 202 rfl) (ww hw 203 rfl) (lenOf pd_purge rfl) (d11 34 rfl) (V.2.1 s) (e_purge hw V hq6) (by decide) (Nat.le_of_ble_eq_true rfl) rfl ?_
        refine Ev.aloadN (d11 35 rfl) rfl ?_
        refine Ev.iloadN (d11 36 rfl) rfl ?_
        obtain ⟨q7, hq8, hr⟩ := Option.bind_eq_some_iff.mp hr
        refine Ev.priv (y := M_compactRun) (args := [.int x2]) (rest := []) (gok hw) rfl nm_compactRun (ww hw 164 rfl) (ww hw 165 rfl) (ww hw 166 rfl) (ww hw 167 rfl) (lenOf pd_compactRun rfl) (d11 37 rfl) (V.2.1 q5) (e_compactRun hw V hq8) (by decide) (Nat.le_of_ble_eq_true rfl) rfl ?_
        refine Ev.aloadN (d11 38 rfl) rfl ?_
        refine Ev.iloadN (d11 39 rfl) rfl ?_
        obtain ⟨q9, hq10, hr⟩ := Option.bind_eq_some_iff.mp hr
        refine Ev.priv (y := M_fit) (args := [.int x1]) (rest := []) (gok hw) rfl nm_fit (ww hw 78 rfl) (ww hw 79 rfl) (ww hw 80 rfl) (ww hw 81 rfl) (lenOf pd_fit rfl) (d11 40 rfl) (V.2.1 q7) (e_fit hw V hq10) (by decide) (Nat.le_of_ble_eq_true rfl) rfl ?_
        refine Ev.istDN (L' := [.val (.ref o), .val (.int x1), .val (.int x2), .val (.int q9.1), .val (.int x4), .val (.int q2)]) (d11 41 rfl) rfl hy3 rfl ?_
        refine Ev.iloadN (d11 42 rfl) rfl ?_
        refine Ev.iflt (t := 76) (d11 43 rfl) rfl (fun c11 => ?_) (fun c11 => ?_)
        · replace hr := (if_pos c11).symm.trans hr
          refine Ev.iinc (z := 1) (L' := [.val (.ref o), .val (.int x1), .val (.int x2), .val (.int q9.1), .val (.int (x4 + (1 : Int32))), .val (.int q2)]) (d11 46 rfl) rfl rfl rfl ?_
          refine Ev.goto (t := 32) (d11 47 rfl) rfl ?_
          exact ih x1 x2 (x4 + (1 : Int32)) q9.2 (.val (.int q9.1)) rfl (.val (.int q2)) rfl _ hr
        · replace hr := (if_neg c11).symm.trans hr
          refine Ev.iloadN (d11 44 rfl) rfl ?_
          cases hr
          exact Ev.ireturn rfl (d11 45 rfl)
def f_alloc (n : Nat) (a0 : Int32) (a1 : Int32) (s : St) : Option (Int32 × St) :=
  (f_fit n a0 s).bind fun q1 =>
  if q1.1 < 0 then
    (f_compactRun n a1 q1.2).bind fun q4 =>
    (f_fit n a0 q4).bind fun q6 =>
    if q6.1 < 0 then
      f_alloc_32 n n a0 a1 (0 : Int32) q6.2
    else
      some (q6.1, q6.2)
  else
    some (q1.1, q1.2)
set_option maxRecDepth 100000 in
theorem e_alloc {g : GT} {n : Nat} {a0 : Int32} {a1 : Int32} {s : St} {w : Int32 × St} (hw : HW g) {K : St → MHeap} {o : Nat} {r : Nat → Nat} (V : View (GG g) Ln K o r) (hr : f_alloc n a0 a1 s = some w) : EvC (GG g) M_alloc [.ref o, .int a0, .int a1] (K s) ((some (.int w.1)), (K w.2)) := by
  refine EvC.enter (L0 := [.val (.ref o), .val (.int a0), .val (.int a1), .unset, .unset, .unset]) pl_alloc (fun h => nomatch h) rfl rfl ?_
  unfold f_alloc at hr
  refine Ev.aloadN (d11 0 rfl) rfl ?_
  refine Ev.iloadN (d11 1 rfl) rfl ?_
  obtain ⟨q1, hq2, hr⟩ := Option.bind_eq_some_iff.mp hr
  refine Ev.priv (y := M_fit) (args := [.int a0]) (rest := []) (gok hw) rfl nm_fit (ww hw 78 rfl) (ww hw 79 rfl) (ww hw 80 rfl) (ww hw 81 rfl) (lenOf pd_fit rfl) (d11 2 rfl) (V.2.1 s) (e_fit hw V hq2) (by decide) (Nat.le_of_ble_eq_true rfl) rfl ?_
  refine Ev.istDN (L' := [.val (.ref o), .val (.int a0), .val (.int a1), .val (.int q1.1), .unset, .unset]) (d11 3 rfl) rfl rfl rfl ?_
  refine Ev.iloadN (d11 4 rfl) rfl ?_
  refine Ev.iflt (t := 12) (d11 5 rfl) rfl (fun c3 => ?_) (fun c3 => ?_)
  · replace hr := (if_pos c3).symm.trans hr
    refine Ev.aloadN (d11 8 rfl) rfl ?_
    refine Ev.iloadN (d11 9 rfl) rfl ?_
    obtain ⟨q4, hq5, hr⟩ := Option.bind_eq_some_iff.mp hr
    refine Ev.priv (y := M_compactRun) (args := [.int a1]) (rest := []) (gok hw) rfl nm_compactRun (ww hw 164 rfl) (ww hw 165 rfl) (ww hw 166 rfl) (ww hw 167 rfl) (lenOf pd_compactRun rfl) (d11 10 rfl) (V.2.1 q1.2) (e_compactRun hw V hq5) (by decide) (Nat.le_of_ble_eq_true rfl) rfl ?_
    refine Ev.aloadN (d11 11 rfl) rfl ?_
    refine Ev.iloadN (d11 12 rfl) rfl ?_
    obtain ⟨q6, hq7, hr⟩ := Option.bind_eq_some_iff.mp hr
    refine Ev.priv (y := M_fit) (args := [.int a0]) (rest := []) (gok hw) rfl nm_fit (ww hw 78 rfl) (ww hw 79 rfl) (ww hw 80 rfl) (ww hw 81 rfl) (lenOf pd_fit rfl) (d11 13 rfl) (V.2.1 q4) (e_fit hw V hq7) (by decide) (Nat.le_of_ble_eq_true rfl) rfl ?_
    refine Ev.istDN (L' := [.val (.ref o), .val (.int a0), .val (.int a1), .val (.int q6.1), .unset, .unset]) (d11 14 rfl) rfl rfl rfl ?_
    refine Ev.iloadN (d11 15 rfl) rfl ?_
    refine Ev.iflt (t := 29) (d11 16 rfl) rfl (fun c8 => ?_) (fun c8 => ?_)
    · replace hr := (if_pos c8).symm.trans hr
      refine Ev.iconst (z := 0) (d11 19 rfl) rfl ?_
      refine Ev.istD (L' := [.val (.ref o), .val (.int a0), .val (.int a1), .val (.int q6.1), .val (.int (0 : Int32)), .unset]) (d11 20 rfl) rfl rfl rfl ?_
      exact e_alloc_32 hw V  n a0 a1 (0 : Int32) q6.2 (.val (.int q6.1)) rfl .unset rfl _ hr
    · replace hr := (if_neg c8).symm.trans hr
      refine Ev.iloadN (d11 17 rfl) rfl ?_
      cases hr
      exact Ev.ireturn rfl (d11 18 rfl)
  · replace hr := (if_neg c3).symm.trans hr
    refine Ev.iloadN (d11 6 rfl) rfl ?_
    cases hr
    exact Ev.ireturn rfl (d11 7 rfl)
def f_zeroWords_2 (n : Nat) : Nat → Int32 → Int32 → Int32 → St → Option (St)
  | 0 => fun _ _ _ _ => none
  | k + 1 => fun x1 x2 x3 s =>
    if x3 < x2 then
      if (x1 + x3) < 0 then
        f_zeroWords_2 n k x1 x2 (x3 + (1 : Int32)) s
      else
        if (x1 + x3) < (256 : Int32) then
          grd (inb (x1 + x3) 256) <|
          bnd (setA s 0 (ix (x1 + x3)) (0 : Int32)) fun s5 =>
          f_zeroWords_2 n k x1 x2 (x3 + (1 : Int32)) s5
        else
          f_zeroWords_2 n k x1 x2 (x3 + (1 : Int32)) s
    else
      some s
set_option maxRecDepth 100000 in
theorem e_zeroWords_2 {g : GT} {n : Nat} (hw : HW g) {K : St → MHeap} {o : Nat} {r : Nat → Nat} (V : View (GG g) Ln K o r) (k : Nat) : ∀ (x1 : Int32) (x2 : Int32) (x3 : Int32) (s : St) (y4 : Slot) (hy4 : one1 y4 = true) (w : St), f_zeroWords_2 n k x1 x2 x3 s = some w → Ev (GG g) M_zeroWords 2 [.val (.ref o), .val (.int x1), .val (.int x2), .val (.int x3), y4] [] (K s) (none, (K w)) := by
  induction k with
  | zero => intro x1 x2 x3 s y4 hy4 w hr; rw [f_zeroWords_2] at hr; cases hr
  | succ k ih =>
    intro x1 x2 x3 s y4 hy4 w hr
    rw [f_zeroWords_2] at hr
    refine Ev.iloadN (d17 2 rfl) rfl ?_
    refine Ev.iloadN (d17 3 rfl) rfl ?_
    refine Ev.icge (t := 39) (d17 4 rfl) rfl (fun c1 => ?_) (fun c1 => ?_)
    · replace hr := (if_pos c1).symm.trans hr
      refine Ev.iloadN (d17 5 rfl) rfl ?_
      refine Ev.iloadN (d17 6 rfl) rfl ?_
      refine Ev.iadd (d17 7 rfl) ?_
      refine Ev.istD (L' := [.val (.ref o), .val (.int x1), .val (.int x2), .val (.int x3), .val (.int (x1 + x3))]) (d17 8 rfl) rfl hy4 rfl ?_
      refine Ev.iload (d17 9 rfl) rfl ?_
      refine Ev.iflt (t := 33) (d17 10 rfl) rfl (fun c2 => ?_) (fun c2 => ?_)
      · replace hr := (if_pos c2).symm.trans hr
        refine Ev.iinc (z := 1) (L' := [.val (.ref o), .val (.int x1), .val (.int x2), .val (.int (x3 + (1 : Int32))), .val (.int (x1 + x3))]) (d17 19 rfl) rfl rfl rfl ?_
        refine Ev.goto (t := 2) (d17 20 rfl) rfl ?_
        exact ih x1 x2 (x3 + (1 : Int32)) s (.val (.int (x1 + x3))) rfl _ hr
      · replace hr := (if_neg c2).symm.trans hr
        refine Ev.iload (d17 11 rfl) rfl ?_
        refine Ev.sipush (z := 256) (d17 12 rfl) rfl ?_
        refine Ev.icge (t := 33) (d17 13 rfl) rfl (fun c3 => ?_) (fun c3 => ?_)
        · replace hr := (if_pos c3).symm.trans hr
          refine Ev.aloadN (d17 14 rfl) rfl ?_
          refine Ev.gAr V (ww hw 14 rfl) (d17 15 rfl) (j := 0) rfl ?_
          refine Ev.iload (d17 16 rfl) rfl ?_
          refine Ev.iconst (z := 0) (d17 17 rfl) rfl ?_
          obtain ⟨b4, hr⟩ := grd_some hr
          refine Ev.ias V (j := 0) rfl rfl (d17 18 rfl) b4 ?_
          revert hr
          generalize setA s 0 (ix (x1 + x3)) (0 : Int32) = s5
          intro hr
          replace hr := (bnd_eq _ _).symm.trans hr
          refine Ev.iinc (z := 1) (L' := [.val (.ref o), .val (.int x1), .val (.int x2), .val (.int (x3 + (1 : Int32))), .val (.int (x1 + x3))]) (d17 19 rfl) rfl rfl rfl ?_
          refine Ev.goto (t := 2) (d17 20 rfl) rfl ?_
          exact ih x1 x2 (x3 + (1 : Int32)) s5 (.val (.int (x1 + x3))) rfl _ hr
        · replace hr := (if_neg c3).symm.trans hr
          refine Ev.iinc (z := 1) (L' := [.val (.ref o), .val (.int x1), .val (.int x2), .val (.int (x3 + (1 : Int32))), .val (.int (x1 + x3))]) (d17 19 rfl) rfl rfl rfl ?_
          refine Ev.goto (t := 2) (d17 20 rfl) rfl ?_
          exact ih x1 x2 (x3 + (1 : Int32)) s (.val (.int (x1 + x3))) rfl _ hr
    · replace hr := (if_neg c1).symm.trans hr
      cases hr
      exact Ev.vreturn rfl (d17 21 rfl)
def f_zeroWords (n : Nat) (a0 : Int32) (a1 : Int32) (s : St) : Option (St) :=
  f_zeroWords_2 n n a0 a1 (0 : Int32) s
set_option maxRecDepth 100000 in
theorem e_zeroWords {g : GT} {n : Nat} {a0 : Int32} {a1 : Int32} {s : St} {w : St} (hw : HW g) {K : St → MHeap} {o : Nat} {r : Nat → Nat} (V : View (GG g) Ln K o r) (hr : f_zeroWords n a0 a1 s = some w) : EvC (GG g) M_zeroWords [.ref o, .int a0, .int a1] (K s) (none, (K w)) := by
  refine EvC.enter (L0 := [.val (.ref o), .val (.int a0), .val (.int a1), .unset, .unset]) pl_zeroWords (fun _ => rfl) rfl rfl ?_
  unfold f_zeroWords at hr
  refine Ev.iconst (z := 0) (d17 0 rfl) rfl ?_
  refine Ev.istDN (L' := [.val (.ref o), .val (.int a0), .val (.int a1), .val (.int (0 : Int32)), .unset]) (d17 1 rfl) rfl rfl rfl ?_
  exact e_zeroWords_2 hw V  n a0 a1 (0 : Int32) s .unset rfl _ hr
def f_touch (a0 : Int32) (s : St) : Option (St) :=
  bnd (setI s 11 ((s.1 11) + (1 : Int32))) fun s1 =>
  grd (inb a0 32) <|
  bnd (setA s1 5 (ix a0) (s1.1 11)) fun s3 =>
  some s3
set_option maxRecDepth 100000 in
theorem e_touch {g : GT} {a0 : Int32} {s : St} {w : St} (hw : HW g) {K : St → MHeap} {o : Nat} {r : Nat → Nat} (V : View (GG g) Ln K o r) (hr : f_touch a0 s = some w) : EvC (GG g) M_touch [.ref o, .int a0] (K s) (none, (K w)) := by
  refine EvC.enter (L0 := [.val (.ref o), .val (.int a0)]) pl_touch (fun _ => rfl) rfl rfl ?_
  unfold f_touch at hr
  refine Ev.aloadN (d18 0 rfl) rfl ?_
  refine Ev.aloadN (d18 1 rfl) rfl ?_
  refine Ev.gI V (ww hw 37 rfl) (d18 2 rfl) (j := 11) rfl rfl ?_
  refine Ev.iconst (z := 1) (d18 3 rfl) rfl ?_
  refine Ev.iadd (d18 4 rfl) ?_
  refine Ev.pI V (gok hw) (ww hw 37 rfl) (Or.inl (ww hw 38 rfl)) (d18 5 rfl) (j := 11) rfl ?_
  revert hr
  generalize setI s 11 ((s.1 11) + (1 : Int32)) = s1
  intro hr
  replace hr := (bnd_eq _ _).symm.trans hr
  refine Ev.aloadN (d18 6 rfl) rfl ?_
  refine Ev.gAr V (ww hw 25 rfl) (d18 7 rfl) (j := 5) rfl ?_
  refine Ev.iloadN (d18 8 rfl) rfl ?_
  refine Ev.aloadN (d18 9 rfl) rfl ?_
  refine Ev.gI V (ww hw 37 rfl) (d18 10 rfl) (j := 11) rfl rfl ?_
  obtain ⟨b2, hr⟩ := grd_some hr
  refine Ev.ias V (j := 5) rfl rfl (d18 11 rfl) b2 ?_
  revert hr
  generalize setA s1 5 (ix a0) (s1.1 11) = s3
  intro hr
  replace hr := (bnd_eq _ _).symm.trans hr
  cases hr
  exact Ev.vreturn rfl (d18 12 rfl)
def f_establish (n : Nat) (a0 : Int32) (a1 : Int32) (a2 : Int32) (s : St) : Option (St) :=
  grd (inb a0 32) <|
  bnd (setA s 2 (ix a0) (1 : Int32)) fun s2 =>
  bnd (setA s2 3 (ix a0) a1) fun s3 =>
  bnd (setA s3 4 (ix a0) a2) fun s4 =>
  bnd (setA s4 7 (ix a0) ((0 : Int32) &&& 1)) fun s5 =>
  bnd (setA s5 8 (ix a0) ((0 : Int32) &&& 1)) fun s6 =>
  (f_zeroWords n a1 a2 s6).bind fun q7 =>
  (f_touch a0 q7).bind fun q9 =>
  some q9
set_option maxRecDepth 100000 in
theorem e_establish {g : GT} {n : Nat} {a0 : Int32} {a1 : Int32} {a2 : Int32} {s : St} {w : St} (hw : HW g) {K : St → MHeap} {o : Nat} {r : Nat → Nat} (V : View (GG g) Ln K o r) (hr : f_establish n a0 a1 a2 s = some w) : EvC (GG g) M_establish [.ref o, .int a0, .int a1, .int a2] (K s) (none, (K w)) := by
  refine EvC.enter (L0 := [.val (.ref o), .val (.int a0), .val (.int a1), .val (.int a2)]) pl_establish (fun _ => rfl) rfl rfl ?_
  unfold f_establish at hr
  refine Ev.aloadN (d16 0 rfl) rfl ?_
  refine Ev.gAr V (ww hw 19 rfl) (d16 1 rfl) (j := 2) rfl ?_
  refine Ev.iloadN (d16 2 rfl) rfl ?_
  refine Ev.iconst (z := 1) (d16 3 rfl) rfl ?_
  obtain ⟨b1, hr⟩ := grd_some hr
  refine Ev.ias V (j := 2) rfl rfl (d16 4 rfl) b1 ?_
  revert hr
  generalize setA s 2 (ix a0) (1 : Int32) = s2
  intro hr
  replace hr := (bnd_eq _ _).symm.trans hr
  refine Ev.aloadN (d16 5 rfl) rfl ?_
  refine Ev.gAr V (ww hw 21 rfl) (d16 6 rfl) (j := 3) rfl ?_
  refine Ev.iloadN (d16 7 rfl) rfl ?_
  refine Ev.iloadN (d16 8 rfl) rfl ?_
  refine Ev.ias V (j := 3) rfl rfl (d16 9 rfl) b1 ?_
  revert hr
  generalize setA s2 3 (ix a0) a1 = s3
  intro hr
  replace hr := (bnd_eq _ _).symm.trans hr
  refine Ev.aloadN (d16 10 rfl) rfl ?_
  refine Ev.gAr V (ww hw 23 rfl) (d16 11 rfl) (j := 4) rfl ?_
  refine Ev.iloadN (d16 12 rfl) rfl ?_
  refine Ev.iloadN (d16 13 rfl) rfl ?_
  refine Ev.ias V (j := 4) rfl rfl (d16 14 rfl) b1 ?_
  revert hr
  generalize setA s3 4 (ix a0) a2 = s4
  intro hr
  replace hr := (bnd_eq _ _).symm.trans hr
  refine Ev.aloadN (d16 15 rfl) rfl ?_
  refine Ev.gAr V (ww hw 29 rfl) (d16 16 rfl) (j := 7) rfl ?_
  refine Ev.iloadN (d16 17 rfl) rfl ?_
  refine Ev.iconst (z := 0) (d16 18 rfl) rfl ?_
  refine Ev.bas V (j := 7) rfl rfl (d16 19 rfl) b1 ?_
  revert hr
  generalize setA s4 7 (ix a0) ((0 : Int32) &&& 1) = s5
  intro hr
  replace hr := (bnd_eq _ _).symm.trans hr
  refine Ev.aloadN (d16 20 rfl) rfl ?_
  refine Ev.gAr V (ww hw 31 rfl) (d16 21 rfl) (j := 8) rfl ?_
  refine Ev.iloadN (d16 22 rfl) rfl ?_
  refine Ev.iconst (z := 0) (d16 23 rfl) rfl ?_
  refine Ev.bas V (j := 8) rfl rfl (d16 24 rfl) b1 ?_
  revert hr
  generalize setA s5 8 (ix a0) ((0 : Int32) &&& 1) = s6
  intro hr
  replace hr := (bnd_eq _ _).symm.trans hr
  refine Ev.aloadN (d16 25 rfl) rfl ?_
  refine Ev.iloadN (d16 26 rfl) rfl ?_
  refine Ev.iloadN (d16 27 rfl) rfl ?_
  obtain ⟨q7, hq8, hr⟩ := Option.bind_eq_some_iff.mp hr
  refine Ev.priv (y := M_zeroWords) (args := [.int a1, .int a2]) (rest := []) (gok hw) rfl nm_zeroWords (ww hw 98 rfl) (ww hw 99 rfl) (ww hw 100 rfl) (ww hw 101 rfl) (lenOf pd_zeroWords rfl) (d16 28 rfl) (V.2.1 s6) (e_zeroWords hw V hq8) (by decide) (Nat.le_of_ble_eq_true rfl) rfl ?_
  refine Ev.aloadN (d16 29 rfl) rfl ?_
  refine Ev.iloadN (d16 30 rfl) rfl ?_
  obtain ⟨q9, hq10, hr⟩ := Option.bind_eq_some_iff.mp hr
  refine Ev.priv (y := M_touch) (args := [.int a0]) (rest := []) (gok hw) rfl nm_touch (ww hw 102 rfl) (ww hw 103 rfl) (ww hw 104 rfl) (ww hw 105 rfl) (lenOf pd_touch rfl) (d16 31 rfl) (V.2.1 q7) (e_touch hw V hq10) (by decide) (Nat.le_of_ble_eq_true rfl) rfl ?_
  cases hr
  exact Ev.vreturn rfl (d16 32 rfl)
def f_newHandle_48 (n : Nat) (x1 : Int32) (x2 : Int32) (s : St) : Option (Int32 × St) :=
  if x2 < 0 then
    some ((-7 : Int32), s)
  else
    (f_alloc n x1 (-1 : Int32) s).bind fun q2 =>
    if q2.1 < 0 then
      some ((-6 : Int32), q2.2)
    else
      (f_establish n x2 q2.1 x1 q2.2).bind fun q5 =>
      some (x2, q5)
set_option maxRecDepth 100000 in
theorem e_newHandle_48 {g : GT} {n : Nat} (hw : HW g) {K : St → MHeap} {o : Nat} {r : Nat → Nat} (V : View (GG g) Ln K o r) (x1 : Int32) (x2 : Int32) (s : St) (y3 : Slot) (hy3 : one1 y3 = true) (w : Int32 × St) (hr : f_newHandle_48 n x1 x2 s = some w) : Ev (GG g) M_newHandle 48 [.val (.ref o), .val (.int x1), .val (.int x2), y3] [] (K s) ((some (.int w.1)), (K w.2)) := by
  unfold f_newHandle_48 at hr
  refine Ev.iloadN (d10 27 rfl) rfl ?_
  refine Ev.ifge (t := 55) (d10 28 rfl) rfl (fun c1 => ?_) (fun c1 => ?_)
  · replace hr := (if_pos c1).symm.trans hr
    refine Ev.bipush (z := -7) (d10 29 rfl) rfl ?_
    cases hr
    exact Ev.ireturn rfl (d10 30 rfl)
  · replace hr := (if_neg c1).symm.trans hr
    refine Ev.aloadN (d10 31 rfl) rfl ?_
    refine Ev.iloadN (d10 32 rfl) rfl ?_
    refine Ev.iconst (z := -1) (d10 33 rfl) rfl ?_
    obtain ⟨q2, hq3, hr⟩ := Option.bind_eq_some_iff.mp hr
    refine Ev.priv (y := M_alloc) (args := [.int x1, .int (-1 : Int32)]) (rest := []) (gok hw) rfl nm_alloc (ww hw 74 rfl) (ww hw 75 rfl) (ww hw 76 rfl) (ww hw 77 rfl) (lenOf pd_alloc rfl) (d10 34 rfl) (V.2.1 s) (e_alloc hw V hq3) (by decide) (Nat.le_of_ble_eq_true rfl) rfl ?_
    refine Ev.istDN (L' := [.val (.ref o), .val (.int x1), .val (.int x2), .val (.int q2.1)]) (d10 35 rfl) rfl hy3 rfl ?_
    refine Ev.iloadN (d10 36 rfl) rfl ?_
    refine Ev.ifge (t := 69) (d10 37 rfl) rfl (fun c4 => ?_) (fun c4 => ?_)
    · replace hr := (if_pos c4).symm.trans hr
      refine Ev.bipush (z := -6) (d10 38 rfl) rfl ?_
      cases hr
      exact Ev.ireturn rfl (d10 39 rfl)
    · replace hr := (if_neg c4).symm.trans hr
      refine Ev.aloadN (d10 40 rfl) rfl ?_
      refine Ev.iloadN (d10 41 rfl) rfl ?_
      refine Ev.iloadN (d10 42 rfl) rfl ?_
      refine Ev.iloadN (d10 43 rfl) rfl ?_
      obtain ⟨q5, hq6, hr⟩ := Option.bind_eq_some_iff.mp hr
      refine Ev.priv (y := M_establish) (args := [.int x2, .int q2.1, .int x1]) (rest := []) (gok hw) rfl nm_establish (ww hw 94 rfl) (ww hw 95 rfl) (ww hw 96 rfl) (ww hw 97 rfl) (lenOf pd_establish rfl) (d10 44 rfl) (V.2.1 q2.2) (e_establish hw V hq6) (by decide) (Nat.le_of_ble_eq_true rfl) rfl ?_
      refine Ev.iloadN (d10 45 rfl) rfl ?_
      cases hr
      exact Ev.ireturn rfl (d10 46 rfl)
def f_newHandle_20 (n : Nat) : Nat → Int32 → Int32 → Int32 → St → Option (Int32 × St)
  | 0 => fun _ _ _ _ => none
  | k + 1 => fun x1 x2 x3 s =>
    if x3 < (s.1 10) then
      grd (inb x3 32) <|
      if (s.2 2 (ix x3)) = 0 then
        f_newHandle_48 n x1 x3 s
      else
        f_newHandle_20 n k x1 x2 (x3 + (1 : Int32)) s
    else
      f_newHandle_48 n x1 x2 s
set_option maxRecDepth 100000 in
theorem e_newHandle_20 {g : GT} {n : Nat} (hw : HW g) {K : St → MHeap} {o : Nat} {r : Nat → Nat} (V : View (GG g) Ln K o r) (k : Nat) : ∀ (x1 : Int32) (x2 : Int32) (x3 : Int32) (s : St) (w : Int32 × St), f_newHandle_20 n k x1 x2 x3 s = some w → Ev (GG g) M_newHandle 20 [.val (.ref o), .val (.int x1), .val (.int x2), .val (.int x3)] [] (K s) ((some (.int w.1)), (K w.2)) := by
  induction k with
  | zero => intro x1 x2 x3 s w hr; rw [f_newHandle_20] at hr; cases hr
  | succ k ih =>
    intro x1 x2 x3 s w hr
    rw [f_newHandle_20] at hr
    refine Ev.iloadN (d10 13 rfl) rfl ?_
    refine Ev.aloadN (d10 14 rfl) rfl ?_
    refine Ev.gI V (ww hw 35 rfl) (d10 15 rfl) (j := 10) rfl rfl ?_
    refine Ev.icge (t := 48) (d10 16 rfl) rfl (fun c1 => ?_) (fun c1 => ?_)
    · replace hr := (if_pos c1).symm.trans hr
      refine Ev.aloadN (d10 17 rfl) rfl ?_
      refine Ev.gAr V (ww hw 19 rfl) (d10 18 rfl) (j := 2) rfl ?_
      refine Ev.iloadN (d10 19 rfl) rfl ?_
      obtain ⟨b2, hr⟩ := grd_some hr
      refine Ev.ial V (j := 2) rfl rfl (d10 20 rfl) b2 ?_
      refine Ev.ifne (t := 42) (d10 21 rfl) rfl (fun c3 => ?_) (fun c3 => ?_)
      · replace hr := (if_pos c3).symm.trans hr
        refine Ev.iloadN (d10 22 rfl) rfl ?_
        refine Ev.istDN (L' := [.val (.ref o), .val (.int x1), .val (.int x3), .val (.int x3)]) (d10 23 rfl) rfl rfl rfl ?_
        refine Ev.goto (t := 48) (d10 24 rfl) rfl ?_
        exact e_newHandle_48 hw V  x1 x3 s (.val (.int x3)) rfl _ hr
      · replace hr := (if_neg c3).symm.trans hr
        refine Ev.iinc (z := 1) (L' := [.val (.ref o), .val (.int x1), .val (.int x2), .val (.int (x3 + (1 : Int32)))]) (d10 25 rfl) rfl rfl rfl ?_
        refine Ev.goto (t := 20) (d10 26 rfl) rfl ?_
        exact ih x1 x2 (x3 + (1 : Int32)) s  _ hr
    · replace hr := (if_neg c1).symm.trans hr
      exact e_newHandle_48 hw V  x1 x2 s (.val (.int x3)) rfl _ hr
def f_newHandle (n : Nat) (a0 : Int32) (s : St) : Option (Int32 × St) :=
  if a0 < (1 : Int32) then
    some ((-2 : Int32), s)
  else
    if (s.1 9) < a0 then
      some ((-2 : Int32), s)
    else
      f_newHandle_20 n n a0 (-1 : Int32) (0 : Int32) s
set_option maxRecDepth 100000 in
theorem e_newHandle {g : GT} {n : Nat} {a0 : Int32} {s : St} {w : Int32 × St} (hw : HW g) {K : St → MHeap} {o : Nat} {r : Nat → Nat} (V : View (GG g) Ln K o r) (hr : f_newHandle n a0 s = some w) : EvC (GG g) M_newHandle [.ref o, .int a0] (K s) ((some (.int w.1)), (K w.2)) := by
  refine EvC.enter (L0 := [.val (.ref o), .val (.int a0), .unset, .unset]) pl_newHandle (fun h => nomatch h) rfl rfl ?_
  unfold f_newHandle at hr
  refine Ev.iloadN (d10 0 rfl) rfl ?_
  refine Ev.iconst (z := 1) (d10 1 rfl) rfl ?_
  refine Ev.iclt (t := 13) (d10 2 rfl) rfl (fun c1 => ?_) (fun c1 => ?_)
  · replace hr := (if_pos c1).symm.trans hr
    refine Ev.bipush (z := -2) (d10 7 rfl) rfl ?_
    cases hr
    exact Ev.ireturn rfl (d10 8 rfl)
  · replace hr := (if_neg c1).symm.trans hr
    refine Ev.iloadN (d10 3 rfl) rfl ?_
    refine Ev.aloadN (d10 4 rfl) rfl ?_
    refine Ev.gI V (ww hw 33 rfl) (d10 5 rfl) (j := 9) rfl rfl ?_
    refine Ev.icle (t := 16) (d10 6 rfl) rfl (fun c2 => ?_) (fun c2 => ?_)
    · replace hr := (if_pos c2).symm.trans hr
      refine Ev.bipush (z := -2) (d10 7 rfl) rfl ?_
      cases hr
      exact Ev.ireturn rfl (d10 8 rfl)
    · replace hr := (if_neg c2).symm.trans hr
      refine Ev.iconst (z := -1) (d10 9 rfl) rfl ?_
      refine Ev.istDN (L' := [.val (.ref o), .val (.int a0), .val (.int (-1 : Int32)), .unset]) (d10 10 rfl) rfl rfl rfl ?_
      refine Ev.iconst (z := 0) (d10 11 rfl) rfl ?_
      refine Ev.istDN (L' := [.val (.ref o), .val (.int a0), .val (.int (-1 : Int32)), .val (.int (0 : Int32))]) (d10 12 rfl) rfl rfl rfl ?_
      exact e_newHandle_20 hw V  n a0 (-1 : Int32) (0 : Int32) s  _ hr
def f_hmix (a0 : Int32) (a1 : Int32) : Option (Int32) :=
  some (((a0 * (7919 : Int32)) + (a1 * (104729 : Int32))) + (13 : Int32))
set_option maxRecDepth 100000 in
theorem e_hmix {g : GT} {a0 : Int32} {a1 : Int32} {w : Int32} (hw : HW g) {h : MHeap} (hr : f_hmix a0 a1 = some w) : EvC (GG g) M_hmix [.int a0, .int a1] h ((some (.int w)), h) := by
  refine EvC.enter (L0 := [.val (.int a0), .val (.int a1)]) pl_hmix (fun h => nomatch h) rfl rfl ?_
  unfold f_hmix at hr
  refine Ev.iloadN (d22 0 rfl) rfl ?_
  refine Ev.sipush (z := 7919) (d22 1 rfl) rfl ?_
  refine Ev.imul (d22 2 rfl) ?_
  refine Ev.iloadN (d22 3 rfl) rfl ?_
  refine Ev.ldc (ww hw 123 rfl) (d22 4 rfl) ?_
  refine Ev.imul (d22 5 rfl) ?_
  refine Ev.iadd (d22 6 rfl) ?_
  refine Ev.bipush (z := 13) (d22 7 rfl) rfl ?_
  refine Ev.iadd (d22 8 rfl) ?_
  cases hr
  exact Ev.ireturn rfl (d22 9 rfl)
def f_check (s : St) (a0 : Int32) : Option (Int32) :=
  (f_valid s a0).bind fun q1 =>
  if q1 = 0 then
    some (-1 : Int32)
  else
    grd (inb a0 32) <|
    if (s.2 2 (ix a0)) = 0 then
      some (-1 : Int32)
    else
      if (s.2 2 (ix a0)) = (2 : Int32) then
        some (-4 : Int32)
      else
        some (0 : Int32)
set_option maxRecDepth 100000 in
theorem e_check {g : GT} {s : St} {a0 : Int32} {w : Int32} (hw : HW g) {K : St → MHeap} {o : Nat} {r : Nat → Nat} (V : View (GG g) Ln K o r) (hr : f_check s a0 = some w) : EvC (GG g) M_check [.ref o, .int a0] (K s) ((some (.int w)), (K s)) := by
  refine EvC.enter (L0 := [.val (.ref o), .val (.int a0)]) pl_check (fun h => nomatch h) rfl rfl ?_
  unfold f_check at hr
  refine Ev.aloadN (d9 0 rfl) rfl ?_
  refine Ev.iloadN (d9 1 rfl) rfl ?_
  obtain ⟨q1, hq2, hr⟩ := Option.bind_eq_some_iff.mp hr
  refine Ev.priv (y := M_valid) (args := [.int a0]) (rest := []) (gok hw) rfl nm_valid (ww hw 48 rfl) (ww hw 49 rfl) (ww hw 50 rfl) (ww hw 51 rfl) (lenOf pd_valid rfl) (d9 2 rfl) (V.2.1 s) (e_valid hw V hq2) (by decide) (Nat.le_of_ble_eq_true rfl) rfl ?_
  refine Ev.ifeq (t := 17) (d9 3 rfl) rfl (fun c3 => ?_) (fun c3 => ?_)
  · replace hr := (if_pos c3).symm.trans hr
    refine Ev.iconst (z := -1) (d9 9 rfl) rfl ?_
    cases hr
    exact Ev.ireturn rfl (d9 10 rfl)
  · replace hr := (if_neg c3).symm.trans hr
    refine Ev.aloadN (d9 4 rfl) rfl ?_
    refine Ev.gAr V (ww hw 19 rfl) (d9 5 rfl) (j := 2) rfl ?_
    refine Ev.iloadN (d9 6 rfl) rfl ?_
    obtain ⟨b4, hr⟩ := grd_some hr
    refine Ev.ial V (j := 2) rfl rfl (d9 7 rfl) b4 ?_
    refine Ev.ifne (t := 19) (d9 8 rfl) rfl (fun c5 => ?_) (fun c5 => ?_)
    · replace hr := (if_pos c5).symm.trans hr
      refine Ev.iconst (z := -1) (d9 9 rfl) rfl ?_
      cases hr
      exact Ev.ireturn rfl (d9 10 rfl)
    · replace hr := (if_neg c5).symm.trans hr
      refine Ev.aloadN (d9 11 rfl) rfl ?_
      refine Ev.gAr V (ww hw 19 rfl) (d9 12 rfl) (j := 2) rfl ?_
      refine Ev.iloadN (d9 13 rfl) rfl ?_
      refine Ev.ial V (j := 2) rfl rfl (d9 14 rfl) b4 ?_
      refine Ev.iconst (z := 2) (d9 15 rfl) rfl ?_
      refine Ev.icne (t := 32) (d9 16 rfl) rfl (fun c6 => ?_) (fun c6 => ?_)
      · replace hr := (if_pos c6).symm.trans hr
        refine Ev.bipush (z := -4) (d9 17 rfl) rfl ?_
        cases hr
        exact Ev.ireturn rfl (d9 18 rfl)
      · replace hr := (if_neg c6).symm.trans hr
        refine Ev.iconst (z := 0) (d9 19 rfl) rfl ?_
        cases hr
        exact Ev.ireturn rfl (d9 20 rfl)
def f_write_63 (x1 : Int32) (s : St) : Option (Int32 × St) :=
  (f_touch x1 s).bind fun q1 =>
  some ((0 : Int32), q1)
set_option maxRecDepth 100000 in
theorem e_write_63 {g : GT} (hw : HW g) {K : St → MHeap} {o : Nat} {r : Nat → Nat} (V : View (GG g) Ln K o r) (x1 : Int32) (s : St) (y2 : Slot) (hy2 : one1 y2 = true) (y3 : Slot) (hy3 : one1 y3 = true) (y4 : Slot) (hy4 : one1 y4 = true) (y5 : Slot) (hy5 : one1 y5 = true) (w : Int32 × St) (hr : f_write_63 x1 s = some w) : Ev (GG g) M_write 63 [.val (.ref o), .val (.int x1), y2, y3, y4, y5] [] (K s) ((some (.int w.1)), (K w.2)) := by
  unfold f_write_63 at hr
  refine Ev.aloadN (d23 35 rfl) rfl ?_
  refine Ev.iloadN (d23 36 rfl) rfl ?_
  obtain ⟨q1, hq2, hr⟩ := Option.bind_eq_some_iff.mp hr
  refine Ev.priv (y := M_touch) (args := [.int x1]) (rest := []) (gok hw) rfl nm_touch (ww hw 102 rfl) (ww hw 103 rfl) (ww hw 104 rfl) (ww hw 105 rfl) (lenOf pd_touch rfl) (d23 37 rfl) (V.2.1 s) (e_touch hw V hq2) (by decide) (Nat.le_of_ble_eq_true rfl) rfl ?_
  refine Ev.iconst (z := 0) (d23 38 rfl) rfl ?_
  cases hr
  exact Ev.ireturn rfl (d23 39 rfl)
def f_write (a0 : Int32) (a1 : Int32) (a2 : Int32) (s : St) : Option (Int32 × St) :=
  (f_check s a0).bind fun q1 =>
  if q1 = 0 then
    if a1 < 0 then
      some ((-3 : Int32), s)
    else
      grd (inb a0 32) <|
      if a1 < (s.2 4 (ix a0)) then
        if ((s.2 3 (ix a0)) + a1) < 0 then
          f_write_63 a0 s
        else
          if ((s.2 3 (ix a0)) + a1) < (256 : Int32) then
            grd (inb ((s.2 3 (ix a0)) + a1) 256) <|
            bnd (setA s 0 (ix ((s.2 3 (ix a0)) + a1)) a2) fun s10 =>
            f_write_63 a0 s10
          else
            f_write_63 a0 s
      else
        some ((-3 : Int32), s)
  else
    some (q1, s)
set_option maxRecDepth 100000 in
theorem e_write {g : GT} {a0 : Int32} {a1 : Int32} {a2 : Int32} {s : St} {w : Int32 × St} (hw : HW g) {K : St → MHeap} {o : Nat} {r : Nat → Nat} (V : View (GG g) Ln K o r) (hr : f_write a0 a1 a2 s = some w) : EvC (GG g) M_write [.ref o, .int a0, .int a1, .int a2] (K s) ((some (.int w.1)), (K w.2)) := by
  refine EvC.enter (L0 := [.val (.ref o), .val (.int a0), .val (.int a1), .val (.int a2), .unset, .unset]) pl_write (fun h => nomatch h) rfl rfl ?_
  unfold f_write at hr
  refine Ev.aloadN (d23 0 rfl) rfl ?_
  refine Ev.iloadN (d23 1 rfl) rfl ?_
  obtain ⟨q1, hq2, hr⟩ := Option.bind_eq_some_iff.mp hr
  refine Ev.priv (y := M_check) (args := [.int a0]) (rest := []) (gok hw) rfl nm_check (ww hw 65 rfl) (ww hw 66 rfl) (ww hw 67 rfl) (ww hw 68 rfl) (lenOf pd_check rfl) (d23 2 rfl) (V.2.1 s) (e_check hw V hq2) (by decide) (Nat.le_of_ble_eq_true rfl) rfl ?_
  refine Ev.istD (L' := [.val (.ref o), .val (.int a0), .val (.int a1), .val (.int a2), .val (.int q1), .unset]) (d23 3 rfl) rfl rfl rfl ?_
  refine Ev.iload (d23 4 rfl) rfl ?_
  refine Ev.ifeq (t := 15) (d23 5 rfl) rfl (fun c3 => ?_) (fun c3 => ?_)
  · replace hr := (if_pos c3).symm.trans hr
    refine Ev.iloadN (d23 8 rfl) rfl ?_
    refine Ev.iflt (t := 29) (d23 9 rfl) rfl (fun c4 => ?_) (fun c4 => ?_)
    · replace hr := (if_pos c4).symm.trans hr
      refine Ev.bipush (z := -3) (d23 16 rfl) rfl ?_
      cases hr
      exact Ev.ireturn rfl (d23 17 rfl)
    · replace hr := (if_neg c4).symm.trans hr
      refine Ev.iloadN (d23 10 rfl) rfl ?_
      refine Ev.aloadN (d23 11 rfl) rfl ?_
      refine Ev.gAr V (ww hw 23 rfl) (d23 12 rfl) (j := 4) rfl ?_
      refine Ev.iloadN (d23 13 rfl) rfl ?_
      obtain ⟨b5, hr⟩ := grd_some hr
      refine Ev.ial V (j := 4) rfl rfl (d23 14 rfl) b5 ?_
      refine Ev.iclt (t := 32) (d23 15 rfl) rfl (fun c6 => ?_) (fun c6 => ?_)
      · replace hr := (if_pos c6).symm.trans hr
        refine Ev.aloadN (d23 18 rfl) rfl ?_
        refine Ev.gAr V (ww hw 21 rfl) (d23 19 rfl) (j := 3) rfl ?_
        refine Ev.iloadN (d23 20 rfl) rfl ?_
        refine Ev.ial V (j := 3) rfl rfl (d23 21 rfl) b5 ?_
        refine Ev.iloadN (d23 22 rfl) rfl ?_
        refine Ev.iadd (d23 23 rfl) ?_
        refine Ev.istD (L' := [.val (.ref o), .val (.int a0), .val (.int a1), .val (.int a2), .val (.int q1), .val (.int ((s.2 3 (ix a0)) + a1))]) (d23 24 rfl) rfl rfl rfl ?_
        refine Ev.iload (d23 25 rfl) rfl ?_
        refine Ev.iflt (t := 63) (d23 26 rfl) rfl (fun c7 => ?_) (fun c7 => ?_)
        · replace hr := (if_pos c7).symm.trans hr
          exact e_write_63 hw V  a0 s (.val (.int a1)) rfl (.val (.int a2)) rfl (.val (.int q1)) rfl (.val (.int ((s.2 3 (ix a0)) + a1))) rfl _ hr
        · replace hr := (if_neg c7).symm.trans hr
          refine Ev.iload (d23 27 rfl) rfl ?_
          refine Ev.sipush (z := 256) (d23 28 rfl) rfl ?_
          refine Ev.icge (t := 63) (d23 29 rfl) rfl (fun c8 => ?_) (fun c8 => ?_)
          · replace hr := (if_pos c8).symm.trans hr
            refine Ev.aloadN (d23 30 rfl) rfl ?_
            refine Ev.gAr V (ww hw 14 rfl) (d23 31 rfl) (j := 0) rfl ?_
            refine Ev.iload (d23 32 rfl) rfl ?_
            refine Ev.iloadN (d23 33 rfl) rfl ?_
            obtain ⟨b9, hr⟩ := grd_some hr
            refine Ev.ias V (j := 0) rfl rfl (d23 34 rfl) b9 ?_
            revert hr
            generalize setA s 0 (ix ((s.2 3 (ix a0)) + a1)) a2 = s10
            intro hr
            replace hr := (bnd_eq _ _).symm.trans hr
            exact e_write_63 hw V  a0 s10 (.val (.int a1)) rfl (.val (.int a2)) rfl (.val (.int q1)) rfl (.val (.int ((s.2 3 (ix a0)) + a1))) rfl _ hr
          · replace hr := (if_neg c8).symm.trans hr
            exact e_write_63 hw V  a0 s (.val (.int a1)) rfl (.val (.int a2)) rfl (.val (.int q1)) rfl (.val (.int ((s.2 3 (ix a0)) + a1))) rfl _ hr
      · replace hr := (if_neg c6).symm.trans hr
        refine Ev.bipush (z := -3) (d23 16 rfl) rfl ?_
        cases hr
        exact Ev.ireturn rfl (d23 17 rfl)
  · replace hr := (if_neg c3).symm.trans hr
    refine Ev.iload (d23 6 rfl) rfl ?_
    cases hr
    exact Ev.ireturn rfl (d23 7 rfl)
def f_rangeFree_6 (n : Nat) : Nat → Int32 → Int32 → St → Option (Int32 × St)
  | 0 => fun _ _ _ => none
  | k + 1 => fun x2 x3 s =>
    if x3 < x2 then
      if x3 < 0 then
        some ((0 : Int32), s)
      else
        if x3 < (256 : Int32) then
          grd (inb x3 256) <|
          if (s.2 1 (ix x3)) = 0 then
            f_rangeFree_6 n k x2 (x3 + (1 : Int32)) s
          else
            some ((0 : Int32), s)
        else
          some ((0 : Int32), s)
    else
      some ((1 : Int32), s)
set_option maxRecDepth 100000 in
theorem e_rangeFree_6 {g : GT} {n : Nat} (hw : HW g) {K : St → MHeap} {o : Nat} {r : Nat → Nat} (V : View (GG g) Ln K o r) (k : Nat) : ∀ (x2 : Int32) (x3 : Int32) (s : St) (y1 : Slot) (hy1 : one1 y1 = true) (w : Int32 × St), f_rangeFree_6 n k x2 x3 s = some w → Ev (GG g) M_rangeFree 6 [.val (.ref o), y1, .val (.int x2), .val (.int x3)] [] (K s) ((some (.int w.1)), (K w.2)) := by
  induction k with
  | zero => intro x2 x3 s y1 hy1 w hr; rw [f_rangeFree_6] at hr; cases hr
  | succ k ih =>
    intro x2 x3 s y1 hy1 w hr
    rw [f_rangeFree_6] at hr
    refine Ev.iloadN (d24 4 rfl) rfl ?_
    refine Ev.iloadN (d24 5 rfl) rfl ?_
    refine Ev.icge (t := 39) (d24 6 rfl) rfl (fun c1 => ?_) (fun c1 => ?_)
    · replace hr := (if_pos c1).symm.trans hr
      refine Ev.iloadN (d24 7 rfl) rfl ?_
      refine Ev.iflt (t := 31) (d24 8 rfl) rfl (fun c2 => ?_) (fun c2 => ?_)
      · replace hr := (if_pos c2).symm.trans hr
        refine Ev.iconst (z := 0) (d24 17 rfl) rfl ?_
        cases hr
        exact Ev.zret0 rfl (d24 18 rfl)
      · replace hr := (if_neg c2).symm.trans hr
        refine Ev.iloadN (d24 9 rfl) rfl ?_
        refine Ev.sipush (z := 256) (d24 10 rfl) rfl ?_
        refine Ev.icge (t := 31) (d24 11 rfl) rfl (fun c3 => ?_) (fun c3 => ?_)
        · replace hr := (if_pos c3).symm.trans hr
          refine Ev.aloadN (d24 12 rfl) rfl ?_
          refine Ev.gAr V (ww hw 17 rfl) (d24 13 rfl) (j := 1) rfl ?_
          refine Ev.iloadN (d24 14 rfl) rfl ?_
          obtain ⟨b4, hr⟩ := grd_some hr
          refine Ev.bal V (j := 1) rfl rfl (d24 15 rfl) b4 ?_
          refine Ev.ifeq (t := 33) (d24 16 rfl) rfl (fun c5 => ?_) (fun c5 => ?_)
          · replace hr := (if_pos c5).symm.trans hr
            refine Ev.iinc (z := 1) (L' := [.val (.ref o), y1, .val (.int x2), .val (.int (x3 + (1 : Int32)))]) (d24 19 rfl) rfl rfl rfl ?_
            refine Ev.goto (t := 6) (d24 20 rfl) rfl ?_
            exact ih x2 (x3 + (1 : Int32)) s y1 hy1 _ hr
          · replace hr := (if_neg c5).symm.trans hr
            refine Ev.iconst (z := 0) (d24 17 rfl) rfl ?_
            cases hr
            exact Ev.zret0 rfl (d24 18 rfl)
        · replace hr := (if_neg c3).symm.trans hr
          refine Ev.iconst (z := 0) (d24 17 rfl) rfl ?_
          cases hr
          exact Ev.zret0 rfl (d24 18 rfl)
    · replace hr := (if_neg c1).symm.trans hr
      refine Ev.iconst (z := 1) (d24 21 rfl) rfl ?_
      cases hr
      exact Ev.zret1 rfl (d24 22 rfl)
def f_rangeFree (n : Nat) (a0 : Int32) (a1 : Int32) (s : St) : Option (Int32 × St) :=
  (f_markLive n s).bind fun q1 =>
  f_rangeFree_6 n n a1 a0 q1
set_option maxRecDepth 100000 in
theorem e_rangeFree {g : GT} {n : Nat} {a0 : Int32} {a1 : Int32} {s : St} {w : Int32 × St} (hw : HW g) {K : St → MHeap} {o : Nat} {r : Nat → Nat} (V : View (GG g) Ln K o r) (hr : f_rangeFree n a0 a1 s = some w) : EvC (GG g) M_rangeFree [.ref o, .int a0, .int a1] (K s) ((some (.int w.1)), (K w.2)) := by
  refine EvC.enter (L0 := [.val (.ref o), .val (.int a0), .val (.int a1), .unset]) pl_rangeFree (fun h => nomatch h) rfl rfl ?_
  unfold f_rangeFree at hr
  refine Ev.aloadN (d24 0 rfl) rfl ?_
  obtain ⟨q1, hq2, hr⟩ := Option.bind_eq_some_iff.mp hr
  refine Ev.priv (y := M_markLive) (args := []) (rest := []) (gok hw) rfl nm_markLive (ww hw 82 rfl) (ww hw 83 rfl) (ww hw 84 rfl) (ww hw 85 rfl) (lenOf pd_markLive rfl) (d24 1 rfl) (V.2.1 s) (e_markLive hw V hq2) (by decide) (Nat.le_of_ble_eq_true rfl) rfl ?_
  refine Ev.iloadN (d24 2 rfl) rfl ?_
  refine Ev.istDN (L' := [.val (.ref o), .val (.int a0), .val (.int a1), .val (.int a0)]) (d24 3 rfl) rfl rfl rfl ?_
  exact e_rangeFree_6 hw V  n a1 a0 q1 (.val (.int a0)) rfl _ hr
def f_setSize_118 (n : Nat) (x1 : Int32) (x2 : Int32) (x5 : Int32) (s : St) : Option (Int32 × St) :=
  grd (inb x1 32) <|
  if (s.2 7 (ix x1)) = 0 then
    (f_alloc n x2 x1 s).bind fun q3 =>
    if q3.1 < 0 then
      some ((-6 : Int32), q3.2)
    else
      (f_copyWords n (q3.2.2 3 (ix x1)) q3.1 x5 q3.2).bind fun q6 =>
      (f_zeroWords n (q3.1 + x5) (x2 - x5) q6).bind fun q8 =>
      bnd (setA q8 3 (ix x1) q3.1) fun s10 =>
      bnd (setA s10 4 (ix x1) x2) fun s11 =>
      (f_touch x1 s11).bind fun q12 =>
      some ((0 : Int32), q12)
  else
    some ((-5 : Int32), s)
set_option maxRecDepth 100000 in
theorem e_setSize_118 {g : GT} {n : Nat} (hw : HW g) {K : St → MHeap} {o : Nat} {r : Nat → Nat} (V : View (GG g) Ln K o r) (x1 : Int32) (x2 : Int32) (x5 : Int32) (s : St) (y3 : Slot) (hy3 : one1 y3 = true) (y4 : Slot) (hy4 : one1 y4 = true) (y6 : Slot) (hy6 : one1 y6 = true) (y7 : Slot) (hy7 : one1 y7 = true) (w : Int32 × St) (hr : f_setSize_118 n x1 x2 x5 s = some w) : Ev (GG g) M_setSize 118 [.val (.ref o), .val (.int x1), .val (.int x2), y3, y4, .val (.int x5), y6, y7] [] (K s) ((some (.int w.1)), (K w.2)) := by
  unfold f_setSize_118 at hr
  refine Ev.aloadN (d8 73 rfl) rfl ?_
  refine Ev.gAr V (ww hw 29 rfl) (d8 74 rfl) (j := 7) rfl ?_
  refine Ev.iloadN (d8 75 rfl) rfl ?_
  obtain ⟨b1, hr⟩ := grd_some hr
  refine Ev.bal V (j := 7) rfl rfl (d8 76 rfl) b1 ?_
  refine Ev.ifeq (t := 130) (d8 77 rfl) rfl (fun c2 => ?_) (fun c2 => ?_)
  · replace hr := (if_pos c2).symm.trans hr
    refine Ev.aloadN (d8 80 rfl) rfl ?_
    refine Ev.iloadN (d8 81 rfl) rfl ?_
    refine Ev.iloadN (d8 82 rfl) rfl ?_
    obtain ⟨q3, hq4, hr⟩ := Option.bind_eq_some_iff.mp hr
    refine Ev.priv (y := M_alloc) (args := [.int x2, .int x1]) (rest := []) (gok hw) rfl nm_alloc (ww hw 74 rfl) (ww hw 75 rfl) (ww hw 76 rfl) (ww hw 77 rfl) (lenOf pd_alloc rfl) (d8 83 rfl) (V.2.1 s) (e_alloc hw V hq4) (by decide) (Nat.le_of_ble_eq_true rfl) rfl ?_
    refine Ev.istD (L' := [.val (.ref o), .val (.int x1), .val (.int x2), y3, y4, .val (.int x5), .val (.int q3.1), y7]) (d8 84 rfl) rfl hy6 rfl ?_
    refine Ev.iload (d8 85 rfl) rfl ?_
    refine Ev.ifge (t := 146) (d8 86 rfl) rfl (fun c5 => ?_) (fun c5 => ?_)
    · replace hr := (if_pos c5).symm.trans hr
      refine Ev.bipush (z := -6) (d8 87 rfl) rfl ?_
      cases hr
      exact Ev.ireturn rfl (d8 88 rfl)
    · replace hr := (if_neg c5).symm.trans hr
      refine Ev.aloadN (d8 89 rfl) rfl ?_
      refine Ev.gAr V (ww hw 21 rfl) (d8 90 rfl) (j := 3) rfl ?_
      refine Ev.iloadN (d8 91 rfl) rfl ?_
      refine Ev.ial V (j := 3) rfl rfl (d8 92 rfl) b1 ?_
      refine Ev.istD (L' := [.val (.ref o), .val (.int x1), .val (.int x2), y3, y4, .val (.int x5), .val (.int q3.1), .val (.int (q3.2.2 3 (ix x1)))]) (d8 93 rfl) rfl hy7 rfl ?_
      refine Ev.aloadN (d8 94 rfl) rfl ?_
      refine Ev.iload (d8 95 rfl) rfl ?_
      refine Ev.iload (d8 96 rfl) rfl ?_
      refine Ev.iload (d8 97 rfl) rfl ?_
      obtain ⟨q6, hq7, hr⟩ := Option.bind_eq_some_iff.mp hr
      refine Ev.priv (y := M_copyWords) (args := [.int (q3.2.2 3 (ix x1)), .int q3.1, .int x5]) (rest := []) (gok hw) rfl nm_copyWords (ww hw 133 rfl) (ww hw 134 rfl) (ww hw 135 rfl) (ww hw 136 rfl) (lenOf pd_copyWords rfl) (d8 98 rfl) (V.2.1 q3.2) (e_copyWords hw V hq7) (by decide) (Nat.le_of_ble_eq_true rfl) rfl ?_
      refine Ev.aloadN (d8 99 rfl) rfl ?_
      refine Ev.iload (d8 100 rfl) rfl ?_
      refine Ev.iload (d8 101 rfl) rfl ?_
      refine Ev.iadd (d8 102 rfl) ?_
      refine Ev.iloadN (d8 103 rfl) rfl ?_
      refine Ev.iload (d8 104 rfl) rfl ?_
      refine Ev.isub (d8 105 rfl) ?_
      obtain ⟨q8, hq9, hr⟩ := Option.bind_eq_some_iff.mp hr
      refine Ev.priv (y := M_zeroWords) (args := [.int (q3.1 + x5), .int (x2 - x5)]) (rest := []) (gok hw) rfl nm_zeroWords (ww hw 98 rfl) (ww hw 99 rfl) (ww hw 100 rfl) (ww hw 101 rfl) (lenOf pd_zeroWords rfl) (d8 106 rfl) (V.2.1 q6) (e_zeroWords hw V hq9) (by decide) (Nat.le_of_ble_eq_true rfl) rfl ?_
      refine Ev.aloadN (d8 107 rfl) rfl ?_
      refine Ev.gAr V (ww hw 21 rfl) (d8 108 rfl) (j := 3) rfl ?_
      refine Ev.iloadN (d8 109 rfl) rfl ?_
      refine Ev.iload (d8 110 rfl) rfl ?_
      refine Ev.ias V (j := 3) rfl rfl (d8 111 rfl) b1 ?_
      revert hr
      generalize setA q8 3 (ix x1) q3.1 = s10
      intro hr
      replace hr := (bnd_eq _ _).symm.trans hr
      refine Ev.aloadN (d8 112 rfl) rfl ?_
      refine Ev.gAr V (ww hw 23 rfl) (d8 113 rfl) (j := 4) rfl ?_
      refine Ev.iloadN (d8 114 rfl) rfl ?_
      refine Ev.iloadN (d8 115 rfl) rfl ?_
      refine Ev.ias V (j := 4) rfl rfl (d8 116 rfl) b1 ?_
      revert hr
      generalize setA s10 4 (ix x1) x2 = s11
      intro hr
      replace hr := (bnd_eq _ _).symm.trans hr
      refine Ev.aloadN (d8 117 rfl) rfl ?_
      refine Ev.iloadN (d8 118 rfl) rfl ?_
      obtain ⟨q12, hq13, hr⟩ := Option.bind_eq_some_iff.mp hr
      refine Ev.priv (y := M_touch) (args := [.int x1]) (rest := []) (gok hw) rfl nm_touch (ww hw 102 rfl) (ww hw 103 rfl) (ww hw 104 rfl) (ww hw 105 rfl) (lenOf pd_touch rfl) (d8 119 rfl) (V.2.1 s11) (e_touch hw V hq13) (by decide) (Nat.le_of_ble_eq_true rfl) rfl ?_
      refine Ev.iconst (z := 0) (d8 120 rfl) rfl ?_
      cases hr
      exact Ev.ireturn rfl (d8 121 rfl)
  · replace hr := (if_neg c2).symm.trans hr
    refine Ev.bipush (z := -5) (d8 78 rfl) rfl ?_
    cases hr
    exact Ev.ireturn rfl (d8 79 rfl)
def f_setSize (n : Nat) (a0 : Int32) (a1 : Int32) (s : St) : Option (Int32 × St) :=
  (f_check s a0).bind fun q1 =>
  if q1 = 0 then
    if a1 < (1 : Int32) then
      some ((-2 : Int32), s)
    else
      if (s.1 9) < a1 then
        some ((-2 : Int32), s)
      else
        grd (inb a0 32) <|
        if (s.2 4 (ix a0)) < a1 then
          if (s.1 9) < ((s.2 3 (ix a0)) + a1) then
            f_setSize_118 n a0 a1 (s.2 4 (ix a0)) s
          else
            (f_rangeFree n ((s.2 3 (ix a0)) + (s.2 4 (ix a0))) ((s.2 3 (ix a0)) + a1) s).bind fun q9 =>
            if q9.1 = 0 then
              f_setSize_118 n a0 a1 (s.2 4 (ix a0)) q9.2
            else
              (f_zeroWords n ((s.2 3 (ix a0)) + (s.2 4 (ix a0))) (a1 - (s.2 4 (ix a0))) q9.2).bind fun q12 =>
              bnd (setA q12 4 (ix a0) a1) fun s14 =>
              (f_touch a0 s14).bind fun q15 =>
              some ((0 : Int32), q15)
        else
          bnd (setA s 4 (ix a0) a1) fun s17 =>
          (f_touch a0 s17).bind fun q18 =>
          some ((0 : Int32), q18)
  else
    some (q1, s)
set_option maxRecDepth 100000 in
theorem e_setSize {g : GT} {n : Nat} {a0 : Int32} {a1 : Int32} {s : St} {w : Int32 × St} (hw : HW g) {K : St → MHeap} {o : Nat} {r : Nat → Nat} (V : View (GG g) Ln K o r) (hr : f_setSize n a0 a1 s = some w) : EvC (GG g) M_setSize [.ref o, .int a0, .int a1] (K s) ((some (.int w.1)), (K w.2)) := by
  refine EvC.enter (L0 := [.val (.ref o), .val (.int a0), .val (.int a1), .unset, .unset, .unset, .unset, .unset]) pl_setSize (fun h => nomatch h) rfl rfl ?_
  unfold f_setSize at hr
  refine Ev.aloadN (d8 0 rfl) rfl ?_
  refine Ev.iloadN (d8 1 rfl) rfl ?_
  obtain ⟨q1, hq2, hr⟩ := Option.bind_eq_some_iff.mp hr
  refine Ev.priv (y := M_check) (args := [.int a0]) (rest := []) (gok hw) rfl nm_check (ww hw 65 rfl) (ww hw 66 rfl) (ww hw 67 rfl) (ww hw 68 rfl) (lenOf pd_check rfl) (d8 2 rfl) (V.2.1 s) (e_check hw V hq2) (by decide) (Nat.le_of_ble_eq_true rfl) rfl ?_
  refine Ev.istDN (L' := [.val (.ref o), .val (.int a0), .val (.int a1), .val (.int q1), .unset, .unset, .unset, .unset]) (d8 3 rfl) rfl rfl rfl ?_
  refine Ev.iloadN (d8 4 rfl) rfl ?_
  refine Ev.ifeq (t := 12) (d8 5 rfl) rfl (fun c3 => ?_) (fun c3 => ?_)
  · replace hr := (if_pos c3).symm.trans hr
    refine Ev.iloadN (d8 8 rfl) rfl ?_
    refine Ev.iconst (z := 1) (d8 9 rfl) rfl ?_
    refine Ev.iclt (t := 25) (d8 10 rfl) rfl (fun c4 => ?_) (fun c4 => ?_)
    · replace hr := (if_pos c4).symm.trans hr
      refine Ev.bipush (z := -2) (d8 15 rfl) rfl ?_
      cases hr
      exact Ev.ireturn rfl (d8 16 rfl)
    · replace hr := (if_neg c4).symm.trans hr
      refine Ev.iloadN (d8 11 rfl) rfl ?_
      refine Ev.aloadN (d8 12 rfl) rfl ?_
      refine Ev.gI V (ww hw 33 rfl) (d8 13 rfl) (j := 9) rfl rfl ?_
      refine Ev.icle (t := 28) (d8 14 rfl) rfl (fun c5 => ?_) (fun c5 => ?_)
      · replace hr := (if_pos c5).symm.trans hr
        refine Ev.bipush (z := -2) (d8 15 rfl) rfl ?_
        cases hr
        exact Ev.ireturn rfl (d8 16 rfl)
      · replace hr := (if_neg c5).symm.trans hr
        refine Ev.aloadN (d8 17 rfl) rfl ?_
        refine Ev.gAr V (ww hw 21 rfl) (d8 18 rfl) (j := 3) rfl ?_
        refine Ev.iloadN (d8 19 rfl) rfl ?_
        obtain ⟨b6, hr⟩ := grd_some hr
        refine Ev.ial V (j := 3) rfl rfl (d8 20 rfl) b6 ?_
        refine Ev.istD (L' := [.val (.ref o), .val (.int a0), .val (.int a1), .val (.int q1), .val (.int (s.2 3 (ix a0))), .unset, .unset, .unset]) (d8 21 rfl) rfl rfl rfl ?_
        refine Ev.aloadN (d8 22 rfl) rfl ?_
        refine Ev.gAr V (ww hw 23 rfl) (d8 23 rfl) (j := 4) rfl ?_
        refine Ev.iloadN (d8 24 rfl) rfl ?_
        refine Ev.ial V (j := 4) rfl rfl (d8 25 rfl) b6 ?_
        refine Ev.istD (L' := [.val (.ref o), .val (.int a0), .val (.int a1), .val (.int q1), .val (.int (s.2 3 (ix a0))), .val (.int (s.2 4 (ix a0))), .unset, .unset]) (d8 26 rfl) rfl rfl rfl ?_
        refine Ev.iloadN (d8 27 rfl) rfl ?_
        refine Ev.iload (d8 28 rfl) rfl ?_
        refine Ev.icgt (t := 64) (d8 29 rfl) rfl (fun c7 => ?_) (fun c7 => ?_)
        · replace hr := (if_pos c7).symm.trans hr
          refine Ev.iload (d8 40 rfl) rfl ?_
          refine Ev.iloadN (d8 41 rfl) rfl ?_
          refine Ev.iadd (d8 42 rfl) ?_
          refine Ev.aloadN (d8 43 rfl) rfl ?_
          refine Ev.gI V (ww hw 33 rfl) (d8 44 rfl) (j := 9) rfl rfl ?_
          refine Ev.icgt (t := 118) (d8 45 rfl) rfl (fun c8 => ?_) (fun c8 => ?_)
          · replace hr := (if_pos c8).symm.trans hr
            exact e_setSize_118 hw V  a0 a1 (s.2 4 (ix a0)) s (.val (.int q1)) rfl (.val (.int (s.2 3 (ix a0)))) rfl .unset rfl .unset rfl _ hr
          · replace hr := (if_neg c8).symm.trans hr
            refine Ev.aloadN (d8 46 rfl) rfl ?_
            refine Ev.iload (d8 47 rfl) rfl ?_
            refine Ev.iload (d8 48 rfl) rfl ?_
            refine Ev.iadd (d8 49 rfl) ?_
            refine Ev.iload (d8 50 rfl) rfl ?_
            refine Ev.iloadN (d8 51 rfl) rfl ?_
            refine Ev.iadd (d8 52 rfl) ?_
            obtain ⟨q9, hq10, hr⟩ := Option.bind_eq_some_iff.mp hr
            refine Ev.priv (y := M_rangeFree) (args := [.int ((s.2 3 (ix a0)) + (s.2 4 (ix a0))), .int ((s.2 3 (ix a0)) + a1)]) (rest := []) (gok hw) rfl nm_rangeFree (ww hw 129 rfl) (ww hw 130 rfl) (ww hw 131 rfl) (ww hw 132 rfl) (lenOf pd_rangeFree rfl) (d8 53 rfl) (V.2.1 s) (e_rangeFree hw V hq10) (by decide) (Nat.le_of_ble_eq_true rfl) rfl ?_
            refine Ev.ifeq (t := 118) (d8 54 rfl) rfl (fun c11 => ?_) (fun c11 => ?_)
            · replace hr := (if_pos c11).symm.trans hr
              exact e_setSize_118 hw V  a0 a1 (s.2 4 (ix a0)) q9.2 (.val (.int q1)) rfl (.val (.int (s.2 3 (ix a0)))) rfl .unset rfl .unset rfl _ hr
            · replace hr := (if_neg c11).symm.trans hr
              refine Ev.aloadN (d8 55 rfl) rfl ?_
              refine Ev.iload (d8 56 rfl) rfl ?_
              refine Ev.iload (d8 57 rfl) rfl ?_
              refine Ev.iadd (d8 58 rfl) ?_
              refine Ev.iloadN (d8 59 rfl) rfl ?_
              refine Ev.iload (d8 60 rfl) rfl ?_
              refine Ev.isub (d8 61 rfl) ?_
              obtain ⟨q12, hq13, hr⟩ := Option.bind_eq_some_iff.mp hr
              refine Ev.priv (y := M_zeroWords) (args := [.int ((s.2 3 (ix a0)) + (s.2 4 (ix a0))), .int (a1 - (s.2 4 (ix a0)))]) (rest := []) (gok hw) rfl nm_zeroWords (ww hw 98 rfl) (ww hw 99 rfl) (ww hw 100 rfl) (ww hw 101 rfl) (lenOf pd_zeroWords rfl) (d8 62 rfl) (V.2.1 q9.2) (e_zeroWords hw V hq13) (by decide) (Nat.le_of_ble_eq_true rfl) rfl ?_
              refine Ev.aloadN (d8 63 rfl) rfl ?_
              refine Ev.gAr V (ww hw 23 rfl) (d8 64 rfl) (j := 4) rfl ?_
              refine Ev.iloadN (d8 65 rfl) rfl ?_
              refine Ev.iloadN (d8 66 rfl) rfl ?_
              refine Ev.ias V (j := 4) rfl rfl (d8 67 rfl) b6 ?_
              revert hr
              generalize setA q12 4 (ix a0) a1 = s14
              intro hr
              replace hr := (bnd_eq _ _).symm.trans hr
              refine Ev.aloadN (d8 68 rfl) rfl ?_
              refine Ev.iloadN (d8 69 rfl) rfl ?_
              obtain ⟨q15, hq16, hr⟩ := Option.bind_eq_some_iff.mp hr
              refine Ev.priv (y := M_touch) (args := [.int a0]) (rest := []) (gok hw) rfl nm_touch (ww hw 102 rfl) (ww hw 103 rfl) (ww hw 104 rfl) (ww hw 105 rfl) (lenOf pd_touch rfl) (d8 70 rfl) (V.2.1 s14) (e_touch hw V hq16) (by decide) (Nat.le_of_ble_eq_true rfl) rfl ?_
              refine Ev.iconst (z := 0) (d8 71 rfl) rfl ?_
              cases hr
              exact Ev.ireturn rfl (d8 72 rfl)
        · replace hr := (if_neg c7).symm.trans hr
          refine Ev.aloadN (d8 30 rfl) rfl ?_
          refine Ev.gAr V (ww hw 23 rfl) (d8 31 rfl) (j := 4) rfl ?_
          refine Ev.iloadN (d8 32 rfl) rfl ?_
          refine Ev.iloadN (d8 33 rfl) rfl ?_
          refine Ev.ias V (j := 4) rfl rfl (d8 34 rfl) b6 ?_
          revert hr
          generalize setA s 4 (ix a0) a1 = s17
          intro hr
          replace hr := (bnd_eq _ _).symm.trans hr
          refine Ev.aloadN (d8 35 rfl) rfl ?_
          refine Ev.iloadN (d8 36 rfl) rfl ?_
          obtain ⟨q18, hq19, hr⟩ := Option.bind_eq_some_iff.mp hr
          refine Ev.priv (y := M_touch) (args := [.int a0]) (rest := []) (gok hw) rfl nm_touch (ww hw 102 rfl) (ww hw 103 rfl) (ww hw 104 rfl) (ww hw 105 rfl) (lenOf pd_touch rfl) (d8 37 rfl) (V.2.1 s17) (e_touch hw V hq19) (by decide) (Nat.le_of_ble_eq_true rfl) rfl ?_
          refine Ev.iconst (z := 0) (d8 38 rfl) rfl ?_
          cases hr
          exact Ev.ireturn rfl (d8 39 rfl)
  · replace hr := (if_neg c3).symm.trans hr
    refine Ev.iloadN (d8 6 rfl) rfl ?_
    cases hr
    exact Ev.ireturn rfl (d8 7 rfl)
def f_read (a0 : Int32) (a1 : Int32) (s : St) : Option (Int32 × St) :=
  (f_valid s a0).bind fun q1 =>
  if q1 = 0 then
    some ((0 : Int32), s)
  else
    grd (inb a0 32) <|
    if (s.2 2 (ix a0)) = (1 : Int32) then
      if a1 < 0 then
        some ((0 : Int32), s)
      else
        if a1 < (s.2 4 (ix a0)) then
          if ((s.2 3 (ix a0)) + a1) < 0 then
            some ((0 : Int32), s)
          else
            if ((s.2 3 (ix a0)) + a1) < (256 : Int32) then
              (f_touch a0 s).bind fun q10 =>
              grd (inb ((s.2 3 (ix a0)) + a1) 256) <|
              some ((q10.2 0 (ix ((s.2 3 (ix a0)) + a1))), q10)
            else
              some ((0 : Int32), s)
        else
          some ((0 : Int32), s)
    else
      some ((0 : Int32), s)
set_option maxRecDepth 100000 in
theorem e_read {g : GT} {a0 : Int32} {a1 : Int32} {s : St} {w : Int32 × St} (hw : HW g) {K : St → MHeap} {o : Nat} {r : Nat → Nat} (V : View (GG g) Ln K o r) (hr : f_read a0 a1 s = some w) : EvC (GG g) M_read [.ref o, .int a0, .int a1] (K s) ((some (.int w.1)), (K w.2)) := by
  refine EvC.enter (L0 := [.val (.ref o), .val (.int a0), .val (.int a1), .unset]) pl_read (fun h => nomatch h) rfl rfl ?_
  unfold f_read at hr
  refine Ev.aloadN (d27 0 rfl) rfl ?_
  refine Ev.iloadN (d27 1 rfl) rfl ?_
  obtain ⟨q1, hq2, hr⟩ := Option.bind_eq_some_iff.mp hr
  refine Ev.priv (y := M_valid) (args := [.int a0]) (rest := []) (gok hw) rfl nm_valid (ww hw 48 rfl) (ww hw 49 rfl) (ww hw 50 rfl) (ww hw 51 rfl) (lenOf pd_valid rfl) (d27 2 rfl) (V.2.1 s) (e_valid hw V hq2) (by decide) (Nat.le_of_ble_eq_true rfl) rfl ?_
  refine Ev.ifeq (t := 18) (d27 3 rfl) rfl (fun c3 => ?_) (fun c3 => ?_)
  · replace hr := (if_pos c3).symm.trans hr
    refine Ev.iconst (z := 0) (d27 10 rfl) rfl ?_
    cases hr
    exact Ev.ireturn rfl (d27 11 rfl)
  · replace hr := (if_neg c3).symm.trans hr
    refine Ev.aloadN (d27 4 rfl) rfl ?_
    refine Ev.gAr V (ww hw 19 rfl) (d27 5 rfl) (j := 2) rfl ?_
    refine Ev.iloadN (d27 6 rfl) rfl ?_
    obtain ⟨b4, hr⟩ := grd_some hr
    refine Ev.ial V (j := 2) rfl rfl (d27 7 rfl) b4 ?_
    refine Ev.iconst (z := 1) (d27 8 rfl) rfl ?_
    refine Ev.iceq (t := 20) (d27 9 rfl) rfl (fun c5 => ?_) (fun c5 => ?_)
    · replace hr := (if_pos c5).symm.trans hr
      refine Ev.iloadN (d27 12 rfl) rfl ?_
      refine Ev.iflt (t := 34) (d27 13 rfl) rfl (fun c6 => ?_) (fun c6 => ?_)
      · replace hr := (if_pos c6).symm.trans hr
        refine Ev.iconst (z := 0) (d27 20 rfl) rfl ?_
        cases hr
        exact Ev.ireturn rfl (d27 21 rfl)
      · replace hr := (if_neg c6).symm.trans hr
        refine Ev.iloadN (d27 14 rfl) rfl ?_
        refine Ev.aloadN (d27 15 rfl) rfl ?_
        refine Ev.gAr V (ww hw 23 rfl) (d27 16 rfl) (j := 4) rfl ?_
        refine Ev.iloadN (d27 17 rfl) rfl ?_
        refine Ev.ial V (j := 4) rfl rfl (d27 18 rfl) b4 ?_
        refine Ev.iclt (t := 36) (d27 19 rfl) rfl (fun c7 => ?_) (fun c7 => ?_)
        · replace hr := (if_pos c7).symm.trans hr
          refine Ev.aloadN (d27 22 rfl) rfl ?_
          refine Ev.gAr V (ww hw 21 rfl) (d27 23 rfl) (j := 3) rfl ?_
          refine Ev.iloadN (d27 24 rfl) rfl ?_
          refine Ev.ial V (j := 3) rfl rfl (d27 25 rfl) b4 ?_
          refine Ev.iloadN (d27 26 rfl) rfl ?_
          refine Ev.iadd (d27 27 rfl) ?_
          refine Ev.istDN (L' := [.val (.ref o), .val (.int a0), .val (.int a1), .val (.int ((s.2 3 (ix a0)) + a1))]) (d27 28 rfl) rfl rfl rfl ?_
          refine Ev.iloadN (d27 29 rfl) rfl ?_
          refine Ev.iflt (t := 56) (d27 30 rfl) rfl (fun c8 => ?_) (fun c8 => ?_)
          · replace hr := (if_pos c8).symm.trans hr
            refine Ev.iconst (z := 0) (d27 34 rfl) rfl ?_
            cases hr
            exact Ev.ireturn rfl (d27 35 rfl)
          · replace hr := (if_neg c8).symm.trans hr
            refine Ev.iloadN (d27 31 rfl) rfl ?_
            refine Ev.sipush (z := 256) (d27 32 rfl) rfl ?_
            refine Ev.iclt (t := 58) (d27 33 rfl) rfl (fun c9 => ?_) (fun c9 => ?_)
            · replace hr := (if_pos c9).symm.trans hr
              refine Ev.aloadN (d27 36 rfl) rfl ?_
              refine Ev.iloadN (d27 37 rfl) rfl ?_
              obtain ⟨q10, hq11, hr⟩ := Option.bind_eq_some_iff.mp hr
              refine Ev.priv (y := M_touch) (args := [.int a0]) (rest := []) (gok hw) rfl nm_touch (ww hw 102 rfl) (ww hw 103 rfl) (ww hw 104 rfl) (ww hw 105 rfl) (lenOf pd_touch rfl) (d27 38 rfl) (V.2.1 s) (e_touch hw V hq11) (by decide) (Nat.le_of_ble_eq_true rfl) rfl ?_
              refine Ev.aloadN (d27 39 rfl) rfl ?_
              refine Ev.gAr V (ww hw 14 rfl) (d27 40 rfl) (j := 0) rfl ?_
              refine Ev.iloadN (d27 41 rfl) rfl ?_
              obtain ⟨b12, hr⟩ := grd_some hr
              refine Ev.ial V (j := 0) rfl rfl (d27 42 rfl) b12 ?_
              cases hr
              exact Ev.ireturn rfl (d27 43 rfl)
            · replace hr := (if_neg c9).symm.trans hr
              refine Ev.iconst (z := 0) (d27 34 rfl) rfl ?_
              cases hr
              exact Ev.ireturn rfl (d27 35 rfl)
        · replace hr := (if_neg c7).symm.trans hr
          refine Ev.iconst (z := 0) (d27 20 rfl) rfl ?_
          cases hr
          exact Ev.ireturn rfl (d27 21 rfl)
    · replace hr := (if_neg c5).symm.trans hr
      refine Ev.iconst (z := 0) (d27 10 rfl) rfl ?_
      cases hr
      exact Ev.ireturn rfl (d27 11 rfl)
def f_hexpect (a0 : Int32) (a1 : Int32) : Option (Int32) :=
  if a1 < (a0 &&& (511 : Int32)) then
    (f_hmix (a0 >>> ((9 : Int32) &&& 31)) a1).bind fun q2 =>
    some q2
  else
    some (0 : Int32)
set_option maxRecDepth 100000 in
theorem e_hexpect {g : GT} {a0 : Int32} {a1 : Int32} {w : Int32} (hw : HW g) {h : MHeap} (hr : f_hexpect a0 a1 = some w) : EvC (GG g) M_hexpect [.int a0, .int a1] h ((some (.int w)), h) := by
  refine EvC.enter (L0 := [.val (.int a0), .val (.int a1), .unset]) pl_hexpect (fun h => nomatch h) rfl rfl ?_
  unfold f_hexpect at hr
  refine Ev.iloadN (d28 0 rfl) rfl ?_
  refine Ev.sipush (z := 511) (d28 1 rfl) rfl ?_
  refine Ev.iand (d28 2 rfl) ?_
  refine Ev.istDN (L' := [.val (.int a0), .val (.int a1), .val (.int (a0 &&& (511 : Int32)))]) (d28 3 rfl) rfl rfl rfl ?_
  refine Ev.iloadN (d28 4 rfl) rfl ?_
  refine Ev.iloadN (d28 5 rfl) rfl ?_
  refine Ev.icge (t := 22) (d28 6 rfl) rfl (fun c1 => ?_) (fun c1 => ?_)
  · replace hr := (if_pos c1).symm.trans hr
    refine Ev.iloadN (d28 7 rfl) rfl ?_
    refine Ev.bipush (z := 9) (d28 8 rfl) rfl ?_
    refine Ev.ishr (d28 9 rfl) ?_
    refine Ev.iloadN (d28 10 rfl) rfl ?_
    obtain ⟨q2, hq3, hr⟩ := Option.bind_eq_some_iff.mp hr
    refine Ev.stat (y := M_hmix) (args := [.int (a0 >>> ((9 : Int32) &&& 31)), .int a1]) (rest := []) nm_hmix (ww hw 120 rfl) (ww hw 121 rfl) (ww hw 2 rfl) (ww hw 122 rfl) (lenOf pd_hmix rfl) (d28 11 rfl) (e_hmix hw hq3) (by decide) (Nat.le_of_ble_eq_true rfl) rfl ?_
    refine Ev.goto (t := 23) (d28 12 rfl) rfl ?_
    cases hr
    exact Ev.ireturn rfl (d28 14 rfl)
  · replace hr := (if_neg c1).symm.trans hr
    refine Ev.iconst (z := 0) (d28 13 rfl) rfl ?_
    cases hr
    exact Ev.ireturn rfl (d28 14 rfl)
def f_lock (a0 : Int32) (s : St) : Option (Int32 × St) :=
  (f_check s a0).bind fun q1 =>
  if q1 = 0 then
    grd (inb a0 32) <|
    bnd (setA s 7 (ix a0) ((1 : Int32) &&& 1)) fun s5 =>
    some ((0 : Int32), s5)
  else
    some (q1, s)
set_option maxRecDepth 100000 in
theorem e_lock {g : GT} {a0 : Int32} {s : St} {w : Int32 × St} (hw : HW g) {K : St → MHeap} {o : Nat} {r : Nat → Nat} (V : View (GG g) Ln K o r) (hr : f_lock a0 s = some w) : EvC (GG g) M_lock [.ref o, .int a0] (K s) ((some (.int w.1)), (K w.2)) := by
  refine EvC.enter (L0 := [.val (.ref o), .val (.int a0), .unset]) pl_lock (fun h => nomatch h) rfl rfl ?_
  unfold f_lock at hr
  refine Ev.aloadN (d37 0 rfl) rfl ?_
  refine Ev.iloadN (d37 1 rfl) rfl ?_
  obtain ⟨q1, hq2, hr⟩ := Option.bind_eq_some_iff.mp hr
  refine Ev.priv (y := M_check) (args := [.int a0]) (rest := []) (gok hw) rfl nm_check (ww hw 65 rfl) (ww hw 66 rfl) (ww hw 67 rfl) (ww hw 68 rfl) (lenOf pd_check rfl) (d37 2 rfl) (V.2.1 s) (e_check hw V hq2) (by decide) (Nat.le_of_ble_eq_true rfl) rfl ?_
  refine Ev.istDN (L' := [.val (.ref o), .val (.int a0), .val (.int q1)]) (d37 3 rfl) rfl rfl rfl ?_
  refine Ev.iloadN (d37 4 rfl) rfl ?_
  refine Ev.ifeq (t := 12) (d37 5 rfl) rfl (fun c3 => ?_) (fun c3 => ?_)
  · replace hr := (if_pos c3).symm.trans hr
    refine Ev.aloadN (d37 8 rfl) rfl ?_
    refine Ev.gAr V (ww hw 29 rfl) (d37 9 rfl) (j := 7) rfl ?_
    refine Ev.iloadN (d37 10 rfl) rfl ?_
    refine Ev.iconst (z := 1) (d37 11 rfl) rfl ?_
    obtain ⟨b4, hr⟩ := grd_some hr
    refine Ev.bas V (j := 7) rfl rfl (d37 12 rfl) b4 ?_
    revert hr
    generalize setA s 7 (ix a0) ((1 : Int32) &&& 1) = s5
    intro hr
    replace hr := (bnd_eq _ _).symm.trans hr
    refine Ev.iconst (z := 0) (d37 13 rfl) rfl ?_
    cases hr
    exact Ev.ireturn rfl (d37 14 rfl)
  · replace hr := (if_neg c3).symm.trans hr
    refine Ev.iloadN (d37 6 rfl) rfl ?_
    cases hr
    exact Ev.ireturn rfl (d37 7 rfl)
def f_unlock (a0 : Int32) (s : St) : Option (Int32 × St) :=
  (f_check s a0).bind fun q1 =>
  if q1 = 0 then
    grd (inb a0 32) <|
    bnd (setA s 7 (ix a0) ((0 : Int32) &&& 1)) fun s5 =>
    some ((0 : Int32), s5)
  else
    some (q1, s)
set_option maxRecDepth 100000 in
theorem e_unlock {g : GT} {a0 : Int32} {s : St} {w : Int32 × St} (hw : HW g) {K : St → MHeap} {o : Nat} {r : Nat → Nat} (V : View (GG g) Ln K o r) (hr : f_unlock a0 s = some w) : EvC (GG g) M_unlock [.ref o, .int a0] (K s) ((some (.int w.1)), (K w.2)) := by
  refine EvC.enter (L0 := [.val (.ref o), .val (.int a0), .unset]) pl_unlock (fun h => nomatch h) rfl rfl ?_
  unfold f_unlock at hr
  refine Ev.aloadN (d30 0 rfl) rfl ?_
  refine Ev.iloadN (d30 1 rfl) rfl ?_
  obtain ⟨q1, hq2, hr⟩ := Option.bind_eq_some_iff.mp hr
  refine Ev.priv (y := M_check) (args := [.int a0]) (rest := []) (gok hw) rfl nm_check (ww hw 65 rfl) (ww hw 66 rfl) (ww hw 67 rfl) (ww hw 68 rfl) (lenOf pd_check rfl) (d30 2 rfl) (V.2.1 s) (e_check hw V hq2) (by decide) (Nat.le_of_ble_eq_true rfl) rfl ?_
  refine Ev.istDN (L' := [.val (.ref o), .val (.int a0), .val (.int q1)]) (d30 3 rfl) rfl rfl rfl ?_
  refine Ev.iloadN (d30 4 rfl) rfl ?_
  refine Ev.ifeq (t := 12) (d30 5 rfl) rfl (fun c3 => ?_) (fun c3 => ?_)
  · replace hr := (if_pos c3).symm.trans hr
    refine Ev.aloadN (d30 8 rfl) rfl ?_
    refine Ev.gAr V (ww hw 29 rfl) (d30 9 rfl) (j := 7) rfl ?_
    refine Ev.iloadN (d30 10 rfl) rfl ?_
    refine Ev.iconst (z := 0) (d30 11 rfl) rfl ?_
    obtain ⟨b4, hr⟩ := grd_some hr
    refine Ev.bas V (j := 7) rfl rfl (d30 12 rfl) b4 ?_
    revert hr
    generalize setA s 7 (ix a0) ((0 : Int32) &&& 1) = s5
    intro hr
    replace hr := (bnd_eq _ _).symm.trans hr
    refine Ev.iconst (z := 0) (d30 13 rfl) rfl ?_
    cases hr
    exact Ev.ireturn rfl (d30 14 rfl)
  · replace hr := (if_neg c3).symm.trans hr
    refine Ev.iloadN (d30 6 rfl) rfl ?_
    cases hr
    exact Ev.ireturn rfl (d30 7 rfl)
def f_setPurgeable (a0 : Int32) (a1 : Int32) (s : St) : Option (Int32 × St) :=
  (f_check s a0).bind fun q1 =>
  if q1 = 0 then
    grd (inb a0 32) <|
    bnd (setA s 8 (ix a0) (a1 &&& 1)) fun s5 =>
    some ((0 : Int32), s5)
  else
    some (q1, s)
set_option maxRecDepth 100000 in
theorem e_setPurgeable {g : GT} {a0 : Int32} {a1 : Int32} {s : St} {w : Int32 × St} (hw : HW g) {K : St → MHeap} {o : Nat} {r : Nat → Nat} (V : View (GG g) Ln K o r) (hr : f_setPurgeable a0 a1 s = some w) : EvC (GG g) M_setPurgeable [.ref o, .int a0, .int a1] (K s) ((some (.int w.1)), (K w.2)) := by
  refine EvC.enter (L0 := [.val (.ref o), .val (.int a0), .val (.int a1), .unset]) pl_setPurgeable (fun h => nomatch h) rfl rfl ?_
  unfold f_setPurgeable at hr
  refine Ev.aloadN (d29 0 rfl) rfl ?_
  refine Ev.iloadN (d29 1 rfl) rfl ?_
  obtain ⟨q1, hq2, hr⟩ := Option.bind_eq_some_iff.mp hr
  refine Ev.priv (y := M_check) (args := [.int a0]) (rest := []) (gok hw) rfl nm_check (ww hw 65 rfl) (ww hw 66 rfl) (ww hw 67 rfl) (ww hw 68 rfl) (lenOf pd_check rfl) (d29 2 rfl) (V.2.1 s) (e_check hw V hq2) (by decide) (Nat.le_of_ble_eq_true rfl) rfl ?_
  refine Ev.istDN (L' := [.val (.ref o), .val (.int a0), .val (.int a1), .val (.int q1)]) (d29 3 rfl) rfl rfl rfl ?_
  refine Ev.iloadN (d29 4 rfl) rfl ?_
  refine Ev.ifeq (t := 12) (d29 5 rfl) rfl (fun c3 => ?_) (fun c3 => ?_)
  · replace hr := (if_pos c3).symm.trans hr
    refine Ev.aloadN (d29 8 rfl) rfl ?_
    refine Ev.gAr V (ww hw 31 rfl) (d29 9 rfl) (j := 8) rfl ?_
    refine Ev.iloadN (d29 10 rfl) rfl ?_
    refine Ev.iloadN (d29 11 rfl) rfl ?_
    obtain ⟨b4, hr⟩ := grd_some hr
    refine Ev.bas V (j := 8) rfl rfl (d29 12 rfl) b4 ?_
    revert hr
    generalize setA s 8 (ix a0) (a1 &&& 1) = s5
    intro hr
    replace hr := (bnd_eq _ _).symm.trans hr
    refine Ev.iconst (z := 0) (d29 13 rfl) rfl ?_
    cases hr
    exact Ev.ireturn rfl (d29 14 rfl)
  · replace hr := (if_neg c3).symm.trans hr
    refine Ev.iloadN (d29 6 rfl) rfl ?_
    cases hr
    exact Ev.ireturn rfl (d29 7 rfl)
def f_dispose (a0 : Int32) (s : St) : Option (Int32 × St) :=
  (f_valid s a0).bind fun q1 =>
  if q1 = 0 then
    some ((-1 : Int32), s)
  else
    grd (inb a0 32) <|
    if (s.2 2 (ix a0)) = 0 then
      some ((-1 : Int32), s)
    else
      (f_clearHandle a0 s).bind fun q6 =>
      some ((0 : Int32), q6)
set_option maxRecDepth 100000 in
theorem e_dispose {g : GT} {a0 : Int32} {s : St} {w : Int32 × St} (hw : HW g) {K : St → MHeap} {o : Nat} {r : Nat → Nat} (V : View (GG g) Ln K o r) (hr : f_dispose a0 s = some w) : EvC (GG g) M_dispose [.ref o, .int a0] (K s) ((some (.int w.1)), (K w.2)) := by
  refine EvC.enter (L0 := [.val (.ref o), .val (.int a0)]) pl_dispose (fun h => nomatch h) rfl rfl ?_
  unfold f_dispose at hr
  refine Ev.aloadN (d36 0 rfl) rfl ?_
  refine Ev.iloadN (d36 1 rfl) rfl ?_
  obtain ⟨q1, hq2, hr⟩ := Option.bind_eq_some_iff.mp hr
  refine Ev.priv (y := M_valid) (args := [.int a0]) (rest := []) (gok hw) rfl nm_valid (ww hw 48 rfl) (ww hw 49 rfl) (ww hw 50 rfl) (ww hw 51 rfl) (lenOf pd_valid rfl) (d36 2 rfl) (V.2.1 s) (e_valid hw V hq2) (by decide) (Nat.le_of_ble_eq_true rfl) rfl ?_
  refine Ev.ifeq (t := 17) (d36 3 rfl) rfl (fun c3 => ?_) (fun c3 => ?_)
  · replace hr := (if_pos c3).symm.trans hr
    refine Ev.iconst (z := -1) (d36 9 rfl) rfl ?_
    cases hr
    exact Ev.ireturn rfl (d36 10 rfl)
  · replace hr := (if_neg c3).symm.trans hr
    refine Ev.aloadN (d36 4 rfl) rfl ?_
    refine Ev.gAr V (ww hw 19 rfl) (d36 5 rfl) (j := 2) rfl ?_
    refine Ev.iloadN (d36 6 rfl) rfl ?_
    obtain ⟨b4, hr⟩ := grd_some hr
    refine Ev.ial V (j := 2) rfl rfl (d36 7 rfl) b4 ?_
    refine Ev.ifne (t := 19) (d36 8 rfl) rfl (fun c5 => ?_) (fun c5 => ?_)
    · replace hr := (if_pos c5).symm.trans hr
      refine Ev.iconst (z := -1) (d36 9 rfl) rfl ?_
      cases hr
      exact Ev.ireturn rfl (d36 10 rfl)
    · replace hr := (if_neg c5).symm.trans hr
      refine Ev.aloadN (d36 11 rfl) rfl ?_
      refine Ev.iloadN (d36 12 rfl) rfl ?_
      obtain ⟨q6, hq7, hr⟩ := Option.bind_eq_some_iff.mp hr
      refine Ev.priv (y := M_clearHandle) (args := [.int a0]) (rest := []) (gok hw) rfl nm_clearHandle (ww hw 39 rfl) (ww hw 40 rfl) (ww hw 41 rfl) (ww hw 42 rfl) (lenOf pd_clearHandle rfl) (d36 13 rfl) (V.2.1 s) (e_clearHandle hw V hq7) (by decide) (Nat.le_of_ble_eq_true rfl) rfl ?_
      refine Ev.iconst (z := 0) (d36 14 rfl) rfl ?_
      cases hr
      exact Ev.ireturn rfl (d36 15 rfl)
def f_reallocHandle (n : Nat) (a0 : Int32) (a1 : Int32) (s : St) : Option (Int32 × St) :=
  (f_valid s a0).bind fun q1 =>
  if q1 = 0 then
    some ((-1 : Int32), s)
  else
    grd (inb a0 32) <|
    if (s.2 2 (ix a0)) = 0 then
      some ((-1 : Int32), s)
    else
      if (s.2 2 (ix a0)) = (1 : Int32) then
        some ((-8 : Int32), s)
      else
        if a1 < (1 : Int32) then
          some ((-2 : Int32), s)
        else
          if (s.1 9) < a1 then
            some ((-2 : Int32), s)
          else
            (f_alloc n a1 (-1 : Int32) s).bind fun q9 =>
            if q9.1 < 0 then
              some ((-6 : Int32), q9.2)
            else
              (f_establish n a0 q9.1 a1 q9.2).bind fun q12 =>
              some ((0 : Int32), q12)
set_option maxRecDepth 100000 in
theorem e_reallocHandle {g : GT} {n : Nat} {a0 : Int32} {a1 : Int32} {s : St} {w : Int32 × St} (hw : HW g) {K : St → MHeap} {o : Nat} {r : Nat → Nat} (V : View (GG g) Ln K o r) (hr : f_reallocHandle n a0 a1 s = some w) : EvC (GG g) M_reallocHandle [.ref o, .int a0, .int a1] (K s) ((some (.int w.1)), (K w.2)) := by
  refine EvC.enter (L0 := [.val (.ref o), .val (.int a0), .val (.int a1), .unset]) pl_reallocHandle (fun h => nomatch h) rfl rfl ?_
  unfold f_reallocHandle at hr
  refine Ev.aloadN (d38 0 rfl) rfl ?_
  refine Ev.iloadN (d38 1 rfl) rfl ?_
  obtain ⟨q1, hq2, hr⟩ := Option.bind_eq_some_iff.mp hr
  refine Ev.priv (y := M_valid) (args := [.int a0]) (rest := []) (gok hw) rfl nm_valid (ww hw 48 rfl) (ww hw 49 rfl) (ww hw 50 rfl) (ww hw 51 rfl) (lenOf pd_valid rfl) (d38 2 rfl) (V.2.1 s) (e_valid hw V hq2) (by decide) (Nat.le_of_ble_eq_true rfl) rfl ?_
  refine Ev.ifeq (t := 17) (d38 3 rfl) rfl (fun c3 => ?_) (fun c3 => ?_)
  · replace hr := (if_pos c3).symm.trans hr
    refine Ev.iconst (z := -1) (d38 9 rfl) rfl ?_
    cases hr
    exact Ev.ireturn rfl (d38 10 rfl)
  · replace hr := (if_neg c3).symm.trans hr
    refine Ev.aloadN (d38 4 rfl) rfl ?_
    refine Ev.gAr V (ww hw 19 rfl) (d38 5 rfl) (j := 2) rfl ?_
    refine Ev.iloadN (d38 6 rfl) rfl ?_
    obtain ⟨b4, hr⟩ := grd_some hr
    refine Ev.ial V (j := 2) rfl rfl (d38 7 rfl) b4 ?_
    refine Ev.ifne (t := 19) (d38 8 rfl) rfl (fun c5 => ?_) (fun c5 => ?_)
    · replace hr := (if_pos c5).symm.trans hr
      refine Ev.iconst (z := -1) (d38 9 rfl) rfl ?_
      cases hr
      exact Ev.ireturn rfl (d38 10 rfl)
    · replace hr := (if_neg c5).symm.trans hr
      refine Ev.aloadN (d38 11 rfl) rfl ?_
      refine Ev.gAr V (ww hw 19 rfl) (d38 12 rfl) (j := 2) rfl ?_
      refine Ev.iloadN (d38 13 rfl) rfl ?_
      refine Ev.ial V (j := 2) rfl rfl (d38 14 rfl) b4 ?_
      refine Ev.iconst (z := 1) (d38 15 rfl) rfl ?_
      refine Ev.icne (t := 32) (d38 16 rfl) rfl (fun c6 => ?_) (fun c6 => ?_)
      · replace hr := (if_pos c6).symm.trans hr
        refine Ev.bipush (z := -8) (d38 17 rfl) rfl ?_
        cases hr
        exact Ev.ireturn rfl (d38 18 rfl)
      · replace hr := (if_neg c6).symm.trans hr
        refine Ev.iloadN (d38 19 rfl) rfl ?_
        refine Ev.iconst (z := 1) (d38 20 rfl) rfl ?_
        refine Ev.iclt (t := 45) (d38 21 rfl) rfl (fun c7 => ?_) (fun c7 => ?_)
        · replace hr := (if_pos c7).symm.trans hr
          refine Ev.bipush (z := -2) (d38 26 rfl) rfl ?_
          cases hr
          exact Ev.ireturn rfl (d38 27 rfl)
        · replace hr := (if_neg c7).symm.trans hr
          refine Ev.iloadN (d38 22 rfl) rfl ?_
          refine Ev.aloadN (d38 23 rfl) rfl ?_
          refine Ev.gI V (ww hw 33 rfl) (d38 24 rfl) (j := 9) rfl rfl ?_
          refine Ev.icle (t := 48) (d38 25 rfl) rfl (fun c8 => ?_) (fun c8 => ?_)
          · replace hr := (if_pos c8).symm.trans hr
            refine Ev.bipush (z := -2) (d38 26 rfl) rfl ?_
            cases hr
            exact Ev.ireturn rfl (d38 27 rfl)
          · replace hr := (if_neg c8).symm.trans hr
            refine Ev.aloadN (d38 28 rfl) rfl ?_
            refine Ev.iloadN (d38 29 rfl) rfl ?_
            refine Ev.iconst (z := -1) (d38 30 rfl) rfl ?_
            obtain ⟨q9, hq10, hr⟩ := Option.bind_eq_some_iff.mp hr
            refine Ev.priv (y := M_alloc) (args := [.int a1, .int (-1 : Int32)]) (rest := []) (gok hw) rfl nm_alloc (ww hw 74 rfl) (ww hw 75 rfl) (ww hw 76 rfl) (ww hw 77 rfl) (lenOf pd_alloc rfl) (d38 31 rfl) (V.2.1 s) (e_alloc hw V hq10) (by decide) (Nat.le_of_ble_eq_true rfl) rfl ?_
            refine Ev.istDN (L' := [.val (.ref o), .val (.int a0), .val (.int a1), .val (.int q9.1)]) (d38 32 rfl) rfl rfl rfl ?_
            refine Ev.iloadN (d38 33 rfl) rfl ?_
            refine Ev.ifge (t := 62) (d38 34 rfl) rfl (fun c11 => ?_) (fun c11 => ?_)
            · replace hr := (if_pos c11).symm.trans hr
              refine Ev.bipush (z := -6) (d38 35 rfl) rfl ?_
              cases hr
              exact Ev.ireturn rfl (d38 36 rfl)
            · replace hr := (if_neg c11).symm.trans hr
              refine Ev.aloadN (d38 37 rfl) rfl ?_
              refine Ev.iloadN (d38 38 rfl) rfl ?_
              refine Ev.iloadN (d38 39 rfl) rfl ?_
              refine Ev.iloadN (d38 40 rfl) rfl ?_
              obtain ⟨q12, hq13, hr⟩ := Option.bind_eq_some_iff.mp hr
              refine Ev.priv (y := M_establish) (args := [.int a0, .int q9.1, .int a1]) (rest := []) (gok hw) rfl nm_establish (ww hw 94 rfl) (ww hw 95 rfl) (ww hw 96 rfl) (ww hw 97 rfl) (lenOf pd_establish rfl) (d38 41 rfl) (V.2.1 q9.2) (e_establish hw V hq13) (by decide) (Nat.le_of_ble_eq_true rfl) rfl ?_
              refine Ev.iconst (z := 0) (d38 42 rfl) rfl ?_
              cases hr
              exact Ev.ireturn rfl (d38 43 rfl)
def f_largestFree_10 (n : Nat) : Nat → Int32 → Int32 → Int32 → St → Option (Int32 × St)
  | 0 => fun _ _ _ _ => none
  | k + 1 => fun x1 x2 x3 s =>
    if x3 < (s.1 9) then
      grd (inb x3 256) <|
      if (s.2 1 (ix x3)) = 0 then
        if x1 < (x2 + (1 : Int32)) then
          f_largestFree_10 n k (x2 + (1 : Int32)) (x2 + (1 : Int32)) (x3 + (1 : Int32)) s
        else
          f_largestFree_10 n k x1 (x2 + (1 : Int32)) (x3 + (1 : Int32)) s
      else
        f_largestFree_10 n k x1 (0 : Int32) (x3 + (1 : Int32)) s
    else
      some (x1, s)
set_option maxRecDepth 100000 in
theorem e_largestFree_10 {g : GT} {n : Nat} (hw : HW g) {K : St → MHeap} {o : Nat} {r : Nat → Nat} (V : View (GG g) Ln K o r) (k : Nat) : ∀ (x1 : Int32) (x2 : Int32) (x3 : Int32) (s : St) (w : Int32 × St), f_largestFree_10 n k x1 x2 x3 s = some w → Ev (GG g) M_largestFree 10 [.val (.ref o), .val (.int x1), .val (.int x2), .val (.int x3)] [] (K s) ((some (.int w.1)), (K w.2)) := by
  induction k with
  | zero => intro x1 x2 x3 s w hr; rw [f_largestFree_10] at hr; cases hr
  | succ k ih =>
    intro x1 x2 x3 s w hr
    rw [f_largestFree_10] at hr
    refine Ev.iloadN (d35 8 rfl) rfl ?_
    refine Ev.aloadN (d35 9 rfl) rfl ?_
    refine Ev.gI V (ww hw 33 rfl) (d35 10 rfl) (j := 9) rfl rfl ?_
    refine Ev.icge (t := 48) (d35 11 rfl) rfl (fun c1 => ?_) (fun c1 => ?_)
    · replace hr := (if_pos c1).symm.trans hr
      refine Ev.aloadN (d35 12 rfl) rfl ?_
      refine Ev.gAr V (ww hw 17 rfl) (d35 13 rfl) (j := 1) rfl ?_
      refine Ev.iloadN (d35 14 rfl) rfl ?_
      obtain ⟨b2, hr⟩ := grd_some hr
      refine Ev.bal V (j := 1) rfl rfl (d35 15 rfl) b2 ?_
      refine Ev.ifeq (t := 32) (d35 16 rfl) rfl (fun c3 => ?_) (fun c3 => ?_)
      · replace hr := (if_pos c3).symm.trans hr
        refine Ev.iinc (z := 1) (L' := [.val (.ref o), .val (.int x1), .val (.int (x2 + (1 : Int32))), .val (.int x3)]) (d35 20 rfl) rfl rfl rfl ?_
        refine Ev.iloadN (d35 21 rfl) rfl ?_
        refine Ev.iloadN (d35 22 rfl) rfl ?_
        refine Ev.icle (t := 42) (d35 23 rfl) rfl (fun c4 => ?_) (fun c4 => ?_)
        · replace hr := (if_pos c4).symm.trans hr
          refine Ev.iloadN (d35 24 rfl) rfl ?_
          refine Ev.istDN (L' := [.val (.ref o), .val (.int (x2 + (1 : Int32))), .val (.int (x2 + (1 : Int32))), .val (.int x3)]) (d35 25 rfl) rfl rfl rfl ?_
          refine Ev.iinc (z := 1) (L' := [.val (.ref o), .val (.int (x2 + (1 : Int32))), .val (.int (x2 + (1 : Int32))), .val (.int (x3 + (1 : Int32)))]) (d35 26 rfl) rfl rfl rfl ?_
          refine Ev.goto (t := 10) (d35 27 rfl) rfl ?_
          exact ih (x2 + (1 : Int32)) (x2 + (1 : Int32)) (x3 + (1 : Int32)) s  _ hr
        · replace hr := (if_neg c4).symm.trans hr
          refine Ev.iinc (z := 1) (L' := [.val (.ref o), .val (.int x1), .val (.int (x2 + (1 : Int32))), .val (.int (x3 + (1 : Int32)))]) (d35 26 rfl) rfl rfl rfl ?_
          refine Ev.goto (t := 10) (d35 27 rfl) rfl ?_
          exact ih x1 (x2 + (1 : Int32)) (x3 + (1 : Int32)) s  _ hr
      · replace hr := (if_neg c3).symm.trans hr
        refine Ev.iconst (z := 0) (d35 17 rfl) rfl ?_
        refine Ev.istDN (L' := [.val (.ref o), .val (.int x1), .val (.int (0 : Int32)), .val (.int x3)]) (d35 18 rfl) rfl rfl rfl ?_
        refine Ev.goto (t := 42) (d35 19 rfl) rfl ?_
        refine Ev.iinc (z := 1) (L' := [.val (.ref o), .val (.int x1), .val (.int (0 : Int32)), .val (.int (x3 + (1 : Int32)))]) (d35 26 rfl) rfl rfl rfl ?_
        refine Ev.goto (t := 10) (d35 27 rfl) rfl ?_
        exact ih x1 (0 : Int32) (x3 + (1 : Int32)) s  _ hr
    · replace hr := (if_neg c1).symm.trans hr
      refine Ev.iloadN (d35 28 rfl) rfl ?_
      cases hr
      exact Ev.ireturn rfl (d35 29 rfl)
def f_largestFree (n : Nat) (s : St) : Option (Int32 × St) :=
  (f_markLive n s).bind fun q1 =>
  f_largestFree_10 n n (0 : Int32) (0 : Int32) (0 : Int32) q1
set_option maxRecDepth 100000 in
theorem e_largestFree {g : GT} {n : Nat} {s : St} {w : Int32 × St} (hw : HW g) {K : St → MHeap} {o : Nat} {r : Nat → Nat} (V : View (GG g) Ln K o r) (hr : f_largestFree n s = some w) : EvC (GG g) M_largestFree [.ref o] (K s) ((some (.int w.1)), (K w.2)) := by
  refine EvC.enter (L0 := [.val (.ref o), .unset, .unset, .unset]) pl_largestFree (fun h => nomatch h) rfl rfl ?_
  unfold f_largestFree at hr
  refine Ev.aloadN (d35 0 rfl) rfl ?_
  obtain ⟨q1, hq2, hr⟩ := Option.bind_eq_some_iff.mp hr
  refine Ev.priv (y := M_markLive) (args := []) (rest := []) (gok hw) rfl nm_markLive (ww hw 82 rfl) (ww hw 83 rfl) (ww hw 84 rfl) (ww hw 85 rfl) (lenOf pd_markLive rfl) (d35 1 rfl) (V.2.1 s) (e_markLive hw V hq2) (by decide) (Nat.le_of_ble_eq_true rfl) rfl ?_
  refine Ev.iconst (z := 0) (d35 2 rfl) rfl ?_
  refine Ev.istDN (L' := [.val (.ref o), .val (.int (0 : Int32)), .unset, .unset]) (d35 3 rfl) rfl rfl rfl ?_
  refine Ev.iconst (z := 0) (d35 4 rfl) rfl ?_
  refine Ev.istDN (L' := [.val (.ref o), .val (.int (0 : Int32)), .val (.int (0 : Int32)), .unset]) (d35 5 rfl) rfl rfl rfl ?_
  refine Ev.iconst (z := 0) (d35 6 rfl) rfl ?_
  refine Ev.istDN (L' := [.val (.ref o), .val (.int (0 : Int32)), .val (.int (0 : Int32)), .val (.int (0 : Int32))]) (d35 7 rfl) rfl rfl rfl ?_
  exact e_largestFree_10 hw V  n (0 : Int32) (0 : Int32) (0 : Int32) q1  _ hr
def f_compact (n : Nat) (s : St) : Option (Int32 × St) :=
  (f_compactRun n (-1 : Int32) s).bind fun q1 =>
  (f_largestFree n q1).bind fun q3 =>
  some (q3.1, q3.2)
set_option maxRecDepth 100000 in
theorem e_compact {g : GT} {n : Nat} {s : St} {w : Int32 × St} (hw : HW g) {K : St → MHeap} {o : Nat} {r : Nat → Nat} (V : View (GG g) Ln K o r) (hr : f_compact n s = some w) : EvC (GG g) M_compact [.ref o] (K s) ((some (.int w.1)), (K w.2)) := by
  refine EvC.enter (L0 := [.val (.ref o)]) pl_compact (fun h => nomatch h) rfl rfl ?_
  unfold f_compact at hr
  refine Ev.aloadN (d31 0 rfl) rfl ?_
  refine Ev.iconst (z := -1) (d31 1 rfl) rfl ?_
  obtain ⟨q1, hq2, hr⟩ := Option.bind_eq_some_iff.mp hr
  refine Ev.priv (y := M_compactRun) (args := [.int (-1 : Int32)]) (rest := []) (gok hw) rfl nm_compactRun (ww hw 164 rfl) (ww hw 165 rfl) (ww hw 166 rfl) (ww hw 167 rfl) (lenOf pd_compactRun rfl) (d31 2 rfl) (V.2.1 s) (e_compactRun hw V hq2) (by decide) (Nat.le_of_ble_eq_true rfl) rfl ?_
  refine Ev.aloadN (d31 3 rfl) rfl ?_
  obtain ⟨q3, hq4, hr⟩ := Option.bind_eq_some_iff.mp hr
  refine Ev.virt (y := M_largestFree) (args := []) (rest := []) (gok hw) rfl nm_largestFree (ww hw 176 rfl) (ww hw 177 rfl) (ww hw 178 rfl) (ww hw 179 rfl) (ww hw 180 rfl) (lenOf pd_largestFree rfl) (d31 4 rfl) (V.2.1 q1) (e_largestFree hw V hq4) (by decide) (Nat.le_of_ble_eq_true rfl) rfl ?_
  cases hr
  exact Ev.ireturn rfl (d31 5 rfl)
def f_law_146 (n : Nat) (sn : Nat) (sf : Nat → Int32) (k42 : Int32 → Int32 → Int32 → Int32 → Int32 → Int32 → Int32 → Int32 → St → Option (Int32 × St)) (k109 : Int32 → Int32 → Int32 → Int32 → Int32 → Int32 → Int32 → Int32 → Int32 → Int32 → Int32 → Int32 → Int32 → Int32 → Int32 → Int32 → St → Option (Int32 × St)) (x1 : Int32) (x3 : Int32) (x4 : Int32) (x5 : Int32) (x6 : Int32) (x7 : Int32) (x8 : Int32) (x9 : Int32) (x10 : Int32) (x11 : Int32) (x12 : Int32) (x13 : Int32) (x14 : Int32) (x15 : Int32) (x16 : Int32) (x17 : Int32) (z0 : Int32) (s : St) : Option (Int32 × St) :=
  if x17 = 0 then
    k109 x1 x3 x4 x5 x6 x7 x8 x9 x10 x11 x12 z0 x14 x15 x16 (x17 + (1 : Int32)) s
  else
    if x17 = (1 : Int32) then
      k109 x1 x3 x4 x5 x6 x7 x8 x9 x10 x11 x12 x13 z0 x15 x16 (x17 + (1 : Int32)) s
    else
      if x17 = (2 : Int32) then
        k109 x1 x3 x4 x5 x6 x7 x8 x9 x10 x11 x12 x13 x14 z0 x16 (x17 + (1 : Int32)) s
      else
        k109 x1 x3 x4 x5 x6 x7 x8 x9 x10 x11 x12 x13 x14 x15 z0 (x17 + (1 : Int32)) s
set_option maxRecDepth 100000 in
theorem e_law_146 {g : GT} {n : Nat} {sn : Nat} {sf : Nat → Int32} (hw : HW g) {K : St → MHeap} {o : Nat} {r : Nat → Nat} (hs : ∀ s, (K s)[0]? = some (.inr (false, tab sn sf))) (V : View (GG g) Ln K o r) {k42 : Int32 → Int32 → Int32 → Int32 → Int32 → Int32 → Int32 → Int32 → St → Option (Int32 × St)} (hk42 : ∀ (x1 : Int32) (x3 : Int32) (x4 : Int32) (x5 : Int32) (x6 : Int32) (x7 : Int32) (x8 : Int32) (x9 : Int32) (s : St) (y10 : Slot) (hy10 : one1 y10 = true) (y11 : Slot) (hy11 : one1 y11 = true) (y12 : Slot) (hy12 : one1 y12 = true) (y13 : Slot) (hy13 : one1 y13 = true) (y14 : Slot) (hy14 : one1 y14 = true) (y15 : Slot) (hy15 : one1 y15 = true) (y16 : Slot) (hy16 : one1 y16 = true) (y17 : Slot) (hy17 : one1 y17 = true) (y18 : Slot) (hy18 : one1 y18 = true) (y19 : Slot) (hy19 : one1 y19 = true) (y20 : Slot) (hy20 : one1 y20 = true) (y21 : Slot) (hy21 : one1 y21 = true) (y22 : Slot) (hy22 : one1 y22 = true) (y23 : Slot) (hy23 : one1 y23 = true) (y24 : Slot) (hy24 : one1 y24 = true) (y25 : Slot) (hy25 : one1 y25 = true) (y26 : Slot) (hy26 : one1 y26 = true) (y27 : Slot) (hy27 : one1 y27 = true) (y28 : Slot) (hy28 : one1 y28 = true) (w : Int32 × St), k42 x1 x3 x4 x5 x6 x7 x8 x9 s = some w → Ev (GG g) M_law 42 [.val (.ref 0), .val (.int x1), .val (.ref o), .val (.int x3), .val (.int x4), .val (.int x5), .val (.int x6), .val (.int x7), .val (.int x8), .val (.int x9), y10, y11, y12, y13, y14, y15, y16, y17, y18, y19, y20, y21, y22, y23, y24, y25, y26, y27, y28] [] (K s) ((some (.int w.1)), (K w.2))) {k109 : Int32 → Int32 → Int32 → Int32 → Int32 → Int32 → Int32 → Int32 → Int32 → Int32 → Int32 → Int32 → Int32 → Int32 → Int32 → Int32 → St → Option (Int32 × St)} (hk109 : ∀ (x1 : Int32) (x3 : Int32) (x4 : Int32) (x5 : Int32) (x6 : Int32) (x7 : Int32) (x8 : Int32) (x9 : Int32) (x10 : Int32) (x11 : Int32) (x12 : Int32) (x13 : Int32) (x14 : Int32) (x15 : Int32) (x16 : Int32) (x17 : Int32) (s : St) (y18 : Slot) (hy18 : one1 y18 = true) (y19 : Slot) (hy19 : one1 y19 = true) (y20 : Slot) (hy20 : one1 y20 = true) (y21 : Slot) (hy21 : one1 y21 = true) (y22 : Slot) (hy22 : one1 y22 = true) (y23 : Slot) (hy23 : one1 y23 = true) (y24 : Slot) (hy24 : one1 y24 = true) (y25 : Slot) (hy25 : one1 y25 = true) (y26 : Slot) (hy26 : one1 y26 = true) (y27 : Slot) (hy27 : one1 y27 = true) (y28 : Slot) (hy28 : one1 y28 = true) (w : Int32 × St), k109 x1 x3 x4 x5 x6 x7 x8 x9 x10 x11 x12 x13 x14 x15 x16 x17 s = some w → Ev (GG g) M_law 109 [.val (.ref 0), .val (.int x1), .val (.ref o), .val (.int x3), .val (.int x4), .val (.int x5), .val (.int x6), .val (.int x7), .val (.int x8), .val (.int x9), .val (.int x10), .val (.int x11), .val (.int x12), .val (.int x13), .val (.int x14), .val (.int x15), .val (.int x16), .val (.int x17), y18, y19, y20, y21, y22, y23, y24, y25, y26, y27, y28] [] (K s) ((some (.int w.1)), (K w.2))) (x1 : Int32) (x3 : Int32) (x4 : Int32) (x5 : Int32) (x6 : Int32) (x7 : Int32) (x8 : Int32) (x9 : Int32) (x10 : Int32) (x11 : Int32) (x12 : Int32) (x13 : Int32) (x14 : Int32) (x15 : Int32) (x16 : Int32) (x17 : Int32) (z0 : Int32) (s : St) (y18 : Slot) (hy18 : one1 y18 = true) (y19 : Slot) (hy19 : one1 y19 = true) (y20 : Slot) (hy20 : one1 y20 = true) (y21 : Slot) (hy21 : one1 y21 = true) (y22 : Slot) (hy22 : one1 y22 = true) (y23 : Slot) (hy23 : one1 y23 = true) (y24 : Slot) (hy24 : one1 y24 = true) (y25 : Slot) (hy25 : one1 y25 = true) (y26 : Slot) (hy26 : one1 y26 = true) (y27 : Slot) (hy27 : one1 y27 = true) (y28 : Slot) (hy28 : one1 y28 = true) (w : Int32 × St) (hr : f_law_146 n sn sf k42 k109 x1 x3 x4 x5 x6 x7 x8 x9 x10 x11 x12 x13 x14 x15 x16 x17 z0 s = some w) : Ev (GG g) M_law 146 [.val (.ref 0), .val (.int x1), .val (.ref o), .val (.int x3), .val (.int x4), .val (.int x5), .val (.int x6), .val (.int x7), .val (.int x8), .val (.int x9), .val (.int x10), .val (.int x11), .val (.int x12), .val (.int x13), .val (.int x14), .val (.int x15), .val (.int x16), .val (.int x17), y18, y19, y20, y21, y22, y23, y24, y25, y26, y27, y28] [.int z0] (K s) ((some (.int w.1)), (K w.2)) := by
  unfold f_law_146 at hr
  refine Ev.istD (L' := [.val (.ref 0), .val (.int x1), .val (.ref o), .val (.int x3), .val (.int x4), .val (.int x5), .val (.int x6), .val (.int x7), .val (.int x8), .val (.int x9), .val (.int x10), .val (.int x11), .val (.int x12), .val (.int x13), .val (.int x14), .val (.int x15), .val (.int x16), .val (.int x17), .val (.int z0), y19, y20, y21, y22, y23, y24, y25, y26, y27, y28]) at_146 rfl hy18 rfl ?_
  refine Ev.iload at_148 rfl ?_
  refine Ev.ifne (t := 160) at_150 rfl (fun c1 => ?_) (fun c1 => ?_)
  · replace hr := (if_pos c1).symm.trans hr
    refine Ev.iload at_153 rfl ?_
    refine Ev.istD (L' := [.val (.ref 0), .val (.int x1), .val (.ref o), .val (.int x3), .val (.int x4), .val (.int x5), .val (.int x6), .val (.int x7), .val (.int x8), .val (.int x9), .val (.int x10), .val (.int x11), .val (.int x12), .val (.int z0), .val (.int x14), .val (.int x15), .val (.int x16), .val (.int x17), .val (.int z0), y19, y20, y21, y22, y23, y24, y25, y26, y27, y28]) at_155 rfl rfl rfl ?_
    refine Ev.goto (t := 190) at_157 rfl ?_
    refine Ev.iinc (z := 1) (L' := [.val (.ref 0), .val (.int x1), .val (.ref o), .val (.int x3), .val (.int x4), .val (.int x5), .val (.int x6), .val (.int x7), .val (.int x8), .val (.int x9), .val (.int x10), .val (.int x11), .val (.int x12), .val (.int z0), .val (.int x14), .val (.int x15), .val (.int x16), .val (.int (x17 + (1 : Int32))), .val (.int z0), y19, y20, y21, y22, y23, y24, y25, y26, y27, y28]) at_190 rfl rfl rfl ?_
    refine Ev.goto (t := 109) at_193 rfl ?_
    exact hk109 x1 x3 x4 x5 x6 x7 x8 x9 x10 x11 x12 z0 x14 x15 x16 (x17 + (1 : Int32)) s (.val (.int z0)) rfl y19 hy19 y20 hy20 y21 hy21 y22 hy22 y23 hy23 y24 hy24 y25 hy25 y26 hy26 y27 hy27 y28 hy28 _ hr
  · replace hr := (if_neg c1).symm.trans hr
    refine Ev.iload at_160 rfl ?_
    refine Ev.iconst (z := 1) at_162 rfl ?_
    refine Ev.icne (t := 173) at_163 rfl (fun c2 => ?_) (fun c2 => ?_)
    · replace hr := (if_pos c2).symm.trans hr
      refine Ev.iload at_166 rfl ?_
      refine Ev.istD (L' := [.val (.ref 0), .val (.int x1), .val (.ref o), .val (.int x3), .val (.int x4), .val (.int x5), .val (.int x6), .val (.int x7), .val (.int x8), .val (.int x9), .val (.int x10), .val (.int x11), .val (.int x12), .val (.int x13), .val (.int z0), .val (.int x15), .val (.int x16), .val (.int x17), .val (.int z0), y19, y20, y21, y22, y23, y24, y25, y26, y27, y28]) at_168 rfl rfl rfl ?_
      refine Ev.goto (t := 190) at_170 rfl ?_
      refine Ev.iinc (z := 1) (L' := [.val (.ref 0), .val (.int x1), .val (.ref o), .val (.int x3), .val (.int x4), .val (.int x5), .val (.int x6), .val (.int x7), .val (.int x8), .val (.int x9), .val (.int x10), .val (.int x11), .val (.int x12), .val (.int x13), .val (.int z0), .val (.int x15), .val (.int x16), .val (.int (x17 + (1 : Int32))), .val (.int z0), y19, y20, y21, y22, y23, y24, y25, y26, y27, y28]) at_190 rfl rfl rfl ?_
      refine Ev.goto (t := 109) at_193 rfl ?_
      exact hk109 x1 x3 x4 x5 x6 x7 x8 x9 x10 x11 x12 x13 z0 x15 x16 (x17 + (1 : Int32)) s (.val (.int z0)) rfl y19 hy19 y20 hy20 y21 hy21 y22 hy22 y23 hy23 y24 hy24 y25 hy25 y26 hy26 y27 hy27 y28 hy28 _ hr
    · replace hr := (if_neg c2).symm.trans hr
      refine Ev.iload at_173 rfl ?_
      refine Ev.iconst (z := 2) at_175 rfl ?_
      refine Ev.icne (t := 186) at_176 rfl (fun c3 => ?_) (fun c3 => ?_)
      · replace hr := (if_pos c3).symm.trans hr
        refine Ev.iload at_179 rfl ?_
        refine Ev.istD (L' := [.val (.ref 0), .val (.int x1), .val (.ref o), .val (.int x3), .val (.int x4), .val (.int x5), .val (.int x6), .val (.int x7), .val (.int x8), .val (.int x9), .val (.int x10), .val (.int x11), .val (.int x12), .val (.int x13), .val (.int x14), .val (.int z0), .val (.int x16), .val (.int x17), .val (.int z0), y19, y20, y21, y22, y23, y24, y25, y26, y27, y28]) at_181 rfl rfl rfl ?_
        refine Ev.goto (t := 190) at_183 rfl ?_
        refine Ev.iinc (z := 1) (L' := [.val (.ref 0), .val (.int x1), .val (.ref o), .val (.int x3), .val (.int x4), .val (.int x5), .val (.int x6), .val (.int x7), .val (.int x8), .val (.int x9), .val (.int x10), .val (.int x11), .val (.int x12), .val (.int x13), .val (.int x14), .val (.int z0), .val (.int x16), .val (.int (x17 + (1 : Int32))), .val (.int z0), y19, y20, y21, y22, y23, y24, y25, y26, y27, y28]) at_190 rfl rfl rfl ?_
        refine Ev.goto (t := 109) at_193 rfl ?_
        exact hk109 x1 x3 x4 x5 x6 x7 x8 x9 x10 x11 x12 x13 x14 z0 x16 (x17 + (1 : Int32)) s (.val (.int z0)) rfl y19 hy19 y20 hy20 y21 hy21 y22 hy22 y23 hy23 y24 hy24 y25 hy25 y26 hy26 y27 hy27 y28 hy28 _ hr
      · replace hr := (if_neg c3).symm.trans hr
        refine Ev.iload at_186 rfl ?_
        refine Ev.istD (L' := [.val (.ref 0), .val (.int x1), .val (.ref o), .val (.int x3), .val (.int x4), .val (.int x5), .val (.int x6), .val (.int x7), .val (.int x8), .val (.int x9), .val (.int x10), .val (.int x11), .val (.int x12), .val (.int x13), .val (.int x14), .val (.int x15), .val (.int z0), .val (.int x17), .val (.int z0), y19, y20, y21, y22, y23, y24, y25, y26, y27, y28]) at_188 rfl rfl rfl ?_
        refine Ev.iinc (z := 1) (L' := [.val (.ref 0), .val (.int x1), .val (.ref o), .val (.int x3), .val (.int x4), .val (.int x5), .val (.int x6), .val (.int x7), .val (.int x8), .val (.int x9), .val (.int x10), .val (.int x11), .val (.int x12), .val (.int x13), .val (.int x14), .val (.int x15), .val (.int z0), .val (.int (x17 + (1 : Int32))), .val (.int z0), y19, y20, y21, y22, y23, y24, y25, y26, y27, y28]) at_190 rfl rfl rfl ?_
        refine Ev.goto (t := 109) at_193 rfl ?_
        exact hk109 x1 x3 x4 x5 x6 x7 x8 x9 x10 x11 x12 x13 x14 x15 z0 (x17 + (1 : Int32)) s (.val (.int z0)) rfl y19 hy19 y20 hy20 y21 hy21 y22 hy22 y23 hy23 y24 hy24 y25 hy25 y26 hy26 y27 hy27 y28 hy28 _ hr
def f_law_789 (n : Nat) (sn : Nat) (sf : Nat → Int32) (k42 : Int32 → Int32 → Int32 → Int32 → Int32 → Int32 → Int32 → Int32 → St → Option (Int32 × St)) (k751 : Int32 → Int32 → Int32 → Int32 → Int32 → Int32 → Int32 → Int32 → Int32 → Int32 → Int32 → Int32 → Int32 → Int32 → Int32 → St → Option (Int32 × St)) (x1 : Int32) (x3 : Int32) (x4 : Int32) (x5 : Int32) (x6 : Int32) (x7 : Int32) (x8 : Int32) (x9 : Int32) (x11 : Int32) (x13 : Int32) (x14 : Int32) (x15 : Int32) (x16 : Int32) (x20 : Int32) (x23 : Int32) (x24 : Int32) (s : St) : Option (Int32 × St) :=
  (f_getState s x23).bind fun q1 =>
  if q1 = (1 : Int32) then
    (f_getFlags s x23).bind fun q4 =>
    if (q4 &&& (1 : Int32)) = 0 then
      some ((0 : Int32), s)
    else
      (f_getAddress s x23).bind fun q7 =>
      if q7 = x24 then
        k751 x1 x3 x4 x5 x6 x7 x8 x9 x11 x13 x14 x15 x16 x20 (x23 + (1 : Int32)) s
      else
        some ((0 : Int32), s)
  else
    some ((0 : Int32), s)
set_option maxRecDepth 100000 in
theorem e_law_789 {g : GT} {n : Nat} {sn : Nat} {sf : Nat → Int32} (hw : HW g) {K : St → MHeap} {o : Nat} {r : Nat → Nat} (hs : ∀ s, (K s)[0]? = some (.inr (false, tab sn sf))) (V : View (GG g) Ln K o r) {k42 : Int32 → Int32 → Int32 → Int32 → Int32 → Int32 → Int32 → Int32 → St → Option (Int32 × St)} (hk42 : ∀ (x1 : Int32) (x3 : Int32) (x4 : Int32) (x5 : Int32) (x6 : Int32) (x7 : Int32) (x8 : Int32) (x9 : Int32) (s : St) (y10 : Slot) (hy10 : one1 y10 = true) (y11 : Slot) (hy11 : one1 y11 = true) (y12 : Slot) (hy12 : one1 y12 = true) (y13 : Slot) (hy13 : one1 y13 = true) (y14 : Slot) (hy14 : one1 y14 = true) (y15 : Slot) (hy15 : one1 y15 = true) (y16 : Slot) (hy16 : one1 y16 = true) (y17 : Slot) (hy17 : one1 y17 = true) (y18 : Slot) (hy18 : one1 y18 = true) (y19 : Slot) (hy19 : one1 y19 = true) (y20 : Slot) (hy20 : one1 y20 = true) (y21 : Slot) (hy21 : one1 y21 = true) (y22 : Slot) (hy22 : one1 y22 = true) (y23 : Slot) (hy23 : one1 y23 = true) (y24 : Slot) (hy24 : one1 y24 = true) (y25 : Slot) (hy25 : one1 y25 = true) (y26 : Slot) (hy26 : one1 y26 = true) (y27 : Slot) (hy27 : one1 y27 = true) (y28 : Slot) (hy28 : one1 y28 = true) (w : Int32 × St), k42 x1 x3 x4 x5 x6 x7 x8 x9 s = some w → Ev (GG g) M_law 42 [.val (.ref 0), .val (.int x1), .val (.ref o), .val (.int x3), .val (.int x4), .val (.int x5), .val (.int x6), .val (.int x7), .val (.int x8), .val (.int x9), y10, y11, y12, y13, y14, y15, y16, y17, y18, y19, y20, y21, y22, y23, y24, y25, y26, y27, y28] [] (K s) ((some (.int w.1)), (K w.2))) {k751 : Int32 → Int32 → Int32 → Int32 → Int32 → Int32 → Int32 → Int32 → Int32 → Int32 → Int32 → Int32 → Int32 → Int32 → Int32 → St → Option (Int32 × St)} (hk751 : ∀ (x1 : Int32) (x3 : Int32) (x4 : Int32) (x5 : Int32) (x6 : Int32) (x7 : Int32) (x8 : Int32) (x9 : Int32) (x11 : Int32) (x13 : Int32) (x14 : Int32) (x15 : Int32) (x16 : Int32) (x20 : Int32) (x23 : Int32) (s : St) (y10 : Slot) (hy10 : one1 y10 = true) (y12 : Slot) (hy12 : one1 y12 = true) (y17 : Slot) (hy17 : one1 y17 = true) (y18 : Slot) (hy18 : one1 y18 = true) (y19 : Slot) (hy19 : one1 y19 = true) (y21 : Slot) (hy21 : one1 y21 = true) (y22 : Slot) (hy22 : one1 y22 = true) (y24 : Slot) (hy24 : one1 y24 = true) (y25 : Slot) (hy25 : one1 y25 = true) (y26 : Slot) (hy26 : one1 y26 = true) (y27 : Slot) (hy27 : one1 y27 = true) (y28 : Slot) (hy28 : one1 y28 = true) (w : Int32 × St), k751 x1 x3 x4 x5 x6 x7 x8 x9 x11 x13 x14 x15 x16 x20 x23 s = some w → Ev (GG g) M_law 751 [.val (.ref 0), .val (.int x1), .val (.ref o), .val (.int x3), .val (.int x4), .val (.int x5), .val (.int x6), .val (.int x7), .val (.int x8), .val (.int x9), y10, .val (.int x11), y12, .val (.int x13), .val (.int x14), .val (.int x15), .val (.int x16), y17, y18, y19, .val (.int x20), y21, y22, .val (.int x23), y24, y25, y26, y27, y28] [] (K s) ((some (.int w.1)), (K w.2))) (x1 : Int32) (x3 : Int32) (x4 : Int32) (x5 : Int32) (x6 : Int32) (x7 : Int32) (x8 : Int32) (x9 : Int32) (x11 : Int32) (x13 : Int32) (x14 : Int32) (x15 : Int32) (x16 : Int32) (x20 : Int32) (x23 : Int32) (x24 : Int32) (s : St) (y10 : Slot) (hy10 : one1 y10 = true) (y12 : Slot) (hy12 : one1 y12 = true) (y17 : Slot) (hy17 : one1 y17 = true) (y18 : Slot) (hy18 : one1 y18 = true) (y19 : Slot) (hy19 : one1 y19 = true) (y21 : Slot) (hy21 : one1 y21 = true) (y22 : Slot) (hy22 : one1 y22 = true) (y25 : Slot) (hy25 : one1 y25 = true) (y26 : Slot) (hy26 : one1 y26 = true) (y27 : Slot) (hy27 : one1 y27 = true) (y28 : Slot) (hy28 : one1 y28 = true) (w : Int32 × St) (hr : f_law_789 n sn sf k42 k751 x1 x3 x4 x5 x6 x7 x8 x9 x11 x13 x14 x15 x16 x20 x23 x24 s = some w) : Ev (GG g) M_law 789 [.val (.ref 0), .val (.int x1), .val (.ref o), .val (.int x3), .val (.int x4), .val (.int x5), .val (.int x6), .val (.int x7), .val (.int x8), .val (.int x9), y10, .val (.int x11), y12, .val (.int x13), .val (.int x14), .val (.int x15), .val (.int x16), y17, y18, y19, .val (.int x20), y21, y22, .val (.int x23), .val (.int x24), y25, y26, y27, y28] [] (K s) ((some (.int w.1)), (K w.2)) := by
  unfold f_law_789 at hr
  refine Ev.aloadN at_789 rfl ?_
  refine Ev.iload at_790 rfl ?_
  obtain ⟨q1, hq2, hr⟩ := Option.bind_eq_some_iff.mp hr
  refine Ev.virt (y := M_getState) (args := [.int x23]) (rest := []) (gok hw) rfl nm_getState (ww hw 43 rfl) (ww hw 44 rfl) (ww hw 45 rfl) (ww hw 46 rfl) (ww hw 47 rfl) (lenOf pd_getState rfl) at_792 (V.2.1 s) (e_getState hw V hq2) (by decide) (Nat.le_of_ble_eq_true rfl) rfl ?_
  refine Ev.iconst (z := 1) at_795 rfl ?_
  refine Ev.iceq (t := 801) at_796 rfl (fun c3 => ?_) (fun c3 => ?_)
  · replace hr := (if_pos c3).symm.trans hr
    refine Ev.aloadN at_801 rfl ?_
    refine Ev.iload at_802 rfl ?_
    obtain ⟨q4, hq5, hr⟩ := Option.bind_eq_some_iff.mp hr
    refine Ev.virt (y := M_getFlags) (args := [.int x23]) (rest := []) (gok hw) rfl nm_getFlags (ww hw 111 rfl) (ww hw 112 rfl) (ww hw 113 rfl) (ww hw 114 rfl) (ww hw 115 rfl) (lenOf pd_getFlags rfl) at_804 (V.2.1 s) (e_getFlags hw V hq5) (by decide) (Nat.le_of_ble_eq_true rfl) rfl ?_
    refine Ev.iconst (z := 1) at_807 rfl ?_
    refine Ev.iand at_808 ?_
    refine Ev.ifne (t := 814) at_809 rfl (fun c6 => ?_) (fun c6 => ?_)
    · replace hr := (if_pos c6).symm.trans hr
      refine Ev.iconst (z := 0) at_812 rfl ?_
      cases hr
      exact Ev.zret0 rfl at_813
    · replace hr := (if_neg c6).symm.trans hr
      refine Ev.aloadN at_814 rfl ?_
      refine Ev.iload at_815 rfl ?_
      obtain ⟨q7, hq8, hr⟩ := Option.bind_eq_some_iff.mp hr
      refine Ev.virt (y := M_getAddress) (args := [.int x23]) (rest := []) (gok hw) rfl nm_getAddress (ww hw 106 rfl) (ww hw 107 rfl) (ww hw 108 rfl) (ww hw 109 rfl) (ww hw 110 rfl) (lenOf pd_getAddress rfl) at_817 (V.2.1 s) (e_getAddress hw V hq8) (by decide) (Nat.le_of_ble_eq_true rfl) rfl ?_
      refine Ev.iload at_820 rfl ?_
      refine Ev.iceq (t := 827) at_822 rfl (fun c9 => ?_) (fun c9 => ?_)
      · replace hr := (if_pos c9).symm.trans hr
        refine Ev.iinc (z := 1) (L' := [.val (.ref 0), .val (.int x1), .val (.ref o), .val (.int x3), .val (.int x4), .val (.int x5), .val (.int x6), .val (.int x7), .val (.int x8), .val (.int x9), y10, .val (.int x11), y12, .val (.int x13), .val (.int x14), .val (.int x15), .val (.int x16), y17, y18, y19, .val (.int x20), y21, y22, .val (.int (x23 + (1 : Int32))), .val (.int x24), y25, y26, y27, y28]) at_827 rfl rfl rfl ?_
        refine Ev.goto (t := 751) at_830 rfl ?_
        exact hk751 x1 x3 x4 x5 x6 x7 x8 x9 x11 x13 x14 x15 x16 x20 (x23 + (1 : Int32)) s y10 hy10 y12 hy12 y17 hy17 y18 hy18 y19 hy19 y21 hy21 y22 hy22 (.val (.int x24)) rfl y25 hy25 y26 hy26 y27 hy27 y28 hy28 _ hr
      · replace hr := (if_neg c9).symm.trans hr
        refine Ev.iconst (z := 0) at_825 rfl ?_
        cases hr
        exact Ev.zret0 rfl at_826
  · replace hr := (if_neg c3).symm.trans hr
    refine Ev.iconst (z := 0) at_799 rfl ?_
    cases hr
    exact Ev.zret0 rfl at_800
def f_law_896 (n : Nat) (sn : Nat) (sf : Nat → Int32) (k42 : Int32 → Int32 → Int32 → Int32 → Int32 → Int32 → Int32 → Int32 → St → Option (Int32 × St)) (k836 : Int32 → Int32 → Int32 → Int32 → Int32 → Int32 → Int32 → Int32 → Int32 → St → Option (Int32 × St)) : Nat → Int32 → Int32 → Int32 → Int32 → Int32 → Int32 → Int32 → Int32 → Int32 → Int32 → Int32 → Int32 → St → Option (Int32 × St)
  | 0 => fun _ _ _ _ _ _ _ _ _ _ _ _ _ => none
  | k + 1 => fun x1 x3 x4 x5 x6 x7 x8 x9 x23 x24 x25 x26 s =>
    if x26 < x23 then
      (f_getState s x26).bind fun q2 =>
      if q2 = (1 : Int32) then
        (f_getAddress s x26).bind fun q5 =>
        (f_getSize s x26).bind fun q7 =>
        if x24 < (q5 + q7) then
          if q5 < (x24 + x25) then
            some ((0 : Int32), s)
          else
            f_law_896 n sn sf k42 k836 k x1 x3 x4 x5 x6 x7 x8 x9 x23 x24 x25 (x26 + (1 : Int32)) s
        else
          f_law_896 n sn sf k42 k836 k x1 x3 x4 x5 x6 x7 x8 x9 x23 x24 x25 (x26 + (1 : Int32)) s
      else
        f_law_896 n sn sf k42 k836 k x1 x3 x4 x5 x6 x7 x8 x9 x23 x24 x25 (x26 + (1 : Int32)) s
    else
      k836 x1 x3 x4 x5 x6 x7 x8 x9 (x23 + (1 : Int32)) s
set_option maxRecDepth 100000 in
theorem e_law_896 {g : GT} {n : Nat} {sn : Nat} {sf : Nat → Int32} (hw : HW g) {K : St → MHeap} {o : Nat} {r : Nat → Nat} (hs : ∀ s, (K s)[0]? = some (.inr (false, tab sn sf))) (V : View (GG g) Ln K o r) {k42 : Int32 → Int32 → Int32 → Int32 → Int32 → Int32 → Int32 → Int32 → St → Option (Int32 × St)} (hk42 : ∀ (x1 : Int32) (x3 : Int32) (x4 : Int32) (x5 : Int32) (x6 : Int32) (x7 : Int32) (x8 : Int32) (x9 : Int32) (s : St) (y10 : Slot) (hy10 : one1 y10 = true) (y11 : Slot) (hy11 : one1 y11 = true) (y12 : Slot) (hy12 : one1 y12 = true) (y13 : Slot) (hy13 : one1 y13 = true) (y14 : Slot) (hy14 : one1 y14 = true) (y15 : Slot) (hy15 : one1 y15 = true) (y16 : Slot) (hy16 : one1 y16 = true) (y17 : Slot) (hy17 : one1 y17 = true) (y18 : Slot) (hy18 : one1 y18 = true) (y19 : Slot) (hy19 : one1 y19 = true) (y20 : Slot) (hy20 : one1 y20 = true) (y21 : Slot) (hy21 : one1 y21 = true) (y22 : Slot) (hy22 : one1 y22 = true) (y23 : Slot) (hy23 : one1 y23 = true) (y24 : Slot) (hy24 : one1 y24 = true) (y25 : Slot) (hy25 : one1 y25 = true) (y26 : Slot) (hy26 : one1 y26 = true) (y27 : Slot) (hy27 : one1 y27 = true) (y28 : Slot) (hy28 : one1 y28 = true) (w : Int32 × St), k42 x1 x3 x4 x5 x6 x7 x8 x9 s = some w → Ev (GG g) M_law 42 [.val (.ref 0), .val (.int x1), .val (.ref o), .val (.int x3), .val (.int x4), .val (.int x5), .val (.int x6), .val (.int x7), .val (.int x8), .val (.int x9), y10, y11, y12, y13, y14, y15, y16, y17, y18, y19, y20, y21, y22, y23, y24, y25, y26, y27, y28] [] (K s) ((some (.int w.1)), (K w.2))) {k836 : Int32 → Int32 → Int32 → Int32 → Int32 → Int32 → Int32 → Int32 → Int32 → St → Option (Int32 × St)} (hk836 : ∀ (x1 : Int32) (x3 : Int32) (x4 : Int32) (x5 : Int32) (x6 : Int32) (x7 : Int32) (x8 : Int32) (x9 : Int32) (x23 : Int32) (s : St) (y10 : Slot) (hy10 : one1 y10 = true) (y11 : Slot) (hy11 : one1 y11 = true) (y12 : Slot) (hy12 : one1 y12 = true) (y13 : Slot) (hy13 : one1 y13 = true) (y14 : Slot) (hy14 : one1 y14 = true) (y15 : Slot) (hy15 : one1 y15 = true) (y16 : Slot) (hy16 : one1 y16 = true) (y17 : Slot) (hy17 : one1 y17 = true) (y18 : Slot) (hy18 : one1 y18 = true) (y19 : Slot) (hy19 : one1 y19 = true) (y20 : Slot) (hy20 : one1 y20 = true) (y21 : Slot) (hy21 : one1 y21 = true) (y22 : Slot) (hy22 : one1 y22 = true) (y24 : Slot) (hy24 : one1 y24 = true) (y25 : Slot) (hy25 : one1 y25 = true) (y26 : Slot) (hy26 : one1 y26 = true) (y27 : Slot) (hy27 : one1 y27 = true) (y28 : Slot) (hy28 : one1 y28 = true) (w : Int32 × St), k836 x1 x3 x4 x5 x6 x7 x8 x9 x23 s = some w → Ev (GG g) M_law 836 [.val (.ref 0), .val (.int x1), .val (.ref o), .val (.int x3), .val (.int x4), .val (.int x5), .val (.int x6), .val (.int x7), .val (.int x8), .val (.int x9), y10, y11, y12, y13, y14, y15, y16, y17, y18, y19, y20, y21, y22, .val (.int x23), y24, y25, y26, y27, y28] [] (K s) ((some (.int w.1)), (K w.2))) (k : Nat) : ∀ (x1 : Int32) (x3 : Int32) (x4 : Int32) (x5 : Int32) (x6 : Int32) (x7 : Int32) (x8 : Int32) (x9 : Int32) (x23 : Int32) (x24 : Int32) (x25 : Int32) (x26 : Int32) (s : St) (y10 : Slot) (hy10 : one1 y10 = true) (y11 : Slot) (hy11 : one1 y11 = true) (y12 : Slot) (hy12 : one1 y12 = true) (y13 : Slot) (hy13 : one1 y13 = true) (y14 : Slot) (hy14 : one1 y14 = true) (y15 : Slot) (hy15 : one1 y15 = true) (y16 : Slot) (hy16 : one1 y16 = true) (y17 : Slot) (hy17 : one1 y17 = true) (y18 : Slot) (hy18 : one1 y18 = true) (y19 : Slot) (hy19 : one1 y19 = true) (y20 : Slot) (hy20 : one1 y20 = true) (y21 : Slot) (hy21 : one1 y21 = true) (y22 : Slot) (hy22 : one1 y22 = true) (y27 : Slot) (hy27 : one1 y27 = true) (y28 : Slot) (hy28 : one1 y28 = true) (w : Int32 × St), f_law_896 n sn sf k42 k836 k x1 x3 x4 x5 x6 x7 x8 x9 x23 x24 x25 x26 s = some w → Ev (GG g) M_law 896 [.val (.ref 0), .val (.int x1), .val (.ref o), .val (.int x3), .val (.int x4), .val (.int x5), .val (.int x6), .val (.int x7), .val (.int x8), .val (.int x9), y10, y11, y12, y13, y14, y15, y16, y17, y18, y19, y20, y21, y22, .val (.int x23), .val (.int x24), .val (.int x25), .val (.int x26), y27, y28] [] (K s) ((some (.int w.1)), (K w.2)) := by
  induction k with
  | zero => intro x1 x3 x4 x5 x6 x7 x8 x9 x23 x24 x25 x26 s y10 hy10 y11 hy11 y12 hy12 y13 hy13 y14 hy14 y15 hy15 y16 hy16 y17 hy17 y18 hy18 y19 hy19 y20 hy20 y21 hy21 y22 hy22 y27 hy27 y28 hy28 w hr; rw [f_law_896] at hr; cases hr
  | succ k ih =>
    intro x1 x3 x4 x5 x6 x7 x8 x9 x23 x24 x25 x26 s y10 hy10 y11 hy11 y12 hy12 y13 hy13 y14 hy14 y15 hy15 y16 hy16 y17 hy17 y18 hy18 y19 hy19 y20 hy20 y21 hy21 y22 hy22 y27 hy27 y28 hy28 w hr
    rw [f_law_896] at hr
    refine Ev.iload at_896 rfl ?_
    refine Ev.iload at_898 rfl ?_
    refine Ev.icge (t := 960) at_900 rfl (fun c1 => ?_) (fun c1 => ?_)
    · replace hr := (if_pos c1).symm.trans hr
      refine Ev.aloadN at_903 rfl ?_
      refine Ev.iload at_904 rfl ?_
      obtain ⟨q2, hq3, hr⟩ := Option.bind_eq_some_iff.mp hr
      refine Ev.virt (y := M_getState) (args := [.int x26]) (rest := []) (gok hw) rfl nm_getState (ww hw 43 rfl) (ww hw 44 rfl) (ww hw 45 rfl) (ww hw 46 rfl) (ww hw 47 rfl) (lenOf pd_getState rfl) at_906 (V.2.1 s) (e_getState hw V hq3) (by decide) (Nat.le_of_ble_eq_true rfl) rfl ?_
      refine Ev.iconst (z := 1) at_909 rfl ?_
      refine Ev.iceq (t := 916) at_910 rfl (fun c4 => ?_) (fun c4 => ?_)
      · replace hr := (if_pos c4).symm.trans hr
        refine Ev.aloadN at_916 rfl ?_
        refine Ev.iload at_917 rfl ?_
        obtain ⟨q5, hq6, hr⟩ := Option.bind_eq_some_iff.mp hr
        refine Ev.virt (y := M_getAddress) (args := [.int x26]) (rest := []) (gok hw) rfl nm_getAddress (ww hw 106 rfl) (ww hw 107 rfl) (ww hw 108 rfl) (ww hw 109 rfl) (ww hw 110 rfl) (lenOf pd_getAddress rfl) at_919 (V.2.1 s) (e_getAddress hw V hq6) (by decide) (Nat.le_of_ble_eq_true rfl) rfl ?_
        refine Ev.istD (L' := [.val (.ref 0), .val (.int x1), .val (.ref o), .val (.int x3), .val (.int x4), .val (.int x5), .val (.int x6), .val (.int x7), .val (.int x8), .val (.int x9), y10, y11, y12, y13, y14, y15, y16, y17, y18, y19, y20, y21, y22, .val (.int x23), .val (.int x24), .val (.int x25), .val (.int x26), .val (.int q5), y28]) at_922 rfl hy27 rfl ?_
        refine Ev.aloadN at_924 rfl ?_
        refine Ev.iload at_925 rfl ?_
        obtain ⟨q7, hq8, hr⟩ := Option.bind_eq_some_iff.mp hr
        refine Ev.virt (y := M_getSize) (args := [.int x26]) (rest := []) (gok hw) rfl nm_getSize (ww hw 55 rfl) (ww hw 56 rfl) (ww hw 57 rfl) (ww hw 58 rfl) (ww hw 59 rfl) (lenOf pd_getSize rfl) at_927 (V.2.1 s) (e_getSize hw V hq8) (by decide) (Nat.le_of_ble_eq_true rfl) rfl ?_
        refine Ev.istD (L' := [.val (.ref 0), .val (.int x1), .val (.ref o), .val (.int x3), .val (.int x4), .val (.int x5), .val (.int x6), .val (.int x7), .val (.int x8), .val (.int x9), y10, y11, y12, y13, y14, y15, y16, y17, y18, y19, y20, y21, y22, .val (.int x23), .val (.int x24), .val (.int x25), .val (.int x26), .val (.int q5), .val (.int q7)]) at_930 rfl hy28 rfl ?_
        refine Ev.iload at_932 rfl ?_
        refine Ev.iload at_934 rfl ?_
        refine Ev.iload at_936 rfl ?_
        refine Ev.iadd at_938 ?_
        refine Ev.icge (t := 954) at_939 rfl (fun c9 => ?_) (fun c9 => ?_)
        · replace hr := (if_pos c9).symm.trans hr
          refine Ev.iload at_942 rfl ?_
          refine Ev.iload at_944 rfl ?_
          refine Ev.iload at_946 rfl ?_
          refine Ev.iadd at_948 ?_
          refine Ev.icge (t := 954) at_949 rfl (fun c10 => ?_) (fun c10 => ?_)
          · replace hr := (if_pos c10).symm.trans hr
            refine Ev.iconst (z := 0) at_952 rfl ?_
            cases hr
            exact Ev.zret0 rfl at_953
          · replace hr := (if_neg c10).symm.trans hr
            refine Ev.iinc (z := 1) (L' := [.val (.ref 0), .val (.int x1), .val (.ref o), .val (.int x3), .val (.int x4), .val (.int x5), .val (.int x6), .val (.int x7), .val (.int x8), .val (.int x9), y10, y11, y12, y13, y14, y15, y16, y17, y18, y19, y20, y21, y22, .val (.int x23), .val (.int x24), .val (.int x25), .val (.int (x26 + (1 : Int32))), .val (.int q5), .val (.int q7)]) at_954 rfl rfl rfl ?_
            refine Ev.goto (t := 896) at_957 rfl ?_
            exact ih x1 x3 x4 x5 x6 x7 x8 x9 x23 x24 x25 (x26 + (1 : Int32)) s y10 hy10 y11 hy11 y12 hy12 y13 hy13 y14 hy14 y15 hy15 y16 hy16 y17 hy17 y18 hy18 y19 hy19 y20 hy20 y21 hy21 y22 hy22 (.val (.int q5)) rfl (.val (.int q7)) rfl _ hr
        · replace hr := (if_neg c9).symm.trans hr
          refine Ev.iinc (z := 1) (L' := [.val (.ref 0), .val (.int x1), .val (.ref o), .val (.int x3), .val (.int x4), .val (.int x5), .val (.int x6), .val (.int x7), .val (.int x8), .val (.int x9), y10, y11, y12, y13, y14, y15, y16, y17, y18, y19, y20, y21, y22, .val (.int x23), .val (.int x24), .val (.int x25), .val (.int (x26 + (1 : Int32))), .val (.int q5), .val (.int q7)]) at_954 rfl rfl rfl ?_
          refine Ev.goto (t := 896) at_957 rfl ?_
          exact ih x1 x3 x4 x5 x6 x7 x8 x9 x23 x24 x25 (x26 + (1 : Int32)) s y10 hy10 y11 hy11 y12 hy12 y13 hy13 y14 hy14 y15 hy15 y16 hy16 y17 hy17 y18 hy18 y19 hy19 y20 hy20 y21 hy21 y22 hy22 (.val (.int q5)) rfl (.val (.int q7)) rfl _ hr
      · replace hr := (if_neg c4).symm.trans hr
        refine Ev.goto (t := 954) at_913 rfl ?_
        refine Ev.iinc (z := 1) (L' := [.val (.ref 0), .val (.int x1), .val (.ref o), .val (.int x3), .val (.int x4), .val (.int x5), .val (.int x6), .val (.int x7), .val (.int x8), .val (.int x9), y10, y11, y12, y13, y14, y15, y16, y17, y18, y19, y20, y21, y22, .val (.int x23), .val (.int x24), .val (.int x25), .val (.int (x26 + (1 : Int32))), y27, y28]) at_954 rfl rfl rfl ?_
        refine Ev.goto (t := 896) at_957 rfl ?_
        exact ih x1 x3 x4 x5 x6 x7 x8 x9 x23 x24 x25 (x26 + (1 : Int32)) s y10 hy10 y11 hy11 y12 hy12 y13 hy13 y14 hy14 y15 hy15 y16 hy16 y17 hy17 y18 hy18 y19 hy19 y20 hy20 y21 hy21 y22 hy22 y27 hy27 y28 hy28 _ hr
    · replace hr := (if_neg c1).symm.trans hr
      refine Ev.iinc (z := 1) (L' := [.val (.ref 0), .val (.int x1), .val (.ref o), .val (.int x3), .val (.int x4), .val (.int x5), .val (.int x6), .val (.int x7), .val (.int x8), .val (.int x9), y10, y11, y12, y13, y14, y15, y16, y17, y18, y19, y20, y21, y22, .val (.int (x23 + (1 : Int32))), .val (.int x24), .val (.int x25), .val (.int x26), y27, y28]) at_960 rfl rfl rfl ?_
      refine Ev.goto (t := 836) at_963 rfl ?_
      exact hk836 x1 x3 x4 x5 x6 x7 x8 x9 (x23 + (1 : Int32)) s y10 hy10 y11 hy11 y12 hy12 y13 hy13 y14 hy14 y15 hy15 y16 hy16 y17 hy17 y18 hy18 y19 hy19 y20 hy20 y21 hy21 y22 hy22 (.val (.int x24)) rfl (.val (.int x25)) rfl (.val (.int x26)) rfl y27 hy27 y28 hy28 _ hr
def f_law_836 (n : Nat) (sn : Nat) (sf : Nat → Int32) (k42 : Int32 → Int32 → Int32 → Int32 → Int32 → Int32 → Int32 → Int32 → St → Option (Int32 × St)) : Nat → Int32 → Int32 → Int32 → Int32 → Int32 → Int32 → Int32 → Int32 → Int32 → St → Option (Int32 × St)
  | 0 => fun _ _ _ _ _ _ _ _ _ _ => none
  | k + 1 => fun x1 x3 x4 x5 x6 x7 x8 x9 x23 s =>
    if x23 < (4 : Int32) then
      (f_getState s x23).bind fun q2 =>
      if q2 = (1 : Int32) then
        (f_getAddress s x23).bind fun q5 =>
        (f_getSize s x23).bind fun q7 =>
        if q5 < 0 then
          some ((0 : Int32), s)
        else
          if q7 < (1 : Int32) then
            some ((0 : Int32), s)
          else
            if x1 < (q5 + q7) then
              some ((0 : Int32), s)
            else
              f_law_896 n sn sf k42 (f_law_836 n sn sf k42 k) n x1 x3 x4 x5 x6 x7 x8 x9 x23 q5 q7 (0 : Int32) s
      else
        f_law_836 n sn sf k42 k x1 x3 x4 x5 x6 x7 x8 x9 (x23 + (1 : Int32)) s
    else
      k42 x1 x3 x4 x5 x6 x7 x8 (x9 + (3 : Int32)) s
set_option maxRecDepth 100000 in
theorem e_law_836 {g : GT} {n : Nat} {sn : Nat} {sf : Nat → Int32} (hw : HW g) {K : St → MHeap} {o : Nat} {r : Nat → Nat} (hs : ∀ s, (K s)[0]? = some (.inr (false, tab sn sf))) (V : View (GG g) Ln K o r) {k42 : Int32 → Int32 → Int32 → Int32 → Int32 → Int32 → Int32 → Int32 → St → Option (Int32 × St)} (hk42 : ∀ (x1 : Int32) (x3 : Int32) (x4 : Int32) (x5 : Int32) (x6 : Int32) (x7 : Int32) (x8 : Int32) (x9 : Int32) (s : St) (y10 : Slot) (hy10 : one1 y10 = true) (y11 : Slot) (hy11 : one1 y11 = true) (y12 : Slot) (hy12 : one1 y12 = true) (y13 : Slot) (hy13 : one1 y13 = true) (y14 : Slot) (hy14 : one1 y14 = true) (y15 : Slot) (hy15 : one1 y15 = true) (y16 : Slot) (hy16 : one1 y16 = true) (y17 : Slot) (hy17 : one1 y17 = true) (y18 : Slot) (hy18 : one1 y18 = true) (y19 : Slot) (hy19 : one1 y19 = true) (y20 : Slot) (hy20 : one1 y20 = true) (y21 : Slot) (hy21 : one1 y21 = true) (y22 : Slot) (hy22 : one1 y22 = true) (y23 : Slot) (hy23 : one1 y23 = true) (y24 : Slot) (hy24 : one1 y24 = true) (y25 : Slot) (hy25 : one1 y25 = true) (y26 : Slot) (hy26 : one1 y26 = true) (y27 : Slot) (hy27 : one1 y27 = true) (y28 : Slot) (hy28 : one1 y28 = true) (w : Int32 × St), k42 x1 x3 x4 x5 x6 x7 x8 x9 s = some w → Ev (GG g) M_law 42 [.val (.ref 0), .val (.int x1), .val (.ref o), .val (.int x3), .val (.int x4), .val (.int x5), .val (.int x6), .val (.int x7), .val (.int x8), .val (.int x9), y10, y11, y12, y13, y14, y15, y16, y17, y18, y19, y20, y21, y22, y23, y24, y25, y26, y27, y28] [] (K s) ((some (.int w.1)), (K w.2))) (k : Nat) : ∀ (x1 : Int32) (x3 : Int32) (x4 : Int32) (x5 : Int32) (x6 : Int32) (x7 : Int32) (x8 : Int32) (x9 : Int32) (x23 : Int32) (s : St) (y10 : Slot) (hy10 : one1 y10 = true) (y11 : Slot) (hy11 : one1 y11 = true) (y12 : Slot) (hy12 : one1 y12 = true) (y13 : Slot) (hy13 : one1 y13 = true) (y14 : Slot) (hy14 : one1 y14 = true) (y15 : Slot) (hy15 : one1 y15 = true) (y16 : Slot) (hy16 : one1 y16 = true) (y17 : Slot) (hy17 : one1 y17 = true) (y18 : Slot) (hy18 : one1 y18 = true) (y19 : Slot) (hy19 : one1 y19 = true) (y20 : Slot) (hy20 : one1 y20 = true) (y21 : Slot) (hy21 : one1 y21 = true) (y22 : Slot) (hy22 : one1 y22 = true) (y24 : Slot) (hy24 : one1 y24 = true) (y25 : Slot) (hy25 : one1 y25 = true) (y26 : Slot) (hy26 : one1 y26 = true) (y27 : Slot) (hy27 : one1 y27 = true) (y28 : Slot) (hy28 : one1 y28 = true) (w : Int32 × St), f_law_836 n sn sf k42 k x1 x3 x4 x5 x6 x7 x8 x9 x23 s = some w → Ev (GG g) M_law 836 [.val (.ref 0), .val (.int x1), .val (.ref o), .val (.int x3), .val (.int x4), .val (.int x5), .val (.int x6), .val (.int x7), .val (.int x8), .val (.int x9), y10, y11, y12, y13, y14, y15, y16, y17, y18, y19, y20, y21, y22, .val (.int x23), y24, y25, y26, y27, y28] [] (K s) ((some (.int w.1)), (K w.2)) := by
  induction k with
  | zero => intro x1 x3 x4 x5 x6 x7 x8 x9 x23 s y10 hy10 y11 hy11 y12 hy12 y13 hy13 y14 hy14 y15 hy15 y16 hy16 y17 hy17 y18 hy18 y19 hy19 y20 hy20 y21 hy21 y22 hy22 y24 hy24 y25 hy25 y26 hy26 y27 hy27 y28 hy28 w hr; rw [f_law_836] at hr; cases hr
  | succ k ih =>
    intro x1 x3 x4 x5 x6 x7 x8 x9 x23 s y10 hy10 y11 hy11 y12 hy12 y13 hy13 y14 hy14 y15 hy15 y16 hy16 y17 hy17 y18 hy18 y19 hy19 y20 hy20 y21 hy21 y22 hy22 y24 hy24 y25 hy25 y26 hy26 y27 hy27 y28 hy28 w hr
    rw [f_law_836] at hr
    refine Ev.iload at_836 rfl ?_
    refine Ev.iconst (z := 4) at_838 rfl ?_
    refine Ev.icge (t := 966) at_839 rfl (fun c1 => ?_) (fun c1 => ?_)
    · replace hr := (if_pos c1).symm.trans hr
      refine Ev.aloadN at_842 rfl ?_
      refine Ev.iload at_843 rfl ?_
      obtain ⟨q2, hq3, hr⟩ := Option.bind_eq_some_iff.mp hr
      refine Ev.virt (y := M_getState) (args := [.int x23]) (rest := []) (gok hw) rfl nm_getState (ww hw 43 rfl) (ww hw 44 rfl) (ww hw 45 rfl) (ww hw 46 rfl) (ww hw 47 rfl) (lenOf pd_getState rfl) at_845 (V.2.1 s) (e_getState hw V hq3) (by decide) (Nat.le_of_ble_eq_true rfl) rfl ?_
      refine Ev.iconst (z := 1) at_848 rfl ?_
      refine Ev.iceq (t := 855) at_849 rfl (fun c4 => ?_) (fun c4 => ?_)
      · replace hr := (if_pos c4).symm.trans hr
        refine Ev.aloadN at_855 rfl ?_
        refine Ev.iload at_856 rfl ?_
        obtain ⟨q5, hq6, hr⟩ := Option.bind_eq_some_iff.mp hr
        refine Ev.virt (y := M_getAddress) (args := [.int x23]) (rest := []) (gok hw) rfl nm_getAddress (ww hw 106 rfl) (ww hw 107 rfl) (ww hw 108 rfl) (ww hw 109 rfl) (ww hw 110 rfl) (lenOf pd_getAddress rfl) at_858 (V.2.1 s) (e_getAddress hw V hq6) (by decide) (Nat.le_of_ble_eq_true rfl) rfl ?_
        refine Ev.istD (L' := [.val (.ref 0), .val (.int x1), .val (.ref o), .val (.int x3), .val (.int x4), .val (.int x5), .val (.int x6), .val (.int x7), .val (.int x8), .val (.int x9), y10, y11, y12, y13, y14, y15, y16, y17, y18, y19, y20, y21, y22, .val (.int x23), .val (.int q5), y25, y26, y27, y28]) at_861 rfl hy24 rfl ?_
        refine Ev.aloadN at_863 rfl ?_
        refine Ev.iload at_864 rfl ?_
        obtain ⟨q7, hq8, hr⟩ := Option.bind_eq_some_iff.mp hr
        refine Ev.virt (y := M_getSize) (args := [.int x23]) (rest := []) (gok hw) rfl nm_getSize (ww hw 55 rfl) (ww hw 56 rfl) (ww hw 57 rfl) (ww hw 58 rfl) (ww hw 59 rfl) (lenOf pd_getSize rfl) at_866 (V.2.1 s) (e_getSize hw V hq8) (by decide) (Nat.le_of_ble_eq_true rfl) rfl ?_
        refine Ev.istD (L' := [.val (.ref 0), .val (.int x1), .val (.ref o), .val (.int x3), .val (.int x4), .val (.int x5), .val (.int x6), .val (.int x7), .val (.int x8), .val (.int x9), y10, y11, y12, y13, y14, y15, y16, y17, y18, y19, y20, y21, y22, .val (.int x23), .val (.int q5), .val (.int q7), y26, y27, y28]) at_869 rfl hy25 rfl ?_
        refine Ev.iload at_871 rfl ?_
        refine Ev.iflt (t := 891) at_873 rfl (fun c9 => ?_) (fun c9 => ?_)
        · replace hr := (if_pos c9).symm.trans hr
          refine Ev.iconst (z := 0) at_891 rfl ?_
          cases hr
          exact Ev.zret0 rfl at_892
        · replace hr := (if_neg c9).symm.trans hr
          refine Ev.iload at_876 rfl ?_
          refine Ev.iconst (z := 1) at_878 rfl ?_
          refine Ev.iclt (t := 891) at_879 rfl (fun c10 => ?_) (fun c10 => ?_)
          · replace hr := (if_pos c10).symm.trans hr
            refine Ev.iconst (z := 0) at_891 rfl ?_
            cases hr
            exact Ev.zret0 rfl at_892
          · replace hr := (if_neg c10).symm.trans hr
            refine Ev.iload at_882 rfl ?_
            refine Ev.iload at_884 rfl ?_
            refine Ev.iadd at_886 ?_
            refine Ev.iloadN at_887 rfl ?_
            refine Ev.icle (t := 893) at_888 rfl (fun c11 => ?_) (fun c11 => ?_)
            · replace hr := (if_pos c11).symm.trans hr
              refine Ev.iconst (z := 0) at_891 rfl ?_
              cases hr
              exact Ev.zret0 rfl at_892
            · replace hr := (if_neg c11).symm.trans hr
              refine Ev.iconst (z := 0) at_893 rfl ?_
              refine Ev.istD (L' := [.val (.ref 0), .val (.int x1), .val (.ref o), .val (.int x3), .val (.int x4), .val (.int x5), .val (.int x6), .val (.int x7), .val (.int x8), .val (.int x9), y10, y11, y12, y13, y14, y15, y16, y17, y18, y19, y20, y21, y22, .val (.int x23), .val (.int q5), .val (.int q7), .val (.int (0 : Int32)), y27, y28]) at_894 rfl hy26 rfl ?_
              exact e_law_896 hw hs V hk42 ih n x1 x3 x4 x5 x6 x7 x8 x9 x23 q5 q7 (0 : Int32) s y10 hy10 y11 hy11 y12 hy12 y13 hy13 y14 hy14 y15 hy15 y16 hy16 y17 hy17 y18 hy18 y19 hy19 y20 hy20 y21 hy21 y22 hy22 y27 hy27 y28 hy28 _ hr
      · replace hr := (if_neg c4).symm.trans hr
        refine Ev.goto (t := 960) at_852 rfl ?_
        refine Ev.iinc (z := 1) (L' := [.val (.ref 0), .val (.int x1), .val (.ref o), .val (.int x3), .val (.int x4), .val (.int x5), .val (.int x6), .val (.int x7), .val (.int x8), .val (.int x9), y10, y11, y12, y13, y14, y15, y16, y17, y18, y19, y20, y21, y22, .val (.int (x23 + (1 : Int32))), y24, y25, y26, y27, y28]) at_960 rfl rfl rfl ?_
        refine Ev.goto (t := 836) at_963 rfl ?_
        exact ih x1 x3 x4 x5 x6 x7 x8 x9 (x23 + (1 : Int32)) s y10 hy10 y11 hy11 y12 hy12 y13 hy13 y14 hy14 y15 hy15 y16 hy16 y17 hy17 y18 hy18 y19 hy19 y20 hy20 y21 hy21 y22 hy22 y24 hy24 y25 hy25 y26 hy26 y27 hy27 y28 hy28 _ hr
    · replace hr := (if_neg c1).symm.trans hr
      refine Ev.iinc (z := 3) (L' := [.val (.ref 0), .val (.int x1), .val (.ref o), .val (.int x3), .val (.int x4), .val (.int x5), .val (.int x6), .val (.int x7), .val (.int x8), .val (.int (x9 + (3 : Int32))), y10, y11, y12, y13, y14, y15, y16, y17, y18, y19, y20, y21, y22, .val (.int x23), y24, y25, y26, y27, y28]) at_966 rfl rfl rfl ?_
      refine Ev.goto (t := 42) at_969 rfl ?_
      exact hk42 x1 x3 x4 x5 x6 x7 x8 (x9 + (3 : Int32)) s y10 hy10 y11 hy11 y12 hy12 y13 hy13 y14 hy14 y15 hy15 y16 hy16 y17 hy17 y18 hy18 y19 hy19 y20 hy20 y21 hy21 y22 hy22 (.val (.int x23)) rfl y24 hy24 y25 hy25 y26 hy26 y27 hy27 y28 hy28 _ hr
def f_law_751 (n : Nat) (sn : Nat) (sf : Nat → Int32) (k42 : Int32 → Int32 → Int32 → Int32 → Int32 → Int32 → Int32 → Int32 → St → Option (Int32 × St)) : Nat → Int32 → Int32 → Int32 → Int32 → Int32 → Int32 → Int32 → Int32 → Int32 → Int32 → Int32 → Int32 → Int32 → Int32 → Int32 → St → Option (Int32 × St)
  | 0 => fun _ _ _ _ _ _ _ _ _ _ _ _ _ _ _ _ => none
  | k + 1 => fun x1 x3 x4 x5 x6 x7 x8 x9 x11 x13 x14 x15 x16 x20 x23 s =>
    if x23 < (4 : Int32) then
      (f_hpick x23 x13 x14 x15 x16).bind fun q2 =>
      if q2 < 0 then
        f_law_751 n sn sf k42 k x1 x3 x4 x5 x6 x7 x8 x9 x11 x13 x14 x15 x16 x20 (x23 + (1 : Int32)) s
      else
        if x20 = 0 then
          f_law_789 n sn sf k42 (f_law_751 n sn sf k42 k) x1 x3 x4 x5 x6 x7 x8 x9 x11 x13 x14 x15 x16 x20 x23 q2 s
        else
          if x23 = x11 then
            f_law_751 n sn sf k42 k x1 x3 x4 x5 x6 x7 x8 x9 x11 x13 x14 x15 x16 x20 (x23 + (1 : Int32)) s
          else
            f_law_789 n sn sf k42 (f_law_751 n sn sf k42 k) x1 x3 x4 x5 x6 x7 x8 x9 x11 x13 x14 x15 x16 x20 x23 q2 s
    else
      f_law_836 n sn sf k42 n x1 x3 x4 x5 x6 x7 x8 x9 (0 : Int32) s
set_option maxRecDepth 100000 in
theorem e_law_751 {g : GT} {n : Nat} {sn : Nat} {sf : Nat → Int32} (hw : HW g) {K : St → MHeap} {o : Nat} {r : Nat → Nat} (hs : ∀ s, (K s)[0]? = some (.inr (false, tab sn sf))) (V : View (GG g) Ln K o r) {k42 : Int32 → Int32 → Int32 → Int32 → Int32 → Int32 → Int32 → Int32 → St → Option (Int32 × St)} (hk42 : ∀ (x1 : Int32) (x3 : Int32) (x4 : Int32) (x5 : Int32) (x6 : Int32) (x7 : Int32) (x8 : Int32) (x9 : Int32) (s : St) (y10 : Slot) (hy10 : one1 y10 = true) (y11 : Slot) (hy11 : one1 y11 = true) (y12 : Slot) (hy12 : one1 y12 = true) (y13 : Slot) (hy13 : one1 y13 = true) (y14 : Slot) (hy14 : one1 y14 = true) (y15 : Slot) (hy15 : one1 y15 = true) (y16 : Slot) (hy16 : one1 y16 = true) (y17 : Slot) (hy17 : one1 y17 = true) (y18 : Slot) (hy18 : one1 y18 = true) (y19 : Slot) (hy19 : one1 y19 = true) (y20 : Slot) (hy20 : one1 y20 = true) (y21 : Slot) (hy21 : one1 y21 = true) (y22 : Slot) (hy22 : one1 y22 = true) (y23 : Slot) (hy23 : one1 y23 = true) (y24 : Slot) (hy24 : one1 y24 = true) (y25 : Slot) (hy25 : one1 y25 = true) (y26 : Slot) (hy26 : one1 y26 = true) (y27 : Slot) (hy27 : one1 y27 = true) (y28 : Slot) (hy28 : one1 y28 = true) (w : Int32 × St), k42 x1 x3 x4 x5 x6 x7 x8 x9 s = some w → Ev (GG g) M_law 42 [.val (.ref 0), .val (.int x1), .val (.ref o), .val (.int x3), .val (.int x4), .val (.int x5), .val (.int x6), .val (.int x7), .val (.int x8), .val (.int x9), y10, y11, y12, y13, y14, y15, y16, y17, y18, y19, y20, y21, y22, y23, y24, y25, y26, y27, y28] [] (K s) ((some (.int w.1)), (K w.2))) (k : Nat) : ∀ (x1 : Int32) (x3 : Int32) (x4 : Int32) (x5 : Int32) (x6 : Int32) (x7 : Int32) (x8 : Int32) (x9 : Int32) (x11 : Int32) (x13 : Int32) (x14 : Int32) (x15 : Int32) (x16 : Int32) (x20 : Int32) (x23 : Int32) (s : St) (y10 : Slot) (hy10 : one1 y10 = true) (y12 : Slot) (hy12 : one1 y12 = true) (y17 : Slot) (hy17 : one1 y17 = true) (y18 : Slot) (hy18 : one1 y18 = true) (y19 : Slot) (hy19 : one1 y19 = true) (y21 : Slot) (hy21 : one1 y21 = true) (y22 : Slot) (hy22 : one1 y22 = true) (y24 : Slot) (hy24 : one1 y24 = true) (y25 : Slot) (hy25 : one1 y25 = true) (y26 : Slot) (hy26 : one1 y26 = true) (y27 : Slot) (hy27 : one1 y27 = true) (y28 : Slot) (hy28 : one1 y28 = true) (w : Int32 × St), f_law_751 n sn sf k42 k x1 x3 x4 x5 x6 x7 x8 x9 x11 x13 x14 x15 x16 x20 x23 s = some w → Ev (GG g) M_law 751 [.val (.ref 0), .val (.int x1), .val (.ref o), .val (.int x3), .val (.int x4), .val (.int x5), .val (.int x6), .val (.int x7), .val (.int x8), .val (.int x9), y10, .val (.int x11), y12, .val (.int x13), .val (.int x14), .val (.int x15), .val (.int x16), y17, y18, y19, .val (.int x20), y21, y22, .val (.int x23), y24, y25, y26, y27, y28] [] (K s) ((some (.int w.1)), (K w.2)) := by
  induction k with
  | zero => intro x1 x3 x4 x5 x6 x7 x8 x9 x11 x13 x14 x15 x16 x20 x23 s y10 hy10 y12 hy12 y17 hy17 y18 hy18 y19 hy19 y21 hy21 y22 hy22 y24 hy24 y25 hy25 y26 hy26 y27 hy27 y28 hy28 w hr; rw [f_law_751] at hr; cases hr
  | succ k ih =>
    intro x1 x3 x4 x5 x6 x7 x8 x9 x11 x13 x14 x15 x16 x20 x23 s y10 hy10 y12 hy12 y17 hy17 y18 hy18 y19 hy19 y21 hy21 y22 hy22 y24 hy24 y25 hy25 y26 hy26 y27 hy27 y28 hy28 w hr
    rw [f_law_751] at hr
    refine Ev.iload at_751 rfl ?_
    refine Ev.iconst (z := 4) at_753 rfl ?_
    refine Ev.icge (t := 833) at_754 rfl (fun c1 => ?_) (fun c1 => ?_)
    · replace hr := (if_pos c1).symm.trans hr
      refine Ev.iload at_757 rfl ?_
      refine Ev.iload at_759 rfl ?_
      refine Ev.iload at_761 rfl ?_
      refine Ev.iload at_763 rfl ?_
      refine Ev.iload at_765 rfl ?_
      obtain ⟨q2, hq3, hr⟩ := Option.bind_eq_some_iff.mp hr
      refine Ev.stat (y := M_hpick) (args := [.int x23, .int x13, .int x14, .int x15, .int x16]) (rest := []) nm_hpick (ww hw 52 rfl) (ww hw 53 rfl) (ww hw 2 rfl) (ww hw 54 rfl) (lenOf pd_hpick rfl) at_767 (e_hpick hw hq3) (by decide) (Nat.le_of_ble_eq_true rfl) rfl ?_
      refine Ev.istD (L' := [.val (.ref 0), .val (.int x1), .val (.ref o), .val (.int x3), .val (.int x4), .val (.int x5), .val (.int x6), .val (.int x7), .val (.int x8), .val (.int x9), y10, .val (.int x11), y12, .val (.int x13), .val (.int x14), .val (.int x15), .val (.int x16), y17, y18, y19, .val (.int x20), y21, y22, .val (.int x23), .val (.int q2), y25, y26, y27, y28]) at_770 rfl hy24 rfl ?_
      refine Ev.iload at_772 rfl ?_
      refine Ev.iflt (t := 827) at_774 rfl (fun c4 => ?_) (fun c4 => ?_)
      · replace hr := (if_pos c4).symm.trans hr
        refine Ev.iinc (z := 1) (L' := [.val (.ref 0), .val (.int x1), .val (.ref o), .val (.int x3), .val (.int x4), .val (.int x5), .val (.int x6), .val (.int x7), .val (.int x8), .val (.int x9), y10, .val (.int x11), y12, .val (.int x13), .val (.int x14), .val (.int x15), .val (.int x16), y17, y18, y19, .val (.int x20), y21, y22, .val (.int (x23 + (1 : Int32))), .val (.int q2), y25, y26, y27, y28]) at_827 rfl rfl rfl ?_
        refine Ev.goto (t := 751) at_830 rfl ?_
        exact ih x1 x3 x4 x5 x6 x7 x8 x9 x11 x13 x14 x15 x16 x20 (x23 + (1 : Int32)) s y10 hy10 y12 hy12 y17 hy17 y18 hy18 y19 hy19 y21 hy21 y22 hy22 (.val (.int q2)) rfl y25 hy25 y26 hy26 y27 hy27 y28 hy28 _ hr
      · replace hr := (if_neg c4).symm.trans hr
        refine Ev.iload at_777 rfl ?_
        refine Ev.ifeq (t := 789) at_779 rfl (fun c5 => ?_) (fun c5 => ?_)
        · replace hr := (if_pos c5).symm.trans hr
          exact e_law_789 hw hs V hk42 ih x1 x3 x4 x5 x6 x7 x8 x9 x11 x13 x14 x15 x16 x20 x23 q2 s y10 hy10 y12 hy12 y17 hy17 y18 hy18 y19 hy19 y21 hy21 y22 hy22 y25 hy25 y26 hy26 y27 hy27 y28 hy28 _ hr
        · replace hr := (if_neg c5).symm.trans hr
          refine Ev.iload at_782 rfl ?_
          refine Ev.iload at_784 rfl ?_
          refine Ev.iceq (t := 827) at_786 rfl (fun c6 => ?_) (fun c6 => ?_)
          · replace hr := (if_pos c6).symm.trans hr
            refine Ev.iinc (z := 1) (L' := [.val (.ref 0), .val (.int x1), .val (.ref o), .val (.int x3), .val (.int x4), .val (.int x5), .val (.int x6), .val (.int x7), .val (.int x8), .val (.int x9), y10, .val (.int x11), y12, .val (.int x13), .val (.int x14), .val (.int x15), .val (.int x16), y17, y18, y19, .val (.int x20), y21, y22, .val (.int (x23 + (1 : Int32))), .val (.int q2), y25, y26, y27, y28]) at_827 rfl rfl rfl ?_
            refine Ev.goto (t := 751) at_830 rfl ?_
            exact ih x1 x3 x4 x5 x6 x7 x8 x9 x11 x13 x14 x15 x16 x20 (x23 + (1 : Int32)) s y10 hy10 y12 hy12 y17 hy17 y18 hy18 y19 hy19 y21 hy21 y22 hy22 (.val (.int q2)) rfl y25 hy25 y26 hy26 y27 hy27 y28 hy28 _ hr
          · replace hr := (if_neg c6).symm.trans hr
            exact e_law_789 hw hs V hk42 ih x1 x3 x4 x5 x6 x7 x8 x9 x11 x13 x14 x15 x16 x20 x23 q2 s y10 hy10 y12 hy12 y17 hy17 y18 hy18 y19 hy19 y21 hy21 y22 hy22 y25 hy25 y26 hy26 y27 hy27 y28 hy28 _ hr
    · replace hr := (if_neg c1).symm.trans hr
      refine Ev.iconst (z := 0) at_833 rfl ?_
      refine Ev.istD (L' := [.val (.ref 0), .val (.int x1), .val (.ref o), .val (.int x3), .val (.int x4), .val (.int x5), .val (.int x6), .val (.int x7), .val (.int x8), .val (.int x9), y10, .val (.int x11), y12, .val (.int x13), .val (.int x14), .val (.int x15), .val (.int x16), y17, y18, y19, .val (.int x20), y21, y22, .val (.int (0 : Int32)), y24, y25, y26, y27, y28]) at_834 rfl rfl rfl ?_
      exact e_law_836 hw hs V hk42 n x1 x3 x4 x5 x6 x7 x8 x9 (0 : Int32) s y10 hy10 (.val (.int x11)) rfl y12 hy12 (.val (.int x13)) rfl (.val (.int x14)) rfl (.val (.int x15)) rfl (.val (.int x16)) rfl y17 hy17 y18 hy18 y19 hy19 (.val (.int x20)) rfl y21 hy21 y22 hy22 y24 hy24 y25 hy25 y26 hy26 y27 hy27 y28 hy28 _ hr
def f_law_748 (n : Nat) (sn : Nat) (sf : Nat → Int32) (k42 : Int32 → Int32 → Int32 → Int32 → Int32 → Int32 → Int32 → Int32 → St → Option (Int32 × St)) (x1 : Int32) (x3 : Int32) (x4 : Int32) (x5 : Int32) (x6 : Int32) (x7 : Int32) (x8 : Int32) (x9 : Int32) (x11 : Int32) (x13 : Int32) (x14 : Int32) (x15 : Int32) (x16 : Int32) (x20 : Int32) (s : St) : Option (Int32 × St) :=
  f_law_751 n sn sf k42 n x1 x3 x4 x5 x6 x7 x8 x9 x11 x13 x14 x15 x16 x20 (0 : Int32) s
set_option maxRecDepth 100000 in
theorem e_law_748 {g : GT} {n : Nat} {sn : Nat} {sf : Nat → Int32} (hw : HW g) {K : St → MHeap} {o : Nat} {r : Nat → Nat} (hs : ∀ s, (K s)[0]? = some (.inr (false, tab sn sf))) (V : View (GG g) Ln K o r) {k42 : Int32 → Int32 → Int32 → Int32 → Int32 → Int32 → Int32 → Int32 → St → Option (Int32 × St)} (hk42 : ∀ (x1 : Int32) (x3 : Int32) (x4 : Int32) (x5 : Int32) (x6 : Int32) (x7 : Int32) (x8 : Int32) (x9 : Int32) (s : St) (y10 : Slot) (hy10 : one1 y10 = true) (y11 : Slot) (hy11 : one1 y11 = true) (y12 : Slot) (hy12 : one1 y12 = true) (y13 : Slot) (hy13 : one1 y13 = true) (y14 : Slot) (hy14 : one1 y14 = true) (y15 : Slot) (hy15 : one1 y15 = true) (y16 : Slot) (hy16 : one1 y16 = true) (y17 : Slot) (hy17 : one1 y17 = true) (y18 : Slot) (hy18 : one1 y18 = true) (y19 : Slot) (hy19 : one1 y19 = true) (y20 : Slot) (hy20 : one1 y20 = true) (y21 : Slot) (hy21 : one1 y21 = true) (y22 : Slot) (hy22 : one1 y22 = true) (y23 : Slot) (hy23 : one1 y23 = true) (y24 : Slot) (hy24 : one1 y24 = true) (y25 : Slot) (hy25 : one1 y25 = true) (y26 : Slot) (hy26 : one1 y26 = true) (y27 : Slot) (hy27 : one1 y27 = true) (y28 : Slot) (hy28 : one1 y28 = true) (w : Int32 × St), k42 x1 x3 x4 x5 x6 x7 x8 x9 s = some w → Ev (GG g) M_law 42 [.val (.ref 0), .val (.int x1), .val (.ref o), .val (.int x3), .val (.int x4), .val (.int x5), .val (.int x6), .val (.int x7), .val (.int x8), .val (.int x9), y10, y11, y12, y13, y14, y15, y16, y17, y18, y19, y20, y21, y22, y23, y24, y25, y26, y27, y28] [] (K s) ((some (.int w.1)), (K w.2))) (x1 : Int32) (x3 : Int32) (x4 : Int32) (x5 : Int32) (x6 : Int32) (x7 : Int32) (x8 : Int32) (x9 : Int32) (x11 : Int32) (x13 : Int32) (x14 : Int32) (x15 : Int32) (x16 : Int32) (x20 : Int32) (s : St) (y10 : Slot) (hy10 : one1 y10 = true) (y12 : Slot) (hy12 : one1 y12 = true) (y17 : Slot) (hy17 : one1 y17 = true) (y18 : Slot) (hy18 : one1 y18 = true) (y19 : Slot) (hy19 : one1 y19 = true) (y21 : Slot) (hy21 : one1 y21 = true) (y22 : Slot) (hy22 : one1 y22 = true) (y23 : Slot) (hy23 : one1 y23 = true) (y24 : Slot) (hy24 : one1 y24 = true) (y25 : Slot) (hy25 : one1 y25 = true) (y26 : Slot) (hy26 : one1 y26 = true) (y27 : Slot) (hy27 : one1 y27 = true) (y28 : Slot) (hy28 : one1 y28 = true) (w : Int32 × St) (hr : f_law_748 n sn sf k42 x1 x3 x4 x5 x6 x7 x8 x9 x11 x13 x14 x15 x16 x20 s = some w) : Ev (GG g) M_law 748 [.val (.ref 0), .val (.int x1), .val (.ref o), .val (.int x3), .val (.int x4), .val (.int x5), .val (.int x6), .val (.int x7), .val (.int x8), .val (.int x9), y10, .val (.int x11), y12, .val (.int x13), .val (.int x14), .val (.int x15), .val (.int x16), y17, y18, y19, .val (.int x20), y21, y22, y23, y24, y25, y26, y27, y28] [] (K s) ((some (.int w.1)), (K w.2)) := by
  unfold f_law_748 at hr
  refine Ev.iconst (z := 0) at_748 rfl ?_
  refine Ev.istD (L' := [.val (.ref 0), .val (.int x1), .val (.ref o), .val (.int x3), .val (.int x4), .val (.int x5), .val (.int x6), .val (.int x7), .val (.int x8), .val (.int x9), y10, .val (.int x11), y12, .val (.int x13), .val (.int x14), .val (.int x15), .val (.int x16), y17, y18, y19, .val (.int x20), y21, y22, .val (.int (0 : Int32)), y24, y25, y26, y27, y28]) at_749 rfl hy23 rfl ?_
  exact e_law_751 hw hs V hk42 n x1 x3 x4 x5 x6 x7 x8 x9 x11 x13 x14 x15 x16 x20 (0 : Int32) s y10 hy10 y12 hy12 y17 hy17 y18 hy18 y19 hy19 y21 hy21 y22 hy22 y24 hy24 y25 hy25 y26 hy26 y27 hy27 y28 hy28 _ hr
def f_law_701 (n : Nat) (sn : Nat) (sf : Nat → Int32) (k42 : Int32 → Int32 → Int32 → Int32 → Int32 → Int32 → Int32 → Int32 → St → Option (Int32 × St)) (x1 : Int32) (x3 : Int32) (x4 : Int32) (x5 : Int32) (x6 : Int32) (x7 : Int32) (x8 : Int32) (x9 : Int32) (x11 : Int32) (x13 : Int32) (x14 : Int32) (x15 : Int32) (x16 : Int32) (x20 : Int32) (x21 : Int32) (x22 : Int32) (s : St) : Option (Int32 × St) :=
  if x21 = 0 then
    f_law_748 n sn sf k42 x1 x22 x4 x5 x6 x7 x8 x9 x11 x13 x14 x15 x16 x20 s
  else
    if x21 = (1 : Int32) then
      f_law_748 n sn sf k42 x1 x3 x22 x5 x6 x7 x8 x9 x11 x13 x14 x15 x16 x20 s
    else
      if x21 = (2 : Int32) then
        f_law_748 n sn sf k42 x1 x3 x4 x22 x6 x7 x8 x9 x11 x13 x14 x15 x16 x20 s
      else
        if x21 = (3 : Int32) then
          f_law_748 n sn sf k42 x1 x3 x4 x5 x22 x7 x8 x9 x11 x13 x14 x15 x16 x20 s
        else
          f_law_748 n sn sf k42 x1 x3 x4 x5 x6 x7 x8 x9 x11 x13 x14 x15 x16 x20 s
set_option maxRecDepth 100000 in
theorem e_law_701 {g : GT} {n : Nat} {sn : Nat} {sf : Nat → Int32} (hw : HW g) {K : St → MHeap} {o : Nat} {r : Nat → Nat} (hs : ∀ s, (K s)[0]? = some (.inr (false, tab sn sf))) (V : View (GG g) Ln K o r) {k42 : Int32 → Int32 → Int32 → Int32 → Int32 → Int32 → Int32 → Int32 → St → Option (Int32 × St)} (hk42 : ∀ (x1 : Int32) (x3 : Int32) (x4 : Int32) (x5 : Int32) (x6 : Int32) (x7 : Int32) (x8 : Int32) (x9 : Int32) (s : St) (y10 : Slot) (hy10 : one1 y10 = true) (y11 : Slot) (hy11 : one1 y11 = true) (y12 : Slot) (hy12 : one1 y12 = true) (y13 : Slot) (hy13 : one1 y13 = true) (y14 : Slot) (hy14 : one1 y14 = true) (y15 : Slot) (hy15 : one1 y15 = true) (y16 : Slot) (hy16 : one1 y16 = true) (y17 : Slot) (hy17 : one1 y17 = true) (y18 : Slot) (hy18 : one1 y18 = true) (y19 : Slot) (hy19 : one1 y19 = true) (y20 : Slot) (hy20 : one1 y20 = true) (y21 : Slot) (hy21 : one1 y21 = true) (y22 : Slot) (hy22 : one1 y22 = true) (y23 : Slot) (hy23 : one1 y23 = true) (y24 : Slot) (hy24 : one1 y24 = true) (y25 : Slot) (hy25 : one1 y25 = true) (y26 : Slot) (hy26 : one1 y26 = true) (y27 : Slot) (hy27 : one1 y27 = true) (y28 : Slot) (hy28 : one1 y28 = true) (w : Int32 × St), k42 x1 x3 x4 x5 x6 x7 x8 x9 s = some w → Ev (GG g) M_law 42 [.val (.ref 0), .val (.int x1), .val (.ref o), .val (.int x3), .val (.int x4), .val (.int x5), .val (.int x6), .val (.int x7), .val (.int x8), .val (.int x9), y10, y11, y12, y13, y14, y15, y16, y17, y18, y19, y20, y21, y22, y23, y24, y25, y26, y27, y28] [] (K s) ((some (.int w.1)), (K w.2))) (x1 : Int32) (x3 : Int32) (x4 : Int32) (x5 : Int32) (x6 : Int32) (x7 : Int32) (x8 : Int32) (x9 : Int32) (x11 : Int32) (x13 : Int32) (x14 : Int32) (x15 : Int32) (x16 : Int32) (x20 : Int32) (x21 : Int32) (x22 : Int32) (s : St) (y10 : Slot) (hy10 : one1 y10 = true) (y12 : Slot) (hy12 : one1 y12 = true) (y17 : Slot) (hy17 : one1 y17 = true) (y18 : Slot) (hy18 : one1 y18 = true) (y19 : Slot) (hy19 : one1 y19 = true) (y23 : Slot) (hy23 : one1 y23 = true) (y24 : Slot) (hy24 : one1 y24 = true) (y25 : Slot) (hy25 : one1 y25 = true) (y26 : Slot) (hy26 : one1 y26 = true) (y27 : Slot) (hy27 : one1 y27 = true) (y28 : Slot) (hy28 : one1 y28 = true) (w : Int32 × St) (hr : f_law_701 n sn sf k42 x1 x3 x4 x5 x6 x7 x8 x9 x11 x13 x14 x15 x16 x20 x21 x22 s = some w) : Ev (GG g) M_law 701 [.val (.ref 0), .val (.int x1), .val (.ref o), .val (.int x3), .val (.int x4), .val (.int x5), .val (.int x6), .val (.int x7), .val (.int x8), .val (.int x9), y10, .val (.int x11), y12, .val (.int x13), .val (.int x14), .val (.int x15), .val (.int x16), y17, y18, y19, .val (.int x20), .val (.int x21), .val (.int x22), y23, y24, y25, y26, y27, y28] [] (K s) ((some (.int w.1)), (K w.2)) := by
  unfold f_law_701 at hr
  refine Ev.iload at_701 rfl ?_
  refine Ev.ifne (t := 712) at_703 rfl (fun c1 => ?_) (fun c1 => ?_)
  · replace hr := (if_pos c1).symm.trans hr
    refine Ev.iload at_706 rfl ?_
    refine Ev.istDN (L' := [.val (.ref 0), .val (.int x1), .val (.ref o), .val (.int x22), .val (.int x4), .val (.int x5), .val (.int x6), .val (.int x7), .val (.int x8), .val (.int x9), y10, .val (.int x11), y12, .val (.int x13), .val (.int x14), .val (.int x15), .val (.int x16), y17, y18, y19, .val (.int x20), .val (.int x21), .val (.int x22), y23, y24, y25, y26, y27, y28]) at_708 rfl rfl rfl ?_
    refine Ev.goto (t := 748) at_709 rfl ?_
    exact e_law_748 hw hs V hk42 x1 x22 x4 x5 x6 x7 x8 x9 x11 x13 x14 x15 x16 x20 s y10 hy10 y12 hy12 y17 hy17 y18 hy18 y19 hy19 (.val (.int x21)) rfl (.val (.int x22)) rfl y23 hy23 y24 hy24 y25 hy25 y26 hy26 y27 hy27 y28 hy28 _ hr
  · replace hr := (if_neg c1).symm.trans hr
    refine Ev.iload at_712 rfl ?_
    refine Ev.iconst (z := 1) at_714 rfl ?_
    refine Ev.icne (t := 725) at_715 rfl (fun c2 => ?_) (fun c2 => ?_)
    · replace hr := (if_pos c2).symm.trans hr
      refine Ev.iload at_718 rfl ?_
      refine Ev.istD (L' := [.val (.ref 0), .val (.int x1), .val (.ref o), .val (.int x3), .val (.int x22), .val (.int x5), .val (.int x6), .val (.int x7), .val (.int x8), .val (.int x9), y10, .val (.int x11), y12, .val (.int x13), .val (.int x14), .val (.int x15), .val (.int x16), y17, y18, y19, .val (.int x20), .val (.int x21), .val (.int x22), y23, y24, y25, y26, y27, y28]) at_720 rfl rfl rfl ?_
      refine Ev.goto (t := 748) at_722 rfl ?_
      exact e_law_748 hw hs V hk42 x1 x3 x22 x5 x6 x7 x8 x9 x11 x13 x14 x15 x16 x20 s y10 hy10 y12 hy12 y17 hy17 y18 hy18 y19 hy19 (.val (.int x21)) rfl (.val (.int x22)) rfl y23 hy23 y24 hy24 y25 hy25 y26 hy26 y27 hy27 y28 hy28 _ hr
    · replace hr := (if_neg c2).symm.trans hr
      refine Ev.iload at_725 rfl ?_
      refine Ev.iconst (z := 2) at_727 rfl ?_
      refine Ev.icne (t := 738) at_728 rfl (fun c3 => ?_) (fun c3 => ?_)
      · replace hr := (if_pos c3).symm.trans hr
        refine Ev.iload at_731 rfl ?_
        refine Ev.istD (L' := [.val (.ref 0), .val (.int x1), .val (.ref o), .val (.int x3), .val (.int x4), .val (.int x22), .val (.int x6), .val (.int x7), .val (.int x8), .val (.int x9), y10, .val (.int x11), y12, .val (.int x13), .val (.int x14), .val (.int x15), .val (.int x16), y17, y18, y19, .val (.int x20), .val (.int x21), .val (.int x22), y23, y24, y25, y26, y27, y28]) at_733 rfl rfl rfl ?_
        refine Ev.goto (t := 748) at_735 rfl ?_
        exact e_law_748 hw hs V hk42 x1 x3 x4 x22 x6 x7 x8 x9 x11 x13 x14 x15 x16 x20 s y10 hy10 y12 hy12 y17 hy17 y18 hy18 y19 hy19 (.val (.int x21)) rfl (.val (.int x22)) rfl y23 hy23 y24 hy24 y25 hy25 y26 hy26 y27 hy27 y28 hy28 _ hr
      · replace hr := (if_neg c3).symm.trans hr
        refine Ev.iload at_738 rfl ?_
        refine Ev.iconst (z := 3) at_740 rfl ?_
        refine Ev.icne (t := 748) at_741 rfl (fun c4 => ?_) (fun c4 => ?_)
        · replace hr := (if_pos c4).symm.trans hr
          refine Ev.iload at_744 rfl ?_
          refine Ev.istD (L' := [.val (.ref 0), .val (.int x1), .val (.ref o), .val (.int x3), .val (.int x4), .val (.int x5), .val (.int x22), .val (.int x7), .val (.int x8), .val (.int x9), y10, .val (.int x11), y12, .val (.int x13), .val (.int x14), .val (.int x15), .val (.int x16), y17, y18, y19, .val (.int x20), .val (.int x21), .val (.int x22), y23, y24, y25, y26, y27, y28]) at_746 rfl rfl rfl ?_
          exact e_law_748 hw hs V hk42 x1 x3 x4 x5 x22 x7 x8 x9 x11 x13 x14 x15 x16 x20 s y10 hy10 y12 hy12 y17 hy17 y18 hy18 y19 hy19 (.val (.int x21)) rfl (.val (.int x22)) rfl y23 hy23 y24 hy24 y25 hy25 y26 hy26 y27 hy27 y28 hy28 _ hr
        · replace hr := (if_neg c4).symm.trans hr
          exact e_law_748 hw hs V hk42 x1 x3 x4 x5 x6 x7 x8 x9 x11 x13 x14 x15 x16 x20 s y10 hy10 y12 hy12 y17 hy17 y18 hy18 y19 hy19 (.val (.int x21)) rfl (.val (.int x22)) rfl y23 hy23 y24 hy24 y25 hy25 y26 hy26 y27 hy27 y28 hy28 _ hr
def f_law_310 (n : Nat) (sn : Nat) (sf : Nat → Int32) (k42 : Int32 → Int32 → Int32 → Int32 → Int32 → Int32 → Int32 → Int32 → St → Option (Int32 × St)) : Nat → Int32 → Int32 → Int32 → Int32 → Int32 → Int32 → Int32 → Int32 → Int32 → Int32 → Int32 → Int32 → Int32 → Int32 → Int32 → Int32 → St → Option (Int32 × St)
  | 0 => fun _ _ _ _ _ _ _ _ _ _ _ _ _ _ _ _ _ => none
  | k + 1 => fun x1 x3 x4 x5 x6 x7 x8 x9 x11 x13 x14 x15 x16 x19 x20 x23 s =>
    if x23 < x19 then
      (f_hmix x8 x23).bind fun q2 =>
      (f_write x11 x23 q2 s).bind fun q4 =>
      if q4.1 = 0 then
        f_law_310 n sn sf k42 k x1 x3 x4 x5 x6 x7 x8 x9 x11 x13 x14 x15 x16 x19 x20 (x23 + (1 : Int32)) q4.2
      else
        some ((0 : Int32), q4.2)
    else
      f_law_701 n sn sf k42 x1 x3 x4 x5 x6 (x7 + x19) x8 x9 x11 x13 x14 x15 x16 x20 x11 ((x8 <<< ((9 : Int32) &&& 31)) ||| x19) s
set_option maxRecDepth 100000 in
theorem e_law_310 {g : GT} {n : Nat} {sn : Nat} {sf : Nat → Int32} (hw : HW g) {K : St → MHeap} {o : Nat} {r : Nat → Nat} (hs : ∀ s, (K s)[0]? = some (.inr (false, tab sn sf))) (V : View (GG g) Ln K o r) {k42 : Int32 → Int32 → Int32 → Int32 → Int32 → Int32 → Int32 → Int32 → St → Option (Int32 × St)} (hk42 : ∀ (x1 : Int32) (x3 : Int32) (x4 : Int32) (x5 : Int32) (x6 : Int32) (x7 : Int32) (x8 : Int32) (x9 : Int32) (s : St) (y10 : Slot) (hy10 : one1 y10 = true) (y11 : Slot) (hy11 : one1 y11 = true) (y12 : Slot) (hy12 : one1 y12 = true) (y13 : Slot) (hy13 : one1 y13 = true) (y14 : Slot) (hy14 : one1 y14 = true) (y15 : Slot) (hy15 : one1 y15 = true) (y16 : Slot) (hy16 : one1 y16 = true) (y17 : Slot) (hy17 : one1 y17 = true) (y18 : Slot) (hy18 : one1 y18 = true) (y19 : Slot) (hy19 : one1 y19 = true) (y20 : Slot) (hy20 : one1 y20 = true) (y21 : Slot) (hy21 : one1 y21 = true) (y22 : Slot) (hy22 : one1 y22 = true) (y23 : Slot) (hy23 : one1 y23 = true) (y24 : Slot) (hy24 : one1 y24 = true) (y25 : Slot) (hy25 : one1 y25 = true) (y26 : Slot) (hy26 : one1 y26 = true) (y27 : Slot) (hy27 : one1 y27 = true) (y28 : Slot) (hy28 : one1 y28 = true) (w : Int32 × St), k42 x1 x3 x4 x5 x6 x7 x8 x9 s = some w → Ev (GG g) M_law 42 [.val (.ref 0), .val (.int x1), .val (.ref o), .val (.int x3), .val (.int x4), .val (.int x5), .val (.int x6), .val (.int x7), .val (.int x8), .val (.int x9), y10, y11, y12, y13, y14, y15, y16, y17, y18, y19, y20, y21, y22, y23, y24, y25, y26, y27, y28] [] (K s) ((some (.int w.1)), (K w.2))) (k : Nat) : ∀ (x1 : Int32) (x3 : Int32) (x4 : Int32) (x5 : Int32) (x6 : Int32) (x7 : Int32) (x8 : Int32) (x9 : Int32) (x11 : Int32) (x13 : Int32) (x14 : Int32) (x15 : Int32) (x16 : Int32) (x19 : Int32) (x20 : Int32) (x23 : Int32) (s : St) (y10 : Slot) (hy10 : one1 y10 = true) (y12 : Slot) (hy12 : one1 y12 = true) (y17 : Slot) (hy17 : one1 y17 = true) (y18 : Slot) (hy18 : one1 y18 = true) (y21 : Slot) (hy21 : one1 y21 = true) (y22 : Slot) (hy22 : one1 y22 = true) (y24 : Slot) (hy24 : one1 y24 = true) (y25 : Slot) (hy25 : one1 y25 = true) (y26 : Slot) (hy26 : one1 y26 = true) (y27 : Slot) (hy27 : one1 y27 = true) (y28 : Slot) (hy28 : one1 y28 = true) (w : Int32 × St), f_law_310 n sn sf k42 k x1 x3 x4 x5 x6 x7 x8 x9 x11 x13 x14 x15 x16 x19 x20 x23 s = some w → Ev (GG g) M_law 310 [.val (.ref 0), .val (.int x1), .val (.ref o), .val (.int x3), .val (.int x4), .val (.int x5), .val (.int x6), .val (.int x7), .val (.int x8), .val (.int x9), y10, .val (.int x11), y12, .val (.int x13), .val (.int x14), .val (.int x15), .val (.int x16), y17, y18, .val (.int x19), .val (.int x20), y21, y22, .val (.int x23), y24, y25, y26, y27, y28] [] (K s) ((some (.int w.1)), (K w.2)) := by
  induction k with
  | zero => intro x1 x3 x4 x5 x6 x7 x8 x9 x11 x13 x14 x15 x16 x19 x20 x23 s y10 hy10 y12 hy12 y17 hy17 y18 hy18 y21 hy21 y22 hy22 y24 hy24 y25 hy25 y26 hy26 y27 hy27 y28 hy28 w hr; rw [f_law_310] at hr; cases hr
  | succ k ih =>
    intro x1 x3 x4 x5 x6 x7 x8 x9 x11 x13 x14 x15 x16 x19 x20 x23 s y10 hy10 y12 hy12 y17 hy17 y18 hy18 y21 hy21 y22 hy22 y24 hy24 y25 hy25 y26 hy26 y27 hy27 y28 hy28 w hr
    rw [f_law_310] at hr
    refine Ev.iload at_310 rfl ?_
    refine Ev.iload at_312 rfl ?_
    refine Ev.icge (t := 343) at_314 rfl (fun c1 => ?_) (fun c1 => ?_)
    · replace hr := (if_pos c1).symm.trans hr
      refine Ev.aloadN at_317 rfl ?_
      refine Ev.iload at_318 rfl ?_
      refine Ev.iload at_320 rfl ?_
      refine Ev.iload at_322 rfl ?_
      refine Ev.iload at_324 rfl ?_
      obtain ⟨q2, hq3, hr⟩ := Option.bind_eq_some_iff.mp hr
      refine Ev.stat (y := M_hmix) (args := [.int x8, .int x23]) (rest := [.int x23, .int x11, .ref o]) nm_hmix (ww hw 120 rfl) (ww hw 121 rfl) (ww hw 2 rfl) (ww hw 122 rfl) (lenOf pd_hmix rfl) at_326 (e_hmix hw hq3) (by decide) (Nat.le_of_ble_eq_true rfl) rfl ?_
      obtain ⟨q4, hq5, hr⟩ := Option.bind_eq_some_iff.mp hr
      refine Ev.virt (y := M_write) (args := [.int x11, .int x23, .int q2]) (rest := []) (gok hw) rfl nm_write (ww hw 124 rfl) (ww hw 125 rfl) (ww hw 126 rfl) (ww hw 127 rfl) (ww hw 128 rfl) (lenOf pd_write rfl) at_329 (V.2.1 s) (e_write hw V hq5) (by decide) (Nat.le_of_ble_eq_true rfl) rfl ?_
      refine Ev.ifeq (t := 337) at_332 rfl (fun c6 => ?_) (fun c6 => ?_)
      · replace hr := (if_pos c6).symm.trans hr
        refine Ev.iinc (z := 1) (L' := [.val (.ref 0), .val (.int x1), .val (.ref o), .val (.int x3), .val (.int x4), .val (.int x5), .val (.int x6), .val (.int x7), .val (.int x8), .val (.int x9), y10, .val (.int x11), y12, .val (.int x13), .val (.int x14), .val (.int x15), .val (.int x16), y17, y18, .val (.int x19), .val (.int x20), y21, y22, .val (.int (x23 + (1 : Int32))), y24, y25, y26, y27, y28]) at_337 rfl rfl rfl ?_
        refine Ev.goto (t := 310) at_340 rfl ?_
        exact ih x1 x3 x4 x5 x6 x7 x8 x9 x11 x13 x14 x15 x16 x19 x20 (x23 + (1 : Int32)) q4.2 y10 hy10 y12 hy12 y17 hy17 y18 hy18 y21 hy21 y22 hy22 y24 hy24 y25 hy25 y26 hy26 y27 hy27 y28 hy28 _ hr
      · replace hr := (if_neg c6).symm.trans hr
        refine Ev.iconst (z := 0) at_335 rfl ?_
        cases hr
        exact Ev.zret0 rfl at_336
    · replace hr := (if_neg c1).symm.trans hr
      refine Ev.iload at_343 rfl ?_
      refine Ev.iload at_345 rfl ?_
      refine Ev.iadd at_347 ?_
      refine Ev.istD (L' := [.val (.ref 0), .val (.int x1), .val (.ref o), .val (.int x3), .val (.int x4), .val (.int x5), .val (.int x6), .val (.int (x7 + x19)), .val (.int x8), .val (.int x9), y10, .val (.int x11), y12, .val (.int x13), .val (.int x14), .val (.int x15), .val (.int x16), y17, y18, .val (.int x19), .val (.int x20), y21, y22, .val (.int x23), y24, y25, y26, y27, y28]) at_348 rfl rfl rfl ?_
      refine Ev.iload at_350 rfl ?_
      refine Ev.istD (L' := [.val (.ref 0), .val (.int x1), .val (.ref o), .val (.int x3), .val (.int x4), .val (.int x5), .val (.int x6), .val (.int (x7 + x19)), .val (.int x8), .val (.int x9), y10, .val (.int x11), y12, .val (.int x13), .val (.int x14), .val (.int x15), .val (.int x16), y17, y18, .val (.int x19), .val (.int x20), .val (.int x11), y22, .val (.int x23), y24, y25, y26, y27, y28]) at_352 rfl hy21 rfl ?_
      refine Ev.iload at_354 rfl ?_
      refine Ev.bipush (z := 9) at_356 rfl ?_
      refine Ev.ishl at_358 ?_
      refine Ev.iload at_359 rfl ?_
      refine Ev.ior at_361 ?_
      refine Ev.istD (L' := [.val (.ref 0), .val (.int x1), .val (.ref o), .val (.int x3), .val (.int x4), .val (.int x5), .val (.int x6), .val (.int (x7 + x19)), .val (.int x8), .val (.int x9), y10, .val (.int x11), y12, .val (.int x13), .val (.int x14), .val (.int x15), .val (.int x16), y17, y18, .val (.int x19), .val (.int x20), .val (.int x11), .val (.int ((x8 <<< ((9 : Int32) &&& 31)) ||| x19)), .val (.int x23), y24, y25, y26, y27, y28]) at_362 rfl hy22 rfl ?_
      refine Ev.goto (t := 701) at_364 rfl ?_
      exact e_law_701 hw hs V hk42 x1 x3 x4 x5 x6 (x7 + x19) x8 x9 x11 x13 x14 x15 x16 x20 x11 ((x8 <<< ((9 : Int32) &&& 31)) ||| x19) s y10 hy10 y12 hy12 y17 hy17 y18 hy18 (.val (.int x19)) rfl (.val (.int x23)) rfl y24 hy24 y25 hy25 y26 hy26 y27 hy27 y28 hy28 _ hr
def f_law_484 (n : Nat) (sn : Nat) (sf : Nat → Int32) (k42 : Int32 → Int32 → Int32 → Int32 → Int32 → Int32 → Int32 → Int32 → St → Option (Int32 × St)) (x1 : Int32) (x3 : Int32) (x4 : Int32) (x5 : Int32) (x6 : Int32) (x7 : Int32) (x8 : Int32) (x9 : Int32) (x11 : Int32) (x13 : Int32) (x14 : Int32) (x15 : Int32) (x16 : Int32) (x17 : Int32) (x20 : Int32) (x25 : Int32) (s : St) : Option (Int32 × St) :=
  f_law_701 n sn sf k42 x1 x3 x4 x5 x6 x7 x8 x9 x11 x13 x14 x15 x16 x20 x11 ((x17 &&& (-512 : Int32)) ||| x25) s
set_option maxRecDepth 100000 in
theorem e_law_484 {g : GT} {n : Nat} {sn : Nat} {sf : Nat → Int32} (hw : HW g) {K : St → MHeap} {o : Nat} {r : Nat → Nat} (hs : ∀ s, (K s)[0]? = some (.inr (false, tab sn sf))) (V : View (GG g) Ln K o r) {k42 : Int32 → Int32 → Int32 → Int32 → Int32 → Int32 → Int32 → Int32 → St → Option (Int32 × St)} (hk42 : ∀ (x1 : Int32) (x3 : Int32) (x4 : Int32) (x5 : Int32) (x6 : Int32) (x7 : Int32) (x8 : Int32) (x9 : Int32) (s : St) (y10 : Slot) (hy10 : one1 y10 = true) (y11 : Slot) (hy11 : one1 y11 = true) (y12 : Slot) (hy12 : one1 y12 = true) (y13 : Slot) (hy13 : one1 y13 = true) (y14 : Slot) (hy14 : one1 y14 = true) (y15 : Slot) (hy15 : one1 y15 = true) (y16 : Slot) (hy16 : one1 y16 = true) (y17 : Slot) (hy17 : one1 y17 = true) (y18 : Slot) (hy18 : one1 y18 = true) (y19 : Slot) (hy19 : one1 y19 = true) (y20 : Slot) (hy20 : one1 y20 = true) (y21 : Slot) (hy21 : one1 y21 = true) (y22 : Slot) (hy22 : one1 y22 = true) (y23 : Slot) (hy23 : one1 y23 = true) (y24 : Slot) (hy24 : one1 y24 = true) (y25 : Slot) (hy25 : one1 y25 = true) (y26 : Slot) (hy26 : one1 y26 = true) (y27 : Slot) (hy27 : one1 y27 = true) (y28 : Slot) (hy28 : one1 y28 = true) (w : Int32 × St), k42 x1 x3 x4 x5 x6 x7 x8 x9 s = some w → Ev (GG g) M_law 42 [.val (.ref 0), .val (.int x1), .val (.ref o), .val (.int x3), .val (.int x4), .val (.int x5), .val (.int x6), .val (.int x7), .val (.int x8), .val (.int x9), y10, y11, y12, y13, y14, y15, y16, y17, y18, y19, y20, y21, y22, y23, y24, y25, y26, y27, y28] [] (K s) ((some (.int w.1)), (K w.2))) (x1 : Int32) (x3 : Int32) (x4 : Int32) (x5 : Int32) (x6 : Int32) (x7 : Int32) (x8 : Int32) (x9 : Int32) (x11 : Int32) (x13 : Int32) (x14 : Int32) (x15 : Int32) (x16 : Int32) (x17 : Int32) (x20 : Int32) (x25 : Int32) (s : St) (y10 : Slot) (hy10 : one1 y10 = true) (y12 : Slot) (hy12 : one1 y12 = true) (y18 : Slot) (hy18 : one1 y18 = true) (y19 : Slot) (hy19 : one1 y19 = true) (y21 : Slot) (hy21 : one1 y21 = true) (y22 : Slot) (hy22 : one1 y22 = true) (y23 : Slot) (hy23 : one1 y23 = true) (y24 : Slot) (hy24 : one1 y24 = true) (y26 : Slot) (hy26 : one1 y26 = true) (y27 : Slot) (hy27 : one1 y27 = true) (y28 : Slot) (hy28 : one1 y28 = true) (w : Int32 × St) (hr : f_law_484 n sn sf k42 x1 x3 x4 x5 x6 x7 x8 x9 x11 x13 x14 x15 x16 x17 x20 x25 s = some w) : Ev (GG g) M_law 484 [.val (.ref 0), .val (.int x1), .val (.ref o), .val (.int x3), .val (.int x4), .val (.int x5), .val (.int x6), .val (.int x7), .val (.int x8), .val (.int x9), y10, .val (.int x11), y12, .val (.int x13), .val (.int x14), .val (.int x15), .val (.int x16), .val (.int x17), y18, y19, .val (.int x20), y21, y22, y23, y24, .val (.int x25), y26, y27, y28] [] (K s) ((some (.int w.1)), (K w.2)) := by
  unfold f_law_484 at hr
  refine Ev.iload at_484 rfl ?_
  refine Ev.istD (L' := [.val (.ref 0), .val (.int x1), .val (.ref o), .val (.int x3), .val (.int x4), .val (.int x5), .val (.int x6), .val (.int x7), .val (.int x8), .val (.int x9), y10, .val (.int x11), y12, .val (.int x13), .val (.int x14), .val (.int x15), .val (.int x16), .val (.int x17), y18, y19, .val (.int x20), .val (.int x11), y22, y23, y24, .val (.int x25), y26, y27, y28]) at_486 rfl hy21 rfl ?_
  refine Ev.iload at_488 rfl ?_
  refine Ev.sipush (z := -512) at_490 rfl ?_
  refine Ev.iand at_493 ?_
  refine Ev.iload at_494 rfl ?_
  refine Ev.ior at_496 ?_
  refine Ev.istD (L' := [.val (.ref 0), .val (.int x1), .val (.ref o), .val (.int x3), .val (.int x4), .val (.int x5), .val (.int x6), .val (.int x7), .val (.int x8), .val (.int x9), y10, .val (.int x11), y12, .val (.int x13), .val (.int x14), .val (.int x15), .val (.int x16), .val (.int x17), y18, y19, .val (.int x20), .val (.int x11), .val (.int ((x17 &&& (-512 : Int32)) ||| x25)), y23, y24, .val (.int x25), y26, y27, y28]) at_497 rfl hy22 rfl ?_
  refine Ev.goto (t := 701) at_499 rfl ?_
  exact e_law_701 hw hs V hk42 x1 x3 x4 x5 x6 x7 x8 x9 x11 x13 x14 x15 x16 x20 x11 ((x17 &&& (-512 : Int32)) ||| x25) s y10 hy10 y12 hy12 (.val (.int x17)) rfl y18 hy18 y19 hy19 y23 hy23 y24 hy24 (.val (.int x25)) rfl y26 hy26 y27 hy27 y28 hy28 _ hr
def f_law_615 (n : Nat) (sn : Nat) (sf : Nat → Int32) (k42 : Int32 → Int32 → Int32 → Int32 → Int32 → Int32 → Int32 → Int32 → St → Option (Int32 × St)) (x1 : Int32) (x3 : Int32) (x4 : Int32) (x5 : Int32) (x6 : Int32) (x7 : Int32) (x8 : Int32) (x9 : Int32) (x11 : Int32) (x13 : Int32) (x14 : Int32) (x15 : Int32) (x16 : Int32) (x20 : Int32) (x21 : Int32) (x22 : Int32) (z0 : Int32) (z1 : Int32) (s : St) : Option (Int32 × St) :=
  (f_setPurgeable z1 z0 s).bind fun q1 =>
  f_law_701 n sn sf k42 x1 x3 x4 x5 x6 x7 x8 x9 x11 x13 x14 x15 x16 x20 x21 x22 q1.2
set_option maxRecDepth 100000 in
theorem e_law_615 {g : GT} {n : Nat} {sn : Nat} {sf : Nat → Int32} (hw : HW g) {K : St → MHeap} {o : Nat} {r : Nat → Nat} (hs : ∀ s, (K s)[0]? = some (.inr (false, tab sn sf))) (V : View (GG g) Ln K o r) {k42 : Int32 → Int32 → Int32 → Int32 → Int32 → Int32 → Int32 → Int32 → St → Option (Int32 × St)} (hk42 : ∀ (x1 : Int32) (x3 : Int32) (x4 : Int32) (x5 : Int32) (x6 : Int32) (x7 : Int32) (x8 : Int32) (x9 : Int32) (s : St) (y10 : Slot) (hy10 : one1 y10 = true) (y11 : Slot) (hy11 : one1 y11 = true) (y12 : Slot) (hy12 : one1 y12 = true) (y13 : Slot) (hy13 : one1 y13 = true) (y14 : Slot) (hy14 : one1 y14 = true) (y15 : Slot) (hy15 : one1 y15 = true) (y16 : Slot) (hy16 : one1 y16 = true) (y17 : Slot) (hy17 : one1 y17 = true) (y18 : Slot) (hy18 : one1 y18 = true) (y19 : Slot) (hy19 : one1 y19 = true) (y20 : Slot) (hy20 : one1 y20 = true) (y21 : Slot) (hy21 : one1 y21 = true) (y22 : Slot) (hy22 : one1 y22 = true) (y23 : Slot) (hy23 : one1 y23 = true) (y24 : Slot) (hy24 : one1 y24 = true) (y25 : Slot) (hy25 : one1 y25 = true) (y26 : Slot) (hy26 : one1 y26 = true) (y27 : Slot) (hy27 : one1 y27 = true) (y28 : Slot) (hy28 : one1 y28 = true) (w : Int32 × St), k42 x1 x3 x4 x5 x6 x7 x8 x9 s = some w → Ev (GG g) M_law 42 [.val (.ref 0), .val (.int x1), .val (.ref o), .val (.int x3), .val (.int x4), .val (.int x5), .val (.int x6), .val (.int x7), .val (.int x8), .val (.int x9), y10, y11, y12, y13, y14, y15, y16, y17, y18, y19, y20, y21, y22, y23, y24, y25, y26, y27, y28] [] (K s) ((some (.int w.1)), (K w.2))) (x1 : Int32) (x3 : Int32) (x4 : Int32) (x5 : Int32) (x6 : Int32) (x7 : Int32) (x8 : Int32) (x9 : Int32) (x11 : Int32) (x13 : Int32) (x14 : Int32) (x15 : Int32) (x16 : Int32) (x20 : Int32) (x21 : Int32) (x22 : Int32) (z0 : Int32) (z1 : Int32) (s : St) (y10 : Slot) (hy10 : one1 y10 = true) (y12 : Slot) (hy12 : one1 y12 = true) (y17 : Slot) (hy17 : one1 y17 = true) (y18 : Slot) (hy18 : one1 y18 = true) (y19 : Slot) (hy19 : one1 y19 = true) (y23 : Slot) (hy23 : one1 y23 = true) (y24 : Slot) (hy24 : one1 y24 = true) (y25 : Slot) (hy25 : one1 y25 = true) (y26 : Slot) (hy26 : one1 y26 = true) (y27 : Slot) (hy27 : one1 y27 = true) (y28 : Slot) (hy28 : one1 y28 = true) (w : Int32 × St) (hr : f_law_615 n sn sf k42 x1 x3 x4 x5 x6 x7 x8 x9 x11 x13 x14 x15 x16 x20 x21 x22 z0 z1 s = some w) : Ev (GG g) M_law 615 [.val (.ref 0), .val (.int x1), .val (.ref o), .val (.int x3), .val (.int x4), .val (.int x5), .val (.int x6), .val (.int x7), .val (.int x8), .val (.int x9), y10, .val (.int x11), y12, .val (.int x13), .val (.int x14), .val (.int x15), .val (.int x16), y17, y18, y19, .val (.int x20), .val (.int x21), .val (.int x22), y23, y24, y25, y26, y27, y28] [.int z0, .int z1, .ref o] (K s) ((some (.int w.1)), (K w.2)) := by
  unfold f_law_615 at hr
  obtain ⟨q1, hq2, hr⟩ := Option.bind_eq_some_iff.mp hr
  refine Ev.virt (y := M_setPurgeable) (args := [.int z1, .int z0]) (rest := []) (gok hw) rfl nm_setPurgeable (ww hw 149 rfl) (ww hw 150 rfl) (ww hw 151 rfl) (ww hw 152 rfl) (ww hw 153 rfl) (lenOf pd_setPurgeable rfl) at_615 (V.2.1 s) (e_setPurgeable hw V hq2) (by decide) (Nat.le_of_ble_eq_true rfl) rfl ?_
  refine Ev.pop at_618 rfl ?_
  refine Ev.goto (t := 701) at_619 rfl ?_
  exact e_law_701 hw hs V hk42 x1 x3 x4 x5 x6 x7 x8 x9 x11 x13 x14 x15 x16 x20 x21 x22 q1.2 y10 hy10 y12 hy12 y17 hy17 y18 hy18 y19 hy19 y23 hy23 y24 hy24 y25 hy25 y26 hy26 y27 hy27 y28 hy28 _ hr
def f_law_225 (n : Nat) (sn : Nat) (sf : Nat → Int32) (k42 : Int32 → Int32 → Int32 → Int32 → Int32 → Int32 → Int32 → Int32 → St → Option (Int32 × St)) (x1 : Int32) (x3 : Int32) (x4 : Int32) (x5 : Int32) (x6 : Int32) (x7 : Int32) (x8 : Int32) (x9 : Int32) (x10 : Int32) (x11 : Int32) (x12 : Int32) (x13 : Int32) (x14 : Int32) (x15 : Int32) (x16 : Int32) (x17 : Int32) (z0 : Int32) (s : St) : Option (Int32 × St) :=
  (f_getSize s x11).bind fun q1 =>
  if x10 = 0 then
    (f_newHandle n ((1 : Int32) + (x12 &&& (15 : Int32))) s).bind fun q4 =>
    if q4.1 < 0 then
      f_law_701 n sn sf k42 x1 x3 x4 x5 x6 (x7 + (1 : Int32)) x8 x9 x11 x13 x14 x15 x16 (0 : Int32) (-1 : Int32) (0 : Int32) q4.2
    else
      if q4.1 < (4 : Int32) then
        f_law_701 n sn sf k42 x1 x3 x4 x5 x6 (x7 + (1 : Int32)) (x8 + (1 : Int32)) x9 x11 x13 x14 x15 x16 (0 : Int32) q4.1 ((x8 + (1 : Int32)) <<< ((9 : Int32) &&& 31)) q4.2
      else
        f_law_701 n sn sf k42 x1 x3 x4 x5 x6 (x7 + (1 : Int32)) x8 x9 x11 x13 x14 x15 x16 (0 : Int32) (-1 : Int32) (0 : Int32) q4.2
  else
    if x10 = (1 : Int32) then
      if z0 = 0 then
        f_law_701 n sn sf k42 x1 x3 x4 x5 x6 x7 x8 x9 x11 x13 x14 x15 x16 (0 : Int32) (-1 : Int32) (0 : Int32) s
      else
        f_law_310 n sn sf k42 n x1 x3 x4 x5 x6 x7 (x8 + (1 : Int32)) x9 x11 x13 x14 x15 x16 q1 (0 : Int32) (0 : Int32) s
    else
      if x10 = (2 : Int32) then
        if z0 = 0 then
          f_law_701 n sn sf k42 x1 x3 x4 x5 x6 x7 x8 x9 x11 x13 x14 x15 x16 (0 : Int32) (-1 : Int32) (0 : Int32) s
        else
          if (x17 &&& (511 : Int32)) < q1 then
            (f_hmix (x17 >>> ((9 : Int32) &&& 31)) (x17 &&& (511 : Int32))).bind fun q13 =>
            (f_write x11 (x17 &&& (511 : Int32)) q13 s).bind fun q15 =>
            if q15.1 = 0 then
              f_law_701 n sn sf k42 x1 x3 x4 x5 x6 (x7 + (1 : Int32)) x8 x9 x11 x13 x14 x15 x16 (0 : Int32) x11 (x17 + (1 : Int32)) q15.2
            else
              some ((0 : Int32), q15.2)
          else
            f_law_701 n sn sf k42 x1 x3 x4 x5 x6 x7 x8 x9 x11 x13 x14 x15 x16 (0 : Int32) (-1 : Int32) (0 : Int32) s
      else
        if x10 = (3 : Int32) then
          (f_setSize n x11 ((1 : Int32) + (x12 &&& (15 : Int32))) s).bind fun q19 =>
          if q19.1 = 0 then
            if ((1 : Int32) + (x12 &&& (15 : Int32))) < (x17 &&& (511 : Int32)) then
              f_law_484 n sn sf k42 x1 x3 x4 x5 x6 (x7 + (1 : Int32)) x8 x9 x11 x13 x14 x15 x16 x17 (0 : Int32) ((1 : Int32) + (x12 &&& (15 : Int32))) q19.2
            else
              f_law_484 n sn sf k42 x1 x3 x4 x5 x6 (x7 + (1 : Int32)) x8 x9 x11 x13 x14 x15 x16 x17 (0 : Int32) (x17 &&& (511 : Int32)) q19.2
          else
            f_law_701 n sn sf k42 x1 x3 x4 x5 x6 (x7 + (1 : Int32)) x8 x9 x11 x13 x14 x15 x16 (0 : Int32) (-1 : Int32) (0 : Int32) q19.2
        else
          if x10 = (4 : Int32) then
            if z0 = 0 then
              f_law_701 n sn sf k42 x1 x3 x4 x5 x6 x7 x8 x9 x11 x13 x14 x15 x16 (0 : Int32) (-1 : Int32) (0 : Int32) s
            else
              if 0 < q1 then
                grd (q1 ≠ 0) <|
                (f_read x11 (x12 % q1) s).bind fun q27 =>
                (f_hexpect x17 (x12 % q1)).bind fun q29 =>
                if q27.1 = q29 then
                  f_law_701 n sn sf k42 x1 x3 x4 x5 x6 (x7 + (1 : Int32)) x8 x9 x11 x13 x14 x15 x16 (0 : Int32) (-1 : Int32) (0 : Int32) q27.2
                else
                  some ((0 : Int32), q27.2)
              else
                f_law_701 n sn sf k42 x1 x3 x4 x5 x6 x7 x8 x9 x11 x13 x14 x15 x16 (0 : Int32) (-1 : Int32) (0 : Int32) s
          else
            if x10 = (5 : Int32) then
              if (x12 &&& (1 : Int32)) = 0 then
                (f_lock x11 s).bind fun q34 =>
                f_law_701 n sn sf k42 x1 x3 x4 x5 x6 x7 x8 x9 x11 x13 x14 x15 x16 (0 : Int32) (-1 : Int32) (0 : Int32) q34.2
              else
                (f_unlock x11 s).bind fun q36 =>
                if q36.1 = 0 then
                  f_law_701 n sn sf k42 x1 x3 x4 x5 x6 x7 x8 x9 x11 x13 x14 x15 x16 (1 : Int32) (-1 : Int32) (0 : Int32) q36.2
                else
                  f_law_701 n sn sf k42 x1 x3 x4 x5 x6 x7 x8 x9 x11 x13 x14 x15 x16 (0 : Int32) (-1 : Int32) (0 : Int32) q36.2
            else
              if x10 = (6 : Int32) then
                if (x12 &&& (3 : Int32)) = 0 then
                  f_law_615 n sn sf k42 x1 x3 x4 x5 x6 x7 x8 x9 x11 x13 x14 x15 x16 (0 : Int32) (-1 : Int32) (0 : Int32) (0 : Int32) x11 s
                else
                  f_law_615 n sn sf k42 x1 x3 x4 x5 x6 x7 x8 x9 x11 x13 x14 x15 x16 (0 : Int32) (-1 : Int32) (0 : Int32) (1 : Int32) x11 s
              else
                if (x12 % (3 : Int32)) = 0 then
                  (f_dispose x11 s).bind fun q42 =>
                  if q42.1 = 0 then
                    f_law_701 n sn sf k42 x1 x3 x4 x5 x6 x7 x8 x9 x11 x13 x14 x15 x16 (1 : Int32) (-1 : Int32) (0 : Int32) q42.2
                  else
                    f_law_701 n sn sf k42 x1 x3 x4 x5 x6 x7 x8 x9 x11 x13 x14 x15 x16 (0 : Int32) (-1 : Int32) (0 : Int32) q42.2
                else
                  if (x12 % (3 : Int32)) = (1 : Int32) then
                    (f_reallocHandle n x11 ((1 : Int32) + ((x12 >>> ((2 : Int32) &&& 31)) &&& (15 : Int32))) s).bind fun q46 =>
                    if q46.1 = 0 then
                      f_law_701 n sn sf k42 x1 x3 x4 x5 x6 (x7 + (1 : Int32)) (x8 + (1 : Int32)) x9 x11 x13 x14 x15 x16 (0 : Int32) x11 ((x8 + (1 : Int32)) <<< ((9 : Int32) &&& 31)) q46.2
                    else
                      f_law_701 n sn sf k42 x1 x3 x4 x5 x6 (x7 + (1 : Int32)) x8 x9 x11 x13 x14 x15 x16 (0 : Int32) (-1 : Int32) (0 : Int32) q46.2
                  else
                    (f_compact n s).bind fun q49 =>
                    f_law_701 n sn sf k42 x1 x3 x4 x5 x6 x7 x8 x9 x11 x13 x14 x15 x16 (0 : Int32) (-1 : Int32) (0 : Int32) q49.2
set_option maxRecDepth 100000 in
theorem e_law_225 {g : GT} {n : Nat} {sn : Nat} {sf : Nat → Int32} (hw : HW g) {K : St → MHeap} {o : Nat} {r : Nat → Nat} (hs : ∀ s, (K s)[0]? = some (.inr (false, tab sn sf))) (V : View (GG g) Ln K o r) {k42 : Int32 → Int32 → Int32 → Int32 → Int32 → Int32 → Int32 → Int32 → St → Option (Int32 × St)} (hk42 : ∀ (x1 : Int32) (x3 : Int32) (x4 : Int32) (x5 : Int32) (x6 : Int32) (x7 : Int32) (x8 : Int32) (x9 : Int32) (s : St) (y10 : Slot) (hy10 : one1 y10 = true) (y11 : Slot) (hy11 : one1 y11 = true) (y12 : Slot) (hy12 : one1 y12 = true) (y13 : Slot) (hy13 : one1 y13 = true) (y14 : Slot) (hy14 : one1 y14 = true) (y15 : Slot) (hy15 : one1 y15 = true) (y16 : Slot) (hy16 : one1 y16 = true) (y17 : Slot) (hy17 : one1 y17 = true) (y18 : Slot) (hy18 : one1 y18 = true) (y19 : Slot) (hy19 : one1 y19 = true) (y20 : Slot) (hy20 : one1 y20 = true) (y21 : Slot) (hy21 : one1 y21 = true) (y22 : Slot) (hy22 : one1 y22 = true) (y23 : Slot) (hy23 : one1 y23 = true) (y24 : Slot) (hy24 : one1 y24 = true) (y25 : Slot) (hy25 : one1 y25 = true) (y26 : Slot) (hy26 : one1 y26 = true) (y27 : Slot) (hy27 : one1 y27 = true) (y28 : Slot) (hy28 : one1 y28 = true) (w : Int32 × St), k42 x1 x3 x4 x5 x6 x7 x8 x9 s = some w → Ev (GG g) M_law 42 [.val (.ref 0), .val (.int x1), .val (.ref o), .val (.int x3), .val (.int x4), .val (.int x5), .val (.int x6), .val (.int x7), .val (.int x8), .val (.int x9), y10, y11, y12, y13, y14, y15, y16, y17, y18, y19, y20, y21, y22, y23, y24, y25, y26, y27, y28] [] (K s) ((some (.int w.1)), (K w.2))) (x1 : Int32) (x3 : Int32) (x4 : Int32) (x5 : Int32) (x6 : Int32) (x7 : Int32) (x8 : Int32) (x9 : Int32) (x10 : Int32) (x11 : Int32) (x12 : Int32) (x13 : Int32) (x14 : Int32) (x15 : Int32) (x16 : Int32) (x17 : Int32) (z0 : Int32) (s : St) (y18 : Slot) (hy18 : one1 y18 = true) (y19 : Slot) (hy19 : one1 y19 = true) (y20 : Slot) (hy20 : one1 y20 = true) (y21 : Slot) (hy21 : one1 y21 = true) (y22 : Slot) (hy22 : one1 y22 = true) (y23 : Slot) (hy23 : one1 y23 = true) (y24 : Slot) (hy24 : one1 y24 = true) (y25 : Slot) (hy25 : one1 y25 = true) (y26 : Slot) (hy26 : one1 y26 = true) (y27 : Slot) (hy27 : one1 y27 = true) (y28 : Slot) (hy28 : one1 y28 = true) (w : Int32 × St) (hr : f_law_225 n sn sf k42 x1 x3 x4 x5 x6 x7 x8 x9 x10 x11 x12 x13 x14 x15 x16 x17 z0 s = some w) : Ev (GG g) M_law 225 [.val (.ref 0), .val (.int x1), .val (.ref o), .val (.int x3), .val (.int x4), .val (.int x5), .val (.int x6), .val (.int x7), .val (.int x8), .val (.int x9), .val (.int x10), .val (.int x11), .val (.int x12), .val (.int x13), .val (.int x14), .val (.int x15), .val (.int x16), .val (.int x17), y18, y19, y20, y21, y22, y23, y24, y25, y26, y27, y28] [.int z0] (K s) ((some (.int w.1)), (K w.2)) := by
  unfold f_law_225 at hr
  refine Ev.istD (L' := [.val (.ref 0), .val (.int x1), .val (.ref o), .val (.int x3), .val (.int x4), .val (.int x5), .val (.int x6), .val (.int x7), .val (.int x8), .val (.int x9), .val (.int x10), .val (.int x11), .val (.int x12), .val (.int x13), .val (.int x14), .val (.int x15), .val (.int x16), .val (.int x17), .val (.int z0), y19, y20, y21, y22, y23, y24, y25, y26, y27, y28]) at_225 rfl hy18 rfl ?_
  refine Ev.aloadN at_227 rfl ?_
  refine Ev.iload at_228 rfl ?_
  obtain ⟨q1, hq2, hr⟩ := Option.bind_eq_some_iff.mp hr
  refine Ev.virt (y := M_getSize) (args := [.int x11]) (rest := []) (gok hw) rfl nm_getSize (ww hw 55 rfl) (ww hw 56 rfl) (ww hw 57 rfl) (ww hw 58 rfl) (ww hw 59 rfl) (lenOf pd_getSize rfl) at_230 (V.2.1 s) (e_getSize hw V hq2) (by decide) (Nat.le_of_ble_eq_true rfl) rfl ?_
  refine Ev.istD (L' := [.val (.ref 0), .val (.int x1), .val (.ref o), .val (.int x3), .val (.int x4), .val (.int x5), .val (.int x6), .val (.int x7), .val (.int x8), .val (.int x9), .val (.int x10), .val (.int x11), .val (.int x12), .val (.int x13), .val (.int x14), .val (.int x15), .val (.int x16), .val (.int x17), .val (.int z0), .val (.int q1), y20, y21, y22, y23, y24, y25, y26, y27, y28]) at_233 rfl hy19 rfl ?_
  refine Ev.iconst (z := 0) at_235 rfl ?_
  refine Ev.istD (L' := [.val (.ref 0), .val (.int x1), .val (.ref o), .val (.int x3), .val (.int x4), .val (.int x5), .val (.int x6), .val (.int x7), .val (.int x8), .val (.int x9), .val (.int x10), .val (.int x11), .val (.int x12), .val (.int x13), .val (.int x14), .val (.int x15), .val (.int x16), .val (.int x17), .val (.int z0), .val (.int q1), .val (.int (0 : Int32)), y21, y22, y23, y24, y25, y26, y27, y28]) at_236 rfl hy20 rfl ?_
  refine Ev.iconst (z := -1) at_238 rfl ?_
  refine Ev.istD (L' := [.val (.ref 0), .val (.int x1), .val (.ref o), .val (.int x3), .val (.int x4), .val (.int x5), .val (.int x6), .val (.int x7), .val (.int x8), .val (.int x9), .val (.int x10), .val (.int x11), .val (.int x12), .val (.int x13), .val (.int x14), .val (.int x15), .val (.int x16), .val (.int x17), .val (.int z0), .val (.int q1), .val (.int (0 : Int32)), .val (.int (-1 : Int32)), y22, y23, y24, y25, y26, y27, y28]) at_239 rfl hy21 rfl ?_
  refine Ev.iconst (z := 0) at_241 rfl ?_
  refine Ev.istD (L' := [.val (.ref 0), .val (.int x1), .val (.ref o), .val (.int x3), .val (.int x4), .val (.int x5), .val (.int x6), .val (.int x7), .val (.int x8), .val (.int x9), .val (.int x10), .val (.int x11), .val (.int x12), .val (.int x13), .val (.int x14), .val (.int x15), .val (.int x16), .val (.int x17), .val (.int z0), .val (.int q1), .val (.int (0 : Int32)), .val (.int (-1 : Int32)), .val (.int (0 : Int32)), y23, y24, y25, y26, y27, y28]) at_242 rfl hy22 rfl ?_
  refine Ev.iload at_244 rfl ?_
  refine Ev.ifne (t := 293) at_246 rfl (fun c3 => ?_) (fun c3 => ?_)
  · replace hr := (if_pos c3).symm.trans hr
    refine Ev.aloadN at_249 rfl ?_
    refine Ev.iconst (z := 1) at_250 rfl ?_
    refine Ev.iload at_251 rfl ?_
    refine Ev.bipush (z := 15) at_253 rfl ?_
    refine Ev.iand at_255 ?_
    refine Ev.iadd at_256 ?_
    obtain ⟨q4, hq5, hr⟩ := Option.bind_eq_some_iff.mp hr
    refine Ev.virt (y := M_newHandle) (args := [.int ((1 : Int32) + (x12 &&& (15 : Int32)))]) (rest := []) (gok hw) rfl nm_newHandle (ww hw 69 rfl) (ww hw 70 rfl) (ww hw 71 rfl) (ww hw 72 rfl) (ww hw 73 rfl) (lenOf pd_newHandle rfl) at_257 (V.2.1 s) (e_newHandle hw V hq5) (by decide) (Nat.le_of_ble_eq_true rfl) rfl ?_
    refine Ev.istD (L' := [.val (.ref 0), .val (.int x1), .val (.ref o), .val (.int x3), .val (.int x4), .val (.int x5), .val (.int x6), .val (.int x7), .val (.int x8), .val (.int x9), .val (.int x10), .val (.int x11), .val (.int x12), .val (.int x13), .val (.int x14), .val (.int x15), .val (.int x16), .val (.int x17), .val (.int z0), .val (.int q1), .val (.int (0 : Int32)), .val (.int (-1 : Int32)), .val (.int (0 : Int32)), .val (.int q4.1), y24, y25, y26, y27, y28]) at_260 rfl hy23 rfl ?_
    refine Ev.iinc (z := 1) (L' := [.val (.ref 0), .val (.int x1), .val (.ref o), .val (.int x3), .val (.int x4), .val (.int x5), .val (.int x6), .val (.int (x7 + (1 : Int32))), .val (.int x8), .val (.int x9), .val (.int x10), .val (.int x11), .val (.int x12), .val (.int x13), .val (.int x14), .val (.int x15), .val (.int x16), .val (.int x17), .val (.int z0), .val (.int q1), .val (.int (0 : Int32)), .val (.int (-1 : Int32)), .val (.int (0 : Int32)), .val (.int q4.1), y24, y25, y26, y27, y28]) at_262 rfl rfl rfl ?_
    refine Ev.iload at_265 rfl ?_
    refine Ev.iflt (t := 290) at_267 rfl (fun c6 => ?_) (fun c6 => ?_)
    · replace hr := (if_pos c6).symm.trans hr
      refine Ev.goto (t := 701) at_290 rfl ?_
      exact e_law_701 hw hs V hk42 x1 x3 x4 x5 x6 (x7 + (1 : Int32)) x8 x9 x11 x13 x14 x15 x16 (0 : Int32) (-1 : Int32) (0 : Int32) q4.2 (.val (.int x10)) rfl (.val (.int x12)) rfl (.val (.int x17)) rfl (.val (.int z0)) rfl (.val (.int q1)) rfl (.val (.int q4.1)) rfl y24 hy24 y25 hy25 y26 hy26 y27 hy27 y28 hy28 _ hr
    · replace hr := (if_neg c6).symm.trans hr
      refine Ev.iload at_270 rfl ?_
      refine Ev.iconst (z := 4) at_272 rfl ?_
      refine Ev.icge (t := 290) at_273 rfl (fun c7 => ?_) (fun c7 => ?_)
      · replace hr := (if_pos c7).symm.trans hr
        refine Ev.iinc (z := 1) (L' := [.val (.ref 0), .val (.int x1), .val (.ref o), .val (.int x3), .val (.int x4), .val (.int x5), .val (.int x6), .val (.int (x7 + (1 : Int32))), .val (.int (x8 + (1 : Int32))), .val (.int x9), .val (.int x10), .val (.int x11), .val (.int x12), .val (.int x13), .val (.int x14), .val (.int x15), .val (.int x16), .val (.int x17), .val (.int z0), .val (.int q1), .val (.int (0 : Int32)), .val (.int (-1 : Int32)), .val (.int (0 : Int32)), .val (.int q4.1), y24, y25, y26, y27, y28]) at_276 rfl rfl rfl ?_
        refine Ev.iload at_279 rfl ?_
        refine Ev.istD (L' := [.val (.ref 0), .val (.int x1), .val (.ref o), .val (.int x3), .val (.int x4), .val (.int x5), .val (.int x6), .val (.int (x7 + (1 : Int32))), .val (.int (x8 + (1 : Int32))), .val (.int x9), .val (.int x10), .val (.int x11), .val (.int x12), .val (.int x13), .val (.int x14), .val (.int x15), .val (.int x16), .val (.int x17), .val (.int z0), .val (.int q1), .val (.int (0 : Int32)), .val (.int q4.1), .val (.int (0 : Int32)), .val (.int q4.1), y24, y25, y26, y27, y28]) at_281 rfl rfl rfl ?_
        refine Ev.iload at_283 rfl ?_
        refine Ev.bipush (z := 9) at_285 rfl ?_
        refine Ev.ishl at_287 ?_
        refine Ev.istD (L' := [.val (.ref 0), .val (.int x1), .val (.ref o), .val (.int x3), .val (.int x4), .val (.int x5), .val (.int x6), .val (.int (x7 + (1 : Int32))), .val (.int (x8 + (1 : Int32))), .val (.int x9), .val (.int x10), .val (.int x11), .val (.int x12), .val (.int x13), .val (.int x14), .val (.int x15), .val (.int x16), .val (.int x17), .val (.int z0), .val (.int q1), .val (.int (0 : Int32)), .val (.int q4.1), .val (.int ((x8 + (1 : Int32)) <<< ((9 : Int32) &&& 31))), .val (.int q4.1), y24, y25, y26, y27, y28]) at_288 rfl rfl rfl ?_
        refine Ev.goto (t := 701) at_290 rfl ?_
        exact e_law_701 hw hs V hk42 x1 x3 x4 x5 x6 (x7 + (1 : Int32)) (x8 + (1 : Int32)) x9 x11 x13 x14 x15 x16 (0 : Int32) q4.1 ((x8 + (1 : Int32)) <<< ((9 : Int32) &&& 31)) q4.2 (.val (.int x10)) rfl (.val (.int x12)) rfl (.val (.int x17)) rfl (.val (.int z0)) rfl (.val (.int q1)) rfl (.val (.int q4.1)) rfl y24 hy24 y25 hy25 y26 hy26 y27 hy27 y28 hy28 _ hr
      · replace hr := (if_neg c7).symm.trans hr
        refine Ev.goto (t := 701) at_290 rfl ?_
        exact e_law_701 hw hs V hk42 x1 x3 x4 x5 x6 (x7 + (1 : Int32)) x8 x9 x11 x13 x14 x15 x16 (0 : Int32) (-1 : Int32) (0 : Int32) q4.2 (.val (.int x10)) rfl (.val (.int x12)) rfl (.val (.int x17)) rfl (.val (.int z0)) rfl (.val (.int q1)) rfl (.val (.int q4.1)) rfl y24 hy24 y25 hy25 y26 hy26 y27 hy27 y28 hy28 _ hr
  · replace hr := (if_neg c3).symm.trans hr
    refine Ev.iload at_293 rfl ?_
    refine Ev.iconst (z := 1) at_295 rfl ?_
    refine Ev.icne (t := 367) at_296 rfl (fun c8 => ?_) (fun c8 => ?_)
    · replace hr := (if_pos c8).symm.trans hr
      refine Ev.iload at_299 rfl ?_
      refine Ev.ifeq (t := 701) at_301 rfl (fun c9 => ?_) (fun c9 => ?_)
      · replace hr := (if_pos c9).symm.trans hr
        exact e_law_701 hw hs V hk42 x1 x3 x4 x5 x6 x7 x8 x9 x11 x13 x14 x15 x16 (0 : Int32) (-1 : Int32) (0 : Int32) s (.val (.int x10)) rfl (.val (.int x12)) rfl (.val (.int x17)) rfl (.val (.int z0)) rfl (.val (.int q1)) rfl y23 hy23 y24 hy24 y25 hy25 y26 hy26 y27 hy27 y28 hy28 _ hr
      · replace hr := (if_neg c9).symm.trans hr
        refine Ev.iinc (z := 1) (L' := [.val (.ref 0), .val (.int x1), .val (.ref o), .val (.int x3), .val (.int x4), .val (.int x5), .val (.int x6), .val (.int x7), .val (.int (x8 + (1 : Int32))), .val (.int x9), .val (.int x10), .val (.int x11), .val (.int x12), .val (.int x13), .val (.int x14), .val (.int x15), .val (.int x16), .val (.int x17), .val (.int z0), .val (.int q1), .val (.int (0 : Int32)), .val (.int (-1 : Int32)), .val (.int (0 : Int32)), y23, y24, y25, y26, y27, y28]) at_304 rfl rfl rfl ?_
        refine Ev.iconst (z := 0) at_307 rfl ?_
        refine Ev.istD (L' := [.val (.ref 0), .val (.int x1), .val (.ref o), .val (.int x3), .val (.int x4), .val (.int x5), .val (.int x6), .val (.int x7), .val (.int (x8 + (1 : Int32))), .val (.int x9), .val (.int x10), .val (.int x11), .val (.int x12), .val (.int x13), .val (.int x14), .val (.int x15), .val (.int x16), .val (.int x17), .val (.int z0), .val (.int q1), .val (.int (0 : Int32)), .val (.int (-1 : Int32)), .val (.int (0 : Int32)), .val (.int (0 : Int32)), y24, y25, y26, y27, y28]) at_308 rfl hy23 rfl ?_
        exact e_law_310 hw hs V hk42 n x1 x3 x4 x5 x6 x7 (x8 + (1 : Int32)) x9 x11 x13 x14 x15 x16 q1 (0 : Int32) (0 : Int32) s (.val (.int x10)) rfl (.val (.int x12)) rfl (.val (.int x17)) rfl (.val (.int z0)) rfl (.val (.int (-1 : Int32))) rfl (.val (.int (0 : Int32))) rfl y24 hy24 y25 hy25 y26 hy26 y27 hy27 y28 hy28 _ hr
    · replace hr := (if_neg c8).symm.trans hr
      refine Ev.iload at_367 rfl ?_
      refine Ev.iconst (z := 2) at_369 rfl ?_
      refine Ev.icne (t := 432) at_370 rfl (fun c10 => ?_) (fun c10 => ?_)
      · replace hr := (if_pos c10).symm.trans hr
        refine Ev.iload at_373 rfl ?_
        refine Ev.sipush (z := 511) at_375 rfl ?_
        refine Ev.iand at_378 ?_
        refine Ev.istD (L' := [.val (.ref 0), .val (.int x1), .val (.ref o), .val (.int x3), .val (.int x4), .val (.int x5), .val (.int x6), .val (.int x7), .val (.int x8), .val (.int x9), .val (.int x10), .val (.int x11), .val (.int x12), .val (.int x13), .val (.int x14), .val (.int x15), .val (.int x16), .val (.int x17), .val (.int z0), .val (.int q1), .val (.int (0 : Int32)), .val (.int (-1 : Int32)), .val (.int (0 : Int32)), .val (.int (x17 &&& (511 : Int32))), y24, y25, y26, y27, y28]) at_379 rfl hy23 rfl ?_
        refine Ev.iload at_381 rfl ?_
        refine Ev.ifeq (t := 429) at_383 rfl (fun c11 => ?_) (fun c11 => ?_)
        · replace hr := (if_pos c11).symm.trans hr
          refine Ev.goto (t := 701) at_429 rfl ?_
          exact e_law_701 hw hs V hk42 x1 x3 x4 x5 x6 x7 x8 x9 x11 x13 x14 x15 x16 (0 : Int32) (-1 : Int32) (0 : Int32) s (.val (.int x10)) rfl (.val (.int x12)) rfl (.val (.int x17)) rfl (.val (.int z0)) rfl (.val (.int q1)) rfl (.val (.int (x17 &&& (511 : Int32)))) rfl y24 hy24 y25 hy25 y26 hy26 y27 hy27 y28 hy28 _ hr
        · replace hr := (if_neg c11).symm.trans hr
          refine Ev.iload at_386 rfl ?_
          refine Ev.iload at_388 rfl ?_
          refine Ev.icge (t := 429) at_390 rfl (fun c12 => ?_) (fun c12 => ?_)
          · replace hr := (if_pos c12).symm.trans hr
            refine Ev.aloadN at_393 rfl ?_
            refine Ev.iload at_394 rfl ?_
            refine Ev.iload at_396 rfl ?_
            refine Ev.iload at_398 rfl ?_
            refine Ev.bipush (z := 9) at_400 rfl ?_
            refine Ev.ishr at_402 ?_
            refine Ev.iload at_403 rfl ?_
            obtain ⟨q13, hq14, hr⟩ := Option.bind_eq_some_iff.mp hr
            refine Ev.stat (y := M_hmix) (args := [.int (x17 >>> ((9 : Int32) &&& 31)), .int (x17 &&& (511 : Int32))]) (rest := [.int (x17 &&& (511 : Int32)), .int x11, .ref o]) nm_hmix (ww hw 120 rfl) (ww hw 121 rfl) (ww hw 2 rfl) (ww hw 122 rfl) (lenOf pd_hmix rfl) at_405 (e_hmix hw hq14) (by decide) (Nat.le_of_ble_eq_true rfl) rfl ?_
            obtain ⟨q15, hq16, hr⟩ := Option.bind_eq_some_iff.mp hr
            refine Ev.virt (y := M_write) (args := [.int x11, .int (x17 &&& (511 : Int32)), .int q13]) (rest := []) (gok hw) rfl nm_write (ww hw 124 rfl) (ww hw 125 rfl) (ww hw 126 rfl) (ww hw 127 rfl) (ww hw 128 rfl) (lenOf pd_write rfl) at_408 (V.2.1 s) (e_write hw V hq16) (by decide) (Nat.le_of_ble_eq_true rfl) rfl ?_
            refine Ev.ifeq (t := 416) at_411 rfl (fun c17 => ?_) (fun c17 => ?_)
            · replace hr := (if_pos c17).symm.trans hr
              refine Ev.iinc (z := 1) (L' := [.val (.ref 0), .val (.int x1), .val (.ref o), .val (.int x3), .val (.int x4), .val (.int x5), .val (.int x6), .val (.int (x7 + (1 : Int32))), .val (.int x8), .val (.int x9), .val (.int x10), .val (.int x11), .val (.int x12), .val (.int x13), .val (.int x14), .val (.int x15), .val (.int x16), .val (.int x17), .val (.int z0), .val (.int q1), .val (.int (0 : Int32)), .val (.int (-1 : Int32)), .val (.int (0 : Int32)), .val (.int (x17 &&& (511 : Int32))), y24, y25, y26, y27, y28]) at_416 rfl rfl rfl ?_
              refine Ev.iload at_419 rfl ?_
              refine Ev.istD (L' := [.val (.ref 0), .val (.int x1), .val (.ref o), .val (.int x3), .val (.int x4), .val (.int x5), .val (.int x6), .val (.int (x7 + (1 : Int32))), .val (.int x8), .val (.int x9), .val (.int x10), .val (.int x11), .val (.int x12), .val (.int x13), .val (.int x14), .val (.int x15), .val (.int x16), .val (.int x17), .val (.int z0), .val (.int q1), .val (.int (0 : Int32)), .val (.int x11), .val (.int (0 : Int32)), .val (.int (x17 &&& (511 : Int32))), y24, y25, y26, y27, y28]) at_421 rfl rfl rfl ?_
              refine Ev.iload at_423 rfl ?_
              refine Ev.iconst (z := 1) at_425 rfl ?_
              refine Ev.iadd at_426 ?_
              refine Ev.istD (L' := [.val (.ref 0), .val (.int x1), .val (.ref o), .val (.int x3), .val (.int x4), .val (.int x5), .val (.int x6), .val (.int (x7 + (1 : Int32))), .val (.int x8), .val (.int x9), .val (.int x10), .val (.int x11), .val (.int x12), .val (.int x13), .val (.int x14), .val (.int x15), .val (.int x16), .val (.int x17), .val (.int z0), .val (.int q1), .val (.int (0 : Int32)), .val (.int x11), .val (.int (x17 + (1 : Int32))), .val (.int (x17 &&& (511 : Int32))), y24, y25, y26, y27, y28]) at_427 rfl rfl rfl ?_
              refine Ev.goto (t := 701) at_429 rfl ?_
              exact e_law_701 hw hs V hk42 x1 x3 x4 x5 x6 (x7 + (1 : Int32)) x8 x9 x11 x13 x14 x15 x16 (0 : Int32) x11 (x17 + (1 : Int32)) q15.2 (.val (.int x10)) rfl (.val (.int x12)) rfl (.val (.int x17)) rfl (.val (.int z0)) rfl (.val (.int q1)) rfl (.val (.int (x17 &&& (511 : Int32)))) rfl y24 hy24 y25 hy25 y26 hy26 y27 hy27 y28 hy28 _ hr
            · replace hr := (if_neg c17).symm.trans hr
              refine Ev.iconst (z := 0) at_414 rfl ?_
              cases hr
              exact Ev.zret0 rfl at_415
          · replace hr := (if_neg c12).symm.trans hr
            refine Ev.goto (t := 701) at_429 rfl ?_
            exact e_law_701 hw hs V hk42 x1 x3 x4 x5 x6 x7 x8 x9 x11 x13 x14 x15 x16 (0 : Int32) (-1 : Int32) (0 : Int32) s (.val (.int x10)) rfl (.val (.int x12)) rfl (.val (.int x17)) rfl (.val (.int z0)) rfl (.val (.int q1)) rfl (.val (.int (x17 &&& (511 : Int32)))) rfl y24 hy24 y25 hy25 y26 hy26 y27 hy27 y28 hy28 _ hr
      · replace hr := (if_neg c10).symm.trans hr
        refine Ev.iload at_432 rfl ?_
        refine Ev.iconst (z := 3) at_434 rfl ?_
        refine Ev.icne (t := 502) at_435 rfl (fun c18 => ?_) (fun c18 => ?_)
        · replace hr := (if_pos c18).symm.trans hr
          refine Ev.iconst (z := 1) at_438 rfl ?_
          refine Ev.iload at_439 rfl ?_
          refine Ev.bipush (z := 15) at_441 rfl ?_
          refine Ev.iand at_443 ?_
          refine Ev.iadd at_444 ?_
          refine Ev.istD (L' := [.val (.ref 0), .val (.int x1), .val (.ref o), .val (.int x3), .val (.int x4), .val (.int x5), .val (.int x6), .val (.int x7), .val (.int x8), .val (.int x9), .val (.int x10), .val (.int x11), .val (.int x12), .val (.int x13), .val (.int x14), .val (.int x15), .val (.int x16), .val (.int x17), .val (.int z0), .val (.int q1), .val (.int (0 : Int32)), .val (.int (-1 : Int32)), .val (.int (0 : Int32)), .val (.int ((1 : Int32) + (x12 &&& (15 : Int32)))), y24, y25, y26, y27, y28]) at_445 rfl hy23 rfl ?_
          refine Ev.aloadN at_447 rfl ?_
          refine Ev.iload at_448 rfl ?_
          refine Ev.iload at_450 rfl ?_
          obtain ⟨q19, hq20, hr⟩ := Option.bind_eq_some_iff.mp hr
          refine Ev.virt (y := M_setSize) (args := [.int x11, .int ((1 : Int32) + (x12 &&& (15 : Int32)))]) (rest := []) (gok hw) rfl nm_setSize (ww hw 60 rfl) (ww hw 61 rfl) (ww hw 62 rfl) (ww hw 63 rfl) (ww hw 64 rfl) (lenOf pd_setSize rfl) at_452 (V.2.1 s) (e_setSize hw V hq20) (by decide) (Nat.le_of_ble_eq_true rfl) rfl ?_
          refine Ev.istD (L' := [.val (.ref 0), .val (.int x1), .val (.ref o), .val (.int x3), .val (.int x4), .val (.int x5), .val (.int x6), .val (.int x7), .val (.int x8), .val (.int x9), .val (.int x10), .val (.int x11), .val (.int x12), .val (.int x13), .val (.int x14), .val (.int x15), .val (.int x16), .val (.int x17), .val (.int z0), .val (.int q1), .val (.int (0 : Int32)), .val (.int (-1 : Int32)), .val (.int (0 : Int32)), .val (.int ((1 : Int32) + (x12 &&& (15 : Int32)))), .val (.int q19.1), y25, y26, y27, y28]) at_455 rfl hy24 rfl ?_
          refine Ev.iinc (z := 1) (L' := [.val (.ref 0), .val (.int x1), .val (.ref o), .val (.int x3), .val (.int x4), .val (.int x5), .val (.int x6), .val (.int (x7 + (1 : Int32))), .val (.int x8), .val (.int x9), .val (.int x10), .val (.int x11), .val (.int x12), .val (.int x13), .val (.int x14), .val (.int x15), .val (.int x16), .val (.int x17), .val (.int z0), .val (.int q1), .val (.int (0 : Int32)), .val (.int (-1 : Int32)), .val (.int (0 : Int32)), .val (.int ((1 : Int32) + (x12 &&& (15 : Int32)))), .val (.int q19.1), y25, y26, y27, y28]) at_457 rfl rfl rfl ?_
          refine Ev.iload at_460 rfl ?_
          refine Ev.ifne (t := 499) at_462 rfl (fun c21 => ?_) (fun c21 => ?_)
          · replace hr := (if_pos c21).symm.trans hr
            refine Ev.iload at_465 rfl ?_
            refine Ev.sipush (z := 511) at_467 rfl ?_
            refine Ev.iand at_470 ?_
            refine Ev.istD (L' := [.val (.ref 0), .val (.int x1), .val (.ref o), .val (.int x3), .val (.int x4), .val (.int x5), .val (.int x6), .val (.int (x7 + (1 : Int32))), .val (.int x8), .val (.int x9), .val (.int x10), .val (.int x11), .val (.int x12), .val (.int x13), .val (.int x14), .val (.int x15), .val (.int x16), .val (.int x17), .val (.int z0), .val (.int q1), .val (.int (0 : Int32)), .val (.int (-1 : Int32)), .val (.int (0 : Int32)), .val (.int ((1 : Int32) + (x12 &&& (15 : Int32)))), .val (.int q19.1), .val (.int (x17 &&& (511 : Int32))), y26, y27, y28]) at_471 rfl hy25 rfl ?_
            refine Ev.iload at_473 rfl ?_
            refine Ev.iload at_475 rfl ?_
            refine Ev.icge (t := 484) at_477 rfl (fun c22 => ?_) (fun c22 => ?_)
            · replace hr := (if_pos c22).symm.trans hr
              refine Ev.iload at_480 rfl ?_
              refine Ev.istD (L' := [.val (.ref 0), .val (.int x1), .val (.ref o), .val (.int x3), .val (.int x4), .val (.int x5), .val (.int x6), .val (.int (x7 + (1 : Int32))), .val (.int x8), .val (.int x9), .val (.int x10), .val (.int x11), .val (.int x12), .val (.int x13), .val (.int x14), .val (.int x15), .val (.int x16), .val (.int x17), .val (.int z0), .val (.int q1), .val (.int (0 : Int32)), .val (.int (-1 : Int32)), .val (.int (0 : Int32)), .val (.int ((1 : Int32) + (x12 &&& (15 : Int32)))), .val (.int q19.1), .val (.int ((1 : Int32) + (x12 &&& (15 : Int32)))), y26, y27, y28]) at_482 rfl rfl rfl ?_
              exact e_law_484 hw hs V hk42 x1 x3 x4 x5 x6 (x7 + (1 : Int32)) x8 x9 x11 x13 x14 x15 x16 x17 (0 : Int32) ((1 : Int32) + (x12 &&& (15 : Int32))) q19.2 (.val (.int x10)) rfl (.val (.int x12)) rfl (.val (.int z0)) rfl (.val (.int q1)) rfl (.val (.int (-1 : Int32))) rfl (.val (.int (0 : Int32))) rfl (.val (.int ((1 : Int32) + (x12 &&& (15 : Int32))))) rfl (.val (.int q19.1)) rfl y26 hy26 y27 hy27 y28 hy28 _ hr
            · replace hr := (if_neg c22).symm.trans hr
              exact e_law_484 hw hs V hk42 x1 x3 x4 x5 x6 (x7 + (1 : Int32)) x8 x9 x11 x13 x14 x15 x16 x17 (0 : Int32) (x17 &&& (511 : Int32)) q19.2 (.val (.int x10)) rfl (.val (.int x12)) rfl (.val (.int z0)) rfl (.val (.int q1)) rfl (.val (.int (-1 : Int32))) rfl (.val (.int (0 : Int32))) rfl (.val (.int ((1 : Int32) + (x12 &&& (15 : Int32))))) rfl (.val (.int q19.1)) rfl y26 hy26 y27 hy27 y28 hy28 _ hr
          · replace hr := (if_neg c21).symm.trans hr
            refine Ev.goto (t := 701) at_499 rfl ?_
            exact e_law_701 hw hs V hk42 x1 x3 x4 x5 x6 (x7 + (1 : Int32)) x8 x9 x11 x13 x14 x15 x16 (0 : Int32) (-1 : Int32) (0 : Int32) q19.2 (.val (.int x10)) rfl (.val (.int x12)) rfl (.val (.int x17)) rfl (.val (.int z0)) rfl (.val (.int q1)) rfl (.val (.int ((1 : Int32) + (x12 &&& (15 : Int32))))) rfl (.val (.int q19.1)) rfl y25 hy25 y26 hy26 y27 hy27 y28 hy28 _ hr
        · replace hr := (if_neg c18).symm.trans hr
          refine Ev.iload at_502 rfl ?_
          refine Ev.iconst (z := 4) at_504 rfl ?_
          refine Ev.icne (t := 555) at_505 rfl (fun c23 => ?_) (fun c23 => ?_)
          · replace hr := (if_pos c23).symm.trans hr
            refine Ev.iload at_508 rfl ?_
            refine Ev.ifeq (t := 701) at_510 rfl (fun c24 => ?_) (fun c24 => ?_)
            · replace hr := (if_pos c24).symm.trans hr
              exact e_law_701 hw hs V hk42 x1 x3 x4 x5 x6 x7 x8 x9 x11 x13 x14 x15 x16 (0 : Int32) (-1 : Int32) (0 : Int32) s (.val (.int x10)) rfl (.val (.int x12)) rfl (.val (.int x17)) rfl (.val (.int z0)) rfl (.val (.int q1)) rfl y23 hy23 y24 hy24 y25 hy25 y26 hy26 y27 hy27 y28 hy28 _ hr
            · replace hr := (if_neg c24).symm.trans hr
              refine Ev.iload at_513 rfl ?_
              refine Ev.ifle (t := 701) at_515 rfl (fun c25 => ?_) (fun c25 => ?_)
              · replace hr := (if_pos c25).symm.trans hr
                refine Ev.iload at_518 rfl ?_
                refine Ev.iload at_520 rfl ?_
                obtain ⟨c26, hr⟩ := grd_some hr
                refine Ev.irem at_522 c26 ?_
                refine Ev.istD (L' := [.val (.ref 0), .val (.int x1), .val (.ref o), .val (.int x3), .val (.int x4), .val (.int x5), .val (.int x6), .val (.int x7), .val (.int x8), .val (.int x9), .val (.int x10), .val (.int x11), .val (.int x12), .val (.int x13), .val (.int x14), .val (.int x15), .val (.int x16), .val (.int x17), .val (.int z0), .val (.int q1), .val (.int (0 : Int32)), .val (.int (-1 : Int32)), .val (.int (0 : Int32)), .val (.int (x12 % q1)), y24, y25, y26, y27, y28]) at_523 rfl hy23 rfl ?_
                refine Ev.aloadN at_525 rfl ?_
                refine Ev.iload at_526 rfl ?_
                refine Ev.iload at_528 rfl ?_
                obtain ⟨q27, hq28, hr⟩ := Option.bind_eq_some_iff.mp hr
                refine Ev.virt (y := M_read) (args := [.int x11, .int (x12 % q1)]) (rest := []) (gok hw) rfl nm_read (ww hw 141 rfl) (ww hw 142 rfl) (ww hw 143 rfl) (ww hw 144 rfl) (ww hw 145 rfl) (lenOf pd_read rfl) at_530 (V.2.1 s) (e_read hw V hq28) (by decide) (Nat.le_of_ble_eq_true rfl) rfl ?_
                refine Ev.istD (L' := [.val (.ref 0), .val (.int x1), .val (.ref o), .val (.int x3), .val (.int x4), .val (.int x5), .val (.int x6), .val (.int x7), .val (.int x8), .val (.int x9), .val (.int x10), .val (.int x11), .val (.int x12), .val (.int x13), .val (.int x14), .val (.int x15), .val (.int x16), .val (.int x17), .val (.int z0), .val (.int q1), .val (.int (0 : Int32)), .val (.int (-1 : Int32)), .val (.int (0 : Int32)), .val (.int (x12 % q1)), .val (.int q27.1), y25, y26, y27, y28]) at_533 rfl hy24 rfl ?_
                refine Ev.iinc (z := 1) (L' := [.val (.ref 0), .val (.int x1), .val (.ref o), .val (.int x3), .val (.int x4), .val (.int x5), .val (.int x6), .val (.int (x7 + (1 : Int32))), .val (.int x8), .val (.int x9), .val (.int x10), .val (.int x11), .val (.int x12), .val (.int x13), .val (.int x14), .val (.int x15), .val (.int x16), .val (.int x17), .val (.int z0), .val (.int q1), .val (.int (0 : Int32)), .val (.int (-1 : Int32)), .val (.int (0 : Int32)), .val (.int (x12 % q1)), .val (.int q27.1), y25, y26, y27, y28]) at_535 rfl rfl rfl ?_
                refine Ev.iload at_538 rfl ?_
                refine Ev.iload at_540 rfl ?_
                refine Ev.iload at_542 rfl ?_
                obtain ⟨q29, hq30, hr⟩ := Option.bind_eq_some_iff.mp hr
                refine Ev.stat (y := M_hexpect) (args := [.int x17, .int (x12 % q1)]) (rest := [.int q27.1]) nm_hexpect (ww hw 146 rfl) (ww hw 147 rfl) (ww hw 2 rfl) (ww hw 148 rfl) (lenOf pd_hexpect rfl) at_544 (e_hexpect hw hq30) (by decide) (Nat.le_of_ble_eq_true rfl) rfl ?_
                refine Ev.iceq (t := 552) at_547 rfl (fun c31 => ?_) (fun c31 => ?_)
                · replace hr := (if_pos c31).symm.trans hr
                  refine Ev.goto (t := 701) at_552 rfl ?_
                  exact e_law_701 hw hs V hk42 x1 x3 x4 x5 x6 (x7 + (1 : Int32)) x8 x9 x11 x13 x14 x15 x16 (0 : Int32) (-1 : Int32) (0 : Int32) q27.2 (.val (.int x10)) rfl (.val (.int x12)) rfl (.val (.int x17)) rfl (.val (.int z0)) rfl (.val (.int q1)) rfl (.val (.int (x12 % q1))) rfl (.val (.int q27.1)) rfl y25 hy25 y26 hy26 y27 hy27 y28 hy28 _ hr
                · replace hr := (if_neg c31).symm.trans hr
                  refine Ev.iconst (z := 0) at_550 rfl ?_
                  cases hr
                  exact Ev.zret0 rfl at_551
              · replace hr := (if_neg c25).symm.trans hr
                exact e_law_701 hw hs V hk42 x1 x3 x4 x5 x6 x7 x8 x9 x11 x13 x14 x15 x16 (0 : Int32) (-1 : Int32) (0 : Int32) s (.val (.int x10)) rfl (.val (.int x12)) rfl (.val (.int x17)) rfl (.val (.int z0)) rfl (.val (.int q1)) rfl y23 hy23 y24 hy24 y25 hy25 y26 hy26 y27 hy27 y28 hy28 _ hr
          · replace hr := (if_neg c23).symm.trans hr
            refine Ev.iload at_555 rfl ?_
            refine Ev.iconst (z := 5) at_557 rfl ?_
            refine Ev.icne (t := 593) at_558 rfl (fun c32 => ?_) (fun c32 => ?_)
            · replace hr := (if_pos c32).symm.trans hr
              refine Ev.iload at_561 rfl ?_
              refine Ev.iconst (z := 1) at_563 rfl ?_
              refine Ev.iand at_564 ?_
              refine Ev.ifne (t := 578) at_565 rfl (fun c33 => ?_) (fun c33 => ?_)
              · replace hr := (if_pos c33).symm.trans hr
                refine Ev.aloadN at_568 rfl ?_
                refine Ev.iload at_569 rfl ?_
                obtain ⟨q34, hq35, hr⟩ := Option.bind_eq_some_iff.mp hr
                refine Ev.virt (y := M_lock) (args := [.int x11]) (rest := []) (gok hw) rfl nm_lock (ww hw 186 rfl) (ww hw 187 rfl) (ww hw 188 rfl) (ww hw 189 rfl) (ww hw 190 rfl) (lenOf pd_lock rfl) at_571 (V.2.1 s) (e_lock hw V hq35) (by decide) (Nat.le_of_ble_eq_true rfl) rfl ?_
                refine Ev.pop at_574 rfl ?_
                refine Ev.goto (t := 701) at_575 rfl ?_
                exact e_law_701 hw hs V hk42 x1 x3 x4 x5 x6 x7 x8 x9 x11 x13 x14 x15 x16 (0 : Int32) (-1 : Int32) (0 : Int32) q34.2 (.val (.int x10)) rfl (.val (.int x12)) rfl (.val (.int x17)) rfl (.val (.int z0)) rfl (.val (.int q1)) rfl y23 hy23 y24 hy24 y25 hy25 y26 hy26 y27 hy27 y28 hy28 _ hr
              · replace hr := (if_neg c33).symm.trans hr
                refine Ev.aloadN at_578 rfl ?_
                refine Ev.iload at_579 rfl ?_
                obtain ⟨q36, hq37, hr⟩ := Option.bind_eq_some_iff.mp hr
                refine Ev.virt (y := M_unlock) (args := [.int x11]) (rest := []) (gok hw) rfl nm_unlock (ww hw 154 rfl) (ww hw 155 rfl) (ww hw 156 rfl) (ww hw 157 rfl) (ww hw 158 rfl) (lenOf pd_unlock rfl) at_581 (V.2.1 s) (e_unlock hw V hq37) (by decide) (Nat.le_of_ble_eq_true rfl) rfl ?_
                refine Ev.ifne (t := 701) at_584 rfl (fun c38 => ?_) (fun c38 => ?_)
                · replace hr := (if_pos c38).symm.trans hr
                  refine Ev.iconst (z := 1) at_587 rfl ?_
                  refine Ev.istD (L' := [.val (.ref 0), .val (.int x1), .val (.ref o), .val (.int x3), .val (.int x4), .val (.int x5), .val (.int x6), .val (.int x7), .val (.int x8), .val (.int x9), .val (.int x10), .val (.int x11), .val (.int x12), .val (.int x13), .val (.int x14), .val (.int x15), .val (.int x16), .val (.int x17), .val (.int z0), .val (.int q1), .val (.int (1 : Int32)), .val (.int (-1 : Int32)), .val (.int (0 : Int32)), y23, y24, y25, y26, y27, y28]) at_588 rfl rfl rfl ?_
                  refine Ev.goto (t := 701) at_590 rfl ?_
                  exact e_law_701 hw hs V hk42 x1 x3 x4 x5 x6 x7 x8 x9 x11 x13 x14 x15 x16 (1 : Int32) (-1 : Int32) (0 : Int32) q36.2 (.val (.int x10)) rfl (.val (.int x12)) rfl (.val (.int x17)) rfl (.val (.int z0)) rfl (.val (.int q1)) rfl y23 hy23 y24 hy24 y25 hy25 y26 hy26 y27 hy27 y28 hy28 _ hr
                · replace hr := (if_neg c38).symm.trans hr
                  exact e_law_701 hw hs V hk42 x1 x3 x4 x5 x6 x7 x8 x9 x11 x13 x14 x15 x16 (0 : Int32) (-1 : Int32) (0 : Int32) q36.2 (.val (.int x10)) rfl (.val (.int x12)) rfl (.val (.int x17)) rfl (.val (.int z0)) rfl (.val (.int q1)) rfl y23 hy23 y24 hy24 y25 hy25 y26 hy26 y27 hy27 y28 hy28 _ hr
            · replace hr := (if_neg c32).symm.trans hr
              refine Ev.iload at_593 rfl ?_
              refine Ev.bipush (z := 6) at_595 rfl ?_
              refine Ev.icne (t := 622) at_597 rfl (fun c39 => ?_) (fun c39 => ?_)
              · replace hr := (if_pos c39).symm.trans hr
                refine Ev.aloadN at_600 rfl ?_
                refine Ev.iload at_601 rfl ?_
                refine Ev.iload at_603 rfl ?_
                refine Ev.iconst (z := 3) at_605 rfl ?_
                refine Ev.iand at_606 ?_
                refine Ev.ifeq (t := 614) at_607 rfl (fun c40 => ?_) (fun c40 => ?_)
                · replace hr := (if_pos c40).symm.trans hr
                  refine Ev.iconst (z := 0) at_614 rfl ?_
                  exact e_law_615 hw hs V hk42 x1 x3 x4 x5 x6 x7 x8 x9 x11 x13 x14 x15 x16 (0 : Int32) (-1 : Int32) (0 : Int32) (0 : Int32) x11 s (.val (.int x10)) rfl (.val (.int x12)) rfl (.val (.int x17)) rfl (.val (.int z0)) rfl (.val (.int q1)) rfl y23 hy23 y24 hy24 y25 hy25 y26 hy26 y27 hy27 y28 hy28 _ hr
                · replace hr := (if_neg c40).symm.trans hr
                  refine Ev.iconst (z := 1) at_610 rfl ?_
                  refine Ev.goto (t := 615) at_611 rfl ?_
                  exact e_law_615 hw hs V hk42 x1 x3 x4 x5 x6 x7 x8 x9 x11 x13 x14 x15 x16 (0 : Int32) (-1 : Int32) (0 : Int32) (1 : Int32) x11 s (.val (.int x10)) rfl (.val (.int x12)) rfl (.val (.int x17)) rfl (.val (.int z0)) rfl (.val (.int q1)) rfl y23 hy23 y24 hy24 y25 hy25 y26 hy26 y27 hy27 y28 hy28 _ hr
              · replace hr := (if_neg c39).symm.trans hr
                refine Ev.iload at_622 rfl ?_
                refine Ev.iconst (z := 3) at_624 rfl ?_
                refine Ev.irem at_625 (by decide) ?_
                refine Ev.istD (L' := [.val (.ref 0), .val (.int x1), .val (.ref o), .val (.int x3), .val (.int x4), .val (.int x5), .val (.int x6), .val (.int x7), .val (.int x8), .val (.int x9), .val (.int x10), .val (.int x11), .val (.int x12), .val (.int x13), .val (.int x14), .val (.int x15), .val (.int x16), .val (.int x17), .val (.int z0), .val (.int q1), .val (.int (0 : Int32)), .val (.int (-1 : Int32)), .val (.int (0 : Int32)), .val (.int (x12 % (3 : Int32))), y24, y25, y26, y27, y28]) at_626 rfl hy23 rfl ?_
                refine Ev.iload at_628 rfl ?_
                refine Ev.ifne (t := 648) at_630 rfl (fun c41 => ?_) (fun c41 => ?_)
                · replace hr := (if_pos c41).symm.trans hr
                  refine Ev.aloadN at_633 rfl ?_
                  refine Ev.iload at_634 rfl ?_
                  obtain ⟨q42, hq43, hr⟩ := Option.bind_eq_some_iff.mp hr
                  refine Ev.virt (y := M_dispose) (args := [.int x11]) (rest := []) (gok hw) rfl nm_dispose (ww hw 181 rfl) (ww hw 182 rfl) (ww hw 183 rfl) (ww hw 184 rfl) (ww hw 185 rfl) (lenOf pd_dispose rfl) at_636 (V.2.1 s) (e_dispose hw V hq43) (by decide) (Nat.le_of_ble_eq_true rfl) rfl ?_
                  refine Ev.ifne (t := 701) at_639 rfl (fun c44 => ?_) (fun c44 => ?_)
                  · replace hr := (if_pos c44).symm.trans hr
                    refine Ev.iconst (z := 1) at_642 rfl ?_
                    refine Ev.istD (L' := [.val (.ref 0), .val (.int x1), .val (.ref o), .val (.int x3), .val (.int x4), .val (.int x5), .val (.int x6), .val (.int x7), .val (.int x8), .val (.int x9), .val (.int x10), .val (.int x11), .val (.int x12), .val (.int x13), .val (.int x14), .val (.int x15), .val (.int x16), .val (.int x17), .val (.int z0), .val (.int q1), .val (.int (1 : Int32)), .val (.int (-1 : Int32)), .val (.int (0 : Int32)), .val (.int (x12 % (3 : Int32))), y24, y25, y26, y27, y28]) at_643 rfl rfl rfl ?_
                    refine Ev.goto (t := 701) at_645 rfl ?_
                    exact e_law_701 hw hs V hk42 x1 x3 x4 x5 x6 x7 x8 x9 x11 x13 x14 x15 x16 (1 : Int32) (-1 : Int32) (0 : Int32) q42.2 (.val (.int x10)) rfl (.val (.int x12)) rfl (.val (.int x17)) rfl (.val (.int z0)) rfl (.val (.int q1)) rfl (.val (.int (x12 % (3 : Int32)))) rfl y24 hy24 y25 hy25 y26 hy26 y27 hy27 y28 hy28 _ hr
                  · replace hr := (if_neg c44).symm.trans hr
                    exact e_law_701 hw hs V hk42 x1 x3 x4 x5 x6 x7 x8 x9 x11 x13 x14 x15 x16 (0 : Int32) (-1 : Int32) (0 : Int32) q42.2 (.val (.int x10)) rfl (.val (.int x12)) rfl (.val (.int x17)) rfl (.val (.int z0)) rfl (.val (.int q1)) rfl (.val (.int (x12 % (3 : Int32)))) rfl y24 hy24 y25 hy25 y26 hy26 y27 hy27 y28 hy28 _ hr
                · replace hr := (if_neg c41).symm.trans hr
                  refine Ev.iload at_648 rfl ?_
                  refine Ev.iconst (z := 1) at_650 rfl ?_
                  refine Ev.icne (t := 696) at_651 rfl (fun c45 => ?_) (fun c45 => ?_)
                  · replace hr := (if_pos c45).symm.trans hr
                    refine Ev.aloadN at_654 rfl ?_
                    refine Ev.iload at_655 rfl ?_
                    refine Ev.iconst (z := 1) at_657 rfl ?_
                    refine Ev.iload at_658 rfl ?_
                    refine Ev.iconst (z := 2) at_660 rfl ?_
                    refine Ev.ishr at_661 ?_
                    refine Ev.bipush (z := 15) at_662 rfl ?_
                    refine Ev.iand at_664 ?_
                    refine Ev.iadd at_665 ?_
                    obtain ⟨q46, hq47, hr⟩ := Option.bind_eq_some_iff.mp hr
                    refine Ev.virt (y := M_reallocHandle) (args := [.int x11, .int ((1 : Int32) + ((x12 >>> ((2 : Int32) &&& 31)) &&& (15 : Int32)))]) (rest := []) (gok hw) rfl nm_reallocHandle (ww hw 191 rfl) (ww hw 192 rfl) (ww hw 193 rfl) (ww hw 194 rfl) (ww hw 195 rfl) (lenOf pd_reallocHandle rfl) at_666 (V.2.1 s) (e_reallocHandle hw V hq47) (by decide) (Nat.le_of_ble_eq_true rfl) rfl ?_
                    refine Ev.istD (L' := [.val (.ref 0), .val (.int x1), .val (.ref o), .val (.int x3), .val (.int x4), .val (.int x5), .val (.int x6), .val (.int x7), .val (.int x8), .val (.int x9), .val (.int x10), .val (.int x11), .val (.int x12), .val (.int x13), .val (.int x14), .val (.int x15), .val (.int x16), .val (.int x17), .val (.int z0), .val (.int q1), .val (.int (0 : Int32)), .val (.int (-1 : Int32)), .val (.int (0 : Int32)), .val (.int (x12 % (3 : Int32))), .val (.int q46.1), y25, y26, y27, y28]) at_669 rfl hy24 rfl ?_
                    refine Ev.iinc (z := 1) (L' := [.val (.ref 0), .val (.int x1), .val (.ref o), .val (.int x3), .val (.int x4), .val (.int x5), .val (.int x6), .val (.int (x7 + (1 : Int32))), .val (.int x8), .val (.int x9), .val (.int x10), .val (.int x11), .val (.int x12), .val (.int x13), .val (.int x14), .val (.int x15), .val (.int x16), .val (.int x17), .val (.int z0), .val (.int q1), .val (.int (0 : Int32)), .val (.int (-1 : Int32)), .val (.int (0 : Int32)), .val (.int (x12 % (3 : Int32))), .val (.int q46.1), y25, y26, y27, y28]) at_671 rfl rfl rfl ?_
                    refine Ev.iload at_674 rfl ?_
                    refine Ev.ifne (t := 693) at_676 rfl (fun c48 => ?_) (fun c48 => ?_)
                    · replace hr := (if_pos c48).symm.trans hr
                      refine Ev.iinc (z := 1) (L' := [.val (.ref 0), .val (.int x1), .val (.ref o), .val (.int x3), .val (.int x4), .val (.int x5), .val (.int x6), .val (.int (x7 + (1 : Int32))), .val (.int (x8 + (1 : Int32))), .val (.int x9), .val (.int x10), .val (.int x11), .val (.int x12), .val (.int x13), .val (.int x14), .val (.int x15), .val (.int x16), .val (.int x17), .val (.int z0), .val (.int q1), .val (.int (0 : Int32)), .val (.int (-1 : Int32)), .val (.int (0 : Int32)), .val (.int (x12 % (3 : Int32))), .val (.int q46.1), y25, y26, y27, y28]) at_679 rfl rfl rfl ?_
                      refine Ev.iload at_682 rfl ?_
                      refine Ev.istD (L' := [.val (.ref 0), .val (.int x1), .val (.ref o), .val (.int x3), .val (.int x4), .val (.int x5), .val (.int x6), .val (.int (x7 + (1 : Int32))), .val (.int (x8 + (1 : Int32))), .val (.int x9), .val (.int x10), .val (.int x11), .val (.int x12), .val (.int x13), .val (.int x14), .val (.int x15), .val (.int x16), .val (.int x17), .val (.int z0), .val (.int q1), .val (.int (0 : Int32)), .val (.int x11), .val (.int (0 : Int32)), .val (.int (x12 % (3 : Int32))), .val (.int q46.1), y25, y26, y27, y28]) at_684 rfl rfl rfl ?_
                      refine Ev.iload at_686 rfl ?_
                      refine Ev.bipush (z := 9) at_688 rfl ?_
                      refine Ev.ishl at_690 ?_
                      refine Ev.istD (L' := [.val (.ref 0), .val (.int x1), .val (.ref o), .val (.int x3), .val (.int x4), .val (.int x5), .val (.int x6), .val (.int (x7 + (1 : Int32))), .val (.int (x8 + (1 : Int32))), .val (.int x9), .val (.int x10), .val (.int x11), .val (.int x12), .val (.int x13), .val (.int x14), .val (.int x15), .val (.int x16), .val (.int x17), .val (.int z0), .val (.int q1), .val (.int (0 : Int32)), .val (.int x11), .val (.int ((x8 + (1 : Int32)) <<< ((9 : Int32) &&& 31))), .val (.int (x12 % (3 : Int32))), .val (.int q46.1), y25, y26, y27, y28]) at_691 rfl rfl rfl ?_
                      refine Ev.goto (t := 701) at_693 rfl ?_
                      exact e_law_701 hw hs V hk42 x1 x3 x4 x5 x6 (x7 + (1 : Int32)) (x8 + (1 : Int32)) x9 x11 x13 x14 x15 x16 (0 : Int32) x11 ((x8 + (1 : Int32)) <<< ((9 : Int32) &&& 31)) q46.2 (.val (.int x10)) rfl (.val (.int x12)) rfl (.val (.int x17)) rfl (.val (.int z0)) rfl (.val (.int q1)) rfl (.val (.int (x12 % (3 : Int32)))) rfl (.val (.int q46.1)) rfl y25 hy25 y26 hy26 y27 hy27 y28 hy28 _ hr
                    · replace hr := (if_neg c48).symm.trans hr
                      refine Ev.goto (t := 701) at_693 rfl ?_
                      exact e_law_701 hw hs V hk42 x1 x3 x4 x5 x6 (x7 + (1 : Int32)) x8 x9 x11 x13 x14 x15 x16 (0 : Int32) (-1 : Int32) (0 : Int32) q46.2 (.val (.int x10)) rfl (.val (.int x12)) rfl (.val (.int x17)) rfl (.val (.int z0)) rfl (.val (.int q1)) rfl (.val (.int (x12 % (3 : Int32)))) rfl (.val (.int q46.1)) rfl y25 hy25 y26 hy26 y27 hy27 y28 hy28 _ hr
                  · replace hr := (if_neg c45).symm.trans hr
                    refine Ev.aloadN at_696 rfl ?_
                    obtain ⟨q49, hq50, hr⟩ := Option.bind_eq_some_iff.mp hr
                    refine Ev.virt (y := M_compact) (args := []) (rest := []) (gok hw) rfl nm_compact (ww hw 159 rfl) (ww hw 160 rfl) (ww hw 161 rfl) (ww hw 162 rfl) (ww hw 163 rfl) (lenOf pd_compact rfl) at_697 (V.2.1 s) (e_compact hw V hq50) (by decide) (Nat.le_of_ble_eq_true rfl) rfl ?_
                    refine Ev.pop at_700 rfl ?_
                    exact e_law_701 hw hs V hk42 x1 x3 x4 x5 x6 x7 x8 x9 x11 x13 x14 x15 x16 (0 : Int32) (-1 : Int32) (0 : Int32) q49.2 (.val (.int x10)) rfl (.val (.int x12)) rfl (.val (.int x17)) rfl (.val (.int z0)) rfl (.val (.int q1)) rfl (.val (.int (x12 % (3 : Int32)))) rfl y24 hy24 y25 hy25 y26 hy26 y27 hy27 y28 hy28 _ hr
def f_law_109 (n : Nat) (sn : Nat) (sf : Nat → Int32) (k42 : Int32 → Int32 → Int32 → Int32 → Int32 → Int32 → Int32 → Int32 → St → Option (Int32 × St)) : Nat → Int32 → Int32 → Int32 → Int32 → Int32 → Int32 → Int32 → Int32 → Int32 → Int32 → Int32 → Int32 → Int32 → Int32 → Int32 → Int32 → St → Option (Int32 × St)
  | 0 => fun _ _ _ _ _ _ _ _ _ _ _ _ _ _ _ _ _ => none
  | k + 1 => fun x1 x3 x4 x5 x6 x7 x8 x9 x10 x11 x12 x13 x14 x15 x16 x17 s =>
    if x17 < (4 : Int32) then
      (f_getState s x17).bind fun q2 =>
      if q2 = (1 : Int32) then
        (f_getFlags s x17).bind fun q5 =>
        if (q5 &&& (1 : Int32)) = 0 then
          f_law_146 n sn sf k42 (f_law_109 n sn sf k42 k) x1 x3 x4 x5 x6 x7 x8 x9 x10 x11 x12 x13 x14 x15 x16 x17 (-1 : Int32) s
        else
          (f_getAddress s x17).bind fun q8 =>
          f_law_146 n sn sf k42 (f_law_109 n sn sf k42 k) x1 x3 x4 x5 x6 x7 x8 x9 x10 x11 x12 x13 x14 x15 x16 x17 q8 s
      else
        f_law_146 n sn sf k42 (f_law_109 n sn sf k42 k) x1 x3 x4 x5 x6 x7 x8 x9 x10 x11 x12 x13 x14 x15 x16 x17 (-1 : Int32) s
    else
      (f_hpick x11 x3 x4 x5 x6).bind fun q10 =>
      (f_getState s x11).bind fun q12 =>
      if q12 = (1 : Int32) then
        f_law_225 n sn sf k42 x1 x3 x4 x5 x6 x7 x8 x9 x10 x11 x12 x13 x14 x15 x16 q10 (1 : Int32) s
      else
        f_law_225 n sn sf k42 x1 x3 x4 x5 x6 x7 x8 x9 x10 x11 x12 x13 x14 x15 x16 q10 (0 : Int32) s
set_option maxRecDepth 100000 in
theorem e_law_109 {g : GT} {n : Nat} {sn : Nat} {sf : Nat → Int32} (hw : HW g) {K : St → MHeap} {o : Nat} {r : Nat → Nat} (hs : ∀ s, (K s)[0]? = some (.inr (false, tab sn sf))) (V : View (GG g) Ln K o r) {k42 : Int32 → Int32 → Int32 → Int32 → Int32 → Int32 → Int32 → Int32 → St → Option (Int32 × St)} (hk42 : ∀ (x1 : Int32) (x3 : Int32) (x4 : Int32) (x5 : Int32) (x6 : Int32) (x7 : Int32) (x8 : Int32) (x9 : Int32) (s : St) (y10 : Slot) (hy10 : one1 y10 = true) (y11 : Slot) (hy11 : one1 y11 = true) (y12 : Slot) (hy12 : one1 y12 = true) (y13 : Slot) (hy13 : one1 y13 = true) (y14 : Slot) (hy14 : one1 y14 = true) (y15 : Slot) (hy15 : one1 y15 = true) (y16 : Slot) (hy16 : one1 y16 = true) (y17 : Slot) (hy17 : one1 y17 = true) (y18 : Slot) (hy18 : one1 y18 = true) (y19 : Slot) (hy19 : one1 y19 = true) (y20 : Slot) (hy20 : one1 y20 = true) (y21 : Slot) (hy21 : one1 y21 = true) (y22 : Slot) (hy22 : one1 y22 = true) (y23 : Slot) (hy23 : one1 y23 = true) (y24 : Slot) (hy24 : one1 y24 = true) (y25 : Slot) (hy25 : one1 y25 = true) (y26 : Slot) (hy26 : one1 y26 = true) (y27 : Slot) (hy27 : one1 y27 = true) (y28 : Slot) (hy28 : one1 y28 = true) (w : Int32 × St), k42 x1 x3 x4 x5 x6 x7 x8 x9 s = some w → Ev (GG g) M_law 42 [.val (.ref 0), .val (.int x1), .val (.ref o), .val (.int x3), .val (.int x4), .val (.int x5), .val (.int x6), .val (.int x7), .val (.int x8), .val (.int x9), y10, y11, y12, y13, y14, y15, y16, y17, y18, y19, y20, y21, y22, y23, y24, y25, y26, y27, y28] [] (K s) ((some (.int w.1)), (K w.2))) (k : Nat) : ∀ (x1 : Int32) (x3 : Int32) (x4 : Int32) (x5 : Int32) (x6 : Int32) (x7 : Int32) (x8 : Int32) (x9 : Int32) (x10 : Int32) (x11 : Int32) (x12 : Int32) (x13 : Int32) (x14 : Int32) (x15 : Int32) (x16 : Int32) (x17 : Int32) (s : St) (y18 : Slot) (hy18 : one1 y18 = true) (y19 : Slot) (hy19 : one1 y19 = true) (y20 : Slot) (hy20 : one1 y20 = true) (y21 : Slot) (hy21 : one1 y21 = true) (y22 : Slot) (hy22 : one1 y22 = true) (y23 : Slot) (hy23 : one1 y23 = true) (y24 : Slot) (hy24 : one1 y24 = true) (y25 : Slot) (hy25 : one1 y25 = true) (y26 : Slot) (hy26 : one1 y26 = true) (y27 : Slot) (hy27 : one1 y27 = true) (y28 : Slot) (hy28 : one1 y28 = true) (w : Int32 × St), f_law_109 n sn sf k42 k x1 x3 x4 x5 x6 x7 x8 x9 x10 x11 x12 x13 x14 x15 x16 x17 s = some w → Ev (GG g) M_law 109 [.val (.ref 0), .val (.int x1), .val (.ref o), .val (.int x3), .val (.int x4), .val (.int x5), .val (.int x6), .val (.int x7), .val (.int x8), .val (.int x9), .val (.int x10), .val (.int x11), .val (.int x12), .val (.int x13), .val (.int x14), .val (.int x15), .val (.int x16), .val (.int x17), y18, y19, y20, y21, y22, y23, y24, y25, y26, y27, y28] [] (K s) ((some (.int w.1)), (K w.2)) := by
  induction k with
  | zero => intro x1 x3 x4 x5 x6 x7 x8 x9 x10 x11 x12 x13 x14 x15 x16 x17 s y18 hy18 y19 hy19 y20 hy20 y21 hy21 y22 hy22 y23 hy23 y24 hy24 y25 hy25 y26 hy26 y27 hy27 y28 hy28 w hr; rw [f_law_109] at hr; cases hr
  | succ k ih =>
    intro x1 x3 x4 x5 x6 x7 x8 x9 x10 x11 x12 x13 x14 x15 x16 x17 s y18 hy18 y19 hy19 y20 hy20 y21 hy21 y22 hy22 y23 hy23 y24 hy24 y25 hy25 y26 hy26 y27 hy27 y28 hy28 w hr
    rw [f_law_109] at hr
    refine Ev.iload at_109 rfl ?_
    refine Ev.iconst (z := 4) at_111 rfl ?_
    refine Ev.icge (t := 196) at_112 rfl (fun c1 => ?_) (fun c1 => ?_)
    · replace hr := (if_pos c1).symm.trans hr
      refine Ev.aloadN at_115 rfl ?_
      refine Ev.iload at_116 rfl ?_
      obtain ⟨q2, hq3, hr⟩ := Option.bind_eq_some_iff.mp hr
      refine Ev.virt (y := M_getState) (args := [.int x17]) (rest := []) (gok hw) rfl nm_getState (ww hw 43 rfl) (ww hw 44 rfl) (ww hw 45 rfl) (ww hw 46 rfl) (ww hw 47 rfl) (lenOf pd_getState rfl) at_118 (V.2.1 s) (e_getState hw V hq3) (by decide) (Nat.le_of_ble_eq_true rfl) rfl ?_
      refine Ev.iconst (z := 1) at_121 rfl ?_
      refine Ev.icne (t := 145) at_122 rfl (fun c4 => ?_) (fun c4 => ?_)
      · replace hr := (if_pos c4).symm.trans hr
        refine Ev.aloadN at_125 rfl ?_
        refine Ev.iload at_126 rfl ?_
        obtain ⟨q5, hq6, hr⟩ := Option.bind_eq_some_iff.mp hr
        refine Ev.virt (y := M_getFlags) (args := [.int x17]) (rest := []) (gok hw) rfl nm_getFlags (ww hw 111 rfl) (ww hw 112 rfl) (ww hw 113 rfl) (ww hw 114 rfl) (ww hw 115 rfl) (lenOf pd_getFlags rfl) at_128 (V.2.1 s) (e_getFlags hw V hq6) (by decide) (Nat.le_of_ble_eq_true rfl) rfl ?_
        refine Ev.iconst (z := 1) at_131 rfl ?_
        refine Ev.iand at_132 ?_
        refine Ev.ifeq (t := 145) at_133 rfl (fun c7 => ?_) (fun c7 => ?_)
        · replace hr := (if_pos c7).symm.trans hr
          refine Ev.iconst (z := -1) at_145 rfl ?_
          exact e_law_146 hw hs V hk42 ih x1 x3 x4 x5 x6 x7 x8 x9 x10 x11 x12 x13 x14 x15 x16 x17 (-1 : Int32) s y18 hy18 y19 hy19 y20 hy20 y21 hy21 y22 hy22 y23 hy23 y24 hy24 y25 hy25 y26 hy26 y27 hy27 y28 hy28 _ hr
        · replace hr := (if_neg c7).symm.trans hr
          refine Ev.aloadN at_136 rfl ?_
          refine Ev.iload at_137 rfl ?_
          obtain ⟨q8, hq9, hr⟩ := Option.bind_eq_some_iff.mp hr
          refine Ev.virt (y := M_getAddress) (args := [.int x17]) (rest := []) (gok hw) rfl nm_getAddress (ww hw 106 rfl) (ww hw 107 rfl) (ww hw 108 rfl) (ww hw 109 rfl) (ww hw 110 rfl) (lenOf pd_getAddress rfl) at_139 (V.2.1 s) (e_getAddress hw V hq9) (by decide) (Nat.le_of_ble_eq_true rfl) rfl ?_
          refine Ev.goto (t := 146) at_142 rfl ?_
          exact e_law_146 hw hs V hk42 ih x1 x3 x4 x5 x6 x7 x8 x9 x10 x11 x12 x13 x14 x15 x16 x17 q8 s y18 hy18 y19 hy19 y20 hy20 y21 hy21 y22 hy22 y23 hy23 y24 hy24 y25 hy25 y26 hy26 y27 hy27 y28 hy28 _ hr
      · replace hr := (if_neg c4).symm.trans hr
        refine Ev.iconst (z := -1) at_145 rfl ?_
        exact e_law_146 hw hs V hk42 ih x1 x3 x4 x5 x6 x7 x8 x9 x10 x11 x12 x13 x14 x15 x16 x17 (-1 : Int32) s y18 hy18 y19 hy19 y20 hy20 y21 hy21 y22 hy22 y23 hy23 y24 hy24 y25 hy25 y26 hy26 y27 hy27 y28 hy28 _ hr
    · replace hr := (if_neg c1).symm.trans hr
      refine Ev.iload at_196 rfl ?_
      refine Ev.iloadN at_198 rfl ?_
      refine Ev.iload at_199 rfl ?_
      refine Ev.iload at_201 rfl ?_
      refine Ev.iload at_203 rfl ?_
      obtain ⟨q10, hq11, hr⟩ := Option.bind_eq_some_iff.mp hr
      refine Ev.stat (y := M_hpick) (args := [.int x11, .int x3, .int x4, .int x5, .int x6]) (rest := []) nm_hpick (ww hw 52 rfl) (ww hw 53 rfl) (ww hw 2 rfl) (ww hw 54 rfl) (lenOf pd_hpick rfl) at_205 (e_hpick hw hq11) (by decide) (Nat.le_of_ble_eq_true rfl) rfl ?_
      refine Ev.istD (L' := [.val (.ref 0), .val (.int x1), .val (.ref o), .val (.int x3), .val (.int x4), .val (.int x5), .val (.int x6), .val (.int x7), .val (.int x8), .val (.int x9), .val (.int x10), .val (.int x11), .val (.int x12), .val (.int x13), .val (.int x14), .val (.int x15), .val (.int x16), .val (.int q10), y18, y19, y20, y21, y22, y23, y24, y25, y26, y27, y28]) at_208 rfl rfl rfl ?_
      refine Ev.aloadN at_210 rfl ?_
      refine Ev.iload at_211 rfl ?_
      obtain ⟨q12, hq13, hr⟩ := Option.bind_eq_some_iff.mp hr
      refine Ev.virt (y := M_getState) (args := [.int x11]) (rest := []) (gok hw) rfl nm_getState (ww hw 43 rfl) (ww hw 44 rfl) (ww hw 45 rfl) (ww hw 46 rfl) (ww hw 47 rfl) (lenOf pd_getState rfl) at_213 (V.2.1 s) (e_getState hw V hq13) (by decide) (Nat.le_of_ble_eq_true rfl) rfl ?_
      refine Ev.iconst (z := 1) at_216 rfl ?_
      refine Ev.icne (t := 224) at_217 rfl (fun c14 => ?_) (fun c14 => ?_)
      · replace hr := (if_pos c14).symm.trans hr
        refine Ev.iconst (z := 1) at_220 rfl ?_
        refine Ev.goto (t := 225) at_221 rfl ?_
        exact e_law_225 hw hs V hk42 x1 x3 x4 x5 x6 x7 x8 x9 x10 x11 x12 x13 x14 x15 x16 q10 (1 : Int32) s y18 hy18 y19 hy19 y20 hy20 y21 hy21 y22 hy22 y23 hy23 y24 hy24 y25 hy25 y26 hy26 y27 hy27 y28 hy28 _ hr
      · replace hr := (if_neg c14).symm.trans hr
        refine Ev.iconst (z := 0) at_224 rfl ?_
        exact e_law_225 hw hs V hk42 x1 x3 x4 x5 x6 x7 x8 x9 x10 x11 x12 x13 x14 x15 x16 q10 (0 : Int32) s y18 hy18 y19 hy19 y20 hy20 y21 hy21 y22 hy22 y23 hy23 y24 hy24 y25 hy25 y26 hy26 y27 hy27 y28 hy28 _ hr
def f_law_1019 (n : Nat) (sn : Nat) (sf : Nat → Int32) (k975 : Int32 → Int32 → Int32 → Int32 → Int32 → St → Option (Int32 × St)) : Nat → Int32 → Int32 → Int32 → Int32 → Int32 → Int32 → Int32 → Int32 → St → Option (Int32 × St)
  | 0 => fun _ _ _ _ _ _ _ _ _ => none
  | k + 1 => fun x3 x4 x5 x6 x9 x10 x11 x12 s =>
    if x12 < x10 then
      (f_read x9 x12 s).bind fun q2 =>
      (f_hexpect x11 x12).bind fun q4 =>
      if q2.1 = q4 then
        f_law_1019 n sn sf k975 k x3 x4 x5 x6 x9 x10 x11 (x12 + (1 : Int32)) q2.2
      else
        some ((0 : Int32), q2.2)
    else
      k975 x3 x4 x5 x6 (x9 + (1 : Int32)) s
set_option maxRecDepth 100000 in
theorem e_law_1019 {g : GT} {n : Nat} {sn : Nat} {sf : Nat → Int32} (hw : HW g) {K : St → MHeap} {o : Nat} {r : Nat → Nat} (hs : ∀ s, (K s)[0]? = some (.inr (false, tab sn sf))) (V : View (GG g) Ln K o r) {k975 : Int32 → Int32 → Int32 → Int32 → Int32 → St → Option (Int32 × St)} (hk975 : ∀ (x3 : Int32) (x4 : Int32) (x5 : Int32) (x6 : Int32) (x9 : Int32) (s : St) (y0 : Slot) (hy0 : one1 y0 = true) (y1 : Slot) (hy1 : one1 y1 = true) (y7 : Slot) (hy7 : one1 y7 = true) (y8 : Slot) (hy8 : one1 y8 = true) (y10 : Slot) (hy10 : one1 y10 = true) (y11 : Slot) (hy11 : one1 y11 = true) (y12 : Slot) (hy12 : one1 y12 = true) (y13 : Slot) (hy13 : one1 y13 = true) (y14 : Slot) (hy14 : one1 y14 = true) (y15 : Slot) (hy15 : one1 y15 = true) (y16 : Slot) (hy16 : one1 y16 = true) (y17 : Slot) (hy17 : one1 y17 = true) (y18 : Slot) (hy18 : one1 y18 = true) (y19 : Slot) (hy19 : one1 y19 = true) (y20 : Slot) (hy20 : one1 y20 = true) (y21 : Slot) (hy21 : one1 y21 = true) (y22 : Slot) (hy22 : one1 y22 = true) (y23 : Slot) (hy23 : one1 y23 = true) (y24 : Slot) (hy24 : one1 y24 = true) (y25 : Slot) (hy25 : one1 y25 = true) (y26 : Slot) (hy26 : one1 y26 = true) (y27 : Slot) (hy27 : one1 y27 = true) (y28 : Slot) (hy28 : one1 y28 = true) (w : Int32 × St), k975 x3 x4 x5 x6 x9 s = some w → Ev (GG g) M_law 975 [y0, y1, .val (.ref o), .val (.int x3), .val (.int x4), .val (.int x5), .val (.int x6), y7, y8, .val (.int x9), y10, y11, y12, y13, y14, y15, y16, y17, y18, y19, y20, y21, y22, y23, y24, y25, y26, y27, y28] [] (K s) ((some (.int w.1)), (K w.2))) (k : Nat) : ∀ (x3 : Int32) (x4 : Int32) (x5 : Int32) (x6 : Int32) (x9 : Int32) (x10 : Int32) (x11 : Int32) (x12 : Int32) (s : St) (y0 : Slot) (hy0 : one1 y0 = true) (y1 : Slot) (hy1 : one1 y1 = true) (y7 : Slot) (hy7 : one1 y7 = true) (y8 : Slot) (hy8 : one1 y8 = true) (y13 : Slot) (hy13 : one1 y13 = true) (y14 : Slot) (hy14 : one1 y14 = true) (y15 : Slot) (hy15 : one1 y15 = true) (y16 : Slot) (hy16 : one1 y16 = true) (y17 : Slot) (hy17 : one1 y17 = true) (y18 : Slot) (hy18 : one1 y18 = true) (y19 : Slot) (hy19 : one1 y19 = true) (y20 : Slot) (hy20 : one1 y20 = true) (y21 : Slot) (hy21 : one1 y21 = true) (y22 : Slot) (hy22 : one1 y22 = true) (y23 : Slot) (hy23 : one1 y23 = true) (y24 : Slot) (hy24 : one1 y24 = true) (y25 : Slot) (hy25 : one1 y25 = true) (y26 : Slot) (hy26 : one1 y26 = true) (y27 : Slot) (hy27 : one1 y27 = true) (y28 : Slot) (hy28 : one1 y28 = true) (w : Int32 × St), f_law_1019 n sn sf k975 k x3 x4 x5 x6 x9 x10 x11 x12 s = some w → Ev (GG g) M_law 1019 [y0, y1, .val (.ref o), .val (.int x3), .val (.int x4), .val (.int x5), .val (.int x6), y7, y8, .val (.int x9), .val (.int x10), .val (.int x11), .val (.int x12), y13, y14, y15, y16, y17, y18, y19, y20, y21, y22, y23, y24, y25, y26, y27, y28] [] (K s) ((some (.int w.1)), (K w.2)) := by
  induction k with
  | zero => intro x3 x4 x5 x6 x9 x10 x11 x12 s y0 hy0 y1 hy1 y7 hy7 y8 hy8 y13 hy13 y14 hy14 y15 hy15 y16 hy16 y17 hy17 y18 hy18 y19 hy19 y20 hy20 y21 hy21 y22 hy22 y23 hy23 y24 hy24 y25 hy25 y26 hy26 y27 hy27 y28 hy28 w hr; rw [f_law_1019] at hr; cases hr
  | succ k ih =>
    intro x3 x4 x5 x6 x9 x10 x11 x12 s y0 hy0 y1 hy1 y7 hy7 y8 hy8 y13 hy13 y14 hy14 y15 hy15 y16 hy16 y17 hy17 y18 hy18 y19 hy19 y20 hy20 y21 hy21 y22 hy22 y23 hy23 y24 hy24 y25 hy25 y26 hy26 y27 hy27 y28 hy28 w hr
    rw [f_law_1019] at hr
    refine Ev.iload at_1019 rfl ?_
    refine Ev.iload at_1021 rfl ?_
    refine Ev.icge (t := 1052) at_1023 rfl (fun c1 => ?_) (fun c1 => ?_)
    · replace hr := (if_pos c1).symm.trans hr
      refine Ev.aloadN at_1026 rfl ?_
      refine Ev.iload at_1027 rfl ?_
      refine Ev.iload at_1029 rfl ?_
      obtain ⟨q2, hq3, hr⟩ := Option.bind_eq_some_iff.mp hr
      refine Ev.virt (y := M_read) (args := [.int x9, .int x12]) (rest := []) (gok hw) rfl nm_read (ww hw 141 rfl) (ww hw 142 rfl) (ww hw 143 rfl) (ww hw 144 rfl) (ww hw 145 rfl) (lenOf pd_read rfl) at_1031 (V.2.1 s) (e_read hw V hq3) (by decide) (Nat.le_of_ble_eq_true rfl) rfl ?_
      refine Ev.iload at_1034 rfl ?_
      refine Ev.iload at_1036 rfl ?_
      obtain ⟨q4, hq5, hr⟩ := Option.bind_eq_some_iff.mp hr
      refine Ev.stat (y := M_hexpect) (args := [.int x11, .int x12]) (rest := [.int q2.1]) nm_hexpect (ww hw 146 rfl) (ww hw 147 rfl) (ww hw 2 rfl) (ww hw 148 rfl) (lenOf pd_hexpect rfl) at_1038 (e_hexpect hw hq5) (by decide) (Nat.le_of_ble_eq_true rfl) rfl ?_
      refine Ev.iceq (t := 1046) at_1041 rfl (fun c6 => ?_) (fun c6 => ?_)
      · replace hr := (if_pos c6).symm.trans hr
        refine Ev.iinc (z := 1) (L' := [y0, y1, .val (.ref o), .val (.int x3), .val (.int x4), .val (.int x5), .val (.int x6), y7, y8, .val (.int x9), .val (.int x10), .val (.int x11), .val (.int (x12 + (1 : Int32))), y13, y14, y15, y16, y17, y18, y19, y20, y21, y22, y23, y24, y25, y26, y27, y28]) at_1046 rfl rfl rfl ?_
        refine Ev.goto (t := 1019) at_1049 rfl ?_
        exact ih x3 x4 x5 x6 x9 x10 x11 (x12 + (1 : Int32)) q2.2 y0 hy0 y1 hy1 y7 hy7 y8 hy8 y13 hy13 y14 hy14 y15 hy15 y16 hy16 y17 hy17 y18 hy18 y19 hy19 y20 hy20 y21 hy21 y22 hy22 y23 hy23 y24 hy24 y25 hy25 y26 hy26 y27 hy27 y28 hy28 _ hr
      · replace hr := (if_neg c6).symm.trans hr
        refine Ev.iconst (z := 0) at_1044 rfl ?_
        cases hr
        exact Ev.zret0 rfl at_1045
    · replace hr := (if_neg c1).symm.trans hr
      refine Ev.iinc (z := 1) (L' := [y0, y1, .val (.ref o), .val (.int x3), .val (.int x4), .val (.int x5), .val (.int x6), y7, y8, .val (.int (x9 + (1 : Int32))), .val (.int x10), .val (.int x11), .val (.int x12), y13, y14, y15, y16, y17, y18, y19, y20, y21, y22, y23, y24, y25, y26, y27, y28]) at_1052 rfl rfl rfl ?_
      refine Ev.goto (t := 975) at_1055 rfl ?_
      exact hk975 x3 x4 x5 x6 (x9 + (1 : Int32)) s y0 hy0 y1 hy1 y7 hy7 y8 hy8 (.val (.int x10)) rfl (.val (.int x11)) rfl (.val (.int x12)) rfl y13 hy13 y14 hy14 y15 hy15 y16 hy16 y17 hy17 y18 hy18 y19 hy19 y20 hy20 y21 hy21 y22 hy22 y23 hy23 y24 hy24 y25 hy25 y26 hy26 y27 hy27 y28 hy28 _ hr
def f_law_975 (n : Nat) (sn : Nat) (sf : Nat → Int32) : Nat → Int32 → Int32 → Int32 → Int32 → Int32 → St → Option (Int32 × St)
  | 0 => fun _ _ _ _ _ _ => none
  | k + 1 => fun x3 x4 x5 x6 x9 s =>
    if x9 < (4 : Int32) then
      (f_getState s x9).bind fun q2 =>
      if q2 = (1 : Int32) then
        (f_getSize s x9).bind fun q5 =>
        (f_hpick x9 x3 x4 x5 x6).bind fun q7 =>
        f_law_1019 n sn sf (f_law_975 n sn sf k) n x3 x4 x5 x6 x9 q5 q7 (0 : Int32) s
      else
        f_law_975 n sn sf k x3 x4 x5 x6 (x9 + (1 : Int32)) s
    else
      some ((1 : Int32), s)
set_option maxRecDepth 100000 in
theorem e_law_975 {g : GT} {n : Nat} {sn : Nat} {sf : Nat → Int32} (hw : HW g) {K : St → MHeap} {o : Nat} {r : Nat → Nat} (hs : ∀ s, (K s)[0]? = some (.inr (false, tab sn sf))) (V : View (GG g) Ln K o r) (k : Nat) : ∀ (x3 : Int32) (x4 : Int32) (x5 : Int32) (x6 : Int32) (x9 : Int32) (s : St) (y0 : Slot) (hy0 : one1 y0 = true) (y1 : Slot) (hy1 : one1 y1 = true) (y7 : Slot) (hy7 : one1 y7 = true) (y8 : Slot) (hy8 : one1 y8 = true) (y10 : Slot) (hy10 : one1 y10 = true) (y11 : Slot) (hy11 : one1 y11 = true) (y12 : Slot) (hy12 : one1 y12 = true) (y13 : Slot) (hy13 : one1 y13 = true) (y14 : Slot) (hy14 : one1 y14 = true) (y15 : Slot) (hy15 : one1 y15 = true) (y16 : Slot) (hy16 : one1 y16 = true) (y17 : Slot) (hy17 : one1 y17 = true) (y18 : Slot) (hy18 : one1 y18 = true) (y19 : Slot) (hy19 : one1 y19 = true) (y20 : Slot) (hy20 : one1 y20 = true) (y21 : Slot) (hy21 : one1 y21 = true) (y22 : Slot) (hy22 : one1 y22 = true) (y23 : Slot) (hy23 : one1 y23 = true) (y24 : Slot) (hy24 : one1 y24 = true) (y25 : Slot) (hy25 : one1 y25 = true) (y26 : Slot) (hy26 : one1 y26 = true) (y27 : Slot) (hy27 : one1 y27 = true) (y28 : Slot) (hy28 : one1 y28 = true) (w : Int32 × St), f_law_975 n sn sf k x3 x4 x5 x6 x9 s = some w → Ev (GG g) M_law 975 [y0, y1, .val (.ref o), .val (.int x3), .val (.int x4), .val (.int x5), .val (.int x6), y7, y8, .val (.int x9), y10, y11, y12, y13, y14, y15, y16, y17, y18, y19, y20, y21, y22, y23, y24, y25, y26, y27, y28] [] (K s) ((some (.int w.1)), (K w.2)) := by
  induction k with
  | zero => intro x3 x4 x5 x6 x9 s y0 hy0 y1 hy1 y7 hy7 y8 hy8 y10 hy10 y11 hy11 y12 hy12 y13 hy13 y14 hy14 y15 hy15 y16 hy16 y17 hy17 y18 hy18 y19 hy19 y20 hy20 y21 hy21 y22 hy22 y23 hy23 y24 hy24 y25 hy25 y26 hy26 y27 hy27 y28 hy28 w hr; rw [f_law_975] at hr; cases hr
  | succ k ih =>
    intro x3 x4 x5 x6 x9 s y0 hy0 y1 hy1 y7 hy7 y8 hy8 y10 hy10 y11 hy11 y12 hy12 y13 hy13 y14 hy14 y15 hy15 y16 hy16 y17 hy17 y18 hy18 y19 hy19 y20 hy20 y21 hy21 y22 hy22 y23 hy23 y24 hy24 y25 hy25 y26 hy26 y27 hy27 y28 hy28 w hr
    rw [f_law_975] at hr
    refine Ev.iload at_975 rfl ?_
    refine Ev.iconst (z := 4) at_977 rfl ?_
    refine Ev.icge (t := 1058) at_978 rfl (fun c1 => ?_) (fun c1 => ?_)
    · replace hr := (if_pos c1).symm.trans hr
      refine Ev.aloadN at_981 rfl ?_
      refine Ev.iload at_982 rfl ?_
      obtain ⟨q2, hq3, hr⟩ := Option.bind_eq_some_iff.mp hr
      refine Ev.virt (y := M_getState) (args := [.int x9]) (rest := []) (gok hw) rfl nm_getState (ww hw 43 rfl) (ww hw 44 rfl) (ww hw 45 rfl) (ww hw 46 rfl) (ww hw 47 rfl) (lenOf pd_getState rfl) at_984 (V.2.1 s) (e_getState hw V hq3) (by decide) (Nat.le_of_ble_eq_true rfl) rfl ?_
      refine Ev.iconst (z := 1) at_987 rfl ?_
      refine Ev.iceq (t := 994) at_988 rfl (fun c4 => ?_) (fun c4 => ?_)
      · replace hr := (if_pos c4).symm.trans hr
        refine Ev.aloadN at_994 rfl ?_
        refine Ev.iload at_995 rfl ?_
        obtain ⟨q5, hq6, hr⟩ := Option.bind_eq_some_iff.mp hr
        refine Ev.virt (y := M_getSize) (args := [.int x9]) (rest := []) (gok hw) rfl nm_getSize (ww hw 55 rfl) (ww hw 56 rfl) (ww hw 57 rfl) (ww hw 58 rfl) (ww hw 59 rfl) (lenOf pd_getSize rfl) at_997 (V.2.1 s) (e_getSize hw V hq6) (by decide) (Nat.le_of_ble_eq_true rfl) rfl ?_
        refine Ev.istD (L' := [y0, y1, .val (.ref o), .val (.int x3), .val (.int x4), .val (.int x5), .val (.int x6), y7, y8, .val (.int x9), .val (.int q5), y11, y12, y13, y14, y15, y16, y17, y18, y19, y20, y21, y22, y23, y24, y25, y26, y27, y28]) at_1000 rfl hy10 rfl ?_
        refine Ev.iload at_1002 rfl ?_
        refine Ev.iloadN at_1004 rfl ?_
        refine Ev.iload at_1005 rfl ?_
        refine Ev.iload at_1007 rfl ?_
        refine Ev.iload at_1009 rfl ?_
        obtain ⟨q7, hq8, hr⟩ := Option.bind_eq_some_iff.mp hr
        refine Ev.stat (y := M_hpick) (args := [.int x9, .int x3, .int x4, .int x5, .int x6]) (rest := []) nm_hpick (ww hw 52 rfl) (ww hw 53 rfl) (ww hw 2 rfl) (ww hw 54 rfl) (lenOf pd_hpick rfl) at_1011 (e_hpick hw hq8) (by decide) (Nat.le_of_ble_eq_true rfl) rfl ?_
        refine Ev.istD (L' := [y0, y1, .val (.ref o), .val (.int x3), .val (.int x4), .val (.int x5), .val (.int x6), y7, y8, .val (.int x9), .val (.int q5), .val (.int q7), y12, y13, y14, y15, y16, y17, y18, y19, y20, y21, y22, y23, y24, y25, y26, y27, y28]) at_1014 rfl hy11 rfl ?_
        refine Ev.iconst (z := 0) at_1016 rfl ?_
        refine Ev.istD (L' := [y0, y1, .val (.ref o), .val (.int x3), .val (.int x4), .val (.int x5), .val (.int x6), y7, y8, .val (.int x9), .val (.int q5), .val (.int q7), .val (.int (0 : Int32)), y13, y14, y15, y16, y17, y18, y19, y20, y21, y22, y23, y24, y25, y26, y27, y28]) at_1017 rfl hy12 rfl ?_
        exact e_law_1019 hw hs V ih n x3 x4 x5 x6 x9 q5 q7 (0 : Int32) s y0 hy0 y1 hy1 y7 hy7 y8 hy8 y13 hy13 y14 hy14 y15 hy15 y16 hy16 y17 hy17 y18 hy18 y19 hy19 y20 hy20 y21 hy21 y22 hy22 y23 hy23 y24 hy24 y25 hy25 y26 hy26 y27 hy27 y28 hy28 _ hr
      · replace hr := (if_neg c4).symm.trans hr
        refine Ev.goto (t := 1052) at_991 rfl ?_
        refine Ev.iinc (z := 1) (L' := [y0, y1, .val (.ref o), .val (.int x3), .val (.int x4), .val (.int x5), .val (.int x6), y7, y8, .val (.int (x9 + (1 : Int32))), y10, y11, y12, y13, y14, y15, y16, y17, y18, y19, y20, y21, y22, y23, y24, y25, y26, y27, y28]) at_1052 rfl rfl rfl ?_
        refine Ev.goto (t := 975) at_1055 rfl ?_
        exact ih x3 x4 x5 x6 (x9 + (1 : Int32)) s y0 hy0 y1 hy1 y7 hy7 y8 hy8 y10 hy10 y11 hy11 y12 hy12 y13 hy13 y14 hy14 y15 hy15 y16 hy16 y17 hy17 y18 hy18 y19 hy19 y20 hy20 y21 hy21 y22 hy22 y23 hy23 y24 hy24 y25 hy25 y26 hy26 y27 hy27 y28 hy28 _ hr
    · replace hr := (if_neg c1).symm.trans hr
      refine Ev.iconst (z := 1) at_1058 rfl ?_
      cases hr
      exact Ev.zret1 rfl at_1059
def f_law_972 (n : Nat) (sn : Nat) (sf : Nat → Int32) (x3 : Int32) (x4 : Int32) (x5 : Int32) (x6 : Int32) (s : St) : Option (Int32 × St) :=
  f_law_975 n sn sf n x3 x4 x5 x6 (0 : Int32) s
set_option maxRecDepth 100000 in
theorem e_law_972 {g : GT} {n : Nat} {sn : Nat} {sf : Nat → Int32} (hw : HW g) {K : St → MHeap} {o : Nat} {r : Nat → Nat} (hs : ∀ s, (K s)[0]? = some (.inr (false, tab sn sf))) (V : View (GG g) Ln K o r) (x3 : Int32) (x4 : Int32) (x5 : Int32) (x6 : Int32) (s : St) (y0 : Slot) (hy0 : one1 y0 = true) (y1 : Slot) (hy1 : one1 y1 = true) (y7 : Slot) (hy7 : one1 y7 = true) (y8 : Slot) (hy8 : one1 y8 = true) (y9 : Slot) (hy9 : one1 y9 = true) (y10 : Slot) (hy10 : one1 y10 = true) (y11 : Slot) (hy11 : one1 y11 = true) (y12 : Slot) (hy12 : one1 y12 = true) (y13 : Slot) (hy13 : one1 y13 = true) (y14 : Slot) (hy14 : one1 y14 = true) (y15 : Slot) (hy15 : one1 y15 = true) (y16 : Slot) (hy16 : one1 y16 = true) (y17 : Slot) (hy17 : one1 y17 = true) (y18 : Slot) (hy18 : one1 y18 = true) (y19 : Slot) (hy19 : one1 y19 = true) (y20 : Slot) (hy20 : one1 y20 = true) (y21 : Slot) (hy21 : one1 y21 = true) (y22 : Slot) (hy22 : one1 y22 = true) (y23 : Slot) (hy23 : one1 y23 = true) (y24 : Slot) (hy24 : one1 y24 = true) (y25 : Slot) (hy25 : one1 y25 = true) (y26 : Slot) (hy26 : one1 y26 = true) (y27 : Slot) (hy27 : one1 y27 = true) (y28 : Slot) (hy28 : one1 y28 = true) (w : Int32 × St) (hr : f_law_972 n sn sf x3 x4 x5 x6 s = some w) : Ev (GG g) M_law 972 [y0, y1, .val (.ref o), .val (.int x3), .val (.int x4), .val (.int x5), .val (.int x6), y7, y8, y9, y10, y11, y12, y13, y14, y15, y16, y17, y18, y19, y20, y21, y22, y23, y24, y25, y26, y27, y28] [] (K s) ((some (.int w.1)), (K w.2)) := by
  unfold f_law_972 at hr
  refine Ev.iconst (z := 0) at_972 rfl ?_
  refine Ev.istD (L' := [y0, y1, .val (.ref o), .val (.int x3), .val (.int x4), .val (.int x5), .val (.int x6), y7, y8, .val (.int (0 : Int32)), y10, y11, y12, y13, y14, y15, y16, y17, y18, y19, y20, y21, y22, y23, y24, y25, y26, y27, y28]) at_973 rfl hy9 rfl ?_
  exact e_law_975 hw hs V  n x3 x4 x5 x6 (0 : Int32) s y0 hy0 y1 hy1 y7 hy7 y8 hy8 y10 hy10 y11 hy11 y12 hy12 y13 hy13 y14 hy14 y15 hy15 y16 hy16 y17 hy17 y18 hy18 y19 hy19 y20 hy20 y21 hy21 y22 hy22 y23 hy23 y24 hy24 y25 hy25 y26 hy26 y27 hy27 y28 hy28 _ hr
def f_law_42 (n : Nat) (sn : Nat) (sf : Nat → Int32) : Nat → Int32 → Int32 → Int32 → Int32 → Int32 → Int32 → Int32 → Int32 → St → Option (Int32 × St)
  | 0 => fun _ _ _ _ _ _ _ _ _ => none
  | k + 1 => fun x1 x3 x4 x5 x6 x7 x8 x9 s =>
    if x9 < sn.toInt32 then
      if (430 : Int32) < x7 then
        f_law_972 n sn sf x3 x4 x5 x6 s
      else
        (f_hcell sn sf x9).bind fun q3 =>
        (f_hcell sn sf (x9 + (1 : Int32))).bind fun q5 =>
        (f_hcell sn sf (x9 + (2 : Int32))).bind fun q7 =>
        f_law_109 n sn sf (f_law_42 n sn sf k) n x1 x3 x4 x5 x6 x7 x8 x9 (q3 &&& (7 : Int32)) (q5 &&& (3 : Int32)) (q7 &&& (1023 : Int32)) (-1 : Int32) (-1 : Int32) (-1 : Int32) (-1 : Int32) (0 : Int32) s
    else
      f_law_972 n sn sf x3 x4 x5 x6 s
set_option maxRecDepth 100000 in
theorem e_law_42 {g : GT} {n : Nat} {sn : Nat} {sf : Nat → Int32} (hw : HW g) {K : St → MHeap} {o : Nat} {r : Nat → Nat} (hs : ∀ s, (K s)[0]? = some (.inr (false, tab sn sf))) (V : View (GG g) Ln K o r) (k : Nat) : ∀ (x1 : Int32) (x3 : Int32) (x4 : Int32) (x5 : Int32) (x6 : Int32) (x7 : Int32) (x8 : Int32) (x9 : Int32) (s : St) (y10 : Slot) (hy10 : one1 y10 = true) (y11 : Slot) (hy11 : one1 y11 = true) (y12 : Slot) (hy12 : one1 y12 = true) (y13 : Slot) (hy13 : one1 y13 = true) (y14 : Slot) (hy14 : one1 y14 = true) (y15 : Slot) (hy15 : one1 y15 = true) (y16 : Slot) (hy16 : one1 y16 = true) (y17 : Slot) (hy17 : one1 y17 = true) (y18 : Slot) (hy18 : one1 y18 = true) (y19 : Slot) (hy19 : one1 y19 = true) (y20 : Slot) (hy20 : one1 y20 = true) (y21 : Slot) (hy21 : one1 y21 = true) (y22 : Slot) (hy22 : one1 y22 = true) (y23 : Slot) (hy23 : one1 y23 = true) (y24 : Slot) (hy24 : one1 y24 = true) (y25 : Slot) (hy25 : one1 y25 = true) (y26 : Slot) (hy26 : one1 y26 = true) (y27 : Slot) (hy27 : one1 y27 = true) (y28 : Slot) (hy28 : one1 y28 = true) (w : Int32 × St), f_law_42 n sn sf k x1 x3 x4 x5 x6 x7 x8 x9 s = some w → Ev (GG g) M_law 42 [.val (.ref 0), .val (.int x1), .val (.ref o), .val (.int x3), .val (.int x4), .val (.int x5), .val (.int x6), .val (.int x7), .val (.int x8), .val (.int x9), y10, y11, y12, y13, y14, y15, y16, y17, y18, y19, y20, y21, y22, y23, y24, y25, y26, y27, y28] [] (K s) ((some (.int w.1)), (K w.2)) := by
  induction k with
  | zero => intro x1 x3 x4 x5 x6 x7 x8 x9 s y10 hy10 y11 hy11 y12 hy12 y13 hy13 y14 hy14 y15 hy15 y16 hy16 y17 hy17 y18 hy18 y19 hy19 y20 hy20 y21 hy21 y22 hy22 y23 hy23 y24 hy24 y25 hy25 y26 hy26 y27 hy27 y28 hy28 w hr; rw [f_law_42] at hr; cases hr
  | succ k ih =>
    intro x1 x3 x4 x5 x6 x7 x8 x9 s y10 hy10 y11 hy11 y12 hy12 y13 hy13 y14 hy14 y15 hy15 y16 hy16 y17 hy17 y18 hy18 y19 hy19 y20 hy20 y21 hy21 y22 hy22 y23 hy23 y24 hy24 y25 hy25 y26 hy26 y27 hy27 y28 hy28 w hr
    rw [f_law_42] at hr
    refine Ev.iload at_42 rfl ?_
    refine Ev.aloadN at_44 rfl ?_
    refine Ev.sln (hs s) at_45 ?_
    refine Ev.icge (t := 972) at_46 rfl (fun c1 => ?_) (fun c1 => ?_)
    · replace hr := (if_pos c1).symm.trans hr
      refine Ev.iload at_49 rfl ?_
      refine Ev.sipush (z := 430) at_51 rfl ?_
      refine Ev.icgt (t := 972) at_54 rfl (fun c2 => ?_) (fun c2 => ?_)
      · replace hr := (if_pos c2).symm.trans hr
        exact e_law_972 hw hs V  x3 x4 x5 x6 s (.val (.ref 0)) rfl (.val (.int x1)) rfl (.val (.int x7)) rfl (.val (.int x8)) rfl (.val (.int x9)) rfl y10 hy10 y11 hy11 y12 hy12 y13 hy13 y14 hy14 y15 hy15 y16 hy16 y17 hy17 y18 hy18 y19 hy19 y20 hy20 y21 hy21 y22 hy22 y23 hy23 y24 hy24 y25 hy25 y26 hy26 y27 hy27 y28 hy28 _ hr
      · replace hr := (if_neg c2).symm.trans hr
        refine Ev.aloadN at_57 rfl ?_
        refine Ev.iload at_58 rfl ?_
        obtain ⟨q3, hq4, hr⟩ := Option.bind_eq_some_iff.mp hr
        refine Ev.stat (y := M_hcell) (args := [.ref 0, .int x9]) (rest := []) nm_hcell (ww hw 0 rfl) (ww hw 1 rfl) (ww hw 2 rfl) (ww hw 3 rfl) (lenOf pd_hcell rfl) at_60 (e_hcell hw (hs s) hq4) (by decide) (Nat.le_of_ble_eq_true rfl) rfl ?_
        refine Ev.bipush (z := 7) at_63 rfl ?_
        refine Ev.iand at_65 ?_
        refine Ev.istD (L' := [.val (.ref 0), .val (.int x1), .val (.ref o), .val (.int x3), .val (.int x4), .val (.int x5), .val (.int x6), .val (.int x7), .val (.int x8), .val (.int x9), .val (.int (q3 &&& (7 : Int32))), y11, y12, y13, y14, y15, y16, y17, y18, y19, y20, y21, y22, y23, y24, y25, y26, y27, y28]) at_66 rfl hy10 rfl ?_
        refine Ev.aloadN at_68 rfl ?_
        refine Ev.iload at_69 rfl ?_
        refine Ev.iconst (z := 1) at_71 rfl ?_
        refine Ev.iadd at_72 ?_
        obtain ⟨q5, hq6, hr⟩ := Option.bind_eq_some_iff.mp hr
        refine Ev.stat (y := M_hcell) (args := [.ref 0, .int (x9 + (1 : Int32))]) (rest := []) nm_hcell (ww hw 0 rfl) (ww hw 1 rfl) (ww hw 2 rfl) (ww hw 3 rfl) (lenOf pd_hcell rfl) at_73 (e_hcell hw (hs s) hq6) (by decide) (Nat.le_of_ble_eq_true rfl) rfl ?_
        refine Ev.iconst (z := 3) at_76 rfl ?_
        refine Ev.iand at_77 ?_
        refine Ev.istD (L' := [.val (.ref 0), .val (.int x1), .val (.ref o), .val (.int x3), .val (.int x4), .val (.int x5), .val (.int x6), .val (.int x7), .val (.int x8), .val (.int x9), .val (.int (q3 &&& (7 : Int32))), .val (.int (q5 &&& (3 : Int32))), y12, y13, y14, y15, y16, y17, y18, y19, y20, y21, y22, y23, y24, y25, y26, y27, y28]) at_78 rfl hy11 rfl ?_
        refine Ev.aloadN at_80 rfl ?_
        refine Ev.iload at_81 rfl ?_
        refine Ev.iconst (z := 2) at_83 rfl ?_
        refine Ev.iadd at_84 ?_
        obtain ⟨q7, hq8, hr⟩ := Option.bind_eq_some_iff.mp hr
        refine Ev.stat (y := M_hcell) (args := [.ref 0, .int (x9 + (2 : Int32))]) (rest := []) nm_hcell (ww hw 0 rfl) (ww hw 1 rfl) (ww hw 2 rfl) (ww hw 3 rfl) (lenOf pd_hcell rfl) at_85 (e_hcell hw (hs s) hq8) (by decide) (Nat.le_of_ble_eq_true rfl) rfl ?_
        refine Ev.sipush (z := 1023) at_88 rfl ?_
        refine Ev.iand at_91 ?_
        refine Ev.istD (L' := [.val (.ref 0), .val (.int x1), .val (.ref o), .val (.int x3), .val (.int x4), .val (.int x5), .val (.int x6), .val (.int x7), .val (.int x8), .val (.int x9), .val (.int (q3 &&& (7 : Int32))), .val (.int (q5 &&& (3 : Int32))), .val (.int (q7 &&& (1023 : Int32))), y13, y14, y15, y16, y17, y18, y19, y20, y21, y22, y23, y24, y25, y26, y27, y28]) at_92 rfl hy12 rfl ?_
        refine Ev.iconst (z := -1) at_94 rfl ?_
        refine Ev.istD (L' := [.val (.ref 0), .val (.int x1), .val (.ref o), .val (.int x3), .val (.int x4), .val (.int x5), .val (.int x6), .val (.int x7), .val (.int x8), .val (.int x9), .val (.int (q3 &&& (7 : Int32))), .val (.int (q5 &&& (3 : Int32))), .val (.int (q7 &&& (1023 : Int32))), .val (.int (-1 : Int32)), y14, y15, y16, y17, y18, y19, y20, y21, y22, y23, y24, y25, y26, y27, y28]) at_95 rfl hy13 rfl ?_
        refine Ev.iconst (z := -1) at_97 rfl ?_
        refine Ev.istD (L' := [.val (.ref 0), .val (.int x1), .val (.ref o), .val (.int x3), .val (.int x4), .val (.int x5), .val (.int x6), .val (.int x7), .val (.int x8), .val (.int x9), .val (.int (q3 &&& (7 : Int32))), .val (.int (q5 &&& (3 : Int32))), .val (.int (q7 &&& (1023 : Int32))), .val (.int (-1 : Int32)), .val (.int (-1 : Int32)), y15, y16, y17, y18, y19, y20, y21, y22, y23, y24, y25, y26, y27, y28]) at_98 rfl hy14 rfl ?_
        refine Ev.iconst (z := -1) at_100 rfl ?_
        refine Ev.istD (L' := [.val (.ref 0), .val (.int x1), .val (.ref o), .val (.int x3), .val (.int x4), .val (.int x5), .val (.int x6), .val (.int x7), .val (.int x8), .val (.int x9), .val (.int (q3 &&& (7 : Int32))), .val (.int (q5 &&& (3 : Int32))), .val (.int (q7 &&& (1023 : Int32))), .val (.int (-1 : Int32)), .val (.int (-1 : Int32)), .val (.int (-1 : Int32)), y16, y17, y18, y19, y20, y21, y22, y23, y24, y25, y26, y27, y28]) at_101 rfl hy15 rfl ?_
        refine Ev.iconst (z := -1) at_103 rfl ?_
        refine Ev.istD (L' := [.val (.ref 0), .val (.int x1), .val (.ref o), .val (.int x3), .val (.int x4), .val (.int x5), .val (.int x6), .val (.int x7), .val (.int x8), .val (.int x9), .val (.int (q3 &&& (7 : Int32))), .val (.int (q5 &&& (3 : Int32))), .val (.int (q7 &&& (1023 : Int32))), .val (.int (-1 : Int32)), .val (.int (-1 : Int32)), .val (.int (-1 : Int32)), .val (.int (-1 : Int32)), y17, y18, y19, y20, y21, y22, y23, y24, y25, y26, y27, y28]) at_104 rfl hy16 rfl ?_
        refine Ev.iconst (z := 0) at_106 rfl ?_
        refine Ev.istD (L' := [.val (.ref 0), .val (.int x1), .val (.ref o), .val (.int x3), .val (.int x4), .val (.int x5), .val (.int x6), .val (.int x7), .val (.int x8), .val (.int x9), .val (.int (q3 &&& (7 : Int32))), .val (.int (q5 &&& (3 : Int32))), .val (.int (q7 &&& (1023 : Int32))), .val (.int (-1 : Int32)), .val (.int (-1 : Int32)), .val (.int (-1 : Int32)), .val (.int (-1 : Int32)), .val (.int (0 : Int32)), y18, y19, y20, y21, y22, y23, y24, y25, y26, y27, y28]) at_107 rfl hy17 rfl ?_
        exact e_law_109 hw hs V ih n x1 x3 x4 x5 x6 x7 x8 x9 (q3 &&& (7 : Int32)) (q5 &&& (3 : Int32)) (q7 &&& (1023 : Int32)) (-1 : Int32) (-1 : Int32) (-1 : Int32) (-1 : Int32) (0 : Int32) s y18 hy18 y19 hy19 y20 hy20 y21 hy21 y22 hy22 y23 hy23 y24 hy24 y25 hy25 y26 hy26 y27 hy27 y28 hy28 _ hr
    · replace hr := (if_neg c1).symm.trans hr
      exact e_law_972 hw hs V  x3 x4 x5 x6 s (.val (.ref 0)) rfl (.val (.int x1)) rfl (.val (.int x7)) rfl (.val (.int x8)) rfl (.val (.int x9)) rfl y10 hy10 y11 hy11 y12 hy12 y13 hy13 y14 hy14 y15 hy15 y16 hy16 y17 hy17 y18 hy18 y19 hy19 y20 hy20 y21 hy21 y22 hy22 y23 hy23 y24 hy24 y25 hy25 y26 hy26 y27 hy27 y28 hy28 _ hr
def f_law_21 (n : Nat) (sn : Nat) (sf : Nat → Int32) (x1 : Int32) (s : St) : Option (Int32 × St) :=
  f_law_42 n sn sf n x1 (0 : Int32) (0 : Int32) (0 : Int32) (0 : Int32) (0 : Int32) (0 : Int32) (1 : Int32) s
set_option maxRecDepth 100000 in
theorem e_law_21 {g : GT} {n : Nat} {sn : Nat} {sf : Nat → Int32} (hw : HW g) {K : St → MHeap} {o : Nat} {r : Nat → Nat} (hs : ∀ s, (K s)[0]? = some (.inr (false, tab sn sf))) (V : View (GG g) Ln K o r) (x1 : Int32) (s : St) (y2 : Slot) (hy2 : one1 y2 = true) (y3 : Slot) (hy3 : one1 y3 = true) (y4 : Slot) (hy4 : one1 y4 = true) (y5 : Slot) (hy5 : one1 y5 = true) (y6 : Slot) (hy6 : one1 y6 = true) (y7 : Slot) (hy7 : one1 y7 = true) (y8 : Slot) (hy8 : one1 y8 = true) (y9 : Slot) (hy9 : one1 y9 = true) (y10 : Slot) (hy10 : one1 y10 = true) (y11 : Slot) (hy11 : one1 y11 = true) (y12 : Slot) (hy12 : one1 y12 = true) (y13 : Slot) (hy13 : one1 y13 = true) (y14 : Slot) (hy14 : one1 y14 = true) (y15 : Slot) (hy15 : one1 y15 = true) (y16 : Slot) (hy16 : one1 y16 = true) (y17 : Slot) (hy17 : one1 y17 = true) (y18 : Slot) (hy18 : one1 y18 = true) (y19 : Slot) (hy19 : one1 y19 = true) (y20 : Slot) (hy20 : one1 y20 = true) (y21 : Slot) (hy21 : one1 y21 = true) (y22 : Slot) (hy22 : one1 y22 = true) (y23 : Slot) (hy23 : one1 y23 = true) (y24 : Slot) (hy24 : one1 y24 = true) (y25 : Slot) (hy25 : one1 y25 = true) (y26 : Slot) (hy26 : one1 y26 = true) (y27 : Slot) (hy27 : one1 y27 = true) (y28 : Slot) (hy28 : one1 y28 = true) (w : Int32 × St) (hr : f_law_21 n sn sf x1 s = some w) : Ev (GG g) M_law 21 [.val (.ref 0), .val (.int x1), y2, y3, y4, y5, y6, y7, y8, y9, y10, y11, y12, y13, y14, y15, y16, y17, y18, y19, y20, y21, y22, y23, y24, y25, y26, y27, y28] [.ref o] (K s) ((some (.int w.1)), (K w.2)) := by
  unfold f_law_21 at hr
  refine Ev.astDN (L' := [.val (.ref 0), .val (.int x1), .val (.ref o), y3, y4, y5, y6, y7, y8, y9, y10, y11, y12, y13, y14, y15, y16, y17, y18, y19, y20, y21, y22, y23, y24, y25, y26, y27, y28]) at_21 rfl hy2 rfl ?_
  refine Ev.iconst (z := 0) at_22 rfl ?_
  refine Ev.istDN (L' := [.val (.ref 0), .val (.int x1), .val (.ref o), .val (.int (0 : Int32)), y4, y5, y6, y7, y8, y9, y10, y11, y12, y13, y14, y15, y16, y17, y18, y19, y20, y21, y22, y23, y24, y25, y26, y27, y28]) at_23 rfl hy3 rfl ?_
  refine Ev.iconst (z := 0) at_24 rfl ?_
  refine Ev.istD (L' := [.val (.ref 0), .val (.int x1), .val (.ref o), .val (.int (0 : Int32)), .val (.int (0 : Int32)), y5, y6, y7, y8, y9, y10, y11, y12, y13, y14, y15, y16, y17, y18, y19, y20, y21, y22, y23, y24, y25, y26, y27, y28]) at_25 rfl hy4 rfl ?_
  refine Ev.iconst (z := 0) at_27 rfl ?_
  refine Ev.istD (L' := [.val (.ref 0), .val (.int x1), .val (.ref o), .val (.int (0 : Int32)), .val (.int (0 : Int32)), .val (.int (0 : Int32)), y6, y7, y8, y9, y10, y11, y12, y13, y14, y15, y16, y17, y18, y19, y20, y21, y22, y23, y24, y25, y26, y27, y28]) at_28 rfl hy5 rfl ?_
  refine Ev.iconst (z := 0) at_30 rfl ?_
  refine Ev.istD (L' := [.val (.ref 0), .val (.int x1), .val (.ref o), .val (.int (0 : Int32)), .val (.int (0 : Int32)), .val (.int (0 : Int32)), .val (.int (0 : Int32)), y7, y8, y9, y10, y11, y12, y13, y14, y15, y16, y17, y18, y19, y20, y21, y22, y23, y24, y25, y26, y27, y28]) at_31 rfl hy6 rfl ?_
  refine Ev.iconst (z := 0) at_33 rfl ?_
  refine Ev.istD (L' := [.val (.ref 0), .val (.int x1), .val (.ref o), .val (.int (0 : Int32)), .val (.int (0 : Int32)), .val (.int (0 : Int32)), .val (.int (0 : Int32)), .val (.int (0 : Int32)), y8, y9, y10, y11, y12, y13, y14, y15, y16, y17, y18, y19, y20, y21, y22, y23, y24, y25, y26, y27, y28]) at_34 rfl hy7 rfl ?_
  refine Ev.iconst (z := 0) at_36 rfl ?_
  refine Ev.istD (L' := [.val (.ref 0), .val (.int x1), .val (.ref o), .val (.int (0 : Int32)), .val (.int (0 : Int32)), .val (.int (0 : Int32)), .val (.int (0 : Int32)), .val (.int (0 : Int32)), .val (.int (0 : Int32)), y9, y10, y11, y12, y13, y14, y15, y16, y17, y18, y19, y20, y21, y22, y23, y24, y25, y26, y27, y28]) at_37 rfl hy8 rfl ?_
  refine Ev.iconst (z := 1) at_39 rfl ?_
  refine Ev.istD (L' := [.val (.ref 0), .val (.int x1), .val (.ref o), .val (.int (0 : Int32)), .val (.int (0 : Int32)), .val (.int (0 : Int32)), .val (.int (0 : Int32)), .val (.int (0 : Int32)), .val (.int (0 : Int32)), .val (.int (1 : Int32)), y10, y11, y12, y13, y14, y15, y16, y17, y18, y19, y20, y21, y22, y23, y24, y25, y26, y27, y28]) at_40 rfl hy9 rfl ?_
  exact e_law_42 hw hs V  n x1 (0 : Int32) (0 : Int32) (0 : Int32) (0 : Int32) (0 : Int32) (0 : Int32) (1 : Int32) s y10 hy10 y11 hy11 y12 hy12 y13 hy13 y14 hy14 y15 hy15 y16 hy16 y17 hy17 y18 hy18 y19 hy19 y20 hy20 y21 hy21 y22 hy22 y23 hy23 y24 hy24 y25 hy25 y26 hy26 y27 hy27 y28 hy28 _ hr
def f_law (n : Nat) (sn : Nat) (sf : Nat → Int32) : Option (Int32 × St) :=
  (f_hcell sn sf (0 : Int32)).bind fun q1 =>
  (f_ctor n ((24 : Int32) + (q1 &&& (15 : Int32))) (4 : Int32)).bind fun q3 =>
  f_law_21 n sn sf ((24 : Int32) + (q1 &&& (15 : Int32))) q3
set_option maxRecDepth 100000 in
theorem e_law {g : GT} {n : Nat} {sn : Nat} {sf : Nat → Int32} {w : Int32 × St} (hw : HW g) (hk : k0 (GG g) ≤ (H0 sn sf).length) (hr : f_law n sn sf = some w) : EvC (GG g) M_law [.ref 0] (H0 sn sf) ((some (.int w.1)), (KL sn sf w.2)) := by
  refine EvC.enter (L0 := [.val (.ref 0), .unset, .unset, .unset, .unset, .unset, .unset, .unset, .unset, .unset, .unset, .unset, .unset, .unset, .unset, .unset, .unset, .unset, .unset, .unset, .unset, .unset, .unset, .unset, .unset, .unset, .unset, .unset, .unset]) pl_law (fun h => nomatch h) rfl rfl ?_
  unfold f_law at hr
  refine Ev.bipush (z := 24) at_0 rfl ?_
  refine Ev.aloadN at_2 rfl ?_
  refine Ev.iconst (z := 0) at_3 rfl ?_
  obtain ⟨q1, hq2, hr⟩ := Option.bind_eq_some_iff.mp hr
  refine Ev.stat (y := M_hcell) (args := [.ref 0, .int (0 : Int32)]) (rest := [.int (24 : Int32)]) nm_hcell (ww hw 0 rfl) (ww hw 1 rfl) (ww hw 2 rfl) (ww hw 3 rfl) (lenOf pd_hcell rfl) at_4 (e_hcell hw rfl hq2) (by decide) (Nat.le_of_ble_eq_true rfl) rfl ?_
  refine Ev.bipush (z := 15) at_7 rfl ?_
  refine Ev.iand at_9 ?_
  refine Ev.iadd at_10 ?_
  refine Ev.istDN (L' := [.val (.ref 0), .val (.int ((24 : Int32) + (q1 &&& (15 : Int32)))), .unset, .unset, .unset, .unset, .unset, .unset, .unset, .unset, .unset, .unset, .unset, .unset, .unset, .unset, .unset, .unset, .unset, .unset, .unset, .unset, .unset, .unset, .unset, .unset, .unset, .unset, .unset]) at_11 rfl rfl rfl ?_
  refine Ev.new (gok hw) (ww hw 4 rfl) at_12 (fs := dfl) rfl ?_
  refine Ev.dup at_15 rfl ?_
  refine Ev.iloadN at_16 rfl ?_
  refine Ev.iconst (z := 4) at_17 rfl ?_
  obtain ⟨q3, hq4, hr⟩ := Option.bind_eq_some_iff.mp hr
  refine Ev.ctor (y := M_ctor) (args := [.int ((24 : Int32) + (q1 &&& (15 : Int32))), .int (4 : Int32)]) (rest := [.ref (H0 sn sf).length]) rfl rfl nm_ctor (ww hw 7 rfl) (ww hw 8 rfl) (ww hw 9 rfl) (ww hw 6 rfl) (lenOf pd_ctor rfl) at_18 (e_ctor hw hk hq4) (by decide) (Nat.le_of_ble_eq_true rfl) rfl ?_
  exact e_law_21 hw (K := KL sn sf) (o := (H0 sn sf).length) (r := rA (H0 sn sf).length al) (fun _ => rfl) (view_of hk al_ok al_nd)  ((24 : Int32) + (q1 &&& (15 : Int32))) q3 .unset rfl .unset rfl .unset rfl .unset rfl .unset rfl .unset rfl .unset rfl .unset rfl .unset rfl .unset rfl .unset rfl .unset rfl .unset rfl .unset rfl .unset rfl .unset rfl .unset rfl .unset rfl .unset rfl .unset rfl .unset rfl .unset rfl .unset rfl .unset rfl .unset rfl .unset rfl .unset rfl _ hr
theorem fin_len (sn : Nat) (sf : Nat → Int32) (w : St) : (KL sn sf w).length - (H0 sn sf).length ≤ 32 := by
  have q : al.length = 9 := rfl
  unfold KL; rw [KH_len]; simp only [List.length_nil]; omega
theorem fin_hsl (sn : Nat) (sf : Nat → Int32) (w : St) : hsl 12 (KL sn sf w) - hsl 12 (H0 sn sf) ≤ 1600 := by
  have q : (al.map fun q => Ln q.1).sum = 736 := by decide +kernel
  have z : hsl 12 [] = 0 := rfl
  unfold KL; rw [hsl_KH, q, z]; omega
set_option maxRecDepth 100000 in
theorem comes_1 (plain : ∀ (sn : Nat) (sf : Nat → Int32), sn ≤ 260 → ∃ n w, f_law n sn sf = some (1, w)) {Post : Tables → Env → Array Value → State → Outcome → State → Prop} (hpost : ∀ tb e args s v u, (limb_1_1.after args s (.returned v) u = true ∧ limb_1_2.after args s (.returned v) u = true ∧ True) → FrameEnd s (.returned v) u (Jvm.fieldLocs frame_1_writes args s ++ Jvm.arrayLocs frame_1_arrays args s ++ Jvm.staticLocs frame_1_statics s) 32 1600 → Post tb e args s (.returned v) u) :
    ArmFor flags0 classFile x code maxLocals ret World_1 tables_1 room_1 Calls_1 rest_1 Pre_1 Post := by
  intro l hfl _ _ p e ha hc hk s m args below hf hA hF happ hP
  obtain ⟨hcalls, hrest, hpre⟩ := hP
  obtain ⟨-, -, -, hnamed, -, -, -, hat⟩ := (Spec.applies_iff hf).mp happ
  obtain ⟨hg, hn⟩ := and_e (Cond.before_iff.mp (show (Jvm.Cond.and given_1 narrow_1).before args s = true from hpre))
  obtain ⟨g0, hg⟩ := and_e hg
  obtain ⟨w0, rfl⟩ : ∃ w0 : Value, args = #[w0] := by
    have hs : args.size = 1 := by simpa [Cond.value, given_1] using g0
    obtain ⟨L⟩ := args
    match L, hs with
    | [w0], _ => exact ⟨w0, rfl⟩
  have hw := fun d (hd : d ∈ tables_1) => atoms_spec (ws := Jvm.Cond.code x code maxLocals ret :: tables_1) hat d (List.mem_cons_of_mem _ hd)
  have hfit : Fit s := fun {y c} hc i hi => by
    obtain ⟨ha, rfl⟩ := Array.getElem?_eq_some_iff.mp hc
    have q := List.all_eq_true.mp ((Array.all_eq_true_iff_forall_mem.mp hF) _ (Array.getElem_mem ha)) i (List.mem_range.mpr hi)
    simpa [Array.getElem?_eq_getElem hi] using q
  obtain ⟨n0, n1⟩ := and_e hn
  obtain ⟨a, ea⟩ := arr_v n0
  obtain rfl : w0 = .ref a := Option.some.inj ea
  obtain ⟨cl, A⟩ := Arr.start ea n0
  obtain ⟨r0, -⟩ := and_e (Cond.before_iff.mp (show rest_1_c.before _ s = true from hrest))
  have hle := script_len A ea r0 n1
  obtain ⟨xs, hxl, hrel⟩ := script_rel (l := l) (args := #[.ref a]) (C := "HandleHeap") (F := flds) (k := 12) hfit A
  obtain ⟨n, w, hr⟩ := plain xs.length (fun i => xs.getD i 0) (by rw [hxl]; exact hle)
  have hE := e_law (g := (s, #[.ref a], l, some a, s.heap.size)) hw (Nat.le_refl _) hr
  obtain ⟨n, o, h1, h2, h3, _, L, rfl, ⟨rfl, N, -⟩, hq⟩ := hE.2 tables_1 room_1 s.heap (by decide) (by decide) (fin_len _ _ w) (fin_hsl _ _ w) hrel p e ha hc hk s m _ below hf ((Spec.applies_iff_loose hf).mp happ).1 ⟨rfl, State.Warmed39.refl s, rfl⟩ trivial
  exact ⟨n, _, h1, h2, h3, hpost _ _ _ _ _ _ ⟨Cond.after_iff.mpr rfl, Cond.after_iff.mpr (eq_i res_at (Term.int_eval (1)) rfl), trivial⟩ ⟨hq.1, hq.2.1, (hq.2.2.sift fun y hy => Or.inr (N y hy)).mono (fin_len _ _ w) (fin_hsl _ _ w)⟩⟩
theorem u_markBlock_17 (n : Nat) (k : Nat) (x2 : Int32) (x3 : Int32) (x4 : Int32) (s : St) : f_markBlock_17 n (k + 1) x2 x3 x4 s =
    (if x4 < x3 then
      if (x2 + x4) < 0 then
        f_markBlock_17 n k x2 x3 (x4 + (1 : Int32)) s
      else
        if (x2 + x4) < (256 : Int32) then
          grd (inb (x2 + x4) 256) <|
          bnd (setA s 1 (ix (x2 + x4)) ((1 : Int32) &&& 1)) fun s5 =>
          f_markBlock_17 n k x2 x3 (x4 + (1 : Int32)) s5
        else
          f_markBlock_17 n k x2 x3 (x4 + (1 : Int32)) s
    else
      some s) := rfl
theorem u_clearMark_2 (n : Nat) (k : Nat) (x1 : Int32) (s : St) : f_clearMark_2 n (k + 1) x1 s =
    (if x1 < (256 : Int32) then
      grd (inb x1 256) <|
      bnd (setA s 1 (ix x1) ((0 : Int32) &&& 1)) fun s3 =>
      f_clearMark_2 n k (x1 + (1 : Int32)) s3
    else
      some s) := rfl
theorem u_markLive_6 (n : Nat) (k : Nat) (x1 : Int32) (s : St) : f_markLive_6 n (k + 1) x1 s =
    (if x1 < (s.1 10) then
      grd (inb x1 32) <|
      if (s.2 2 (ix x1)) = (1 : Int32) then
        (f_markBlock n x1 s).bind fun q4 =>
        f_markLive_6 n k (x1 + (1 : Int32)) q4
      else
        f_markLive_6 n k (x1 + (1 : Int32)) s
    else
      some s) := rfl
theorem u_firstRun_4 (n : Nat) (s : St) (k : Nat) (x1 : Int32) (x2 : Int32) (x3 : Int32) : f_firstRun_4 n s (k + 1) x1 x2 x3 =
    (if x3 < (s.1 9) then
      grd (inb x3 256) <|
      if (s.2 1 (ix x3)) = 0 then
        if (x2 + (1 : Int32)) < x1 then
          f_firstRun_4 n s k x1 (x2 + (1 : Int32)) (x3 + (1 : Int32))
        else
          some ((x3 - x1) + (1 : Int32))
      else
        f_firstRun_4 n s k x1 (0 : Int32) (x3 + (1 : Int32))
    else
      some (-1 : Int32)) := rfl
theorem u_copyWords_40 (n : Nat) (k : Nat) (x1 : Int32) (x2 : Int32) (x4 : Int32) (s : St) : f_copyWords_40 n (k + 1) x1 x2 x4 s =
    (if x4 < 0 then
      some s
    else
      (f_copyOne (x1 + x4) (x2 + x4) s).bind fun q2 =>
      f_copyWords_40 n k x1 x2 (x4 + (-1 : Int32)) q2) := rfl
theorem u_copyWords_8 (n : Nat) (k : Nat) (x1 : Int32) (x2 : Int32) (x3 : Int32) (x4 : Int32) (s : St) : f_copyWords_8 n (k + 1) x1 x2 x3 x4 s =
    (if x4 < x3 then
      (f_copyOne (x1 + x4) (x2 + x4) s).bind fun q2 =>
      f_copyWords_8 n k x1 x2 x3 (x4 + (1 : Int32)) q2
    else
      some s) := rfl
theorem u_sortOrder_9 (n : Nat) (k2 : Int32 → Int32 → St → Option (St)) (k : Nat) (x1 : Int32) (x2 : Int32) (x3 : Int32) (s : St) : f_sortOrder_9 n k2 (k + 1) x1 x2 x3 s =
    (if 0 < x3 then
      grd (inb (x3 - (1 : Int32)) 32) <|
      grd (inb x3 32) <|
      grd (inb (s.2 6 (ix (x3 - (1 : Int32)))) 32) <|
      grd (inb (s.2 6 (ix x3)) 32) <|
      if (s.2 3 (ix (s.2 6 (ix x3)))) < (s.2 3 (ix (s.2 6 (ix (x3 - (1 : Int32)))))) then
        bnd (setA s 6 (ix (x3 - (1 : Int32))) (s.2 6 (ix x3))) fun s7 =>
        bnd (setA s7 6 (ix x3) (s.2 6 (ix (x3 - (1 : Int32))))) fun s8 =>
        f_sortOrder_9 n k2 k x1 x2 (x3 + (-1 : Int32)) s8
      else
        k2 x1 (x2 + (1 : Int32)) s
    else
      k2 x1 (x2 + (1 : Int32)) s) := rfl
theorem u_sortOrder_2 (n : Nat) (k : Nat) (x1 : Int32) (x2 : Int32) (s : St) : f_sortOrder_2 n (k + 1) x1 x2 s =
    (if x2 < x1 then
      f_sortOrder_9 n (f_sortOrder_2 n k) n x1 x2 x2 s
    else
      some s) := rfl
theorem u_compactRun_71 (n : Nat) (k : Nat) (x2 : Int32) (x3 : Int32) (s : St) : f_compactRun_71 n (k + 1) x2 x3 s =
    (if x3 < x2 then
      grd (inb x3 32) <|
      (f_moveBlock n (s.2 6 (ix x3)) s).bind fun q3 =>
      f_compactRun_71 n k x2 (x3 + (1 : Int32)) q3
    else
      some s) := rfl
theorem u_compactRun_8 (n : Nat) (k : Nat) (x1 : Int32) (x2 : Int32) (x3 : Int32) (s : St) : f_compactRun_8 n (k + 1) x1 x2 x3 s =
    (if x3 < (s.1 10) then
      grd (inb x3 32) <|
      if (s.2 2 (ix x3)) = (1 : Int32) then
        if (s.2 7 (ix x3)) = 0 then
          if x3 = x1 then
            f_compactRun_40 n (f_compactRun_8 n k) x1 x2 x3 s
          else
            grd (inb x2 32) <|
            bnd (setA s 6 (ix x2) x3) fun s7 =>
            f_compactRun_8 n k x1 (x2 + (1 : Int32)) (x3 + (1 : Int32)) s7
        else
          f_compactRun_40 n (f_compactRun_8 n k) x1 x2 x3 s
      else
        f_compactRun_8 n k x1 x2 (x3 + (1 : Int32)) s
    else
      (f_sortOrder n x2 s).bind fun q8 =>
      f_compactRun_71 n n x2 (0 : Int32) q8) := rfl
theorem u_victim_4 (n : Nat) (s : St) (k : Nat) (x1 : Int32) (x2 : Int32) (x3 : Int32) : f_victim_4 n s (k + 1) x1 x2 x3 =
    (if x3 < (s.1 10) then
      grd (inb x3 32) <|
      if (s.2 2 (ix x3)) = (1 : Int32) then
        if x3 = x1 then
          f_victim_4 n s k x1 x2 (x3 + (1 : Int32))
        else
          if (s.2 8 (ix x3)) = 0 then
            f_victim_4 n s k x1 x2 (x3 + (1 : Int32))
          else
            if (s.2 7 (ix x3)) = 0 then
              if x2 < 0 then
                f_victim_64 n s (f_victim_4 n s k) x1 x3
              else
                grd (inb x2 32) <|
                if (s.2 5 (ix x3)) < (s.2 5 (ix x2)) then
                  f_victim_64 n s (f_victim_4 n s k) x1 x3
                else
                  f_victim_4 n s k x1 x2 (x3 + (1 : Int32))
            else
              f_victim_4 n s k x1 x2 (x3 + (1 : Int32))
      else
        f_victim_4 n s k x1 x2 (x3 + (1 : Int32))
    else
      some x2) := rfl
theorem u_alloc_32 (n : Nat) (k : Nat) (x1 : Int32) (x2 : Int32) (x4 : Int32) (s : St) : f_alloc_32 n (k + 1) x1 x2 x4 s =
    (if (32 : Int32) < x4 then
      some ((-1 : Int32), s)
    else
      (f_victim n s x2).bind fun q2 =>
      if q2 < 0 then
        some ((-1 : Int32), s)
      else
        (f_purge q2 s).bind fun q5 =>
        (f_compactRun n x2 q5).bind fun q7 =>
        (f_fit n x1 q7).bind fun q9 =>
        if q9.1 < 0 then
          f_alloc_32 n k x1 x2 (x4 + (1 : Int32)) q9.2
        else
          some (q9.1, q9.2)) := rfl
theorem u_zeroWords_2 (n : Nat) (k : Nat) (x1 : Int32) (x2 : Int32) (x3 : Int32) (s : St) : f_zeroWords_2 n (k + 1) x1 x2 x3 s =
    (if x3 < x2 then
      if (x1 + x3) < 0 then
        f_zeroWords_2 n k x1 x2 (x3 + (1 : Int32)) s
      else
        if (x1 + x3) < (256 : Int32) then
          grd (inb (x1 + x3) 256) <|
          bnd (setA s 0 (ix (x1 + x3)) (0 : Int32)) fun s5 =>
          f_zeroWords_2 n k x1 x2 (x3 + (1 : Int32)) s5
        else
          f_zeroWords_2 n k x1 x2 (x3 + (1 : Int32)) s
    else
      some s) := rfl
theorem u_newHandle_20 (n : Nat) (k : Nat) (x1 : Int32) (x2 : Int32) (x3 : Int32) (s : St) : f_newHandle_20 n (k + 1) x1 x2 x3 s =
    (if x3 < (s.1 10) then
      grd (inb x3 32) <|
      if (s.2 2 (ix x3)) = 0 then
        f_newHandle_48 n x1 x3 s
      else
        f_newHandle_20 n k x1 x2 (x3 + (1 : Int32)) s
    else
      f_newHandle_48 n x1 x2 s) := rfl
theorem u_rangeFree_6 (n : Nat) (k : Nat) (x2 : Int32) (x3 : Int32) (s : St) : f_rangeFree_6 n (k + 1) x2 x3 s =
    (if x3 < x2 then
      if x3 < 0 then
        some ((0 : Int32), s)
      else
        if x3 < (256 : Int32) then
          grd (inb x3 256) <|
          if (s.2 1 (ix x3)) = 0 then
            f_rangeFree_6 n k x2 (x3 + (1 : Int32)) s
          else
            some ((0 : Int32), s)
        else
          some ((0 : Int32), s)
    else
      some ((1 : Int32), s)) := rfl
theorem u_largestFree_10 (n : Nat) (k : Nat) (x1 : Int32) (x2 : Int32) (x3 : Int32) (s : St) : f_largestFree_10 n (k + 1) x1 x2 x3 s =
    (if x3 < (s.1 9) then
      grd (inb x3 256) <|
      if (s.2 1 (ix x3)) = 0 then
        if x1 < (x2 + (1 : Int32)) then
          f_largestFree_10 n k (x2 + (1 : Int32)) (x2 + (1 : Int32)) (x3 + (1 : Int32)) s
        else
          f_largestFree_10 n k x1 (x2 + (1 : Int32)) (x3 + (1 : Int32)) s
      else
        f_largestFree_10 n k x1 (0 : Int32) (x3 + (1 : Int32)) s
    else
      some (x1, s)) := rfl
theorem u_law_896 (n : Nat) (sn : Nat) (sf : Nat → Int32) (k42 : Int32 → Int32 → Int32 → Int32 → Int32 → Int32 → Int32 → Int32 → St → Option (Int32 × St)) (k836 : Int32 → Int32 → Int32 → Int32 → Int32 → Int32 → Int32 → Int32 → Int32 → St → Option (Int32 × St)) (k : Nat) (x1 : Int32) (x3 : Int32) (x4 : Int32) (x5 : Int32) (x6 : Int32) (x7 : Int32) (x8 : Int32) (x9 : Int32) (x23 : Int32) (x24 : Int32) (x25 : Int32) (x26 : Int32) (s : St) : f_law_896 n sn sf k42 k836 (k + 1) x1 x3 x4 x5 x6 x7 x8 x9 x23 x24 x25 x26 s =
    (if x26 < x23 then
      (f_getState s x26).bind fun q2 =>
      if q2 = (1 : Int32) then
        (f_getAddress s x26).bind fun q5 =>
        (f_getSize s x26).bind fun q7 =>
        if x24 < (q5 + q7) then
          if q5 < (x24 + x25) then
            some ((0 : Int32), s)
          else
            f_law_896 n sn sf k42 k836 k x1 x3 x4 x5 x6 x7 x8 x9 x23 x24 x25 (x26 + (1 : Int32)) s
        else
          f_law_896 n sn sf k42 k836 k x1 x3 x4 x5 x6 x7 x8 x9 x23 x24 x25 (x26 + (1 : Int32)) s
      else
        f_law_896 n sn sf k42 k836 k x1 x3 x4 x5 x6 x7 x8 x9 x23 x24 x25 (x26 + (1 : Int32)) s
    else
      k836 x1 x3 x4 x5 x6 x7 x8 x9 (x23 + (1 : Int32)) s) := rfl
theorem u_law_836 (n : Nat) (sn : Nat) (sf : Nat → Int32) (k42 : Int32 → Int32 → Int32 → Int32 → Int32 → Int32 → Int32 → Int32 → St → Option (Int32 × St)) (k : Nat) (x1 : Int32) (x3 : Int32) (x4 : Int32) (x5 : Int32) (x6 : Int32) (x7 : Int32) (x8 : Int32) (x9 : Int32) (x23 : Int32) (s : St) : f_law_836 n sn sf k42 (k + 1) x1 x3 x4 x5 x6 x7 x8 x9 x23 s =
    (if x23 < (4 : Int32) then
      (f_getState s x23).bind fun q2 =>
      if q2 = (1 : Int32) then
        (f_getAddress s x23).bind fun q5 =>
        (f_getSize s x23).bind fun q7 =>
        if q5 < 0 then
          some ((0 : Int32), s)
        else
          if q7 < (1 : Int32) then
            some ((0 : Int32), s)
          else
            if x1 < (q5 + q7) then
              some ((0 : Int32), s)
            else
              f_law_896 n sn sf k42 (f_law_836 n sn sf k42 k) n x1 x3 x4 x5 x6 x7 x8 x9 x23 q5 q7 (0 : Int32) s
      else
        f_law_836 n sn sf k42 k x1 x3 x4 x5 x6 x7 x8 x9 (x23 + (1 : Int32)) s
    else
      k42 x1 x3 x4 x5 x6 x7 x8 (x9 + (3 : Int32)) s) := rfl
theorem u_law_751 (n : Nat) (sn : Nat) (sf : Nat → Int32) (k42 : Int32 → Int32 → Int32 → Int32 → Int32 → Int32 → Int32 → Int32 → St → Option (Int32 × St)) (k : Nat) (x1 : Int32) (x3 : Int32) (x4 : Int32) (x5 : Int32) (x6 : Int32) (x7 : Int32) (x8 : Int32) (x9 : Int32) (x11 : Int32) (x13 : Int32) (x14 : Int32) (x15 : Int32) (x16 : Int32) (x20 : Int32) (x23 : Int32) (s : St) : f_law_751 n sn sf k42 (k + 1) x1 x3 x4 x5 x6 x7 x8 x9 x11 x13 x14 x15 x16 x20 x23 s =
    (if x23 < (4 : Int32) then
      (f_hpick x23 x13 x14 x15 x16).bind fun q2 =>
      if q2 < 0 then
        f_law_751 n sn sf k42 k x1 x3 x4 x5 x6 x7 x8 x9 x11 x13 x14 x15 x16 x20 (x23 + (1 : Int32)) s
      else
        if x20 = 0 then
          f_law_789 n sn sf k42 (f_law_751 n sn sf k42 k) x1 x3 x4 x5 x6 x7 x8 x9 x11 x13 x14 x15 x16 x20 x23 q2 s
        else
          if x23 = x11 then
            f_law_751 n sn sf k42 k x1 x3 x4 x5 x6 x7 x8 x9 x11 x13 x14 x15 x16 x20 (x23 + (1 : Int32)) s
          else
            f_law_789 n sn sf k42 (f_law_751 n sn sf k42 k) x1 x3 x4 x5 x6 x7 x8 x9 x11 x13 x14 x15 x16 x20 x23 q2 s
    else
      f_law_836 n sn sf k42 n x1 x3 x4 x5 x6 x7 x8 x9 (0 : Int32) s) := rfl
theorem u_law_109 (n : Nat) (sn : Nat) (sf : Nat → Int32) (k42 : Int32 → Int32 → Int32 → Int32 → Int32 → Int32 → Int32 → Int32 → St → Option (Int32 × St)) (k : Nat) (x1 : Int32) (x3 : Int32) (x4 : Int32) (x5 : Int32) (x6 : Int32) (x7 : Int32) (x8 : Int32) (x9 : Int32) (x10 : Int32) (x11 : Int32) (x12 : Int32) (x13 : Int32) (x14 : Int32) (x15 : Int32) (x16 : Int32) (x17 : Int32) (s : St) : f_law_109 n sn sf k42 (k + 1) x1 x3 x4 x5 x6 x7 x8 x9 x10 x11 x12 x13 x14 x15 x16 x17 s =
    (if x17 < (4 : Int32) then
      (f_getState s x17).bind fun q2 =>
      if q2 = (1 : Int32) then
        (f_getFlags s x17).bind fun q5 =>
        if (q5 &&& (1 : Int32)) = 0 then
          f_law_146 n sn sf k42 (f_law_109 n sn sf k42 k) x1 x3 x4 x5 x6 x7 x8 x9 x10 x11 x12 x13 x14 x15 x16 x17 (-1 : Int32) s
        else
          (f_getAddress s x17).bind fun q8 =>
          f_law_146 n sn sf k42 (f_law_109 n sn sf k42 k) x1 x3 x4 x5 x6 x7 x8 x9 x10 x11 x12 x13 x14 x15 x16 x17 q8 s
      else
        f_law_146 n sn sf k42 (f_law_109 n sn sf k42 k) x1 x3 x4 x5 x6 x7 x8 x9 x10 x11 x12 x13 x14 x15 x16 x17 (-1 : Int32) s
    else
      (f_hpick x11 x3 x4 x5 x6).bind fun q10 =>
      (f_getState s x11).bind fun q12 =>
      if q12 = (1 : Int32) then
        f_law_225 n sn sf k42 x1 x3 x4 x5 x6 x7 x8 x9 x10 x11 x12 x13 x14 x15 x16 q10 (1 : Int32) s
      else
        f_law_225 n sn sf k42 x1 x3 x4 x5 x6 x7 x8 x9 x10 x11 x12 x13 x14 x15 x16 q10 (0 : Int32) s) := rfl
theorem u_law_310 (n : Nat) (sn : Nat) (sf : Nat → Int32) (k42 : Int32 → Int32 → Int32 → Int32 → Int32 → Int32 → Int32 → Int32 → St → Option (Int32 × St)) (k : Nat) (x1 : Int32) (x3 : Int32) (x4 : Int32) (x5 : Int32) (x6 : Int32) (x7 : Int32) (x8 : Int32) (x9 : Int32) (x11 : Int32) (x13 : Int32) (x14 : Int32) (x15 : Int32) (x16 : Int32) (x19 : Int32) (x20 : Int32) (x23 : Int32) (s : St) : f_law_310 n sn sf k42 (k + 1) x1 x3 x4 x5 x6 x7 x8 x9 x11 x13 x14 x15 x16 x19 x20 x23 s =
    (if x23 < x19 then
      (f_hmix x8 x23).bind fun q2 =>
      (f_write x11 x23 q2 s).bind fun q4 =>
      if q4.1 = 0 then
        f_law_310 n sn sf k42 k x1 x3 x4 x5 x6 x7 x8 x9 x11 x13 x14 x15 x16 x19 x20 (x23 + (1 : Int32)) q4.2
      else
        some ((0 : Int32), q4.2)
    else
      f_law_701 n sn sf k42 x1 x3 x4 x5 x6 (x7 + x19) x8 x9 x11 x13 x14 x15 x16 x20 x11 ((x8 <<< ((9 : Int32) &&& 31)) ||| x19) s) := rfl
theorem u_law_975 (n : Nat) (sn : Nat) (sf : Nat → Int32) (k : Nat) (x3 : Int32) (x4 : Int32) (x5 : Int32) (x6 : Int32) (x9 : Int32) (s : St) : f_law_975 n sn sf (k + 1) x3 x4 x5 x6 x9 s =
    (if x9 < (4 : Int32) then
      (f_getState s x9).bind fun q2 =>
      if q2 = (1 : Int32) then
        (f_getSize s x9).bind fun q5 =>
        (f_hpick x9 x3 x4 x5 x6).bind fun q7 =>
        f_law_1019 n sn sf (f_law_975 n sn sf k) n x3 x4 x5 x6 x9 q5 q7 (0 : Int32) s
      else
        f_law_975 n sn sf k x3 x4 x5 x6 (x9 + (1 : Int32)) s
    else
      some ((1 : Int32), s)) := rfl
theorem u_law_1019 (n : Nat) (sn : Nat) (sf : Nat → Int32) (k975 : Int32 → Int32 → Int32 → Int32 → Int32 → St → Option (Int32 × St)) (k : Nat) (x3 : Int32) (x4 : Int32) (x5 : Int32) (x6 : Int32) (x9 : Int32) (x10 : Int32) (x11 : Int32) (x12 : Int32) (s : St) : f_law_1019 n sn sf k975 (k + 1) x3 x4 x5 x6 x9 x10 x11 x12 s =
    (if x12 < x10 then
      (f_read x9 x12 s).bind fun q2 =>
      (f_hexpect x11 x12).bind fun q4 =>
      if q2.1 = q4 then
        f_law_1019 n sn sf k975 k x3 x4 x5 x6 x9 x10 x11 (x12 + (1 : Int32)) q2.2
      else
        some ((0 : Int32), q2.2)
    else
      k975 x3 x4 x5 x6 (x9 + (1 : Int32)) s) := rfl
theorem u_law_42 (n : Nat) (sn : Nat) (sf : Nat → Int32) (k : Nat) (x1 : Int32) (x3 : Int32) (x4 : Int32) (x5 : Int32) (x6 : Int32) (x7 : Int32) (x8 : Int32) (x9 : Int32) (s : St) : f_law_42 n sn sf (k + 1) x1 x3 x4 x5 x6 x7 x8 x9 s =
    (if x9 < sn.toInt32 then
      if (430 : Int32) < x7 then
        f_law_972 n sn sf x3 x4 x5 x6 s
      else
        (f_hcell sn sf x9).bind fun q3 =>
        (f_hcell sn sf (x9 + (1 : Int32))).bind fun q5 =>
        (f_hcell sn sf (x9 + (2 : Int32))).bind fun q7 =>
        f_law_109 n sn sf (f_law_42 n sn sf k) n x1 x3 x4 x5 x6 x7 x8 x9 (q3 &&& (7 : Int32)) (q5 &&& (3 : Int32)) (q7 &&& (1023 : Int32)) (-1 : Int32) (-1 : Int32) (-1 : Int32) (-1 : Int32) (0 : Int32) s
    else
      f_law_972 n sn sf x3 x4 x5 x6 s) := rfl
theorem u_ctor_142 (n : Nat) (k : Nat) (x5 : Int32) (s : St) : f_ctor_142 n (k + 1) x5 s =
    (if x5 < (32 : Int32) then
      (f_clearHandle x5 s).bind fun q2 =>
      f_ctor_142 n k (x5 + (1 : Int32)) q2
    else
      some s) := rfl
/-! ### the plain law -/
/-! ### the handle heap: blocks, marks -/
def own_b (x : Bool) : Int32 := if x = true then 1 else 0
theorem own_nz {a : Nat} (h : 0 < a) (h2 : a < 2147483648) : Int32.ofNat a ≠ 0 := fun w => by
  rw [show (0 : Int32) = Int32.ofNat 0 from rfl, N_inj (by omega) (by omega)] at w; omega
/-- st: 0 free, 1 live, 2 empty; a, z: place and length of a live block; lk: locked; E: what it holds -/
def own_H (W : Nat) (st a z : Nat → Nat) (lk : Nat → Bool) (E : Nat → Nat → Int32) (s : St) : Prop :=
  (s.1 9 = Int32.ofNat W ∧ s.1 10 = 4 ∧ 24 ≤ W ∧ W ≤ 39) ∧
  (∀ h, h < 4 → s.2 2 h = Int32.ofNat (st h) ∧ st h ≤ 2 ∧ (st h = 1 → s.2 3 h = Int32.ofNat (a h) ∧ s.2 4 h = Int32.ofNat (z h) ∧ s.2 7 h = own_b (lk h) ∧ 1 ≤ z h ∧ a h + z h ≤ W ∧ ∀ i, i < z h → s.2 0 (a h + i) = E h i)) ∧
  (∀ h k, h < 4 → k < 4 → h ≠ k → st h = 1 → st k = 1 → a h + z h ≤ a k ∨ a k + z k ≤ a h)
/-- two stretches without a common place -/
theorem own_iv {a z b y : Nat} (hz : 1 ≤ z) (hy : 1 ≤ y) (h : ∀ i, b ≤ i → i < b + y → ¬ (a ≤ i ∧ i < a + z)) : a + z ≤ b ∨ b + y ≤ a := by
  by_cases q : a + z ≤ b
  · exact Or.inl q
  · by_cases r : b + y ≤ a
    · exact Or.inr r
    · have h1 := h (max a b) (by omega) (by omega)
      omega
theorem own_HE {W : Nat} {st a z : Nat → Nat} {lk : Nat → Bool} {E : Nat → Nat → Int32} {s t : St} (h1 : t.1 9 = s.1 9 ∧ t.1 10 = s.1 10) (h2 : ∀ j, j = 0 ∨ j = 2 ∨ j = 3 ∨ j = 4 ∨ j = 7 → t.2 j = s.2 j) (H : own_H W st a z lk E s) : own_H W st a z lk E t := by
  unfold own_H
  rw [h1.1, h1.2, h2 0 (by omega), h2 2 (by omega), h2 3 (by omega), h2 4 (by omega), h2 7 (by omega)]; exact H
theorem own_mb17 {n A Z : Nat} (hA : A + Z ≤ 256) : ∀ (m i k : Nat) (s : St), i + m = Z → m < k → ∃ t, f_markBlock_17 n k (Int32.ofNat A) (Int32.ofNat Z) (Int32.ofNat i) s = some t ∧ t.1 = s.1 ∧ (∀ j, j ≠ 1 → t.2 j = s.2 j) ∧ (∀ x, t.2 1 x = if A + i ≤ x ∧ x < A + Z then 1 else s.2 1 x) := by
  intro m
  induction m with
  | zero =>
    intro i k s hi hk
    obtain ⟨k, rfl⟩ : ∃ k', k = k' + 1 := ⟨k - 1, by omega⟩
    rw [u_markBlock_17, if_neg (by rw [show i = Z by omega]; exact nltN (by omega))]
    exact ⟨s, rfl, rfl, fun _ _ => rfl, fun x => by rw [if_neg (by omega)]⟩
  | succ m ih =>
    intro i k s hi hk
    obtain ⟨k, rfl⟩ : ∃ k', k = k' + 1 := ⟨k - 1, by omega⟩
    rw [u_markBlock_17, if_pos (ltN (by omega) (by omega)), N_add, if_neg (N_neg (by omega)), if_pos (ltZ (z := 256) 256 rfl (by omega) (by omega)), grd_pos (inbN (by omega) (by omega)), bnd_eq, ix_N (by omega), N_succ]
    obtain ⟨t, t1, t2, t3, t4⟩ := ih (i + 1) k (setA s 1 (A + i) (1 &&& 1)) (by omega) (by omega)
    refine ⟨t, t1, t2, fun j hj => ?_, fun x => ?_⟩
    · rw [t3 j hj]; funext x; rw [setA_2, if_neg (fun w => hj w.1)]
    · rw [t4, setA_2]
      by_cases r : A + (i + 1) ≤ x ∧ x < A + Z
      · rw [if_pos r, if_pos (by omega)]
      · rw [if_neg r]
        by_cases e : x = A + i
        · rw [if_pos ⟨by trivial, e⟩, if_pos (by omega)]; rfl
        · rw [if_neg (fun w => e w.2), if_neg (by omega)]
theorem own_mb {n h A Z : Nat} (hn : 300 ≤ n) (hh : h < 4) (hA : A + Z ≤ 256) {s : St} (e3 : s.2 3 h = Int32.ofNat A) (e4 : s.2 4 h = Int32.ofNat Z) : ∃ t, f_markBlock n (Int32.ofNat h) s = some t ∧ t.1 = s.1 ∧ (∀ j, j ≠ 1 → t.2 j = s.2 j) ∧ (∀ x, t.2 1 x = if A ≤ x ∧ x < A + Z then 1 else s.2 1 x) := by
  unfold f_markBlock
  rw [grd_pos (inbN (by omega) (by omega)), ix_N (by omega), e3, e4]
  obtain ⟨t, t1, t2, t3, t4⟩ := own_mb17 (n := n) hA Z 0 n s (by omega) (by omega)
  exact ⟨t, t1, t2, t3, fun x => by rw [t4, Nat.add_zero]⟩
theorem own_cm {n : Nat} (hn : 300 ≤ n) (s : St) : ∃ t, f_clearMark n s = some t ∧ t.1 = s.1 ∧ (∀ j, j ≠ 1 → t.2 j = s.2 j) ∧ (∀ x, x < 256 → t.2 1 x = 0) := by
  have q := loopN (F := f_clearMark_2 n) (N := 256) (f := fun i s => setA s 1 i (0 &&& 1)) (fin := fun s => some s)
    (fun k i s hi => by rw [u_clearMark_2, if_pos (ltZ (z := 256) 256 rfl hi (by omega)), grd_pos (inbN (n := 256) hi (by omega)), bnd_eq, ix_N (by omega)])
    (fun k s => by rw [u_clearMark_2, if_neg (by decide)]) 256 0 n s (by omega) (by omega)
  rw [itr_fill] at q
  refine ⟨_, q, rfl, fun j hj => ?_, fun x hx => ?_⟩
  · funext x; show (if j = 1 ∧ x < 256 then _ else s.2 j x) = _; rw [if_neg (fun w => hj w.1)]
  · show (if 1 = 1 ∧ x < 256 then _ else s.2 1 x) = _; rw [if_pos ⟨rfl, hx⟩]; rfl
/-- a place is marked where a block of the chosen ones lies -/
def own_Mk (S : Nat → Prop) (a z : Nat → Nat) (s : St) : Prop := ∀ x, x < 256 → ((s.2 1 x = 0) ↔ ∀ h, h < 4 → S h → ¬ (a h ≤ x ∧ x < a h + z h))
theorem own_Mkadd {S : Nat → Prop} {a z : Nat → Nat} {s t : St} {h : Nat} (hh : h < 4) (M : own_Mk S a z s) (e : ∀ x, t.2 1 x = if a h ≤ x ∧ x < a h + z h then 1 else s.2 1 x) : own_Mk (fun k => S k ∨ k = h) a z t := fun x hx => by
  rw [e]
  by_cases q : a h ≤ x ∧ x < a h + z h
  · rw [if_pos q]
    exact ⟨fun w => absurd w (by decide), fun w => absurd q (w h hh (Or.inr rfl))⟩
  · rw [if_neg q, M x hx]
    refine ⟨fun w k hk hs => ?_, fun w k hk hs => w k hk (Or.inl hs)⟩
    rcases hs with hs | rfl
    · exact w k hk hs
    · exact q
theorem own_MkE {S S' : Nat → Prop} {a z : Nat → Nat} {s : St} (h : ∀ k, k < 4 → (S k ↔ S' k)) (M : own_Mk S a z s) : own_Mk S' a z s := fun x hx => by
  rw [M x hx]
  exact ⟨fun w k hk hs => w k hk ((h k hk).mpr hs), fun w k hk hs => w k hk ((h k hk).mp hs)⟩
section
variable {n W : Nat} {st a z : Nat → Nat} {lk : Nat → Bool} {E : Nat → Nat → Int32} {s : St}
theorem own_ml (hn : 300 ≤ n) (H : own_H W st a z lk E s) : ∃ t, f_markLive n s = some t ∧ own_H W st a z lk E t ∧ own_Mk (fun h => st h = 1) a z t ∧ t.1 = s.1 ∧ (∀ j, j ≠ 1 → t.2 j = s.2 j) := by
  obtain ⟨u, u1, u2, u3, u4⟩ := own_cm hn s
  unfold f_markLive
  rw [u1, Option.bind_some]
  have lp : ∀ (m i k : Nat) (s' : St), i + m = 4 → m < k → s'.1 = s.1 → (∀ j, j ≠ 1 → s'.2 j = s.2 j) → own_Mk (fun h => h < i ∧ st h = 1) a z s' → ∃ t, f_markLive_6 n k (Int32.ofNat i) s' = some t ∧ own_H W st a z lk E t ∧ own_Mk (fun h => st h = 1) a z t ∧ t.1 = s.1 ∧ (∀ j, j ≠ 1 → t.2 j = s.2 j) := by
    intro m
    induction m with
    | zero =>
      intro i k s' hi hk e1 e2 M
      obtain ⟨k, rfl⟩ : ∃ k', k = k' + 1 := ⟨k - 1, by omega⟩
      rw [u_markLive_6, e1, H.1.2.1, if_neg (by rw [show i = 4 by omega]; decide)]
      exact ⟨s', rfl, own_HE ⟨by rw [e1], by rw [e1]⟩ (fun j hj => e2 j (by omega)) H, own_MkE (fun k hk => ⟨fun w => w.2, fun w => ⟨by omega, w⟩⟩) M, e1, e2⟩
    | succ m ih =>
      intro i k s' hi hk e1 e2 M
      obtain ⟨k, rfl⟩ : ∃ k', k = k' + 1 := ⟨k - 1, by omega⟩
      obtain ⟨b1, b2, b3⟩ := H.2.1 i (by omega)
      rw [u_markLive_6, e1, H.1.2.1, if_pos (ltZ (z := 4) 4 rfl (by omega) (by omega)), grd_pos (inbN (by omega) (by omega)), ix_N (by omega), e2 2 (by decide), b1, N_succ]
      by_cases q : st i = 1
      · obtain ⟨c1, c2, c3, c4, c5, c6⟩ := b3 q
        have W39 := H.1.2.2.2
        obtain ⟨t, t1, t2, t3, t4⟩ := own_mb (n := n) (h := i) (A := a i) (Z := z i) (s := s') hn (by omega) (by omega) (by rw [e2 3 (by decide)]; exact c1) (by rw [e2 4 (by decide)]; exact c2)
        rw [if_pos (by rw [q]; rfl), t1, Option.bind_some]
        exact ih (i + 1) k t (by omega) (by omega) (t2.trans e1) (fun j hj => (t3 j hj).trans (e2 j hj)) (own_MkE (fun k hk => ⟨fun w => by
          rcases w with w | w
          · exact ⟨by omega, w.2⟩
          · exact ⟨by omega, by rw [w]; exact q⟩, fun w => by
          by_cases e : k = i
          · exact Or.inr e
          · exact Or.inl ⟨by omega, w.2⟩⟩) (own_Mkadd (by omega) M t4))
      · rw [if_neg (show ¬ Int32.ofNat (st i) = 1 from fun w => q ((N_inj (by omega) (by omega)).mp w))]
        exact ih (i + 1) k s' (by omega) (by omega) e1 e2 (own_MkE (fun k hk => ⟨fun w => ⟨by omega, w.2⟩, fun w => ⟨by
          by_cases e : k = i
          · rw [e] at w; exact absurd w.2 q
          · omega, w.2⟩⟩) M)
  exact lp 4 0 n u (by omega) (by omega) u2 u3 (fun x hx => ⟨fun _ k _ w => by omega, fun _ => u4 x hx⟩)
theorem own_fr (hn : 300 ≤ n) (h9 : s.1 9 = Int32.ofNat W) (hW : W ≤ 39) {m : Nat} (hm : 1 ≤ m) (hm2 : m ≤ 100) : ∃ v, f_firstRun n s (Int32.ofNat m) = some v ∧ (v = -1 ∨ ∃ A, v = Int32.ofNat A ∧ A + m ≤ W ∧ ∀ i, A ≤ i → i < A + m → s.2 1 i = 0) := by
  have lp : ∀ (d i k r : Nat), i + d = W → d < k → r ≤ i → r < m → (∀ j, i - r ≤ j → j < i → s.2 1 j = 0) → ∃ v, f_firstRun_4 n s k (Int32.ofNat m) (Int32.ofNat r) (Int32.ofNat i) = some v ∧ (v = -1 ∨ ∃ A, v = Int32.ofNat A ∧ A + m ≤ W ∧ ∀ i, A ≤ i → i < A + m → s.2 1 i = 0) := by
    intro d
    induction d with
    | zero =>
      intro i k r hi hk hr hm' hf
      obtain ⟨k, rfl⟩ : ∃ k', k = k' + 1 := ⟨k - 1, by omega⟩
      rw [u_firstRun_4, h9, if_neg (by rw [show i = W by omega]; exact nltN (by omega))]
      exact ⟨-1, rfl, Or.inl rfl⟩
    | succ d ih =>
      intro i k r hi hk hr hm' hf
      obtain ⟨k, rfl⟩ : ∃ k', k = k' + 1 := ⟨k - 1, by omega⟩
      rw [u_firstRun_4, h9, if_pos (ltN (by omega) (by omega)), grd_pos (inbN (by omega) (by omega)), ix_N (by omega), N_succ, N_succ]
      by_cases q : s.2 1 i = 0
      · rw [if_pos q]
        have hf' : ∀ j, i - r ≤ j → j < i + 1 → s.2 1 j = 0 := fun j h1 h2 => by
          by_cases e : j = i
          · rw [e]; exact q
          · exact hf j h1 (by omega)
        by_cases g : r + 1 < m
        · rw [if_pos (ltN g (by omega))]
          exact ih (i + 1) k (r + 1) (by omega) (by omega) (by omega) g (fun j h1 h2 => hf' j (by omega) h2)
        · rw [if_neg (fun w => g ((N_lt (by omega) (by omega)).mp w))]
          have e : Int32.ofNat i - Int32.ofNat m + 1 = Int32.ofNat (i - r) := by
            have h1 : Int32.ofNat i + 1 = Int32.ofNat (i - r) + Int32.ofNat m := by rw [N_succ, N_add]; congr 1; omega
            have h2 : Int32.ofNat i - Int32.ofNat m + 1 = Int32.ofNat i + 1 - Int32.ofNat m := by grind
            rw [h2, h1, Int32.add_sub_cancel]
          rw [e]
          exact ⟨_, rfl, Or.inr ⟨i - r, rfl, by omega, fun j h1 h2 => hf' j h1 (by omega)⟩⟩
      · rw [if_neg q]
        exact ih (i + 1) k 0 (by omega) (by omega) (by omega) (by omega) (fun j h1 h2 => by omega)
  exact lp W 0 n 0 (by omega) (by omega) (by omega) (by omega) (fun j h1 h2 => by omega)
/-- a place for m words among the live blocks -/
def own_Fit (W m : Nat) (st a z : Nat → Nat) (v : Int32) : Prop := v = -1 ∨ ∃ A, v = Int32.ofNat A ∧ A + m ≤ W ∧ ∀ h, h < 4 → st h = 1 → A + m ≤ a h ∨ a h + z h ≤ A
theorem own_fit (hn : 300 ≤ n) (H : own_H W st a z lk E s) {m : Nat} (hm : 1 ≤ m) (hm2 : m ≤ 100) : ∃ v t, f_fit n (Int32.ofNat m) s = some (v, t) ∧ own_H W st a z lk E t ∧ own_Fit W m st a z v ∧ t.1 = s.1 ∧ (∀ j, j ≠ 1 → t.2 j = s.2 j) := by
  obtain ⟨t, t1, t2, t3, t4, t5⟩ := own_ml hn H
  obtain ⟨v, v1, v2⟩ := own_fr (n := n) (s := t) hn t2.1.1 t2.1.2.2.2 hm hm2
  unfold f_fit
  rw [t1, Option.bind_some, v1, Option.bind_some]
  refine ⟨v, t, rfl, t2, ?_, t4, t5⟩
  rcases v2 with rfl | ⟨A, rfl, A1, A2⟩
  · exact Or.inl rfl
  · refine Or.inr ⟨A, rfl, A1, fun h hh hs => ?_⟩
    obtain ⟨c1, c2, c3, c4, c5, c6⟩ := (t2.2.1 h hh).2.2 hs
    have W39 := H.1.2.2.2
    have := own_iv (a := a h) (z := z h) (b := A) (y := m) c4 hm (fun i h1 h2 => ((t3 i (by omega)).mp (A2 i h1 h2)) h hh hs)
    omega
/-- copying -/
theorem own_cp1 {x y : Nat} (hx : x < 256) (hy : y < 256) (s : St) : f_copyOne (Int32.ofNat x) (Int32.ofNat y) s = some (setA s 0 y (s.2 0 x)) := by
  unfold f_copyOne
  rw [if_neg (N_neg (by omega)), if_pos (ltZ (z := 256) 256 rfl hx (by omega)), if_neg (N_neg (by omega)), if_pos (ltZ (z := 256) 256 rfl hy (by omega)), grd_pos (inbN hx (by omega)), grd_pos (inbN hy (by omega)), bnd_eq, ix_N (by omega), ix_N (by omega)]
theorem own_cp (hn : 300 ≤ n) {x y c : Nat} (hx : x + c ≤ 256) (hy : y + c ≤ 256) (hc : 1 ≤ c) (s : St) : ∃ t, f_copyWords n (Int32.ofNat x) (Int32.ofNat y) (Int32.ofNat c) s = some t ∧ t.1 = s.1 ∧ (∀ j, j ≠ 0 → t.2 j = s.2 j) ∧ (∀ i, t.2 0 i = if y ≤ i ∧ i < y + c then s.2 0 (i - y + x) else s.2 0 i) := by
  unfold f_copyWords
  by_cases q : x < y
  · have lp : ∀ (m k : Nat) (s' : St), m ≤ c → m < k → s'.1 = s.1 → (∀ j, j ≠ 0 → s'.2 j = s.2 j) → (∀ i, s'.2 0 i = if y + m ≤ i ∧ i < y + c then s.2 0 (i - y + x) else s.2 0 i) → ∃ t, f_copyWords_40 n k (Int32.ofNat x) (Int32.ofNat y) (Int32.ofNat m - 1) s' = some t ∧ t.1 = s.1 ∧ (∀ j, j ≠ 0 → t.2 j = s.2 j) ∧ (∀ i, t.2 0 i = if y ≤ i ∧ i < y + c then s.2 0 (i - y + x) else s.2 0 i) := by
      intro m
      induction m with
      | zero =>
        intro k s' hm hk e1 e2 e3
        obtain ⟨k, rfl⟩ : ∃ k', k = k' + 1 := ⟨k - 1, by omega⟩
        rw [u_copyWords_40, if_pos (by decide)]
        exact ⟨s', rfl, e1, e2, fun i => by rw [e3, Nat.add_zero]⟩
      | succ m ih =>
        intro k s' hm hk e1 e2 e3
        obtain ⟨k, rfl⟩ : ∃ k', k = k' + 1 := ⟨k - 1, by omega⟩
        have em : Int32.ofNat (m + 1) - 1 = Int32.ofNat m := by rw [← N_succ, Int32.add_sub_cancel]
        have ep : Int32.ofNat m + -1 = Int32.ofNat m - 1 := by rw [Int32.sub_eq_add_neg]
        rw [em, u_copyWords_40, if_neg (N_neg (by omega)), N_add, N_add, own_cp1 (by omega) (by omega), Option.bind_some, ep]
        refine ih k _ (by omega) (by omega) e1 (fun j hj => ?_) (fun i => ?_)
        · rw [← e2 j hj]; funext i; rw [setA_2, if_neg (fun w => hj w.1)]
        · rw [setA_2, e3, e3]
          by_cases e : i = y + m
          · rw [if_pos ⟨by trivial, e⟩, if_neg (by omega), if_pos (by omega), show i - y + x = x + m by omega]
          · rw [if_neg (fun w => e w.2)]
            by_cases r : y + (m + 1) ≤ i ∧ i < y + c
            · rw [if_pos r, if_pos (by omega)]
            · rw [if_neg r, if_neg (by omega)]
    rw [if_pos (ltN q (by omega))]
    exact lp c n s (Nat.le_refl _) (by omega) rfl (fun _ _ => rfl) (fun i => by rw [if_neg (by omega)])
  · have lp : ∀ (m w k : Nat) (s' : St), w + m = c → m < k → s'.1 = s.1 → (∀ j, j ≠ 0 → s'.2 j = s.2 j) → (∀ i, s'.2 0 i = if y ≤ i ∧ i < y + w then s.2 0 (i - y + x) else s.2 0 i) → ∃ t, f_copyWords_8 n k (Int32.ofNat x) (Int32.ofNat y) (Int32.ofNat c) (Int32.ofNat w) s' = some t ∧ t.1 = s.1 ∧ (∀ j, j ≠ 0 → t.2 j = s.2 j) ∧ (∀ i, t.2 0 i = if y ≤ i ∧ i < y + c then s.2 0 (i - y + x) else s.2 0 i) := by
      intro m
      induction m with
      | zero =>
        intro w k s' hm hk e1 e2 e3
        obtain ⟨k, rfl⟩ : ∃ k', k = k' + 1 := ⟨k - 1, by omega⟩
        have : w = c := by omega
        subst this
        rw [u_copyWords_8, if_neg (nltN (by omega))]
        exact ⟨s', rfl, e1, e2, e3⟩
      | succ m ih =>
        intro w k s' hm hk e1 e2 e3
        obtain ⟨k, rfl⟩ : ∃ k', k = k' + 1 := ⟨k - 1, by omega⟩
        rw [u_copyWords_8, if_pos (ltN (by omega) (by omega)), N_add, N_add, own_cp1 (by omega) (by omega), Option.bind_some, N_succ]
        refine ih (w + 1) k _ (by omega) (by omega) e1 (fun j hj => ?_) (fun i => ?_)
        · rw [← e2 j hj]; funext i; rw [setA_2, if_neg (fun w => hj w.1)]
        · rw [setA_2, e3, e3]
          by_cases e : i = y + w
          · rw [if_pos ⟨by trivial, e⟩, if_neg (by omega), if_pos (by omega), show i - y + x = x + w by omega]
          · rw [if_neg (fun u => e u.2)]
            by_cases r : y ≤ i ∧ i < y + w
            · rw [if_pos r, if_pos (by omega)]
            · rw [if_neg r, if_neg (by omega)]
    rw [if_neg (fun w => q ((N_lt (by omega) (by omega)).mp w))]
    exact lp c 0 n s (by omega) (by omega) rfl (fun _ _ => rfl) (fun i => by rw [if_neg (by omega)])
end

/-! ### compacting -/
def own_upd {α : Type} (g : Nat → α) (p : Nat) (v : α) : Nat → α := fun q => if q = p then v else g q
theorem own_upd1 {α : Type} (g : Nat → α) (p : Nat) (v : α) : own_upd g p v p = v := if_pos rfl
theorem own_upd2 {α : Type} (g : Nat → α) {p q : Nat} (v : α) (h : q ≠ p) : own_upd g p v q = g q := if_neg h
section
variable {n W : Nat} {st a z : Nat → Nat} {lk : Nat → Bool} {E : Nat → Nat → Int32} {s : St}
theorem own_mv34 (hn : 300 ≤ n) (H : own_H W st a z lk E s) {S : Nat → Prop} (M : own_Mk S a z s) {h b : Nat} (hh : h < 4) (hs : st h = 1) (nS : ¬ S h) (hb : b + z h ≤ W) (dj : ∀ k, k < 4 → k ≠ h → st k = 1 → b + z h ≤ a k ∨ a k + z k ≤ b) :
    ∃ t, f_moveBlock_34 n (Int32.ofNat h) (Int32.ofNat (z h)) (Int32.ofNat b) s = some t ∧ own_H W st (own_upd a h b) z lk E t ∧ own_Mk (fun k => S k ∨ k = h) (own_upd a h b) z t ∧ t.1 = s.1 ∧ (∀ j, j ≠ 0 → j ≠ 1 → j ≠ 3 → t.2 j = s.2 j) := by
  have W39 := H.1.2.2.2
  obtain ⟨c1, c2, c3, c4, c5, c6⟩ := (H.2.1 h hh).2.2 hs
  obtain ⟨u, u1, u2, u3, u4⟩ := own_cp hn (x := a h) (y := b) (c := z h) (by omega) (by omega) c4 s
  have e3 : ∀ k, (setA u 3 h (Int32.ofNat b)).2 3 k = if k = h then Int32.ofNat b else s.2 3 k := fun k => by
    rw [setA_2, u3 3 (by decide)]
    by_cases e : k = h
    · rw [if_pos ⟨by trivial, e⟩, if_pos e]
    · rw [if_neg (fun w => e w.2), if_neg e]
  have eo : ∀ j, j ≠ 3 → (setA u 3 h (Int32.ofNat b)).2 j = u.2 j := fun j hj => by funext k; rw [setA_2, if_neg (fun w => hj w.1)]
  obtain ⟨t, t1, t2, t3, t4⟩ := own_mb (n := n) (h := h) (A := b) (Z := z h) (s := setA u 3 h (Int32.ofNat b)) hn hh (by omega) (by rw [e3, if_pos rfl]) (by rw [eo 4 (by decide), u3 4 (by decide)]; exact c2)
  unfold f_moveBlock_34
  rw [grd_pos (inbN (by omega) (by omega)), ix_N (by omega), c1, u1, Option.bind_some, bnd_eq, t1, Option.bind_some]
  have to : ∀ j, j ≠ 0 → j ≠ 1 → j ≠ 3 → t.2 j = s.2 j := fun j h0 h1 h3 => by rw [t3 j h1, eo j h3, u3 j h0]
  have t0 : ∀ i, t.2 0 i = if b ≤ i ∧ i < b + z h then s.2 0 (i - b + a h) else s.2 0 i := fun i => by rw [t3 0 (by decide), eo 0 (by decide), u4]
  have tt3 : ∀ k, t.2 3 k = if k = h then Int32.ofNat b else s.2 3 k := fun k => by rw [t3 3 (by decide), e3]
  have tt : t.1 = s.1 := t2.trans u2
  refine ⟨t, rfl, ⟨by rw [tt]; exact H.1, fun k hk => ?_, fun k l hk hl hne hsk hsl => ?_⟩, fun x hx => ?_, tt, to⟩
  · rw [to 2 (by decide) (by decide) (by decide), to 4 (by decide) (by decide) (by decide), to 7 (by decide) (by decide) (by decide), tt3]
    obtain ⟨d1, d2, d3⟩ := H.2.1 k hk
    refine ⟨d1, d2, fun w => ?_⟩
    obtain ⟨f1, f2, f3, f4, f5, f6⟩ := d3 w
    by_cases e : k = h
    · subst e
      rw [if_pos rfl, own_upd1]
      refine ⟨rfl, f2, f3, f4, hb, fun i hi => ?_⟩
      rw [t0, if_pos (by omega), show b + i - b + a k = a k + i by omega]; exact f6 i hi
    · rw [if_neg e, own_upd2 a _ e]
      refine ⟨f1, f2, f3, f4, f5, fun i hi => ?_⟩
      have := dj k hk e w
      rw [t0, if_neg (by omega)]; exact f6 i hi
  · by_cases e1 : k = h
    · have e2 : l ≠ h := fun e => hne (by rw [e1, e])
      rw [e1, own_upd1, own_upd2 a _ e2]
      exact dj l hl e2 hsl
    · by_cases e2 : l = h
      · rw [e2, own_upd1, own_upd2 a _ e1]
        have := dj k hk e1 hsk
        omega
      · rw [own_upd2 a _ e1, own_upd2 a _ e2]; exact H.2.2 k l hk hl hne hsk hsl
  · rw [t4, eo 1 (by decide), u3 1 (by decide)]
    have key : ∀ k, k < 4 → S k → own_upd a h b k = a k := fun k _ hk => own_upd2 a _ (fun e => nS (e ▸ hk))
    by_cases q : b ≤ x ∧ x < b + z h
    · rw [if_pos q]
      refine ⟨fun w => absurd w (by decide), fun w => absurd ?_ (w h hh (Or.inr rfl))⟩
      rw [own_upd1]; exact q
    · rw [if_neg q, M x hx]
      refine ⟨fun w k hk hsk => ?_, fun w k hk hsk => ?_⟩
      · rcases hsk with hsk | rfl
        · rw [key k hk hsk]; exact w k hk hsk
        · rw [own_upd1]; exact q
      · have := w k hk (Or.inl hsk)
        rw [key k hk hsk] at this; exact this
theorem own_move (hn : 300 ≤ n) (H : own_H W st a z lk E s) {S : Nat → Prop} (M : own_Mk S a z s) (hS : ∀ k, S k → st k = 1) {h : Nat} (hh : h < 4) (hs : st h = 1) (nS : ¬ S h) (up : ∀ k, k < 4 → k ≠ h → st k = 1 → ¬ S k → a h + z h ≤ a k) :
    ∃ t b, f_moveBlock n (Int32.ofNat h) s = some t ∧ b ≤ a h ∧ own_H W st (own_upd a h b) z lk E t ∧ own_Mk (fun k => S k ∨ k = h) (own_upd a h b) z t ∧ t.1 = s.1 ∧ (∀ j, j ≠ 0 → j ≠ 1 → j ≠ 3 → t.2 j = s.2 j) := by
  have W39 := H.1.2.2.2
  obtain ⟨c1, c2, c3, c4, c5, c6⟩ := (H.2.1 h hh).2.2 hs
  have stay : ∃ t b, f_moveBlock_27 n (Int32.ofNat h) (Int32.ofNat (z h)) s = some t ∧ b ≤ a h ∧ own_H W st (own_upd a h b) z lk E t ∧ own_Mk (fun k => S k ∨ k = h) (own_upd a h b) z t ∧ t.1 = s.1 ∧ (∀ j, j ≠ 0 → j ≠ 1 → j ≠ 3 → t.2 j = s.2 j) := by
    obtain ⟨t, t1, t2⟩ := own_mv34 hn H M hh hs nS (b := a h) c5 (fun k hk hne hsk => H.2.2 h k hh hk (fun e => hne e.symm) hs hsk)
    refine ⟨t, a h, ?_, Nat.le_refl _, t2⟩
    unfold f_moveBlock_27
    rw [grd_pos (inbN (by omega) (by omega)), ix_N (by omega), c1]; exact t1
  obtain ⟨v, v1, v2⟩ := own_fr (n := n) (s := s) hn H.1.1 W39 (m := z h) c4 (by omega)
  unfold f_moveBlock
  rw [grd_pos (inbN (by omega) (by omega)), ix_N (by omega), c2, v1, Option.bind_some, c1]
  rcases v2 with rfl | ⟨A, rfl, A1, A2⟩
  · rw [if_pos (by decide)]; exact stay
  · rw [if_neg (N_neg (by omega))]
    by_cases q : a h < A
    · rw [if_pos (ltN q (by omega))]; exact stay
    · rw [if_neg (fun w => q ((N_lt (by omega) (by omega)).mp w))]
      obtain ⟨t, t1, t2⟩ := own_mv34 hn H M hh hs nS (b := A) A1 (fun k hk hne hsk => by
        by_cases r : S k
        · obtain ⟨g1, g2, g3, g4, g5, g6⟩ := (H.2.1 k hk).2.2 hsk
          have := own_iv (a := a k) (z := z k) (b := A) (y := z h) g4 c4 (fun i h1 h2 => ((M i (by omega)).mp (A2 i h1 h2)) k hk r)
          omega
        · have := up k hk hne hsk r
          omega)
      exact ⟨t, A, t1, by omega, t2⟩
end
/-! ### sorting -/
/-- the first m places of the order: the chosen handles, each once -/
def own_O (m : Nat) (o : Nat → Nat) (mv : Nat → Prop) (s : St) : Prop := (∀ k, k < m → s.2 6 k = Int32.ofNat (o k) ∧ o k < 4) ∧ (∀ k l, k < m → l < m → o k = o l → k = l) ∧ (∀ h, h < 4 → (mv h ↔ ∃ k, k < m ∧ o k = h))
theorem own_OE {m : Nat} {o : Nat → Nat} {mv : Nat → Prop} {s t : St} (h : t.2 6 = s.2 6) (O : own_O m o mv s) : own_O m o mv t := by
  unfold own_O; rw [h]; exact O
theorem own_swap {m j : Nat} {o : Nat → Nat} {mv : Nat → Prop} {s : St} (hj : 1 ≤ j) (hjm : j < m) (O : own_O m o mv s) : own_O m (own_upd (own_upd o (j - 1) (o j)) j (o (j - 1))) mv (setA (setA s 6 (j - 1) (Int32.ofNat (o j))) 6 j (Int32.ofNat (o (j - 1)))) := by
  obtain ⟨o1, o2, o3⟩ := O
  have ne : j - 1 ≠ j := by omega
  have v : ∀ k, own_upd (own_upd o (j - 1) (o j)) j (o (j - 1)) k = if k = j then o (j - 1) else if k = j - 1 then o j else o k := fun k => rfl
  -- the place from which a value comes
  have sg : ∀ k, k < m → ∃ k', k' < m ∧ own_upd (own_upd o (j - 1) (o j)) j (o (j - 1)) k = o k' ∧ ((k = j ∧ k' = j - 1) ∨ (k = j - 1 ∧ k' = j) ∨ (k ≠ j ∧ k ≠ j - 1 ∧ k' = k)) := fun k hk => by
    rw [v]
    by_cases e1 : k = j
    · rw [if_pos e1]; exact ⟨j - 1, by omega, rfl, Or.inl ⟨e1, rfl⟩⟩
    · rw [if_neg e1]
      by_cases e2 : k = j - 1
      · rw [if_pos e2]; exact ⟨j, hjm, rfl, Or.inr (Or.inl ⟨e2, rfl⟩)⟩
      · rw [if_neg e2]; exact ⟨k, hk, rfl, Or.inr (Or.inr ⟨e1, e2, rfl⟩)⟩
  refine ⟨fun k hk => ?_, fun k l hk hl e => ?_, fun h hh => ?_⟩
  · rw [setA_2, setA_2, v]
    by_cases e1 : k = j
    · rw [if_pos ⟨by trivial, e1⟩, if_pos e1]; exact ⟨rfl, (o1 (j - 1) (by omega)).2⟩
    · rw [if_neg (fun w => e1 w.2), if_neg e1]
      by_cases e2 : k = j - 1
      · rw [if_pos ⟨by trivial, e2⟩, if_pos e2]; exact ⟨rfl, (o1 j hjm).2⟩
      · rw [if_neg (fun w => e2 w.2), if_neg e2]; exact o1 k hk
  · obtain ⟨k', k1, k2, k3⟩ := sg k hk
    obtain ⟨l', l1, l2, l3⟩ := sg l hl
    rw [k2, l2] at e
    have := o2 k' l' k1 l1 e
    omega
  · rw [o3 h hh]
    constructor
    · intro ⟨k, k1, k2⟩
      by_cases e1 : k = j
      · exact ⟨j - 1, by omega, by rw [v, if_neg ne, if_pos rfl, ← e1]; exact k2⟩
      · by_cases e2 : k = j - 1
        · exact ⟨j, hjm, by rw [v, if_pos rfl, ← e2]; exact k2⟩
        · exact ⟨k, k1, by rw [v, if_neg e1, if_neg e2]; exact k2⟩
    · intro ⟨k, k1, k2⟩
      obtain ⟨k', k3, k4, -⟩ := sg k k1
      exact ⟨k', k3, by rw [← k4]; exact k2⟩
section
variable {n : Nat} {a : Nat → Nat} {mv : Nat → Prop}
theorem own_so9 {m i : Nat} (hm : m ≤ 4) (him : i < m) {k2 : Int32 → Int32 → St → Option St} : ∀ (j k : Nat) (o : Nat → Nat) (s : St), j ≤ i → j < k → own_O m o mv s → (∀ h, h < 4 → mv h → s.2 3 h = Int32.ofNat (a h) ∧ a h < 100) → (∀ p q, p < q → q ≤ i → q ≠ j → a (o p) ≤ a (o q)) →
    ∃ o' t, f_sortOrder_9 n k2 k (Int32.ofNat m) (Int32.ofNat i) (Int32.ofNat j) s = k2 (Int32.ofNat m) (Int32.ofNat (i + 1)) t ∧ own_O m o' mv t ∧ (∀ p q, p < q → q ≤ i → a (o' p) ≤ a (o' q)) ∧ t.1 = s.1 ∧ (∀ j, j ≠ 6 → t.2 j = s.2 j) := by
  intro j
  induction j with
  | zero =>
    intro k o s hj hk O ha S
    obtain ⟨k, rfl⟩ : ∃ k', k = k' + 1 := ⟨k - 1, by omega⟩
    rw [u_sortOrder_9, if_neg (by decide), N_succ]
    exact ⟨o, s, rfl, O, fun p q h1 h2 => S p q h1 h2 (by omega), rfl, fun _ _ => rfl⟩
  | succ j ih =>
    intro k o s hj hk O ha S
    obtain ⟨k, rfl⟩ : ∃ k', k = k' + 1 := ⟨k - 1, by omega⟩
    have em : Int32.ofNat (j + 1) - 1 = Int32.ofNat j := by rw [← N_succ, Int32.add_sub_cancel]
    have ep : Int32.ofNat (j + 1) + -1 = Int32.ofNat j := by rw [← Int32.sub_eq_add_neg]; exact em
    obtain ⟨p1, p2⟩ := O.1 j (by omega)
    obtain ⟨q1, q2⟩ := O.1 (j + 1) (by omega)
    have m1 := (O.2.2 (o j) p2).mpr ⟨j, by omega, rfl⟩
    have m2 := (O.2.2 (o (j + 1)) q2).mpr ⟨j + 1, by omega, rfl⟩
    obtain ⟨a1, a2⟩ := ha (o j) p2 m1
    obtain ⟨b1, b2⟩ := ha (o (j + 1)) q2 m2
    rw [u_sortOrder_9, if_pos (by rw [show (0 : Int32) = Int32.ofNat 0 from rfl]; exact ltN (by omega) (by omega)), em, grd_pos (inbN (by omega) (by omega)), grd_pos (inbN (by omega) (by omega)), ix_N (by omega), ix_N (by omega), p1, q1, grd_pos (inbN (by omega) (by omega)), grd_pos (inbN (by omega) (by omega)), ix_N (by omega), ix_N (by omega), a1, b1]
    by_cases g : a (o (j + 1)) < a (o j)
    · rw [if_pos (ltN g (by omega)), bnd_eq, bnd_eq, ep]
      have O' := own_swap (j := j + 1) (by omega) (by omega) O
      rw [show j + 1 - 1 = j by omega] at O'
      obtain ⟨o', ho⟩ : ∃ o', o' = own_upd (own_upd o j (o (j + 1))) (j + 1) (o j) := ⟨_, rfl⟩
      have v1 : o' (j + 1) = o j := by rw [ho, own_upd1]
      have v2 : o' j = o (j + 1) := by rw [ho, own_upd2 _ _ (by omega), own_upd1]
      have v3 : ∀ k, k ≠ j → k ≠ j + 1 → o' k = o k := fun k h1 h2 => by rw [ho, own_upd2 _ _ h2, own_upd2 _ _ h1]
      rw [← ho] at O'
      clear ho
      obtain ⟨o2, t, t1, t2, t3, t4, t5⟩ := ih k o' _ (by omega) (by omega) O' (fun h hh w => by rw [setA_2, if_neg (fun z => by omega), setA_2, if_neg (fun z => by omega)]; exact ha h hh w) (fun p q h1 h2 h3 => by
        by_cases e1 : q = j + 1
        · rw [e1, v1]
          by_cases e2 : p = j
          · rw [e2, v2]; omega
          · rw [v3 p e2 (by omega)]; exact S p j (by omega) (by omega) (by omega)
        · rw [v3 q h3 e1]
          by_cases e2 : p = j
          · rw [e2, v2]; exact S (j + 1) q (by omega) h2 e1
          · by_cases e3 : p = j + 1
            · rw [e3, v1]; exact S j q (by omega) h2 e1
            · rw [v3 p e2 e3]; exact S p q h1 h2 e1)
      exact ⟨o2, t, t1, t2, t3, t4, fun l hl => by rw [t5 l hl]; funext x; rw [setA_2, if_neg (fun z => hl z.1), setA_2, if_neg (fun z => hl z.1)]⟩
    · rw [if_neg (fun w => g ((N_lt (by omega) (by omega)).mp w)), N_succ]
      refine ⟨o, s, rfl, O, fun p q h1 h2 => ?_, rfl, fun _ _ => rfl⟩
      by_cases e : q = j + 1
      · rw [e]
        by_cases e2 : p = j
        · rw [e2]; omega
        · have := S p j (by omega) (by omega) (by omega); omega
      · exact S p q h1 h2 e
theorem own_so {m : Nat} (hn : 300 ≤ n) (hm : m ≤ 4) {o : Nat → Nat} {s : St} (O : own_O m o mv s) (ha : ∀ h, h < 4 → mv h → s.2 3 h = Int32.ofNat (a h) ∧ a h < 100) : ∃ o' t, f_sortOrder n (Int32.ofNat m) s = some t ∧ own_O m o' mv t ∧ (∀ p q, p < q → q < m → a (o' p) ≤ a (o' q)) ∧ t.1 = s.1 ∧ (∀ j, j ≠ 6 → t.2 j = s.2 j) := by
  have lp : ∀ (d i k : Nat) (o : Nat → Nat) (s' : St), i + d = max m 1 → d < k → 1 ≤ i → own_O m o mv s' → s'.1 = s.1 → (∀ j, j ≠ 6 → s'.2 j = s.2 j) → (∀ p q, p < q → q < i → a (o p) ≤ a (o q)) → ∃ o' t, f_sortOrder_2 n k (Int32.ofNat m) (Int32.ofNat i) s' = some t ∧ own_O m o' mv t ∧ (∀ p q, p < q → q < m → a (o' p) ≤ a (o' q)) ∧ t.1 = s.1 ∧ (∀ j, j ≠ 6 → t.2 j = s.2 j) := by
    intro d
    induction d with
    | zero =>
      intro i k o s' hi hk h1 O e1 e2 S
      obtain ⟨k, rfl⟩ : ∃ k', k = k' + 1 := ⟨k - 1, by omega⟩
      rw [u_sortOrder_2, if_neg (fun w => by have := (N_lt (by omega) (by omega)).mp w; omega)]
      exact ⟨o, s', rfl, O, fun p q h1 h2 => S p q h1 (by omega), e1, e2⟩
    | succ d ih =>
      intro i k o s' hi hk h1 O e1 e2 S
      obtain ⟨k, rfl⟩ : ∃ k', k = k' + 1 := ⟨k - 1, by omega⟩
      rw [u_sortOrder_2, if_pos (ltN (by omega) (by omega))]
      obtain ⟨o', t, t1, t2, t3, t4, t5⟩ := own_so9 (n := n) (k2 := f_sortOrder_2 n k) hm (by omega : i < m) i n o s' (Nat.le_refl _) (by omega) O (fun h hh w => by rw [e2 3 (by decide)]; exact ha h hh w) (fun p q h1 h2 h3 => S p q h1 (by omega))
      rw [t1]
      exact ih (i + 1) k o' t (by omega) (by omega) (by omega) t2 (t4.trans e1) (fun j hj => (t5 j hj).trans (e2 j hj)) (fun p q h1 h2 => t3 p q h1 (by omega))
  unfold f_sortOrder
  exact lp (max m 1 - 1) 1 n o s (by omega) (by omega) (by omega) O rfl (fun _ _ => rfl) (fun p q h1 h2 => by omega)
end

/-! ### compactRun -/
section
variable {n W : Nat} {st a z : Nat → Nat} {lk : Nat → Bool} {E : Nat → Nat → Int32} {s : St}
theorem own_cr71 (hn : 300 ≤ n) {m : Nat} (hm : m ≤ 4) {o : Nat → Nat} {mv pin : Nat → Prop} (hl : ∀ h, h < 4 → st h = 1 → mv h ∨ pin h) (hp : ∀ h, pin h → st h = 1) (hv : ∀ h, mv h → st h = 1 ∧ ¬ pin h) (so : ∀ p q, p < q → q < m → a (o p) ≤ a (o q)) :
    ∀ (d j k : Nat) (a' : Nat → Nat) (s : St), j + d = m → d < k → own_H W st a' z lk E s → own_O m o mv s → own_Mk (fun h => pin h ∨ ∃ p, p < j ∧ o p = h) a' z s → (∀ p, j ≤ p → p < m → a' (o p) = a (o p)) → (∀ h, pin h → a' h = a h) →
    ∃ t a'', f_compactRun_71 n k (Int32.ofNat m) (Int32.ofNat j) s = some t ∧ own_H W st a'' z lk E t ∧ (∀ h, pin h → a'' h = a h) ∧ t.1 = s.1 ∧ (∀ j, j ≠ 0 → j ≠ 1 → j ≠ 3 → t.2 j = s.2 j) := by
  intro d
  induction d with
  | zero =>
    intro j k a' s hj hk H O M e1 e2
    obtain ⟨k, rfl⟩ : ∃ k', k = k' + 1 := ⟨k - 1, by omega⟩
    rw [u_compactRun_71, if_neg (by rw [show j = m by omega]; exact nltN (by omega))]
    exact ⟨s, a', rfl, H, e2, rfl, fun _ _ _ _ => rfl⟩
  | succ d ih =>
    intro j k a' s hj hk H O M e1 e2
    obtain ⟨k, rfl⟩ : ∃ k', k = k' + 1 := ⟨k - 1, by omega⟩
    obtain ⟨o1, o2⟩ := O.1 j (by omega)
    have mvj := (O.2.2 (o j) o2).mpr ⟨j, by omega, rfl⟩
    obtain ⟨sj, pj⟩ := hv _ mvj
    obtain ⟨t, b, t1, t2, t3, t4, t5, t6⟩ := own_move (n := n) hn H M (fun k w => by
        rcases w with w | ⟨p, p1, p2⟩
        · exact hp k w
        · rw [← p2]; exact (hv _ ((O.2.2 (o p) (O.1 p (by omega)).2).mpr ⟨p, by omega, rfl⟩)).1) (h := o j) o2 sj (fun w => by
        rcases w with w | ⟨p, p1, p2⟩
        · exact pj w
        · have := O.2.1 p j (by omega) (by omega) p2; omega) (fun k hk hne hsk nS => by
        rcases hl k hk hsk with w | w
        · obtain ⟨p, p1, p2⟩ := (O.2.2 k hk).mp w
          have pj : j < p := by
            by_cases q : p < j
            · exact absurd (Or.inr ⟨p, q, p2⟩) nS
            · by_cases q2 : p = j
              · rw [q2] at p2; exact absurd p2.symm hne
              · omega
          have h1 := so j p pj p1
          have h2 := e1 j (by omega) (by omega)
          have h3 := e1 p (by omega) (by omega)
          rw [p2] at h3 h1
          have h4 := H.2.2 (o j) k o2 hk (fun e => hne e.symm) sj hsk
          obtain ⟨_, _, _, g4, _, _⟩ := (H.2.1 k hk).2.2 hsk
          omega
        · exact absurd (Or.inl w) nS)
    rw [u_compactRun_71, if_pos (ltN (by omega) (by omega)), grd_pos (inbN (by omega) (by omega)), ix_N (by omega), o1, t1, Option.bind_some, N_succ]
    obtain ⟨t', a'', u1, u2, u3, u4, u5⟩ := ih (j + 1) k (own_upd a' (o j) b) t (by omega) (by omega) t3 (own_OE (t6 6 (by decide) (by decide) (by decide)) O) (own_MkE (fun k hk => ⟨fun w => by
        rcases w with (w | ⟨p, p1, p2⟩) | w
        · exact Or.inl w
        · exact Or.inr ⟨p, by omega, p2⟩
        · exact Or.inr ⟨j, by omega, w.symm⟩, fun w => by
        rcases w with w | ⟨p, p1, p2⟩
        · exact Or.inl (Or.inl w)
        · by_cases q : p = j
          · exact Or.inr (by rw [← p2, q])
          · exact Or.inl (Or.inr ⟨p, by omega, p2⟩)⟩) t4) (fun p p1 p2 => by
        rw [own_upd2 _ _ (fun e => by have := O.2.1 p j (by omega) (by omega) e; omega)]; exact e1 p (by omega) p2) (fun h w => by
        rw [own_upd2 _ _ (fun e => pj (by rw [← e]; exact w))]; exact e2 h w)
    exact ⟨t', a'', u1, u2, u3, u4.trans t5, fun j h0 h1 h3 => (u5 j h0 h1 h3).trans (t6 j h0 h1 h3)⟩
theorem own_bz (x : Bool) : own_b x = 0 ↔ x = false := by cases x <;> simp [own_b]
theorem own_cr (hn : 300 ≤ n) (H : own_H W st a z lk E s) {x : Int32} {xN : Nat} (hx : ∀ h, h < 4 → (Int32.ofNat h = x ↔ h = xN)) :
    ∃ t a', f_compactRun n x s = some t ∧ own_H W st a' z lk E t ∧ (∀ h, h < 4 → st h = 1 → (lk h = true ∨ h = xN) → a' h = a h) ∧ t.1 = s.1 ∧ (∀ j, j ≠ 0 → j ≠ 1 → j ≠ 3 → j ≠ 6 → t.2 j = s.2 j) := by
  obtain ⟨u, u1, u2, u3, u4⟩ := own_cm hn s
  have W39 := H.1.2.2.2
  unfold f_compactRun
  rw [u1, Option.bind_some]
  have lp : ∀ (d i k m : Nat) (o : Nat → Nat) (s' : St), i + d = 4 → d < k → m ≤ i → s'.1 = s.1 → (∀ j, j ≠ 1 → j ≠ 6 → s'.2 j = s.2 j) → own_O m o (fun h => h < i ∧ st h = 1 ∧ lk h = false ∧ h ≠ xN) s' → own_Mk (fun h => h < i ∧ st h = 1 ∧ (lk h = true ∨ h = xN)) a z s' →
      ∃ t a', f_compactRun_8 n k x (Int32.ofNat m) (Int32.ofNat i) s' = some t ∧ own_H W st a' z lk E t ∧ (∀ h, h < 4 → st h = 1 → (lk h = true ∨ h = xN) → a' h = a h) ∧ t.1 = s.1 ∧ (∀ j, j ≠ 0 → j ≠ 1 → j ≠ 3 → j ≠ 6 → t.2 j = s.2 j) := by
    intro d
    induction d with
    | zero =>
      intro i k m o s' hi hk hm e1 e2 O M
      obtain ⟨k, rfl⟩ : ∃ k', k = k' + 1 := ⟨k - 1, by omega⟩
      have i4 : i = 4 := by omega
      subst i4
      rw [u_compactRun_8, e1, H.1.2.1, if_neg (by decide)]
      obtain ⟨o', t, t1, t2, t3, t4, t5⟩ := own_so (n := n) (a := a) hn hm O (fun h hh w => by
        obtain ⟨c1, c2, c3, c4, c5, c6⟩ := (H.2.1 h hh).2.2 w.2.1
        rw [e2 3 (by decide) (by decide)]; exact ⟨c1, by omega⟩)
      rw [t1, Option.bind_some]
      have te : ∀ j, j ≠ 1 → j ≠ 6 → t.2 j = s.2 j := fun j h1 h6 => (t5 j h6).trans (e2 j h1 h6)
      obtain ⟨t', a', v1, v2, v3, v4, v5⟩ := own_cr71 (n := n) (W := W) (st := st) (a := a) (z := z) (lk := lk) (E := E) hn hm (o := o') (mv := fun h => h < 4 ∧ st h = 1 ∧ lk h = false ∧ h ≠ xN) (pin := fun h => h < 4 ∧ st h = 1 ∧ (lk h = true ∨ h = xN)) (fun h hh hs => by
          by_cases q : lk h = true
          · exact Or.inr ⟨hh, hs, Or.inl q⟩
          · by_cases q2 : h = xN
            · exact Or.inr ⟨hh, hs, Or.inr q2⟩
            · exact Or.inl ⟨hh, hs, by simpa using q, q2⟩) (fun h w => w.2.1) (fun h w => ⟨w.2.1, fun w' => by
          rcases w'.2.2 with q | q
          · rw [w.2.2.1] at q; exact absurd q (by decide)
          · exact w.2.2.2 q⟩) t3 m 0 n a t (by omega) (by omega) (own_HE ⟨by rw [t4, e1], by rw [t4, e1]⟩ (fun j hj => te j (by omega) (by omega)) H) t2 (own_MkE (fun k hk => ⟨fun w => Or.inl w, fun w => by
          rcases w with w | ⟨p, p1, p2⟩
          · exact w
          · omega⟩) (show own_Mk _ a z t by
            unfold own_Mk; rw [t5 1 (by decide)]; exact M)) (fun _ _ _ => rfl) (fun _ _ => rfl)
      exact ⟨t', a', v1, v2, fun h hh hs w => v3 h ⟨hh, hs, w⟩, v4.trans (t4.trans e1), fun j h0 h1 h3 h6 => (v5 j h0 h1 h3).trans (te j h1 h6)⟩
    | succ d ih =>
      intro i k m o s' hi hk hm e1 e2 O M
      obtain ⟨k, rfl⟩ : ∃ k', k = k' + 1 := ⟨k - 1, by omega⟩
      obtain ⟨b1, b2, b3⟩ := H.2.1 i (by omega)
      rw [u_compactRun_8, e1, H.1.2.1, if_pos (ltZ (z := 4) 4 rfl (by omega) (by omega)), grd_pos (inbN (by omega) (by omega)), ix_N (by omega), e2 2 (by decide) (by decide), b1, N_succ m, N_succ i]
      by_cases q : st i = 1
      · obtain ⟨c1, c2, c3, c4, c5, c6⟩ := b3 q
        rw [if_pos (by rw [q]; rfl), e2 7 (by decide) (by decide), c3]
        have pn : lk i = true ∨ i = xN → ∃ t a', f_compactRun_40 n (f_compactRun_8 n k) x (Int32.ofNat m) (Int32.ofNat i) s' = some t ∧ own_H W st a' z lk E t ∧ (∀ h, h < 4 → st h = 1 → (lk h = true ∨ h = xN) → a' h = a h) ∧ t.1 = s.1 ∧ (∀ j, j ≠ 0 → j ≠ 1 → j ≠ 3 → j ≠ 6 → t.2 j = s.2 j) := fun pi => by
          obtain ⟨t, t1, t2, t3, t4⟩ := own_mb (n := n) (h := i) (A := a i) (Z := z i) (s := s') hn (by omega) (by omega) (by rw [e2 3 (by decide) (by decide)]; exact c1) (by rw [e2 4 (by decide) (by decide)]; exact c2)
          unfold f_compactRun_40
          rw [t1, Option.bind_some, N_succ]
          refine ih (i + 1) k m o t (by omega) (by omega) (by omega) (t2.trans e1) (fun j h1 h6 => (t3 j h1).trans (e2 j h1 h6)) ?_ (own_MkE (fun k hk => ⟨fun w => ?_, fun w => ?_⟩) (own_Mkadd (by omega) M t4))
          · have O' := own_OE (t3 6 (by decide)) O
            refine ⟨O'.1, O'.2.1, fun h hh => ?_⟩
            rw [← O'.2.2 h hh]
            refine ⟨fun w => ⟨?_, w.2⟩, fun w => ⟨by omega, w.2⟩⟩
            by_cases e : h = i
            · rw [e] at w
              rcases pi with p | p
              · rw [w.2.2.1] at p; exact absurd p (by decide)
              · exact absurd p w.2.2.2
            · omega
          · rcases w with w | w
            · exact ⟨by omega, w.2⟩
            · rw [w]; exact ⟨by omega, q, pi⟩
          · by_cases e : k = i
            · exact Or.inr e
            · exact Or.inl ⟨by omega, w.2⟩
        by_cases g : lk i = false
        · rw [if_pos ((own_bz _).mpr g)]
          by_cases g2 : i = xN
          · rw [if_pos ((hx i (by omega)).mpr g2)]
            exact pn (Or.inr g2)
          · rw [if_neg (fun w => g2 ((hx i (by omega)).mp w)), grd_pos (inbN (by omega) (by omega)), ix_N (by omega), bnd_eq]
            have M' : own_Mk (fun h => h < i ∧ st h = 1 ∧ (lk h = true ∨ h = xN)) a z (setA s' 6 m (Int32.ofNat i)) := fun x hx => by
              rw [setA_2, if_neg (fun w => absurd w.1 (by decide))]; exact M x hx
            refine ih (i + 1) k (m + 1) (own_upd o m i) _ (by omega) (by omega) (by omega) e1 (fun j h1 h6 => ?_) ⟨fun p hp => ?_, fun p r hp hr e => ?_, fun h hh => ?_⟩ (own_MkE (fun k hk => ⟨fun w => ⟨by omega, w.2⟩, fun w => ⟨?_, w.2⟩⟩) M')
            · rw [← e2 j h1 h6]; funext y; rw [setA_2, if_neg (fun w => h6 w.1)]
            · rw [setA_2]
              by_cases e : p = m
              · rw [if_pos ⟨by trivial, e⟩, e, own_upd1]; exact ⟨rfl, by omega⟩
              · rw [if_neg (fun w => e w.2), own_upd2 _ _ e]; exact O.1 p (by omega)
            · by_cases f1 : p = m
              · by_cases f2 : r = m
                · rw [f1, f2]
                · rw [f1, own_upd1, own_upd2 _ _ f2] at e
                  have := (O.2.2 (o r) (O.1 r (by omega)).2).mpr ⟨r, by omega, rfl⟩
                  omega
              · by_cases f2 : r = m
                · rw [f2, own_upd1, own_upd2 _ _ f1] at e
                  have := (O.2.2 (o p) (O.1 p (by omega)).2).mpr ⟨p, by omega, rfl⟩
                  omega
                · rw [own_upd2 _ _ f1, own_upd2 _ _ f2] at e; exact O.2.1 p r (by omega) (by omega) e
            · constructor
              · intro w
                by_cases e : h = i
                · exact ⟨m, by omega, by rw [own_upd1, e]⟩
                · obtain ⟨p, p1, p2⟩ := (O.2.2 h hh).mp ⟨by omega, w.2⟩
                  exact ⟨p, by omega, by rw [own_upd2 _ _ (by omega)]; exact p2⟩
              · intro ⟨p, p1, p2⟩
                by_cases e : p = m
                · rw [e, own_upd1] at p2; rw [← p2]; exact ⟨by omega, q, g, g2⟩
                · rw [own_upd2 _ _ e] at p2
                  have := (O.2.2 h hh).mpr ⟨p, by omega, p2⟩
                  exact ⟨by omega, this.2⟩
            · by_cases e : k = i
              · rw [e] at w
                rcases w.2.2 with p | p
                · rw [g] at p; exact absurd p (by decide)
                · exact absurd p g2
              · omega
        · rw [if_neg (fun w => g ((own_bz _).mp w))]
          exact pn (Or.inl (by simpa using g))
      · rw [if_neg (show ¬ Int32.ofNat (st i) = 1 from fun w => q ((N_inj (by omega) (by omega)).mp w))]
        have ni : ∀ h, h < i + 1 → st h = 1 → h < i := fun h h1 h2 => by
          by_cases e : h = i
          · rw [e] at h2; exact absurd h2 q
          · omega
        exact ih (i + 1) k m o s' (by omega) (by omega) (by omega) e1 e2 ⟨O.1, O.2.1, fun h hh => by
          rw [← O.2.2 h hh]; exact ⟨fun w => ⟨ni h w.1 w.2.1, w.2⟩, fun w => ⟨by omega, w.2⟩⟩⟩ (own_MkE (fun k hk => ⟨fun w => ⟨by omega, w.2⟩, fun w => ⟨ni k w.1 w.2.1, w.2⟩⟩) M)
  exact lp 4 0 n 0 (fun _ => 0) u (by omega) (by omega) (by omega) u2 (fun j h1 _ => u3 j h1) ⟨fun p hp => by omega, fun p r hp => by omega, fun h hh => ⟨fun w => by omega, fun ⟨p, p1, _⟩ => by omega⟩⟩ (fun x hx => ⟨fun _ k _ w => by omega, fun _ => u4 x hx⟩)
end

/-! ### alloc -/
theorem own_nlt {i j : Nat} (h : j ≤ i) (hi : i < 2147483648) : ¬ Int32.ofNat i < Int32.ofNat j := fun w => by have := (N_lt hi (by omega)).mp w; omega
section
variable {n W : Nat} {st a z : Nat → Nat} {lk : Nat → Bool} {E : Nat → Nat → Int32} {s : St} {x : Int32} {xN : Nat}
theorem own_vic (hn : 300 ≤ n) (H : own_H W st a z lk E s) (hx : ∀ h, h < 4 → (Int32.ofNat h = x ↔ h = xN)) : ∃ v, f_victim n s x = some v ∧ (v = -1 ∨ ∃ h, h < 4 ∧ v = Int32.ofNat h ∧ st h = 1 ∧ lk h = false ∧ h ≠ xN) := by
  have lp : ∀ (d i k : Nat) (v : Int32), i + d = 4 → d < k → (v = -1 ∨ ∃ h, h < 4 ∧ v = Int32.ofNat h ∧ st h = 1 ∧ lk h = false ∧ h ≠ xN) → ∃ v', f_victim_4 n s k x v (Int32.ofNat i) = some v' ∧ (v' = -1 ∨ ∃ h, h < 4 ∧ v' = Int32.ofNat h ∧ st h = 1 ∧ lk h = false ∧ h ≠ xN) := by
    intro d
    induction d with
    | zero =>
      intro i k v hi hk hv
      obtain ⟨k, rfl⟩ : ∃ k', k = k' + 1 := ⟨k - 1, by omega⟩
      rw [u_victim_4, H.1.2.1, if_neg (by rw [show i = 4 by omega]; decide)]
      exact ⟨v, rfl, hv⟩
    | succ d ih =>
      intro i k v hi hk hv
      obtain ⟨k, rfl⟩ : ∃ k', k = k' + 1 := ⟨k - 1, by omega⟩
      obtain ⟨b1, b2, b3⟩ := H.2.1 i (by omega)
      have on := ih (i + 1) k v (by omega) (by omega) hv
      rw [u_victim_4, H.1.2.1, if_pos (ltZ (z := 4) 4 rfl (by omega) (by omega)), grd_pos (inbN (by omega) (by omega)), ix_N (by omega), b1, N_succ]
      by_cases q : st i = 1
      · obtain ⟨c1, c2, c3, c4, c5, c6⟩ := b3 q
        rw [if_pos (by rw [q]; rfl)]
        by_cases g : i = xN
        · rw [if_pos ((hx i (by omega)).mpr g)]; exact on
        · rw [if_neg (fun w => g ((hx i (by omega)).mp w))]
          by_cases g2 : s.2 8 i = 0
          · rw [if_pos g2]; exact on
          · rw [if_neg g2, c3]
            by_cases g3 : lk i = false
            · have tk : ∃ v, f_victim_64 n s (f_victim_4 n s k) x (Int32.ofNat i) = some v ∧ (v = -1 ∨ ∃ h, h < 4 ∧ v = Int32.ofNat h ∧ st h = 1 ∧ lk h = false ∧ h ≠ xN) := by
                unfold f_victim_64
                rw [N_succ]
                exact ih (i + 1) k _ (by omega) (by omega) (Or.inr ⟨i, by omega, rfl, q, g3, g⟩)
              rw [if_pos ((own_bz _).mpr g3)]
              rcases hv with rfl | ⟨h, h1, rfl, h2⟩
              · rw [if_pos (by decide)]; exact tk
              · rw [if_neg (N_neg (by omega)), grd_pos (inbN (by omega) (by omega))]
                split
                · exact tk
                · exact on
            · rw [if_neg (fun w => g3 ((own_bz _).mp w))]; exact on
      · rw [if_neg (show ¬ Int32.ofNat (st i) = 1 from fun w => q ((N_inj (by omega) (by omega)).mp w))]
        exact on
  unfold f_victim
  exact lp 4 0 n (-1) (by omega) (by omega) (Or.inl rfl)
/-- a handle gets another state than live -/
theorem own_Hst (H : own_H W st a z lk E s) {h c : Nat} (hc : c = 0 ∨ c = 2) {t : St} (e1 : t.1 = s.1) (e0 : t.2 0 = s.2 0) (e2 : t.2 2 h = Int32.ofNat c) (ek : ∀ j k, k ≠ h → t.2 j k = s.2 j k) : own_H W (own_upd st h c) a z lk E t := by
  refine ⟨by rw [e1]; exact H.1, fun k hk => ?_, fun k l hk hl hne hs1 hs2 => ?_⟩
  · by_cases e : k = h
    · subst e
      rw [own_upd1]; exact ⟨e2, by omega, fun w => by omega⟩
    · rw [own_upd2 _ _ e, ek 2 k e, ek 3 k e, ek 4 k e, ek 7 k e, e0]; exact H.2.1 k hk
  · have n1 : k ≠ h := fun e => by rw [e, own_upd1] at hs1; omega
    have n2 : l ≠ h := fun e => by rw [e, own_upd1] at hs2; omega
    rw [own_upd2 _ _ n1] at hs1
    rw [own_upd2 _ _ n2] at hs2
    exact H.2.2 k l hk hl hne hs1 hs2
theorem own_pur (H : own_H W st a z lk E s) {h : Nat} (hh : h < 4) : ∃ t, f_purge (Int32.ofNat h) s = some t ∧ own_H W (own_upd st h 2) a z lk E t := by
  unfold f_purge
  rw [grd_pos (inbN (by omega) (by omega)), ix_N (by omega), bnd_eq, bnd_eq, bnd_eq, bnd_eq, bnd_eq]
  refine ⟨_, rfl, own_Hst H (Or.inr rfl) rfl ?_ ?_ (fun j k e => ?_)⟩
  · funext i
    rw [setA_2, if_neg (by omega), setA_2, if_neg (by omega), setA_2, if_neg (by omega), setA_2, if_neg (by omega), setA_2, if_neg (by omega)]
  · rw [setA_2, if_neg (by omega), setA_2, if_neg (by omega), setA_2, if_neg (by omega), setA_2, if_neg (by omega), setA_2, if_pos ⟨rfl, rfl⟩]; rfl
  · rw [setA_2, if_neg (by omega), setA_2, if_neg (by omega), setA_2, if_neg (by omega), setA_2, if_neg (by omega), setA_2, if_neg (by omega)]
/-- what an allocation may do to the others -/
def own_Q (xN : Nat) (lk : Nat → Bool) (st a st' a' : Nat → Nat) : Prop := (∀ h, h < 4 → st' h = st h ∨ (st h = 1 ∧ st' h = 2 ∧ lk h = false ∧ h ≠ xN)) ∧ (∀ h, h < 4 → st h = 1 → (lk h = true ∨ h = xN) → a' h = a h)
theorem own_Qr : own_Q xN lk st a st a := ⟨fun _ _ => Or.inl rfl, fun _ _ _ _ => rfl⟩
theorem own_Qt {st' a' st'' a'' : Nat → Nat} (p : own_Q xN lk st a st' a') (q : own_Q xN lk st' a' st'' a'') : own_Q xN lk st a st'' a'' := by
  refine ⟨fun h hh => ?_, fun h hh hs hp => ?_⟩
  · rcases q.1 h hh with e | ⟨e1, e2, e3, e4⟩
    · rw [e]; exact p.1 h hh
    · rcases p.1 h hh with f | f
      · exact Or.inr ⟨by rw [← f]; exact e1, e2, e3, e4⟩
      · omega
  · have h1 : st' h = 1 := by
      rcases p.1 h hh with f | ⟨_, _, f3, f4⟩
      · rw [f]; exact hs
      · rcases hp with w | w
        · rw [f3] at w; exact absurd w (by decide)
        · exact absurd w f4
    rw [q.2 h hh h1 hp, p.2 h hh hs hp]
theorem own_al (hn : 300 ≤ n) (H : own_H W st a z lk E s) (hx : ∀ h, h < 4 → (Int32.ofNat h = x ↔ h = xN)) {m : Nat} (hm : 1 ≤ m) (hm2 : m ≤ 100) :
    ∃ v t st' a', f_alloc n (Int32.ofNat m) x s = some (v, t) ∧ own_H W st' a' z lk E t ∧ own_Fit W m st' a' z v ∧ own_Q xN lk st a st' a' := by
  have lp : ∀ (d c k : Nat) (st' a' : Nat → Nat) (s' : St), c + d = 33 → d < k → own_H W st' a' z lk E s' → own_Q xN lk st a st' a' →
      ∃ v t st' a', f_alloc_32 n k (Int32.ofNat m) x (Int32.ofNat c) s' = some (v, t) ∧ own_H W st' a' z lk E t ∧ own_Fit W m st' a' z v ∧ own_Q xN lk st a st' a' := by
    intro d
    induction d with
    | zero =>
      intro c k st' a' s' hc hk H' Q
      obtain ⟨k, rfl⟩ : ∃ k', k = k' + 1 := ⟨k - 1, by omega⟩
      rw [u_alloc_32, if_pos (by rw [show c = 33 by omega]; decide)]
      exact ⟨-1, s', st', a', rfl, H', Or.inl rfl, Q⟩
    | succ d ih =>
      intro c k st' a' s' hc hk H' Q
      obtain ⟨k, rfl⟩ : ∃ k', k = k' + 1 := ⟨k - 1, by omega⟩
      obtain ⟨v, v1, v2⟩ := own_vic (n := n) hn H' hx
      rw [u_alloc_32, if_neg (by rw [show (32 : Int32) = Int32.ofNat 32 from rfl]; exact own_nlt (by omega) (by omega)), v1, Option.bind_some]
      rcases v2 with rfl | ⟨h, h1, rfl, h2, h3, h4⟩
      · rw [if_pos (by decide)]
        exact ⟨-1, s', st', a', rfl, H', Or.inl rfl, Q⟩
      · obtain ⟨t, t1, t2⟩ := own_pur H' h1
        obtain ⟨u, a'', u1, u2, u3, -, -⟩ := own_cr (n := n) hn t2 hx
        obtain ⟨w, y, y1, y2, y3, -, -⟩ := own_fit (n := n) hn u2 hm hm2
        have Q2 : own_Q xN lk st a (own_upd st' h 2) a'' := own_Qt Q ⟨fun k hk => by
          by_cases e : k = h
          · rw [e, own_upd1]; exact Or.inr ⟨h2, rfl, h3, h4⟩
          · rw [own_upd2 _ _ e]; exact Or.inl rfl, fun k hk hs hp => u3 k hk (by
            by_cases e : k = h
            · rw [e] at hp
              rcases hp with w | w
              · rw [h3] at w; exact absurd w (by decide)
              · exact absurd w h4
            · rw [own_upd2 _ _ e]; exact hs) hp⟩
        rw [if_neg (N_neg (by omega)), t1, Option.bind_some, u1, Option.bind_some, y1, Option.bind_some, N_succ]
        by_cases g : w < 0
        · rw [if_pos g]
          exact ih (c + 1) k _ a'' y (by omega) (by omega) y2 Q2
        · rw [if_neg g]
          exact ⟨w, y, _, a'', rfl, y2, y3, Q2⟩
  obtain ⟨v, t, t1, t2, t3, -, -⟩ := own_fit (n := n) hn H hm hm2
  unfold f_alloc
  rw [t1, Option.bind_some]
  by_cases g : v < 0
  · obtain ⟨u, a'', u1, u2, u3, -, -⟩ := own_cr (n := n) hn t2 hx
    obtain ⟨w, y, y1, y2, y3, -, -⟩ := own_fit (n := n) hn u2 hm hm2
    have Q2 : own_Q xN lk st a st a'' := ⟨fun k hk => Or.inl rfl, u3⟩
    rw [if_pos g, u1, Option.bind_some, y1, Option.bind_some]
    by_cases g2 : w < 0
    · rw [if_pos g2]
      exact lp 33 0 n st a'' y (by omega) (by omega) y2 Q2
    · rw [if_neg g2]
      exact ⟨w, y, st, a'', rfl, y2, y3, Q2⟩
  · rw [if_neg g]
    exact ⟨v, t, st, a, rfl, t2, t3, own_Qr⟩
end

/-! ### the handle heap's calls -/
section
variable {n W : Nat} {st a z : Nat → Nat} {lk : Nat → Bool} {E : Nat → Nat → Int32} {s : St}
theorem own_HX {E' : Nat → Nat → Int32} (e : ∀ h, h < 4 → st h = 1 → ∀ i, i < z h → E h i = E' h i) (H : own_H W st a z lk E s) : own_H W st a z lk E' s := by
  refine ⟨H.1, fun h hh => ?_, H.2.2⟩
  obtain ⟨b1, b2, b3⟩ := H.2.1 h hh
  refine ⟨b1, b2, fun w => ?_⟩
  obtain ⟨c1, c2, c3, c4, c5, c6⟩ := b3 w
  exact ⟨c1, c2, c3, c4, c5, fun i hi => by rw [← e h hh w i hi]; exact c6 i hi⟩
theorem own_va (H : own_H W st a z lk E s) {h : Nat} (hh : h < 4) : f_valid s (Int32.ofNat h) = some 1 := by
  unfold f_valid
  rw [if_neg (N_neg (by omega)), H.1.2.1, if_pos (ltZ (z := 4) 4 rfl hh (by omega))]
theorem own_S1 (H : own_H W st a z lk E s) {h : Nat} (hh : h < 4) (d : Int32) (c : Nat) (e : Int32.ofNat c = d) (hc : c < 100) : s.2 2 h = d ↔ st h = c := by
  obtain ⟨b1, b2, b3⟩ := H.2.1 h hh
  rw [b1, ← e, N_inj (by omega) (by omega)]
theorem own_gS (H : own_H W st a z lk E s) {h : Nat} (hh : h < 4) : f_getState s (Int32.ofNat h) = some (Int32.ofNat (st h)) := by
  unfold f_getState
  rw [own_va H hh, Option.bind_some, if_neg (by decide), grd_pos (inbN (by omega) (by omega)), ix_N (by omega), (H.2.1 h hh).1]
theorem own_gF (H : own_H W st a z lk E s) {h : Nat} (hh : h < 4) (hs : st h = 1) : ∃ r, f_getFlags s (Int32.ofNat h) = some r ∧ r &&& 1 = own_b (lk h) := by
  obtain ⟨c1, c2, c3, c4, c5, c6⟩ := (H.2.1 h hh).2.2 hs
  unfold f_getFlags f_getFlags_35
  rw [own_va H hh, Option.bind_some, if_neg (by decide), grd_pos (inbN (by omega) (by omega)), ix_N (by omega), if_pos ((own_S1 H hh (1 : Int32) 1 rfl (by omega)).mpr hs), c3, grd_pos (inbN (by omega) (by omega)), grd_pos (inbN (by omega) (by omega))]
  cases lk h
  · rw [if_pos (by decide)]
    by_cases q : s.2 8 h = 0
    · rw [if_pos q]; exact ⟨_, rfl, by decide⟩
    · rw [if_neg q]; exact ⟨_, rfl, by decide⟩
  · rw [if_neg (by decide)]
    by_cases q : s.2 8 h = 0
    · rw [if_pos q]; exact ⟨_, rfl, by decide⟩
    · rw [if_neg q]; exact ⟨_, rfl, by decide⟩
theorem own_gA (H : own_H W st a z lk E s) {h : Nat} (hh : h < 4) (hs : st h = 1) : f_getAddress s (Int32.ofNat h) = some (Int32.ofNat (a h)) := by
  obtain ⟨c1, c2, c3, c4, c5, c6⟩ := (H.2.1 h hh).2.2 hs
  unfold f_getAddress
  rw [own_va H hh, Option.bind_some, if_neg (by decide), grd_pos (inbN (by omega) (by omega)), ix_N (by omega), if_pos ((own_S1 H hh (1 : Int32) 1 rfl (by omega)).mpr hs), c1]
theorem own_gZ (H : own_H W st a z lk E s) {h : Nat} (hh : h < 4) (hs : st h = 1) : f_getSize s (Int32.ofNat h) = some (Int32.ofNat (z h)) := by
  obtain ⟨c1, c2, c3, c4, c5, c6⟩ := (H.2.1 h hh).2.2 hs
  unfold f_getSize
  rw [own_va H hh, Option.bind_some, if_neg (by decide), grd_pos (inbN (by omega) (by omega)), ix_N (by omega), if_pos ((own_S1 H hh (1 : Int32) 1 rfl (by omega)).mpr hs), c2]
theorem own_gZ0 (H : own_H W st a z lk E s) {h : Nat} (hh : h < 4) (hs : st h ≠ 1) : f_getSize s (Int32.ofNat h) = some 0 := by
  unfold f_getSize
  rw [own_va H hh, Option.bind_some, if_neg (by decide), grd_pos (inbN (by omega) (by omega)), ix_N (by omega), if_neg (fun w => hs ((own_S1 H hh (1 : Int32) 1 rfl (by omega)).mp w))]
theorem own_ck (H : own_H W st a z lk E s) {h : Nat} (hh : h < 4) : ∃ v, f_check s (Int32.ofNat h) = some v ∧ (v = 0 ↔ st h = 1) := by
  unfold f_check
  rw [own_va H hh, Option.bind_some, if_neg (by decide), grd_pos (inbN (by omega) (by omega)), ix_N (by omega)]
  by_cases q : st h = 0
  · rw [if_pos ((own_S1 H hh (0 : Int32) 0 rfl (by omega)).mpr q)]; exact ⟨_, rfl, fun w => absurd w (by decide), fun w => by omega⟩
  · rw [if_neg (fun w => q ((own_S1 H hh (0 : Int32) 0 rfl (by omega)).mp w))]
    by_cases q2 : st h = 2
    · rw [if_pos ((own_S1 H hh (2 : Int32) 2 rfl (by omega)).mpr q2)]; exact ⟨_, rfl, fun w => absurd w (by decide), fun w => by omega⟩
    · rw [if_neg (fun w => q2 ((own_S1 H hh (2 : Int32) 2 rfl (by omega)).mp w))]
      have := (H.2.1 h hh).2.1
      exact ⟨_, rfl, fun _ => by omega, fun _ => rfl⟩
theorem own_to {h : Nat} (hh : h < 4) (s : St) : ∃ t, f_touch (Int32.ofNat h) s = some t ∧ (t.1 9 = s.1 9 ∧ t.1 10 = s.1 10) ∧ (∀ j, j ≠ 5 → t.2 j = s.2 j) := by
  unfold f_touch
  rw [bnd_eq, grd_pos (inbN (by omega) (by omega)), bnd_eq]
  exact ⟨_, rfl, ⟨rfl, rfl⟩, fun j hj => by funext x; rw [setA_2, if_neg (fun w => hj w.1)]; rfl⟩
theorem own_toH (H : own_H W st a z lk E s) {h : Nat} (hh : h < 4) : ∃ t, f_touch (Int32.ofNat h) s = some t ∧ own_H W st a z lk E t := by
  obtain ⟨t, t1, t2, t3⟩ := own_to hh s
  exact ⟨t, t1, own_HE t2 (fun j hj => t3 j (by omega)) H⟩
theorem own_wr (H : own_H W st a z lk E s) {h : Nat} (hh : h < 4) (hs : st h = 1) {i : Nat} (hi : i < z h) (v : Int32) : ∃ t, f_write (Int32.ofNat h) (Int32.ofNat i) v s = some (0, t) ∧ own_H W st a z lk (fun k j => if k = h ∧ j = i then v else E k j) t := by
  obtain ⟨c, k1, k2⟩ := own_ck H hh
  have W39 := H.1.2.2.2
  obtain ⟨c1, c2, c3, c4, c5, c6⟩ := (H.2.1 h hh).2.2 hs
  unfold f_write f_write_63
  rw [k1, Option.bind_some, if_pos (k2.mpr hs), if_neg (N_neg (by omega)), grd_pos (inbN (by omega) (by omega)), ix_N (by omega), c2, if_pos (ltN hi (by omega)), c1, N_add, if_neg (N_neg (by omega)), if_pos (ltZ (z := 256) 256 rfl (by omega) (by omega)), grd_pos (inbN (by omega) (by omega)), ix_N (by omega), bnd_eq]
  have H' : own_H W st a z lk (fun k j => if k = h ∧ j = i then v else E k j) (setA s 0 (a h + i) v) := by
    refine ⟨H.1, fun k hk => ?_, H.2.2⟩
    obtain ⟨b1, b2, b3⟩ := H.2.1 k hk
    refine ⟨by rw [setA_2, if_neg (by omega)]; exact b1, b2, fun w => ?_⟩
    obtain ⟨d1, d2, d3, d4, d5, d6⟩ := b3 w
    refine ⟨by rw [setA_2, if_neg (by omega)]; exact d1, by rw [setA_2, if_neg (by omega)]; exact d2, by rw [setA_2, if_neg (by omega)]; exact d3, d4, d5, fun j hj => ?_⟩
    show _ = if k = h ∧ j = i then v else E k j
    rw [setA_2]
    by_cases e : k = h
    · subst e
      by_cases e2 : j = i
      · rw [if_pos ⟨rfl, by omega⟩, if_pos ⟨rfl, e2⟩]
      · rw [if_neg (fun q => e2 (by omega)), if_neg (fun q => e2 q.2)]; exact d6 j hj
    · have := H.2.2 k h hk hh e w hs
      rw [if_neg (fun q => by omega), if_neg (fun q => e q.1)]; exact d6 j hj
  obtain ⟨t, t1, t2⟩ := own_toH H' hh
  rw [t1, Option.bind_some]
  exact ⟨t, rfl, t2⟩
theorem own_rd (H : own_H W st a z lk E s) {h : Nat} (hh : h < 4) (hs : st h = 1) {i : Nat} (hi : i < z h) : ∃ t, f_read (Int32.ofNat h) (Int32.ofNat i) s = some (E h i, t) ∧ own_H W st a z lk E t := by
  have W39 := H.1.2.2.2
  obtain ⟨c1, c2, c3, c4, c5, c6⟩ := (H.2.1 h hh).2.2 hs
  obtain ⟨t, t1, t2⟩ := own_toH H hh
  obtain ⟨d1, d2, d3, d4, d5, d6⟩ := (t2.2.1 h hh).2.2 hs
  unfold f_read
  rw [own_va H hh, Option.bind_some, if_neg (by decide), grd_pos (inbN (by omega) (by omega)), ix_N (by omega), if_pos ((own_S1 H hh (1 : Int32) 1 rfl (by omega)).mpr hs), if_neg (N_neg (by omega)), c2, if_pos (ltN hi (by omega)), c1, N_add, if_neg (N_neg (by omega)), if_pos (ltZ (z := 256) 256 rfl (by omega) (by omega)), t1, Option.bind_some, grd_pos (inbN (by omega) (by omega)), ix_N (by omega), d6 i hi]
  exact ⟨t, rfl, t2⟩
theorem own_zw {A Z : Nat} (hn : 300 ≤ n) (hA : A + Z ≤ 256) (s : St) : ∃ t, f_zeroWords n (Int32.ofNat A) (Int32.ofNat Z) s = some t ∧ t.1 = s.1 ∧ (∀ j, j ≠ 0 → t.2 j = s.2 j) ∧ (∀ x, t.2 0 x = if A ≤ x ∧ x < A + Z then 0 else s.2 0 x) := by
  have lp : ∀ (m i k : Nat) (s : St), i + m = Z → m < k → ∃ t, f_zeroWords_2 n k (Int32.ofNat A) (Int32.ofNat Z) (Int32.ofNat i) s = some t ∧ t.1 = s.1 ∧ (∀ j, j ≠ 0 → t.2 j = s.2 j) ∧ (∀ x, t.2 0 x = if A + i ≤ x ∧ x < A + Z then 0 else s.2 0 x) := by
    intro m
    induction m with
    | zero =>
      intro i k s hi hk
      obtain ⟨k, rfl⟩ : ∃ k', k = k' + 1 := ⟨k - 1, by omega⟩
      rw [u_zeroWords_2, if_neg (by rw [show i = Z by omega]; exact nltN (by omega))]
      exact ⟨s, rfl, rfl, fun _ _ => rfl, fun x => by rw [if_neg (by omega)]⟩
    | succ m ih =>
      intro i k s hi hk
      obtain ⟨k, rfl⟩ : ∃ k', k = k' + 1 := ⟨k - 1, by omega⟩
      rw [u_zeroWords_2, if_pos (ltN (by omega) (by omega)), N_add, if_neg (N_neg (by omega)), if_pos (ltZ (z := 256) 256 rfl (by omega) (by omega)), grd_pos (inbN (by omega) (by omega)), bnd_eq, ix_N (by omega), N_succ]
      obtain ⟨t, t1, t2, t3, t4⟩ := ih (i + 1) k (setA s 0 (A + i) 0) (by omega) (by omega)
      refine ⟨t, t1, t2, fun j hj => ?_, fun x => ?_⟩
      · rw [t3 j hj]; funext x; rw [setA_2, if_neg (fun w => hj w.1)]
      · rw [t4, setA_2]
        by_cases r : A + (i + 1) ≤ x ∧ x < A + Z
        · rw [if_pos r, if_pos (by omega)]
        · rw [if_neg r]
          by_cases e : x = A + i
          · rw [if_pos ⟨by trivial, e⟩, if_pos (by omega)]
          · rw [if_neg (fun w => e w.2), if_neg (by omega)]
  unfold f_zeroWords
  obtain ⟨t, t1, t2, t3, t4⟩ := lp Z 0 n s (by omega) (by omega)
  exact ⟨t, t1, t2, t3, fun x => by rw [t4, Nat.add_zero]⟩
/-- a handle's block is set anew: at b, y words, holding F -/
theorem own_Hnew (H : own_H W st a z lk E s) {h b y : Nat} {l : Bool} {F : Nat → Int32} (hy : 1 ≤ y) (hb : b + y ≤ W) (dj : ∀ k, k < 4 → k ≠ h → st k = 1 → b + y ≤ a k ∨ a k + z k ≤ b) {t : St} (e9 : t.1 9 = s.1 9 ∧ t.1 10 = s.1 10) (e2 : t.2 2 h = 1) (e3 : t.2 3 h = Int32.ofNat b) (e4 : t.2 4 h = Int32.ofNat y) (e7 : t.2 7 h = own_b l)
    (ek : ∀ j k, j = 2 ∨ j = 3 ∨ j = 4 ∨ j = 7 → k ≠ h → t.2 j k = s.2 j k) (e0 : ∀ i, i < y → t.2 0 (b + i) = F i) (eo : ∀ k, k < 4 → k ≠ h → st k = 1 → ∀ i, i < z k → t.2 0 (a k + i) = s.2 0 (a k + i)) :
    own_H W (own_upd st h 1) (own_upd a h b) (own_upd z h y) (own_upd lk h l) (own_upd E h F) t := by
  refine ⟨by rw [e9.1, e9.2]; exact H.1, fun k hk => ?_, fun k m hk hm hne hs1 hs2 => ?_⟩
  · by_cases e : k = h
    · subst e
      rw [own_upd1, own_upd1, own_upd1, own_upd1, own_upd1]
      exact ⟨e2, by omega, fun _ => ⟨e3, e4, e7, hy, hb, e0⟩⟩
    · rw [own_upd2 _ _ e, own_upd2 _ _ e, own_upd2 _ _ e, own_upd2 _ _ e, own_upd2 _ _ e, ek 2 k (by omega) e, ek 3 k (by omega) e, ek 4 k (by omega) e, ek 7 k (by omega) e]
      obtain ⟨b1, b2, b3⟩ := H.2.1 k hk
      refine ⟨b1, b2, fun w => ?_⟩
      obtain ⟨d1, d2, d3, d4, d5, d6⟩ := b3 w
      exact ⟨d1, d2, d3, d4, d5, fun i hi => by rw [eo k hk e w i hi]; exact d6 i hi⟩
  · by_cases f1 : k = h
    · have f2 : m ≠ h := fun e => hne (by rw [f1, e])
      rw [own_upd2 _ _ f2] at hs2
      rw [f1, own_upd1, own_upd1, own_upd2 _ _ f2, own_upd2 _ _ f2]
      exact dj m hm f2 hs2
    · rw [own_upd2 _ _ f1] at hs1
      by_cases f2 : m = h
      · rw [f2, own_upd1, own_upd1, own_upd2 _ _ f1, own_upd2 _ _ f1]
        have := dj k hk f1 hs1
        omega
      · rw [own_upd2 _ _ f2] at hs2
        rw [own_upd2 _ _ f1, own_upd2 _ _ f1, own_upd2 _ _ f2, own_upd2 _ _ f2]
        exact H.2.2 k m hk hm hne hs1 hs2
theorem own_es (hn : 300 ≤ n) (H : own_H W st a z lk E s) {h A m : Nat} (hh : h < 4) (hs : st h ≠ 1) (hm : 1 ≤ m) (hA : A + m ≤ W) (dj : ∀ k, k < 4 → st k = 1 → A + m ≤ a k ∨ a k + z k ≤ A) :
    ∃ t, f_establish n (Int32.ofNat h) (Int32.ofNat A) (Int32.ofNat m) s = some t ∧ own_H W (own_upd st h 1) (own_upd a h A) (own_upd z h m) (own_upd lk h false) (own_upd E h (fun _ => 0)) t := by
  have W39 := H.1.2.2.2
  unfold f_establish
  rw [grd_pos (inbN (by omega) (by omega)), ix_N (by omega), bnd_eq, bnd_eq, bnd_eq, bnd_eq, bnd_eq]
  obtain ⟨u, hu⟩ : ∃ u, u = setA (setA (setA (setA (setA s 2 h 1) 3 h (Int32.ofNat A)) 4 h (Int32.ofNat m)) 7 h (0 &&& 1)) 8 h (0 &&& 1) := ⟨_, rfl⟩
  rw [← hu]
  obtain ⟨v, v1, v2, v3, v4⟩ := own_zw (n := n) (A := A) (Z := m) hn (by omega) u
  obtain ⟨t, t1, t2, t3⟩ := own_to hh v
  rw [v1, Option.bind_some, t1, Option.bind_some]
  have q : ∀ j k, j ≠ 0 → j ≠ 5 → t.2 j k = u.2 j k := fun j k h0 h5 => by rw [t3 j h5, v3 j h0]
  have uk : ∀ j k, k ≠ h ∨ j = 0 → u.2 j k = s.2 j k := fun j k e => by
    rw [hu, setA_2, if_neg (by omega), setA_2, if_neg (by omega), setA_2, if_neg (by omega), setA_2, if_neg (by omega), setA_2, if_neg (by omega)]
  refine ⟨t, rfl, own_Hnew H hm hA (fun k hk _ => dj k hk) ⟨by rw [t2.1, v2, hu]; rfl, by rw [t2.2, v2, hu]; rfl⟩ ?_ ?_ ?_ ?_ (fun j k hj e => ?_) (fun i hi => ?_) (fun k hk e w i hi => ?_)⟩
  · rw [q 2 h (by decide) (by decide), hu, setA_2, if_neg (by omega), setA_2, if_neg (by omega), setA_2, if_neg (by omega), setA_2, if_neg (by omega), setA_2, if_pos ⟨rfl, rfl⟩]
  · rw [q 3 h (by decide) (by decide), hu, setA_2, if_neg (by omega), setA_2, if_neg (by omega), setA_2, if_neg (by omega), setA_2, if_pos ⟨rfl, rfl⟩]
  · rw [q 4 h (by decide) (by decide), hu, setA_2, if_neg (by omega), setA_2, if_neg (by omega), setA_2, if_pos ⟨rfl, rfl⟩]
  · rw [q 7 h (by decide) (by decide), hu, setA_2, if_neg (by omega), setA_2, if_pos ⟨rfl, rfl⟩]; rfl
  · rw [q j k (by omega) (by omega), uk j k (Or.inl e)]
  · rw [t3 0 (by decide), v4, if_pos (by omega)]
  · have := dj k hk w
    rw [t3 0 (by decide), v4, if_neg (by omega), uk 0 _ (Or.inr rfl)]
end

/-! ### the calls that allocate -/
theorem own_updid {α : Type} {g : Nat → α} {p : Nat} {v : α} (h : g p = v) : own_upd g p v = g := by
  funext q
  by_cases e : q = p
  · rw [e, own_upd1, h]
  · rw [own_upd2 _ _ e]
theorem own_xm (h : Nat) (hh : h < 4) : Int32.ofNat h = -1 ↔ h = 4 := ⟨fun w => absurd (show Int32.ofNat h < 0 by rw [w]; decide) (N_neg (by omega)), fun w => by omega⟩
theorem own_xh {k : Nat} (hk : k < 4) (h : Nat) (hh : h < 4) : Int32.ofNat h = Int32.ofNat k ↔ h = k := N_inj (by omega) (by omega)
theorem own_Nsub {i j : Nat} (h : j ≤ i) : Int32.ofNat i - Int32.ofNat j = Int32.ofNat (i - j) := by
  have : Int32.ofNat i = Int32.ofNat (i - j) + Int32.ofNat j := by rw [N_add]; congr 1; omega
  rw [this, Int32.add_sub_cancel]
section
variable {n W : Nat} {st a z : Nat → Nat} {lk : Nat → Bool} {E : Nat → Nat → Int32} {s : St}
theorem own_nh (hn : 300 ≤ n) (H : own_H W st a z lk E s) {m : Nat} (hm : 1 ≤ m) (hm2 : m ≤ 24) :
    ∃ v t st' a', f_newHandle n (Int32.ofNat m) s = some (v, t) ∧ own_Q 4 lk st a st' a' ∧ ((v < 0 ∧ own_H W st' a' z lk E t) ∨ ∃ h A, h < 4 ∧ v = Int32.ofNat h ∧ st h = 0 ∧ own_H W (own_upd st' h 1) (own_upd a' h A) (own_upd z h m) (own_upd lk h false) (own_upd E h (fun _ => 0)) t) := by
  have W24 := H.1.2.2
  unfold f_newHandle
  rw [if_neg (by rw [show (1 : Int32) = Int32.ofNat 1 from rfl]; exact own_nlt hm (by omega)), H.1.1, if_neg (own_nlt (by omega) (by omega))]
  have lp : ∀ (d i k : Nat), i + d = 4 → d < k → ∃ v t st' a', f_newHandle_20 n k (Int32.ofNat m) (-1) (Int32.ofNat i) s = some (v, t) ∧ own_Q 4 lk st a st' a' ∧ ((v < 0 ∧ own_H W st' a' z lk E t) ∨ ∃ h A, h < 4 ∧ v = Int32.ofNat h ∧ st h = 0 ∧ own_H W (own_upd st' h 1) (own_upd a' h A) (own_upd z h m) (own_upd lk h false) (own_upd E h (fun _ => 0)) t) := by
    intro d
    induction d with
    | zero =>
      intro i k hi hk
      obtain ⟨k, rfl⟩ : ∃ k', k = k' + 1 := ⟨k - 1, by omega⟩
      rw [u_newHandle_20, H.1.2.1, if_neg (by rw [show i = 4 by omega]; decide)]
      unfold f_newHandle_48
      rw [if_pos (by decide)]
      exact ⟨_, s, st, a, rfl, own_Qr, Or.inl ⟨by decide, H⟩⟩
    | succ d ih =>
      intro i k hi hk
      obtain ⟨k, rfl⟩ : ∃ k', k = k' + 1 := ⟨k - 1, by omega⟩
      rw [u_newHandle_20, H.1.2.1, if_pos (ltZ (z := 4) 4 rfl (by omega) (by omega)), grd_pos (inbN (by omega) (by omega)), ix_N (by omega), N_succ]
      by_cases q : st i = 0
      · rw [if_pos ((own_S1 H (by omega) (0 : Int32) 0 rfl (by omega)).mpr q)]
        unfold f_newHandle_48
        obtain ⟨v, t, st', a', t1, t2, t3, t4⟩ := own_al (n := n) hn H own_xm hm (by omega)
        rw [if_neg (N_neg (by omega)), t1, Option.bind_some]
        rcases t3 with rfl | ⟨A, rfl, A1, A2⟩
        · rw [if_pos (show (-1 : Int32) < 0 by decide)]
          exact ⟨_, t, st', a', rfl, t4, Or.inl ⟨by decide, t2⟩⟩
        · obtain ⟨u, u1, u2⟩ := own_es (n := n) hn t2 (h := i) (A := A) (m := m) (by omega) (by have := t4.1 i (by omega); omega) hm A1 A2
          rw [if_neg (N_neg (by omega)), u1, Option.bind_some]
          exact ⟨_, u, st', a', rfl, t4, Or.inr ⟨i, A, by omega, rfl, q, u2⟩⟩
      · rw [if_neg (fun w => q ((own_S1 H (by omega) (0 : Int32) 0 rfl (by omega)).mp w))]
        exact ih (i + 1) k (by omega) (by omega)
  exact lp 4 0 n (by omega) (by omega)
theorem own_ra (hn : 300 ≤ n) (H : own_H W st a z lk E s) {h m : Nat} (hh : h < 4) (hm : 1 ≤ m) (hm2 : m ≤ 24) :
    ∃ v t st' a', f_reallocHandle n (Int32.ofNat h) (Int32.ofNat m) s = some (v, t) ∧ own_Q 4 lk st a st' a' ∧ ((v ≠ 0 ∧ own_H W st' a' z lk E t) ∨ (v = 0 ∧ st h = 2 ∧ ∃ A, own_H W (own_upd st' h 1) (own_upd a' h A) (own_upd z h m) (own_upd lk h false) (own_upd E h (fun _ => 0)) t)) := by
  have W24 := H.1.2.2
  unfold f_reallocHandle
  rw [own_va H hh, Option.bind_some, if_neg (by decide), grd_pos (inbN (by omega) (by omega)), ix_N (by omega)]
  by_cases q : st h = 0
  · rw [if_pos ((own_S1 H hh (0 : Int32) 0 rfl (by omega)).mpr q)]
    exact ⟨_, s, st, a, rfl, own_Qr, Or.inl ⟨by decide, H⟩⟩
  · rw [if_neg (fun w => q ((own_S1 H hh (0 : Int32) 0 rfl (by omega)).mp w))]
    by_cases q1 : st h = 1
    · rw [if_pos ((own_S1 H hh (1 : Int32) 1 rfl (by omega)).mpr q1)]
      exact ⟨_, s, st, a, rfl, own_Qr, Or.inl ⟨by decide, H⟩⟩
    · have q2 : st h = 2 := by have := (H.2.1 h hh).2.1; omega
      rw [if_neg (fun w => q1 ((own_S1 H hh (1 : Int32) 1 rfl (by omega)).mp w)), if_neg (by rw [show (1 : Int32) = Int32.ofNat 1 from rfl]; exact own_nlt hm (by omega)), H.1.1, if_neg (own_nlt (by omega) (by omega))]
      obtain ⟨v, t, st', a', t1, t2, t3, t4⟩ := own_al (n := n) hn H own_xm hm (by omega)
      rw [t1, Option.bind_some]
      rcases t3 with rfl | ⟨A, rfl, A1, A2⟩
      · rw [if_pos (show (-1 : Int32) < 0 by decide)]
        exact ⟨_, t, st', a', rfl, t4, Or.inl ⟨by decide, t2⟩⟩
      · obtain ⟨u, u1, u2⟩ := own_es (n := n) hn t2 (h := h) (A := A) (m := m) hh (by have := t4.1 h hh; omega) hm A1 A2
        rw [if_neg (N_neg (by omega)), u1, Option.bind_some]
        exact ⟨_, u, st', a', rfl, t4, Or.inr ⟨rfl, q2, A, u2⟩⟩
theorem own_rf (hn : 300 ≤ n) (H : own_H W st a z lk E s) {A B : Nat} (hA : A ≤ B) (hB : B ≤ 256) :
    ∃ v t, f_rangeFree n (Int32.ofNat A) (Int32.ofNat B) s = some (v, t) ∧ own_H W st a z lk E t ∧ (∀ j, j ≠ 1 → t.2 j = s.2 j) ∧ (v = 0 ∨ (v ≠ 0 ∧ ∀ h, h < 4 → st h = 1 → ∀ i, A ≤ i → i < B → ¬ (a h ≤ i ∧ i < a h + z h))) := by
  obtain ⟨t, t1, t2, t3, t4, t5⟩ := own_ml (n := n) hn H
  unfold f_rangeFree
  rw [t1, Option.bind_some]
  have lp : ∀ (d i k : Nat), i + d = B → d < k → A ≤ i → (∀ h, h < 4 → st h = 1 → ∀ j, A ≤ j → j < i → ¬ (a h ≤ j ∧ j < a h + z h)) → ∃ v, f_rangeFree_6 n k (Int32.ofNat B) (Int32.ofNat i) t = some (v, t) ∧ (v = 0 ∨ (v ≠ 0 ∧ ∀ h, h < 4 → st h = 1 → ∀ i, A ≤ i → i < B → ¬ (a h ≤ i ∧ i < a h + z h))) := by
    intro d
    induction d with
    | zero =>
      intro i k hi hk h1 F
      obtain ⟨k, rfl⟩ : ∃ k', k = k' + 1 := ⟨k - 1, by omega⟩
      rw [u_rangeFree_6, if_neg (own_nlt (by omega) (by omega))]
      exact ⟨1, rfl, Or.inr ⟨by decide, fun h hh hs j j1 j2 => F h hh hs j j1 (by omega)⟩⟩
    | succ d ih =>
      intro i k hi hk h1 F
      obtain ⟨k, rfl⟩ : ∃ k', k = k' + 1 := ⟨k - 1, by omega⟩
      rw [u_rangeFree_6, if_pos (ltN (by omega) (by omega)), if_neg (N_neg (by omega)), if_pos (ltZ (z := 256) 256 rfl (by omega) (by omega)), grd_pos (inbN (by omega) (by omega)), ix_N (by omega), N_succ]
      by_cases q : t.2 1 i = 0
      · rw [if_pos q]
        refine ih (i + 1) k (by omega) (by omega) (by omega) (fun h hh hs j j1 j2 => ?_)
        by_cases e : j = i
        · rw [e]; exact (t3 i (by omega)).mp q h hh hs
        · exact F h hh hs j j1 (by omega)
      · rw [if_neg q]; exact ⟨0, rfl, Or.inl rfl⟩
  obtain ⟨v, v1, v2⟩ := lp (B - A) A n (by omega) (by omega) (Nat.le_refl _) (fun h _ _ j j1 j2 => by omega)
  exact ⟨v, t, v1, t2, t5, v2⟩
/-- what setSize leaves -/
def own_SZ (W h m : Nat) (st a z : Nat → Nat) (lk : Nat → Bool) (E : Nat → Nat → Int32) (r : Option (Int32 × St)) : Prop :=
  ∃ v t st' a', r = some (v, t) ∧ own_Q h lk st a st' a' ∧ ((v ≠ 0 ∧ own_H W st' a' z lk E t) ∨ (v = 0 ∧ st h = 1 ∧ ∃ b, (lk h = true → b = a h) ∧ own_H W st' (own_upd a' h b) (own_upd z h m) lk (own_upd E h (fun i => if i < z h then E h i else 0)) t))
theorem own_ss118 (hn : 300 ≤ n) (H : own_H W st a z lk E s) {h m : Nat} (hh : h < 4) (hs : st h = 1) (hm : z h < m) (hm2 : m ≤ 24) :
    own_SZ W h m st a z lk E (f_setSize_118 n (Int32.ofNat h) (Int32.ofNat m) (Int32.ofNat (z h)) s) := by
  have W24 := H.1.2.2
  obtain ⟨c1, c2, c3, c4, c5, c6⟩ := (H.2.1 h hh).2.2 hs
  unfold f_setSize_118
  rw [grd_pos (inbN (by omega) (by omega)), ix_N (by omega), c3]
  by_cases q : lk h = false
  · rw [if_pos ((own_bz _).mpr q)]
    obtain ⟨v, t, st', a', t1, t2, t3, t4⟩ := own_al (n := n) (xN := h) hn H (own_xh hh) (m := m) (by omega) (by omega)
    rw [t1, Option.bind_some]
    rcases t3 with rfl | ⟨A, rfl, A1, A2⟩
    · rw [if_pos (show (-1 : Int32) < 0 by decide)]
      exact ⟨_, t, st', a', rfl, t4, Or.inl ⟨by decide, t2⟩⟩
    · have s1 : st' h = 1 := by
        rcases t4.1 h hh with w | w
        · rw [w]; exact hs
        · exact absurd rfl w.2.2.2
      obtain ⟨d1, d2, d3, d4, d5, d6⟩ := (t2.2.1 h hh).2.2 s1
      have dh := A2 h hh s1
      obtain ⟨u, u1, u2, u3, u4⟩ := own_cp (n := n) hn (x := a' h) (y := A) (c := z h) (by omega) (by omega) c4 t
      obtain ⟨w, w1, w2, w3, w4⟩ := own_zw (n := n) hn (A := A + z h) (Z := m - z h) (by omega) u
      rw [if_neg (N_neg (by omega)), d1, u1, Option.bind_some, N_add, own_Nsub (by omega), w1, Option.bind_some, bnd_eq, bnd_eq]
      obtain ⟨y, y1, y2, y3⟩ := own_to hh (setA (setA w 3 h (Int32.ofNat A)) 4 h (Int32.ofNat m))
      rw [y1, Option.bind_some]
      have g0 : ∀ i, y.2 0 i = w.2 0 i := fun i => by rw [y3 0 (by decide), setA_2, if_neg (by omega), setA_2, if_neg (by omega)]
      have gj : ∀ j k, j ≠ 0 → j ≠ 5 → ¬ (j = 3 ∧ k = h) → ¬ (j = 4 ∧ k = h) → y.2 j k = t.2 j k := fun j k h0 h5 h3 h4 => by
        rw [y3 j h5, setA_2, if_neg h4, setA_2, if_neg h3, w3 j h0, u3 j h0]
      have R := own_Hnew t2 (h := h) (b := A) (y := m) (l := lk h) (F := fun i => if i < z h then E h i else 0) (by omega) A1 (fun k hk _ => A2 k hk) (t := y) ⟨by rw [y2.1]; show w.1 9 = _; rw [w2, u2], by rw [y2.2]; show w.1 10 = _; rw [w2, u2]⟩
        (by rw [gj 2 h (by decide) (by decide) (by omega) (by omega), (t2.2.1 h hh).1, s1]; rfl)
        (by rw [y3 3 (by decide), setA_2, if_neg (by omega), setA_2, if_pos ⟨rfl, rfl⟩])
        (by rw [y3 4 (by decide), setA_2, if_pos ⟨rfl, rfl⟩])
        (by rw [gj 7 h (by decide) (by decide) (by omega) (by omega), d3])
        (fun j k hj e => gj j k (by omega) (by omega) (by omega) (by omega))
        (fun i hi => by
          show _ = if i < z h then E h i else 0
          rw [g0, w4]
          by_cases r : i < z h
          · rw [if_neg (by omega), u4, if_pos (by omega), if_pos r, show A + i - A + a' h = a' h + i by omega]; exact d6 i r
          · rw [if_pos (by omega), if_neg r])
        (fun k hk e hsk i hi => by
          have := A2 k hk hsk
          rw [g0, w4, if_neg (by omega), u4, if_neg (by omega)])
      rw [own_updid s1, own_updid rfl] at R
      exact ⟨_, y, st', a', rfl, t4, Or.inr ⟨rfl, hs, A, fun w => by rw [q] at w; exact absurd w (by decide), R⟩⟩
  · rw [if_neg (fun w => q ((own_bz _).mp w))]
    exact ⟨_, s, st, a, rfl, own_Qr, Or.inl ⟨by decide, H⟩⟩
/-- the block stays where it is and gets m words -/
theorem own_ssin (H : own_H W st a z lk E s) {h m : Nat} (hh : h < 4) (hs : st h = 1) (hm : 1 ≤ m) (hW : a h + m ≤ W) (dj : ∀ k, k < 4 → k ≠ h → st k = 1 → a h + m ≤ a k ∨ a k + z k ≤ a h)
    {t : St} (e1 : t.1 = s.1) (ej : ∀ j, j ≠ 0 → t.2 j = s.2 j) (e0 : ∀ i, i < m → t.2 0 (a h + i) = if i < z h then E h i else 0) (eo : ∀ k, k < 4 → k ≠ h → st k = 1 → ∀ i, i < z k → t.2 0 (a k + i) = s.2 0 (a k + i)) :
    own_SZ W h m st a z lk E ((f_touch (Int32.ofNat h) (setA t 4 h (Int32.ofNat m))).bind fun q => some (0, q)) := by
  obtain ⟨c1, c2, c3, c4, c5, c6⟩ := (H.2.1 h hh).2.2 hs
  obtain ⟨y, y1, y2, y3⟩ := own_to hh (setA t 4 h (Int32.ofNat m))
  rw [y1, Option.bind_some]
  have g0 : ∀ i, y.2 0 i = t.2 0 i := fun i => by rw [y3 0 (by decide), setA_2, if_neg (by omega)]
  have gj : ∀ j k, j ≠ 0 → j ≠ 5 → ¬ (j = 4 ∧ k = h) → y.2 j k = s.2 j k := fun j k h0 h5 h4 => by
    rw [y3 j h5, setA_2, if_neg h4, ej j h0]
  have R := own_Hnew H (h := h) (b := a h) (y := m) (l := lk h) (F := fun i => if i < z h then E h i else 0) hm hW dj (t := y) ⟨by rw [y2.1]; show t.1 9 = _; rw [e1], by rw [y2.2]; show t.1 10 = _; rw [e1]⟩
    (by rw [gj 2 h (by decide) (by decide) (by omega), (H.2.1 h hh).1, hs]; rfl)
    (by rw [gj 3 h (by decide) (by decide) (by omega), c1])
    (by rw [y3 4 (by decide), setA_2, if_pos ⟨rfl, rfl⟩])
    (by rw [gj 7 h (by decide) (by decide) (by omega), c3])
    (fun j k hj e => gj j k (by omega) (by omega) (by omega))
    (fun i hi => by rw [g0]; exact e0 i hi)
    (fun k hk e hsk i hi => by rw [g0]; exact eo k hk e hsk i hi)
  rw [own_updid hs, own_updid (g := lk) rfl] at R
  exact ⟨_, y, st, a, rfl, own_Qr, Or.inr ⟨rfl, hs, a h, fun _ => rfl, R⟩⟩
theorem own_ss (hn : 300 ≤ n) (H : own_H W st a z lk E s) {h m : Nat} (hh : h < 4) (hm : 1 ≤ m) (hm2 : m ≤ 24) :
    own_SZ W h m st a z lk E (f_setSize n (Int32.ofNat h) (Int32.ofNat m) s) := by
  have W24 := H.1.2.2
  obtain ⟨c, k1, k2⟩ := own_ck H hh
  unfold f_setSize
  rw [k1, Option.bind_some]
  by_cases hs : st h = 1
  · obtain ⟨c1, c2, c3, c4, c5, c6⟩ := (H.2.1 h hh).2.2 hs
    rw [if_pos (k2.mpr hs), if_neg (by rw [show (1 : Int32) = Int32.ofNat 1 from rfl]; exact own_nlt hm (by omega)), H.1.1, if_neg (own_nlt (by omega) (by omega)), grd_pos (inbN (by omega) (by omega)), ix_N (by omega), c2, c1]
    by_cases q : z h < m
    · rw [if_pos (ltN q (by omega)), N_add, N_add]
      by_cases q2 : W < a h + m
      · rw [if_pos (ltN q2 (by omega))]
        exact own_ss118 hn H hh hs q hm2
      · rw [if_neg (own_nlt (by omega) (by omega))]
        obtain ⟨v, t, t1, t2, t3, t4⟩ := own_rf (n := n) hn H (A := a h + z h) (B := a h + m) (by omega) (by omega)
        rw [t1, Option.bind_some]
        rcases t4 with rfl | ⟨t4, t5⟩
        · rw [if_pos rfl]
          exact own_ss118 hn t2 hh hs q hm2
        · rw [if_neg t4]
          obtain ⟨w, w1, w2, w3, w4⟩ := own_zw (n := n) hn (A := a h + z h) (Z := m - z h) (by omega) t
          rw [own_Nsub (by omega), w1, Option.bind_some, bnd_eq]
          have dj : ∀ k, k < 4 → k ≠ h → st k = 1 → a h + m ≤ a k ∨ a k + z k ≤ a h := fun k hk e w => by
            have h1 := H.2.2 k h hk hh e w hs
            obtain ⟨_, _, _, d4, _, _⟩ := (H.2.1 k hk).2.2 w
            have h2 := own_iv (a := a k) (z := z k) (b := a h + z h) (y := m - z h) d4 (by omega) (fun i i1 i2 => t5 k hk w i i1 (by omega))
            omega
          obtain ⟨d1, d2, d3, d4, d5, d6⟩ := (t2.2.1 h hh).2.2 hs
          exact own_ssin t2 hh hs hm (by omega) dj w2 w3 (fun i hi => by
            rw [w4]
            by_cases r : i < z h
            · rw [if_neg (by omega), if_pos r]; exact d6 i r
            · rw [if_pos (by omega), if_neg r]) (fun k hk e hsk i hi => by
            have := dj k hk e hsk
            rw [w4, if_neg (by omega)])
    · rw [if_neg (own_nlt (by omega) (by omega)), bnd_eq]
      exact own_ssin H hh hs hm (by omega) (fun k hk e w => by have := H.2.2 k h hk hh e w hs; omega) rfl (fun _ _ => rfl) (fun i hi => by rw [if_pos (by omega)]; exact c6 i (by omega)) (fun _ _ _ _ _ _ => rfl)
  · rw [if_neg (fun w => hs (k2.mp w))]
    exact ⟨c, s, st, a, rfl, own_Qr, Or.inl ⟨fun w => hs (k2.mp w), H⟩⟩
/-- locking -/
theorem own_Hlk (H : own_H W st a z lk E s) {h : Nat} (l : Bool) : own_H W st a z (own_upd lk h l) E (setA s 7 h (own_b l)) := by
  refine ⟨H.1, fun k hk => ?_, H.2.2⟩
  rw [setA_2, if_neg (by omega), setA_2, if_neg (by omega), setA_2, if_neg (by omega), setA_2]
  obtain ⟨b1, b2, b3⟩ := H.2.1 k hk
  refine ⟨b1, b2, fun w => ?_⟩
  obtain ⟨d1, d2, d3, d4, d5, d6⟩ := b3 w
  refine ⟨d1, d2, ?_, d4, d5, fun i hi => by rw [setA_2, if_neg (by omega)]; exact d6 i hi⟩
  by_cases e : k = h
  · rw [if_pos ⟨rfl, e⟩, e, own_upd1]
  · rw [if_neg (fun w => e w.2), own_upd2 _ _ e]; exact d3
theorem own_lo (H : own_H W st a z lk E s) {h : Nat} (hh : h < 4) : ∃ v t, f_lock (Int32.ofNat h) s = some (v, t) ∧ ((v ≠ 0 ∧ own_H W st a z lk E t) ∨ (v = 0 ∧ own_H W st a z (own_upd lk h true) E t)) := by
  obtain ⟨c, k1, k2⟩ := own_ck H hh
  unfold f_lock
  rw [k1, Option.bind_some]
  by_cases hs : st h = 1
  · rw [if_pos (k2.mpr hs), grd_pos (inbN (by omega) (by omega)), ix_N (by omega), bnd_eq]
    exact ⟨_, _, rfl, Or.inr ⟨rfl, own_Hlk H true⟩⟩
  · rw [if_neg (fun w => hs (k2.mp w))]
    exact ⟨_, _, rfl, Or.inl ⟨fun w => hs (k2.mp w), H⟩⟩
theorem own_ul (H : own_H W st a z lk E s) {h : Nat} (hh : h < 4) : ∃ v t, f_unlock (Int32.ofNat h) s = some (v, t) ∧ ((v ≠ 0 ∧ own_H W st a z lk E t) ∨ (v = 0 ∧ own_H W st a z (own_upd lk h false) E t)) := by
  obtain ⟨c, k1, k2⟩ := own_ck H hh
  unfold f_unlock
  rw [k1, Option.bind_some]
  by_cases hs : st h = 1
  · rw [if_pos (k2.mpr hs), grd_pos (inbN (by omega) (by omega)), ix_N (by omega), bnd_eq]
    exact ⟨_, _, rfl, Or.inr ⟨rfl, own_Hlk H false⟩⟩
  · rw [if_neg (fun w => hs (k2.mp w))]
    exact ⟨_, _, rfl, Or.inl ⟨fun w => hs (k2.mp w), H⟩⟩
theorem own_sp (H : own_H W st a z lk E s) {h : Nat} (hh : h < 4) (x : Int32) : ∃ v t, f_setPurgeable (Int32.ofNat h) x s = some (v, t) ∧ own_H W st a z lk E t := by
  obtain ⟨c, k1, k2⟩ := own_ck H hh
  unfold f_setPurgeable
  rw [k1, Option.bind_some]
  by_cases hs : st h = 1
  · rw [if_pos (k2.mpr hs), grd_pos (inbN (by omega) (by omega)), ix_N (by omega), bnd_eq]
    exact ⟨_, _, rfl, own_HE ⟨rfl, rfl⟩ (fun j hj => by funext i; rw [setA_2, if_neg (by omega)]) H⟩
  · rw [if_neg (fun w => hs (k2.mp w))]
    exact ⟨_, _, rfl, H⟩
theorem own_di (H : own_H W st a z lk E s) {h : Nat} (hh : h < 4) : ∃ v t, f_dispose (Int32.ofNat h) s = some (v, t) ∧ ((v ≠ 0 ∧ own_H W st a z lk E t) ∨ (v = 0 ∧ own_H W (own_upd st h 0) a z lk E t)) := by
  unfold f_dispose
  rw [own_va H hh, Option.bind_some, if_neg (by decide), grd_pos (inbN (by omega) (by omega)), ix_N (by omega)]
  by_cases q : st h = 0
  · rw [if_pos ((own_S1 H hh (0 : Int32) 0 rfl (by omega)).mpr q)]
    exact ⟨_, _, rfl, Or.inl ⟨by decide, H⟩⟩
  · rw [if_neg (fun w => q ((own_S1 H hh (0 : Int32) 0 rfl (by omega)).mp w))]
    unfold f_clearHandle
    rw [grd_pos (inbN (by omega) (by omega)), ix_N (by omega), bnd_eq, bnd_eq, bnd_eq, bnd_eq, bnd_eq, Option.bind_some]
    refine ⟨_, _, rfl, Or.inr ⟨rfl, own_Hst H (Or.inl rfl) rfl ?_ ?_ (fun j k e => ?_)⟩⟩
    · funext i
      rw [setA_2, if_neg (by omega), setA_2, if_neg (by omega), setA_2, if_neg (by omega), setA_2, if_neg (by omega), setA_2, if_neg (by omega)]
    · rw [setA_2, if_neg (by omega), setA_2, if_neg (by omega), setA_2, if_neg (by omega), setA_2, if_neg (by omega), setA_2, if_pos ⟨rfl, rfl⟩]; rfl
    · rw [setA_2, if_neg (by omega), setA_2, if_neg (by omega), setA_2, if_neg (by omega), setA_2, if_neg (by omega), setA_2, if_neg (by omega)]
theorem own_lf (hn : 300 ≤ n) (H : own_H W st a z lk E s) : ∃ v t, f_largestFree n s = some (v, t) ∧ own_H W st a z lk E t := by
  obtain ⟨t, t1, t2, t3, t4, t5⟩ := own_ml (n := n) hn H
  have W24 := H.1.2.2
  unfold f_largestFree
  rw [t1, Option.bind_some]
  have lp : ∀ (d i k : Nat) (x y : Int32), i + d = W → d < k → ∃ v, f_largestFree_10 n k x y (Int32.ofNat i) t = some (v, t) := by
    intro d
    induction d with
    | zero =>
      intro i k x y hi hk
      obtain ⟨k, rfl⟩ : ∃ k', k = k' + 1 := ⟨k - 1, by omega⟩
      rw [u_largestFree_10, t2.1.1, if_neg (own_nlt (by omega) (by omega))]
      exact ⟨_, rfl⟩
    | succ d ih =>
      intro i k x y hi hk
      obtain ⟨k, rfl⟩ : ∃ k', k = k' + 1 := ⟨k - 1, by omega⟩
      rw [u_largestFree_10, t2.1.1, if_pos (ltN (by omega) (by omega)), grd_pos (inbN (by omega) (by omega)), N_succ]
      split
      · split
        · exact ih (i + 1) k _ _ (by omega) (by omega)
        · exact ih (i + 1) k _ _ (by omega) (by omega)
      · exact ih (i + 1) k _ _ (by omega) (by omega)
  obtain ⟨v, v1⟩ := lp W 0 n 0 0 (by omega) (by omega)
  exact ⟨v, t, v1, t2⟩
theorem own_co (hn : 300 ≤ n) (H : own_H W st a z lk E s) : ∃ v t a', f_compact n s = some (v, t) ∧ own_H W st a' z lk E t ∧ (∀ h, h < 4 → st h = 1 → lk h = true → a' h = a h) := by
  obtain ⟨t, a', t1, t2, t3, -, -⟩ := own_cr (n := n) hn H own_xm
  obtain ⟨v, u, u1, u2⟩ := own_lf (n := n) hn t2
  unfold f_compact
  rw [t1, Option.bind_some, u1, Option.bind_some]
  exact ⟨v, u, a', rfl, u2, fun h hh hs hl => t3 h hh hs (Or.inl hl)⟩
end

/-! ### the law's turn -/
def own_p (x0 x1 x2 x3 : Int32) (h : Nat) : Int32 := if h = 0 then x0 else if h = 1 then x1 else if h = 2 then x2 else x3
theorem own_hpk (x0 x1 x2 x3 : Int32) : ∀ h, h < 4 → f_hpick (Int32.ofNat h) x0 x1 x2 x3 = some (own_p x0 x1 x2 x3 h)
  | 0, _ => rfl
  | 1, _ => rfl
  | 2, _ => rfl
  | 3, _ => rfl
  | _ + 4, h => by omega
def own_mix (S i : Nat) : Int32 := Int32.ofNat S * 7919 + Int32.ofNat i * 104729 + 13
def own_E (sd ln : Nat → Nat) (h i : Nat) : Int32 := if i < ln h then own_mix (sd h) i else 0
theorem own_B1 : ∀ S, S < 128 → ∀ L, L < 64 → Int32.ofNat (512 * S + L) &&& 511 = Int32.ofNat L := by decide +kernel
theorem own_B2 : ∀ S, S < 128 → ∀ L, L < 64 → Int32.ofNat (512 * S + L) >>> ((9 : Int32) &&& 31) = Int32.ofNat S := by decide +kernel
theorem own_B3 : ∀ S, S < 128 → ∀ L, L < 64 → Int32.ofNat (512 * S + L) &&& (-512) = Int32.ofNat (512 * S) := by decide +kernel
theorem own_B4 : ∀ S, S < 128 → ∀ L, L < 64 → Int32.ofNat (512 * S) ||| Int32.ofNat L = Int32.ofNat (512 * S + L) := by decide +kernel
theorem own_B5 : ∀ S, S < 128 → Int32.ofNat S <<< ((9 : Int32) &&& 31) = Int32.ofNat (512 * S) := by decide +kernel
theorem own_hex {S L i : Nat} (hS : S < 128) (hL : L < 64) (hi : i < 64) : f_hexpect (Int32.ofNat (512 * S + L)) (Int32.ofNat i) = some (if i < L then own_mix S i else 0) := by
  unfold f_hexpect
  rw [own_B1 S hS L hL, own_B2 S hS L hL]
  by_cases q : i < L
  · rw [if_pos (ltN q (by omega)), if_pos q]; rfl
  · rw [if_neg (own_nlt (by omega) (by omega)), if_neg q]
theorem own_and (x : Int32) {M : Nat} (hM : M < 2147483648) : ∃ m, m ≤ M ∧ x &&& Int32.ofNat M = Int32.ofNat m := by
  have r := and_rng x hM
  have nn : ¬ (x &&& Int32.ofNat M) < 0 := by rw [lt_I]; show ¬ (x &&& Int32.ofNat M).toInt < 0; omega
  have := ix_toInt nn
  exact ⟨ix (x &&& Int32.ofNat M), by omega, (N_ix nn).symm⟩
/-- the state between two turns -/
def own_D (W q : Nat) (x3 x4 x5 x6 : Int32) (st a z : Nat → Nat) (lk : Nat → Bool) (sd ln : Nat → Nat) (s : St) : Prop :=
  own_H W st a z lk (own_E sd ln) s ∧ ∀ h, h < 4 → (st h = 1 → ln h ≤ z h) ∧ sd h ≤ q ∧ ln h ≤ 39 ∧ own_p x3 x4 x5 x6 h = Int32.ofNat (512 * sd h + ln h)
def own_l (st a : Nat → Nat) (lk : Nat → Bool) (h : Nat) : Int32 := if st h = 1 ∧ lk h = true then Int32.ofNat (a h) else -1
section
variable {n W sn : Nat} {sf : Nat → Int32} {st a z : Nat → Nat} {lk : Nat → Bool} {E : Nat → Nat → Int32} {s : St} {x1 x3 x4 x5 x6 x7 x8 x9 x10 x11 x12 x13 x14 x15 x16 x20 : Int32}
  {k42 : Int32 → Int32 → Int32 → Int32 → Int32 → Int32 → Int32 → Int32 → St → Option (Int32 × St)}
theorem own_896 (H : own_H W st a z lk E s) {j : Nat} (hj : j < 4) (hs : st j = 1) {k836 : Int32 → Int32 → Int32 → Int32 → Int32 → Int32 → Int32 → Int32 → Int32 → St → Option (Int32 × St)} : ∀ d i k, i + d = j → d < k →
    f_law_896 n sn sf k42 k836 k x1 x3 x4 x5 x6 x7 x8 x9 (Int32.ofNat j) (Int32.ofNat (a j)) (Int32.ofNat (z j)) (Int32.ofNat i) s = k836 x1 x3 x4 x5 x6 x7 x8 x9 (Int32.ofNat j + 1) s := by
  have W39 := H.1.2.2.2
  obtain ⟨c1, c2, c3, c4, c5, c6⟩ := (H.2.1 j hj).2.2 hs
  intro d
  induction d with
  | zero =>
    intro i k hi hk
    obtain ⟨k, rfl⟩ : ∃ k', k = k' + 1 := ⟨k - 1, by omega⟩
    rw [u_law_896, if_neg (own_nlt (by omega) (by omega))]
  | succ d ih =>
    intro i k hi hk
    obtain ⟨k, rfl⟩ : ∃ k', k = k' + 1 := ⟨k - 1, by omega⟩
    have i4 : i < 4 := by omega
    rw [u_law_896, if_pos (ltN (by omega) (by omega)), own_gS H i4, Option.bind_some, N_succ i]
    by_cases q : st i = 1
    · obtain ⟨d1, d2, d3, d4, d5, d6⟩ := (H.2.1 i i4).2.2 q
      have dj := H.2.2 i j i4 hj (by omega) q hs
      rw [if_pos (by rw [q]; rfl), own_gA H i4 q, Option.bind_some, own_gZ H i4 q, Option.bind_some, N_add, N_add]
      by_cases g : a j < a i + z i
      · rw [if_pos (ltN g (by omega)), if_neg (own_nlt (by omega) (by omega))]
        exact ih (i + 1) k (by omega) (by omega)
      · rw [if_neg (own_nlt (by omega) (by omega))]
        exact ih (i + 1) k (by omega) (by omega)
    · rw [if_neg (show ¬ Int32.ofNat (st i) = 1 from fun w => q ((N_inj (by have := (H.2.1 i i4).2.1; omega) (by omega)).mp w))]
      exact ih (i + 1) k (by omega) (by omega)
theorem own_836 (hn : 300 ≤ n) (H : own_H W st a z lk E s) : ∀ d j k, j + d = 4 → d < k →
    f_law_836 n sn sf k42 k (Int32.ofNat W) x3 x4 x5 x6 x7 x8 x9 (Int32.ofNat j) s = k42 (Int32.ofNat W) x3 x4 x5 x6 x7 x8 (x9 + 3) s := by
  have W39 := H.1.2.2.2
  intro d
  induction d with
  | zero =>
    intro j k hj hk
    obtain ⟨k, rfl⟩ : ∃ k', k = k' + 1 := ⟨k - 1, by omega⟩
    rw [u_law_836, if_neg (by rw [show j = 4 by omega]; decide)]
  | succ d ih =>
    intro j k hj hk
    obtain ⟨k, rfl⟩ : ∃ k', k = k' + 1 := ⟨k - 1, by omega⟩
    have j4 : j < 4 := by omega
    rw [u_law_836, if_pos (ltZ (z := 4) 4 rfl j4 (by omega)), own_gS H j4, Option.bind_some]
    by_cases q : st j = 1
    · obtain ⟨d1, d2, d3, d4, d5, d6⟩ := (H.2.1 j j4).2.2 q
      rw [if_pos (by rw [q]; rfl), own_gA H j4 q, Option.bind_some, own_gZ H j4 q, Option.bind_some, if_neg (N_neg (by omega)), if_neg (by rw [show (1 : Int32) = Int32.ofNat 1 from rfl]; exact own_nlt d4 (by omega)), N_add, if_neg (own_nlt (by omega) (by omega))]
      rw [show (0 : Int32) = Int32.ofNat 0 from rfl, own_896 H j4 q j 0 n (by omega) (by omega), N_succ]
      exact ih (j + 1) k (by omega) (by omega)
    · rw [if_neg (show ¬ Int32.ofNat (st j) = 1 from fun w => q ((N_inj (by have := (H.2.1 j j4).2.1; omega) (by omega)).mp w)), N_succ]
      exact ih (j + 1) k (by omega) (by omega)
theorem own_751 (hn : 300 ≤ n) (H : own_H W st a z lk E s) (hK : ∀ h, h < 4 → own_p x13 x14 x15 x16 h < 0 ∨ (x20 ≠ 0 ∧ Int32.ofNat h = x11) ∨ (st h = 1 ∧ lk h = true ∧ own_p x13 x14 x15 x16 h = Int32.ofNat (a h))) : ∀ d j k, j + d = 4 → d < k →
    f_law_751 n sn sf k42 k (Int32.ofNat W) x3 x4 x5 x6 x7 x8 x9 x11 x13 x14 x15 x16 x20 (Int32.ofNat j) s = k42 (Int32.ofNat W) x3 x4 x5 x6 x7 x8 (x9 + 3) s := by
  intro d
  induction d with
  | zero =>
    intro j k hj hk
    obtain ⟨k, rfl⟩ : ∃ k', k = k' + 1 := ⟨k - 1, by omega⟩
    rw [u_law_751, if_neg (by rw [show j = 4 by omega]; decide)]
    exact own_836 hn H 4 0 n (by omega) (by omega)
  | succ d ih =>
    intro j k hj hk
    obtain ⟨k, rfl⟩ : ∃ k', k = k' + 1 := ⟨k - 1, by omega⟩
    have j4 : j < 4 := by omega
    have on := ih (j + 1) k (by omega) (by omega)
    rw [u_law_751, if_pos (ltZ (z := 4) 4 rfl j4 (by omega)), own_hpk _ _ _ _ j j4, Option.bind_some, N_succ]
    by_cases q : own_p x13 x14 x15 x16 j < 0
    · rw [if_pos q]; exact on
    · rw [if_neg q]
      by_cases g : x20 ≠ 0 ∧ Int32.ofNat j = x11
      · rw [if_neg g.1, if_pos g.2]; exact on
      · obtain ⟨h1, h2, h3⟩ : st j = 1 ∧ lk j = true ∧ own_p x13 x14 x15 x16 j = Int32.ofNat (a j) := by
          rcases hK j j4 with w | w | w
          · exact absurd w q
          · exact absurd w g
          · exact w
        obtain ⟨r, r1, r2⟩ := own_gF H j4 h1
        have e : f_law_789 n sn sf k42 (f_law_751 n sn sf k42 k) (Int32.ofNat W) x3 x4 x5 x6 x7 x8 x9 x11 x13 x14 x15 x16 x20 (Int32.ofNat j) (own_p x13 x14 x15 x16 j) s = k42 (Int32.ofNat W) x3 x4 x5 x6 x7 x8 (x9 + 3) s := by
          unfold f_law_789
          rw [own_gS H j4, Option.bind_some, if_pos (by rw [h1]; rfl), r1, Option.bind_some, if_neg (by rw [r2, h2]; decide), own_gA H j4 h1, Option.bind_some, if_pos h3.symm, N_succ]
          exact on
        by_cases g1 : x20 = 0
        · rw [if_pos g1]; exact e
        · rw [if_neg g1, if_neg (fun w => g ⟨g1, w⟩)]; exact e
theorem own_701 {q i : Nat} {x21 x22 : Int32} (hn : 300 ≤ n) {sd ln : Nat → Nat} (C : ∀ x3 x4 x5 x6 x7 st a z lk sd ln s, own_D W q x3 x4 x5 x6 st a z lk sd ln s → ∃ w, k42 (Int32.ofNat W) x3 x4 x5 x6 x7 (Int32.ofNat q) (Int32.ofNat (i + 3)) s = some (1, w))
    (H : own_H W st a z lk (own_E sd ln) s) (B : ∀ h, h < 4 → (st h = 1 → ln h ≤ z h) ∧ sd h ≤ q ∧ ln h ≤ 39) (U : ∀ h, h < 4 → (if x21 = Int32.ofNat h then x22 else own_p x3 x4 x5 x6 h) = Int32.ofNat (512 * sd h + ln h))
    (hK : ∀ h, h < 4 → own_p x13 x14 x15 x16 h < 0 ∨ (x20 ≠ 0 ∧ Int32.ofNat h = x11) ∨ (st h = 1 ∧ lk h = true ∧ own_p x13 x14 x15 x16 h = Int32.ofNat (a h))) :
    ∃ w, f_law_701 n sn sf k42 (Int32.ofNat W) x3 x4 x5 x6 x7 (Int32.ofNat q) (Int32.ofNat i) x11 x13 x14 x15 x16 x20 x21 x22 s = some (1, w) := by
  have e : ∀ y3 y4 y5 y6, (∀ h, h < 4 → own_p y3 y4 y5 y6 h = Int32.ofNat (512 * sd h + ln h)) → ∃ w, f_law_748 n sn sf k42 (Int32.ofNat W) y3 y4 y5 y6 x7 (Int32.ofNat q) (Int32.ofNat i) x11 x13 x14 x15 x16 x20 s = some (1, w) := fun y3 y4 y5 y6 P => by
    unfold f_law_748
    rw [show (0 : Int32) = Int32.ofNat 0 from rfl, own_751 hn H hK 4 0 n (by omega) (by omega), show (3 : Int32) = Int32.ofNat 3 from rfl, N_add]
    exact C y3 y4 y5 y6 x7 st a z lk sd ln s ⟨H, fun h hh => ⟨(B h hh).1, (B h hh).2.1, (B h hh).2.2, P h hh⟩⟩
  have u0 := U 0 (by omega)
  have u1 := U 1 (by omega)
  have u2 := U 2 (by omega)
  have u3 := U 3 (by omega)
  have al : ∀ y3 y4 y5 y6, y3 = Int32.ofNat (512 * sd 0 + ln 0) → y4 = Int32.ofNat (512 * sd 1 + ln 1) → y5 = Int32.ofNat (512 * sd 2 + ln 2) → y6 = Int32.ofNat (512 * sd 3 + ln 3) → ∃ w, f_law_748 n sn sf k42 (Int32.ofNat W) y3 y4 y5 y6 x7 (Int32.ofNat q) (Int32.ofNat i) x11 x13 x14 x15 x16 x20 s = some (1, w) := fun y3 y4 y5 y6 h3 h4 h5 h6 => e y3 y4 y5 y6 (fun h hh => by
    match h, hh with
    | 0, _ => exact h3
    | 1, _ => exact h4
    | 2, _ => exact h5
    | 3, _ => exact h6)
  unfold f_law_701
  rw [show own_p x3 x4 x5 x6 0 = x3 from rfl, show Int32.ofNat 0 = 0 from rfl] at u0
  rw [show own_p x3 x4 x5 x6 1 = x4 from rfl, show Int32.ofNat 1 = 1 from rfl] at u1
  rw [show own_p x3 x4 x5 x6 2 = x5 from rfl, show Int32.ofNat 2 = 2 from rfl] at u2
  rw [show own_p x3 x4 x5 x6 3 = x6 from rfl, show Int32.ofNat 3 = 3 from rfl] at u3
  by_cases q0 : x21 = 0
  · subst q0
    rw [if_pos rfl] at u0 ⊢
    rw [if_neg (by decide)] at u1 u2 u3
    exact al _ _ _ _ u0 u1 u2 u3
  · rw [if_neg q0] at u0 ⊢
    by_cases q1 : x21 = 1
    · subst q1
      rw [if_pos rfl] at u1 ⊢
      rw [if_neg (by decide)] at u2 u3
      exact al _ _ _ _ u0 u1 u2 u3
    · rw [if_neg q1] at u1 ⊢
      by_cases q2 : x21 = 2
      · subst q2
        rw [if_pos rfl] at u2 ⊢
        rw [if_neg (by decide)] at u3
        exact al _ _ _ _ u0 u1 u2 u3
      · rw [if_neg q2] at u2 ⊢
        by_cases q3 : x21 = 3
        · subst q3
          rw [if_pos rfl] at u3 ⊢
          exact al _ _ _ _ u0 u1 u2 u3
        · rw [if_neg q3] at u3 ⊢
          exact al _ _ _ _ u0 u1 u2 u3
theorem own_109s (H : own_H W st a z lk E s) {i k : Nat} (hi : i < 4) :
    f_law_109 n sn sf k42 (k + 1) x1 x3 x4 x5 x6 x7 x8 x9 x10 x11 x12 x13 x14 x15 x16 (Int32.ofNat i) s = f_law_146 n sn sf k42 (f_law_109 n sn sf k42 k) x1 x3 x4 x5 x6 x7 x8 x9 x10 x11 x12 x13 x14 x15 x16 (Int32.ofNat i) (own_l st a lk i) s := by
  rw [u_law_109, if_pos (ltZ (z := 4) 4 rfl hi (by omega)), own_gS H hi, Option.bind_some]
  unfold own_l
  by_cases q : st i = 1
  · obtain ⟨r, r1, r2⟩ := own_gF H hi q
    rw [if_pos (by rw [q]; rfl), r1, Option.bind_some, r2, own_gA H hi q, Option.bind_some]
    by_cases g : lk i = true
    · rw [if_neg (by rw [g]; decide), if_pos ⟨q, g⟩]
    · rw [if_pos ((own_bz _).mpr (by simpa using g)), if_neg (fun w => g w.2)]
  · rw [if_neg (show ¬ Int32.ofNat (st i) = 1 from fun w => q ((N_inj (by have := (H.2.1 i hi).2.1; omega) (by omega)).mp w)), if_neg (fun w => q w.1)]
theorem own_109 (hn : 300 ≤ n) (H : own_H W st a z lk E s) {h : Nat} (hh : h < 4) :
    f_law_109 n sn sf k42 n x1 x3 x4 x5 x6 x7 x8 x9 x10 (Int32.ofNat h) x12 (-1) (-1) (-1) (-1) 0 s =
      f_law_225 n sn sf k42 x1 x3 x4 x5 x6 x7 x8 x9 x10 (Int32.ofNat h) x12 (own_l st a lk 0) (own_l st a lk 1) (own_l st a lk 2) (own_l st a lk 3) (own_p x3 x4 x5 x6 h) (if st h = 1 then 1 else 0) s := by
  obtain ⟨k, hk⟩ : ∃ k, n = k + 5 := ⟨n - 5, by omega⟩
  have go : ∀ (G : Nat → Int32 → Int32 → Int32 → Int32 → Int32 → Int32 → Int32 → Int32 → Int32 → Int32 → Int32 → Int32 → Int32 → Int32 → Int32 → Int32 → St → Option (Int32 × St)), G = f_law_109 n sn sf k42 →
      G (k + 5) x1 x3 x4 x5 x6 x7 x8 x9 x10 (Int32.ofNat h) x12 (-1) (-1) (-1) (-1) 0 s = f_law_225 n sn sf k42 x1 x3 x4 x5 x6 x7 x8 x9 x10 (Int32.ofNat h) x12 (own_l st a lk 0) (own_l st a lk 1) (own_l st a lk 2) (own_l st a lk 3) (own_p x3 x4 x5 x6 h) (if st h = 1 then 1 else 0) s := fun G hG => by
    subst hG
    have s0 := own_109s (n := n) (sn := sn) (sf := sf) (k42 := k42) (x1 := x1) (x3 := x3) (x4 := x4) (x5 := x5) (x6 := x6) (x7 := x7) (x8 := x8) (x9 := x9) (x10 := x10) (x11 := Int32.ofNat h) (x12 := x12) (x13 := -1) (x14 := -1) (x15 := -1) (x16 := -1) H (i := 0) (k := k + 4) (by omega)
    have s1 := own_109s (n := n) (sn := sn) (sf := sf) (k42 := k42) (x1 := x1) (x3 := x3) (x4 := x4) (x5 := x5) (x6 := x6) (x7 := x7) (x8 := x8) (x9 := x9) (x10 := x10) (x11 := Int32.ofNat h) (x12 := x12) (x13 := own_l st a lk 0) (x14 := -1) (x15 := -1) (x16 := -1) H (i := 1) (k := k + 3) (by omega)
    have s2 := own_109s (n := n) (sn := sn) (sf := sf) (k42 := k42) (x1 := x1) (x3 := x3) (x4 := x4) (x5 := x5) (x6 := x6) (x7 := x7) (x8 := x8) (x9 := x9) (x10 := x10) (x11 := Int32.ofNat h) (x12 := x12) (x13 := own_l st a lk 0) (x14 := own_l st a lk 1) (x15 := -1) (x16 := -1) H (i := 2) (k := k + 2) (by omega)
    have s3 := own_109s (n := n) (sn := sn) (sf := sf) (k42 := k42) (x1 := x1) (x3 := x3) (x4 := x4) (x5 := x5) (x6 := x6) (x7 := x7) (x8 := x8) (x9 := x9) (x10 := x10) (x11 := Int32.ofNat h) (x12 := x12) (x13 := own_l st a lk 0) (x14 := own_l st a lk 1) (x15 := own_l st a lk 2) (x16 := -1) H (i := 3) (k := k + 1) (by omega)
    unfold f_law_146 at s0 s1 s2 s3
    rw [if_pos (by decide), show Int32.ofNat 0 + 1 = Int32.ofNat 1 from rfl] at s0
    rw [if_neg (by decide), if_pos (by decide), show Int32.ofNat 1 + 1 = Int32.ofNat 2 from rfl] at s1
    rw [if_neg (by decide), if_neg (by decide), if_pos (by decide), show Int32.ofNat 2 + 1 = Int32.ofNat 3 from rfl] at s2
    rw [if_neg (by decide), if_neg (by decide), if_neg (by decide), show Int32.ofNat 3 + 1 = Int32.ofNat 4 from rfl] at s3
    rw [show (0 : Int32) = Int32.ofNat 0 from rfl, s0, s1, s2, s3, u_law_109, if_neg (by decide), own_hpk _ _ _ _ h hh, Option.bind_some, own_gS H hh, Option.bind_some]
    by_cases q : st h = 1
    · rw [if_pos (by rw [q]; rfl), if_pos q]
    · rw [if_neg (show ¬ Int32.ofNat (st h) = 1 from fun w => q ((N_inj (by have := (H.2.1 h hh).2.1; omega) (by omega)).mp w)), if_neg q]; rfl
  have := go _ rfl
  rw [← hk] at this
  exact this
end

/-! ### the law's operations -/
theorem own_EU (sd ln : Nat → Nat) (k S L : Nat) : own_E (own_upd sd k S) (own_upd ln k L) = own_upd (own_E sd ln) k (fun i => if i < L then own_mix S i else 0) := by
  funext h i
  unfold own_E
  by_cases e : h = k
  · subst e; rw [own_upd1, own_upd1, own_upd1]
  · rw [own_upd2 _ _ e, own_upd2 _ _ e, own_upd2 _ _ e]
theorem own_pl (st a : Nat → Nat) (lk : Nat → Bool) : ∀ h, h < 4 → own_p (own_l st a lk 0) (own_l st a lk 1) (own_l st a lk 2) (own_l st a lk 3) h = own_l st a lk h
  | 0, _ => rfl
  | 1, _ => rfl
  | 2, _ => rfl
  | 3, _ => rfl
  | _ + 4, h => by omega
section
variable {n W sn q i h : Nat} {sf : Nat → Int32} {st a z : Nat → Nat} {lk : Nat → Bool} {sd ln : Nat → Nat} {s : St} {x3 x4 x5 x6 x7 : Int32}
  {k42 : Int32 → Int32 → Int32 → Int32 → Int32 → Int32 → Int32 → Int32 → St → Option (Int32 × St)}
/-- what the turns behind answer -/
def own_C (W q i : Nat) (k42 : Int32 → Int32 → Int32 → Int32 → Int32 → Int32 → Int32 → Int32 → St → Option (Int32 × St)) : Prop :=
  ∀ q', q ≤ q' → q' ≤ q + 1 → ∀ x3 x4 x5 x6 x7 st a z lk sd ln s, own_D W q' x3 x4 x5 x6 st a z lk sd ln s → ∃ w, k42 (Int32.ofNat W) x3 x4 x5 x6 x7 (Int32.ofNat q') (Int32.ofNat (i + 3)) s = some (1, w)
theorem own_eN (hn : 300 ≤ n) (C : own_C W q i k42) (D : own_D W q x3 x4 x5 x6 st a z lk sd ln s) (x7 x20 : Int32) {t : St} {st' a' : Nat → Nat} {lk' : Nat → Bool} (H : own_H W st' a' z lk' (own_E sd ln) t) (h1 : ∀ k, k < 4 → st' k = 1 → st k = 1) (h2 : ∀ k, k < 4 → st k = 1 → lk k = true → (x20 ≠ 0 ∧ k = h) ∨ (st' k = 1 ∧ lk' k = true ∧ a' k = a k)) :
    ∃ w, f_law_701 n sn sf k42 (Int32.ofNat W) x3 x4 x5 x6 x7 (Int32.ofNat q) (Int32.ofNat i) (Int32.ofNat h) (own_l st a lk 0) (own_l st a lk 1) (own_l st a lk 2) (own_l st a lk 3) x20 (-1) 0 t = some (1, w) := by
  refine own_701 hn (C q (Nat.le_refl _) (by omega)) H (fun k hk => ⟨fun w => (D.2 k hk).1 (h1 k hk w), (D.2 k hk).2.1, (D.2 k hk).2.2.1⟩) (fun k hk => ?_) (fun k hk => ?_)
  · rw [if_neg (fun w => by have := (own_xm k hk).mp w.symm; omega)]; exact (D.2 k hk).2.2.2
  · rw [own_pl _ _ _ k hk]
    unfold own_l
    by_cases g : st k = 1 ∧ lk k = true
    · rw [if_pos g]
      rcases h2 k hk g.1 g.2 with w | w
      · exact Or.inr (Or.inl ⟨w.1, by rw [w.2]⟩)
      · exact Or.inr (Or.inr ⟨w.1, w.2.1, by rw [w.2.2]⟩)
    · rw [if_neg g]; exact Or.inl (by decide)
theorem own_eQ (hn : 300 ≤ n) (C : own_C W q i k42) (D : own_D W q x3 x4 x5 x6 st a z lk sd ln s) (x7 : Int32) {t : St} {xN : Nat} {st' a' : Nat → Nat} (Q : own_Q xN lk st a st' a') (H : own_H W st' a' z lk (own_E sd ln) t) :
    ∃ w, f_law_701 n sn sf k42 (Int32.ofNat W) x3 x4 x5 x6 x7 (Int32.ofNat q) (Int32.ofNat i) (Int32.ofNat h) (own_l st a lk 0) (own_l st a lk 1) (own_l st a lk 2) (own_l st a lk 3) 0 (-1) 0 t = some (1, w) := by
  refine own_eN hn C D x7 0 H (fun k hk w => ?_) (fun k hk w1 w2 => Or.inr ⟨?_, w2, Q.2 k hk w1 (Or.inl w2)⟩)
  · rcases Q.1 k hk with e | e
    · rw [← e]; exact w
    · exact e.1
  · rcases Q.1 k hk with e | e
    · rw [e]; exact w1
    · rw [e.2.2.1] at w2; exact absurd w2 (by decide)
theorem own_eU (hn : 300 ≤ n) (C : own_C W q i k42) (D : own_D W q x3 x4 x5 x6 st a z lk sd ln s) (x7 : Int32) {q' k S L : Nat} {t : St} {st' a' z' : Nat → Nat} {lk' : Nat → Bool} (hk : k < 4) (hq : q ≤ q') (hq' : q' ≤ q + 1)
    (H : own_H W st' a' z' lk' (own_upd (own_E sd ln) k (fun i => if i < L then own_mix S i else 0)) t) (hS : S ≤ q') (hL : L ≤ 39) (hz : L ≤ z' k) (h1 : ∀ h, h < 4 → h ≠ k → st' h = 1 → st h = 1 ∧ z' h = z h) (h2 : ∀ h, h < 4 → st h = 1 → lk h = true → st' h = 1 ∧ lk' h = true ∧ a' h = a h) :
    ∃ w, f_law_701 n sn sf k42 (Int32.ofNat W) x3 x4 x5 x6 x7 (Int32.ofNat q') (Int32.ofNat i) (Int32.ofNat h) (own_l st a lk 0) (own_l st a lk 1) (own_l st a lk 2) (own_l st a lk 3) 0 (Int32.ofNat k) (Int32.ofNat (512 * S + L)) t = some (1, w) := by
  rw [← own_EU] at H
  refine own_701 hn (C q' hq hq') H (fun j hj => ?_) (fun j hj => ?_) (fun j hj => ?_)
  · obtain ⟨d1, d2, d3, d4⟩ := D.2 j hj
    by_cases e : j = k
    · subst e; rw [own_upd1, own_upd1]; exact ⟨fun _ => hz, hS, hL⟩
    · rw [own_upd2 _ _ e, own_upd2 _ _ e]
      exact ⟨fun w => by obtain ⟨g1, g2⟩ := h1 j hj e w; rw [g2]; exact d1 g1, by omega, d3⟩
  · by_cases e : j = k
    · subst e; rw [if_pos rfl, own_upd1, own_upd1]
    · rw [if_neg (fun w => e ((N_inj (by omega) (by omega)).mp w).symm), own_upd2 _ _ e, own_upd2 _ _ e]; exact (D.2 j hj).2.2.2
  · rw [own_pl _ _ _ j hj]
    unfold own_l
    by_cases g : st j = 1 ∧ lk j = true
    · rw [if_pos g]
      obtain ⟨w1, w2, w3⟩ := h2 j hj g.1 g.2
      exact Or.inr (Or.inr ⟨w1, w2, by rw [w3]⟩)
    · rw [if_neg g]; exact Or.inl (by decide)
/-- filling a block -/
theorem own_310 (hn : 300 ≤ n) (C : own_C W q i k42) (D : own_D W q x3 x4 x5 x6 st a z lk sd ln s) (hq : q < 127) (hh : h < 4) (hs : st h = 1) (x7 : Int32) : ∀ (d j k : Nat) (t : St), j + d = z h → d < k → own_H W st a z lk (own_upd (own_E sd ln) h (fun i => if i < j then own_mix (q + 1) i else own_E sd ln h i)) t →
    ∃ w, f_law_310 n sn sf k42 k (Int32.ofNat W) x3 x4 x5 x6 x7 (Int32.ofNat (q + 1)) (Int32.ofNat i) (Int32.ofNat h) (own_l st a lk 0) (own_l st a lk 1) (own_l st a lk 2) (own_l st a lk 3) (Int32.ofNat (z h)) 0 (Int32.ofNat j) t = some (1, w) := by
  have W39 := D.1.1.2.2.2
  obtain ⟨c1, c2, c3, c4, c5, c6⟩ := (D.1.2.1 h hh).2.2 hs
  intro d
  induction d with
  | zero =>
    intro j k t hj hk H
    obtain ⟨k, rfl⟩ : ∃ k', k = k' + 1 := ⟨k - 1, by omega⟩
    rw [u_law_310, if_neg (own_nlt (by omega) (by omega)), own_B5 (q + 1) (by omega), own_B4 (q + 1) (by omega) (z h) (by omega)]
    refine own_eU hn C D _ hh (q' := q + 1) (by omega) (Nat.le_refl _) (own_HX (fun k hk hsk i hi => ?_) H) (Nat.le_refl _) (by omega) (Nat.le_refl _) (fun k hk e w => ⟨w, rfl⟩) (fun k hk w1 w2 => ⟨w1, w2, rfl⟩)
    by_cases e : k = h
    · subst e
      rw [own_upd1, own_upd1]
      show (if i < j then _ else _) = if i < z k then _ else _
      rw [if_pos (by omega), if_pos (by omega)]
    · rw [own_upd2 _ _ e, own_upd2 _ _ e]
  | succ d ih =>
    intro j k t hj hk H
    obtain ⟨k, rfl⟩ : ∃ k', k = k' + 1 := ⟨k - 1, by omega⟩
    obtain ⟨u, u1, u2⟩ := own_wr H hh hs (i := j) (by omega) (own_mix (q + 1) j)
    rw [u_law_310, if_pos (ltN (by omega) (by omega)), show f_hmix (Int32.ofNat (q + 1)) (Int32.ofNat j) = some (own_mix (q + 1) j) from rfl, Option.bind_some, u1, Option.bind_some, if_pos rfl, N_succ]
    refine ih (j + 1) k u (by omega) (by omega) (own_HX (fun k hk hsk i hi => ?_) u2)
    show (if k = h ∧ i = j then own_mix (q + 1) j else _) = _
    by_cases e : k = h
    · subst e
      rw [own_upd1, own_upd1]
      show (if k = k ∧ i = j then own_mix (q + 1) j else if i < j then _ else _) = if i < j + 1 then _ else _
      by_cases e2 : i = j
      · rw [if_pos ⟨rfl, e2⟩, if_pos (by omega), e2]
      · rw [if_neg (fun w => e2 w.2)]
        by_cases g : i < j
        · rw [if_pos g, if_pos (by omega)]
        · rw [if_neg g, if_neg (by omega)]
    · rw [if_neg (fun w => e w.1), own_upd2 _ _ e, own_upd2 _ _ e]
theorem own_Qk {xN : Nat} {st' a' : Nat → Nat} (Q : own_Q xN lk st a st' a') (k : Nat) (hk : k < 4) (w1 : st k = 1) (w2 : lk k = true) : st' k = 1 ∧ a' k = a k := by
  refine ⟨?_, Q.2 k hk w1 (Or.inl w2)⟩
  rcases Q.1 k hk with e | e
  · rw [e]; exact w1
  · rw [e.2.2.1] at w2; exact absurd w2 (by decide)
theorem own_Q1 {xN : Nat} {st' a' : Nat → Nat} (Q : own_Q xN lk st a st' a') (k : Nat) (hk : k < 4) (w : st' k = 1) : st k = 1 := by
  rcases Q.1 k hk with e | e
  · rw [← e]; exact w
  · exact e.1
/-- a handle that was not live has been established -/
theorem own_eE (hn : 300 ≤ n) (C : own_C W q i k42) (D : own_D W q x3 x4 x5 x6 st a z lk sd ln s) (hq : q < 127) (x7 : Int32) {k m A xN : Nat} {t : St} {st' a' : Nat → Nat} (hk : k < 4) (Q : own_Q xN lk st a st' a') (hs : st k ≠ 1)
    (H : own_H W (own_upd st' k 1) (own_upd a' k A) (own_upd z k m) (own_upd lk k false) (own_upd (own_E sd ln) k (fun _ => 0)) t) :
    ∃ w, f_law_701 n sn sf k42 (Int32.ofNat W) x3 x4 x5 x6 x7 (Int32.ofNat q + 1) (Int32.ofNat i) (Int32.ofNat h) (own_l st a lk 0) (own_l st a lk 1) (own_l st a lk 2) (own_l st a lk 3) 0 (Int32.ofNat k) ((Int32.ofNat q + 1) <<< ((9 : Int32) &&& 31)) t = some (1, w) := by
  rw [N_succ, own_B5 (q + 1) (by omega)]
  refine own_eU hn C D _ hk (q' := q + 1) (L := 0) (S := q + 1) (by omega) (Nat.le_refl _) ?_ (Nat.le_refl _) (by omega) (by omega) (fun j hj e w => ?_) (fun j hj w1 w2 => ?_) (lk' := own_upd lk k false) (st' := own_upd st' k 1) (a' := own_upd a' k A) (z' := own_upd z k m)
  · exact own_HX (fun j hj _ i _ => by
      by_cases e : j = k
      · subst e; rw [own_upd1, own_upd1]; show (0 : Int32) = if i < 0 then _ else 0; rw [if_neg (by omega)]
      · rw [own_upd2 _ _ e, own_upd2 _ _ e]) H
  · rw [own_upd2 _ _ e] at w
    exact ⟨own_Q1 Q j hj w, own_upd2 _ _ e⟩
  · have e : j ≠ k := fun e => hs (by rw [← e]; exact w1)
    rw [own_upd2 _ _ e, own_upd2 _ _ e, own_upd2 _ _ e]
    obtain ⟨g1, g2⟩ := own_Qk Q j hj w1 w2
    exact ⟨g1, w2, g2⟩
theorem own_225 (hn : 300 ≤ n) (C : own_C W q i k42) (D : own_D W q x3 x4 x5 x6 st a z lk sd ln s) (hq : q < 127) (hh : h < 4) {r : Nat} (hr : r ≤ 1023) (x10 : Int32) :
    ∃ w, f_law_225 n sn sf k42 (Int32.ofNat W) x3 x4 x5 x6 x7 (Int32.ofNat q) (Int32.ofNat i) x10 (Int32.ofNat h) (Int32.ofNat r) (own_l st a lk 0) (own_l st a lk 1) (own_l st a lk 2) (own_l st a lk 3) (own_p x3 x4 x5 x6 h) (if st h = 1 then 1 else 0) s = some (1, w) := by
  have H := D.1
  have W39 := H.1.2.2.2
  obtain ⟨d1, d2, d3, d4⟩ := D.2 h hh
  have sk : ∀ x7, ∃ w, f_law_701 n sn sf k42 (Int32.ofNat W) x3 x4 x5 x6 x7 (Int32.ofNat q) (Int32.ofNat i) (Int32.ofNat h) (own_l st a lk 0) (own_l st a lk 1) (own_l st a lk 2) (own_l st a lk 3) 0 (-1) 0 s = some (1, w) := fun x7 => own_eQ hn C D x7 (own_Qr (xN := 4)) H
  obtain ⟨m, m1, m2⟩ := own_and (Int32.ofNat r) (M := 15) (by omega)
  obtain ⟨m', m1', m2'⟩ := own_and (Int32.ofNat r >>> ((2 : Int32) &&& 31)) (M := 15) (by omega)
  have e1 : (1 : Int32) + (Int32.ofNat r &&& 15) = Int32.ofNat (1 + m) := by rw [show (Int32.ofNat r &&& 15) = Int32.ofNat m from m2, show (1 : Int32) = Int32.ofNat 1 from rfl, N_add]
  have e1' : (1 : Int32) + ((Int32.ofNat r >>> ((2 : Int32) &&& 31)) &&& 15) = Int32.ofNat (1 + m') := by rw [show ((Int32.ofNat r >>> ((2 : Int32) &&& 31)) &&& 15) = Int32.ofNat m' from m2', show (1 : Int32) = Int32.ofNat 1 from rfl, N_add]
  unfold f_law_225
  rw [e1, e1']
  obtain ⟨q1, g1, g2⟩ : ∃ q1, f_getSize s (Int32.ofNat h) = some q1 ∧ (st h = 1 → q1 = Int32.ofNat (z h)) := by
    by_cases g : st h = 1
    · exact ⟨_, own_gZ H hh g, fun _ => rfl⟩
    · exact ⟨_, own_gZ0 H hh g, fun w => absurd w g⟩
  rw [g1, Option.bind_some]
  by_cases o0 : x10 = 0
  · rw [if_pos o0]
    obtain ⟨v, t, st', a', t1, t2, t3⟩ := own_nh (n := n) hn H (m := 1 + m) (by omega) (by omega)
    rw [t1, Option.bind_some]
    rcases t3 with ⟨v1, H'⟩ | ⟨k, A, hk, rfl, hs, H'⟩
    · rw [if_pos v1]; exact own_eQ hn C D _ t2 H'
    · rw [if_neg (N_neg (by omega)), if_pos (ltZ (z := 4) 4 rfl hk (by omega))]
      exact own_eE hn C D hq _ hk t2 (by omega) H'
  rw [if_neg o0]
  by_cases o1 : x10 = 1
  · rw [if_pos o1]
    by_cases hs : st h = 1
    · rw [if_pos hs, if_neg (by decide), g2 hs, N_succ]
      exact own_310 hn C D hq hh hs _ (z h) 0 n s (by omega) (by obtain ⟨_, _, _, _, c5, _⟩ := (H.2.1 h hh).2.2 hs; omega) (own_HX (fun k hk hsk i hi => by
        by_cases e : k = h
        · subst e; rw [own_upd1]; show _ = if i < 0 then _ else _; rw [if_neg (by omega)]
        · rw [own_upd2 _ _ e]) H)
    · rw [if_neg hs, if_pos rfl]; exact sk _
  rw [if_neg o1]
  by_cases o2 : x10 = 2
  · rw [if_pos o2]
    by_cases hs : st h = 1
    · obtain ⟨c1, c2, c3, c4, c5, c6⟩ := (H.2.1 h hh).2.2 hs
      rw [if_pos hs, if_neg (by decide), g2 hs, d4, own_B1 _ (by omega) _ (by omega), own_B2 _ (by omega) _ (by omega)]
      by_cases g : ln h < z h
      · obtain ⟨u, u1, u2⟩ := own_wr H hh hs g (own_mix (sd h) (ln h))
        rw [if_pos (ltN g (by omega)), show f_hmix (Int32.ofNat (sd h)) (Int32.ofNat (ln h)) = some (own_mix (sd h) (ln h)) from rfl, Option.bind_some, u1, Option.bind_some, if_pos rfl, N_succ, show 512 * sd h + ln h + 1 = 512 * sd h + (ln h + 1) by omega]
        refine own_eU hn C D _ hh (q' := q) (Nat.le_refl _) (by omega) (own_HX (fun k hk hsk i hi => ?_) u2) d2 (by omega) g (fun k hk e w => ⟨w, rfl⟩) (fun k hk w1 w2 => ⟨w1, w2, rfl⟩)
        show (if k = h ∧ i = ln h then own_mix (sd h) (ln h) else own_E sd ln k i) = _
        by_cases e : k = h
        · subst e
          rw [own_upd1]
          show (if k = k ∧ i = ln k then own_mix (sd k) (ln k) else if i < ln k then own_mix (sd k) i else 0) = if i < ln k + 1 then own_mix (sd k) i else 0
          by_cases e2 : i = ln k
          · rw [if_pos ⟨rfl, e2⟩, if_pos (by omega), e2]
          · rw [if_neg (fun w => e2 w.2)]
            by_cases g : i < ln k
            · rw [if_pos g, if_pos (by omega)]
            · rw [if_neg g, if_neg (by omega)]
        · rw [if_neg (fun w => e w.1), own_upd2 _ _ e]
      · rw [if_neg (own_nlt (by omega) (by omega))]; exact sk _
    · rw [if_neg hs, if_pos rfl]; exact sk _
  rw [if_neg o2]
  by_cases o3 : x10 = 3
  · rw [if_pos o3]
    obtain ⟨v, t, st', a', t1, t2, t3⟩ := own_ss (n := n) hn H (h := h) (m := 1 + m) hh (by omega) (by omega)
    rw [t1, Option.bind_some]
    rcases t3 with ⟨v1, H'⟩ | ⟨v1, hs, b, b1, H'⟩
    · rw [if_neg v1]; exact own_eQ hn C D _ t2 H'
    · have fin : ∀ L, L = min (1 + m) (ln h) → ∃ w, f_law_484 n sn sf k42 (Int32.ofNat W) x3 x4 x5 x6 (x7 + 1) (Int32.ofNat q) (Int32.ofNat i) (Int32.ofNat h) (own_l st a lk 0) (own_l st a lk 1) (own_l st a lk 2) (own_l st a lk 3) (own_p x3 x4 x5 x6 h) 0 (Int32.ofNat L) t = some (1, w) := fun L hL => by
        unfold f_law_484
        rw [d4, own_B3 _ (by omega) _ (by omega), own_B4 _ (by omega) _ (by omega)]
        have d1' := d1 hs
        refine own_eU hn C D _ hh (q' := q) (Nat.le_refl _) (by omega) (own_HX (fun k hk hsk i hi => ?_) H') d2 (by omega) (by rw [own_upd1]; omega) (fun k hk e w => ⟨own_Q1 t2 k hk w, own_upd2 _ _ e⟩) (fun k hk w1 w2 => ?_)
        · by_cases e : k = h
          · subst e
            rw [own_upd1] at hi
            rw [own_upd1, own_upd1]
            show (if i < z k then (if i < ln k then own_mix (sd k) i else 0) else 0) = if i < L then own_mix (sd k) i else 0
            by_cases g : i < z k
            · rw [if_pos g]
              by_cases g2 : i < ln k
              · rw [if_pos g2, if_pos (by omega)]
              · rw [if_neg g2, if_neg (by omega)]
            · rw [if_neg g, if_neg (by omega)]
          · rw [own_upd2 _ _ e, own_upd2 _ _ e]
        · obtain ⟨g1, g2⟩ := own_Qk t2 k hk w1 w2
          refine ⟨g1, w2, ?_⟩
          by_cases e : k = h
          · subst e; rw [own_upd1]; exact b1 w2
          · rw [own_upd2 _ _ e]; exact g2
      rw [if_pos v1]
      have ee : own_p x3 x4 x5 x6 h &&& 511 = Int32.ofNat (ln h) := by rw [d4, own_B1 _ (by omega) _ (by omega)]
      rw [ee]
      by_cases g : 1 + m < ln h
      · rw [if_pos (ltN g (by omega))]; exact fin _ (by omega)
      · rw [if_neg (own_nlt (by omega) (by omega))]; exact fin _ (by omega)
  rw [if_neg o3]
  by_cases o4 : x10 = 4
  · rw [if_pos o4]
    by_cases hs : st h = 1
    · obtain ⟨c1, c2, c3, c4, c5, c6⟩ := (H.2.1 h hh).2.2 hs
      have lz : r % z h < z h := Nat.mod_lt _ (by omega)
      obtain ⟨u, u1, u2⟩ := own_rd H hh hs lz
      rw [if_pos hs, if_neg (by decide), g2 hs, if_pos (by rw [show (0 : Int32) = Int32.ofNat 0 from rfl]; exact ltN (by omega) (by omega)), grd_pos (own_nz (by omega) (by omega)), rem_N (by omega) (by omega) (by omega), u1, Option.bind_some, d4, own_hex (by omega) (by omega) (by omega), Option.bind_some, if_pos (show own_E sd ln h (r % z h) = if r % z h < ln h then own_mix (sd h) (r % z h) else 0 from rfl)]
      exact own_eQ hn C D _ (own_Qr (xN := 4)) u2
    · rw [if_neg hs, if_pos rfl]; exact sk _
  rw [if_neg o4]
  by_cases o5 : x10 = 5
  · rw [if_pos o5]
    by_cases g : (Int32.ofNat r &&& 1) = 0
    · rw [if_pos g]
      obtain ⟨v, t, t1, t2⟩ := own_lo H hh
      rw [t1, Option.bind_some]
      rcases t2 with ⟨v1, H'⟩ | ⟨v1, H'⟩
      · exact own_eQ hn C D _ (own_Qr (xN := 4)) H'
      · refine own_eN hn C D _ _ H' (fun _ _ w => w) (fun k hk w1 w2 => Or.inr ⟨w1, ?_, rfl⟩)
        by_cases e : k = h
        · rw [e, own_upd1]
        · rw [own_upd2 _ _ e]; exact w2
    · rw [if_neg g]
      obtain ⟨v, t, t1, t2⟩ := own_ul H hh
      rw [t1, Option.bind_some]
      rcases t2 with ⟨v1, H'⟩ | ⟨v1, H'⟩
      · rw [if_neg v1]; exact own_eQ hn C D _ (own_Qr (xN := 4)) H'
      · rw [if_pos v1]
        refine own_eN hn C D _ _ H' (fun _ _ w => w) (fun k hk w1 w2 => ?_)
        by_cases e : k = h
        · exact Or.inl ⟨by decide, e⟩
        · rw [own_upd2 _ _ e]; exact Or.inr ⟨w1, w2, rfl⟩
  rw [if_neg o5]
  by_cases o6 : x10 = 6
  · rw [if_pos o6]
    unfold f_law_615
    by_cases g : (Int32.ofNat r &&& 3) = 0
    · rw [if_pos g]
      obtain ⟨v, t, t1, t2⟩ := own_sp H hh 0
      rw [t1, Option.bind_some]
      exact own_eQ hn C D _ (own_Qr (xN := 4)) t2
    · rw [if_neg g]
      obtain ⟨v, t, t1, t2⟩ := own_sp H hh 1
      rw [t1, Option.bind_some]
      exact own_eQ hn C D _ (own_Qr (xN := 4)) t2
  rw [if_neg o6]
  by_cases g : (Int32.ofNat r % 3) = 0
  · rw [if_pos g]
    obtain ⟨v, t, t1, t2⟩ := own_di H hh
    rw [t1, Option.bind_some]
    rcases t2 with ⟨v1, H'⟩ | ⟨v1, H'⟩
    · rw [if_neg v1]; exact own_eQ hn C D _ (own_Qr (xN := 4)) H'
    · rw [if_pos v1]
      refine own_eN hn C D _ _ H' (fun k hk w => ?_) (fun k hk w1 w2 => ?_)
      · by_cases e : k = h
        · rw [e, own_upd1] at w; omega
        · rw [own_upd2 _ _ e] at w; exact w
      · by_cases e : k = h
        · exact Or.inl ⟨by decide, e⟩
        · rw [own_upd2 _ _ e]; exact Or.inr ⟨w1, w2, rfl⟩
  rw [if_neg g]
  by_cases g2 : (Int32.ofNat r % 3) = 1
  · rw [if_pos g2]
    obtain ⟨v, t, st', a', t1, t2, t3⟩ := own_ra (n := n) hn H (h := h) (m := 1 + m') hh (by omega) (by omega)
    rw [t1, Option.bind_some]
    rcases t3 with ⟨v1, H'⟩ | ⟨v1, hs, A, H'⟩
    · rw [if_neg v1]; exact own_eQ hn C D _ t2 H'
    · rw [if_pos v1]; exact own_eE hn C D hq _ hh t2 (by omega) H'
  · rw [if_neg g2]
    obtain ⟨v, t, a', t1, t2, t3⟩ := own_co (n := n) hn H
    rw [t1, Option.bind_some]
    exact own_eN hn C D _ _ t2 (fun _ _ w => w) (fun k hk w1 w2 => Or.inr ⟨w1, w2, t3 k hk w1 w2⟩)
end

/-! ### the whole law -/
theorem own_cellh (sn : Nat) (sf : Nat → Int32) (h : sn ≤ 260) {j : Nat} (hj : j < 1000) : ∃ v, f_hcell sn sf (Int32.ofNat j) = some v := by
  unfold f_hcell
  by_cases q : j < sn
  · rw [if_pos (show Int32.ofNat j < Int32.ofNat sn from ltN q (by omega)), grd_pos (inbN q (by omega))]; exact ⟨_, rfl⟩
  · rw [if_neg (show ¬ Int32.ofNat j < Int32.ofNat sn from own_nlt (by omega) (by omega))]; exact ⟨_, rfl⟩
section
variable {n W sn q : Nat} {sf : Nat → Int32} {st a z : Nat → Nat} {lk : Nat → Bool} {sd ln : Nat → Nat} {x3 x4 x5 x6 : Int32}
theorem own_972 (hn : 300 ≤ n) (hq : q < 128) {s : St} (D : own_D W q x3 x4 x5 x6 st a z lk sd ln s) : ∃ w, f_law_972 n sn sf x3 x4 x5 x6 s = some (1, w) := by
  have lp : ∀ (d j k : Nat) (s : St), j + d = 4 → d < k → own_H W st a z lk (own_E sd ln) s → ∃ w, f_law_975 n sn sf k x3 x4 x5 x6 (Int32.ofNat j) s = some (1, w) := by
    intro d
    induction d with
    | zero =>
      intro j k s hj hk H
      obtain ⟨k, rfl⟩ : ∃ k', k = k' + 1 := ⟨k - 1, by omega⟩
      rw [u_law_975, if_neg (by rw [show j = 4 by omega]; decide)]
      exact ⟨s, rfl⟩
    | succ d ih =>
      intro j k s hj hk H
      obtain ⟨k, rfl⟩ : ∃ k', k = k' + 1 := ⟨k - 1, by omega⟩
      have j4 : j < 4 := by omega
      have W39 := H.1.2.2.2
      obtain ⟨d1, d2, d3, d4⟩ := D.2 j j4
      rw [u_law_975, if_pos (ltZ (z := 4) 4 rfl j4 (by omega)), own_gS H j4, Option.bind_some]
      by_cases g : st j = 1
      · obtain ⟨c1, c2, c3, c4, c5, c6⟩ := (H.2.1 j j4).2.2 g
        have l2 : ∀ (e i k' : Nat) (s : St), i + e = z j → e < k' → own_H W st a z lk (own_E sd ln) s → ∃ w, f_law_1019 n sn sf (f_law_975 n sn sf k) k' x3 x4 x5 x6 (Int32.ofNat j) (Int32.ofNat (z j)) (own_p x3 x4 x5 x6 j) (Int32.ofNat i) s = some (1, w) := by
          intro e
          induction e with
          | zero =>
            intro i k' s hi hk' H
            obtain ⟨k', rfl⟩ : ∃ k'', k' = k'' + 1 := ⟨k' - 1, by omega⟩
            rw [u_law_1019, if_neg (own_nlt (by omega) (by omega)), N_succ]
            exact ih (j + 1) k s (by omega) (by omega) H
          | succ e ih2 =>
            intro i k' s hi hk' H
            obtain ⟨k', rfl⟩ : ∃ k'', k' = k'' + 1 := ⟨k' - 1, by omega⟩
            obtain ⟨u, u1, u2⟩ := own_rd H j4 g (i := i) (by omega)
            have ex : f_hexpect (own_p x3 x4 x5 x6 j) (Int32.ofNat i) = some (own_E sd ln j i) := by
              rw [d4]; exact own_hex (by omega) (by omega) (by omega)
            rw [u_law_1019, if_pos (ltN (by omega) (by omega)), u1, Option.bind_some, ex, Option.bind_some, if_pos rfl, N_succ]
            exact ih2 (i + 1) k' u (by omega) (by omega) u2
        rw [if_pos (by rw [g]; rfl), own_gZ H j4 g, Option.bind_some, own_hpk _ _ _ _ j j4, Option.bind_some]
        exact l2 (z j) 0 n s (by omega) (by omega) H
      · rw [if_neg (show ¬ Int32.ofNat (st j) = 1 from fun w => g ((N_inj (by have := (H.2.1 j j4).2.1; omega) (by omega)).mp w)), N_succ]
        exact ih (j + 1) k s (by omega) (by omega) H
  unfold f_law_972
  exact lp 4 0 n s (by omega) (by omega) D.1
theorem own_42 (hn : 1000 ≤ n) (hsn : sn ≤ 260) : ∀ (d i k q : Nat) (x3 x4 x5 x6 x7 : Int32) (st a z : Nat → Nat) (lk : Nat → Bool) (sd ln : Nat → Nat) (s : St), sn ≤ i + d → d < k → 3 * q + 1 ≤ i → i ≤ 263 → own_D W q x3 x4 x5 x6 st a z lk sd ln s →
    ∃ w, f_law_42 n sn sf k (Int32.ofNat W) x3 x4 x5 x6 x7 (Int32.ofNat q) (Int32.ofNat i) s = some (1, w) := by
  intro d
  induction d with
  | zero =>
    intro i k q x3 x4 x5 x6 x7 st a z lk sd ln s hi hk hq h63 D
    obtain ⟨k, rfl⟩ : ∃ k', k = k' + 1 := ⟨k - 1, by omega⟩
    rw [u_law_42, if_neg (show ¬ Int32.ofNat i < Int32.ofNat sn from own_nlt (by omega) (by omega))]
    exact own_972 (by omega) (by omega) D
  | succ d ih =>
    intro i k q x3 x4 x5 x6 x7 st a z lk sd ln s hi hk hq h63 D
    obtain ⟨k, rfl⟩ : ∃ k', k = k' + 1 := ⟨k - 1, by omega⟩
    by_cases g : i < sn
    · rw [u_law_42, if_pos (show Int32.ofNat i < Int32.ofNat sn from ltN g (by omega))]
      by_cases g2 : (430 : Int32) < x7
      · rw [if_pos g2]; exact own_972 (by omega) (by omega) D
      · obtain ⟨v0, e0⟩ := own_cellh sn sf hsn (j := i) (by omega)
        obtain ⟨v1, e1⟩ := own_cellh sn sf hsn (j := i + 1) (by omega)
        obtain ⟨v2, e2⟩ := own_cellh sn sf hsn (j := i + 2) (by omega)
        obtain ⟨h, h1, h2⟩ := own_and v1 (M := 3) (by omega)
        obtain ⟨r, r1, r2⟩ := own_and v2 (M := 1023) (by omega)
        rw [if_neg g2, e0, Option.bind_some, show Int32.ofNat i + 1 = Int32.ofNat (i + 1) from N_succ i, show Int32.ofNat i + 2 = Int32.ofNat (i + 2) from N_add i 2, e1, Option.bind_some, e2, Option.bind_some, show v1 &&& 3 = Int32.ofNat h from h2, show v2 &&& 1023 = Int32.ofNat r from r2]
        rw [own_109 (by omega) D.1 (by omega : h < 4)]
        exact own_225 (by omega) (fun q' hq1 hq2 y3 y4 y5 y6 y7 st' a' z' lk' sd' ln' t D' => ih (i + 3) k q' y3 y4 y5 y6 y7 st' a' z' lk' sd' ln' t (by omega) (by omega) (by omega) (by omega) D') D (by omega) (by omega) r1 _
    · rw [u_law_42, if_neg (show ¬ Int32.ofNat i < Int32.ofNat sn from own_nlt (by omega) (by omega))]
      exact own_972 (by omega) (by omega) D
theorem own_cth (hn : 300 ≤ n) {m : Nat} (hm : m ≤ 15) : ∃ s, f_ctor n (Int32.ofNat (24 + m)) 4 = some s ∧ s.1 9 = Int32.ofNat (24 + m) ∧ s.1 10 = 4 ∧ ∀ j, s.2 2 j = 0 := by
  have lp : ∀ (d i k : Nat) (s : St), i + d = 32 → d < k → s.1 9 = Int32.ofNat (24 + m) → s.1 10 = 4 → (∀ j, s.2 2 j = 0) → ∃ t, f_ctor_142 n k (Int32.ofNat i) s = some t ∧ t.1 9 = Int32.ofNat (24 + m) ∧ t.1 10 = 4 ∧ ∀ j, t.2 2 j = 0 := by
    intro d
    induction d with
    | zero =>
      intro i k s hi hk h9 h10 h2
      obtain ⟨k, rfl⟩ : ∃ k', k = k' + 1 := ⟨k - 1, by omega⟩
      rw [u_ctor_142, if_neg (by rw [show i = 32 by omega]; decide)]
      exact ⟨s, rfl, h9, h10, h2⟩
    | succ d ih =>
      intro i k s hi hk h9 h10 h2
      obtain ⟨k, rfl⟩ : ∃ k', k = k' + 1 := ⟨k - 1, by omega⟩
      rw [u_ctor_142, if_pos (ltZ (z := 32) 32 rfl (by omega) (by omega))]
      unfold f_clearHandle
      rw [grd_pos (inbN (by omega) (by omega)), ix_N (by omega), bnd_eq, bnd_eq, bnd_eq, bnd_eq, bnd_eq, Option.bind_some, N_succ]
      refine ih (i + 1) k _ (by omega) (by omega) h9 h10 (fun j => ?_)
      rw [setA_2, if_neg (by omega), setA_2, if_neg (by omega), setA_2, if_neg (by omega), setA_2, if_neg (by omega), setA_2]
      by_cases e : j = i
      · rw [if_pos ⟨rfl, e⟩]
      · rw [if_neg (fun w => e w.2)]; exact h2 j
  unfold f_ctor f_ctor_78 f_ctor_89 f_ctor_100 f_ctor_112 f_ctor_123
  rw [if_neg (by rw [show (8 : Int32) = Int32.ofNat 8 from rfl]; exact own_nlt (by omega) (by omega)), if_neg (by rw [show (256 : Int32) = Int32.ofNat 256 from rfl]; exact own_nlt (by omega) (by omega)), if_neg (by decide), if_neg (by decide), bnd_eq, bnd_eq, bnd_eq]
  exact lp 32 0 n _ (by omega) (by omega) rfl rfl (fun _ => rfl)
end
theorem plain : ∀ (sn : Nat) (sf : Nat → Int32), sn ≤ 260 → ∃ n w, f_law n sn sf = some (1, w) := by
  intro sn sf hsn
  obtain ⟨n, hn⟩ : ∃ n : Nat, 1000 ≤ n := ⟨1000, Nat.le_refl _⟩
  refine ⟨n, ?_⟩
  obtain ⟨v0, e0⟩ := own_cellh sn sf hsn (j := 0) (by omega)
  obtain ⟨m, m1, m2⟩ := own_and v0 (M := 15) (by omega)
  have em : (24 : Int32) + (v0 &&& 15) = Int32.ofNat (24 + m) := by rw [show v0 &&& 15 = Int32.ofNat m from m2, show (24 : Int32) = Int32.ofNat 24 from rfl, N_add]
  obtain ⟨s, s1, s9, s10, s2⟩ := own_cth (n := n) (by omega) m1
  unfold f_law f_law_21
  rw [show f_hcell sn sf 0 = some v0 from e0, Option.bind_some, em, s1, Option.bind_some]
  exact own_42 hn hsn 260 1 n 0 0 0 0 0 0 (fun _ => 0) (fun _ => 0) (fun _ => 0) (fun _ => false) (fun _ => 0) (fun _ => 0) s (by omega) (by omega) (by omega) (by omega)
    ⟨⟨⟨s9, s10, by omega, by omega⟩, fun h hh => ⟨by rw [s2]; rfl, Nat.zero_le _, fun w => absurd (show (0 : Nat) = 1 from w) (by decide)⟩, fun h k _ _ _ w => absurd (show (0 : Nat) = 1 from w) (by decide)⟩, fun h hh => ⟨fun w => absurd (show (0 : Nat) = 1 from w) (by decide), Nat.zero_le _, Nat.zero_le _, by
      match h, hh with
      | 0, _ => rfl
      | 1, _ => rfl
      | 2, _ => rfl
      | 3, _ => rfl⟩⟩
theorem main_1_1 : Claimed_1_1 := comes_1 plain fun _ _ _ _ _ _ h hF => ⟨h.1, hF⟩
theorem main_1_2 : Claimed_1_2 := comes_1 plain fun _ _ _ _ _ _ h hF => ⟨h.2.1, hF⟩


end Jvm.Pilot.@@N@@
namespace Jvm.Pilot.@@N@@
open Jvm Jvm.ClassFile Sem Op Lib Jvm.Free Jvm.Stand Jvm.Pilot.@@N@@.Jvm.D
/-! MADE BY PROGRAM (witnessworld.py) out of the Statement's table words and the real class files: 11 classes; the members and pool entries that the words name. The judged class is class 1, her method 5. -/
namespace start1
open Jvm.ClassFile
def u (s : String) : CpInfo := .utf8 (stringToUtf16 s)
/-- a pool by its gaps: so many unusable entries, then the entry; so many at the end -/
def gap : Nat → List CpInfo → List CpInfo
  | 0, r => r
  | n + 1, r => .unusable :: gap n r
def poolList (es : List (Nat × CpInfo)) (last : Nat) : List CpInfo := es.foldr (fun e r => gap e.1 (e.2 :: r)) (gap last [])
def pool (es : List (Nat × CpInfo)) (last : Nat) : Array CpInfo := ⟨poolList es last⟩
def fileOf (pool : Array CpInfo) (this : Nat) (attrs : Array Attribute := #[]) (ms : Array MethodInfo := #[]) (fl : Nat := 33) (sup : Nat := 0) (ifs : Array Nat := #[]) (fds : Array FieldInfo := #[]) : ClassFile where
  minorVersion := 0
  majorVersion := 65
  constantPool := pool
  accessFlags := fl
  thisClass := this
  superClass := sup
  interfaces := ifs
  fields := fds
  methods := ms
  attributes := attrs
def plain (name : String) (sup : Option ClassId) : Class where
  name := name
  kind := .ordinary
  loader := none
  accessFlags := 33
  super := sup
  interfaces := #[]
  cf := none
  fields := #[]
  methods := #[]
  instanceTypes := #[]
  staticTypes := #[]
  resolved := #[]
  callSites := []
  init := .initialized
  statics := none
  mirror := none

def pool0 : Array CpInfo := pool [(5, u "<init>"), (0, u "()V"), (1, .class_ 10), (1, u "java/lang/Object")] 113

def k0c0 : Code := { maxStack := 0, maxLocals := 1, code := object_method_1_code, exceptionTable := #[], attributes := #[] }
def k0m0 : Method := { name := "<init>", desc := "()V", sig := { parameters := [], returnType := none }, accessFlags := 1, code := some k0c0 }
/-- java/lang/Object -/
def k0 : Class := { plain "java/lang/Object" none with
  accessFlags := 33
  interfaces := #[]
  cf := some (fileOf pool0 8 #[] #[{ accessFlags := 1, nameIndex := 5, descriptorIndex := 6, attributes := #[] }] 33 0 #[] #[])
  fields := #[]
  methods := #[k0m0]
  instanceTypes := #[]
  staticTypes := #[]
  resolved := Array.replicate 124 none
  statics := none }

def pool1 : Array CpInfo := pool [(2, .class_ 4), (1, u "java/lang/Object"), (0, u "<init>"), (0, u "()V"), (0, .integer 104729), (0, .methodref 9 10), (0, .class_ 11), (0, .nameAndType 12 13), (0, u "HandleHeapOwnLaw"), (0, u "mix"), (0, u "(II)I"), (0, .methodref 9 15), (0, .nameAndType 16 17), (0, u "cell"), (0, u "([II)I"), (0, .class_ 19), (0, u "HandleHeap"), (0, .methodref 18 21), (0, .nameAndType 5 22), (0, u "(II)V"), (0, .methodref 18 24), (0, .nameAndType 25 26), (0, u "getState"), (0, u "(I)I"), (0, .methodref 18 28), (0, .nameAndType 29 26), (0, u "getFlags"), (0, .methodref 18 31), (0, .nameAndType 32 26), (0, u "getAddress"), (0, .methodref 9 34), (0, .nameAndType 35 36), (0, u "pick"), (0, u "(IIIII)I"), (0, .methodref 18 38), (0, .nameAndType 39 26), (0, u "getSize"), (0, .methodref 18 41), (0, .nameAndType 42 26), (0, u "newHandle"), (0, .methodref 18 44), (0, .nameAndType 45 46), (0, u "write"), (0, u "(III)I"), (0, .methodref 18 48), (0, .nameAndType 49 13), (0, u "setSize"), (0, .methodref 18 51), (0, .nameAndType 52 13), (0, u "read"), (0, .methodref 9 54), (0, .nameAndType 55 13), (0, u "expect"), (0, .methodref 18 57), (0, .nameAndType 58 26), (0, u "lock"), (0, .methodref 18 60), (0, .nameAndType 61 26), (0, u "unlock"), (0, .methodref 18 63), (0, .nameAndType 64 65), (0, u "setPurgeable"), (0, u "(IZ)I"), (0, .methodref 18 67), (0, .nameAndType 68 26), (0, u "dispose"), (0, .methodref 18 70), (0, .nameAndType 71 13), (0, u "reallocHandle"), (0, .methodref 18 73), (0, .nameAndType 74 75), (0, u "compact"), (0, u "()I"), (3, u "law"), (0, u "([I)Z")] 4

def k1m0 : Method := { name := "<init>", desc := "()V", sig := { parameters := [], returnType := none }, accessFlags := 1, code := none }
def k1c1 : Code := { maxStack := 2, maxLocals := 2, code := method_2_code, exceptionTable := #[], attributes := #[] }
def k1m1 : Method := { name := "cell", desc := "([II)I", sig := { parameters := [(.array .int), .int], returnType := some .int }, accessFlags := 10, code := some k1c1 }
def k1c2 : Code := { maxStack := 2, maxLocals := 5, code := method_3_code, exceptionTable := #[], attributes := #[] }
def k1m2 : Method := { name := "pick", desc := "(IIIII)I", sig := { parameters := [.int, .int, .int, .int, .int], returnType := some .int }, accessFlags := 10, code := some k1c2 }
def k1c3 : Code := { maxStack := 3, maxLocals := 2, code := method_4_code, exceptionTable := #[], attributes := #[] }
def k1m3 : Method := { name := "mix", desc := "(II)I", sig := { parameters := [.int, .int], returnType := some .int }, accessFlags := 10, code := some k1c3 }
def k1c4 : Code := { maxStack := 2, maxLocals := 3, code := method_5_code, exceptionTable := #[], attributes := #[] }
def k1m4 : Method := { name := "expect", desc := "(II)I", sig := { parameters := [.int, .int], returnType := some .int }, accessFlags := 10, code := some k1c4 }
def k1c5 : Code := { maxStack := 5, maxLocals := 29, code := code, exceptionTable := #[], attributes := #[] }
def k1m5 : Method := { name := "law", desc := "([I)Z", sig := { parameters := [(.array .int)], returnType := some .boolean }, accessFlags := 9, code := some k1c5 }
/-- HandleHeapOwnLaw -/
def k1 : Class := { plain "HandleHeapOwnLaw" (some 0) with
  accessFlags := 49
  interfaces := #[]
  cf := some (fileOf pool1 9 #[] #[{ accessFlags := 1, nameIndex := 5, descriptorIndex := 6, attributes := #[] }, { accessFlags := 10, nameIndex := 16, descriptorIndex := 17, attributes := #[] }, { accessFlags := 10, nameIndex := 35, descriptorIndex := 36, attributes := #[] }, { accessFlags := 10, nameIndex := 12, descriptorIndex := 13, attributes := #[] }, { accessFlags := 10, nameIndex := 55, descriptorIndex := 13, attributes := #[] }, { accessFlags := 9, nameIndex := 79, descriptorIndex := 80, attributes := #[] }] 49 2 #[] #[])
  fields := #[]
  methods := #[k1m0, k1m1, k1m2, k1m3, k1m4, k1m5]
  instanceTypes := #[]
  staticTypes := #[]
  resolved := Array.replicate 85 none
  statics := none }

def pool2 : Array CpInfo := pool [(1, .methodref 2 3), (0, .class_ 4), (0, .nameAndType 5 6), (0, u "java/lang/Object"), (0, u "<init>"), (0, u "()V"), (0, .fieldref 8 9), (0, .class_ 10), (0, .nameAndType 11 12), (0, u "HandleHeap"), (0, u "heap"), (0, u "[I"), (0, .fieldref 8 14), (0, .nameAndType 15 16), (0, u "mark"), (0, u "[Z"), (0, .fieldref 8 18), (0, .nameAndType 19 12), (0, u "state"), (0, .fieldref 8 21), (0, .nameAndType 22 12), (0, u "addr"), (0, .fieldref 8 24), (0, .nameAndType 25 12), (0, u "size"), (0, .fieldref 8 27), (0, .nameAndType 28 12), (0, u "stamp"), (0, .fieldref 8 30), (0, .nameAndType 31 12), (0, u "order"), (0, .fieldref 8 33), (0, .nameAndType 34 16), (0, u "locked"), (0, .fieldref 8 36), (0, .nameAndType 37 16), (0, u "purg"), (0, .fieldref 8 39), (0, .nameAndType 40 41), (0, u "hw"), (0, u "I"), (0, .fieldref 8 43), (0, .nameAndType 44 41), (0, u "nh"), (0, .fieldref 8 46), (0, .nameAndType 47 41), (0, u "clock"), (0, .methodref 8 49), (0, .nameAndType 50 51), (0, u "clearHandle"), (0, u "(I)V"), (0, .methodref 8 53), (0, .nameAndType 54 55), (0, u "alloc"), (0, u "(II)I"), (0, .methodref 8 57), (0, .nameAndType 58 59), (0, u "establish"), (0, u "(III)V"), (0, .methodref 8 61), (0, .nameAndType 62 63), (0, u "valid"), (0, u "(I)Z"), (0, .methodref 8 65), (0, .nameAndType 66 67), (0, u "check"), (0, u "(I)I"), (0, .methodref 8 69), (0, .nameAndType 70 51), (0, u "touch"), (0, .methodref 8 72), (0, .nameAndType 73 74), (0, u "rangeFree"), (0, u "(II)Z"), (0, .methodref 8 76), (0, .nameAndType 77 78), (0, u "zeroWords"), (0, u "(II)V"), (0, .methodref 8 80), (0, .nameAndType 81 59), (0, u "copyWords"), (0, .methodref 8 83), (0, .nameAndType 84 51), (0, u "compactRun"), (0, .methodref 8 86), (0, .nameAndType 87 88), (0, u "largestFree"), (0, u "()I"), (0, .methodref 8 90), (0, .nameAndType 91 6), (0, u "markLive"), (0, .methodref 8 93), (0, .nameAndType 94 78), (0, u "copyOne"), (0, .methodref 8 96), (0, .nameAndType 97 6), (0, u "clearMark"), (0, .methodref 8 99), (0, .nameAndType 100 51), (0, u "markBlock"), (0, .methodref 8 102), (0, .nameAndType 103 67), (0, u "firstRun"), (0, .methodref 8 105), (0, .nameAndType 106 51), (0, u "sortOrder"), (0, .methodref 8 108), (0, .nameAndType 109 51), (0, u "moveBlock"), (0, .methodref 8 111), (0, .nameAndType 112 67), (0, u "fit"), (0, .methodref 8 114), (0, .nameAndType 115 67), (0, u "victim"), (0, .methodref 8 117), (0, .nameAndType 118 51), (0, u "purge"), (0, u "OK"), (2, u "ERR_HANDLE"), (1, u "ERR_SIZE"), (1, u "ERR_INDEX"), (1, u "ERR_PURGED"), (1, u "ERR_LOCKED"), (1, u "ERR_NO_MEMORY"), (1, u "ERR_NO_HANDLE"), (1, u "ERR_NOT_EMPTY"), (1, u "STATE_FREE"), (0, u "STATE_LIVE"), (1, u "STATE_EMPTY"), (1, u "FLAG_LOCKED"), (0, u "FLAG_PURGEABLE"), (3, u "newHandle"), (0, u "dispose"), (0, u "setSize"), (0, u "reallocHandle"), (0, u "lock"), (0, u "unlock"), (0, u "setPurgeable"), (0, u "(IZ)I"), (0, u "read"), (0, u "write"), (0, u "(III)I"), (0, u "compact"), (0, u "getState"), (0, u "getSize"), (0, u "getAddress"), (0, u "getFlags")] 3

def k2c0 : Code := { maxStack := 2, maxLocals := 6, code := prog_1_method_1_code, exceptionTable := #[], attributes := #[] }
def k2m0 : Method := { name := "<init>", desc := "(II)V", sig := { parameters := [.int, .int], returnType := none }, accessFlags := 1, code := some k2c0 }
def k2c1 : Code := { maxStack := 4, maxLocals := 4, code := prog_1_method_2_code, exceptionTable := #[], attributes := #[] }
def k2m1 : Method := { name := "newHandle", desc := "(I)I", sig := { parameters := [.int], returnType := some .int }, accessFlags := 1, code := some k2c1 }
def k2c2 : Code := { maxStack := 2, maxLocals := 2, code := prog_1_method_3_code, exceptionTable := #[], attributes := #[] }
def k2m2 : Method := { name := "dispose", desc := "(I)I", sig := { parameters := [.int], returnType := some .int }, accessFlags := 1, code := some k2c2 }
def k2c3 : Code := { maxStack := 4, maxLocals := 8, code := prog_1_method_4_code, exceptionTable := #[], attributes := #[] }
def k2m3 : Method := { name := "setSize", desc := "(II)I", sig := { parameters := [.int, .int], returnType := some .int }, accessFlags := 1, code := some k2c3 }
def k2c4 : Code := { maxStack := 4, maxLocals := 4, code := prog_1_method_5_code, exceptionTable := #[], attributes := #[] }
def k2m4 : Method := { name := "reallocHandle", desc := "(II)I", sig := { parameters := [.int, .int], returnType := some .int }, accessFlags := 1, code := some k2c4 }
def k2c5 : Code := { maxStack := 3, maxLocals := 3, code := prog_1_method_6_code, exceptionTable := #[], attributes := #[] }
def k2m5 : Method := { name := "lock", desc := "(I)I", sig := { parameters := [.int], returnType := some .int }, accessFlags := 1, code := some k2c5 }
def k2c6 : Code := { maxStack := 3, maxLocals := 3, code := prog_1_method_7_code, exceptionTable := #[], attributes := #[] }
def k2m6 : Method := { name := "unlock", desc := "(I)I", sig := { parameters := [.int], returnType := some .int }, accessFlags := 1, code := some k2c6 }
def k2c7 : Code := { maxStack := 3, maxLocals := 4, code := prog_1_method_8_code, exceptionTable := #[], attributes := #[] }
def k2m7 : Method := { name := "setPurgeable", desc := "(IZ)I", sig := { parameters := [.int, .boolean], returnType := some .int }, accessFlags := 1, code := some k2c7 }
def k2c8 : Code := { maxStack := 3, maxLocals := 4, code := prog_1_method_9_code, exceptionTable := #[], attributes := #[] }
def k2m8 : Method := { name := "read", desc := "(II)I", sig := { parameters := [.int, .int], returnType := some .int }, accessFlags := 1, code := some k2c8 }
def k2c9 : Code := { maxStack := 3, maxLocals := 6, code := prog_1_method_10_code, exceptionTable := #[], attributes := #[] }
def k2m9 : Method := { name := "write", desc := "(III)I", sig := { parameters := [.int, .int, .int], returnType := some .int }, accessFlags := 1, code := some k2c9 }
def k2c10 : Code := { maxStack := 2, maxLocals := 1, code := prog_1_method_11_code, exceptionTable := #[], attributes := #[] }
def k2m10 : Method := { name := "compact", desc := "()I", sig := { parameters := [], returnType := some .int }, accessFlags := 1, code := some k2c10 }
def k2c11 : Code := { maxStack := 2, maxLocals := 2, code := prog_1_method_12_code, exceptionTable := #[], attributes := #[] }
def k2m11 : Method := { name := "getState", desc := "(I)I", sig := { parameters := [.int], returnType := some .int }, accessFlags := 1, code := some k2c11 }
def k2c12 : Code := { maxStack := 2, maxLocals := 2, code := prog_1_method_13_code, exceptionTable := #[], attributes := #[] }
def k2m12 : Method := { name := "getSize", desc := "(I)I", sig := { parameters := [.int], returnType := some .int }, accessFlags := 1, code := some k2c12 }
def k2c13 : Code := { maxStack := 2, maxLocals := 2, code := prog_1_method_14_code, exceptionTable := #[], attributes := #[] }
def k2m13 : Method := { name := "getAddress", desc := "(I)I", sig := { parameters := [.int], returnType := some .int }, accessFlags := 1, code := some k2c13 }
def k2c14 : Code := { maxStack := 2, maxLocals := 3, code := prog_1_method_15_code, exceptionTable := #[], attributes := #[] }
def k2m14 : Method := { name := "getFlags", desc := "(I)I", sig := { parameters := [.int], returnType := some .int }, accessFlags := 1, code := some k2c14 }
def k2c15 : Code := { maxStack := 2, maxLocals := 4, code := prog_1_method_17_code, exceptionTable := #[], attributes := #[] }
def k2m15 : Method := { name := "largestFree", desc := "()I", sig := { parameters := [], returnType := some .int }, accessFlags := 1, code := some k2c15 }
def k2c16 : Code := { maxStack := 2, maxLocals := 2, code := prog_1_method_18_code, exceptionTable := #[], attributes := #[] }
def k2m16 : Method := { name := "valid", desc := "(I)Z", sig := { parameters := [.int], returnType := some .boolean }, accessFlags := 2, code := some k2c16 }
def k2c17 : Code := { maxStack := 2, maxLocals := 2, code := prog_1_method_19_code, exceptionTable := #[], attributes := #[] }
def k2m17 : Method := { name := "check", desc := "(I)I", sig := { parameters := [.int], returnType := some .int }, accessFlags := 2, code := some k2c17 }
def k2c18 : Code := { maxStack := 3, maxLocals := 2, code := prog_1_method_20_code, exceptionTable := #[], attributes := #[] }
def k2m18 : Method := { name := "touch", desc := "(I)V", sig := { parameters := [.int], returnType := none }, accessFlags := 2, code := some k2c18 }
def k2c19 : Code := { maxStack := 3, maxLocals := 2, code := prog_1_method_21_code, exceptionTable := #[], attributes := #[] }
def k2m19 : Method := { name := "clearHandle", desc := "(I)V", sig := { parameters := [.int], returnType := none }, accessFlags := 2, code := some k2c19 }
def k2c20 : Code := { maxStack := 3, maxLocals := 2, code := prog_1_method_22_code, exceptionTable := #[], attributes := #[] }
def k2m20 : Method := { name := "purge", desc := "(I)V", sig := { parameters := [.int], returnType := none }, accessFlags := 2, code := some k2c20 }
def k2c21 : Code := { maxStack := 3, maxLocals := 4, code := prog_1_method_23_code, exceptionTable := #[], attributes := #[] }
def k2m21 : Method := { name := "establish", desc := "(III)V", sig := { parameters := [.int, .int, .int], returnType := none }, accessFlags := 2, code := some k2c21 }
def k2c22 : Code := { maxStack := 3, maxLocals := 5, code := prog_1_method_24_code, exceptionTable := #[], attributes := #[] }
def k2m22 : Method := { name := "zeroWords", desc := "(II)V", sig := { parameters := [.int, .int], returnType := none }, accessFlags := 2, code := some k2c22 }
def k2c23 : Code := { maxStack := 4, maxLocals := 5, code := prog_1_method_25_code, exceptionTable := #[], attributes := #[] }
def k2m23 : Method := { name := "copyWords", desc := "(III)V", sig := { parameters := [.int, .int, .int], returnType := none }, accessFlags := 2, code := some k2c23 }
def k2c24 : Code := { maxStack := 4, maxLocals := 3, code := prog_1_method_26_code, exceptionTable := #[], attributes := #[] }
def k2m24 : Method := { name := "copyOne", desc := "(II)V", sig := { parameters := [.int, .int], returnType := none }, accessFlags := 2, code := some k2c24 }
def k2c25 : Code := { maxStack := 3, maxLocals := 2, code := prog_1_method_27_code, exceptionTable := #[], attributes := #[] }
def k2m25 : Method := { name := "clearMark", desc := "()V", sig := { parameters := [], returnType := none }, accessFlags := 2, code := some k2c25 }
def k2c26 : Code := { maxStack := 3, maxLocals := 6, code := prog_1_method_28_code, exceptionTable := #[], attributes := #[] }
def k2m26 : Method := { name := "markBlock", desc := "(I)V", sig := { parameters := [.int], returnType := none }, accessFlags := 2, code := some k2c26 }
def k2c27 : Code := { maxStack := 2, maxLocals := 2, code := prog_1_method_29_code, exceptionTable := #[], attributes := #[] }
def k2m27 : Method := { name := "markLive", desc := "()V", sig := { parameters := [], returnType := none }, accessFlags := 2, code := some k2c27 }
def k2c28 : Code := { maxStack := 2, maxLocals := 4, code := prog_1_method_30_code, exceptionTable := #[], attributes := #[] }
def k2m28 : Method := { name := "firstRun", desc := "(I)I", sig := { parameters := [.int], returnType := some .int }, accessFlags := 2, code := some k2c28 }
def k2c29 : Code := { maxStack := 2, maxLocals := 2, code := prog_1_method_31_code, exceptionTable := #[], attributes := #[] }
def k2m29 : Method := { name := "fit", desc := "(I)I", sig := { parameters := [.int], returnType := some .int }, accessFlags := 2, code := some k2c29 }
def k2c30 : Code := { maxStack := 2, maxLocals := 4, code := prog_1_method_32_code, exceptionTable := #[], attributes := #[] }
def k2m30 : Method := { name := "rangeFree", desc := "(II)Z", sig := { parameters := [.int, .int], returnType := some .boolean }, accessFlags := 2, code := some k2c30 }
def k2c31 : Code := { maxStack := 3, maxLocals := 4, code := prog_1_method_33_code, exceptionTable := #[], attributes := #[] }
def k2m31 : Method := { name := "compactRun", desc := "(I)V", sig := { parameters := [.int], returnType := none }, accessFlags := 2, code := some k2c31 }
def k2c32 : Code := { maxStack := 3, maxLocals := 6, code := prog_1_method_34_code, exceptionTable := #[], attributes := #[] }
def k2m32 : Method := { name := "sortOrder", desc := "(I)V", sig := { parameters := [.int], returnType := none }, accessFlags := 2, code := some k2c32 }
def k2c33 : Code := { maxStack := 4, maxLocals := 4, code := prog_1_method_35_code, exceptionTable := #[], attributes := #[] }
def k2m33 : Method := { name := "moveBlock", desc := "(I)V", sig := { parameters := [.int], returnType := none }, accessFlags := 2, code := some k2c33 }
def k2c34 : Code := { maxStack := 3, maxLocals := 4, code := prog_1_method_36_code, exceptionTable := #[], attributes := #[] }
def k2m34 : Method := { name := "victim", desc := "(I)I", sig := { parameters := [.int], returnType := some .int }, accessFlags := 2, code := some k2c34 }
def k2c35 : Code := { maxStack := 2, maxLocals := 6, code := prog_1_method_37_code, exceptionTable := #[], attributes := #[] }
def k2m35 : Method := { name := "alloc", desc := "(II)I", sig := { parameters := [.int, .int], returnType := some .int }, accessFlags := 2, code := some k2c35 }
/-- HandleHeap -/
def k2 : Class := { plain "HandleHeap" (some 0) with
  accessFlags := 49
  interfaces := #[]
  cf := some (fileOf pool2 8 #[] #[{ accessFlags := 1, nameIndex := 5, descriptorIndex := 78, attributes := #[] }, { accessFlags := 1, nameIndex := 148, descriptorIndex := 67, attributes := #[] }, { accessFlags := 1, nameIndex := 149, descriptorIndex := 67, attributes := #[] }, { accessFlags := 1, nameIndex := 150, descriptorIndex := 55, attributes := #[] }, { accessFlags := 1, nameIndex := 151, descriptorIndex := 55, attributes := #[] }, { accessFlags := 1, nameIndex := 152, descriptorIndex := 67, attributes := #[] }, { accessFlags := 1, nameIndex := 153, descriptorIndex := 67, attributes := #[] }, { accessFlags := 1, nameIndex := 154, descriptorIndex := 155, attributes := #[] }, { accessFlags := 1, nameIndex := 156, descriptorIndex := 55, attributes := #[] }, { accessFlags := 1, nameIndex := 157, descriptorIndex := 158, attributes := #[] }, { accessFlags := 1, nameIndex := 159, descriptorIndex := 88, attributes := #[] }, { accessFlags := 1, nameIndex := 160, descriptorIndex := 67, attributes := #[] }, { accessFlags := 1, nameIndex := 161, descriptorIndex := 67, attributes := #[] }, { accessFlags := 1, nameIndex := 162, descriptorIndex := 67, attributes := #[] }, { accessFlags := 1, nameIndex := 163, descriptorIndex := 67, attributes := #[] }, { accessFlags := 1, nameIndex := 87, descriptorIndex := 88, attributes := #[] }, { accessFlags := 2, nameIndex := 62, descriptorIndex := 63, attributes := #[] }, { accessFlags := 2, nameIndex := 66, descriptorIndex := 67, attributes := #[] }, { accessFlags := 2, nameIndex := 70, descriptorIndex := 51, attributes := #[] }, { accessFlags := 2, nameIndex := 50, descriptorIndex := 51, attributes := #[] }, { accessFlags := 2, nameIndex := 118, descriptorIndex := 51, attributes := #[] }, { accessFlags := 2, nameIndex := 58, descriptorIndex := 59, attributes := #[] }, { accessFlags := 2, nameIndex := 77, descriptorIndex := 78, attributes := #[] }, { accessFlags := 2, nameIndex := 81, descriptorIndex := 59, attributes := #[] }, { accessFlags := 2, nameIndex := 94, descriptorIndex := 78, attributes := #[] }, { accessFlags := 2, nameIndex := 97, descriptorIndex := 6, attributes := #[] }, { accessFlags := 2, nameIndex := 100, descriptorIndex := 51, attributes := #[] }, { accessFlags := 2, nameIndex := 91, descriptorIndex := 6, attributes := #[] }, { accessFlags := 2, nameIndex := 103, descriptorIndex := 67, attributes := #[] }, { accessFlags := 2, nameIndex := 112, descriptorIndex := 67, attributes := #[] }, { accessFlags := 2, nameIndex := 73, descriptorIndex := 74, attributes := #[] }, { accessFlags := 2, nameIndex := 84, descriptorIndex := 51, attributes := #[] }, { accessFlags := 2, nameIndex := 106, descriptorIndex := 51, attributes := #[] }, { accessFlags := 2, nameIndex := 109, descriptorIndex := 51, attributes := #[] }, { accessFlags := 2, nameIndex := 115, descriptorIndex := 67, attributes := #[] }, { accessFlags := 2, nameIndex := 54, descriptorIndex := 55, attributes := #[] }] 49 2 #[] #[{ accessFlags := 25, nameIndex := 119, descriptorIndex := 41, attributes := #[] }, { accessFlags := 25, nameIndex := 122, descriptorIndex := 41, attributes := #[] }, { accessFlags := 25, nameIndex := 124, descriptorIndex := 41, attributes := #[] }, { accessFlags := 25, nameIndex := 126, descriptorIndex := 41, attributes := #[] }, { accessFlags := 25, nameIndex := 128, descriptorIndex := 41, attributes := #[] }, { accessFlags := 25, nameIndex := 130, descriptorIndex := 41, attributes := #[] }, { accessFlags := 25, nameIndex := 132, descriptorIndex := 41, attributes := #[] }, { accessFlags := 25, nameIndex := 134, descriptorIndex := 41, attributes := #[] }, { accessFlags := 25, nameIndex := 136, descriptorIndex := 41, attributes := #[] }, { accessFlags := 25, nameIndex := 138, descriptorIndex := 41, attributes := #[] }, { accessFlags := 25, nameIndex := 139, descriptorIndex := 41, attributes := #[] }, { accessFlags := 25, nameIndex := 141, descriptorIndex := 41, attributes := #[] }, { accessFlags := 25, nameIndex := 143, descriptorIndex := 41, attributes := #[] }, { accessFlags := 25, nameIndex := 144, descriptorIndex := 41, attributes := #[] }, { accessFlags := 2, nameIndex := 40, descriptorIndex := 41, attributes := #[] }, { accessFlags := 2, nameIndex := 44, descriptorIndex := 41, attributes := #[] }, { accessFlags := 2, nameIndex := 47, descriptorIndex := 41, attributes := #[] }, { accessFlags := 2, nameIndex := 11, descriptorIndex := 12, attributes := #[] }, { accessFlags := 2, nameIndex := 15, descriptorIndex := 16, attributes := #[] }, { accessFlags := 2, nameIndex := 19, descriptorIndex := 12, attributes := #[] }, { accessFlags := 2, nameIndex := 22, descriptorIndex := 12, attributes := #[] }, { accessFlags := 2, nameIndex := 25, descriptorIndex := 12, attributes := #[] }, { accessFlags := 2, nameIndex := 28, descriptorIndex := 12, attributes := #[] }, { accessFlags := 2, nameIndex := 31, descriptorIndex := 12, attributes := #[] }, { accessFlags := 2, nameIndex := 34, descriptorIndex := 16, attributes := #[] }, { accessFlags := 2, nameIndex := 37, descriptorIndex := 16, attributes := #[] }])
  fields := #[{ name := "OK", type := .int, accessFlags := 25, slot := 0, constantValue := 0 }, { name := "ERR_HANDLE", type := .int, accessFlags := 25, slot := 1, constantValue := 0 }, { name := "ERR_SIZE", type := .int, accessFlags := 25, slot := 2, constantValue := 0 }, { name := "ERR_INDEX", type := .int, accessFlags := 25, slot := 3, constantValue := 0 }, { name := "ERR_PURGED", type := .int, accessFlags := 25, slot := 4, constantValue := 0 }, { name := "ERR_LOCKED", type := .int, accessFlags := 25, slot := 5, constantValue := 0 }, { name := "ERR_NO_MEMORY", type := .int, accessFlags := 25, slot := 6, constantValue := 0 }, { name := "ERR_NO_HANDLE", type := .int, accessFlags := 25, slot := 7, constantValue := 0 }, { name := "ERR_NOT_EMPTY", type := .int, accessFlags := 25, slot := 8, constantValue := 0 }, { name := "STATE_FREE", type := .int, accessFlags := 25, slot := 9, constantValue := 0 }, { name := "STATE_LIVE", type := .int, accessFlags := 25, slot := 10, constantValue := 0 }, { name := "STATE_EMPTY", type := .int, accessFlags := 25, slot := 11, constantValue := 0 }, { name := "FLAG_LOCKED", type := .int, accessFlags := 25, slot := 12, constantValue := 0 }, { name := "FLAG_PURGEABLE", type := .int, accessFlags := 25, slot := 13, constantValue := 0 }, { name := "hw", type := .int, accessFlags := 2, slot := 0, constantValue := 0 }, { name := "nh", type := .int, accessFlags := 2, slot := 1, constantValue := 0 }, { name := "clock", type := .int, accessFlags := 2, slot := 2, constantValue := 0 }, { name := "heap", type := (.array .int), accessFlags := 2, slot := 3, constantValue := 0 }, { name := "mark", type := (.array .boolean), accessFlags := 2, slot := 4, constantValue := 0 }, { name := "state", type := (.array .int), accessFlags := 2, slot := 5, constantValue := 0 }, { name := "addr", type := (.array .int), accessFlags := 2, slot := 6, constantValue := 0 }, { name := "size", type := (.array .int), accessFlags := 2, slot := 7, constantValue := 0 }, { name := "stamp", type := (.array .int), accessFlags := 2, slot := 8, constantValue := 0 }, { name := "order", type := (.array .int), accessFlags := 2, slot := 9, constantValue := 0 }, { name := "locked", type := (.array .boolean), accessFlags := 2, slot := 10, constantValue := 0 }, { name := "purg", type := (.array .boolean), accessFlags := 2, slot := 11, constantValue := 0 }]
  methods := #[k2m0, k2m1, k2m2, k2m3, k2m4, k2m5, k2m6, k2m7, k2m8, k2m9, k2m10, k2m11, k2m12, k2m13, k2m14, k2m15, k2m16, k2m17, k2m18, k2m19, k2m20, k2m21, k2m22, k2m23, k2m24, k2m25, k2m26, k2m27, k2m28, k2m29, k2m30, k2m31, k2m32, k2m33, k2m34, k2m35]
  instanceTypes := #[.int, .int, .int, (.array .int), (.array .boolean), (.array .int), (.array .int), (.array .int), (.array .int), (.array .int), (.array .boolean), (.array .boolean)]
  staticTypes := #[.int, .int, .int, .int, .int, .int, .int, .int, .int, .int, .int, .int, .int, .int]
  resolved := Array.replicate 167 none
  statics := none }

def pool3 : Array CpInfo := pool [(1, u "java/lang/Cloneable"), (0, .class_ 1), (0, u "java/lang/Object"), (0, .class_ 3)] 3

/-- java/lang/Cloneable -/
def k3 : Class := { plain "java/lang/Cloneable" (some 0) with
  accessFlags := 1537
  interfaces := #[]
  cf := some (fileOf pool3 2 #[] #[] 1537 4 #[] #[])
  fields := #[]
  methods := #[]
  instanceTypes := #[]
  staticTypes := #[]
  resolved := Array.replicate 8 none
  statics := none }

def pool4 : Array CpInfo := pool [(1, u "java/io/Serializable"), (0, .class_ 1), (0, u "java/lang/Object"), (0, .class_ 3)] 3

/-- java/io/Serializable -/
def k4 : Class := { plain "java/io/Serializable" (some 0) with
  accessFlags := 1537
  interfaces := #[]
  cf := some (fileOf pool4 2 #[] #[] 1537 4 #[] #[])
  fields := #[]
  methods := #[]
  instanceTypes := #[]
  staticTypes := #[]
  resolved := Array.replicate 8 none
  statics := none }

/-- the primitive boolean -/
def k5 : Class := { plain "boolean" none with kind := .primitive 'Z', accessFlags := 0x411 }
/-- [Z -/
def k6 : Class := { plain "[Z" (some 0) with kind := .array 5 .boolean, interfaces := #[3, 4], accessFlags := 1041 }

/-- the primitive byte -/
def k7 : Class := { plain "byte" none with kind := .primitive 'B', accessFlags := 0x411 }
/-- [B -/
def k8 : Class := { plain "[B" (some 0) with kind := .array 7 .byte, interfaces := #[3, 4], accessFlags := 1041 }

/-- the primitive int -/
def k9 : Class := { plain "int" none with kind := .primitive 'I', accessFlags := 0x411 }
/-- [I -/
def k10 : Class := { plain "[I" (some 0) with kind := .array 9 .int, interfaces := #[3, 4], accessFlags := 1041 }

def heap : Heap := #[{ cls := 10, slots := #[.int 1, .int 2, .int 3], vm := .none }]
def classes : Array Class := #[k0, k1, k2, k3, k4, k5, k6, k7, k8, k9, k10]
def interned : List (Array UInt16 × Addr) := []
def slotsUsed : Nat := 3
def theMethod : MethodId := ⟨1, 5⟩
def args0 : Array Value := #[.ref 0]
def aboutOver (below : List Frame) : State where
  vm := { classes := classes, interned := interned.toArray }
  heap := heap
  slotsUsed := slotsUsed
  threads := #[{ frames := .invoking theMethod args0 :: below }]
def below0 : List Frame := [.native { method := ⟨0, 0⟩, args := #[] }]
def about1 : State := aboutOver below0
def p0 : Program := .bare "" "" ""
def e0 : Env := launch0.env 0 0 0
theorem w_frames : about1.frames = Frame.invoking theMethod args0 :: below0 := rfl
set_option maxRecDepth 65536 in
theorem w_args : argsFit about1.vm theMethod args0 = true := by decide +kernel
set_option maxRecDepth 65536 in
theorem w_heap : heapFits about1 = true := by decide +kernel
set_option maxRecDepth 65536 in
theorem w_runnable : about1.curStatus? = some .runnable := by decide +kernel
set_option maxRecDepth 65536 in
theorem w_alone : about1.alone = true := by decide +kernel
set_option maxRecDepth 65536 in
theorem w_named : about1.methodNamed? x = some theMethod := by decide +kernel
set_option maxRecDepth 65536 in
theorem w_hears : about1.hears theMethod below0 = true := by decide +kernel
set_option maxRecDepth 65536 in
theorem w_ripe : about1.ripe theMethod args0 below0 = true := by decide +kernel
theorem w_running : about1.status = .running := rfl
set_option maxRecDepth 65536 in
theorem w_room : about1.hasRoom e0.platform room_1 = true :=
  launch0.hasRoom_least _ room_1 (by decide +kernel) (by decide +kernel) (by decide +kernel) (by decide +kernel) (by decide +kernel) (by decide +kernel)
theorem allAtoms_all (ts : List Jvm.Cond) (a : Array Jvm.Value) (st : Jvm.State) : (allAtoms ts).before a st = ts.all (fun c => c.before a st) := by
  induction ts with
  | nil => rfl
  | cons c t ih =>
    show (Jvm.Cond.and c (allAtoms t)).before a st = _
    rw [Jvm.Cond.before_and, ih, List.all_cons]
def words1 : List Jvm.Cond := Jvm.Cond.code x code maxLocals ret :: tables_1
/-- a 'code' word, met by the world's own term for the bytes: nothing is compared byte by byte -/
theorem code_word {y : MethodName} {bytes : ByteArray} {mx : Nat} {rt : Option FieldType} {a : Array Value} {s : State} {m : MethodId} {meth : Method} {c : Code} (h1 : s.methodNamed? y = some m) (h2 : s.vm.method? m = some meth) (h3 : meth.code = some c) (h4 : c.code = bytes)
    (h5 : (c.maxLocals == mx && c.exceptionTable.isEmpty && decide (c.maxStack ≤ mostOperands) && decide (meth.sig.returnType = rt) && !meth.locks && decide (parseMethodDescriptor y.desc = some meth.sig)) = true) : (Jvm.Cond.code y bytes mx rt).before a s = true := by
  simp only [Bool.and_eq_true, beq_iff_eq, Bool.not_eq_true', decide_eq_true_eq] at h5
  obtain ⟨⟨⟨⟨⟨g1, g2⟩, g3⟩, g4⟩, g5⟩, g6⟩ := h5
  simp [Cond.before, Cond.holds, Cond.value, h1, h2, h3, h4, g1, g2, g3, g4, g5, g6]
def isCode : Jvm.Cond → Bool
  | .code _ _ _ _ => true
  | _ => false
theorem all_split {L : List Jvm.Cond} {P : Jvm.Cond → Bool} (h1 : L.all (fun c => isCode c || P c) = true) (h2 : ∀ c ∈ L.filter isCode, P c = true) : L.all P = true := by
  refine List.all_eq_true.mpr fun c hc => ?_
  have h := List.all_eq_true.mp h1 c hc
  rcases Bool.eq_false_or_eq_true (isCode c) with hi | hi
  · exact h2 c (List.mem_filter.mpr ⟨hc, hi⟩)
  · simpa [hi] using h
set_option maxRecDepth 65536 in
theorem w_c0 : (Jvm.Cond.code x code maxLocals ret).before args0 about1 = true := code_word (m := ⟨1, 5⟩) (meth := k1m5) (c := k1c5) (by decide +kernel) rfl rfl rfl (by decide +kernel)
set_option maxRecDepth 65536 in
theorem w_c1 : (Jvm.Cond.code ({ cls := "HandleHeapOwnLaw", name := "cell", desc := "([II)I" } : Jvm.MethodName) method_2_code (2 : Nat) (Option.some Jvm.ClassFile.FieldType.int)).before args0 about1 = true := code_word (m := ⟨1, 1⟩) (meth := k1m1) (c := k1c1) (by decide +kernel) rfl rfl rfl (by decide +kernel)
set_option maxRecDepth 65536 in
theorem w_c2 : (Jvm.Cond.code ({ cls := "HandleHeap", name := "<init>", desc := "(II)V" } : Jvm.MethodName) prog_1_method_1_code (6 : Nat) (Option.none : Option Jvm.ClassFile.FieldType)).before args0 about1 = true := code_word (m := ⟨2, 0⟩) (meth := k2m0) (c := k2c0) (by decide +kernel) rfl rfl rfl (by decide +kernel)
set_option maxRecDepth 65536 in
theorem w_c3 : (Jvm.Cond.code ({ cls := "java/lang/Object", name := "<init>", desc := "()V" } : Jvm.MethodName) object_method_1_code (1 : Nat) (Option.none : Option Jvm.ClassFile.FieldType)).before args0 about1 = true := code_word (m := ⟨0, 0⟩) (meth := k0m0) (c := k0c0) (by decide +kernel) rfl rfl rfl (by decide +kernel)
set_option maxRecDepth 65536 in
theorem w_c4 : (Jvm.Cond.code ({ cls := "HandleHeap", name := "clearHandle", desc := "(I)V" } : Jvm.MethodName) prog_1_method_21_code (2 : Nat) (Option.none : Option Jvm.ClassFile.FieldType)).before args0 about1 = true := code_word (m := ⟨2, 19⟩) (meth := k2m19) (c := k2c19) (by decide +kernel) rfl rfl rfl (by decide +kernel)
set_option maxRecDepth 65536 in
theorem w_c5 : (Jvm.Cond.code ({ cls := "HandleHeap", name := "getState", desc := "(I)I" } : Jvm.MethodName) prog_1_method_12_code (2 : Nat) (Option.some Jvm.ClassFile.FieldType.int)).before args0 about1 = true := code_word (m := ⟨2, 11⟩) (meth := k2m11) (c := k2c11) (by decide +kernel) rfl rfl rfl (by decide +kernel)
set_option maxRecDepth 65536 in
theorem w_c6 : (Jvm.Cond.code ({ cls := "HandleHeap", name := "valid", desc := "(I)Z" } : Jvm.MethodName) prog_1_method_18_code (2 : Nat) (Option.some Jvm.ClassFile.FieldType.boolean)).before args0 about1 = true := code_word (m := ⟨2, 16⟩) (meth := k2m16) (c := k2c16) (by decide +kernel) rfl rfl rfl (by decide +kernel)
set_option maxRecDepth 65536 in
theorem w_c7 : (Jvm.Cond.code ({ cls := "HandleHeapOwnLaw", name := "pick", desc := "(IIIII)I" } : Jvm.MethodName) method_3_code (5 : Nat) (Option.some Jvm.ClassFile.FieldType.int)).before args0 about1 = true := code_word (m := ⟨1, 2⟩) (meth := k1m2) (c := k1c2) (by decide +kernel) rfl rfl rfl (by decide +kernel)
set_option maxRecDepth 65536 in
theorem w_c8 : (Jvm.Cond.code ({ cls := "HandleHeap", name := "getSize", desc := "(I)I" } : Jvm.MethodName) prog_1_method_13_code (2 : Nat) (Option.some Jvm.ClassFile.FieldType.int)).before args0 about1 = true := code_word (m := ⟨2, 12⟩) (meth := k2m12) (c := k2c12) (by decide +kernel) rfl rfl rfl (by decide +kernel)
set_option maxRecDepth 65536 in
theorem w_c9 : (Jvm.Cond.code ({ cls := "HandleHeap", name := "setSize", desc := "(II)I" } : Jvm.MethodName) prog_1_method_4_code (8 : Nat) (Option.some Jvm.ClassFile.FieldType.int)).before args0 about1 = true := code_word (m := ⟨2, 3⟩) (meth := k2m3) (c := k2c3) (by decide +kernel) rfl rfl rfl (by decide +kernel)
set_option maxRecDepth 65536 in
theorem w_c10 : (Jvm.Cond.code ({ cls := "HandleHeap", name := "check", desc := "(I)I" } : Jvm.MethodName) prog_1_method_19_code (2 : Nat) (Option.some Jvm.ClassFile.FieldType.int)).before args0 about1 = true := code_word (m := ⟨2, 17⟩) (meth := k2m17) (c := k2c17) (by decide +kernel) rfl rfl rfl (by decide +kernel)
set_option maxRecDepth 65536 in
theorem w_c11 : (Jvm.Cond.code ({ cls := "HandleHeap", name := "newHandle", desc := "(I)I" } : Jvm.MethodName) prog_1_method_2_code (4 : Nat) (Option.some Jvm.ClassFile.FieldType.int)).before args0 about1 = true := code_word (m := ⟨2, 1⟩) (meth := k2m1) (c := k2c1) (by decide +kernel) rfl rfl rfl (by decide +kernel)
set_option maxRecDepth 65536 in
theorem w_c12 : (Jvm.Cond.code ({ cls := "HandleHeap", name := "alloc", desc := "(II)I" } : Jvm.MethodName) prog_1_method_37_code (6 : Nat) (Option.some Jvm.ClassFile.FieldType.int)).before args0 about1 = true := code_word (m := ⟨2, 35⟩) (meth := k2m35) (c := k2c35) (by decide +kernel) rfl rfl rfl (by decide +kernel)
set_option maxRecDepth 65536 in
theorem w_c13 : (Jvm.Cond.code ({ cls := "HandleHeap", name := "fit", desc := "(I)I" } : Jvm.MethodName) prog_1_method_31_code (2 : Nat) (Option.some Jvm.ClassFile.FieldType.int)).before args0 about1 = true := code_word (m := ⟨2, 29⟩) (meth := k2m29) (c := k2c29) (by decide +kernel) rfl rfl rfl (by decide +kernel)
set_option maxRecDepth 65536 in
theorem w_c14 : (Jvm.Cond.code ({ cls := "HandleHeap", name := "markLive", desc := "()V" } : Jvm.MethodName) prog_1_method_29_code (2 : Nat) (Option.none : Option Jvm.ClassFile.FieldType)).before args0 about1 = true := code_word (m := ⟨2, 27⟩) (meth := k2m27) (c := k2c27) (by decide +kernel) rfl rfl rfl (by decide +kernel)
set_option maxRecDepth 65536 in
theorem w_c15 : (Jvm.Cond.code ({ cls := "HandleHeap", name := "clearMark", desc := "()V" } : Jvm.MethodName) prog_1_method_27_code (2 : Nat) (Option.none : Option Jvm.ClassFile.FieldType)).before args0 about1 = true := code_word (m := ⟨2, 25⟩) (meth := k2m25) (c := k2c25) (by decide +kernel) rfl rfl rfl (by decide +kernel)
set_option maxRecDepth 65536 in
theorem w_c16 : (Jvm.Cond.code ({ cls := "HandleHeap", name := "firstRun", desc := "(I)I" } : Jvm.MethodName) prog_1_method_30_code (4 : Nat) (Option.some Jvm.ClassFile.FieldType.int)).before args0 about1 = true := code_word (m := ⟨2, 28⟩) (meth := k2m28) (c := k2c28) (by decide +kernel) rfl rfl rfl (by decide +kernel)
set_option maxRecDepth 65536 in
theorem w_c17 : (Jvm.Cond.code ({ cls := "HandleHeap", name := "establish", desc := "(III)V" } : Jvm.MethodName) prog_1_method_23_code (4 : Nat) (Option.none : Option Jvm.ClassFile.FieldType)).before args0 about1 = true := code_word (m := ⟨2, 21⟩) (meth := k2m21) (c := k2c21) (by decide +kernel) rfl rfl rfl (by decide +kernel)
set_option maxRecDepth 65536 in
theorem w_c18 : (Jvm.Cond.code ({ cls := "HandleHeap", name := "zeroWords", desc := "(II)V" } : Jvm.MethodName) prog_1_method_24_code (5 : Nat) (Option.none : Option Jvm.ClassFile.FieldType)).before args0 about1 = true := code_word (m := ⟨2, 22⟩) (meth := k2m22) (c := k2c22) (by decide +kernel) rfl rfl rfl (by decide +kernel)
set_option maxRecDepth 65536 in
theorem w_c19 : (Jvm.Cond.code ({ cls := "HandleHeap", name := "touch", desc := "(I)V" } : Jvm.MethodName) prog_1_method_20_code (2 : Nat) (Option.none : Option Jvm.ClassFile.FieldType)).before args0 about1 = true := code_word (m := ⟨2, 18⟩) (meth := k2m18) (c := k2c18) (by decide +kernel) rfl rfl rfl (by decide +kernel)
set_option maxRecDepth 65536 in
theorem w_c20 : (Jvm.Cond.code ({ cls := "HandleHeap", name := "getAddress", desc := "(I)I" } : Jvm.MethodName) prog_1_method_14_code (2 : Nat) (Option.some Jvm.ClassFile.FieldType.int)).before args0 about1 = true := code_word (m := ⟨2, 13⟩) (meth := k2m13) (c := k2c13) (by decide +kernel) rfl rfl rfl (by decide +kernel)
set_option maxRecDepth 65536 in
theorem w_c21 : (Jvm.Cond.code ({ cls := "HandleHeap", name := "getFlags", desc := "(I)I" } : Jvm.MethodName) prog_1_method_15_code (3 : Nat) (Option.some Jvm.ClassFile.FieldType.int)).before args0 about1 = true := code_word (m := ⟨2, 14⟩) (meth := k2m14) (c := k2c14) (by decide +kernel) rfl rfl rfl (by decide +kernel)
set_option maxRecDepth 65536 in
theorem w_c22 : (Jvm.Cond.code ({ cls := "HandleHeap", name := "markBlock", desc := "(I)V" } : Jvm.MethodName) prog_1_method_28_code (6 : Nat) (Option.none : Option Jvm.ClassFile.FieldType)).before args0 about1 = true := code_word (m := ⟨2, 26⟩) (meth := k2m26) (c := k2c26) (by decide +kernel) rfl rfl rfl (by decide +kernel)
set_option maxRecDepth 65536 in
theorem w_c23 : (Jvm.Cond.code ({ cls := "HandleHeapOwnLaw", name := "mix", desc := "(II)I" } : Jvm.MethodName) method_4_code (2 : Nat) (Option.some Jvm.ClassFile.FieldType.int)).before args0 about1 = true := code_word (m := ⟨1, 3⟩) (meth := k1m3) (c := k1c3) (by decide +kernel) rfl rfl rfl (by decide +kernel)
set_option maxRecDepth 65536 in
theorem w_c24 : (Jvm.Cond.code ({ cls := "HandleHeap", name := "write", desc := "(III)I" } : Jvm.MethodName) prog_1_method_10_code (6 : Nat) (Option.some Jvm.ClassFile.FieldType.int)).before args0 about1 = true := code_word (m := ⟨2, 9⟩) (meth := k2m9) (c := k2c9) (by decide +kernel) rfl rfl rfl (by decide +kernel)
set_option maxRecDepth 65536 in
theorem w_c25 : (Jvm.Cond.code ({ cls := "HandleHeap", name := "rangeFree", desc := "(II)Z" } : Jvm.MethodName) prog_1_method_32_code (4 : Nat) (Option.some Jvm.ClassFile.FieldType.boolean)).before args0 about1 = true := code_word (m := ⟨2, 30⟩) (meth := k2m30) (c := k2c30) (by decide +kernel) rfl rfl rfl (by decide +kernel)
set_option maxRecDepth 65536 in
theorem w_c26 : (Jvm.Cond.code ({ cls := "HandleHeap", name := "copyWords", desc := "(III)V" } : Jvm.MethodName) prog_1_method_25_code (5 : Nat) (Option.none : Option Jvm.ClassFile.FieldType)).before args0 about1 = true := code_word (m := ⟨2, 23⟩) (meth := k2m23) (c := k2c23) (by decide +kernel) rfl rfl rfl (by decide +kernel)
set_option maxRecDepth 65536 in
theorem w_c27 : (Jvm.Cond.code ({ cls := "HandleHeap", name := "copyOne", desc := "(II)V" } : Jvm.MethodName) prog_1_method_26_code (3 : Nat) (Option.none : Option Jvm.ClassFile.FieldType)).before args0 about1 = true := code_word (m := ⟨2, 24⟩) (meth := k2m24) (c := k2c24) (by decide +kernel) rfl rfl rfl (by decide +kernel)
set_option maxRecDepth 65536 in
theorem w_c28 : (Jvm.Cond.code ({ cls := "HandleHeap", name := "read", desc := "(II)I" } : Jvm.MethodName) prog_1_method_9_code (4 : Nat) (Option.some Jvm.ClassFile.FieldType.int)).before args0 about1 = true := code_word (m := ⟨2, 8⟩) (meth := k2m8) (c := k2c8) (by decide +kernel) rfl rfl rfl (by decide +kernel)
set_option maxRecDepth 65536 in
theorem w_c29 : (Jvm.Cond.code ({ cls := "HandleHeapOwnLaw", name := "expect", desc := "(II)I" } : Jvm.MethodName) method_5_code (3 : Nat) (Option.some Jvm.ClassFile.FieldType.int)).before args0 about1 = true := code_word (m := ⟨1, 4⟩) (meth := k1m4) (c := k1c4) (by decide +kernel) rfl rfl rfl (by decide +kernel)
set_option maxRecDepth 65536 in
theorem w_c30 : (Jvm.Cond.code ({ cls := "HandleHeap", name := "setPurgeable", desc := "(IZ)I" } : Jvm.MethodName) prog_1_method_8_code (4 : Nat) (Option.some Jvm.ClassFile.FieldType.int)).before args0 about1 = true := code_word (m := ⟨2, 7⟩) (meth := k2m7) (c := k2c7) (by decide +kernel) rfl rfl rfl (by decide +kernel)
set_option maxRecDepth 65536 in
theorem w_c31 : (Jvm.Cond.code ({ cls := "HandleHeap", name := "unlock", desc := "(I)I" } : Jvm.MethodName) prog_1_method_7_code (3 : Nat) (Option.some Jvm.ClassFile.FieldType.int)).before args0 about1 = true := code_word (m := ⟨2, 6⟩) (meth := k2m6) (c := k2c6) (by decide +kernel) rfl rfl rfl (by decide +kernel)
set_option maxRecDepth 65536 in
theorem w_c32 : (Jvm.Cond.code ({ cls := "HandleHeap", name := "compact", desc := "()I" } : Jvm.MethodName) prog_1_method_11_code (1 : Nat) (Option.some Jvm.ClassFile.FieldType.int)).before args0 about1 = true := code_word (m := ⟨2, 10⟩) (meth := k2m10) (c := k2c10) (by decide +kernel) rfl rfl rfl (by decide +kernel)
set_option maxRecDepth 65536 in
theorem w_c33 : (Jvm.Cond.code ({ cls := "HandleHeap", name := "compactRun", desc := "(I)V" } : Jvm.MethodName) prog_1_method_33_code (4 : Nat) (Option.none : Option Jvm.ClassFile.FieldType)).before args0 about1 = true := code_word (m := ⟨2, 31⟩) (meth := k2m31) (c := k2c31) (by decide +kernel) rfl rfl rfl (by decide +kernel)
set_option maxRecDepth 65536 in
theorem w_c34 : (Jvm.Cond.code ({ cls := "HandleHeap", name := "sortOrder", desc := "(I)V" } : Jvm.MethodName) prog_1_method_34_code (6 : Nat) (Option.none : Option Jvm.ClassFile.FieldType)).before args0 about1 = true := code_word (m := ⟨2, 32⟩) (meth := k2m32) (c := k2c32) (by decide +kernel) rfl rfl rfl (by decide +kernel)
set_option maxRecDepth 65536 in
theorem w_c35 : (Jvm.Cond.code ({ cls := "HandleHeap", name := "moveBlock", desc := "(I)V" } : Jvm.MethodName) prog_1_method_35_code (4 : Nat) (Option.none : Option Jvm.ClassFile.FieldType)).before args0 about1 = true := code_word (m := ⟨2, 33⟩) (meth := k2m33) (c := k2c33) (by decide +kernel) rfl rfl rfl (by decide +kernel)
set_option maxRecDepth 65536 in
theorem w_c36 : (Jvm.Cond.code ({ cls := "HandleHeap", name := "largestFree", desc := "()I" } : Jvm.MethodName) prog_1_method_17_code (4 : Nat) (Option.some Jvm.ClassFile.FieldType.int)).before args0 about1 = true := code_word (m := ⟨2, 15⟩) (meth := k2m15) (c := k2c15) (by decide +kernel) rfl rfl rfl (by decide +kernel)
set_option maxRecDepth 65536 in
theorem w_c37 : (Jvm.Cond.code ({ cls := "HandleHeap", name := "dispose", desc := "(I)I" } : Jvm.MethodName) prog_1_method_3_code (2 : Nat) (Option.some Jvm.ClassFile.FieldType.int)).before args0 about1 = true := code_word (m := ⟨2, 2⟩) (meth := k2m2) (c := k2c2) (by decide +kernel) rfl rfl rfl (by decide +kernel)
set_option maxRecDepth 65536 in
theorem w_c38 : (Jvm.Cond.code ({ cls := "HandleHeap", name := "lock", desc := "(I)I" } : Jvm.MethodName) prog_1_method_6_code (3 : Nat) (Option.some Jvm.ClassFile.FieldType.int)).before args0 about1 = true := code_word (m := ⟨2, 5⟩) (meth := k2m5) (c := k2c5) (by decide +kernel) rfl rfl rfl (by decide +kernel)
set_option maxRecDepth 65536 in
theorem w_c39 : (Jvm.Cond.code ({ cls := "HandleHeap", name := "reallocHandle", desc := "(II)I" } : Jvm.MethodName) prog_1_method_5_code (4 : Nat) (Option.some Jvm.ClassFile.FieldType.int)).before args0 about1 = true := code_word (m := ⟨2, 4⟩) (meth := k2m4) (c := k2c4) (by decide +kernel) rfl rfl rfl (by decide +kernel)
set_option maxRecDepth 65536 in
theorem w_c40 : (Jvm.Cond.code ({ cls := "HandleHeap", name := "victim", desc := "(I)I" } : Jvm.MethodName) prog_1_method_36_code (4 : Nat) (Option.some Jvm.ClassFile.FieldType.int)).before args0 about1 = true := code_word (m := ⟨2, 34⟩) (meth := k2m34) (c := k2c34) (by decide +kernel) rfl rfl rfl (by decide +kernel)
set_option maxRecDepth 65536 in
theorem w_c41 : (Jvm.Cond.code ({ cls := "HandleHeap", name := "purge", desc := "(I)V" } : Jvm.MethodName) prog_1_method_22_code (2 : Nat) (Option.none : Option Jvm.ClassFile.FieldType)).before args0 about1 = true := code_word (m := ⟨2, 20⟩) (meth := k2m20) (c := k2c20) (by decide +kernel) rfl rfl rfl (by decide +kernel)
def codes1 : List Jvm.Cond := [Jvm.Cond.code x code maxLocals ret, Jvm.Cond.code ({ cls := "HandleHeapOwnLaw", name := "cell", desc := "([II)I" } : Jvm.MethodName) method_2_code (2 : Nat) (Option.some Jvm.ClassFile.FieldType.int), Jvm.Cond.code ({ cls := "HandleHeap", name := "<init>", desc := "(II)V" } : Jvm.MethodName) prog_1_method_1_code (6 : Nat) (Option.none : Option Jvm.ClassFile.FieldType), Jvm.Cond.code ({ cls := "java/lang/Object", name := "<init>", desc := "()V" } : Jvm.MethodName) object_method_1_code (1 : Nat) (Option.none : Option Jvm.ClassFile.FieldType), Jvm.Cond.code ({ cls := "HandleHeap", name := "clearHandle", desc := "(I)V" } : Jvm.MethodName) prog_1_method_21_code (2 : Nat) (Option.none : Option Jvm.ClassFile.FieldType), Jvm.Cond.code ({ cls := "HandleHeap", name := "getState", desc := "(I)I" } : Jvm.MethodName) prog_1_method_12_code (2 : Nat) (Option.some Jvm.ClassFile.FieldType.int), Jvm.Cond.code ({ cls := "HandleHeap", name := "valid", desc := "(I)Z" } : Jvm.MethodName) prog_1_method_18_code (2 : Nat) (Option.some Jvm.ClassFile.FieldType.boolean), Jvm.Cond.code ({ cls := "HandleHeapOwnLaw", name := "pick", desc := "(IIIII)I" } : Jvm.MethodName) method_3_code (5 : Nat) (Option.some Jvm.ClassFile.FieldType.int), Jvm.Cond.code ({ cls := "HandleHeap", name := "getSize", desc := "(I)I" } : Jvm.MethodName) prog_1_method_13_code (2 : Nat) (Option.some Jvm.ClassFile.FieldType.int), Jvm.Cond.code ({ cls := "HandleHeap", name := "setSize", desc := "(II)I" } : Jvm.MethodName) prog_1_method_4_code (8 : Nat) (Option.some Jvm.ClassFile.FieldType.int), Jvm.Cond.code ({ cls := "HandleHeap", name := "check", desc := "(I)I" } : Jvm.MethodName) prog_1_method_19_code (2 : Nat) (Option.some Jvm.ClassFile.FieldType.int), Jvm.Cond.code ({ cls := "HandleHeap", name := "newHandle", desc := "(I)I" } : Jvm.MethodName) prog_1_method_2_code (4 : Nat) (Option.some Jvm.ClassFile.FieldType.int), Jvm.Cond.code ({ cls := "HandleHeap", name := "alloc", desc := "(II)I" } : Jvm.MethodName) prog_1_method_37_code (6 : Nat) (Option.some Jvm.ClassFile.FieldType.int), Jvm.Cond.code ({ cls := "HandleHeap", name := "fit", desc := "(I)I" } : Jvm.MethodName) prog_1_method_31_code (2 : Nat) (Option.some Jvm.ClassFile.FieldType.int), Jvm.Cond.code ({ cls := "HandleHeap", name := "markLive", desc := "()V" } : Jvm.MethodName) prog_1_method_29_code (2 : Nat) (Option.none : Option Jvm.ClassFile.FieldType), Jvm.Cond.code ({ cls := "HandleHeap", name := "clearMark", desc := "()V" } : Jvm.MethodName) prog_1_method_27_code (2 : Nat) (Option.none : Option Jvm.ClassFile.FieldType), Jvm.Cond.code ({ cls := "HandleHeap", name := "firstRun", desc := "(I)I" } : Jvm.MethodName) prog_1_method_30_code (4 : Nat) (Option.some Jvm.ClassFile.FieldType.int), Jvm.Cond.code ({ cls := "HandleHeap", name := "establish", desc := "(III)V" } : Jvm.MethodName) prog_1_method_23_code (4 : Nat) (Option.none : Option Jvm.ClassFile.FieldType), Jvm.Cond.code ({ cls := "HandleHeap", name := "zeroWords", desc := "(II)V" } : Jvm.MethodName) prog_1_method_24_code (5 : Nat) (Option.none : Option Jvm.ClassFile.FieldType), Jvm.Cond.code ({ cls := "HandleHeap", name := "touch", desc := "(I)V" } : Jvm.MethodName) prog_1_method_20_code (2 : Nat) (Option.none : Option Jvm.ClassFile.FieldType), Jvm.Cond.code ({ cls := "HandleHeap", name := "getAddress", desc := "(I)I" } : Jvm.MethodName) prog_1_method_14_code (2 : Nat) (Option.some Jvm.ClassFile.FieldType.int), Jvm.Cond.code ({ cls := "HandleHeap", name := "getFlags", desc := "(I)I" } : Jvm.MethodName) prog_1_method_15_code (3 : Nat) (Option.some Jvm.ClassFile.FieldType.int), Jvm.Cond.code ({ cls := "HandleHeap", name := "markBlock", desc := "(I)V" } : Jvm.MethodName) prog_1_method_28_code (6 : Nat) (Option.none : Option Jvm.ClassFile.FieldType), Jvm.Cond.code ({ cls := "HandleHeapOwnLaw", name := "mix", desc := "(II)I" } : Jvm.MethodName) method_4_code (2 : Nat) (Option.some Jvm.ClassFile.FieldType.int), Jvm.Cond.code ({ cls := "HandleHeap", name := "write", desc := "(III)I" } : Jvm.MethodName) prog_1_method_10_code (6 : Nat) (Option.some Jvm.ClassFile.FieldType.int), Jvm.Cond.code ({ cls := "HandleHeap", name := "rangeFree", desc := "(II)Z" } : Jvm.MethodName) prog_1_method_32_code (4 : Nat) (Option.some Jvm.ClassFile.FieldType.boolean), Jvm.Cond.code ({ cls := "HandleHeap", name := "copyWords", desc := "(III)V" } : Jvm.MethodName) prog_1_method_25_code (5 : Nat) (Option.none : Option Jvm.ClassFile.FieldType), Jvm.Cond.code ({ cls := "HandleHeap", name := "copyOne", desc := "(II)V" } : Jvm.MethodName) prog_1_method_26_code (3 : Nat) (Option.none : Option Jvm.ClassFile.FieldType), Jvm.Cond.code ({ cls := "HandleHeap", name := "read", desc := "(II)I" } : Jvm.MethodName) prog_1_method_9_code (4 : Nat) (Option.some Jvm.ClassFile.FieldType.int), Jvm.Cond.code ({ cls := "HandleHeapOwnLaw", name := "expect", desc := "(II)I" } : Jvm.MethodName) method_5_code (3 : Nat) (Option.some Jvm.ClassFile.FieldType.int), Jvm.Cond.code ({ cls := "HandleHeap", name := "setPurgeable", desc := "(IZ)I" } : Jvm.MethodName) prog_1_method_8_code (4 : Nat) (Option.some Jvm.ClassFile.FieldType.int), Jvm.Cond.code ({ cls := "HandleHeap", name := "unlock", desc := "(I)I" } : Jvm.MethodName) prog_1_method_7_code (3 : Nat) (Option.some Jvm.ClassFile.FieldType.int), Jvm.Cond.code ({ cls := "HandleHeap", name := "compact", desc := "()I" } : Jvm.MethodName) prog_1_method_11_code (1 : Nat) (Option.some Jvm.ClassFile.FieldType.int), Jvm.Cond.code ({ cls := "HandleHeap", name := "compactRun", desc := "(I)V" } : Jvm.MethodName) prog_1_method_33_code (4 : Nat) (Option.none : Option Jvm.ClassFile.FieldType), Jvm.Cond.code ({ cls := "HandleHeap", name := "sortOrder", desc := "(I)V" } : Jvm.MethodName) prog_1_method_34_code (6 : Nat) (Option.none : Option Jvm.ClassFile.FieldType), Jvm.Cond.code ({ cls := "HandleHeap", name := "moveBlock", desc := "(I)V" } : Jvm.MethodName) prog_1_method_35_code (4 : Nat) (Option.none : Option Jvm.ClassFile.FieldType), Jvm.Cond.code ({ cls := "HandleHeap", name := "largestFree", desc := "()I" } : Jvm.MethodName) prog_1_method_17_code (4 : Nat) (Option.some Jvm.ClassFile.FieldType.int), Jvm.Cond.code ({ cls := "HandleHeap", name := "dispose", desc := "(I)I" } : Jvm.MethodName) prog_1_method_3_code (2 : Nat) (Option.some Jvm.ClassFile.FieldType.int), Jvm.Cond.code ({ cls := "HandleHeap", name := "lock", desc := "(I)I" } : Jvm.MethodName) prog_1_method_6_code (3 : Nat) (Option.some Jvm.ClassFile.FieldType.int), Jvm.Cond.code ({ cls := "HandleHeap", name := "reallocHandle", desc := "(II)I" } : Jvm.MethodName) prog_1_method_5_code (4 : Nat) (Option.some Jvm.ClassFile.FieldType.int), Jvm.Cond.code ({ cls := "HandleHeap", name := "victim", desc := "(I)I" } : Jvm.MethodName) prog_1_method_36_code (4 : Nat) (Option.some Jvm.ClassFile.FieldType.int), Jvm.Cond.code ({ cls := "HandleHeap", name := "purge", desc := "(I)V" } : Jvm.MethodName) prog_1_method_22_code (2 : Nat) (Option.none : Option Jvm.ClassFile.FieldType)]
set_option maxRecDepth 65536 in
theorem codes_eq : words1.filter isCode = codes1 := rfl
theorem w_codes : ∀ c ∈ words1.filter isCode, c.before args0 about1 = true := by
  rw [codes_eq]
  intro c hc
  simp only [codes1, List.mem_cons, List.not_mem_nil, or_false] at hc
  rcases hc with rfl | rfl | rfl | rfl | rfl | rfl | rfl | rfl | rfl | rfl | rfl | rfl | rfl | rfl | rfl | rfl | rfl | rfl | rfl | rfl | rfl | rfl | rfl | rfl | rfl | rfl | rfl | rfl | rfl | rfl | rfl | rfl | rfl | rfl | rfl | rfl | rfl | rfl | rfl | rfl | rfl | rfl
  · exact w_c0
  · exact w_c1
  · exact w_c2
  · exact w_c3
  · exact w_c4
  · exact w_c5
  · exact w_c6
  · exact w_c7
  · exact w_c8
  · exact w_c9
  · exact w_c10
  · exact w_c11
  · exact w_c12
  · exact w_c13
  · exact w_c14
  · exact w_c15
  · exact w_c16
  · exact w_c17
  · exact w_c18
  · exact w_c19
  · exact w_c20
  · exact w_c21
  · exact w_c22
  · exact w_c23
  · exact w_c24
  · exact w_c25
  · exact w_c26
  · exact w_c27
  · exact w_c28
  · exact w_c29
  · exact w_c30
  · exact w_c31
  · exact w_c32
  · exact w_c33
  · exact w_c34
  · exact w_c35
  · exact w_c36
  · exact w_c37
  · exact w_c38
  · exact w_c39
  · exact w_c40
  · exact w_c41
set_option maxRecDepth 65536 in
theorem w_t1 : (words1.take 24).all (fun c => isCode c || c.before args0 about1) = true := by decide +kernel
set_option maxRecDepth 65536 in
theorem w_t2 : ((words1.drop 24).take 24).all (fun c => isCode c || c.before args0 about1) = true := by decide +kernel
set_option maxRecDepth 65536 in
theorem w_t3 : (((words1.drop 24).drop 24).take 24).all (fun c => isCode c || c.before args0 about1) = true := by decide +kernel
set_option maxRecDepth 65536 in
theorem w_t4 : ((((words1.drop 24).drop 24).drop 24).take 24).all (fun c => isCode c || c.before args0 about1) = true := by decide +kernel
set_option maxRecDepth 65536 in
theorem w_t5 : (((((words1.drop 24).drop 24).drop 24).drop 24).take 24).all (fun c => isCode c || c.before args0 about1) = true := by decide +kernel
set_option maxRecDepth 65536 in
theorem w_t6 : ((((((words1.drop 24).drop 24).drop 24).drop 24).drop 24).take 24).all (fun c => isCode c || c.before args0 about1) = true := by decide +kernel
set_option maxRecDepth 65536 in
theorem w_t7 : (((((((words1.drop 24).drop 24).drop 24).drop 24).drop 24).drop 24).take 24).all (fun c => isCode c || c.before args0 about1) = true := by decide +kernel
set_option maxRecDepth 65536 in
theorem w_t8 : ((((((((words1.drop 24).drop 24).drop 24).drop 24).drop 24).drop 24).drop 24).take 24).all (fun c => isCode c || c.before args0 about1) = true := by decide +kernel
set_option maxRecDepth 65536 in
theorem w_t9 : ((((((((words1.drop 24).drop 24).drop 24).drop 24).drop 24).drop 24).drop 24).drop 24).all (fun c => isCode c || c.before args0 about1) = true := by decide +kernel
theorem w_tables : (allAtoms (Jvm.Cond.code x code maxLocals ret :: tables_1)).before args0 about1 = true := by
  rw [allAtoms_all]
  show words1.all (fun c => c.before args0 about1) = true
  refine all_split ?_ w_codes
  rw [← List.take_append_drop 24 words1, List.all_append, w_t1, ← List.take_append_drop 24 (words1.drop 24), List.all_append, w_t2, ← List.take_append_drop 24 ((words1.drop 24).drop 24), List.all_append, w_t3, ← List.take_append_drop 24 (((words1.drop 24).drop 24).drop 24), List.all_append, w_t4, ← List.take_append_drop 24 ((((words1.drop 24).drop 24).drop 24).drop 24), List.all_append, w_t5, ← List.take_append_drop 24 (((((words1.drop 24).drop 24).drop 24).drop 24).drop 24), List.all_append, w_t6, ← List.take_append_drop 24 ((((((words1.drop 24).drop 24).drop 24).drop 24).drop 24).drop 24), List.all_append, w_t7, ← List.take_append_drop 24 (((((((words1.drop 24).drop 24).drop 24).drop 24).drop 24).drop 24).drop 24), List.all_append, w_t8, w_t9]
  rfl
set_option maxRecDepth 65536 in
theorem w_rest : rest_1_c.before args0 about1 = true := by decide +kernel
set_option maxRecDepth 65536 in
theorem w_case : (Jvm.Cond.and given_1 narrow_1).before args0 about1 = true := by decide +kernel
theorem w_applies : (headSpec (Jvm.Cond.code x code maxLocals ret :: tables_1) room_1).applies x e0.platform about1 = true :=
  (Spec.applies_iff w_frames).mpr ⟨w_running, w_runnable, w_alone, w_named, w_hears, w_ripe, w_room, w_tables⟩
theorem atStart : AtStart classFile x code maxLocals ret World_1 tables_1 room_1 Calls_1 rest_1 Pre_1 launch0 p0 e0 about1 theMethod args0 below0 :=
  ⟨lists_1, trivial, launch0.admits_env _ _ _, launch0.least_env, fairChoices_fair.cas, fairChoices_fair.clock, w_frames, w_args, w_heap, w_applies, trivial, w_rest, w_case⟩
end start1
theorem witness_1 : WitnessClaimed_1 := ⟨start1.p0, start1.e0, start1.about1, start1.theMethod, start1.args0, start1.below0, start1.atStart⟩
end Jvm.Pilot.@@N@@
