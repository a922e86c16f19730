import JvmDerived
import JvmDerived.Pilot.@@N@@Statement
import JvmDerived.Pilot.@@N@@Code
set_option linter.unusedVariables false
set_option linter.unusedSimpArgs false
namespace Jvm.Own
open Sem ClassFile Op Lib Jvm.Stand Jvm.Free Jvm.LawKit Jvm.RoadKit
/-! ## 1. Small heaps: a list of cells: an object of the one class (its fields in order), or an array (of booleans, of ints) -/
abbrev MCell := List Value ⊕ (Bool × List Int32)
abbrev MHeap := List MCell
abbrev Fd := String × String × FieldType
/-- start, its arguments, launch, the script's place, the heap's first length, the class, its fields, its slots -/
abbrev Ctx := State × Array Value × Launch × Option Nat × Nat × String × List Fd × Nat
abbrev gZ (G : Ctx) : State := G.1
abbrev gA (G : Ctx) : Array Value := G.2.1
abbrev gL (G : Ctx) : Launch := G.2.2.1
abbrev gS (G : Ctx) : Option Nat := G.2.2.2.1
abbrev gN (G : Ctx) : Nat := G.2.2.2.2.1
abbrev gC (G : Ctx) : String := G.2.2.2.2.2.1
abbrev gF (G : Ctx) : List Fd := G.2.2.2.2.2.2.1
abbrev gK (G : Ctx) : Nat := G.2.2.2.2.2.2.2
/-- a method: name, bytes, locals, result, frames and words that it needs -/
abbrev Mi := MethodName × ByteArray × Nat × Option FieldType × Nat × Nat
abbrev mN (M : Mi) : MethodName := M.1
abbrev mB (M : Mi) : ByteArray := M.2.1
abbrev mL (M : Mi) : Nat := M.2.2.1
abbrev mR (M : Mi) : Option FieldType := M.2.2.2.1
abbrev mF (M : Mi) : Nat := M.2.2.2.2.1
abbrev mW (M : Mi) : Nat := M.2.2.2.2.2
def rhoA (sa : Option Nat) (n0 i : Nat) : Nat := match sa with
  | none => n0 + i
  | some a => match i with
    | 0 => a
    | j + 1 => n0 + j
def k0A (sa : Option Nat) : Nat := match sa with
  | none => 0
  | some _ => 1
def rho (G : Ctx) (i : Nat) : Nat := rhoA (gS G) (gN G) i
def k0 (G : Ctx) : Nat := k0A (gS G)
def tr (G : Ctx) : Value → Value
  | .ref i => .ref (rho G i)
  | v => v
def trS (G : Ctx) : Slot → Slot
  | .val v => .val (tr G v)
  | s => s
theorem tr_cat (G : Ctx) (v : Value) : (tr G v).category = v.category := by cases v <;> rfl
theorem tr_cats (G : Ctx) (S : List Value) : ((S.map (tr G)).map fun v => v.category).sum = (S.map fun v => v.category).sum := by
  rw [List.map_map]
  congr 1
  exact List.map_congr_left fun v _ => tr_cat G v
def kd : Bool → FieldType
  | true => .boolean
  | false => .int
def CellAt (G : Ctx) (hr : Heap) (a : Nat) : MCell → Prop
  | .inl fs => Exa (gZ G) hr a (gC G) ∧ fs.length = (gF G).length ∧ ∀ (j : Nat) (n d : String) (ty : FieldType) (v : Value), (gF G)[j]? = some (n, d, ty) → fs[j]? = some v → Fld (gZ G) hr a (gC G) n d (tr G v)
  | .inr bx => ∃ c : Cell, Arr (gZ G) hr a c (kd bx.1) ∧ c.slots = (bx.2.map Value.int).toArray
def Rel (G : Ctx) (hr : Heap) (h : MHeap) : Prop :=
  hr.size + k0 G = gN G + h.length ∧ k0 G ≤ h.length ∧ (∀ a, gS G = some a → a < gN G) ∧ ∀ i c, h[i]? = some c → CellAt G hr (rho G i) c
/-- what the sheet says of the class -/
def GOk (G : Ctx) : Prop :=
  (∀ (j : Nat) (n d : String) (ty : FieldType), (gF G)[j]? = some (n, d, ty) → Laid (gZ G) (gA G) (gC G) (gC G) n d ∧ parseFieldDescriptor d = some ty) ∧
  (∀ (j j' : Nat) (f f' : Fd), (gF G)[j]? = some f → (gF G)[j']? = some f' → j ≠ j' → f.1 ≠ f'.1) ∧
  (Cond.instantiable (gC G) (gK G)).before (gA G) (gZ G) = true ∧ (Cond.initialized (gC G)).before (gA G) (gZ G) = true
theorem rhoA_inj {sa : Option Nat} {n0 i j : Nat} (h : ∀ a, sa = some a → a < n0) (e : rhoA sa n0 i = rhoA sa n0 j) : i = j := by
  cases sa with
  | none => simp only [rhoA] at e; omega
  | some a =>
    have := h a rfl
    cases i <;> cases j <;> simp only [rhoA] at e <;> omega
theorem rho_inj {G : Ctx} {i j : Nat} (h : ∀ a, gS G = some a → a < gN G) (e : rho G i = rho G j) : i = j := rhoA_inj h e
theorem rhoA_new {sa : Option Nat} {n0 i : Nat} (h : k0A sa ≤ i) : rhoA sa n0 i = n0 + (i - k0A sa) := by
  cases sa with
  | none => simp only [rhoA, k0A]; omega
  | some a =>
    cases i with
    | zero => simp only [k0A] at h; omega
    | succ j => simp only [rhoA, k0A]; omega
theorem rho_new {G : Ctx} {i : Nat} (h : k0 G ≤ i) : rho G i = gN G + (i - k0 G) := rhoA_new h
theorem rho_ge {G : Ctx} {i : Nat} (h : k0 G ≤ i) : gN G ≤ rho G i := by rw [rho_new h]; omega
theorem CellAt.other {G : Ctx} {hr hr' : Heap} {a b : Nat} {sl : Nat} {v : Value} (W : Wr hr hr' a sl v) (hne : b ≠ a) : ∀ {c : MCell}, CellAt G hr b c → CellAt G hr' b c
  | .inl _, ⟨h1, h2, h3⟩ => ⟨h1.wr W, h2, fun j n d ty v hf hv => Fld.other W (h3 j n d ty v hf hv) (Or.inl hne)⟩
  | .inr _, ⟨c, h1, h2⟩ => ⟨c, h1.other W hne, h2⟩
theorem CellAt.ext {G : Ctx} {hr hr' : Heap} {b : Nat} (E : Ext hr hr') : ∀ {c : MCell}, CellAt G hr b c → CellAt G hr' b c
  | .inl _, ⟨h1, h2, h3⟩ => ⟨h1.ext E, h2, fun j n d ty v hf hv => Fld.ext E (h3 j n d ty v hf hv)⟩
  | .inr _, ⟨c, h1, h2⟩ => ⟨c, h1.ext E, h2⟩
theorem Rel.push {G : Ctx} {hr hr' : Heap} {h : MHeap} {c : MCell} (R : Rel G hr h) (E : Ext hr hr') (hs : hr'.size = hr.size + 1) (hc : CellAt G hr' hr.size c) : Rel G hr' (h ++ [c]) := by
  obtain ⟨h1, h2, h3, h4⟩ := R
  refine ⟨by rw [List.length_append, List.length_singleton]; omega, by rw [List.length_append]; omega, h3, fun i c' hi => ?_⟩
  rcases Nat.lt_or_ge i h.length with q | q
  · rw [List.getElem?_append_left q] at hi
    exact (h4 i c' hi).ext E
  · have hi2 := hi
    rw [List.getElem?_append_right q] at hi2
    have : i - h.length = 0 := by
      rcases Nat.eq_zero_or_pos (i - h.length) with z | z
      · exact z
      · rw [List.getElem?_eq_none (by simp; omega)] at hi2; cases hi2
    have e : i = h.length := by omega
    subst e
    rw [Nat.sub_self] at hi2
    cases hi2
    have : rho G h.length = hr.size := by rw [rho_new h2]; omega
    rw [this]; exact hc
theorem Rel.wrArr {G : Ctx} {hr hr' : Heap} {h : MHeap} {i j : Nat} {b : Bool} {xs : List Int32} {x : Int32} (R : Rel G hr h) (hi : h[i]? = some (.inr (b, xs))) (W : Wr hr hr' (rho G i) j (.int x)) : Rel G hr' (h.set i (.inr (b, xs.set j x))) := by
  obtain ⟨h1, h2, h3, h4⟩ := R
  refine ⟨by rw [W.size, List.length_set]; exact h1, by rw [List.length_set]; exact h2, h3, fun k c' hk => ?_⟩
  by_cases e : i = k
  · subst e
    rw [List.getElem?_set_self (List.getElem?_eq_some_iff.mp hi).1] at hk
    cases hk
    obtain ⟨c, A, hs⟩ := h4 i _ hi
    refine ⟨c.setSlot j (.int x), A.same W, ?_⟩
    show c.slots.setIfInBounds j (.int x) = _
    rw [hs]
    simp [List.map_set]
  · rw [List.getElem?_set_ne e] at hk
    exact (h4 k c' hk).other W fun q => e (rho_inj h3 q).symm
theorem Rel.wrFld {G : Ctx} {hr hr' : Heap} {h : MHeap} {i j : Nat} {fs : List Value} {n d : String} {ty : FieldType} {v : Value} (R : Rel G hr h) (K : GOk G) (hi : h[i]? = some (.inl fs)) (hF : (gF G)[j]? = some (n, d, ty)) (W : Wr hr hr' (rho G i) (Jvm.RoadKit.slotOf (gZ G) (gC G) n d) (tr G v)) : Rel G hr' (h.set i (.inl (fs.set j v))) := by
  obtain ⟨h1, h2, h3, h4⟩ := R
  refine ⟨by rw [W.size, List.length_set]; exact h1, by rw [List.length_set]; exact h2, h3, fun k c' hk => ?_⟩
  by_cases e : i = k
  · subst e
    rw [List.getElem?_set_self (List.getElem?_eq_some_iff.mp hi).1] at hk
    cases hk
    obtain ⟨e1, e2, e3⟩ := h4 i _ hi
    refine ⟨e1.wr W, by rw [List.length_set]; exact e2, fun j' n' d' ty' v' hf' hv' => ?_⟩
    by_cases q : j = j'
    · subst q
      cases hF.symm.trans hf'
      have hlt : j < fs.length := by rw [e2]; exact (List.getElem?_eq_some_iff.mp hF).1
      rw [List.getElem?_set_self hlt] at hv'
      cases hv'
      obtain ⟨w, hw⟩ : ∃ w, fs[j]? = some w := ⟨_, List.getElem?_eq_getElem hlt⟩
      exact Fld.same W (e3 j n d ty w hF hw)
    · rw [List.getElem?_set_ne q] at hv'
      refine Fld.other W (e3 j' n' d' ty' v' hf' hv') (Or.inr ?_)
      exact slot_ne (K.1 j' n' d' ty' hf').1 (K.1 j n d ty hF).1 (K.2.1 j' j _ _ hf' hF (Ne.symm q)) (K.1 j' n' d' ty' hf').2 (K.1 j n d ty hF).2
  · rw [List.getElem?_set_ne e] at hk
    exact (h4 k c' hk).other W fun q => e (rho_inj h3 q).symm
def csl (k : Nat) : MCell → Nat
  | .inl _ => k
  | .inr bx => bx.2.length
def hsl (k : Nat) (h : MHeap) : Nat := (h.map (csl k)).sum
theorem hsl_push (k : Nat) (h : MHeap) (c : MCell) : hsl k (h ++ [c]) = hsl k h + csl k c := by simp [hsl]
theorem hsl_set (k : Nat) : ∀ (h : MHeap) (i : Nat) (c c' : MCell), h[i]? = some c → csl k c' = csl k c → hsl k (h.set i c') = hsl k h
  | [], _, _, _, h, _ => by simp at h
  | a :: t, 0, c, c', h, e => by simp at h; subst h; simp [hsl, e]
  | a :: t, i + 1, c, c', h, e => by
    have := hsl_set k t i c c' (by simpa using h) e
    simp only [hsl, List.set_cons_succ, List.map_cons, List.sum_cons] at this ⊢
    omega
/-! ## 2. Storing a local variable, on lists -/
def lsetAt (l : List Slot) (i : Nat) (x : Slot) : Option (List Slot) := if i < l.length then some (l.set i x) else none
def lstoreSelf (l : List Slot) (i : Nat) (v : Value) : Option (List Slot) :=
  match lsetAt l i (.val v) with
  | none => none
  | some l => if v.category = 2 then
      (match l[i + 1]? with
      | none => none
      | some (.val old) => if old.category = 2 then (match lsetAt l (i + 2) .unset with | none => none | some l2 => lsetAt l2 (i + 1) .second) else lsetAt l (i + 1) .second
      | some _ => lsetAt l (i + 1) .second)
    else some l
def mst (l : List Slot) (i : Nat) (v : Value) : Option (List Slot) :=
  match l[i]? with
  | none => none
  | some .second => (match lsetAt l (i - 1) .unset with | none => none | some l2 => lstoreSelf l2 i v)
  | some (.val old) => if old.category = 2 then (match lsetAt l (i + 1) .unset with | none => none | some l2 => lstoreSelf l2 i v) else lstoreSelf l i v
  | some .unset => lstoreSelf l i v
def arL (G : Ctx) (l : List Slot) : Array Slot := (l.map (trS G)).toArray
theorem setAt_map (G : Ctx) (l : List Slot) (i : Nat) (x : Slot) : setAt (arL G l) i (trS G x) = (lsetAt l i x).map (arL G) := by
  unfold setAt lsetAt arL
  by_cases h : i < l.length <;> simp [h, List.map_set]
theorem arL_get (G : Ctx) (l : List Slot) (i : Nat) : (arL G l)[i]? = (l[i]?).map (trS G) := by simp [arL]
theorem storeSelf_map (G : Ctx) (l : List Slot) (i : Nat) (v : Value) : storeSelf (arL G l) i (tr G v) = (lstoreSelf l i v).map (arL G) := by
  unfold storeSelf lstoreSelf
  have e := setAt_map G l i (.val v)
  simp only [trS] at e
  rw [e]
  cases h1 : lsetAt l i (.val v) with
  | none => rfl
  | some l1 =>
    simp only [Option.map_some, Option.bind_eq_bind, Option.bind_some, tr_cat]
    by_cases hc : v.category = 2
    · simp only [hc, if_true, arL_get]
      cases h2 : l1[i + 1]? with
      | none => rfl
      | some sl =>
        simp only [Option.map_some, Option.bind_some]
        have u2 := setAt_map G l1 (i + 2) .unset
        have s1 := setAt_map G l1 (i + 1) .second
        simp only [trS] at u2 s1
        cases sl with
        | unset => exact s1
        | second => exact s1
        | val old =>
          simp only [trS, tr_cat]
          by_cases hq : old.category = 2
          · simp only [hq, if_true, u2]
            cases h3 : lsetAt l1 (i + 2) .unset with
            | none => rfl
            | some l2 =>
              have s2 := setAt_map G l2 (i + 1) .second
              simp only [trS] at s2
              exact s2
          · simp only [hq, if_false]
            exact s1
    · simp only [hc, if_false]
      rfl
theorem mst_map (G : Ctx) (l : List Slot) (i : Nat) (v : Value) : storeLocals (arL G l) i (tr G v) = (mst l i v).map (arL G) := by
  unfold storeLocals mst
  simp only [arL_get]
  cases h1 : l[i]? with
  | none => rfl
  | some sl =>
    simp only [Option.map_some, Option.bind_eq_bind, Option.bind_some]
    have u1 := setAt_map G l (i - 1) .unset
    have u2 := setAt_map G l (i + 1) .unset
    simp only [trS] at u1 u2
    cases sl with
    | unset => exact storeSelf_map G l i v
    | second =>
      simp only [trS, u1]
      cases h3 : lsetAt l (i - 1) .unset with
      | none => rfl
      | some l2 => exact storeSelf_map G l2 i v
    | val old =>
      simp only [trS, tr_cat]
      by_cases hq : old.category = 2
      · simp only [hq, if_true, u2]
        cases h3 : lsetAt l (i + 1) .unset with
        | none => rfl
        | some l2 => exact storeSelf_map G l2 i v
      · simp only [hq, if_false]
        exact storeSelf_map G l i v
theorem lsetAt_len {l l' : List Slot} {i : Nat} {x : Slot} (h : lsetAt l i x = some l') : l'.length = l.length := by
  unfold lsetAt at h; split at h
  · cases h; simp
  · cases h
theorem lstoreSelf_len {l l' : List Slot} {i : Nat} {v : Value} (h : lstoreSelf l i v = some l') : l'.length = l.length := by
  unfold lstoreSelf at h
  split at h
  · cases h
  · rename_i l1 h1
    have e1 := lsetAt_len h1
    split at h
    · split at h
      · cases h
      · split at h
        · split at h
          · cases h
          · rename_i h2; rw [lsetAt_len h, lsetAt_len h2, e1]
        · rw [lsetAt_len h, e1]
      · rw [lsetAt_len h, e1]
    · cases h; exact e1
theorem mst_len {l l' : List Slot} {i : Nat} {v : Value} (h : mst l i v = some l') : l'.length = l.length := by
  unfold mst at h
  split at h
  · cases h
  · split at h
    · cases h
    · rename_i h2; rw [lstoreSelf_len h, lsetAt_len h2]
  · split at h
    · split at h
      · cases h
      · rename_i h2; rw [lstoreSelf_len h, lsetAt_len h2]
    · exact lstoreSelf_len h
  · exact lstoreSelf_len h
theorem st_of {G : Ctx} {l l' : List Slot} {i : Nat} {v : Value} (h : mst l i v = some l') : storeLocals (arL G l) i (tr G v) = some (arL G l') := by rw [mst_map, h]; rfl
theorem ld_of {G : Ctx} {l : List Slot} {i : Nat} {s : Slot} (h : l[i]? = some s) : (arL G l)[i]? = some (trS G s) := by rw [arL_get, h]; rfl
/-! ## 3. What a run of a body from a point does -/
def Ev (G : Ctx) (M : Mi) (pc : Nat) (L : List Slot) (S : List Value) (h : MHeap) (r : Option Value × MHeap) : Prop :=
  (h.length ≤ r.2.length ∧ hsl (gK G) h ≤ hsl (gK G) r.2) ∧
  ∀ (p : Program) (e : Env) (R : Room) (s : State) (m : MethodId) (args : Array Value) (below : List Frame) (meth : Method) (c : Code) (T : State) (locs : List Loc) (cells slots : Nat),
    Stand p (gL G) e R s m args below meth c T locs cells slots → p.tables.exec = Jvm.exec → (gZ G).Warmed39 s.vm → s.vm.findClass (mN M).cls = some m.cls →
    c.code = mB M → c.maxLocals = mL M → meth.sig.returnType = mR M → meth.name = (mN M).name → L.length = mL M → mF M ≤ R.frames → mW M ≤ R.locals →
    s.heap.size + cells = T.heap.size → Rel G T.heap h → Fr (gN G) locs → cells + (r.2.length - h.length) ≤ R.cells → slots + (hsl (gK G) r.2 - hsl (gK G) h) ≤ R.slots →
    ∃ T' locs', Stand p (gL G) e R s m args below meth c T' locs' (cells + (r.2.length - h.length)) (slots + (hsl (gK G) r.2 - hsl (gK G) h)) ∧ Rel G T'.heap r.2 ∧ Fr (gN G) locs' ∧
      ∀ fs, (∀ (f : JFrame) (acts : List Action), f.method = m → f.locked = none → f.entered = [] → (doReturn e (T'.setTop f) acts (r.1.map (tr G))).1 = T'.setFrames fs) →
        Steps p.tables e below (T.setTop (mkF m pc (arL G L) (S.map (tr G)))) (T'.setFrames fs)
/-- a whole call -/
def EvC (G : Ctx) (y : Mi) (args : List Value) (h : MHeap) (r : Option Value × MHeap) : Prop :=
  (h.length ≤ r.2.length ∧ hsl (gK G) h ≤ hsl (gK G) r.2) ∧
  ∀ (ws : List Jvm.Cond) (R : Room) (hr : Heap), mF y ≤ R.frames → mW y ≤ R.locals → r.2.length - h.length ≤ R.cells → hsl (gK G) r.2 - hsl (gK G) h ≤ R.slots → Rel G hr h →
    MetFree (gL G) (mN y) (head1 (Jvm.Cond.code (mN y) (mB y) (mL y) (mR y) :: ws) R) (fun a U => a = (args.map (tr G)).toArray ∧ (gZ G).Warmed39 U.vm ∧ U.heap = hr) (fun _ _ _ _ _ => True)
      (fun _ U o U' => ∃ v L, o = .returned v ∧ (v = r.1.map (tr G) ∧ Fr (gN G) L ∧ Rel G U'.heap r.2) ∧ FrameEnd U o U' L (r.2.length - h.length) (hsl (gK G) r.2 - hsl (gK G) h))
section Rules
variable {G : Ctx} {M : Mi} {pc : Nat} {L : List Slot} {S : List Value} {h : MHeap} {r : Option Value × MHeap}
theorem Ev.gen {pc' : Nat} {L' : List Slot} {S' : List Value} {h' : MHeap} (hm1 : h.length ≤ h'.length) (hm2 : hsl (gK G) h ≤ hsl (gK G) h') (hL : L'.length = L.length) (hn : Ev G M pc' L' S' h' r)
    (st : ∀ {p : Program} {e : Env} {R : Room} {s : State} {m : MethodId} {args : Array Value} {below : List Frame} {meth : Method} {c : Code} {T : State} {locs : List Loc} {cells slots : Nat},
      Stand p (gL G) e R s m args below meth c T locs cells slots → p.tables.exec = Jvm.exec → (gZ G).Warmed39 s.vm → s.vm.findClass (mN M).cls = some m.cls →
      c.code = mB M → c.maxLocals = mL M → meth.name = (mN M).name → L.length = mL M → mF M ≤ R.frames → mW M ≤ R.locals →
      s.heap.size + cells = T.heap.size → Rel G T.heap h → Fr (gN G) locs → cells + (h'.length - h.length) ≤ R.cells → slots + (hsl (gK G) h' - hsl (gK G) h) ≤ R.slots →
      ∃ T' locs', Stand p (gL G) e R s m args below meth c T' locs' (cells + (h'.length - h.length)) (slots + (hsl (gK G) h' - hsl (gK G) h)) ∧ Rel G T'.heap h' ∧ Fr (gN G) locs' ∧
        ∀ target, Steps p.tables e below (T'.setTop (mkF m pc' (arL G L') (S'.map (tr G)))) target → Steps p.tables e below (T.setTop (mkF m pc (arL G L) (S.map (tr G)))) target) :
    Ev G M pc L S h r := by
  obtain ⟨⟨g1, g2⟩, hn⟩ := hn
  refine ⟨⟨Nat.le_trans hm1 g1, Nat.le_trans hm2 g2⟩, ?_⟩
  intro p e R s m args below meth c T locs cells slots X hx hZ hown hby hml hret hnm hLm hfr hlo hsz hR hF hc hs
  obtain ⟨T1, locs1, X1, R1, F1, st1⟩ := st X hx hZ hown hby hml hnm hLm hfr hlo hsz hR hF (by omega) (by omega)
  have hsz1 : s.heap.size + (cells + (h'.length - h.length)) = T1.heap.size := by
    have a1 := hR.1
    have a2 := R1.1
    omega
  obtain ⟨T2, locs2, X2, R2, F2, st2⟩ := hn p e R s m args below meth c T1 locs1 _ _ X1 hx hZ hown hby hml hret hnm (hL.trans hLm) hfr hlo hsz1 R1 F1 (by omega) (by omega)
  refine ⟨T2, locs2, ?_, R2, F2, fun fs hl => st1 _ (st2 fs hl)⟩
  have e1 : cells + (h'.length - h.length) + (r.2.length - h'.length) = cells + (r.2.length - h.length) := by omega
  have e2 : slots + (hsl (gK G) h' - hsl (gK G) h) + (hsl (gK G) r.2 - hsl (gK G) h') = slots + (hsl (gK G) r.2 - hsl (gK G) h) := by omega
  rw [e1, e2] at X2
  exact X2
/-- a step that leaves the heap -/
theorem Ev.same {pc' : Nat} {L' : List Slot} {S' : List Value} (hL : L'.length = L.length) (hn : Ev G M pc' L' S' h r)
    (st : ∀ {p : Program} {e : Env} {R : Room} {s : State} {m : MethodId} {args : Array Value} {below : List Frame} {meth : Method} {c : Code} {T : State} {locs : List Loc} {cells slots : Nat},
      Stand p (gL G) e R s m args below meth c T locs cells slots → p.tables.exec = Jvm.exec → (gZ G).Warmed39 s.vm → s.vm.findClass (mN M).cls = some m.cls →
      c.code = mB M → c.maxLocals = mL M → L.length = mL M → mF M ≤ R.frames → mW M ≤ R.locals → Rel G T.heap h →
      ∃ T', Stand p (gL G) e R s m args below meth c T' locs cells slots ∧ T'.heap = T.heap ∧
        ∀ target, Steps p.tables e below (T'.setTop (mkF m pc' (arL G L') (S'.map (tr G)))) target → Steps p.tables e below (T.setTop (mkF m pc (arL G L) (S.map (tr G)))) target) :
    Ev G M pc L S h r := by
  refine Ev.gen (Nat.le_refl _) (Nat.le_refl _) hL hn ?_
  intro p e R s m args below meth c T locs cells slots X hx hZ hown hby hml hnm hLm hfr hlo hsz hR hF hc hs
  obtain ⟨T', X', e', st'⟩ := st X hx hZ hown hby hml hLm hfr hlo hR
  refine ⟨T', locs, ?_, by rw [e']; exact hR, hF, st'⟩
  rw [Nat.sub_self, Nat.sub_self, Nat.add_zero, Nat.add_zero]
  exact X'
/-- a step that leaves all but the frame -/
theorem Ev.pure {pc' : Nat} {L' : List Slot} {S' : List Value} (hL : L'.length = L.length) (hn : Ev G M pc' L' S' h r)
    (st : ∀ {p : Program} {e : Env} {R : Room} {s : State} {m : MethodId} {args : Array Value} {below : List Frame} {meth : Method} {c : Code} {T : State} {locs : List Loc} {cells slots : Nat},
      Stand p (gL G) e R s m args below meth c T locs cells slots → p.tables.exec = Jvm.exec → (gZ G).Warmed39 s.vm → s.vm.findClass (mN M).cls = some m.cls →
      c.code = mB M → ∀ target, Steps p.tables e below (T.setTop (mkF m pc' (arL G L') (S'.map (tr G)))) target → Steps p.tables e below (T.setTop (mkF m pc (arL G L) (S.map (tr G)))) target) :
    Ev G M pc L S h r :=
  Ev.same hL hn fun {p e R s m args below meth c T locs cells slots} X hx hZ hown hby hml hLm hfr hlo hR => ⟨T, X, rfl, st X hx hZ hown hby⟩
/-! ### loads, stores, constants -/
theorem Ev.iload {k : Nat} {v : Int32} (hd : decode (mB M) pc = .ok (.iload k, 2)) (hl : L[k]? = some (.val (.int v))) (hn : Ev G M (pc + 2) L (.int v :: S) h r) : Ev G M pc L S h r :=
  Ev.pure rfl hn fun {_ _ _ _ m _ _ _ _ _ _ _ _} X hx hZ hown hby target q => XS.iload (g := mkF m pc (arL G L) (List.map (tr G) S)) X.here hx rfl (hb hby hd) (ld_of hl) q
theorem Ev.iloadN {k : Fin 4} {v : Int32} (hd : decode (mB M) pc = .ok (.iload_n k, 1)) (hl : L[k.val]? = some (.val (.int v))) (hn : Ev G M (pc + 1) L (.int v :: S) h r) : Ev G M pc L S h r :=
  Ev.pure rfl hn fun {_ _ _ _ m _ _ _ _ _ _ _ _} X hx hZ hown hby target q => XS.iloadN (g := mkF m pc (arL G L) (List.map (tr G) S)) X.here hx rfl (hb hby hd) (ld_of hl) q
theorem Ev.aload {k : Nat} {v : Nat} (hd : decode (mB M) pc = .ok (.aload k, 2)) (hl : L[k]? = some (.val (.ref v))) (hn : Ev G M (pc + 2) L (.ref v :: S) h r) : Ev G M pc L S h r :=
  Ev.pure rfl hn fun {_ _ _ _ m _ _ _ _ _ _ _ _} X hx hZ hown hby target q => XS.aload (g := mkF m pc (arL G L) (List.map (tr G) S)) X.here hx rfl (hb hby hd) (ld_of hl) rfl q
theorem Ev.aloadN {k : Fin 4} {v : Nat} (hd : decode (mB M) pc = .ok (.aload_n k, 1)) (hl : L[k.val]? = some (.val (.ref v))) (hn : Ev G M (pc + 1) L (.ref v :: S) h r) : Ev G M pc L S h r :=
  Ev.pure rfl hn fun {_ _ _ _ m _ _ _ _ _ _ _ _} X hx hZ hown hby target q => XS.aloadN (g := mkF m pc (arL G L) (List.map (tr G) S)) X.here hx rfl (hb hby hd) (ld_of hl) rfl q
theorem Ev.lload {k : Nat} {v : Int64} (hd : decode (mB M) pc = .ok (.lload k, 2)) (hl : L[k]? = some (.val (.long v))) (hn : Ev G M (pc + 2) L (.long v :: S) h r) : Ev G M pc L S h r :=
  Ev.pure rfl hn fun {_ _ _ _ m _ _ _ _ _ _ _ _} X hx hZ hown hby target q => XT.lload (g := mkF m pc (arL G L) (List.map (tr G) S)) X.here hx rfl (hb hby hd) (ld_of hl) q
theorem Ev.lloadN {k : Fin 4} {v : Int64} (hd : decode (mB M) pc = .ok (.lload_n k, 1)) (hl : L[k.val]? = some (.val (.long v))) (hn : Ev G M (pc + 1) L (.long v :: S) h r) : Ev G M pc L S h r :=
  Ev.pure rfl hn fun {_ _ _ _ m _ _ _ _ _ _ _ _} X hx hZ hown hby target q => XT.lloadN (g := mkF m pc (arL G L) (List.map (tr G) S)) X.here hx rfl (hb hby hd) (ld_of hl) q
theorem Ev.istore {k : Nat} {v : Int32} {L' : List Slot} (hd : decode (mB M) pc = .ok (.istore k, 2)) (hl : mst L k (.int v) = some L') (hn : Ev G M (pc + 2) L' S h r) : Ev G M pc L (.int v :: S) h r :=
  Ev.pure (mst_len hl) hn fun {_ _ _ _ m _ _ _ _ _ _ _ _} X hx hZ hown hby target q => XS.istore (g := mkF m pc (arL G L) (List.map (tr G) (Value.int v :: S))) X.here hx rfl (hb hby hd) rfl (st_of hl) q
theorem Ev.istoreN {k : Fin 4} {v : Int32} {L' : List Slot} (hd : decode (mB M) pc = .ok (.istore_n k, 1)) (hl : mst L k.val (.int v) = some L') (hn : Ev G M (pc + 1) L' S h r) : Ev G M pc L (.int v :: S) h r :=
  Ev.pure (mst_len hl) hn fun {_ _ _ _ m _ _ _ _ _ _ _ _} X hx hZ hown hby target q => XS.istoreN (g := mkF m pc (arL G L) (List.map (tr G) (Value.int v :: S))) X.here hx rfl (hb hby hd) rfl (st_of hl) q
theorem Ev.astore {k v : Nat} {L' : List Slot} (hd : decode (mB M) pc = .ok (.astore k, 2)) (hl : mst L k (.ref v) = some L') (hn : Ev G M (pc + 2) L' S h r) : Ev G M pc L (.ref v :: S) h r :=
  Ev.pure (mst_len hl) hn fun {_ _ _ _ m _ _ _ _ _ _ _ _} X hx hZ hown hby target q => XS.astore (g := mkF m pc (arL G L) (List.map (tr G) (Value.ref v :: S))) X.here hx rfl (hb hby hd) rfl rfl (st_of hl) q
theorem Ev.astoreN {k : Fin 4} {v : Nat} {L' : List Slot} (hd : decode (mB M) pc = .ok (.astore_n k, 1)) (hl : mst L k.val (.ref v) = some L') (hn : Ev G M (pc + 1) L' S h r) : Ev G M pc L (.ref v :: S) h r :=
  Ev.pure (mst_len hl) hn fun {_ _ _ _ m _ _ _ _ _ _ _ _} X hx hZ hown hby target q => XS.astoreN (g := mkF m pc (arL G L) (List.map (tr G) (Value.ref v :: S))) X.here hx rfl (hb hby hd) rfl rfl (st_of hl) q
theorem Ev.lstore {k : Nat} {v : Int64} {L' : List Slot} (hd : decode (mB M) pc = .ok (.lstore k, 2)) (hl : mst L k (.long v) = some L') (hn : Ev G M (pc + 2) L' S h r) : Ev G M pc L (.long v :: S) h r :=
  Ev.pure (mst_len hl) hn fun {_ _ _ _ m _ _ _ _ _ _ _ _} X hx hZ hown hby target q => XT.lstore (g := mkF m pc (arL G L) (List.map (tr G) (Value.long v :: S))) X.here hx rfl (hb hby hd) rfl (st_of hl) q
theorem Ev.lstoreN {k : Fin 4} {v : Int64} {L' : List Slot} (hd : decode (mB M) pc = .ok (.lstore_n k, 1)) (hl : mst L k.val (.long v) = some L') (hn : Ev G M (pc + 1) L' S h r) : Ev G M pc L (.long v :: S) h r :=
  Ev.pure (mst_len hl) hn fun {_ _ _ _ m _ _ _ _ _ _ _ _} X hx hZ hown hby target q => XT.lstoreN (g := mkF m pc (arL G L) (List.map (tr G) (Value.long v :: S))) X.here hx rfl (hb hby hd) rfl (st_of hl) q
theorem Ev.iconst {i : Int} {z : Int32} (hd : decode (mB M) pc = .ok (.iconst i, 1)) (hz : Int32.ofInt i = z) (hn : Ev G M (pc + 1) L (.int z :: S) h r) : Ev G M pc L S h r :=
  Ev.pure rfl (hz ▸ hn) fun {_ _ _ _ m _ _ _ _ _ _ _ _} X hx hZ hown hby target q => XS.iconst (g := mkF m pc (arL G L) (List.map (tr G) S)) X.here hx rfl (hb hby hd) q
theorem Ev.bipush {i : Int} {z : Int32} (hd : decode (mB M) pc = .ok (.bipush i, 2)) (hz : (Int8.ofInt i).toInt32 = z) (hn : Ev G M (pc + 2) L (.int z :: S) h r) : Ev G M pc L S h r :=
  Ev.pure rfl (hz ▸ hn) fun {_ _ _ _ m _ _ _ _ _ _ _ _} X hx hZ hown hby target q => XS.bipush (g := mkF m pc (arL G L) (List.map (tr G) S)) X.here hx rfl (hb hby hd) q
theorem Ev.sipush {i : Int} {z : Int32} (hd : decode (mB M) pc = .ok (.sipush i, 3)) (hz : (Int16.ofInt i).toInt32 = z) (hn : Ev G M (pc + 3) L (.int z :: S) h r) : Ev G M pc L S h r :=
  Ev.pure rfl (hz ▸ hn) fun {_ _ _ _ m _ _ _ _ _ _ _ _} X hx hZ hown hby target q => XS.sipush (g := mkF m pc (arL G L) (List.map (tr G) S)) X.here hx rfl (hb hby hd) q
theorem Ev.lconst {k : Fin 2} {z : Int64} (hd : decode (mB M) pc = .ok (.lconst k, 1)) (hz : Int64.ofNat k = z) (hn : Ev G M (pc + 1) L (.long z :: S) h r) : Ev G M pc L S h r :=
  Ev.pure rfl (hz ▸ hn) fun {_ _ _ _ m _ _ _ _ _ _ _ _} X hx hZ hown hby target q => XT.lconst (g := mkF m pc (arL G L) (List.map (tr G) S)) X.here hx rfl (hb hby hd) q
theorem Ev.ldc {k : Nat} {v : Int32} (w : (Jvm.Cond.constant (mN M).cls k v).before (gA G) (gZ G) = true) (hd : decode (mB M) pc = .ok (.ldc k, 2)) (hn : Ev G M (pc + 2) L (.int v :: S) h r) : Ev G M pc L S h r :=
  Ev.pure rfl hn fun {_ _ _ _ m _ _ _ _ _ _ _ _} X hx hZ hown hby target q => X.ldcInt hx hown (mvT hZ w) (g := mkF m pc (arL G L) (List.map (tr G) S)) rfl (hb hby hd) target q
theorem Ev.ldcW {k : Nat} {v : Int32} (w : (Jvm.Cond.constant (mN M).cls k v).before (gA G) (gZ G) = true) (hd : decode (mB M) pc = .ok (.ldc_w k, 3)) (hn : Ev G M (pc + 3) L (.int v :: S) h r) : Ev G M pc L S h r :=
  Ev.pure rfl hn fun {_ _ _ _ m _ _ _ _ _ _ _ _} X hx hZ hown hby target q => X.ldcwInt hx hown (mvT hZ w) (g := mkF m pc (arL G L) (List.map (tr G) S)) rfl (hb hby hd) target q
theorem Ev.ldcL {k : Nat} {v : Int64} (w : (Jvm.Cond.constantLong (mN M).cls k v).before (gA G) (gZ G) = true) (hd : decode (mB M) pc = .ok (.ldc2_w k, 3)) (hn : Ev G M (pc + 3) L (.long v :: S) h r) : Ev G M pc L S h r :=
  Ev.pure rfl hn fun {_ _ _ _ m _ _ _ _ _ _ _ _} X hx hZ hown hby target q => X.ldc2Long hx hown (mvT hZ w) (g := mkF m pc (arL G L) (List.map (tr G) S)) rfl (hb hby hd) target q
/-! ### reckoning -/
theorem Ev.iadd {x y : Int32} (hd : decode (mB M) pc = .ok (.iadd, 1)) (hn : Ev G M (pc + 1) L (.int (x + y) :: S) h r) : Ev G M pc L (.int y :: .int x :: S) h r :=
  Ev.pure rfl hn fun {_ _ _ _ m _ _ _ _ _ _ _ _} X hx hZ hown hby target q => XS.iadd (g := mkF m pc (arL G L) (List.map (tr G) (Value.int y :: Value.int x :: S))) X.here hx rfl (hb hby hd) rfl q
theorem Ev.isub {x y : Int32} (hd : decode (mB M) pc = .ok (.isub, 1)) (hn : Ev G M (pc + 1) L (.int (x - y) :: S) h r) : Ev G M pc L (.int y :: .int x :: S) h r :=
  Ev.pure rfl hn fun {_ _ _ _ m _ _ _ _ _ _ _ _} X hx hZ hown hby target q => XS.isub (g := mkF m pc (arL G L) (List.map (tr G) (Value.int y :: Value.int x :: S))) X.here hx rfl (hb hby hd) rfl q
theorem Ev.imul {x y : Int32} (hd : decode (mB M) pc = .ok (.imul, 1)) (hn : Ev G M (pc + 1) L (.int (x * y) :: S) h r) : Ev G M pc L (.int y :: .int x :: S) h r :=
  Ev.pure rfl hn fun {_ _ _ _ m _ _ _ _ _ _ _ _} X hx hZ hown hby target q => XS.imul (g := mkF m pc (arL G L) (List.map (tr G) (Value.int y :: Value.int x :: S))) X.here hx rfl (hb hby hd) rfl q
theorem Ev.idiv {x y : Int32} (hd : decode (mB M) pc = .ok (.idiv, 1)) (hy : y ≠ 0) (hn : Ev G M (pc + 1) L (.int (x / y) :: S) h r) : Ev G M pc L (.int y :: .int x :: S) h r :=
  Ev.pure rfl hn fun {_ _ _ _ m _ _ _ _ _ _ _ _} X hx hZ hown hby target q => XS.idiv (g := mkF m pc (arL G L) (List.map (tr G) (Value.int y :: Value.int x :: S))) X.here hx rfl (hb hby hd) rfl hy q
theorem Ev.irem {x y : Int32} (hd : decode (mB M) pc = .ok (.irem, 1)) (hy : y ≠ 0) (hn : Ev G M (pc + 1) L (.int (x % y) :: S) h r) : Ev G M pc L (.int y :: .int x :: S) h r :=
  Ev.pure rfl hn fun {_ _ _ _ m _ _ _ _ _ _ _ _} X hx hZ hown hby target q => iremM (g := mkF m pc (arL G L) (List.map (tr G) (Value.int y :: Value.int x :: S))) X hx rfl (hb hby hd) rfl hy q
theorem Ev.ineg {x : Int32} (hd : decode (mB M) pc = .ok (.ineg, 1)) (hn : Ev G M (pc + 1) L (.int (-x) :: S) h r) : Ev G M pc L (.int x :: S) h r :=
  Ev.pure rfl hn fun {_ _ _ _ m _ _ _ _ _ _ _ _} X hx hZ hown hby target q => XS.ineg (g := mkF m pc (arL G L) (List.map (tr G) (Value.int x :: S))) X.here hx rfl (hb hby hd) rfl q
theorem Ev.iand {x y : Int32} (hd : decode (mB M) pc = .ok (.iand, 1)) (hn : Ev G M (pc + 1) L (.int (x &&& y) :: S) h r) : Ev G M pc L (.int y :: .int x :: S) h r :=
  Ev.pure rfl hn fun {_ _ _ _ m _ _ _ _ _ _ _ _} X hx hZ hown hby target q => XS.iand (g := mkF m pc (arL G L) (List.map (tr G) (Value.int y :: Value.int x :: S))) X.here hx rfl (hb hby hd) rfl q
theorem Ev.ior {x y : Int32} (hd : decode (mB M) pc = .ok (.ior, 1)) (hn : Ev G M (pc + 1) L (.int (x ||| y) :: S) h r) : Ev G M pc L (.int y :: .int x :: S) h r :=
  Ev.pure rfl hn fun {_ _ _ _ m _ _ _ _ _ _ _ _} X hx hZ hown hby target q => XT.ior (g := mkF m pc (arL G L) (List.map (tr G) (Value.int y :: Value.int x :: S))) X.here hx rfl (hb hby hd) rfl q
theorem Ev.ixor {x y : Int32} (hd : decode (mB M) pc = .ok (.ixor, 1)) (hn : Ev G M (pc + 1) L (.int (x ^^^ y) :: S) h r) : Ev G M pc L (.int y :: .int x :: S) h r :=
  Ev.pure rfl hn fun {_ _ _ _ m _ _ _ _ _ _ _ _} X hx hZ hown hby target q => XT.ixor (g := mkF m pc (arL G L) (List.map (tr G) (Value.int y :: Value.int x :: S))) X.here hx rfl (hb hby hd) rfl q
theorem Ev.ishl {x y : Int32} (hd : decode (mB M) pc = .ok (.ishl, 1)) (hn : Ev G M (pc + 1) L (.int (x <<< (y &&& 31)) :: S) h r) : Ev G M pc L (.int y :: .int x :: S) h r :=
  Ev.pure rfl hn fun {_ _ _ _ m _ _ _ _ _ _ _ _} X hx hZ hown hby target q => XT.ishl (g := mkF m pc (arL G L) (List.map (tr G) (Value.int y :: Value.int x :: S))) X.here hx rfl (hb hby hd) rfl q
theorem Ev.ishr {x y : Int32} (hd : decode (mB M) pc = .ok (.ishr, 1)) (hn : Ev G M (pc + 1) L (.int (x >>> (y &&& 31)) :: S) h r) : Ev G M pc L (.int y :: .int x :: S) h r :=
  Ev.pure rfl hn fun {_ _ _ _ m _ _ _ _ _ _ _ _} X hx hZ hown hby target q => XT.ishr (g := mkF m pc (arL G L) (List.map (tr G) (Value.int y :: Value.int x :: S))) X.here hx rfl (hb hby hd) rfl q
theorem Ev.iushr {x y : Int32} (hd : decode (mB M) pc = .ok (.iushr, 1)) (hn : Ev G M (pc + 1) L (.int (XT.ushr x y) :: S) h r) : Ev G M pc L (.int y :: .int x :: S) h r :=
  Ev.pure rfl hn fun {_ _ _ _ m _ _ _ _ _ _ _ _} X hx hZ hown hby target q => XT.iushr (g := mkF m pc (arL G L) (List.map (tr G) (Value.int y :: Value.int x :: S))) X.here hx rfl (hb hby hd) rfl q
theorem Ev.ladd {x y : Int64} (hd : decode (mB M) pc = .ok (.ladd, 1)) (hn : Ev G M (pc + 1) L (.long (x + y) :: S) h r) : Ev G M pc L (.long y :: .long x :: S) h r :=
  Ev.pure rfl hn fun {_ _ _ _ m _ _ _ _ _ _ _ _} X hx hZ hown hby target q => XT.ladd (g := mkF m pc (arL G L) (List.map (tr G) (Value.long y :: Value.long x :: S))) X.here hx rfl (hb hby hd) rfl q
theorem Ev.lsub {x y : Int64} (hd : decode (mB M) pc = .ok (.lsub, 1)) (hn : Ev G M (pc + 1) L (.long (x - y) :: S) h r) : Ev G M pc L (.long y :: .long x :: S) h r :=
  Ev.pure rfl hn fun {_ _ _ _ m _ _ _ _ _ _ _ _} X hx hZ hown hby target q => XT.lsub (g := mkF m pc (arL G L) (List.map (tr G) (Value.long y :: Value.long x :: S))) X.here hx rfl (hb hby hd) rfl q
theorem Ev.lmul {x y : Int64} (hd : decode (mB M) pc = .ok (.lmul, 1)) (hn : Ev G M (pc + 1) L (.long (x * y) :: S) h r) : Ev G M pc L (.long y :: .long x :: S) h r :=
  Ev.pure rfl hn fun {_ _ _ _ m _ _ _ _ _ _ _ _} X hx hZ hown hby target q => XT.lmul (g := mkF m pc (arL G L) (List.map (tr G) (Value.long y :: Value.long x :: S))) X.here hx rfl (hb hby hd) rfl q
theorem Ev.ldiv {x y : Int64} (hd : decode (mB M) pc = .ok (.ldiv, 1)) (hy : y ≠ 0) (hn : Ev G M (pc + 1) L (.long (x / y) :: S) h r) : Ev G M pc L (.long y :: .long x :: S) h r :=
  Ev.pure rfl hn fun {_ _ _ _ m _ _ _ _ _ _ _ _} X hx hZ hown hby target q => XT.ldiv (g := mkF m pc (arL G L) (List.map (tr G) (Value.long y :: Value.long x :: S))) X.here hx rfl (hb hby hd) rfl hy q
theorem Ev.lneg {x : Int64} (hd : decode (mB M) pc = .ok (.lneg, 1)) (hn : Ev G M (pc + 1) L (.long (-x) :: S) h r) : Ev G M pc L (.long x :: S) h r :=
  Ev.pure rfl hn fun {_ _ _ _ m _ _ _ _ _ _ _ _} X hx hZ hown hby target q => XT.lneg (g := mkF m pc (arL G L) (List.map (tr G) (Value.long x :: S))) X.here hx rfl (hb hby hd) rfl q
theorem Ev.land {x y : Int64} (hd : decode (mB M) pc = .ok (.land, 1)) (hn : Ev G M (pc + 1) L (.long (x &&& y) :: S) h r) : Ev G M pc L (.long y :: .long x :: S) h r :=
  Ev.pure rfl hn fun {_ _ _ _ m _ _ _ _ _ _ _ _} X hx hZ hown hby target q => XT.land (g := mkF m pc (arL G L) (List.map (tr G) (Value.long y :: Value.long x :: S))) X.here hx rfl (hb hby hd) rfl q
theorem Ev.lor {x y : Int64} (hd : decode (mB M) pc = .ok (.lor, 1)) (hn : Ev G M (pc + 1) L (.long (x ||| y) :: S) h r) : Ev G M pc L (.long y :: .long x :: S) h r :=
  Ev.pure rfl hn fun {_ _ _ _ m _ _ _ _ _ _ _ _} X hx hZ hown hby target q => XT.lor (g := mkF m pc (arL G L) (List.map (tr G) (Value.long y :: Value.long x :: S))) X.here hx rfl (hb hby hd) rfl q
theorem Ev.lxor {x y : Int64} (hd : decode (mB M) pc = .ok (.lxor, 1)) (hn : Ev G M (pc + 1) L (.long (x ^^^ y) :: S) h r) : Ev G M pc L (.long y :: .long x :: S) h r :=
  Ev.pure rfl hn fun {_ _ _ _ m _ _ _ _ _ _ _ _} X hx hZ hown hby target q => XT.lxor (g := mkF m pc (arL G L) (List.map (tr G) (Value.long y :: Value.long x :: S))) X.here hx rfl (hb hby hd) rfl q
theorem Ev.lshl {x : Int64} {y : Int32} (hd : decode (mB M) pc = .ok (.lshl, 1)) (hn : Ev G M (pc + 1) L (.long (x <<< (y.toInt64 &&& 63)) :: S) h r) : Ev G M pc L (.int y :: .long x :: S) h r :=
  Ev.pure rfl hn fun {_ _ _ _ m _ _ _ _ _ _ _ _} X hx hZ hown hby target q => XT.lshl (g := mkF m pc (arL G L) (List.map (tr G) (Value.int y :: Value.long x :: S))) X.here hx rfl (hb hby hd) rfl q
theorem Ev.lushr {x : Int64} {y : Int32} (hd : decode (mB M) pc = .ok (.lushr, 1)) (hn : Ev G M (pc + 1) L (.long (XT.ushrL x y) :: S) h r) : Ev G M pc L (.int y :: .long x :: S) h r :=
  Ev.pure rfl hn fun {_ _ _ _ m _ _ _ _ _ _ _ _} X hx hZ hown hby target q => XT.lushr (g := mkF m pc (arL G L) (List.map (tr G) (Value.int y :: Value.long x :: S))) X.here hx rfl (hb hby hd) rfl q
theorem Ev.lcmp {x y : Int64} (hd : decode (mB M) pc = .ok (.lcmp, 1)) (hn : Ev G M (pc + 1) L (.int (XT.cmpL x y) :: S) h r) : Ev G M pc L (.long y :: .long x :: S) h r :=
  Ev.pure rfl hn fun {_ _ _ _ m _ _ _ _ _ _ _ _} X hx hZ hown hby target q => XT.lcmp (g := mkF m pc (arL G L) (List.map (tr G) (Value.long y :: Value.long x :: S))) X.here hx rfl (hb hby hd) rfl q
theorem Ev.i2l {x : Int32} (hd : decode (mB M) pc = .ok (.i2l, 1)) (hn : Ev G M (pc + 1) L (.long x.toInt64 :: S) h r) : Ev G M pc L (.int x :: S) h r :=
  Ev.pure rfl hn fun {_ _ _ _ m _ _ _ _ _ _ _ _} X hx hZ hown hby target q => XT.i2l (g := mkF m pc (arL G L) (List.map (tr G) (Value.int x :: S))) X.here hx rfl (hb hby hd) rfl q
theorem Ev.l2i {x : Int64} (hd : decode (mB M) pc = .ok (.l2i, 1)) (hn : Ev G M (pc + 1) L (.int x.toInt32 :: S) h r) : Ev G M pc L (.long x :: S) h r :=
  Ev.pure rfl hn fun {_ _ _ _ m _ _ _ _ _ _ _ _} X hx hZ hown hby target q => XT.l2i (g := mkF m pc (arL G L) (List.map (tr G) (Value.long x :: S))) X.here hx rfl (hb hby hd) rfl q
theorem Ev.i2b {x : Int32} (hd : decode (mB M) pc = .ok (.i2b, 1)) (hn : Ev G M (pc + 1) L (.int x.toInt8.toInt32 :: S) h r) : Ev G M pc L (.int x :: S) h r :=
  Ev.pure rfl hn fun {_ _ _ _ m _ _ _ _ _ _ _ _} X hx hZ hown hby target q => XT.i2b (g := mkF m pc (arL G L) (List.map (tr G) (Value.int x :: S))) X.here hx rfl (hb hby hd) rfl q
theorem Ev.iinc {k : Nat} {i : Int} {x z : Int32} {L' : List Slot} (hd : decode (mB M) pc = .ok (.iinc k i, 3)) (hl : L[k]? = some (.val (.int x))) (hz : Int32.ofInt i = z) (hl' : mst L k (.int (x + z)) = some L') (hn : Ev G M (pc + 3) L' S h r) : Ev G M pc L S h r :=
  Ev.pure (mst_len hl') hn fun {_ _ _ _ m _ _ _ _ _ _ _ _} X hx hZ hown hby target q => XS.iinc (g := mkF m pc (arL G L) (List.map (tr G) S)) X.here hx rfl (hb hby hd) (ld_of hl) (by rw [hz]; exact st_of hl') q
theorem iincW {tb : Tables} [Ours tb] {e : Env} {below : List Frame} {T target : State} {m : MethodId} {c : Code} {g : JFrame} (h : At T m c below) (hx : tb.exec = Jvm.exec) (hg : g.method = m) {k : Nat} {cst : Int} {x : Int32} {l' : Array Slot} (hd : decode c.code g.pc = .ok (.iinc k cst, 6)) (hl : g.locals[k]? = some (.val (.int x))) (hl' : storeLocals g.locals k (.int (x + Int32.ofInt cst)) = some l')
    (hr : Steps tb e below (T.setTop { g with pc := g.pc + 6, locals := l' }) target) : Steps tb e below (T.setTop g) target := by
  subst hg
  jvm_step h [h.top, hx, hd, hl, hl']
  exact hr
theorem Ev.iincW {k : Nat} {i : Int} {x z : Int32} {L' : List Slot} (hd : decode (mB M) pc = .ok (.iinc k i, 6)) (hl : L[k]? = some (.val (.int x))) (hz : Int32.ofInt i = z) (hl' : mst L k (.int (x + z)) = some L') (hn : Ev G M (pc + 6) L' S h r) : Ev G M pc L S h r :=
  Ev.pure (mst_len hl') hn fun {_ _ _ _ m _ _ _ _ _ _ _ _} X hx hZ hown hby target q => Own.iincW (g := mkF m pc (arL G L) (List.map (tr G) S)) X.here hx rfl (hb hby hd) (ld_of hl) (by rw [hz]; exact st_of hl') q
theorem Ev.dup {x : Value} (hd : decode (mB M) pc = .ok (.dup, 1)) (hc : x.category = 1) (hn : Ev G M (pc + 1) L (x :: x :: S) h r) : Ev G M pc L (x :: S) h r :=
  Ev.pure rfl hn fun {_ _ _ _ m _ _ _ _ _ _ _ _} X hx hZ hown hby target q => XS.dup (g := mkF m pc (arL G L) (List.map (tr G) (x :: S))) X.here hx rfl (hb hby hd) rfl ((tr_cat G x).trans hc) q
theorem Ev.dup2 {x y : Value} (hd : decode (mB M) pc = .ok (.dup2, 1)) (hc : x.category = 1) (hc' : y.category = 1) (hn : Ev G M (pc + 1) L (x :: y :: x :: y :: S) h r) : Ev G M pc L (x :: y :: S) h r :=
  Ev.pure rfl hn fun {_ _ _ _ m _ _ _ _ _ _ _ _} X hx hZ hown hby target q => XT.dup2 (g := mkF m pc (arL G L) (List.map (tr G) (x :: y :: S))) X.here hx rfl (hb hby hd) rfl ((tr_cat G x).trans hc) ((tr_cat G y).trans hc') q
theorem Ev.pop {x : Value} (hd : decode (mB M) pc = .ok (.pop, 1)) (hc : x.category = 1) (hn : Ev G M (pc + 1) L S h r) : Ev G M pc L (x :: S) h r :=
  Ev.pure rfl hn fun {_ _ _ _ m _ _ _ _ _ _ _ _} X hx hZ hown hby target q => XT.pop (g := mkF m pc (arL G L) (List.map (tr G) (x :: S))) X.here hx rfl (hb hby hd) rfl ((tr_cat G x).trans hc) q
/-! ### branches -/
theorem Ev.goto {o : Int} {t : Nat} (hd : decode (mB M) pc = .ok (.goto o, 3)) (hp : (pc : Int) + o = (t : Int)) (hn : Ev G M t L S h r) : Ev G M pc L S h r :=
  Ev.pure rfl hn fun {_ _ _ _ m _ _ _ _ _ _ _ _} X hx hZ hown hby target q => XS.goto (g := mkF m pc (arL G L) (List.map (tr G) S)) X.here hx rfl rfl (hb hby hd) (by rw [hp]; exact Int.natCast_nonneg t) (by rw [hp]; rfl) q
theorem Ev.ifc {cd : ClassFile.Cond} {x : Int32} {o : Int} {t : Nat} (hd : decode (mB M) pc = .ok (.ifCond cd o, 3)) (hp : (pc : Int) + o = (t : Int)) (h1 : ifCond.holds cd x = true → Ev G M t L S h r) (h2 : ifCond.holds cd x = false → Ev G M (pc + 3) L S h r) : Ev G M pc L (.int x :: S) h r := by
  cases hc : ifCond.holds cd x with
  | true => exact Ev.pure rfl (h1 hc) fun {_ _ _ _ m _ _ _ _ _ _ _ _} X hx hZ hown hby target q => XS.ifYes (g := mkF m pc (arL G L) (List.map (tr G) (Value.int x :: S))) X.here hx rfl rfl (hb hby hd) rfl hc (by rw [hp]; exact Int.natCast_nonneg t) (by rw [hp]; rfl) q
  | false => exact Ev.pure rfl (h2 hc) fun {_ _ _ _ m _ _ _ _ _ _ _ _} X hx hZ hown hby target q => XS.ifNo (g := mkF m pc (arL G L) (List.map (tr G) (Value.int x :: S))) X.here hx rfl (hb hby hd) rfl hc q
theorem Ev.icc {cd : ClassFile.Cond} {x y : Int32} {o : Int} {t : Nat} (hd : decode (mB M) pc = .ok (.if_icmp cd o, 3)) (hp : (pc : Int) + o = (t : Int)) (h1 : if_icmp.holds cd x y = true → Ev G M t L S h r) (h2 : if_icmp.holds cd x y = false → Ev G M (pc + 3) L S h r) : Ev G M pc L (.int y :: .int x :: S) h r := by
  cases hc : if_icmp.holds cd x y with
  | true => exact Ev.pure rfl (h1 hc) fun {_ _ _ _ m _ _ _ _ _ _ _ _} X hx hZ hown hby target q => XS.icmpYes (g := mkF m pc (arL G L) (List.map (tr G) (Value.int y :: Value.int x :: S))) X.here hx rfl rfl (hb hby hd) rfl hc (by rw [hp]; exact Int.natCast_nonneg t) (by rw [hp]; rfl) q
  | false => exact Ev.pure rfl (h2 hc) fun {_ _ _ _ m _ _ _ _ _ _ _ _} X hx hZ hown hby target q => XS.icmpNo (g := mkF m pc (arL G L) (List.map (tr G) (Value.int y :: Value.int x :: S))) X.here hx rfl (hb hby hd) rfl hc q
theorem Ev.iclt {x y : Int32} {o : Int} {t : Nat} (hd : decode (mB M) pc = .ok (.if_icmp .lt o, 3)) (hp : (pc : Int) + o = (t : Int)) (h1 : x < y → Ev G M t L S h r) (h2 : ¬ x < y → Ev G M (pc + 3) L S h r) : Ev G M pc L (.int y :: .int x :: S) h r :=
  Ev.icc hd hp (fun q => h1 (by simpa [if_icmp.holds] using q)) (fun q => h2 (by simpa [if_icmp.holds] using q))
theorem Ev.icge {x y : Int32} {o : Int} {t : Nat} (hd : decode (mB M) pc = .ok (.if_icmp .ge o, 3)) (hp : (pc : Int) + o = (t : Int)) (h1 : x < y → Ev G M (pc + 3) L S h r) (h2 : ¬ x < y → Ev G M t L S h r) : Ev G M pc L (.int y :: .int x :: S) h r :=
  Ev.icc hd hp (fun q => h2 (by simpa [if_icmp.holds] using q)) (fun q => h1 (by simpa [if_icmp.holds] using q))
theorem Ev.icgt {x y : Int32} {o : Int} {t : Nat} (hd : decode (mB M) pc = .ok (.if_icmp .gt o, 3)) (hp : (pc : Int) + o = (t : Int)) (h1 : y < x → Ev G M t L S h r) (h2 : ¬ y < x → Ev G M (pc + 3) L S h r) : Ev G M pc L (.int y :: .int x :: S) h r :=
  Ev.icc hd hp (fun q => h1 (by simpa [if_icmp.holds] using q)) (fun q => h2 (by simpa [if_icmp.holds] using q))
theorem Ev.icle {x y : Int32} {o : Int} {t : Nat} (hd : decode (mB M) pc = .ok (.if_icmp .le o, 3)) (hp : (pc : Int) + o = (t : Int)) (h1 : y < x → Ev G M (pc + 3) L S h r) (h2 : ¬ y < x → Ev G M t L S h r) : Ev G M pc L (.int y :: .int x :: S) h r :=
  Ev.icc hd hp (fun q => h2 (by simpa [if_icmp.holds] using q)) (fun q => h1 (by simpa [if_icmp.holds] using q))
theorem Ev.iceq {x y : Int32} {o : Int} {t : Nat} (hd : decode (mB M) pc = .ok (.if_icmp .eq o, 3)) (hp : (pc : Int) + o = (t : Int)) (h1 : x = y → Ev G M t L S h r) (h2 : ¬ x = y → Ev G M (pc + 3) L S h r) : Ev G M pc L (.int y :: .int x :: S) h r :=
  Ev.icc hd hp (fun q => h1 (by simpa [if_icmp.holds] using q)) (fun q => h2 (by simpa [if_icmp.holds] using q))
theorem Ev.icne {x y : Int32} {o : Int} {t : Nat} (hd : decode (mB M) pc = .ok (.if_icmp .ne o, 3)) (hp : (pc : Int) + o = (t : Int)) (h1 : x = y → Ev G M (pc + 3) L S h r) (h2 : ¬ x = y → Ev G M t L S h r) : Ev G M pc L (.int y :: .int x :: S) h r :=
  Ev.icc hd hp (fun q => h2 (by simpa [if_icmp.holds] using q)) (fun q => h1 (by simpa [if_icmp.holds] using q))
theorem Ev.iflt {x : Int32} {o : Int} {t : Nat} (hd : decode (mB M) pc = .ok (.ifCond .lt o, 3)) (hp : (pc : Int) + o = (t : Int)) (h1 : x < 0 → Ev G M t L S h r) (h2 : ¬ x < 0 → Ev G M (pc + 3) L S h r) : Ev G M pc L (.int x :: S) h r :=
  Ev.ifc hd hp (fun q => h1 (by simpa [ifCond.holds] using q)) (fun q => h2 (by simpa [ifCond.holds] using q))
theorem Ev.ifge {x : Int32} {o : Int} {t : Nat} (hd : decode (mB M) pc = .ok (.ifCond .ge o, 3)) (hp : (pc : Int) + o = (t : Int)) (h1 : x < 0 → Ev G M (pc + 3) L S h r) (h2 : ¬ x < 0 → Ev G M t L S h r) : Ev G M pc L (.int x :: S) h r :=
  Ev.ifc hd hp (fun q => h2 (by simpa [ifCond.holds] using q)) (fun q => h1 (by simpa [ifCond.holds] using q))
theorem Ev.ifgt {x : Int32} {o : Int} {t : Nat} (hd : decode (mB M) pc = .ok (.ifCond .gt o, 3)) (hp : (pc : Int) + o = (t : Int)) (h1 : 0 < x → Ev G M t L S h r) (h2 : ¬ 0 < x → Ev G M (pc + 3) L S h r) : Ev G M pc L (.int x :: S) h r :=
  Ev.ifc hd hp (fun q => h1 (by simpa [ifCond.holds] using q)) (fun q => h2 (by simpa [ifCond.holds] using q))
theorem Ev.ifle {x : Int32} {o : Int} {t : Nat} (hd : decode (mB M) pc = .ok (.ifCond .le o, 3)) (hp : (pc : Int) + o = (t : Int)) (h1 : 0 < x → Ev G M (pc + 3) L S h r) (h2 : ¬ 0 < x → Ev G M t L S h r) : Ev G M pc L (.int x :: S) h r :=
  Ev.ifc hd hp (fun q => h2 (by simpa [ifCond.holds] using q)) (fun q => h1 (by simpa [ifCond.holds] using q))
theorem Ev.ifeq {x : Int32} {o : Int} {t : Nat} (hd : decode (mB M) pc = .ok (.ifCond .eq o, 3)) (hp : (pc : Int) + o = (t : Int)) (h1 : x = 0 → Ev G M t L S h r) (h2 : ¬ x = 0 → Ev G M (pc + 3) L S h r) : Ev G M pc L (.int x :: S) h r :=
  Ev.ifc hd hp (fun q => h1 (by simpa [ifCond.holds] using q)) (fun q => h2 (by simpa [ifCond.holds] using q))
theorem Ev.ifne {x : Int32} {o : Int} {t : Nat} (hd : decode (mB M) pc = .ok (.ifCond .ne o, 3)) (hp : (pc : Int) + o = (t : Int)) (h1 : x = 0 → Ev G M (pc + 3) L S h r) (h2 : ¬ x = 0 → Ev G M t L S h r) : Ev G M pc L (.int x :: S) h r :=
  Ev.ifc hd hp (fun q => h2 (by simpa [ifCond.holds] using q)) (fun q => h1 (by simpa [ifCond.holds] using q))
theorem Ev.tswIn {x : Int32} {dflt low high : Int} {offs : Array Int} {len t : Nat} {o : Int} (hd : decode (mB M) pc = .ok (.tableswitch dflt low high offs, len)) (hin : ¬ (x.toInt < low ∨ x.toInt > high)) (ho : offs[(x.toInt - low).toNat]? = some o) (hp : (pc : Int) + o = (t : Int)) (hn : Ev G M t L S h r) : Ev G M pc L (.int x :: S) h r :=
  Ev.pure rfl hn fun {_ _ _ _ m _ _ _ _ _ _ _ _} X hx hZ hown hby target q => XS.tswIn (g := mkF m pc (arL G L) (List.map (tr G) (Value.int x :: S))) X.here hx rfl rfl (hb hby hd) rfl hin ho (by rw [hp]; exact Int.natCast_nonneg t) (by rw [hp]; rfl) q
theorem Ev.tswOut {x : Int32} {dflt low high : Int} {offs : Array Int} {len t : Nat} (hd : decode (mB M) pc = .ok (.tableswitch dflt low high offs, len)) (hout : x.toInt < low ∨ x.toInt > high) (hp : (pc : Int) + dflt = (t : Int)) (hn : Ev G M t L S h r) : Ev G M pc L (.int x :: S) h r :=
  Ev.pure rfl hn fun {_ _ _ _ m _ _ _ _ _ _ _ _} X hx hZ hown hby target q => XS.tswOut (g := mkF m pc (arL G L) (List.map (tr G) (Value.int x :: S))) X.here hx rfl rfl (hb hby hd) rfl hout (by rw [hp]; exact Int.natCast_nonneg t) (by rw [hp]; rfl) q
/-! ### fields -/
theorem Ev.getfield {idx j i : Nat} {n d : String} {ty : FieldType} {fs : List Value} {v : Value} (w : (Jvm.Cond.fieldLink (mN M).cls idx (gC G) n d).before (gA G) (gZ G) = true) (hd : decode (mB M) pc = .ok (.getfield idx, 3))
    (hF : (gF G)[j]? = some (n, d, ty)) (hi : h[i]? = some (.inl fs)) (hv : fs[j]? = some v) (hn : Ev G M (pc + 3) L (v :: S) h r) : Ev G M pc L (.ref i :: S) h r := by
  refine Ev.same rfl hn ?_
  intro p e R s m args below meth c T locs cells slots X hx hZ hown hby hml hLm hfr hlo hR
  obtain ⟨-, -, h3⟩ := hR.2.2.2 i _ hi
  obtain ⟨T', X', e', st⟩ := getF X hx hZ hown (host := "") (Or.inl w) Via.refl rfl (h3 j n d ty v hF hv) (g := mkF m pc (arL G L) ((Value.ref i :: S).map (tr G))) rfl rfl (hb hby hd)
  exact ⟨T', X', e', st⟩
def mput : FieldType → Value → Option Value
  | .int, .int z => some (.int z)
  | .boolean, .int z => some (.int (z &&& 1))
  | .array _, .ref a => some (.ref a)
  | _, _ => none
theorem mput_spec {G : Ctx} {ty : FieldType} {v v' : Value} (h : mput ty v = some v') : narrow ty (tr G v) = tr G v' ∧ fits ty (tr G v') = true := by
  unfold mput at h
  split at h
  · cases h; exact ⟨rfl, rfl⟩
  · cases h; exact ⟨rfl, fits_nar_bool _⟩
  · cases h; exact ⟨rfl, rfl⟩
  · cases h
theorem Ev.putfield {idx j i : Nat} {n d : String} {ty : FieldType} {fs : List Value} {v v' : Value} (K : GOk G) (w : (Jvm.Cond.fieldLink (mN M).cls idx (gC G) n d).before (gA G) (gZ G) = true)
    (wl : (Jvm.Cond.lays (gC G) (gC G) n d).before (gA G) (gZ G) = true ∨ ((Jvm.Cond.laysFinal (gC G) (gC G) n d).before (gA G) (gZ G) = true ∧ (mN M).cls = gC G ∧ (mN M).name = "<init>"))
    (hd : decode (mB M) pc = .ok (.putfield idx, 3)) (hF : (gF G)[j]? = some (n, d, ty)) (hk : k0 G ≤ i) (hi : h[i]? = some (.inl fs)) (hp : mput ty v = some v') (hn : Ev G M (pc + 3) L S (h.set i (.inl (fs.set j v'))) r) : Ev G M pc L (v :: .ref i :: S) h r := by
  have hs := hsl_set (gK G) h i (.inl fs) (.inl (fs.set j v')) hi rfl
  refine Ev.gen (by rw [List.length_set]; exact Nat.le_refl _) (by rw [hs]; exact Nat.le_refl _) rfl hn ?_
  intro p e R s m args below meth c T locs cells slots X hx hZ hown hby hml hnm hLm hfr hlo hsz hR hFr hc hsq
  obtain ⟨e1, e2, e3⟩ := hR.2.2.2 i _ hi
  obtain ⟨q1, q2⟩ := mput_spec (G := G) hp
  have hlt : j < fs.length := by rw [e2]; exact (List.getElem?_eq_some_iff.mp hF).1
  have F := e3 j n d ty _ hF (List.getElem?_eq_getElem hlt)
  obtain ⟨T', h', X', eT', W, st⟩ := putFN X hx hZ hown w Via.refl rfl F e1 (wl.imp id fun ⟨a, b, c⟩ => ⟨a, b, by rw [hnm]; exact c⟩) K.2.2.1 (K.1 j n d ty hF).2 q1 q2 (g := mkF m pc (arL G L) ((v :: Value.ref i :: S).map (tr G))) rfl rfl (hb hby hd)
  refine ⟨T', _, ?_, ?_, Fr.snoc X' hFr (rho_ge hk), st⟩
  · rw [hs, List.length_set, Nat.sub_self, Nat.sub_self, Nat.add_zero, Nat.add_zero]; exact X'
  · rw [eT']; exact hR.wrFld K hi hF W
/-! ### arrays -/
theorem get_arr {xs : List Int32} {c : Cell} (hs : c.slots = (xs.map Value.int).toArray) (k : Nat) : c.slots[k]? = (xs[k]?).map Value.int := by rw [hs]; simp
theorem arr_size {xs : List Int32} {c : Cell} (hs : c.slots = (xs.map Value.int).toArray) : c.slots.size = xs.length := by rw [hs]; simp
theorem Ev.arraylength {i : Nat} {b : Bool} {xs : List Int32} (hd : decode (mB M) pc = .ok (.arraylength, 1)) (hi : h[i]? = some (.inr (b, xs))) (hn : Ev G M (pc + 1) L (.int xs.length.toInt32 :: S) h r) : Ev G M pc L (.ref i :: S) h r := by
  refine Ev.same rfl hn ?_
  intro p e R s m args below meth c T locs cells slots X hx hZ hown hby hml hLm hfr hlo hR
  obtain ⟨cl, A, hs⟩ := hR.2.2.2 i _ hi
  refine ⟨T, X, rfl, fun target k => X.arraylength hx A.1 (State.isArrayOf_alike hZ.alike A.2.1) (g := mkF m pc (arL G L) ((Value.ref i :: S).map (tr G))) rfl rfl (hb hby hd) target ?_⟩
  rw [arr_size hs]; exact k
theorem Ev.iaload {i : Nat} {xs : List Int32} {j v : Int32} (hd : decode (mB M) pc = .ok (.iaload, 1)) (hi : h[i]? = some (.inr (false, xs))) (hj : ¬ j < 0) (hv : xs[j.toNatClampNeg]? = some v) (hn : Ev G M (pc + 1) L (.int v :: S) h r) : Ev G M pc L (.int j :: .ref i :: S) h r := by
  refine Ev.same rfl hn ?_
  intro p e R s m args below meth c T locs cells slots X hx hZ hown hby hml hLm hfr hlo hR
  obtain ⟨cl, A, hs⟩ := hR.2.2.2 i _ hi
  have hlt := (List.getElem?_eq_some_iff.mp hv).1
  exact ⟨T, X, rfl, fun target k => X.iaload hx A.1 (State.isArrayOf_alike hZ.alike A.2.1) A.2.2 (fun q => q.elim hj fun q => absurd (arr_size hs ▸ q) (Nat.not_le.mpr hlt)) (by rw [get_arr hs, hv]; rfl) (g := mkF m pc (arL G L) ((Value.int j :: Value.ref i :: S).map (tr G))) rfl rfl (hb hby hd) target k⟩
theorem Ev.baload {i : Nat} {xs : List Int32} {j v : Int32} (hd : decode (mB M) pc = .ok (.baload, 1)) (hi : h[i]? = some (.inr (true, xs))) (hj : ¬ j < 0) (hv : xs[j.toNatClampNeg]? = some v) (hn : Ev G M (pc + 1) L (.int v :: S) h r) : Ev G M pc L (.int j :: .ref i :: S) h r := by
  refine Ev.same rfl hn ?_
  intro p e R s m args below meth c T locs cells slots X hx hZ hown hby hml hLm hfr hlo hR
  obtain ⟨cl, A, hs⟩ := hR.2.2.2 i _ hi
  have hlt := (List.getElem?_eq_some_iff.mp hv).1
  exact ⟨T, X, rfl, fun target k => X.baloadBooleans hx A.1 (State.isArrayOf_alike hZ.alike A.2.1) A.2.2 (fun q => q.elim hj fun q => absurd (arr_size hs ▸ q) (Nat.not_le.mpr hlt)) (by rw [get_arr hs, hv]; rfl) (g := mkF m pc (arL G L) ((Value.int j :: Value.ref i :: S).map (tr G))) rfl rfl (hb hby hd) target k⟩
theorem Ev.iastore {i : Nat} {xs : List Int32} {j v : Int32} (hd : decode (mB M) pc = .ok (.iastore, 1)) (hk : k0 G ≤ i) (hi : h[i]? = some (.inr (false, xs))) (hj : ¬ j < 0) (hlt : j.toNatClampNeg < xs.length) (hn : Ev G M (pc + 1) L S (h.set i (.inr (false, xs.set j.toNatClampNeg v))) r) : Ev G M pc L (.int v :: .int j :: .ref i :: S) h r := by
  have hs := hsl_set (gK G) h i (.inr (false, xs)) (.inr (false, xs.set j.toNatClampNeg v)) hi (by simp [csl])
  refine Ev.gen (by rw [List.length_set]; exact Nat.le_refl _) (by rw [hs]; exact Nat.le_refl _) rfl hn ?_
  intro p e R s m args below meth c T locs cells slots X hx hZ hown hby hml hnm hLm hfr hlo hsz hR hFr hc hsq
  obtain ⟨cl, A, hsz'⟩ := hR.2.2.2 i _ hi
  obtain ⟨T', h', X', eT', W, st⟩ := stI X hx hZ rfl A (j := j) (x := v) (fun q => q.elim hj fun q => absurd (arr_size hsz' ▸ q) (Nat.not_le.mpr hlt)) (g := mkF m pc (arL G L) ((Value.int v :: Value.int j :: Value.ref i :: S).map (tr G))) rfl rfl (hb hby hd)
  refine ⟨T', _, ?_, ?_, Fr.snoc X' hFr (rho_ge hk), st⟩
  · rw [hs, List.length_set, Nat.sub_self, Nat.sub_self, Nat.add_zero, Nat.add_zero]; exact X'
  · rw [eT']; exact hR.wrArr hi W
theorem Ev.bastore {i : Nat} {xs : List Int32} {j v : Int32} (hd : decode (mB M) pc = .ok (.bastore, 1)) (hk : k0 G ≤ i) (hi : h[i]? = some (.inr (true, xs))) (hj : ¬ j < 0) (hlt : j.toNatClampNeg < xs.length) (hn : Ev G M (pc + 1) L S (h.set i (.inr (true, xs.set j.toNatClampNeg (v &&& 1)))) r) : Ev G M pc L (.int v :: .int j :: .ref i :: S) h r := by
  have hs := hsl_set (gK G) h i (.inr (true, xs)) (.inr (true, xs.set j.toNatClampNeg (v &&& 1))) hi (by simp [csl])
  refine Ev.gen (by rw [List.length_set]; exact Nat.le_refl _) (by rw [hs]; exact Nat.le_refl _) rfl hn ?_
  intro p e R s m args below meth c T locs cells slots X hx hZ hown hby hml hnm hLm hfr hlo hsz hR hFr hc hsq
  obtain ⟨cl, A, hsz'⟩ := hR.2.2.2 i _ hi
  obtain ⟨T', h', X', eT', W, st⟩ := stZ X hx hZ rfl A (j := j) (x := v) (fun q => q.elim hj fun q => absurd (arr_size hsz' ▸ q) (Nat.not_le.mpr hlt)) (g := mkF m pc (arL G L) ((Value.int v :: Value.int j :: Value.ref i :: S).map (tr G))) rfl rfl (hb hby hd)
  refine ⟨T', _, ?_, ?_, Fr.snoc X' hFr (rho_ge hk), st⟩
  · rw [hs, List.length_set, Nat.sub_self, Nat.sub_self, Nat.add_zero, Nat.add_zero]; exact X'
  · rw [eT']; exact hR.wrArr hi W
/-! ### making -/
theorem Ev.new {idx : Nat} {fs : List Value} (K : GOk G) (w : (Jvm.Cond.classLink (mN M).cls idx (gC G)).before (gA G) (gZ G) = true) (hd : decode (mB M) pc = .ok (.new idx, 3)) (hf : fs = (gF G).map fun f => defaultValue f.2.2)
    (hn : Ev G M (pc + 3) L (.ref h.length :: S) (h ++ [.inl fs]) r) : Ev G M pc L S h r := by
  subst hf
  have hs := hsl_push (gK G) h (.inl ((gF G).map fun f => defaultValue f.2.2))
  refine Ev.gen (by simp) (by rw [hs]; exact Nat.le_add_right _ _) rfl hn ?_
  intro p e R s m args below meth c T locs cells slots X hx hZ hown hby hml hnm hLm hfr hlo hsz hR hFr hc hsq
  have el : (h ++ [(.inl ((gF G).map fun f => defaultValue f.2.2) : MCell)]).length - h.length = 1 := by simp
  have es : hsl (gK G) (h ++ [.inl ((gF G).map fun f => defaultValue f.2.2)]) - hsl (gK G) h = gK G := by rw [hs]; simp [csl]
  rw [el] at hc
  rw [es] at hsq
  obtain ⟨T', h', X', eT', E, A, D, -, st⟩ := newO X hx hZ hown w K.2.2.1 K.2.2.2 rfl (g := mkF m pc (arL G L) (S.map (tr G))) rfl (hb hby hd) hc hsq
  rw [el, es]
  have hrho : rho G h.length = T.heap.size := by rw [rho_new hR.2.1]; have := hR.1; have := hR.2.1; omega
  refine ⟨T', _, X', ?_, hFr, fun target k => st target ?_⟩
  · rw [eT']
    refine hR.push E ?_ ⟨A, by simp, fun j n d ty v hf hv => ?_⟩
    · have h1 := X'.heapSize
      have h2 : T.heap.size < h'.size := A.lt
      rw [eT'] at h1
      omega
    · rw [List.getElem?_map, hf] at hv
      cases hv
      have := D (K.1 j n d ty hf).1 (K.1 j n d ty hf).2
      have e : tr G (defaultValue ty) = defaultValue ty := by cases ty <;> rfl
      rw [e]; exact this
  · rw [← hrho]; exact k
theorem Ev.newarray {aty : ArrayType} {b : Bool} {n : Int32} {k : Nat} (w : (Jvm.Cond.arrayClass (newarray.typeOf aty)).before (gA G) (gZ G) = true) (hb' : newarray.typeOf aty = kd b) (hd : decode (mB M) pc = .ok (.newarray aty, 2)) (hn0 : ¬ n < 0) (hk : n.toNatClampNeg = k) (hcap : k ≤ 67108864)
    (hn : Ev G M (pc + 2) L (.ref h.length :: S) (h ++ [.inr (b, List.replicate k 0)]) r) : Ev G M pc L (.int n :: S) h r := by
  subst hk
  have hs := hsl_push (gK G) h (.inr (b, List.replicate n.toNatClampNeg 0))
  refine Ev.gen (by simp) (by rw [hs]; exact Nat.le_add_right _ _) rfl hn ?_
  intro p e R s m args below meth c T locs cells slots X hx hZ hown hby hml hnm hLm hfr hlo hsz hR hFr hc hsq
  have el : (h ++ [(.inr (b, List.replicate n.toNatClampNeg 0) : MCell)]).length - h.length = 1 := by simp
  have es : hsl (gK G) (h ++ [.inr (b, List.replicate n.toNatClampNeg 0)]) - hsl (gK G) h = n.toNatClampNeg := by rw [hs]; simp [csl]
  rw [el] at hc
  rw [es] at hsq
  obtain ⟨T', h', cA, X', eT', E, A, st⟩ := newP X hx hZ w rfl (g := mkF m pc (arL G L) ((Value.int n :: S).map (tr G))) rfl (hb hby hd) rfl hn0 (cap := n.toNatClampNeg) (Nat.le_refl _) (by omega) hc hsq
  rw [el, es]
  have hrho : rho G h.length = T.heap.size := by rw [rho_new hR.2.1]; have := hR.1; have := hR.2.1; omega
  refine ⟨T', _, X', ?_, hFr, fun target k => st target ?_⟩
  · rw [eT']
    refine hR.push E ?_ ⟨_, hb' ▸ A, ?_⟩
    · have h1 := X'.heapSize
      have h2 : T.heap.size < h'.size := A.lt
      rw [eT'] at h1
      omega
    · have e0 : defaultValue (kd b) = .int 0 := by cases b <;> rfl
      show Array.replicate n.toNatClampNeg (defaultValue (kd b)) = _
      rw [e0]
      simp
  · rw [← hrho]; exact k
theorem Ev.initO {idx i : Nat} (w1 : (Jvm.Cond.methodLink (mN M).cls idx Lib.objectInit).before (gA G) (gZ G) = true) (w2 : (Jvm.Cond.instanceMethod Lib.objectInit).before (gA G) (gZ G) = true) (w3 : (Jvm.Cond.code Lib.objectInit ⟨#[0xb1]⟩ 1 none).before (gA G) (gZ G) = true)
    (hd : decode (mB M) pc = .ok (.invokespecial idx, 3)) (hf : 1 ≤ mF M) (hl : (S.map fun v => v.category).sum + 12 ≤ mW M) (hn : Ev G M (pc + 3) L S h r) : Ev G M pc L (.ref i :: S) h r := by
  refine Ev.same rfl hn ?_
  intro p e R s m args below meth c T locs cells slots X hx hZ hown hby hml hLm hfr hlo hR
  obtain ⟨T', X', e', st⟩ := RoadKit.initO X hx hZ hown w1 w2 w3 rfl (g := mkF m pc (arL G L) ((Value.ref i :: S).map (tr G))) rfl (by rw [hml, ← hLm]; simp [arL]) (a := rho G i) (rest := S.map (tr G)) rfl (hb hby hd) (Nat.le_trans hf hfr) (W := (S.map fun v => v.category).sum) (by rw [tr_cats]; show 2 * 0 + _ ≤ _; omega) (by omega)
  exact ⟨T', X', e', st⟩
/-! ### calls -/
def notMH (y : Mi) : Prop := (mN y).cls ≠ "java/lang/invoke/MethodHandle" ∧ (mN y).cls ≠ "java/lang/invoke/VarHandle"
theorem mapRev (G : Ctx) (args : List Value) : (args.reverse).map (tr G) = (args.map (tr G)).reverse := by simp
theorem vList (G : Ctx) (v : Option Value) (S : List Value) : (v.map (tr G)).toList ++ S.map (tr G) = (v.toList ++ S).map (tr G) := by cases v <;> simp
theorem back_of_evc {p : Program} {e : Env} {R : Room} {s : State} {args0 : Array Value} {below : List Frame} {y : Mi} {args : List Value} {r1 : Option Value × MHeap} {hr : Heap} {W : Nat} (hC : EvC G y args h r1) (hR : Rel G hr h) (hZ : (gZ G).Warmed39 s.vm)
    (wc : (Jvm.Cond.code (mN y) (mB y) (mL y) (mR y)).before (gA G) (gZ G) = true) (wz : (Jvm.Cond.initialized (mN y).cls).before (gA G) (gZ G) = true) (hf : mF y + 1 ≤ R.frames) (hl : W + (mL y + 11) + mW y ≤ R.locals) :
    Back (gL G) R p e below s args0 (mN y) 3 W (fun A a => a = (args.map (tr G)).toArray ∧ A.U.heap = hr ∧ A.cells + (r1.2.length - h.length) ≤ R.cells ∧ A.slots + (hsl (gK G) r1.2 - hsl (gK G) h) ≤ R.slots)
      (fun A _ v B => ∃ L, (v = r1.1.map (tr G) ∧ Fr (gN G) L ∧ Rel G B.U.heap r1.2) ∧ B.locs = A.locs ++ L ∧ B.cells = A.cells + (r1.2.length - h.length) ∧ B.slots = A.slots + (hsl (gK G) r1.2 - hsl (gK G) h)) :=
  backOf (Q := fun v hp L => v = r1.1.map (tr G) ∧ Fr (gN G) L ∧ Rel G hp r1.2) (rm := { frames := mF y, cells := r1.2.length - h.length, slots := hsl (gK G) r1.2 - hsl (gK G) h, locals := mW y })
    (hC.2 [] { frames := mF y, cells := r1.2.length - h.length, slots := hsl (gK G) r1.2 - hsl (gK G) h, locals := mW y } hr (Nat.le_refl _) (Nat.le_refl _) (Nat.le_refl _) (Nat.le_refl _) hR) hZ wc wz hf hl
/-- a private method of the class -/
theorem Ev.priv {y : Mi} {idx i : Nat} {args rest : List Value} {v : Option Value} {h1 : MHeap} {fs : List Value} (K : GOk G) (hcls : (mN y).cls = gC G) (hy : notMH y)
    (wl : (Jvm.Cond.methodLink (mN M).cls idx (mN y)).before (gA G) (gZ G) = true) (wi : (Jvm.Cond.instanceMethod (mN y)).before (gA G) (gZ G) = true) (wp : (Jvm.Cond.privateMethod (mN y)).before (gA G) (gZ G) = true)
    (wc : (Jvm.Cond.code (mN y) (mB y) (mL y) (mR y)).before (gA G) (gZ G) = true) (hlen : ∀ sig, parseMethodDescriptor (mN y).desc = some sig → args.length = sig.parameters.length)
    (hd : decode (mB M) pc = .ok (.invokevirtual idx, 3)) (hi : h[i]? = some (.inl fs)) (hC : EvC G y (.ref i :: args) h (v, h1)) (hfr : mF y + 1 ≤ mF M) (hlo : (rest.map fun v => v.category).sum + (mL y + 11) + mW y ≤ mW M)
    (hS : S = args.reverse ++ .ref i :: rest) (hn : Ev G M (pc + 3) L (v.toList ++ rest) h1 r) : Ev G M pc L S h r := by
  subst hS
  refine Ev.gen hC.1.1 hC.1.2 rfl hn ?_
  intro p e R s m args0 below meth c T locs cells slots X hx hZ hown hby hml hnm hLm hfr' hlo' hsz hR hFr hc hsq
  obtain ⟨e1, -, -⟩ := hR.2.2.2 i _ hi
  obtain ⟨cell, hcell, hobj⟩ := e1.cell
  have hwi : (Jvm.Cond.instanceMethod (mN y)).before args0 s = true := mvT hZ wi
  have hpr := Jvm.Cond.privateMethod_at (mvP hZ wp (args := #[]))
  have hsel : (Jvm.Cond.selects (mN y).cls (mN y) (mN y)).before args0 s = true := by
    obtain ⟨c0, k0', q1, q2, -, q4, -⟩ := Jvm.Cond.instantiable_spec (mvT hZ K.2.2.1 (args := #[]) (s := s))
    refine selects_self_of_private (c := c0) (k := k0') (by rw [hcls]; exact q1) q2 ?_ hpr hwi hy
    simp only [Bool.or_eq_false_iff] at q4
    exact q4.1
  obtain ⟨v', vm1, ⟨T', L', k', n'⟩, -, X', ⟨Lc, ⟨rfl, hF', hR'⟩, l1, l2, l3⟩, st⟩ := X.privateBack hx (y := mN y) hown (mvT hZ wl) hwi hsel hpr (mvT hZ wc) hy
    (back_of_evc (W := (rest.map fun v => v.category).sum) hC hR hZ wc (hcls ▸ K.2.2.2) (Nat.le_trans hfr hfr') (Nat.le_trans hlo hlo')) (g := mkF m pc (arL G L) ((args.reverse ++ Value.ref i :: rest).map (tr G))) rfl (by rw [hml, ← hLm]; simp [arL]) (Steps.refl _) hcell hobj
    (argsL := args.map (tr G)) (rest := rest.map (tr G)) (fun sig hsig => by rw [List.length_map]; exact hlen sig hsig) (by simp [tr]) (by rw [tr_cats]; show 2 * 0 + _ ≤ _; omega) (hb hby hd) (fun vm1 hW1 => ⟨rfl, rfl, hc, hsq⟩)
  dsimp only [Pt.U, Pt.locs, Pt.cells, Pt.slots] at X' l1 l2 l3 st hR'
  subst l1 l2 l3
  refine ⟨T', _, X', hR', hFr.app hF', fun target k => st.trans ?_⟩
  rw [vList]
  exact k
/-- a method of the class that no one overrides -/
theorem Ev.virt {y : Mi} {idx i : Nat} {args rest : List Value} {v : Option Value} {h1 : MHeap} {fs : List Value} (K : GOk G) (hcls : (mN y).cls = gC G) (hy : notMH y)
    (wl : (Jvm.Cond.methodLink (mN M).cls idx (mN y)).before (gA G) (gZ G) = true) (wd : (Jvm.Cond.declares (mN y)).before (gA G) (gZ G) = true) (wi : (Jvm.Cond.instanceMethod (mN y)).before (gA G) (gZ G) = true) (ws : (Jvm.Cond.selects (gC G) (mN y) (mN y)).before (gA G) (gZ G) = true)
    (wc : (Jvm.Cond.code (mN y) (mB y) (mL y) (mR y)).before (gA G) (gZ G) = true) (hlen : ∀ sig, parseMethodDescriptor (mN y).desc = some sig → args.length = sig.parameters.length)
    (hd : decode (mB M) pc = .ok (.invokevirtual idx, 3)) (hi : h[i]? = some (.inl fs)) (hC : EvC G y (.ref i :: args) h (v, h1)) (hfr : mF y + 1 ≤ mF M) (hlo : (rest.map fun v => v.category).sum + (mL y + 11) + mW y ≤ mW M)
    (hS : S = args.reverse ++ .ref i :: rest) (hn : Ev G M (pc + 3) L (v.toList ++ rest) h1 r) : Ev G M pc L S h r := by
  subst hS
  refine Ev.gen hC.1.1 hC.1.2 rfl hn ?_
  intro p e R s m args0 below meth c T locs cells slots X hx hZ hown hby hml hnm hLm hfr' hlo' hsz hR hFr hc hsq
  obtain ⟨e1, -, -⟩ := hR.2.2.2 i _ hi
  obtain ⟨cq, kq, qa, qb, qc⟩ := isOf (T := T) hZ rfl e1
  obtain ⟨v', vm1, ⟨T', L', k', n'⟩, -, X', ⟨Lc, ⟨rfl, hF', hR'⟩, l1, l2, l3⟩, st⟩ := X.virtualBack hx (y := mN y) (z := mN y) hown (mvT hZ wl) (mvT hZ wd) (notFace_of_selects (args := #[]) (mvT hZ ws)) (mvT hZ ws) (mvT hZ wi) hy
    (back_of_evc (W := (rest.map fun v => v.category).sum) hC hR hZ wc (hcls ▸ K.2.2.2) (Nat.le_trans hfr hfr') (Nat.le_trans hlo hlo')) qa qc (g := mkF m pc (arL G L) ((args.reverse ++ Value.ref i :: rest).map (tr G))) rfl (by rw [hml, ← hLm]; simp [arL]) (Steps.refl _)
    (argsL := args.map (tr G)) (rest := rest.map (tr G)) (fun sig hsig => by rw [List.length_map]; exact hlen sig hsig) (by simp [tr]) (by rw [tr_cats]; show 2 * 0 + _ ≤ _; omega) (hb hby hd) (fun vm1 hW1 => ⟨rfl, rfl, hc, hsq⟩)
  dsimp only [Pt.U, Pt.locs, Pt.cells, Pt.slots] at X' l1 l2 l3 st hR'
  subst l1 l2 l3
  refine ⟨T', _, X', hR', hFr.app hF', fun target k => st.trans ?_⟩
  rw [vList]
  exact k
/-- a constructor -/
theorem Ev.ctor {y : Mi} {idx i : Nat} {args rest : List Value} {v : Option Value} {h1 : MHeap} (hy1 : (mN y).name = "<init>") (hret : mR y = none) (hy : notMH y)
    (wl : (Jvm.Cond.methodLink (mN M).cls idx (mN y)).before (gA G) (gZ G) = true) (wi : (Jvm.Cond.instanceMethod (mN y)).before (gA G) (gZ G) = true)
    (wc : (Jvm.Cond.code (mN y) (mB y) (mL y) (mR y)).before (gA G) (gZ G) = true) (wz : (Jvm.Cond.initialized (mN y).cls).before (gA G) (gZ G) = true) (hlen : ∀ sig, parseMethodDescriptor (mN y).desc = some sig → args.length = sig.parameters.length)
    (hd : decode (mB M) pc = .ok (.invokespecial idx, 3)) (hC : EvC G y (.ref i :: args) h (v, h1)) (hfr : mF y + 1 ≤ mF M) (hlo : (rest.map fun v => v.category).sum + (mL y + 11) + mW y ≤ mW M)
    (hS : S = args.reverse ++ .ref i :: rest) (hn : Ev G M (pc + 3) L (v.toList ++ rest) h1 r) : Ev G M pc L S h r := by
  subst hS
  refine Ev.gen hC.1.1 hC.1.2 rfl hn ?_
  intro p e R s m args0 below meth c T locs cells slots X hx hZ hown hby hml hnm hLm hfr' hlo' hsz hR hFr hc hsq
  obtain ⟨v', vm1, ⟨T', L', k', n'⟩, -, X', ⟨Lc, ⟨rfl, hF', hR'⟩, l1, l2, l3⟩, st⟩ := X.specialBack hx (y := mN y) hy1 hown (mvT hZ wl) (mvT hZ wi) (mvT hZ (hret ▸ wc)) hy
    (back_of_evc (W := (rest.map fun v => v.category).sum) hC hR hZ wc wz (Nat.le_trans hfr hfr') (Nat.le_trans hlo hlo')) (g := mkF m pc (arL G L) ((args.reverse ++ Value.ref i :: rest).map (tr G))) rfl (by rw [hml, ← hLm]; simp [arL]) (Steps.refl _)
    (a := rho G i) (argsL := args.map (tr G)) (rest := rest.map (tr G)) (fun sig hsig => by rw [List.length_map]; exact hlen sig hsig) (by simp [tr]) (by rw [tr_cats]; show 2 * 0 + _ ≤ _; omega) (hb hby hd) (fun vm1 hW1 => ⟨rfl, rfl, hc, hsq⟩)
  dsimp only [Pt.U, Pt.locs, Pt.cells, Pt.slots] at X' l1 l2 l3 st hR'
  subst l1 l2 l3
  refine ⟨T', _, X', hR', hFr.app hF', fun target k => st.trans ?_⟩
  rw [vList]
  exact k
/-- a static method -/
theorem Ev.stat {y : Mi} {idx : Nat} {args rest : List Value} {v : Option Value} {h1 : MHeap} (hy : notMH y)
    (wl : (Jvm.Cond.methodLink (mN M).cls idx (mN y)).before (gA G) (gZ G) = true) (wst : (Jvm.Cond.static (mN y)).before (gA G) (gZ G) = true) (wz : (Jvm.Cond.initialized (mN y).cls).before (gA G) (gZ G) = true)
    (wc : (Jvm.Cond.code (mN y) (mB y) (mL y) (mR y)).before (gA G) (gZ G) = true) (hlen : ∀ sig, parseMethodDescriptor (mN y).desc = some sig → args.length = sig.parameters.length)
    (hd : decode (mB M) pc = .ok (.invokestatic idx, 3)) (hC : EvC G y args h (v, h1)) (hfr : mF y + 1 ≤ mF M) (hlo : (rest.map fun v => v.category).sum + (mL y + 11) + mW y ≤ mW M)
    (hS : S = args.reverse ++ rest) (hn : Ev G M (pc + 3) L (v.toList ++ rest) h1 r) : Ev G M pc L S h r := by
  subst hS
  refine Ev.gen hC.1.1 hC.1.2 rfl hn ?_
  intro p e R s m args0 below meth c T locs cells slots X hx hZ hown hby hml hnm hLm hfr' hlo' hsz hR hFr hc hsq
  obtain ⟨v', vm1, ⟨T', L', k', n'⟩, -, X', ⟨Lc, ⟨rfl, hF', hR'⟩, l1, l2, l3⟩, st⟩ := Jvm.LawKit.callS X hx (y := mN y) hown (mvT hZ wl) (mvT hZ wst) (mvT hZ wz) (mvT hZ wc) hy
    (back_of_evc (W := (rest.map fun v => v.category).sum) hC hR hZ wc wz (Nat.le_trans hfr hfr') (Nat.le_trans hlo hlo')) (g := mkF m pc (arL G L) ((args.reverse ++ rest).map (tr G))) rfl (by rw [hml, ← hLm]; simp [arL])
    (argsL := args.map (tr G)) (rest := rest.map (tr G)) (fun sig hsig => by rw [List.length_map]; exact hlen sig hsig) (by simp) (by rw [tr_cats]; show 2 * 0 + _ ≤ _; omega) (hb hby hd) (fun vm1 hW1 => ⟨rfl, rfl, hc, hsq⟩)
  dsimp only [Pt.U, Pt.locs, Pt.cells, Pt.slots] at X' l1 l2 l3 st hR'
  subst l1 l2 l3
  refine ⟨T', _, X', hR', hFr.app hF', fun target k => st target ?_⟩
  rw [vList]
  exact k
/-! ### returns -/
theorem Ev.ret {v : Option Value} (st : ∀ {p : Program} {e : Env} {R : Room} {s : State} {m : MethodId} {args : Array Value} {below : List Frame} {meth : Method} {c : Code} {T : State} {locs : List Loc} {cells slots : Nat},
      Stand p (gL G) e R s m args below meth c T locs cells slots → p.tables.exec = Jvm.exec → c.code = mB M → meth.sig.returnType = mR M → ∀ fs,
      (∀ (f : JFrame) (acts : List Action), f.method = m → f.locked = none → f.entered = [] → (doReturn e (T.setTop f) acts (v.map (tr G))).1 = T.setFrames fs) → Steps p.tables e below (T.setTop (mkF m pc (arL G L) (S.map (tr G)))) (T.setFrames fs)) :
    Ev G M pc L S h (v, h) := by
  refine ⟨⟨Nat.le_refl _, Nat.le_refl _⟩, ?_⟩
  intro p e R s m args below meth c T locs cells slots X hx hZ hown hby hml hret hnm hLm hfr hlo hsz hR hF hc hs
  refine ⟨T, locs, ?_, hR, hF, st X hx hby hret⟩
  rw [Nat.sub_self, Nat.sub_self, Nat.add_zero, Nat.add_zero]
  exact X
theorem Ev.ireturn {z : Int32} (hret : mR M = some .int) (hd : decode (mB M) pc = .ok (.ireturn, 1)) : Ev G M pc L (.int z :: S) h (some (.int z), h) :=
  Ev.ret fun X hx hby hr fs hl => retOut X hx (hr.trans hret) rfl (Or.inl ⟨rfl, Or.inl rfl, z, rfl⟩) (hb hby hd) hl
theorem Ev.zreturn {z : Int32} (hret : mR M = some .boolean) (hd : decode (mB M) pc = .ok (.ireturn, 1)) : Ev G M pc L (.int z :: S) h (some (.int (z &&& 1)), h) :=
  Ev.ret fun X hx hby hr fs hl => retN X hx (t := .boolean) (hr.trans hret) (Or.inl rfl) (hb hby hd) hl
theorem Ev.lreturn {z : Int64} (hret : mR M = some .long) (hd : decode (mB M) pc = .ok (.lreturn, 1)) : Ev G M pc L (.long z :: S) h (some (.long z), h) :=
  Ev.ret fun X hx hby hr fs hl => retOut X hx (hr.trans hret) rfl (Or.inr (Or.inl ⟨rfl, rfl, z, rfl⟩)) (hb hby hd) hl
theorem Ev.vreturn (hret : mR M = none) (hd : decode (mB M) pc = .ok (.return_, 1)) : Ev G M pc L [] h (none, h) :=
  Ev.ret fun X hx hby hr fs hl => X.returnOut hx (hr.trans hret) (hb hby hd) hl
/-! ### entering -/
def margs : List Value → List Slot
  | [] => []
  | v :: vs => if v.category = 2 then .val v :: .second :: margs vs else .val v :: margs vs
theorem margs_fold (vs : List Value) : ∀ acc : Array Slot, vs.foldl (init := acc) (fun acc v => if v.category = 2 then (acc.push (.val v)).push .second else acc.push (.val v)) = acc ++ (margs vs).toArray := by
  induction vs with
  | nil => intro acc; simp [margs]
  | cons v vs ih =>
    intro acc
    rw [List.foldl_cons, ih]
    by_cases h : v.category = 2
    · simp [margs, h]
    · simp [margs, h]
theorem margs_map (G : Ctx) : ∀ vs : List Value, margs (vs.map (tr G)) = (margs vs).map (trS G)
  | [] => rfl
  | v :: vs => by
    have ih := margs_map G vs
    by_cases h : v.category = 2
    · simp only [List.map_cons, margs, tr_cat, h, if_true, ih]; rfl
    · simp only [List.map_cons, margs, tr_cat, h, if_false, ih]; rfl
def ment (args : List Value) (k : Nat) : List Slot := margs args ++ List.replicate (k - (margs args).length) .unset
theorem entry_eq (G : Ctx) (m : MethodId) (args : List Value) (k : Nat) : entryFrame m (args.map (tr G)).toArray k = mkF m 0 (arL G (ment args k)) [] := by
  have e : argsToLocals (args.map (tr G)).toArray k = arL G (ment args k) := by
    unfold argsToLocals arL ment
    have q := margs_fold (args.map (tr G)) #[]
    rw [List.foldl_toArray']
    · rw [q, margs_map]
      simp [trS]
    · simp
  unfold entryFrame
  rw [e]
theorem EvC.enter {y : Mi} {args : List Value} {L0 : List Slot} (hp : plainFor (mN y) = true) (hv : mR y = none → r.1 = none) (hL : ment args (mL y) = L0) (hlen : L0.length = mL y) (hn : Ev G y 0 L0 [] h r) : EvC G y args h r := by
  subst hL
  refine ⟨hn.1, fun ws R hr hf hl hc hs hR => ?_⟩
  refine MetFree.of_bodySF hp hisR ?_
  intro p e s m args' below meth c s₁ Bd hml0 hP hK
  obtain ⟨rfl, hZ, hh⟩ := hP
  have X0 : Stand p (gL G) e R s m _ below meth c s₁ [] 0 0 := Stand.of_body Bd
  have e0 : s₁.heap = hr := by rw [← hh, Bd.state]; rfl
  obtain ⟨T', locs', X', R', F', st⟩ := hn.2 p e R s m _ below meth c s₁ [] 0 0 X0 Bd.exec hZ (findClass_of_methodNamed Bd.named) Bd.bytes hml0 Bd.returns (name_of_methodNamed Bd.named Bd.method).1 hlen hf hl (by rw [e0, hh]; rfl) (by rw [e0]; exact hR) (Fr.nil _) (by omega) (by omega)
  rw [Nat.zero_add, Nat.zero_add] at X'
  obtain ⟨fs, hret, hrun, hended, hW, hsame⟩ := X'.leave (v := r.1.map (tr G)) (fun q => by rw [hv (Bd.returns.symm.trans q)]; rfl)
  refine ⟨_, _, castTop (entry_eq G m args (mL y)) (st fs hret), hrun, hended, _, _, rfl, ⟨rfl, F', ?_⟩, ⟨_, rfl⟩, hW, hsame⟩
  exact R'
end Rules
end Jvm.Own
namespace Jvm.Own
open Sem ClassFile Op Lib Jvm.Stand Jvm.Free Jvm.LawKit Jvm.RoadKit
/-! ## 4. An object as two functions: its ints by the field's number, its arrays by the field's number and the place -/
abbrev St := (Nat → Int32) × (Nat → Nat → Int32)
def setI (s : St) (j : Nat) (z : Int32) : St := (fun k => if k = j then z else s.1 k, s.2)
def setA (s : St) (j i : Nat) (z : Int32) : St := (s.1, fun k x => if k = j ∧ x = i then z else s.2 k x)
def zeroS : St := (fun _ => 0, fun _ _ => 0)
theorem setI_1 (s : St) (j : Nat) (z : Int32) (k : Nat) : (setI s j z).1 k = if k = j then z else s.1 k := rfl
theorem setI_2 (s : St) (j : Nat) (z : Int32) : (setI s j z).2 = s.2 := rfl
theorem setA_1 (s : St) (j i : Nat) (z : Int32) : (setA s j i z).1 = s.1 := rfl
theorem setA_2 (s : St) (j i : Nat) (z : Int32) (k x : Nat) : (setA s j i z).2 k x = if k = j ∧ x = i then z else s.2 k x := rfl
def ix (j : Int32) : Nat := j.toNatClampNeg
/-- the place j lies in an array of n -/
def inb (j : Int32) (n : Nat) : Prop := ¬ j < 0 ∧ ix j < n
instance (j : Int32) (n : Nat) : Decidable (inb j n) := inferInstanceAs (Decidable (_ ∧ _))
def bnd {α β : Type} (x : α) (f : α → β) : β := f x
theorem bnd_eq {α β : Type} (x : α) (f : α → β) : bnd x f = f x := rfl
def tab (n : Nat) (f : Nat → Int32) : List Int32 := (List.range n).map f
theorem tab_len (n : Nat) (f : Nat → Int32) : (tab n f).length = n := by simp [tab]
theorem tab_get {n : Nat} {f : Nat → Int32} {i : Nat} (h : i < n) : (tab n f)[i]? = some (f i) := by simp [tab, h]
theorem tab_set {n : Nat} {f : Nat → Int32} {i : Nat} {z : Int32} : (tab n f).set i z = tab n (fun x => if x = i then z else f x) := by
  apply List.ext_getElem?
  intro k
  rw [List.getElem?_set]
  by_cases h : i = k
  · subst h
    by_cases q : i < n
    · simp [tab, q]
    · simp [tab, q]
  · by_cases q : k < n
    · simp [tab, q, h, Ne.symm h]
    · simp [tab, q, h]
theorem tab_zero (n : Nat) : tab n (fun _ => 0) = List.replicate n 0 := by
  apply List.ext_getElem?
  intro k
  by_cases q : k < n <;> simp [tab, q]
theorem tab_of (xs : List Int32) : xs = tab xs.length (fun i => xs.getD i 0) := by
  apply List.ext_getElem?
  intro k
  by_cases q : k < xs.length
  · simp [tab, q]
  · simp [tab, q]
def isA : FieldType → Bool
  | .array _ => true
  | _ => false
def isB : FieldType → Bool
  | .boolean => true
  | _ => false
def fv1 (r : Nat → Nat) (s : St) (j : Nat) (f : Fd) : Value := match f.2.2 with
  | .array _ => .ref (r j)
  | _ => .int (s.1 j)
def fvA (r : Nat → Nat) (s : St) : Nat → List Fd → List Value
  | _, [] => []
  | j, f :: fs => fv1 r s j f :: fvA r s (j + 1) fs
theorem fvA_get (r : Nat → Nat) (s : St) : ∀ (F : List Fd) (k j : Nat), (fvA r s k F)[j]? = (F[j]?).map (fv1 r s (k + j))
  | [], _, _ => by simp [fvA]
  | f :: fs, k, 0 => by simp [fvA]
  | f :: fs, k, j + 1 => by
    have := fvA_get r s fs (k + 1) j
    simp only [fvA, List.getElem?_cons_succ, this]
    rw [show k + 1 + j = k + (j + 1) by omega]
theorem fvA_len (r : Nat → Nat) (s : St) : ∀ (F : List Fd) (k : Nat), (fvA r s k F).length = F.length
  | [], _ => rfl
  | f :: fs, k => by simp [fvA, fvA_len r s fs (k + 1)]
theorem fvA_set {r : Nat → Nat} {s : St} {F : List Fd} {j : Nat} {f : Fd} {z : Int32} (hF : F[j]? = some f) (ht : isA f.2.2 = false) : (fvA r s 0 F).set j (.int z) = fvA r (setI s j z) 0 F := by
  apply List.ext_getElem?
  intro k
  rw [List.getElem?_set, fvA_get, fvA_get, Nat.zero_add]
  by_cases h : j = k
  · subst h
    simp only [if_true, fvA_len, (List.getElem?_eq_some_iff.mp hF).1, hF, Option.map_some]
    congr 1
    unfold fv1
    split
    · rename_i t e; rw [e] at ht; cases ht
    · simp [setI_1]
  · simp only [h, if_false]
    cases F[k]? with
    | none => rfl
    | some g =>
      simp only [Option.map_some]
      congr 1
      unfold fv1
      split
      · rfl
      · rw [setI_1, if_neg (Ne.symm h)]
theorem fvA_same (r : Nat → Nat) {s s' : St} (h : s.1 = s'.1) : ∀ (F : List Fd) (k : Nat), fvA r s k F = fvA r s' k F
  | [], _ => rfl
  | f :: fs, k => by
    simp only [fvA, fvA_same r h fs (k + 1)]
    congr 1
    unfold fv1
    split
    · rfl
    · rw [h]
/-- the heap K s shows the object at o, its arrays at r, as s tells -/
def View (G : Ctx) (Ln : Nat → Nat) (K : St → MHeap) (o : Nat) (r : Nat → Nat) : Prop :=
  k0 G ≤ o ∧ (∀ s, (K s)[o]? = some (.inl (fvA r s 0 (gF G)))) ∧
  (∀ s j f z, (gF G)[j]? = some f → isA f.2.2 = false → (K s).set o (.inl ((fvA r s 0 (gF G)).set j (.int z))) = K (setI s j z)) ∧
  (∀ j n d t, (gF G)[j]? = some (n, d, .array t) → k0 G ≤ r j ∧ (∀ s, (K s)[r j]? = some (.inr (isB t, tab (Ln j) (s.2 j)))) ∧ ∀ s i z, i < Ln j → (K s).set (r j) (.inr (isB t, (tab (Ln j) (s.2 j)).set i z)) = K (setA s j i z))
section ViewRules
variable {G : Ctx} {M : Mi} {pc : Nat} {L : List Slot} {S : List Value} {rr : Option Value × MHeap} {Ln : Nat → Nat} {K : St → MHeap} {o : Nat} {r : Nat → Nat} {s : St}
theorem Ev.gI {idx j : Nat} {n d : String} {ty : FieldType} (V : View G Ln K o r) (w : (Jvm.Cond.fieldLink (mN M).cls idx (gC G) n d).before (gA G) (gZ G) = true) (hd : decode (mB M) pc = .ok (.getfield idx, 3)) (hF : (gF G)[j]? = some (n, d, ty)) (ht : isA ty = false)
    (hn : Ev G M (pc + 3) L (.int (s.1 j) :: S) (K s) rr) : Ev G M pc L (.ref o :: S) (K s) rr :=
  Ev.getfield w hd hF (V.2.1 s) (v := .int (s.1 j)) (by rw [fvA_get, hF, Nat.zero_add]; simp only [Option.map_some, fv1]; cases ty <;> first | rfl | cases ht) hn
theorem Ev.gAr {idx j : Nat} {n d : String} {t : FieldType} (V : View G Ln K o r) (w : (Jvm.Cond.fieldLink (mN M).cls idx (gC G) n d).before (gA G) (gZ G) = true) (hd : decode (mB M) pc = .ok (.getfield idx, 3)) (hF : (gF G)[j]? = some (n, d, .array t))
    (hn : Ev G M (pc + 3) L (.ref (r j) :: S) (K s) rr) : Ev G M pc L (.ref o :: S) (K s) rr :=
  Ev.getfield w hd hF (V.2.1 s) (v := .ref (r j)) (by rw [fvA_get, hF, Nat.zero_add]; rfl) hn
theorem Ev.pI {idx j : Nat} {n d : String} {z : Int32} (V : View G Ln K o r) (Kk : GOk G) (w : (Jvm.Cond.fieldLink (mN M).cls idx (gC G) n d).before (gA G) (gZ G) = true)
    (wl : (Jvm.Cond.lays (gC G) (gC G) n d).before (gA G) (gZ G) = true ∨ ((Jvm.Cond.laysFinal (gC G) (gC G) n d).before (gA G) (gZ G) = true ∧ (mN M).cls = gC G ∧ (mN M).name = "<init>"))
    (hd : decode (mB M) pc = .ok (.putfield idx, 3)) (hF : (gF G)[j]? = some (n, d, .int)) (hn : Ev G M (pc + 3) L S (K (setI s j z)) rr) : Ev G M pc L (.int z :: .ref o :: S) (K s) rr := by
  refine Ev.putfield Kk w wl hd hF V.1 (V.2.1 s) (v' := .int z) rfl ?_
  rw [V.2.2.1 s j _ z hF rfl]; exact hn
theorem Ev.pZ {idx j : Nat} {n d : String} {z : Int32} (V : View G Ln K o r) (Kk : GOk G) (w : (Jvm.Cond.fieldLink (mN M).cls idx (gC G) n d).before (gA G) (gZ G) = true)
    (wl : (Jvm.Cond.lays (gC G) (gC G) n d).before (gA G) (gZ G) = true ∨ ((Jvm.Cond.laysFinal (gC G) (gC G) n d).before (gA G) (gZ G) = true ∧ (mN M).cls = gC G ∧ (mN M).name = "<init>"))
    (hd : decode (mB M) pc = .ok (.putfield idx, 3)) (hF : (gF G)[j]? = some (n, d, .boolean)) (hn : Ev G M (pc + 3) L S (K (setI s j (z &&& 1))) rr) : Ev G M pc L (.int z :: .ref o :: S) (K s) rr := by
  refine Ev.putfield Kk w wl hd hF V.1 (V.2.1 s) (v' := .int (z &&& 1)) rfl ?_
  rw [V.2.2.1 s j _ _ hF rfl]; exact hn
theorem Ev.ial {j : Nat} {n d : String} {i : Int32} {N : Nat} (V : View G Ln K o r) (hF : (gF G)[j]? = some (n, d, .array .int)) (hN : Ln j = N) (hd : decode (mB M) pc = .ok (.iaload, 1)) (hb : inb i N) (hn : Ev G M (pc + 1) L (.int (s.2 j (ix i)) :: S) (K s) rr) : Ev G M pc L (.int i :: .ref (r j) :: S) (K s) rr :=
  Ev.iaload hd ((V.2.2.2 j n d _ hF).2.1 s) hb.1 (tab_get (hN ▸ hb.2)) hn
theorem Ev.bal {j : Nat} {n d : String} {i : Int32} {N : Nat} (V : View G Ln K o r) (hF : (gF G)[j]? = some (n, d, .array .boolean)) (hN : Ln j = N) (hd : decode (mB M) pc = .ok (.baload, 1)) (hb : inb i N) (hn : Ev G M (pc + 1) L (.int (s.2 j (ix i)) :: S) (K s) rr) : Ev G M pc L (.int i :: .ref (r j) :: S) (K s) rr :=
  Ev.baload hd ((V.2.2.2 j n d _ hF).2.1 s) hb.1 (tab_get (hN ▸ hb.2)) hn
theorem Ev.ias {j : Nat} {n d : String} {i z : Int32} {N : Nat} (V : View G Ln K o r) (hF : (gF G)[j]? = some (n, d, .array .int)) (hN : Ln j = N) (hd : decode (mB M) pc = .ok (.iastore, 1)) (hb : inb i N) (hn : Ev G M (pc + 1) L S (K (setA s j (ix i) z)) rr) : Ev G M pc L (.int z :: .int i :: .ref (r j) :: S) (K s) rr := by
  obtain ⟨q1, q2, q3⟩ := V.2.2.2 j n d _ hF
  refine Ev.iastore hd q1 (q2 s) hb.1 (by rw [tab_len, hN]; exact hb.2) ?_
  have := q3 s (ix i) z (hN ▸ hb.2)
  exact this ▸ hn
theorem Ev.bas {j : Nat} {n d : String} {i z : Int32} {N : Nat} (V : View G Ln K o r) (hF : (gF G)[j]? = some (n, d, .array .boolean)) (hN : Ln j = N) (hd : decode (mB M) pc = .ok (.bastore, 1)) (hb : inb i N) (hn : Ev G M (pc + 1) L S (K (setA s j (ix i) (z &&& 1))) rr) : Ev G M pc L (.int z :: .int i :: .ref (r j) :: S) (K s) rr := by
  obtain ⟨q1, q2, q3⟩ := V.2.2.2 j n d _ hF
  refine Ev.bastore hd q1 (q2 s) hb.1 (by rw [tab_len, hN]; exact hb.2) ?_
  have := q3 s (ix i) (z &&& 1) (hN ▸ hb.2)
  exact this ▸ hn
theorem Ev.sal {h : MHeap} {i : Int32} {N k : Nat} {f : Nat → Int32} (hs : h[k]? = some (.inr (false, tab N f))) (hd : decode (mB M) pc = .ok (.iaload, 1)) (hb : inb i N) (hn : Ev G M (pc + 1) L (.int (f (ix i)) :: S) h rr) : Ev G M pc L (.int i :: .ref k :: S) h rr :=
  Ev.iaload hd hs hb.1 (tab_get hb.2) hn
theorem Ev.sln {h : MHeap} {N k : Nat} {f : Nat → Int32} (hs : h[k]? = some (.inr (false, tab N f))) (hd : decode (mB M) pc = .ok (.arraylength, 1)) (hn : Ev G M (pc + 1) L (.int N.toInt32 :: S) h rr) : Ev G M pc L (.ref k :: S) h rr :=
  Ev.arraylength hd hs (by rw [tab_len]; exact hn)
theorem Ev.zret1 {h : MHeap} (hret : mR M = some .boolean) (hd : decode (mB M) pc = .ok (.ireturn, 1)) : Ev G M pc L (.int 1 :: S) h (some (.int 1), h) := Ev.zreturn hret hd
theorem Ev.zret0 {h : MHeap} (hret : mR M = some .boolean) (hd : decode (mB M) pc = .ok (.ireturn, 1)) : Ev G M pc L (.int 0 :: S) h (some (.int 0), h) := Ev.zreturn hret hd
/-- a slot over which an int may be stored at once -/
def one1 : Slot → Bool
  | .unset => true
  | .val v => v.category == 1
  | .second => false
theorem mst_one {l : List Slot} {i : Nat} {v : Value} {o : Slot} (ho : l[i]? = some o) (h1 : one1 o = true) (hv : v.category = 1) : mst l i v = some (l.set i (.val v)) := by
  have hlt := (List.getElem?_eq_some_iff.mp ho).1
  have e : lstoreSelf l i v = some (l.set i (.val v)) := by simp [lstoreSelf, lsetAt, hlt, hv]
  unfold mst
  rw [ho]
  cases o with
  | unset => exact e
  | second => cases h1
  | val w =>
    have : w.category = 1 := by simpa [one1] using h1
    simp only [this]
    exact e
theorem Ev.istD {k : Nat} {v : Int32} {L' : List Slot} {o : Slot} {h : MHeap} (hd : decode (mB M) pc = .ok (.istore k, 2)) (ho : L[k]? = some o) (h1 : one1 o = true) (hl : L.set k (.val (.int v)) = L') (hn : Ev G M (pc + 2) L' S h rr) : Ev G M pc L (.int v :: S) h rr :=
  Ev.istore hd (by rw [mst_one ho h1 rfl, hl]) hn
theorem Ev.istDN {k : Fin 4} {v : Int32} {L' : List Slot} {o : Slot} {h : MHeap} (hd : decode (mB M) pc = .ok (.istore_n k, 1)) (ho : L[k.val]? = some o) (h1 : one1 o = true) (hl : L.set k.val (.val (.int v)) = L') (hn : Ev G M (pc + 1) L' S h rr) : Ev G M pc L (.int v :: S) h rr :=
  Ev.istoreN hd (by rw [mst_one ho h1 rfl, hl]) hn
/-- a pair of slots over which a long may be stored at once -/
def two2 (a b : Slot) : Prop := (one1 a = true ∧ one1 b = true) ∨ (∃ x, a = .val (.long x) ∧ b = .second)
theorem set_set2 {l : List Slot} {i : Nat} {a b c : Slot} : ((l.set (i + 1) a).set i b).set (i + 1) c = (l.set i b).set (i + 1) c := by
  rw [List.set_comm _ _ (by omega : i + 1 ≠ i), List.set_set]
theorem mst_two {l : List Slot} {i : Nat} {v : Int64} {o o' : Slot} (ho : l[i]? = some o) (ho' : l[i + 1]? = some o') (h2 : two2 o o') : mst l i (.long v) = some ((l.set i (.val (.long v))).set (i + 1) .second) := by
  have hlt := (List.getElem?_eq_some_iff.mp ho).1
  have hlt' := (List.getElem?_eq_some_iff.mp ho').1
  rcases h2 with ⟨h1, h1'⟩ | ⟨x, rfl, rfl⟩
  · have e : lstoreSelf l i (.long v) = some ((l.set i (.val (.long v))).set (i + 1) .second) := by
      have q : (l.set i (.val (.long v)))[i + 1]? = some o' := by rw [List.getElem?_set_ne (by omega)]; exact ho'
      have hcat : (Value.long v).category = 2 := rfl
      simp only [lstoreSelf, lsetAt, hlt, if_true, hcat, q]
      cases o' with
      | unset => simp [hlt']
      | second => cases h1'
      | val w =>
        have : w.category = 1 := by simpa [one1] using h1'
        simp [this, hlt']
    unfold mst
    rw [ho]
    cases o with
    | unset => exact e
    | second => cases h1
    | val w =>
      have : w.category = 1 := by simpa [one1] using h1
      simp only [this]
      exact e
  · unfold mst
    rw [ho]
    have q : ((l.set (i + 1) Slot.unset).set i (.val (.long v)))[i + 1]? = some .unset := by
      rw [List.getElem?_set_ne (by omega), List.getElem?_set_self hlt']
    simp only [Value.category, if_true, lsetAt, hlt', lstoreSelf, List.length_set, hlt, q, set_set2]
theorem Ev.lstD {k : Nat} {v : Int64} {L' : List Slot} {o o' : Slot} {h : MHeap} (hd : decode (mB M) pc = .ok (.lstore k, 2)) (ho : L[k]? = some o) (ho' : L[k + 1]? = some o') (h2 : two2 o o') (hl : (L.set k (.val (.long v))).set (k + 1) .second = L') (hn : Ev G M (pc + 2) L' S h rr) : Ev G M pc L (.long v :: S) h rr :=
  Ev.lstore hd (by rw [mst_two ho ho' h2, hl]) hn
theorem Ev.lstDN {k : Fin 4} {v : Int64} {L' : List Slot} {o o' : Slot} {h : MHeap} (hd : decode (mB M) pc = .ok (.lstore_n k, 1)) (ho : L[k.val]? = some o) (ho' : L[k.val + 1]? = some o') (h2 : two2 o o') (hl : (L.set k.val (.val (.long v))).set (k.val + 1) .second = L') (hn : Ev G M (pc + 1) L' S h rr) : Ev G M pc L (.long v :: S) h rr :=
  Ev.lstoreN hd (by rw [mst_two ho ho' h2, hl]) hn
end ViewRules
/-! ## 5. One object among others -/
/-- al: the array fields in the order in which the constructor makes them, each with 'of booleans' -/
def rA (o : Nat) (al : List (Nat × Bool)) (j : Nat) : Nat := o + 1 + al.findIdx (fun q => q.1 == j)
def arr1 (Ln : Nat → Nat) (s : St) (q : Nat × Bool) : MCell := .inr (q.2, tab (Ln q.1) (s.2 q.1))
def KO (F : List Fd) (al : List (Nat × Bool)) (Ln : Nat → Nat) (o : Nat) (s : St) : MHeap := .inl (fvA (rA o al) s 0 F) :: al.map (arr1 Ln s)
def KH (F : List Fd) (al : List (Nat × Bool)) (Ln : Nat → Nat) (pre post : MHeap) (s : St) : MHeap := pre ++ (KO F al Ln pre.length s ++ post)
def alOk (F : List Fd) (al : List (Nat × Bool)) : Bool := (List.range F.length).all (fun j => match F[j]? with
  | some (_, _, .array t) => al[al.findIdx (fun q => q.1 == j)]? == some (j, isB t)
  | _ => true)
theorem KO_len {F : List Fd} {al : List (Nat × Bool)} {Ln : Nat → Nat} {o : Nat} {s : St} : (KO F al Ln o s).length = al.length + 1 := by simp [KO]
theorem app_get (pre post l : MHeap) (k : Nat) (h : k < l.length) : (pre ++ (l ++ post))[pre.length + k]? = l[k]? := by
  rw [List.getElem?_append_right (by omega), Nat.add_sub_cancel_left, List.getElem?_append_left h]
theorem app_set (pre post l : MHeap) (k : Nat) (c : MCell) (h : k < l.length) : (pre ++ (l ++ post)).set (pre.length + k) c = pre ++ (l.set k c ++ post) := by
  rw [List.set_append_right _ _ (by omega), Nat.add_sub_cancel_left, List.set_append_left _ _ h]
theorem view_of {G : Ctx} {al : List (Nat × Bool)} {Ln : Nat → Nat} {pre post : MHeap} (hk : k0 G ≤ pre.length) (h1 : alOk (gF G) al = true) (h2 : (al.map (·.1)).Nodup) :
    View G Ln (KH (gF G) al Ln pre post) pre.length (rA pre.length al) := by
  refine ⟨hk, fun s => ?_, fun s j f z hF ht => ?_, fun j n d t hF => ?_⟩
  · have := app_get pre post (KO (gF G) al Ln pre.length s) 0 (by rw [KO_len]; omega)
    exact this
  · have := app_set pre post (KO (gF G) al Ln pre.length s) 0 (.inl ((fvA (rA pre.length al) s 0 (gF G)).set j (.int z))) (by rw [KO_len]; omega)
    refine Eq.trans this ?_
    show pre ++ ((.inl _ :: al.map (arr1 Ln s)) ++ post) = pre ++ ((.inl _ :: al.map (arr1 Ln (setI s j z))) ++ post)
    rw [fvA_set hF ht]
    rfl
  · have hj : j < (gF G).length := (List.getElem?_eq_some_iff.mp hF).1
    have hq := List.all_eq_true.mp h1 j (List.mem_range.mpr hj)
    simp only [hF, beq_iff_eq] at hq
    have hlt := (List.getElem?_eq_some_iff.mp hq).1
    have hlen : ∀ s, al.findIdx (fun q => q.1 == j) + 1 < (KO (gF G) al Ln pre.length s).length := fun s => by rw [KO_len]; omega
    have hr : rA pre.length al j = pre.length + (al.findIdx (fun q => q.1 == j) + 1) := by unfold rA; omega
    refine ⟨by rw [hr]; omega, fun s => ?_, fun s i z hi => ?_⟩
    · rw [hr]
      refine (app_get pre post _ _ (hlen s)).trans ?_
      show (al.map (arr1 Ln s))[al.findIdx fun q => q.1 == j]? = _
      rw [List.getElem?_map, hq]
      rfl
    · rw [hr]
      refine (app_set pre post _ _ _ (hlen s)).trans ?_
      show pre ++ ((.inl (fvA (rA pre.length al) s 0 (gF G)) :: (al.map (arr1 Ln s)).set (al.findIdx fun q => q.1 == j) (.inr (isB t, (tab (Ln j) (s.2 j)).set i z))) ++ post) = pre ++ ((.inl (fvA (rA pre.length al) (setA s j i z) 0 (gF G)) :: al.map (arr1 Ln (setA s j i z))) ++ post)
      rw [fvA_same (s := s) (s' := setA s j i z) _ rfl]
      congr 3
      apply List.ext_getElem?
      intro k
      rw [List.getElem?_set, List.getElem?_map, List.getElem?_map, List.length_map]
      by_cases e : al.findIdx (fun q => q.1 == j) = k
      · subst e
        simp only [if_true, hlt, hq, Option.map_some, arr1, tab_set]
        congr 4
        funext x
        rw [setA_2]
        simp
      · simp only [e, if_false]
        cases hk2 : al[k]? with
        | none => rfl
        | some q =>
          simp only [Option.map_some, arr1]
          have ne : q.1 ≠ j := fun hqj => by
            have a1 : (al.map (·.1))[al.findIdx (fun q => q.1 == j)]? = some j := by rw [List.getElem?_map, hq]; rfl
            have a2 : (al.map (·.1))[k]? = some j := by rw [List.getElem?_map, hk2]; simp [hqj]
            have := (List.getElem?_inj (by rw [List.length_map]; exact hlt) h2).mp (a1.trans a2.symm)
            exact e this
          congr 4
          funext x
          rw [setA_2]
          simp [ne]
/-! ### while the constructor makes the arrays -/
def cons (pre : MHeap) (fs : List Value) (as : List (Bool × List Int32)) : MHeap := pre ++ (.inl fs :: as.map .inr)
section ConsRules
variable {G : Ctx} {M : Mi} {pc : Nat} {L : List Slot} {S : List Value} {rr : Option Value × MHeap} {pre : MHeap} {fs fs' : List Value} {as : List (Bool × List Int32)}
theorem cons_get : (cons pre fs as)[pre.length]? = some (.inl fs) := by unfold cons; rw [List.getElem?_append_right (Nat.le_refl _), Nat.sub_self]; rfl
theorem cons_set (c : List Value) : (cons pre fs as).set pre.length (.inl c) = cons pre c as := by unfold cons; rw [List.set_append_right _ _ (Nat.le_refl _), Nat.sub_self]; rfl
theorem cons_len : (cons pre fs as).length = pre.length + 1 + as.length := by simp [cons]; omega
theorem cons_push (b : Bool) (xs : List Int32) : cons pre fs as ++ [.inr (b, xs)] = cons pre fs (as ++ [(b, xs)]) := by simp [cons]
theorem Ev.cput {idx j : Nat} {n d : String} {ty : FieldType} {v v' : Value} (K : GOk G) (hk : k0 G ≤ pre.length) (w : (Jvm.Cond.fieldLink (mN M).cls idx (gC G) n d).before (gA G) (gZ G) = true)
    (wl : (Jvm.Cond.lays (gC G) (gC G) n d).before (gA G) (gZ G) = true ∨ ((Jvm.Cond.laysFinal (gC G) (gC G) n d).before (gA G) (gZ G) = true ∧ (mN M).cls = gC G ∧ (mN M).name = "<init>"))
    (hd : decode (mB M) pc = .ok (.putfield idx, 3)) (hF : (gF G)[j]? = some (n, d, ty)) (hp : mput ty v = some v') (hs : fs.set j v' = fs') (hn : Ev G M (pc + 3) L S (cons pre fs' as) rr) : Ev G M pc L (v :: .ref pre.length :: S) (cons pre fs as) rr := by
  subst hs
  refine Ev.putfield K w wl hd hF hk cons_get hp ?_
  rw [cons_set]; exact hn
theorem Ev.cget {idx j : Nat} {n d : String} {ty : FieldType} {v : Value} (w : (Jvm.Cond.fieldLink (mN M).cls idx (gC G) n d).before (gA G) (gZ G) = true) (hd : decode (mB M) pc = .ok (.getfield idx, 3)) (hF : (gF G)[j]? = some (n, d, ty)) (hv : fs[j]? = some v)
    (hn : Ev G M (pc + 3) L (v :: S) (cons pre fs as) rr) : Ev G M pc L (.ref pre.length :: S) (cons pre fs as) rr := Ev.getfield w hd hF cons_get hv hn
theorem Ev.cnew {aty : ArrayType} {b : Bool} {n : Int32} {k q : Nat} {as' : List (Bool × List Int32)} (w : (Jvm.Cond.arrayClass (newarray.typeOf aty)).before (gA G) (gZ G) = true) (hb' : newarray.typeOf aty = kd b) (hd : decode (mB M) pc = .ok (.newarray aty, 2)) (hn0 : ¬ n < 0) (hk : n.toNatClampNeg = k) (hcap : k ≤ 67108864)
    (hq : as.length = q) (has : as ++ [(b, tab k (fun _ => 0))] = as') (hn : Ev G M (pc + 2) L (.ref (pre.length + 1 + q) :: S) (cons pre fs as') rr) : Ev G M pc L (.int n :: S) (cons pre fs as) rr := by
  subst hq has
  refine Ev.newarray w hb' hd hn0 hk hcap ?_
  rw [cons_push, cons_len, ← tab_zero]; exact hn
end ConsRules
theorem forall_get {P : Nat → Fd → Prop} : ∀ (F : List Fd) (k : Nat), (∀ j f, F[j]? = some f → P (k + j) f) → True := fun _ _ _ => trivial
def AllF (P : Fd → Prop) : List Fd → Prop
  | [] => True
  | f :: fs => P f ∧ AllF P fs
theorem AllF.mem {P : Fd → Prop} : ∀ {F : List Fd}, AllF P F → ∀ f ∈ F, P f
  | _ :: _, ⟨h1, h2⟩, f, hf => (List.mem_cons.mp hf).elim (fun e => e ▸ h1) (AllF.mem h2 f)
theorem gok_of {G : Ctx} (h1 : AllF (fun f => Laid (gZ G) (gA G) (gC G) (gC G) f.1 f.2.1 ∧ parseFieldDescriptor f.2.1 = some f.2.2) (gF G)) (h2 : ((gF G).map (·.1)).Nodup)
    (h3 : (Jvm.Cond.instantiable (gC G) (gK G)).before (gA G) (gZ G) = true) (h4 : (Jvm.Cond.initialized (gC G)).before (gA G) (gZ G) = true) : GOk G := by
  refine ⟨fun j n d ty hF => h1.mem _ (List.mem_of_getElem? hF), fun j j' f f' hF hF' ne e => ne ?_, h3, h4⟩
  have a1 : ((gF G).map (·.1))[j]? = some f.1 := by rw [List.getElem?_map, hF]; rfl
  have a2 : ((gF G).map (·.1))[j']? = some f.1 := by rw [List.getElem?_map, hF', e]; rfl
  exact (List.getElem?_inj (by rw [List.length_map]; exact (List.getElem?_eq_some_iff.mp hF).1) h2).mp (a1.trans a2.symm)
end Jvm.Own
namespace Jvm.Own
open Sem ClassFile Op Lib Jvm.Stand Jvm.Free Jvm.LawKit Jvm.RoadKit
def grd {α : Type} (c : Prop) [Decidable c] (x : Option α) : Option α := if c then x else none
theorem grd_some {α : Type} {c : Prop} [Decidable c] {x : Option α} {w : α} (h : grd c x = some w) : c ∧ x = some w := by
  unfold grd at h; split at h
  · exact ⟨by assumption, h⟩
  · cases h
theorem grd_pos {α : Type} {c : Prop} [Decidable c] {x : Option α} (h : c) : grd c x = x := if_pos h
theorem KH_len (F : List Fd) (al : List (Nat × Bool)) (Ln : Nat → Nat) (pre post : MHeap) (s : St) : (KH F al Ln pre post s).length = pre.length + (al.length + 1 + post.length) := by simp [KH, KO]; omega
theorem hsl_app (k : Nat) (a b : MHeap) : hsl k (a ++ b) = hsl k a + hsl k b := by simp [hsl]
theorem hsl_arr (k : Nat) (Ln : Nat → Nat) (s : St) : ∀ al : List (Nat × Bool), hsl k (al.map (arr1 Ln s)) = (al.map fun q => Ln q.1).sum
  | [] => rfl
  | q :: al => by
    have := hsl_arr k Ln s al
    simp only [hsl, List.map_cons, List.sum_cons] at this ⊢
    rw [this]
    simp [arr1, csl, tab_len]
theorem hsl_KH (k : Nat) (F : List Fd) (al : List (Nat × Bool)) (Ln : Nat → Nat) (pre post : MHeap) (s : St) : hsl k (KH F al Ln pre post s) = hsl k pre + (k + (al.map fun q => Ln q.1).sum + hsl k post) := by
  unfold KH
  rw [hsl_app, hsl_app]
  have : hsl k (KO F al Ln pre.length s) = k + (al.map fun q => Ln q.1).sum := by
    have := hsl_arr k Ln s al
    simp only [KO, hsl, List.map_cons, List.sum_cons, csl] at this ⊢
    rw [this]
  rw [this]
theorem ne_lit {x z : Int32} {k : Int} (h : ¬ x = z) (e : z.toInt = k) : x.toInt ≠ k := fun q => h (Int32.toInt_inj.mp (q.trans e.symm))
section
variable {G : Ctx} {M : Mi} {pc : Nat} {L : List Slot} {S : List Value} {rr : Option Value × MHeap}
theorem Ev.astD {k v : Nat} {L' : List Slot} {o : Slot} {h : MHeap} (hd : decode (mB M) pc = .ok (.astore k, 2)) (ho : L[k]? = some o) (h1 : one1 o = true) (hl : L.set k (.val (.ref v)) = L') (hn : Ev G M (pc + 2) L' S h rr) : Ev G M pc L (.ref v :: S) h rr :=
  Ev.astore hd (by rw [mst_one ho h1 rfl, hl]) hn
theorem Ev.astDN {k : Fin 4} {v : Nat} {L' : List Slot} {o : Slot} {h : MHeap} (hd : decode (mB M) pc = .ok (.astore_n k, 1)) (ho : L[k.val]? = some o) (h1 : one1 o = true) (hl : L.set k.val (.val (.ref v)) = L') (hn : Ev G M (pc + 1) L' S h rr) : Ev G M pc L (.ref v :: S) h rr :=
  Ev.astoreN hd (by rw [mst_one ho h1 rfl, hl]) hn
end
end Jvm.Own
namespace Jvm.Own
open Sem ClassFile Op Lib Jvm.Stand Jvm.Free Jvm.LawKit Jvm.RoadKit
section
variable {G : Ctx} {M : Mi} {pc : Nat} {L : List Slot} {S : List Value} {rr : Option Value × MHeap}
theorem mst_T {l : List Slot} {i : Nat} {v : Value} {o o' : Slot} (ho : l[i]? = some o) (ho' : l[i + 1]? = some o') (h2 : two2 o o') (hv : v.category = 1) : ∃ b, one1 b = true ∧ mst l i v = some ((l.set i (.val v)).set (i + 1) b) := by
  have hlt := (List.getElem?_eq_some_iff.mp ho).1
  have hlt' := (List.getElem?_eq_some_iff.mp ho').1
  rcases h2 with ⟨h1, h1'⟩ | ⟨x, rfl, rfl⟩
  · refine ⟨o', h1', ?_⟩
    rw [mst_one ho h1 hv]
    congr 1
    apply List.ext_getElem?
    intro k
    by_cases e : i + 1 = k
    · subst e
      rw [List.getElem?_set_self (by simpa using hlt'), List.getElem?_set_ne (by omega), ho']
    · rw [List.getElem?_set_ne e]
  · refine ⟨.unset, rfl, ?_⟩
    unfold mst
    rw [ho]
    have c2 : (Value.long x).category = 2 := rfl
    simp only [c2, if_true, lsetAt, hlt', lstoreSelf, List.length_set, hlt, hv]
    rw [List.set_comm _ _ (by omega : i + 1 ≠ i)]
    simp
theorem Ev.istT {k : Nat} {v : Int32} {L' : Slot → List Slot} {o o' : Slot} {h : MHeap} (hd : decode (mB M) pc = .ok (.istore k, 2)) (ho : L[k]? = some o) (ho' : L[k + 1]? = some o') (h2 : two2 o o') (hl : ∀ b, (L.set k (.val (.int v))).set (k + 1) b = L' b) (hn : ∀ b, one1 b = true → Ev G M (pc + 2) (L' b) S h rr) : Ev G M pc L (.int v :: S) h rr := by
  obtain ⟨b, h1, e⟩ := mst_T (v := .int v) ho ho' h2 rfl
  exact Ev.istore hd e (by rw [hl]; exact hn b h1)
theorem Ev.istTN {k : Fin 4} {v : Int32} {L' : Slot → List Slot} {o o' : Slot} {h : MHeap} (hd : decode (mB M) pc = .ok (.istore_n k, 1)) (ho : L[k.val]? = some o) (ho' : L[k.val + 1]? = some o') (h2 : two2 o o') (hl : ∀ b, (L.set k.val (.val (.int v))).set (k.val + 1) b = L' b) (hn : ∀ b, one1 b = true → Ev G M (pc + 1) (L' b) S h rr) : Ev G M pc L (.int v :: S) h rr := by
  obtain ⟨b, h1, e⟩ := mst_T (v := .int v) ho ho' h2 rfl
  exact Ev.istoreN hd e (by rw [hl]; exact hn b h1)
end
section
variable {G : Ctx} {Ln : Nat → Nat} {K : St → MHeap} {o len : Nat} {r : Nat → Nat} {F : List Fd} {al : List (Nat × Bool)}
theorem View.le (V : View G Ln K o r) (s : St) : k0 G ≤ (K s).length := Nat.le_trans V.1 (Nat.le_of_lt (List.getElem?_eq_some_iff.mp (V.2.1 s)).1)
theorem View.app (V : View G Ln K o r) (X : MHeap) : View G Ln (fun s => K s ++ X) o r := by
  refine ⟨V.1, fun s => ?_, fun s j f z hF ht => ?_, fun j n d t hF => ?_⟩
  · show (K s ++ X)[o]? = _
    rw [List.getElem?_append_left (List.getElem?_eq_some_iff.mp (V.2.1 s)).1]; exact V.2.1 s
  · show (K s ++ X).set o _ = _
    rw [List.set_append_left _ _ (List.getElem?_eq_some_iff.mp (V.2.1 s)).1, V.2.2.1 s j f z hF ht]
  · obtain ⟨q1, q2, q3⟩ := V.2.2.2 j n d t hF
    refine ⟨q1, fun s => ?_, fun s i z hi => ?_⟩
    · show (K s ++ X)[r j]? = _
      rw [List.getElem?_append_left (List.getElem?_eq_some_iff.mp (q2 s)).1]; exact q2 s
    · show (K s ++ X).set (r j) _ = _
      rw [List.set_append_left _ _ (List.getElem?_eq_some_iff.mp (q2 s)).1, q3 s i z hi]
theorem View.app2 (V : View G Ln K o r) (hl : ∀ s, (K s).length = len) (t : St) : View G Ln (fun s => KH F al Ln (K s) [] t) o r := by
  have e : (fun s => KH F al Ln (K s) [] t) = fun s => K s ++ (KO F al Ln len t ++ []) := by
    funext s; unfold KH; rw [hl]
  rw [e]
  exact V.app _
theorem app2_get (V : View G Ln K o r) {s t : St} {c : MCell} (h : (K s)[0]? = some c) : (KH F al Ln (K s) [] t)[0]? = some c := by
  unfold KH
  rw [List.getElem?_append_left (List.getElem?_eq_some_iff.mp h).1]; exact h
end
end Jvm.Own
namespace Jvm.Own
open Sem ClassFile Op Lib Jvm.Stand Jvm.Free Jvm.LawKit Jvm.RoadKit
def toI : Value → Int32
  | .int z => z
  | _ => 0
theorem script_rel {s : State} {a : Nat} {cl : Cell} {args : Array Value} {l : Launch} {C : String} {F : List Fd} {k : Nat} (hf : Fit s) (A : Arr s s.heap a cl .int) :
    ∃ xs : List Int32, xs.length = cl.slots.size ∧ Rel (s, args, l, some a, s.heap.size, C, F, k) s.heap [.inr (false, tab xs.length (fun i => xs.getD i 0))] := by
  have hl : (cl.slots.toList.map toI).length = cl.slots.size := by simp
  refine ⟨cl.slots.toList.map toI, hl, rfl, Nat.le_refl _, fun a' q => by cases q; exact A.lt, fun i c q => ?_⟩
  match i, q with
  | 0, q =>
    cases q
    refine ⟨cl, A, ?_⟩
    rw [← tab_of]
    apply Array.ext'
    apply List.ext_getElem?
    intro j
    simp only [List.map_map, List.getElem?_map]
    cases hj : cl.slots.toList[j]? with
    | none => rfl
    | some v =>
      have hj' : cl.slots[j]? = some v := by simpa using hj
      obtain ⟨hlt, hv⟩ := Array.getElem?_eq_some_iff.mp hj'
      have q := hf A.1 hlt
      obtain ⟨hs, kk, hk, comp, hkind⟩ := A.2.1
      have e : s.slotType? cl.cls cl.vm j = some .int := by
        cases hq : cl.vm <;> first | exact absurd hq (hs _) | simp [State.slotType?, hk, hkind]
      have q2 : fits .int v = true := by rw [hv] at q; simpa [State.fitsSlot, e] using q
      obtain ⟨z, rfl⟩ := fit_I q2 (Or.inl rfl)
      rfl
theorem script_len {s : State} {args : Array Value} {t : Term} {a : Nat} {cl : Cell} (A : Arr s s.heap a cl .int) (ea : t.eval args s none [] s = some (.ref a)) (h1 : (Jvm.Cond.isInt (.length t)).value args s none s [] = some true) (h2 : (Jvm.Cond.le (.length t) (.int 260)).value args s none s [] = some true) : cl.slots.size ≤ 260 := by
  obtain ⟨z, ez⟩ := is_v h1
  have ha := A.fin (Vm.Alike.refl s.vm)
  have hlen : cl.slots.size < 2 ^ 31 := by
    rcases Nat.lt_or_ge cl.slots.size (2 ^ 31) with q | q
    · exact q
    · simp [Term.eval, ea, ha, Nat.not_lt.mpr q] at ez
  have e1 := len_f ea ha hlen
  have q : cl.slots.size.toInt32 ≤ 260 := by
    have := Cond.le_ints e1 (Term.int_eval (260 : Int32)) (args := args) (first := s) (o := none) (s := s) (idx := [])
    exact gotT this h2
  have q2 := Int32.le_iff_toInt_le.mp q
  rw [len_toInt hlen] at q2
  have : (260 : Int32).toInt = 260 := by decide
  omega
end Jvm.Own
namespace Jvm.Own
open Sem ClassFile Op Lib Jvm.Stand Jvm.Free Jvm.LawKit Jvm.RoadKit
def decs (b : ByteArray) : List (Nat × Instr × Nat) → Bool
  | [] => true
  | q :: t => decide (decode b q.1 = .ok (q.2.1, q.2.2)) && decs b t
theorem dget {b : ByteArray} : ∀ {l : List (Nat × Instr × Nat)}, decs b l = true → ∀ {k p : Nat} {i : Instr} {n : Nat}, l[k]? = some (p, i, n) → decode b p = .ok (i, n)
  | [], _, k, _, _, _, hk => by simp at hk
  | q :: t, h, 0, p, i, n, hk => by
    simp only [decs, Bool.and_eq_true, decide_eq_true_eq] at h
    simp only [List.getElem?_cons_zero, Option.some.injEq] at hk
    subst hk
    exact h.1
  | q :: t, h, k + 1, p, i, n, hk => by
    simp only [decs, Bool.and_eq_true] at h
    exact dget h.2 (by simpa using hk)
end Jvm.Own
namespace Jvm.Own
/-! ## 6. Ints of 32 bits and naturals -/
theorem N_toInt {i : Nat} (h : i < 2147483648) : (Int32.ofNat i).toInt = i := Int32.toInt_ofNat_of_lt h
theorem N_lt {i j : Nat} (hi : i < 2147483648) (hj : j < 2147483648) : Int32.ofNat i < Int32.ofNat j ↔ i < j := by
  rw [Int32.lt_iff_toInt_lt, N_toInt hi, N_toInt hj]; omega
theorem N_inj {i j : Nat} (hi : i < 2147483648) (hj : j < 2147483648) : Int32.ofNat i = Int32.ofNat j ↔ i = j := by
  rw [← Int32.toInt_inj, N_toInt hi, N_toInt hj]; omega
theorem N_succ (i : Nat) : Int32.ofNat i + 1 = Int32.ofNat (i + 1) := (Int32.ofNat_add i 1).symm
theorem N_add (i j : Nat) : Int32.ofNat i + Int32.ofNat j = Int32.ofNat (i + j) := (Int32.ofNat_add i j).symm
theorem N_mul (i j : Nat) : Int32.ofNat i * Int32.ofNat j = Int32.ofNat (i * j) := (Int32.ofNat_mul i j).symm
theorem N_neg {i : Nat} (h : i < 2147483648) : ¬ Int32.ofNat i < 0 := by
  rw [Int32.lt_iff_toInt_lt, N_toInt h]; simp
theorem ix_N {i : Nat} (h : i < 2147483648) : ix (Int32.ofNat i) = i := by
  unfold ix Int32.toNatClampNeg; rw [N_toInt h]; simp
theorem inb_N {i n : Nat} (h : i < 2147483648) : inb (Int32.ofNat i) n ↔ i < n := by
  unfold inb; rw [ix_N h]; exact ⟨fun q => q.2, fun q => ⟨N_neg h, q⟩⟩
theorem ix_toInt {x : Int32} (h : ¬ x < 0) : (ix x : Int) = x.toInt := by
  unfold ix Int32.toNatClampNeg
  rw [Int32.lt_iff_toInt_lt] at h
  have : (0 : Int32).toInt = 0 := rfl
  omega
theorem ix_lt (x : Int32) : ix x < 2147483648 := by
  unfold ix Int32.toNatClampNeg
  have := Int32.toInt_lt x
  omega
theorem N_ix {x : Int32} (h : ¬ x < 0) : Int32.ofNat (ix x) = x := by
  rw [← Int32.toInt_inj, N_toInt (ix_lt x), ix_toInt h]
theorem ix_eq {x y : Int32} (hx : ¬ x < 0) (hy : ¬ y < 0) : ix x = ix y ↔ x = y := by
  refine ⟨fun e => ?_, fun e => e ▸ rfl⟩
  rw [← N_ix hx, ← N_ix hy, e]
theorem rng (x : Int32) : -2147483648 ≤ x.toInt ∧ x.toInt < 2147483648 := ⟨Int32.le_toInt x, Int32.toInt_lt x⟩
theorem lt_I {x y : Int32} : x < y ↔ x.toInt < y.toInt := Int32.lt_iff_toInt_lt
theorem le_I {x y : Int32} : x ≤ y ↔ x.toInt ≤ y.toInt := Int32.le_iff_toInt_le
theorem eq_I {x y : Int32} : x = y ↔ x.toInt = y.toInt := Int32.toInt_inj.symm
theorem bmod_eq {x : Int} (h1 : -2147483648 ≤ x) (h2 : x < 2147483648) : x.bmod (2 ^ 32) = x := by
  apply Int.bmod_eq_of_le <;> omega
theorem add_I {x y : Int32} (h1 : -2147483648 ≤ x.toInt + y.toInt) (h2 : x.toInt + y.toInt < 2147483648) : (x + y).toInt = x.toInt + y.toInt := by
  rw [Int32.toInt_add]; exact bmod_eq h1 h2
theorem sub_I {x y : Int32} (h1 : -2147483648 ≤ x.toInt - y.toInt) (h2 : x.toInt - y.toInt < 2147483648) : (x - y).toInt = x.toInt - y.toInt := by
  rw [Int32.toInt_sub]; exact bmod_eq h1 h2
theorem mul_I {x y : Int32} (h1 : -2147483648 ≤ x.toInt * y.toInt) (h2 : x.toInt * y.toInt < 2147483648) : (x * y).toInt = x.toInt * y.toInt := by
  rw [Int32.toInt_mul]; exact bmod_eq h1 h2
theorem inb_I {x : Int32} {n : Nat} (h1 : 0 ≤ x.toInt) (h2 : x.toInt < n) : inb x n := by
  have h : ¬ x < 0 := by rw [lt_I]; have : (0 : Int32).toInt = 0 := rfl; omega
  refine ⟨h, ?_⟩
  have := ix_toInt h
  omega
/-- an int between 0 and n is one of them -/
theorem cases_N {x : Int32} {n : Nat} (hn : n < 2147483648) (h0 : ¬ x < 0) (h1 : x < Int32.ofNat n) : ∃ i, i < n ∧ x = Int32.ofNat i := by
  refine ⟨ix x, ?_, (N_ix h0).symm⟩
  have a := ix_toInt h0
  rw [lt_I, N_toInt hn] at h1
  omega
/-! ## 7. Loops that count from i to N -/
def itr {α : Type} (f : Nat → α → α) : Nat → Nat → α → α
  | _, 0, s => s
  | i, m + 1, s => itr f (i + 1) m (f i s)
theorem loopN {α β : Type} {F : Nat → Int32 → α → Option β} {N : Nat} {f : Nat → α → α} {fin : α → Option β}
    (hF : ∀ k i s, i < N → F (k + 1) (Int32.ofNat i) s = F k (Int32.ofNat i + 1) (f i s)) (hE : ∀ k s, F (k + 1) (Int32.ofNat N) s = fin s) :
    ∀ m i k s, i + m = N → m < k → F k (Int32.ofNat i) s = fin (itr f i m s) := by
  intro m
  induction m with
  | zero =>
    intro i k s hi hk
    obtain ⟨k, rfl⟩ : ∃ k', k = k' + 1 := ⟨k - 1, by omega⟩
    have : i = N := by omega
    subst this
    exact hE k s
  | succ m ih =>
    intro i k s hi hk
    obtain ⟨k, rfl⟩ : ∃ k', k = k' + 1 := ⟨k - 1, by omega⟩
    rw [hF k i s (by omega), N_succ]
    exact ih (i + 1) k _ (by omega) (by omega)
theorem itr_ind {α : Type} {f : Nat → α → α} {P : Nat → α → Prop} {N : Nat} (h : ∀ i s, i < N → P i s → P (i + 1) (f i s)) : ∀ m i s, i + m = N → P i s → P N (itr f i m s) := by
  intro m
  induction m with
  | zero => intro i s hi hp; have : i = N := by omega
            subst this; exact hp
  | succ m ih => intro i s hi hp; exact ih (i + 1) _ (by omega) (h i s (by omega) hp)
theorem itr_pt {f : Nat → St → St} {u : Nat → Int32 → Int32} (h1 : ∀ i s, (f i s).1 = s.1) (h2 : ∀ i s k x, (f i s).2 k x = if x = i then u k (s.2 k x) else s.2 k x) :
    ∀ m i s, itr f i m s = (s.1, fun k x => if i ≤ x ∧ x < i + m then u k (s.2 k x) else s.2 k x) := by
  intro m
  induction m with
  | zero =>
    intro i s
    refine Prod.ext rfl ?_
    funext k x
    have : ¬ (i ≤ x ∧ x < i + 0) := by omega
    simp only [this, if_false]
    rfl
  | succ m ih =>
    intro i s
    show itr f (i + 1) m (f i s) = _
    rw [ih]
    refine Prod.ext (h1 i s) ?_
    funext k x
    simp only [h2]
    by_cases e : x = i
    · subst e
      have a : ¬ (x + 1 ≤ x ∧ x < x + 1 + m) := by omega
      have b : x ≤ x ∧ x < x + (m + 1) := by omega
      simp only [a, b, if_false, if_true, and_self]
    · have : (i + 1 ≤ x ∧ x < i + 1 + m) ↔ (i ≤ x ∧ x < i + (m + 1)) := by omega
      simp only [this, e, if_false]
theorem itr_fill (K : Nat) (z : Int32) (m : Nat) (s : St) : itr (fun i s => setA s K i z) 0 m s = (s.1, fun k x => if k = K ∧ x < m then z else s.2 k x) := by
  rw [itr_pt (f := fun i s => setA s K i z) (u := fun k v => if k = K then z else v) (fun _ _ => rfl) (fun i s j x => by
    simp only [setA_2]
    by_cases e : x = i <;> by_cases e1 : j = K <;> simp [e, e1])]
  refine Prod.ext rfl ?_
  funext k x
  have : (0 ≤ x ∧ x < 0 + m) ↔ x < m := by omega
  simp only [this]
  by_cases e : x < m <;> by_cases e1 : k = K <;> simp [e, e1]
theorem and_rng (x : Int32) {m : Nat} (hm : m < 2147483648) : 0 ≤ (x &&& Int32.ofNat m).toInt ∧ (x &&& Int32.ofNat m).toInt ≤ m := by
  have h1 : (x &&& Int32.ofNat m).toBitVec.toNat ≤ m := by
    rw [Int32.toBitVec_and, BitVec.toNat_and]
    refine Nat.le_trans Nat.and_le_right ?_
    show (BitVec.ofNat 32 m).toNat ≤ m
    rw [BitVec.toNat_ofNat]
    exact Nat.mod_le _ _
  have h2 : (x &&& Int32.ofNat m).toInt = ((x &&& Int32.ofNat m).toBitVec.toNat : Int) := by
    show (x &&& Int32.ofNat m).toBitVec.toInt = _
    exact BitVec.toInt_eq_toNat_of_lt (by omega)
  omega
theorem idx8 {o p : Int32} (h0 : ¬ o < 0) (h3 : ¬ 3 < o) : inb (o * 8 + (p &&& 7)) 32 := by
  have a := and_rng p (m := 7) (by omega)
  rw [show Int32.ofNat 7 = (7 : Int32) from rfl] at a
  rw [lt_I] at h0 h3
  have e0 : (0 : Int32).toInt = 0 := rfl
  have e3 : (3 : Int32).toInt = 3 := rfl
  have e8 : (8 : Int32).toInt = 8 := rfl
  have em : (o * 8).toInt = o.toInt * 8 := by rw [mul_I] <;> rw [e8] <;> omega
  have ea : (o * 8 + (p &&& 7)).toInt = o.toInt * 8 + (p &&& 7).toInt := by rw [add_I] <;> rw [em] <;> omega
  exact inb_I (by omega) (by omega)
theorem idx8' {o p : Int32} (h0 : ¬ o < 0) (h3 : ¬ 3 < o) (g0 : ¬ p < 0) (g7 : ¬ 7 < p) : inb (o * 8 + p) 32 ∧ (o * 8 + p).toInt = o.toInt * 8 + p.toInt := by
  rw [lt_I] at h0 h3 g0 g7
  have e0 : (0 : Int32).toInt = 0 := rfl
  have e3 : (3 : Int32).toInt = 3 := rfl
  have e7 : (7 : Int32).toInt = 7 := rfl
  have e8 : (8 : Int32).toInt = 8 := rfl
  have em : (o * 8).toInt = o.toInt * 8 := by rw [mul_I] <;> rw [e8] <;> omega
  have ea : (o * 8 + p).toInt = o.toInt * 8 + p.toInt := by rw [add_I] <;> rw [em] <;> omega
  exact ⟨inb_I (by omega) (by omega), ea⟩
theorem inb_le {x : Int32} {m : Int32} {n : Nat} (h0 : ¬ x < 0) (h1 : ¬ m < x) (hm : m.toInt < n) : inb x n := by
  rw [lt_I] at h0 h1
  have e0 : (0 : Int32).toInt = 0 := rfl
  exact inb_I (by omega) (by omega)
theorem inb_lt {x : Int32} {m : Int32} {n : Nat} (h0 : ¬ x < 0) (h1 : x < m) (hm : m.toInt ≤ n) : inb x n := by
  rw [lt_I] at h0 h1
  have e0 : (0 : Int32).toInt = 0 := rfl
  exact inb_I (by omega) (by omega)
theorem rem_N {a N : Nat} (ha : a < 2147483648) (hN : N < 2147483648) (h0 : 0 < N) : Int32.ofNat a % Int32.ofNat N = Int32.ofNat (a % N) := by
  have h1 : a % N < N := Nat.mod_lt _ h0
  rw [← Int32.toInt_inj, Int32.toInt_mod, N_toInt ha, N_toInt hN, N_toInt (by omega)]
  rw [Int.tmod_eq_emod_of_nonneg (by omega)]
  rfl
/-- the rule of a loop that counts from i to N: P before each turn; Q of what it gives -/
theorem loopP {α β : Type} {F : Nat → Int32 → α → Option β} {N : Nat} {P : Nat → α → Prop} {Q : β → Prop}
    (hF : ∀ k i s, i < N → P i s → (∃ s', F (k + 1) (Int32.ofNat i) s = F k (Int32.ofNat i + 1) s' ∧ P (i + 1) s') ∨ ∃ r, F (k + 1) (Int32.ofNat i) s = some r ∧ Q r)
    (hE : ∀ k s, P N s → ∃ r, F (k + 1) (Int32.ofNat N) s = some r ∧ Q r) :
    ∀ m i k s, i + m = N → m < k → P i s → ∃ r, F k (Int32.ofNat i) s = some r ∧ Q r := by
  intro m
  induction m with
  | zero =>
    intro i k s hi hk hp
    obtain ⟨k, rfl⟩ : ∃ k', k = k' + 1 := ⟨k - 1, by omega⟩
    have : i = N := by omega
    subst this
    exact hE k s hp
  | succ m ih =>
    intro i k s hi hk hp
    obtain ⟨k, rfl⟩ : ∃ k', k = k' + 1 := ⟨k - 1, by omega⟩
    rcases hF k i s (by omega) hp with ⟨s', e, hp'⟩ | h
    · rw [e, N_succ]
      exact ih (i + 1) k s' (by omega) (by omega) hp'
    · exact h
theorem ltN {i j : Nat} (h : i < j) (hj : j < 2147483648) : Int32.ofNat i < Int32.ofNat j := (N_lt (by omega) hj).mpr h
theorem ltZ {i : Nat} {z : Int32} (N : Nat) (hz : Int32.ofNat N = z) (h : i < N) (hN : N < 2147483648) : Int32.ofNat i < z := hz ▸ ltN h hN
theorem nltN {i : Nat} (hi : i < 2147483648) : ¬ Int32.ofNat i < Int32.ofNat i := fun q => by rw [N_lt hi hi] at q; omega
theorem inbN {i n : Nat} (h : i < n) (hi : i < 2147483648) : inb (Int32.ofNat i) n := (inb_N hi).mpr h
def own_cl (a lo hi : Int32) : Int32 := if a < lo then lo else if hi < a then hi else a
theorem own_cl_rng {a lo hi : Int32} (h : ¬ hi < lo) : lo.toInt ≤ (own_cl a lo hi).toInt ∧ (own_cl a lo hi).toInt ≤ hi.toInt := by
  unfold own_cl
  rw [lt_I] at h
  split
  · omega
  · rename_i q; rw [lt_I] at q
    split
    · omega
    · rename_i q2; rw [lt_I] at q2; omega
theorem own_nat {x : Int32} {lo hi : Nat} (h1 : (lo : Int) ≤ x.toInt) (h2 : x.toInt ≤ hi) : ∃ N : Nat, x = Int32.ofNat N ∧ lo ≤ N ∧ N ≤ hi := by
  have := rng x
  refine ⟨x.toInt.toNat, ?_, by omega, by omega⟩
  rw [← Int32.toInt_inj, N_toInt (by omega)]; omega
theorem own_clN (a : Int32) {lo hi : Nat} (h : lo ≤ hi) (hi' : hi < 2147483648) : ∃ N : Nat, own_cl a (Int32.ofNat lo) (Int32.ofNat hi) = Int32.ofNat N ∧ lo ≤ N ∧ N ≤ hi := by
  have q := own_cl_rng (a := a) (lo := Int32.ofNat lo) (hi := Int32.ofNat hi) (fun q => by rw [N_lt (by omega) (by omega)] at q; omega)
  rw [N_toInt (by omega), N_toInt (by omega)] at q
  exact own_nat q.1 q.2
end Jvm.Own
namespace Jvm.Pilot.@@N@@
open Jvm Jvm.ClassFile Sem Op Lib Jvm.Free Jvm.Stand Jvm.LawKit Jvm.RoadKit Bundle Jvm.Pilot.@@N@@.Jvm.D Jvm.Own
/-! ### the class and its words (printed by a program of this repo) -/
abbrev GT := State × Array Value × Launch × Option Addr × Nat
def flds : List Fd := [("heap", "[I", FieldType.array FieldType.int), ("mark", "[Z", FieldType.array FieldType.boolean), ("state", "[I", FieldType.array FieldType.int), ("addr", "[I", FieldType.array FieldType.int), ("size", "[I", FieldType.array FieldType.int), ("stamp", "[I", FieldType.array FieldType.int), ("order", "[I", FieldType.array FieldType.int), ("locked", "[Z", FieldType.array FieldType.boolean), ("purg", "[Z", FieldType.array FieldType.boolean), ("hw", "I", FieldType.int), ("nh", "I", FieldType.int), ("clock", "I", FieldType.int)]
def GG (g : GT) : Ctx := (g.1, g.2.1, g.2.2.1, g.2.2.2.1, g.2.2.2.2, "HandleHeap", flds, 12)
def HW (g : GT) : Prop := ∀ d ∈ tables_1, d.before g.2.1 g.1 = true
def al : List (Nat × Bool) := [(0, false), (1, true), (2, false), (3, false), (4, false), (5, false), (6, false), (7, true), (8, true)]
def Ln (j : Nat) : Nat := [256, 256, 32, 32, 32, 32, 32, 32, 32, 0, 0, 0].getD j 0
def dfl : List Value := [.null, .null, .null, .null, .null, .null, .null, .null, .null, .int 0, .int 0, .int 0]
theorem ww {g : GT} (hw : HW g) (k : Nat) {d : Jvm.Cond} (h : tables_1[k]? = some d) : d.before (gA (GG g)) (gZ (GG g)) = true := hw _ (List.mem_of_getElem? h)
theorem fld_nd : (flds.map (·.1)).Nodup := by decide +kernel
theorem al_ok : alOk flds al = true := by decide +kernel
theorem al_nd : (al.map (·.1)).Nodup := by decide +kernel
theorem gok {g : GT} (hw : HW g) : GOk (GG g) := gok_of ⟨⟨Or.inl (ww hw 11 rfl), by decide⟩, ⟨Or.inl (ww hw 14 rfl), by decide⟩, ⟨Or.inl (ww hw 16 rfl), by decide⟩, ⟨Or.inl (ww hw 18 rfl), by decide⟩, ⟨Or.inl (ww hw 20 rfl), by decide⟩, ⟨Or.inl (ww hw 22 rfl), by decide⟩, ⟨Or.inl (ww hw 24 rfl), by decide⟩, ⟨Or.inl (ww hw 26 rfl), by decide⟩, ⟨Or.inl (ww hw 28 rfl), by decide⟩, ⟨Or.inl (ww hw 30 rfl), by decide⟩, ⟨Or.inl (ww hw 32 rfl), by decide⟩, ⟨Or.inl (ww hw 34 rfl), by decide⟩, trivial⟩ fld_nd (ww hw 1 rfl) (ww hw 2 rfl)
theorem pcls : plainName "HandleHeap" = true := by first | (simp [plainName, overriddenIn]; done) | decide +kernel
theorem pclsL : plainName "HandleHeapL3" = true := by first | (simp [plainName, overriddenIn]; done) | decide +kernel
theorem nmh : "HandleHeap" ≠ "java/lang/invoke/MethodHandle" ∧ "HandleHeap" ≠ "java/lang/invoke/VarHandle" := by decide
theorem nmhL : "HandleHeapL3" ≠ "java/lang/invoke/MethodHandle" ∧ "HandleHeapL3" ≠ "java/lang/invoke/VarHandle" := by decide
def M_clearHandle : Mi := ((⟨"HandleHeap", "clearHandle", "(I)V"⟩ : MethodName), prog_1_method_21_code, 2, none, 0, 0)
theorem pl_clearHandle : plainFor (mN M_clearHandle) = true := plainFor_of_name pcls
theorem nm_clearHandle : notMH M_clearHandle := nmh
theorem pd_clearHandle : parseMethodDescriptor (mN M_clearHandle).desc = some ⟨[.int], none⟩ := by decide +kernel
def M_ctor : Mi := ((⟨"HandleHeap", "<init>", "(II)V"⟩ : MethodName), prog_1_method_1_code, 6, none, 1, 13)
theorem pl_ctor : plainFor (mN M_ctor) = true := plainFor_of_name pcls
theorem nm_ctor : notMH M_ctor := nmh
theorem pd_ctor : parseMethodDescriptor (mN M_ctor).desc = some ⟨[.int, .int], none⟩ := by decide +kernel
def M_clearMark : Mi := ((⟨"HandleHeap", "clearMark", "()V"⟩ : MethodName), prog_1_method_27_code, 2, none, 0, 0)
theorem pl_clearMark : plainFor (mN M_clearMark) = true := plainFor_of_name pcls
theorem nm_clearMark : notMH M_clearMark := nmh
theorem pd_clearMark : parseMethodDescriptor (mN M_clearMark).desc = some ⟨[], none⟩ := by decide +kernel
def M_markBlock : Mi := ((⟨"HandleHeap", "markBlock", "(I)V"⟩ : MethodName), prog_1_method_28_code, 6, none, 0, 0)
theorem pl_markBlock : plainFor (mN M_markBlock) = true := plainFor_of_name pcls
theorem nm_markBlock : notMH M_markBlock := nmh
theorem pd_markBlock : parseMethodDescriptor (mN M_markBlock).desc = some ⟨[.int], none⟩ := by decide +kernel
def M_markLive : Mi := ((⟨"HandleHeap", "markLive", "()V"⟩ : MethodName), prog_1_method_29_code, 2, none, 1, 17)
theorem pl_markLive : plainFor (mN M_markLive) = true := plainFor_of_name pcls
theorem nm_markLive : notMH M_markLive := nmh
theorem pd_markLive : parseMethodDescriptor (mN M_markLive).desc = some ⟨[], none⟩ := by decide +kernel
def M_firstRun : Mi := ((⟨"HandleHeap", "firstRun", "(I)I"⟩ : MethodName), prog_1_method_30_code, 4, (some .int), 0, 0)
theorem pl_firstRun : plainFor (mN M_firstRun) = true := plainFor_of_name pcls
theorem nm_firstRun : notMH M_firstRun := nmh
theorem pd_firstRun : parseMethodDescriptor (mN M_firstRun).desc = some ⟨[.int], some .int⟩ := by decide +kernel
def M_fit : Mi := ((⟨"HandleHeap", "fit", "(I)I"⟩ : MethodName), prog_1_method_31_code, 2, (some .int), 2, 30)
theorem pl_fit : plainFor (mN M_fit) = true := plainFor_of_name pcls
theorem nm_fit : notMH M_fit := nmh
theorem pd_fit : parseMethodDescriptor (mN M_fit).desc = some ⟨[.int], some .int⟩ := by decide +kernel
def M_sortOrder : Mi := ((⟨"HandleHeap", "sortOrder", "(I)V"⟩ : MethodName), prog_1_method_34_code, 6, none, 0, 0)
theorem pl_sortOrder : plainFor (mN M_sortOrder) = true := plainFor_of_name pcls
theorem nm_sortOrder : notMH M_sortOrder := nmh
theorem pd_sortOrder : parseMethodDescriptor (mN M_sortOrder).desc = some ⟨[.int], none⟩ := by decide +kernel
def M_copyOne : Mi := ((⟨"HandleHeap", "copyOne", "(II)V"⟩ : MethodName), prog_1_method_26_code, 3, none, 0, 0)
theorem pl_copyOne : plainFor (mN M_copyOne) = true := plainFor_of_name pcls
theorem nm_copyOne : notMH M_copyOne := nmh
theorem pd_copyOne : parseMethodDescriptor (mN M_copyOne).desc = some ⟨[.int, .int], none⟩ := by decide +kernel
def M_copyWords : Mi := ((⟨"HandleHeap", "copyWords", "(III)V"⟩ : MethodName), prog_1_method_25_code, 5, none, 1, 14)
theorem pl_copyWords : plainFor (mN M_copyWords) = true := plainFor_of_name pcls
theorem nm_copyWords : notMH M_copyWords := nmh
theorem pd_copyWords : parseMethodDescriptor (mN M_copyWords).desc = some ⟨[.int, .int, .int], none⟩ := by decide +kernel
def M_moveBlock : Mi := ((⟨"HandleHeap", "moveBlock", "(I)V"⟩ : MethodName), prog_1_method_35_code, 4, none, 2, 30)
theorem pl_moveBlock : plainFor (mN M_moveBlock) = true := plainFor_of_name pcls
theorem nm_moveBlock : notMH M_moveBlock := nmh
theorem pd_moveBlock : parseMethodDescriptor (mN M_moveBlock).desc = some ⟨[.int], none⟩ := by decide +kernel
def M_compactRun : Mi := ((⟨"HandleHeap", "compactRun", "(I)V"⟩ : MethodName), prog_1_method_33_code, 4, none, 3, 45)
theorem pl_compactRun : plainFor (mN M_compactRun) = true := plainFor_of_name pcls
theorem nm_compactRun : notMH M_compactRun := nmh
theorem pd_compactRun : parseMethodDescriptor (mN M_compactRun).desc = some ⟨[.int], none⟩ := by decide +kernel
def M_victim : Mi := ((⟨"HandleHeap", "victim", "(I)I"⟩ : MethodName), prog_1_method_36_code, 4, (some .int), 0, 0)
theorem pl_victim : plainFor (mN M_victim) = true := plainFor_of_name pcls
theorem nm_victim : notMH M_victim := nmh
theorem pd_victim : parseMethodDescriptor (mN M_victim).desc = some ⟨[.int], some .int⟩ := by decide +kernel
def M_purge : Mi := ((⟨"HandleHeap", "purge", "(I)V"⟩ : MethodName), prog_1_method_22_code, 2, none, 0, 0)
theorem pl_purge : plainFor (mN M_purge) = true := plainFor_of_name pcls
theorem nm_purge : notMH M_purge := nmh
theorem pd_purge : parseMethodDescriptor (mN M_purge).desc = some ⟨[.int], none⟩ := by decide +kernel
def M_alloc : Mi := ((⟨"HandleHeap", "alloc", "(II)I"⟩ : MethodName), prog_1_method_37_code, 6, (some .int), 4, 60)
theorem pl_alloc : plainFor (mN M_alloc) = true := plainFor_of_name pcls
theorem nm_alloc : notMH M_alloc := nmh
theorem pd_alloc : parseMethodDescriptor (mN M_alloc).desc = some ⟨[.int, .int], some .int⟩ := by decide +kernel
def M_zeroWords : Mi := ((⟨"HandleHeap", "zeroWords", "(II)V"⟩ : MethodName), prog_1_method_24_code, 5, none, 0, 0)
theorem pl_zeroWords : plainFor (mN M_zeroWords) = true := plainFor_of_name pcls
theorem nm_zeroWords : notMH M_zeroWords := nmh
theorem pd_zeroWords : parseMethodDescriptor (mN M_zeroWords).desc = some ⟨[.int, .int], none⟩ := by decide +kernel
def M_touch : Mi := ((⟨"HandleHeap", "touch", "(I)V"⟩ : MethodName), prog_1_method_20_code, 2, none, 0, 0)
theorem pl_touch : plainFor (mN M_touch) = true := plainFor_of_name pcls
theorem nm_touch : notMH M_touch := nmh
theorem pd_touch : parseMethodDescriptor (mN M_touch).desc = some ⟨[.int], none⟩ := by decide +kernel
def M_establish : Mi := ((⟨"HandleHeap", "establish", "(III)V"⟩ : MethodName), prog_1_method_23_code, 4, none, 1, 16)
theorem pl_establish : plainFor (mN M_establish) = true := plainFor_of_name pcls
theorem nm_establish : notMH M_establish := nmh
theorem pd_establish : parseMethodDescriptor (mN M_establish).desc = some ⟨[.int, .int, .int], none⟩ := by decide +kernel
def M_newHandle : Mi := ((⟨"HandleHeap", "newHandle", "(I)I"⟩ : MethodName), prog_1_method_2_code, 4, (some .int), 5, 77)
theorem pl_newHandle : plainFor (mN M_newHandle) = true := plainFor_of_name pcls
theorem nm_newHandle : notMH M_newHandle := nmh
theorem pd_newHandle : parseMethodDescriptor (mN M_newHandle).desc = some ⟨[.int], some .int⟩ := by decide +kernel
def M_valid : Mi := ((⟨"HandleHeap", "valid", "(I)Z"⟩ : MethodName), prog_1_method_18_code, 2, (some .boolean), 0, 0)
theorem pl_valid : plainFor (mN M_valid) = true := plainFor_of_name pcls
theorem nm_valid : notMH M_valid := nmh
theorem pd_valid : parseMethodDescriptor (mN M_valid).desc = some ⟨[.int], some .boolean⟩ := by decide +kernel
def M_check : Mi := ((⟨"HandleHeap", "check", "(I)I"⟩ : MethodName), prog_1_method_19_code, 2, (some .int), 1, 13)
theorem pl_check : plainFor (mN M_check) = true := plainFor_of_name pcls
theorem nm_check : notMH M_check := nmh
theorem pd_check : parseMethodDescriptor (mN M_check).desc = some ⟨[.int], some .int⟩ := by decide +kernel
def M_write : Mi := ((⟨"HandleHeap", "write", "(III)I"⟩ : MethodName), prog_1_method_10_code, 6, (some .int), 2, 26)
theorem pl_write : plainFor (mN M_write) = true := plainFor_of_name pcls
theorem nm_write : notMH M_write := nmh
theorem pd_write : parseMethodDescriptor (mN M_write).desc = some ⟨[.int, .int, .int], some .int⟩ := by decide +kernel
def M_setPurgeable : Mi := ((⟨"HandleHeap", "setPurgeable", "(IZ)I"⟩ : MethodName), prog_1_method_8_code, 4, (some .int), 2, 26)
theorem pl_setPurgeable : plainFor (mN M_setPurgeable) = true := plainFor_of_name pcls
theorem nm_setPurgeable : notMH M_setPurgeable := nmh
theorem pd_setPurgeable : parseMethodDescriptor (mN M_setPurgeable).desc = some ⟨[.int, .boolean], some .int⟩ := by decide +kernel
def M_lock : Mi := ((⟨"HandleHeap", "lock", "(I)I"⟩ : MethodName), prog_1_method_6_code, 3, (some .int), 2, 26)
theorem pl_lock : plainFor (mN M_lock) = true := plainFor_of_name pcls
theorem nm_lock : notMH M_lock := nmh
theorem pd_lock : parseMethodDescriptor (mN M_lock).desc = some ⟨[.int], some .int⟩ := by decide +kernel
def M_dispose : Mi := ((⟨"HandleHeap", "dispose", "(I)I"⟩ : MethodName), prog_1_method_3_code, 2, (some .int), 1, 13)
theorem pl_dispose : plainFor (mN M_dispose) = true := plainFor_of_name pcls
theorem nm_dispose : notMH M_dispose := nmh
theorem pd_dispose : parseMethodDescriptor (mN M_dispose).desc = some ⟨[.int], some .int⟩ := by decide +kernel
def M_largestFree : Mi := ((⟨"HandleHeap", "largestFree", "()I"⟩ : MethodName), prog_1_method_17_code, 4, (some .int), 2, 30)
theorem pl_largestFree : plainFor (mN M_largestFree) = true := plainFor_of_name pcls
theorem nm_largestFree : notMH M_largestFree := nmh
theorem pd_largestFree : parseMethodDescriptor (mN M_largestFree).desc = some ⟨[], some .int⟩ := by decide +kernel
def M_getState : Mi := ((⟨"HandleHeap", "getState", "(I)I"⟩ : MethodName), prog_1_method_12_code, 2, (some .int), 1, 13)
theorem pl_getState : plainFor (mN M_getState) = true := plainFor_of_name pcls
theorem nm_getState : notMH M_getState := nmh
theorem pd_getState : parseMethodDescriptor (mN M_getState).desc = some ⟨[.int], some .int⟩ := by decide +kernel
def M_getAddress : Mi := ((⟨"HandleHeap", "getAddress", "(I)I"⟩ : MethodName), prog_1_method_14_code, 2, (some .int), 1, 13)
theorem pl_getAddress : plainFor (mN M_getAddress) = true := plainFor_of_name pcls
theorem nm_getAddress : notMH M_getAddress := nmh
theorem pd_getAddress : parseMethodDescriptor (mN M_getAddress).desc = some ⟨[.int], some .int⟩ := by decide +kernel
def M_getSize : Mi := ((⟨"HandleHeap", "getSize", "(I)I"⟩ : MethodName), prog_1_method_13_code, 2, (some .int), 1, 13)
theorem pl_getSize : plainFor (mN M_getSize) = true := plainFor_of_name pcls
theorem nm_getSize : notMH M_getSize := nmh
theorem pd_getSize : parseMethodDescriptor (mN M_getSize).desc = some ⟨[.int], some .int⟩ := by decide +kernel
def M_read : Mi := ((⟨"HandleHeap", "read", "(II)I"⟩ : MethodName), prog_1_method_9_code, 4, (some .int), 1, 13)
theorem pl_read : plainFor (mN M_read) = true := plainFor_of_name pcls
theorem nm_read : notMH M_read := nmh
theorem pd_read : parseMethodDescriptor (mN M_read).desc = some ⟨[.int, .int], some .int⟩ := by decide +kernel
def M_getFlags : Mi := ((⟨"HandleHeap", "getFlags", "(I)I"⟩ : MethodName), prog_1_method_15_code, 3, (some .int), 1, 13)
theorem pl_getFlags : plainFor (mN M_getFlags) = true := plainFor_of_name pcls
theorem nm_getFlags : notMH M_getFlags := nmh
theorem pd_getFlags : parseMethodDescriptor (mN M_getFlags).desc = some ⟨[.int], some .int⟩ := by decide +kernel
def M_freeWords : Mi := ((⟨"HandleHeap", "freeWords", "()I"⟩ : MethodName), prog_1_method_16_code, 3, (some .int), 0, 0)
theorem pl_freeWords : plainFor (mN M_freeWords) = true := plainFor_of_name pcls
theorem nm_freeWords : notMH M_freeWords := nmh
theorem pd_freeWords : parseMethodDescriptor (mN M_freeWords).desc = some ⟨[], some .int⟩ := by decide +kernel
def M_law : Mi := (x, code, maxLocals, ret, 6, 92)
theorem pl_law : plainFor (mN M_law) = true := plainFor_of_name (by first | (simp [plainName, overriddenIn, x]; done) | decide +kernel)
def c2 : List (Nat × Instr × Nat) := [(0, .aload_n 0, 1), (1, .getfield 17, 3), (4, .iload_n 1, 1), (5, .iconst 0, 1), (6, .iastore, 1), (7, .aload_n 0, 1), (8, .getfield 20, 3), (11, .iload_n 1, 1), (12, .iconst (-1), 1), (13, .iastore, 1), (14, .aload_n 0, 1), (15, .getfield 23, 3), (18, .iload_n 1, 1), (19, .iconst 0, 1), (20, .iastore, 1), (21, .aload_n 0, 1), (22, .getfield 32, 3), (25, .iload_n 1, 1), (26, .iconst 0, 1), (27, .bastore, 1), (28, .aload_n 0, 1), (29, .getfield 35, 3), (32, .iload_n 1, 1), (33, .iconst 0, 1), (34, .bastore, 1), (35, .return_, 1)]
theorem D2 : decs prog_1_method_21_code c2 = true := by decide +kernel
theorem d2 (k : Nat) {p : Nat} {i : Instr} {n : Nat} (h : c2[k]? = some (p, i, n)) : decode prog_1_method_21_code p = .ok (i, n) := dget D2 h
def c0 : List (Nat × Instr × Nat) := [(0, .aload_n 0, 1), (1, .invokespecial 1, 3), (4, .aload_n 0, 1), (5, .sipush 256, 3), (8, .newarray .int, 2), (10, .putfield 7, 3), (13, .aload_n 0, 1), (14, .sipush 256, 3), (17, .newarray .boolean, 2), (19, .putfield 13, 3), (22, .aload_n 0, 1), (23, .bipush 32, 2), (25, .newarray .int, 2), (27, .putfield 17, 3), (30, .aload_n 0, 1), (31, .bipush 32, 2), (33, .newarray .int, 2), (35, .putfield 20, 3), (38, .aload_n 0, 1), (39, .bipush 32, 2), (41, .newarray .int, 2), (43, .putfield 23, 3), (46, .aload_n 0, 1), (47, .bipush 32, 2), (49, .newarray .int, 2), (51, .putfield 26, 3), (54, .aload_n 0, 1), (55, .bipush 32, 2), (57, .newarray .int, 2), (59, .putfield 29, 3), (62, .aload_n 0, 1), (63, .bipush 32, 2), (65, .newarray .boolean, 2), (67, .putfield 32, 3), (70, .aload_n 0, 1), (71, .bipush 32, 2), (73, .newarray .boolean, 2), (75, .putfield 35, 3), (78, .iload_n 1, 1), (79, .istore_n 3, 1), (80, .iload_n 3, 1), (81, .bipush 8, 2), (83, .if_icmp .ge 6, 3), (86, .bipush 8, 2), (88, .istore_n 3, 1), (89, .iload_n 3, 1), (90, .sipush 256, 3), (93, .if_icmp .le 7, 3), (96, .sipush 256, 3), (99, .istore_n 3, 1), (100, .iload_n 2, 1), (101, .istore 4, 2), (103, .iload 4, 2), (105, .iconst 2, 1), (106, .if_icmp .ge 6, 3), (109, .iconst 2, 1), (110, .istore 4, 2), (112, .iload 4, 2), (114, .bipush 32, 2), (116, .if_icmp .le 7, 3), (119, .bipush 32, 2), (121, .istore 4, 2), (123, .aload_n 0, 1), (124, .iload_n 3, 1), (125, .putfield 38, 3), (128, .aload_n 0, 1), (129, .iload 4, 2), (131, .putfield 42, 3), (134, .aload_n 0, 1), (135, .iconst 0, 1), (136, .putfield 45, 3), (139, .iconst 0, 1), (140, .istore 5, 2), (142, .iload 5, 2), (144, .bipush 32, 2), (146, .if_icmp .ge 15, 3), (149, .aload_n 0, 1), (150, .iload 5, 2), (152, .invokevirtual 48, 3), (155, .iinc 5 1, 3), (158, .goto (-16), 3), (161, .return_, 1)]
theorem D0 : decs prog_1_method_1_code c0 = true := by decide +kernel
theorem d0 (k : Nat) {p : Nat} {i : Instr} {n : Nat} (h : c0[k]? = some (p, i, n)) : decode prog_1_method_1_code p = .ok (i, n) := dget D0 h
def c7 : List (Nat × Instr × Nat) := [(0, .iconst 0, 1), (1, .istore_n 1, 1), (2, .iload_n 1, 1), (3, .sipush 256, 3), (6, .if_icmp .ge 16, 3), (9, .aload_n 0, 1), (10, .getfield 13, 3), (13, .iload_n 1, 1), (14, .iconst 0, 1), (15, .bastore, 1), (16, .iinc 1 1, 3), (19, .goto (-17), 3), (22, .return_, 1)]
theorem D7 : decs prog_1_method_27_code c7 = true := by decide +kernel
theorem d7 (k : Nat) {p : Nat} {i : Instr} {n : Nat} (h : c7[k]? = some (p, i, n)) : decode prog_1_method_27_code p = .ok (i, n) := dget D7 h
def c12 : List (Nat × Instr × Nat) := [(0, .aload_n 0, 1), (1, .getfield 20, 3), (4, .iload_n 1, 1), (5, .iaload, 1), (6, .istore_n 2, 1), (7, .aload_n 0, 1), (8, .getfield 23, 3), (11, .iload_n 1, 1), (12, .iaload, 1), (13, .istore_n 3, 1), (14, .iconst 0, 1), (15, .istore 4, 2), (17, .iload 4, 2), (19, .iload_n 3, 1), (20, .if_icmp .ge 36, 3), (23, .iload_n 2, 1), (24, .iload 4, 2), (26, .iadd, 1), (27, .istore 5, 2), (29, .iload 5, 2), (31, .ifCond .lt 19, 3), (34, .iload 5, 2), (36, .sipush 256, 3), (39, .if_icmp .ge 11, 3), (42, .aload_n 0, 1), (43, .getfield 13, 3), (46, .iload 5, 2), (48, .iconst 1, 1), (49, .bastore, 1), (50, .iinc 4 1, 3), (53, .goto (-36), 3), (56, .return_, 1)]
theorem D12 : decs prog_1_method_28_code c12 = true := by decide +kernel
theorem d12 (k : Nat) {p : Nat} {i : Instr} {n : Nat} (h : c12[k]? = some (p, i, n)) : decode prog_1_method_28_code p = .ok (i, n) := dget D12 h
def c6 : List (Nat × Instr × Nat) := [(0, .aload_n 0, 1), (1, .invokevirtual 95, 3), (4, .iconst 0, 1), (5, .istore_n 1, 1), (6, .iload_n 1, 1), (7, .aload_n 0, 1), (8, .getfield 42, 3), (11, .if_icmp .ge 24, 3), (14, .aload_n 0, 1), (15, .getfield 17, 3), (18, .iload_n 1, 1), (19, .iaload, 1), (20, .iconst 1, 1), (21, .if_icmp .ne 8, 3), (24, .aload_n 0, 1), (25, .iload_n 1, 1), (26, .invokevirtual 98, 3), (29, .iinc 1 1, 3), (32, .goto (-26), 3), (35, .return_, 1)]
theorem D6 : decs prog_1_method_29_code c6 = true := by decide +kernel
theorem d6 (k : Nat) {p : Nat} {i : Instr} {n : Nat} (h : c6[k]? = some (p, i, n)) : decode prog_1_method_29_code p = .ok (i, n) := dget D6 h
def c8 : List (Nat × Instr × Nat) := [(0, .iconst 0, 1), (1, .istore_n 2, 1), (2, .iconst 0, 1), (3, .istore_n 3, 1), (4, .iload_n 3, 1), (5, .aload_n 0, 1), (6, .getfield 38, 3), (9, .if_icmp .ge 37, 3), (12, .aload_n 0, 1), (13, .getfield 13, 3), (16, .iload_n 3, 1), (17, .baload, 1), (18, .ifCond .eq 8, 3), (21, .iconst 0, 1), (22, .istore_n 2, 1), (23, .goto 17, 3), (26, .iinc 2 1, 3), (29, .iload_n 2, 1), (30, .iload_n 1, 1), (31, .if_icmp .lt 9, 3), (34, .iload_n 3, 1), (35, .iload_n 1, 1), (36, .isub, 1), (37, .iconst 1, 1), (38, .iadd, 1), (39, .ireturn, 1), (40, .iinc 3 1, 3), (43, .goto (-39), 3), (46, .iconst (-1), 1), (47, .ireturn, 1)]
theorem D8 : decs prog_1_method_30_code c8 = true := by decide +kernel
theorem d8 (k : Nat) {p : Nat} {i : Instr} {n : Nat} (h : c8[k]? = some (p, i, n)) : decode prog_1_method_30_code p = .ok (i, n) := dget D8 h
def c5 : List (Nat × Instr × Nat) := [(0, .aload_n 0, 1), (1, .invokevirtual 89, 3), (4, .aload_n 0, 1), (5, .iload_n 1, 1), (6, .invokevirtual 101, 3), (9, .ireturn, 1)]
theorem D5 : decs prog_1_method_31_code c5 = true := by decide +kernel
theorem d5 (k : Nat) {p : Nat} {i : Instr} {n : Nat} (h : c5[k]? = some (p, i, n)) : decode prog_1_method_31_code p = .ok (i, n) := dget D5 h
def c20 : List (Nat × Instr × Nat) := [(0, .iconst 1, 1), (1, .istore_n 2, 1), (2, .iload_n 2, 1), (3, .iload_n 1, 1), (4, .if_icmp .ge 77, 3), (7, .iload_n 2, 1), (8, .istore_n 3, 1), (9, .iload_n 3, 1), (10, .ifCond .le 65, 3), (13, .aload_n 0, 1), (14, .getfield 29, 3), (17, .iload_n 3, 1), (18, .iconst 1, 1), (19, .isub, 1), (20, .iaload, 1), (21, .istore 4, 2), (23, .aload_n 0, 1), (24, .getfield 29, 3), (27, .iload_n 3, 1), (28, .iaload, 1), (29, .istore 5, 2), (31, .aload_n 0, 1), (32, .getfield 20, 3), (35, .iload 4, 2), (37, .iaload, 1), (38, .aload_n 0, 1), (39, .getfield 20, 3), (42, .iload 5, 2), (44, .iaload, 1), (45, .if_icmp .gt 6, 3), (48, .goto 27, 3), (51, .aload_n 0, 1), (52, .getfield 29, 3), (55, .iload_n 3, 1), (56, .iconst 1, 1), (57, .isub, 1), (58, .iload 5, 2), (60, .iastore, 1), (61, .aload_n 0, 1), (62, .getfield 29, 3), (65, .iload_n 3, 1), (66, .iload 4, 2), (68, .iastore, 1), (69, .iinc 3 (-1), 3), (72, .goto (-63), 3), (75, .iinc 2 1, 3), (78, .goto (-76), 3), (81, .return_, 1)]
theorem D20 : decs prog_1_method_34_code c20 = true := by decide +kernel
theorem d20 (k : Nat) {p : Nat} {i : Instr} {n : Nat} (h : c20[k]? = some (p, i, n)) : decode prog_1_method_34_code p = .ok (i, n) := dget D20 h
def c23 : List (Nat × Instr × Nat) := [(0, .iload_n 1, 1), (1, .ifCond .lt 33, 3), (4, .iload_n 1, 1), (5, .sipush 256, 3), (8, .if_icmp .ge 26, 3), (11, .iload_n 2, 1), (12, .ifCond .lt 22, 3), (15, .iload_n 2, 1), (16, .sipush 256, 3), (19, .if_icmp .ge 15, 3), (22, .aload_n 0, 1), (23, .getfield 7, 3), (26, .iload_n 2, 1), (27, .aload_n 0, 1), (28, .getfield 7, 3), (31, .iload_n 1, 1), (32, .iaload, 1), (33, .iastore, 1), (34, .return_, 1)]
theorem D23 : decs prog_1_method_26_code c23 = true := by decide +kernel
theorem d23 (k : Nat) {p : Nat} {i : Instr} {n : Nat} (h : c23[k]? = some (p, i, n)) : decode prog_1_method_26_code p = .ok (i, n) := dget D23 h
def c22 : List (Nat × Instr × Nat) := [(0, .iload_n 2, 1), (1, .iload_n 1, 1), (2, .if_icmp .gt 33, 3), (5, .iconst 0, 1), (6, .istore 4, 2), (8, .iload 4, 2), (10, .iload_n 3, 1), (11, .if_icmp .ge 21, 3), (14, .aload_n 0, 1), (15, .iload_n 1, 1), (16, .iload 4, 2), (18, .iadd, 1), (19, .iload_n 2, 1), (20, .iload 4, 2), (22, .iadd, 1), (23, .invokevirtual 92, 3), (26, .iinc 4 1, 3), (29, .goto (-21), 3), (32, .goto 31, 3), (35, .iload_n 3, 1), (36, .iconst 1, 1), (37, .isub, 1), (38, .istore 4, 2), (40, .iload 4, 2), (42, .ifCond .lt 21, 3), (45, .aload_n 0, 1), (46, .iload_n 1, 1), (47, .iload 4, 2), (49, .iadd, 1), (50, .iload_n 2, 1), (51, .iload 4, 2), (53, .iadd, 1), (54, .invokevirtual 92, 3), (57, .iinc 4 (-1), 3), (60, .goto (-20), 3), (63, .return_, 1)]
theorem D22 : decs prog_1_method_25_code c22 = true := by decide +kernel
theorem d22 (k : Nat) {p : Nat} {i : Instr} {n : Nat} (h : c22[k]? = some (p, i, n)) : decode prog_1_method_25_code p = .ok (i, n) := dget D22 h
def c21 : List (Nat × Instr × Nat) := [(0, .aload_n 0, 1), (1, .getfield 23, 3), (4, .iload_n 1, 1), (5, .iaload, 1), (6, .istore_n 2, 1), (7, .aload_n 0, 1), (8, .iload_n 2, 1), (9, .invokevirtual 101, 3), (12, .istore_n 3, 1), (13, .iload_n 3, 1), (14, .ifCond .lt 13, 3), (17, .iload_n 3, 1), (18, .aload_n 0, 1), (19, .getfield 20, 3), (22, .iload_n 1, 1), (23, .iaload, 1), (24, .if_icmp .le 10, 3), (27, .aload_n 0, 1), (28, .getfield 20, 3), (31, .iload_n 1, 1), (32, .iaload, 1), (33, .istore_n 3, 1), (34, .aload_n 0, 1), (35, .aload_n 0, 1), (36, .getfield 20, 3), (39, .iload_n 1, 1), (40, .iaload, 1), (41, .iload_n 3, 1), (42, .iload_n 2, 1), (43, .invokevirtual 79, 3), (46, .aload_n 0, 1), (47, .getfield 20, 3), (50, .iload_n 1, 1), (51, .iload_n 3, 1), (52, .iastore, 1), (53, .aload_n 0, 1), (54, .iload_n 1, 1), (55, .invokevirtual 98, 3), (58, .return_, 1)]
theorem D21 : decs prog_1_method_35_code c21 = true := by decide +kernel
theorem d21 (k : Nat) {p : Nat} {i : Instr} {n : Nat} (h : c21[k]? = some (p, i, n)) : decode prog_1_method_35_code p = .ok (i, n) := dget D21 h
def c19 : List (Nat × Instr × Nat) := [(0, .aload_n 0, 1), (1, .invokevirtual 95, 3), (4, .iconst 0, 1), (5, .istore_n 2, 1), (6, .iconst 0, 1), (7, .istore_n 3, 1), (8, .iload_n 3, 1), (9, .aload_n 0, 1), (10, .getfield 42, 3), (13, .if_icmp .ge 51, 3), (16, .aload_n 0, 1), (17, .getfield 17, 3), (20, .iload_n 3, 1), (21, .iaload, 1), (22, .iconst 1, 1), (23, .if_icmp .ne 35, 3), (26, .aload_n 0, 1), (27, .getfield 32, 3), (30, .iload_n 3, 1), (31, .baload, 1), (32, .ifCond .ne 8, 3), (35, .iload_n 3, 1), (36, .iload_n 1, 1), (37, .if_icmp .ne 11, 3), (40, .aload_n 0, 1), (41, .iload_n 3, 1), (42, .invokevirtual 98, 3), (45, .goto 13, 3), (48, .aload_n 0, 1), (49, .getfield 29, 3), (52, .iload_n 2, 1), (53, .iload_n 3, 1), (54, .iastore, 1), (55, .iinc 2 1, 3), (58, .iinc 3 1, 3), (61, .goto (-53), 3), (64, .aload_n 0, 1), (65, .iload_n 2, 1), (66, .invokevirtual 104, 3), (69, .iconst 0, 1), (70, .istore_n 3, 1), (71, .iload_n 3, 1), (72, .iload_n 2, 1), (73, .if_icmp .ge 19, 3), (76, .aload_n 0, 1), (77, .aload_n 0, 1), (78, .getfield 29, 3), (81, .iload_n 3, 1), (82, .iaload, 1), (83, .invokevirtual 107, 3), (86, .iinc 3 1, 3), (89, .goto (-18), 3), (92, .return_, 1)]
theorem D19 : decs prog_1_method_33_code c19 = true := by decide +kernel
theorem d19 (k : Nat) {p : Nat} {i : Instr} {n : Nat} (h : c19[k]? = some (p, i, n)) : decode prog_1_method_33_code p = .ok (i, n) := dget D19 h
def c31 : List (Nat × Instr × Nat) := [(0, .iconst (-1), 1), (1, .istore_n 2, 1), (2, .iconst 0, 1), (3, .istore_n 3, 1), (4, .iload_n 3, 1), (5, .aload_n 0, 1), (6, .getfield 42, 3), (9, .if_icmp .ge 63, 3), (12, .aload_n 0, 1), (13, .getfield 17, 3), (16, .iload_n 3, 1), (17, .iaload, 1), (18, .iconst 1, 1), (19, .if_icmp .ne 47, 3), (22, .iload_n 3, 1), (23, .iload_n 1, 1), (24, .if_icmp .eq 42, 3), (27, .aload_n 0, 1), (28, .getfield 35, 3), (31, .iload_n 3, 1), (32, .baload, 1), (33, .ifCond .eq 33, 3), (36, .aload_n 0, 1), (37, .getfield 32, 3), (40, .iload_n 3, 1), (41, .baload, 1), (42, .ifCond .ne 24, 3), (45, .iload_n 2, 1), (46, .ifCond .lt 18, 3), (49, .aload_n 0, 1), (50, .getfield 26, 3), (53, .iload_n 3, 1), (54, .iaload, 1), (55, .aload_n 0, 1), (56, .getfield 26, 3), (59, .iload_n 2, 1), (60, .iaload, 1), (61, .if_icmp .ge 5, 3), (64, .iload_n 3, 1), (65, .istore_n 2, 1), (66, .iinc 3 1, 3), (69, .goto (-65), 3), (72, .iload_n 2, 1), (73, .ireturn, 1)]
theorem D31 : decs prog_1_method_36_code c31 = true := by decide +kernel
theorem d31 (k : Nat) {p : Nat} {i : Instr} {n : Nat} (h : c31[k]? = some (p, i, n)) : decode prog_1_method_36_code p = .ok (i, n) := dget D31 h
def c32 : List (Nat × Instr × Nat) := [(0, .aload_n 0, 1), (1, .getfield 17, 3), (4, .iload_n 1, 1), (5, .iconst 2, 1), (6, .iastore, 1), (7, .aload_n 0, 1), (8, .getfield 20, 3), (11, .iload_n 1, 1), (12, .iconst (-1), 1), (13, .iastore, 1), (14, .aload_n 0, 1), (15, .getfield 23, 3), (18, .iload_n 1, 1), (19, .iconst 0, 1), (20, .iastore, 1), (21, .aload_n 0, 1), (22, .getfield 32, 3), (25, .iload_n 1, 1), (26, .iconst 0, 1), (27, .bastore, 1), (28, .aload_n 0, 1), (29, .getfield 35, 3), (32, .iload_n 1, 1), (33, .iconst 0, 1), (34, .bastore, 1), (35, .return_, 1)]
theorem D32 : decs prog_1_method_22_code c32 = true := by decide +kernel
theorem d32 (k : Nat) {p : Nat} {i : Instr} {n : Nat} (h : c32[k]? = some (p, i, n)) : decode prog_1_method_22_code p = .ok (i, n) := dget D32 h
def c4 : List (Nat × Instr × Nat) := [(0, .aload_n 0, 1), (1, .iload_n 1, 1), (2, .invokevirtual 110, 3), (5, .istore_n 3, 1), (6, .iload_n 3, 1), (7, .ifCond .lt 5, 3), (10, .iload_n 3, 1), (11, .ireturn, 1), (12, .aload_n 0, 1), (13, .iload_n 2, 1), (14, .invokevirtual 82, 3), (17, .aload_n 0, 1), (18, .iload_n 1, 1), (19, .invokevirtual 110, 3), (22, .istore_n 3, 1), (23, .iload_n 3, 1), (24, .ifCond .lt 5, 3), (27, .iload_n 3, 1), (28, .ireturn, 1), (29, .iconst 0, 1), (30, .istore 4, 2), (32, .iload 4, 2), (34, .bipush 32, 2), (36, .if_icmp .gt 46, 3), (39, .aload_n 0, 1), (40, .iload_n 2, 1), (41, .invokevirtual 113, 3), (44, .istore 5, 2), (46, .iload 5, 2), (48, .ifCond .ge 5, 3), (51, .iconst (-1), 1), (52, .ireturn, 1), (53, .aload_n 0, 1), (54, .iload 5, 2), (56, .invokevirtual 116, 3), (59, .aload_n 0, 1), (60, .iload_n 2, 1), (61, .invokevirtual 82, 3), (64, .aload_n 0, 1), (65, .iload_n 1, 1), (66, .invokevirtual 110, 3), (69, .istore_n 3, 1), (70, .iload_n 3, 1), (71, .ifCond .lt 5, 3), (74, .iload_n 3, 1), (75, .ireturn, 1), (76, .iinc 4 1, 3), (79, .goto (-47), 3), (82, .iconst (-1), 1), (83, .ireturn, 1)]
theorem D4 : decs prog_1_method_37_code c4 = true := by decide +kernel
theorem d4 (k : Nat) {p : Nat} {i : Instr} {n : Nat} (h : c4[k]? = some (p, i, n)) : decode prog_1_method_37_code p = .ok (i, n) := dget D4 h
def c10 : List (Nat × Instr × Nat) := [(0, .iconst 0, 1), (1, .istore_n 3, 1), (2, .iload_n 3, 1), (3, .iload_n 2, 1), (4, .if_icmp .ge 35, 3), (7, .iload_n 1, 1), (8, .iload_n 3, 1), (9, .iadd, 1), (10, .istore 4, 2), (12, .iload 4, 2), (14, .ifCond .lt 19, 3), (17, .iload 4, 2), (19, .sipush 256, 3), (22, .if_icmp .ge 11, 3), (25, .aload_n 0, 1), (26, .getfield 7, 3), (29, .iload 4, 2), (31, .iconst 0, 1), (32, .iastore, 1), (33, .iinc 3 1, 3), (36, .goto (-34), 3), (39, .return_, 1)]
theorem D10 : decs prog_1_method_24_code c10 = true := by decide +kernel
theorem d10 (k : Nat) {p : Nat} {i : Instr} {n : Nat} (h : c10[k]? = some (p, i, n)) : decode prog_1_method_24_code p = .ok (i, n) := dget D10 h
def c11 : List (Nat × Instr × Nat) := [(0, .aload_n 0, 1), (1, .aload_n 0, 1), (2, .getfield 45, 3), (5, .iconst 1, 1), (6, .iadd, 1), (7, .putfield 45, 3), (10, .aload_n 0, 1), (11, .getfield 26, 3), (14, .iload_n 1, 1), (15, .aload_n 0, 1), (16, .getfield 45, 3), (19, .iastore, 1), (20, .return_, 1)]
theorem D11 : decs prog_1_method_20_code c11 = true := by decide +kernel
theorem d11 (k : Nat) {p : Nat} {i : Instr} {n : Nat} (h : c11[k]? = some (p, i, n)) : decode prog_1_method_20_code p = .ok (i, n) := dget D11 h
def c9 : List (Nat × Instr × Nat) := [(0, .aload_n 0, 1), (1, .getfield 17, 3), (4, .iload_n 1, 1), (5, .iconst 1, 1), (6, .iastore, 1), (7, .aload_n 0, 1), (8, .getfield 20, 3), (11, .iload_n 1, 1), (12, .iload_n 2, 1), (13, .iastore, 1), (14, .aload_n 0, 1), (15, .getfield 23, 3), (18, .iload_n 1, 1), (19, .iload_n 3, 1), (20, .iastore, 1), (21, .aload_n 0, 1), (22, .getfield 32, 3), (25, .iload_n 1, 1), (26, .iconst 0, 1), (27, .bastore, 1), (28, .aload_n 0, 1), (29, .getfield 35, 3), (32, .iload_n 1, 1), (33, .iconst 0, 1), (34, .bastore, 1), (35, .aload_n 0, 1), (36, .iload_n 2, 1), (37, .iload_n 3, 1), (38, .invokevirtual 75, 3), (41, .aload_n 0, 1), (42, .iload_n 1, 1), (43, .invokevirtual 68, 3), (46, .return_, 1)]
theorem D9 : decs prog_1_method_23_code c9 = true := by decide +kernel
theorem d9 (k : Nat) {p : Nat} {i : Instr} {n : Nat} (h : c9[k]? = some (p, i, n)) : decode prog_1_method_23_code p = .ok (i, n) := dget D9 h
def c3 : List (Nat × Instr × Nat) := [(0, .iload_n 1, 1), (1, .iconst 1, 1), (2, .if_icmp .lt 11, 3), (5, .iload_n 1, 1), (6, .aload_n 0, 1), (7, .getfield 38, 3), (10, .if_icmp .le 6, 3), (13, .bipush (-2), 2), (15, .ireturn, 1), (16, .iconst (-1), 1), (17, .istore_n 2, 1), (18, .iconst 0, 1), (19, .istore_n 3, 1), (20, .iload_n 3, 1), (21, .aload_n 0, 1), (22, .getfield 42, 3), (25, .if_icmp .ge 23, 3), (28, .aload_n 0, 1), (29, .getfield 17, 3), (32, .iload_n 3, 1), (33, .iaload, 1), (34, .ifCond .ne 8, 3), (37, .iload_n 3, 1), (38, .istore_n 2, 1), (39, .goto 9, 3), (42, .iinc 3 1, 3), (45, .goto (-25), 3), (48, .iload_n 2, 1), (49, .ifCond .ge 6, 3), (52, .bipush (-7), 2), (54, .ireturn, 1), (55, .aload_n 0, 1), (56, .iload_n 1, 1), (57, .iconst (-1), 1), (58, .invokevirtual 52, 3), (61, .istore_n 3, 1), (62, .iload_n 3, 1), (63, .ifCond .ge 6, 3), (66, .bipush (-6), 2), (68, .ireturn, 1), (69, .aload_n 0, 1), (70, .iload_n 2, 1), (71, .iload_n 3, 1), (72, .iload_n 1, 1), (73, .invokevirtual 56, 3), (76, .iload_n 2, 1), (77, .ireturn, 1)]
theorem D3 : decs prog_1_method_2_code c3 = true := by decide +kernel
theorem d3 (k : Nat) {p : Nat} {i : Instr} {n : Nat} (h : c3[k]? = some (p, i, n)) : decode prog_1_method_2_code p = .ok (i, n) := dget D3 h
def c15 : List (Nat × Instr × Nat) := [(0, .iload_n 1, 1), (1, .ifCond .lt 15, 3), (4, .iload_n 1, 1), (5, .aload_n 0, 1), (6, .getfield 42, 3), (9, .if_icmp .ge 7, 3), (12, .iconst 1, 1), (13, .goto 4, 3), (16, .iconst 0, 1), (17, .ireturn, 1)]
theorem D15 : decs prog_1_method_18_code c15 = true := by decide +kernel
theorem d15 (k : Nat) {p : Nat} {i : Instr} {n : Nat} (h : c15[k]? = some (p, i, n)) : decode prog_1_method_18_code p = .ok (i, n) := dget D15 h
def c14 : List (Nat × Instr × Nat) := [(0, .aload_n 0, 1), (1, .iload_n 1, 1), (2, .invokevirtual 60, 3), (5, .ifCond .eq 12, 3), (8, .aload_n 0, 1), (9, .getfield 17, 3), (12, .iload_n 1, 1), (13, .iaload, 1), (14, .ifCond .ne 5, 3), (17, .iconst (-1), 1), (18, .ireturn, 1), (19, .aload_n 0, 1), (20, .getfield 17, 3), (23, .iload_n 1, 1), (24, .iaload, 1), (25, .iconst 2, 1), (26, .if_icmp .ne 6, 3), (29, .bipush (-4), 2), (31, .ireturn, 1), (32, .iconst 0, 1), (33, .ireturn, 1)]
theorem D14 : decs prog_1_method_19_code c14 = true := by decide +kernel
theorem d14 (k : Nat) {p : Nat} {i : Instr} {n : Nat} (h : c14[k]? = some (p, i, n)) : decode prog_1_method_19_code p = .ok (i, n) := dget D14 h
def c13 : List (Nat × Instr × Nat) := [(0, .aload_n 0, 1), (1, .iload_n 1, 1), (2, .invokevirtual 64, 3), (5, .istore 4, 2), (7, .iload 4, 2), (9, .ifCond .eq 6, 3), (12, .iload 4, 2), (14, .ireturn, 1), (15, .iload_n 2, 1), (16, .ifCond .lt 13, 3), (19, .iload_n 2, 1), (20, .aload_n 0, 1), (21, .getfield 23, 3), (24, .iload_n 1, 1), (25, .iaload, 1), (26, .if_icmp .lt 6, 3), (29, .bipush (-3), 2), (31, .ireturn, 1), (32, .aload_n 0, 1), (33, .getfield 20, 3), (36, .iload_n 1, 1), (37, .iaload, 1), (38, .iload_n 2, 1), (39, .iadd, 1), (40, .istore 5, 2), (42, .iload 5, 2), (44, .ifCond .lt 19, 3), (47, .iload 5, 2), (49, .sipush 256, 3), (52, .if_icmp .ge 11, 3), (55, .aload_n 0, 1), (56, .getfield 7, 3), (59, .iload 5, 2), (61, .iload_n 3, 1), (62, .iastore, 1), (63, .aload_n 0, 1), (64, .iload_n 1, 1), (65, .invokevirtual 68, 3), (68, .iconst 0, 1), (69, .ireturn, 1)]
theorem D13 : decs prog_1_method_10_code c13 = true := by decide +kernel
theorem d13 (k : Nat) {p : Nat} {i : Instr} {n : Nat} (h : c13[k]? = some (p, i, n)) : decode prog_1_method_10_code p = .ok (i, n) := dget D13 h
def c16 : List (Nat × Instr × Nat) := [(0, .aload_n 0, 1), (1, .iload_n 1, 1), (2, .invokevirtual 64, 3), (5, .istore_n 3, 1), (6, .iload_n 3, 1), (7, .ifCond .eq 5, 3), (10, .iload_n 3, 1), (11, .ireturn, 1), (12, .aload_n 0, 1), (13, .getfield 35, 3), (16, .iload_n 1, 1), (17, .iload_n 2, 1), (18, .bastore, 1), (19, .iconst 0, 1), (20, .ireturn, 1)]
theorem D16 : decs prog_1_method_8_code c16 = true := by decide +kernel
theorem d16 (k : Nat) {p : Nat} {i : Instr} {n : Nat} (h : c16[k]? = some (p, i, n)) : decode prog_1_method_8_code p = .ok (i, n) := dget D16 h
def c30 : List (Nat × Instr × Nat) := [(0, .aload_n 0, 1), (1, .iload_n 1, 1), (2, .invokevirtual 64, 3), (5, .istore_n 2, 1), (6, .iload_n 2, 1), (7, .ifCond .eq 5, 3), (10, .iload_n 2, 1), (11, .ireturn, 1), (12, .aload_n 0, 1), (13, .getfield 32, 3), (16, .iload_n 1, 1), (17, .iconst 1, 1), (18, .bastore, 1), (19, .iconst 0, 1), (20, .ireturn, 1)]
theorem D30 : decs prog_1_method_6_code c30 = true := by decide +kernel
theorem d30 (k : Nat) {p : Nat} {i : Instr} {n : Nat} (h : c30[k]? = some (p, i, n)) : decode prog_1_method_6_code p = .ok (i, n) := dget D30 h
def c17 : List (Nat × Instr × Nat) := [(0, .aload_n 0, 1), (1, .iload_n 1, 1), (2, .invokevirtual 60, 3), (5, .ifCond .eq 12, 3), (8, .aload_n 0, 1), (9, .getfield 17, 3), (12, .iload_n 1, 1), (13, .iaload, 1), (14, .ifCond .ne 5, 3), (17, .iconst (-1), 1), (18, .ireturn, 1), (19, .aload_n 0, 1), (20, .iload_n 1, 1), (21, .invokevirtual 48, 3), (24, .iconst 0, 1), (25, .ireturn, 1)]
theorem D17 : decs prog_1_method_3_code c17 = true := by decide +kernel
theorem d17 (k : Nat) {p : Nat} {i : Instr} {n : Nat} (h : c17[k]? = some (p, i, n)) : decode prog_1_method_3_code p = .ok (i, n) := dget D17 h
def c18 : List (Nat × Instr × Nat) := [(0, .aload_n 0, 1), (1, .invokevirtual 89, 3), (4, .iconst 0, 1), (5, .istore_n 1, 1), (6, .iconst 0, 1), (7, .istore_n 2, 1), (8, .iconst 0, 1), (9, .istore_n 3, 1), (10, .iload_n 3, 1), (11, .aload_n 0, 1), (12, .getfield 38, 3), (15, .if_icmp .ge 33, 3), (18, .aload_n 0, 1), (19, .getfield 13, 3), (22, .iload_n 3, 1), (23, .baload, 1), (24, .ifCond .eq 8, 3), (27, .iconst 0, 1), (28, .istore_n 2, 1), (29, .goto 13, 3), (32, .iinc 2 1, 3), (35, .iload_n 2, 1), (36, .iload_n 1, 1), (37, .if_icmp .le 5, 3), (40, .iload_n 2, 1), (41, .istore_n 1, 1), (42, .iinc 3 1, 3), (45, .goto (-35), 3), (48, .iload_n 1, 1), (49, .ireturn, 1)]
theorem D18 : decs prog_1_method_17_code c18 = true := by decide +kernel
theorem d18 (k : Nat) {p : Nat} {i : Instr} {n : Nat} (h : c18[k]? = some (p, i, n)) : decode prog_1_method_17_code p = .ok (i, n) := dget D18 h
def c24 : List (Nat × Instr × Nat) := [(0, .aload_n 0, 1), (1, .iload_n 1, 1), (2, .invokevirtual 60, 3), (5, .ifCond .ne 5, 3), (8, .iconst (-1), 1), (9, .ireturn, 1), (10, .aload_n 0, 1), (11, .getfield 17, 3), (14, .iload_n 1, 1), (15, .iaload, 1), (16, .ireturn, 1)]
theorem D24 : decs prog_1_method_12_code c24 = true := by decide +kernel
theorem d24 (k : Nat) {p : Nat} {i : Instr} {n : Nat} (h : c24[k]? = some (p, i, n)) : decode prog_1_method_12_code p = .ok (i, n) := dget D24 h
def c25 : List (Nat × Instr × Nat) := [(0, .aload_n 0, 1), (1, .iload_n 1, 1), (2, .invokevirtual 60, 3), (5, .ifCond .eq 13, 3), (8, .aload_n 0, 1), (9, .getfield 17, 3), (12, .iload_n 1, 1), (13, .iaload, 1), (14, .iconst 1, 1), (15, .if_icmp .eq 5, 3), (18, .iconst (-1), 1), (19, .ireturn, 1), (20, .aload_n 0, 1), (21, .getfield 20, 3), (24, .iload_n 1, 1), (25, .iaload, 1), (26, .ireturn, 1)]
theorem D25 : decs prog_1_method_14_code c25 = true := by decide +kernel
theorem d25 (k : Nat) {p : Nat} {i : Instr} {n : Nat} (h : c25[k]? = some (p, i, n)) : decode prog_1_method_14_code p = .ok (i, n) := dget D25 h
def c26 : List (Nat × Instr × Nat) := [(0, .aload_n 0, 1), (1, .iload_n 1, 1), (2, .invokevirtual 60, 3), (5, .ifCond .eq 13, 3), (8, .aload_n 0, 1), (9, .getfield 17, 3), (12, .iload_n 1, 1), (13, .iaload, 1), (14, .iconst 1, 1), (15, .if_icmp .eq 5, 3), (18, .iconst 0, 1), (19, .ireturn, 1), (20, .aload_n 0, 1), (21, .getfield 23, 3), (24, .iload_n 1, 1), (25, .iaload, 1), (26, .ireturn, 1)]
theorem D26 : decs prog_1_method_13_code c26 = true := by decide +kernel
theorem d26 (k : Nat) {p : Nat} {i : Instr} {n : Nat} (h : c26[k]? = some (p, i, n)) : decode prog_1_method_13_code p = .ok (i, n) := dget D26 h
def c27 : List (Nat × Instr × Nat) := [(0, .aload_n 0, 1), (1, .iload_n 1, 1), (2, .invokevirtual 60, 3), (5, .ifCond .eq 13, 3), (8, .aload_n 0, 1), (9, .getfield 17, 3), (12, .iload_n 1, 1), (13, .iaload, 1), (14, .iconst 1, 1), (15, .if_icmp .eq 5, 3), (18, .iconst 0, 1), (19, .ireturn, 1), (20, .iload_n 2, 1), (21, .ifCond .lt 13, 3), (24, .iload_n 2, 1), (25, .aload_n 0, 1), (26, .getfield 23, 3), (29, .iload_n 1, 1), (30, .iaload, 1), (31, .if_icmp .lt 5, 3), (34, .iconst 0, 1), (35, .ireturn, 1), (36, .aload_n 0, 1), (37, .getfield 20, 3), (40, .iload_n 1, 1), (41, .iaload, 1), (42, .iload_n 2, 1), (43, .iadd, 1), (44, .istore_n 3, 1), (45, .iload_n 3, 1), (46, .ifCond .lt 10, 3), (49, .iload_n 3, 1), (50, .sipush 256, 3), (53, .if_icmp .lt 5, 3), (56, .iconst 0, 1), (57, .ireturn, 1), (58, .aload_n 0, 1), (59, .iload_n 1, 1), (60, .invokevirtual 68, 3), (63, .aload_n 0, 1), (64, .getfield 7, 3), (67, .iload_n 3, 1), (68, .iaload, 1), (69, .ireturn, 1)]
theorem D27 : decs prog_1_method_9_code c27 = true := by decide +kernel
theorem d27 (k : Nat) {p : Nat} {i : Instr} {n : Nat} (h : c27[k]? = some (p, i, n)) : decode prog_1_method_9_code p = .ok (i, n) := dget D27 h
def c28 : List (Nat × Instr × Nat) := [(0, .aload_n 0, 1), (1, .iload_n 1, 1), (2, .invokevirtual 60, 3), (5, .ifCond .eq 13, 3), (8, .aload_n 0, 1), (9, .getfield 17, 3), (12, .iload_n 1, 1), (13, .iaload, 1), (14, .iconst 1, 1), (15, .if_icmp .eq 5, 3), (18, .iconst 0, 1), (19, .ireturn, 1), (20, .iconst 0, 1), (21, .istore_n 2, 1), (22, .aload_n 0, 1), (23, .getfield 32, 3), (26, .iload_n 1, 1), (27, .baload, 1), (28, .ifCond .eq 7, 3), (31, .iload_n 2, 1), (32, .iconst 1, 1), (33, .iadd, 1), (34, .istore_n 2, 1), (35, .aload_n 0, 1), (36, .getfield 35, 3), (39, .iload_n 1, 1), (40, .baload, 1), (41, .ifCond .eq 7, 3), (44, .iload_n 2, 1), (45, .iconst 2, 1), (46, .iadd, 1), (47, .istore_n 2, 1), (48, .iload_n 2, 1), (49, .ireturn, 1)]
theorem D28 : decs prog_1_method_15_code c28 = true := by decide +kernel
theorem d28 (k : Nat) {p : Nat} {i : Instr} {n : Nat} (h : c28[k]? = some (p, i, n)) : decode prog_1_method_15_code p = .ok (i, n) := dget D28 h
def c29 : List (Nat × Instr × Nat) := [(0, .iconst 0, 1), (1, .istore_n 1, 1), (2, .iconst 0, 1), (3, .istore_n 2, 1), (4, .iload_n 2, 1), (5, .aload_n 0, 1), (6, .getfield 42, 3), (9, .if_icmp .ge 28, 3), (12, .aload_n 0, 1), (13, .getfield 17, 3), (16, .iload_n 2, 1), (17, .iaload, 1), (18, .iconst 1, 1), (19, .if_icmp .ne 12, 3), (22, .iload_n 1, 1), (23, .aload_n 0, 1), (24, .getfield 23, 3), (27, .iload_n 2, 1), (28, .iaload, 1), (29, .iadd, 1), (30, .istore_n 1, 1), (31, .iinc 2 1, 3), (34, .goto (-30), 3), (37, .aload_n 0, 1), (38, .getfield 38, 3), (41, .iload_n 1, 1), (42, .isub, 1), (43, .ireturn, 1)]
theorem D29 : decs prog_1_method_16_code c29 = true := by decide +kernel
theorem d29 (k : Nat) {p : Nat} {i : Instr} {n : Nat} (h : c29[k]? = some (p, i, n)) : decode prog_1_method_16_code p = .ok (i, n) := dget D29 h
def H0 : MHeap := []
def KL (s : St) : MHeap := KH flds al Ln H0 [] s
def f_clearHandle (a0 : Int32) (s : St) : Option (St) :=
  grd (inb a0 32) <|
  bnd (setA s 2 (ix a0) (0 : Int32)) fun s2 =>
  bnd (setA s2 3 (ix a0) (-1 : Int32)) fun s3 =>
  bnd (setA s3 4 (ix a0) (0 : Int32)) fun s4 =>
  bnd (setA s4 7 (ix a0) ((0 : Int32) &&& 1)) fun s5 =>
  bnd (setA s5 8 (ix a0) ((0 : Int32) &&& 1)) fun s6 =>
  some s6
set_option maxRecDepth 100000 in
theorem e_clearHandle {g : GT} {a0 : Int32} {s : St} {w : St} (hw : HW g) {K : St → MHeap} {o : Nat} {r : Nat → Nat} (V : View (GG g) Ln K o r) (hr : f_clearHandle a0 s = some w) : EvC (GG g) M_clearHandle [.ref o, .int a0] (K s) (none, (K w)) := by
  refine EvC.enter (L0 := [.val (.ref o), .val (.int a0)]) pl_clearHandle (fun _ => rfl) rfl rfl ?_
  unfold f_clearHandle at hr
  refine Ev.aloadN (d2 0 rfl) rfl ?_
  refine Ev.gAr V (ww hw 15 rfl) (d2 1 rfl) (j := 2) rfl ?_
  refine Ev.iloadN (d2 2 rfl) rfl ?_
  refine Ev.iconst (z := 0) (d2 3 rfl) rfl ?_
  obtain ⟨b1, hr⟩ := grd_some hr
  refine Ev.ias V (j := 2) rfl rfl (d2 4 rfl) b1 ?_
  revert hr
  generalize setA s 2 (ix a0) (0 : Int32) = s2
  intro hr
  replace hr := (bnd_eq _ _).symm.trans hr
  refine Ev.aloadN (d2 5 rfl) rfl ?_
  refine Ev.gAr V (ww hw 17 rfl) (d2 6 rfl) (j := 3) rfl ?_
  refine Ev.iloadN (d2 7 rfl) rfl ?_
  refine Ev.iconst (z := -1) (d2 8 rfl) rfl ?_
  refine Ev.ias V (j := 3) rfl rfl (d2 9 rfl) b1 ?_
  revert hr
  generalize setA s2 3 (ix a0) (-1 : Int32) = s3
  intro hr
  replace hr := (bnd_eq _ _).symm.trans hr
  refine Ev.aloadN (d2 10 rfl) rfl ?_
  refine Ev.gAr V (ww hw 19 rfl) (d2 11 rfl) (j := 4) rfl ?_
  refine Ev.iloadN (d2 12 rfl) rfl ?_
  refine Ev.iconst (z := 0) (d2 13 rfl) rfl ?_
  refine Ev.ias V (j := 4) rfl rfl (d2 14 rfl) b1 ?_
  revert hr
  generalize setA s3 4 (ix a0) (0 : Int32) = s4
  intro hr
  replace hr := (bnd_eq _ _).symm.trans hr
  refine Ev.aloadN (d2 15 rfl) rfl ?_
  refine Ev.gAr V (ww hw 25 rfl) (d2 16 rfl) (j := 7) rfl ?_
  refine Ev.iloadN (d2 17 rfl) rfl ?_
  refine Ev.iconst (z := 0) (d2 18 rfl) rfl ?_
  refine Ev.bas V (j := 7) rfl rfl (d2 19 rfl) b1 ?_
  revert hr
  generalize setA s4 7 (ix a0) ((0 : Int32) &&& 1) = s5
  intro hr
  replace hr := (bnd_eq _ _).symm.trans hr
  refine Ev.aloadN (d2 20 rfl) rfl ?_
  refine Ev.gAr V (ww hw 27 rfl) (d2 21 rfl) (j := 8) rfl ?_
  refine Ev.iloadN (d2 22 rfl) rfl ?_
  refine Ev.iconst (z := 0) (d2 23 rfl) rfl ?_
  refine Ev.bas V (j := 8) rfl rfl (d2 24 rfl) b1 ?_
  revert hr
  generalize setA s5 8 (ix a0) ((0 : Int32) &&& 1) = s6
  intro hr
  replace hr := (bnd_eq _ _).symm.trans hr
  cases hr
  exact Ev.vreturn rfl (d2 25 rfl)
def f_ctor_142 (n : Nat) : Nat → Int32 → St → Option (St)
  | 0 => fun _ _ => none
  | k + 1 => fun x5 s =>
    if x5 < (32 : Int32) then
      (f_clearHandle x5 s).bind fun q2 =>
      f_ctor_142 n k (x5 + (1 : Int32)) q2
    else
      some s
set_option maxRecDepth 100000 in
theorem e_ctor_142 {g : GT} {n : Nat} (hw : HW g) {K : St → MHeap} {o : Nat} {r : Nat → Nat} (V : View (GG g) Ln K o r) (k : Nat) : ∀ (x5 : Int32) (s : St) (y1 : Slot) (hy1 : one1 y1 = true) (y2 : Slot) (hy2 : one1 y2 = true) (y3 : Slot) (hy3 : one1 y3 = true) (y4 : Slot) (hy4 : one1 y4 = true) (w : St), f_ctor_142 n k x5 s = some w → Ev (GG g) M_ctor 142 [.val (.ref o), y1, y2, y3, y4, .val (.int x5)] [] (K s) (none, (K w)) := by
  induction k with
  | zero => intro x5 s y1 hy1 y2 hy2 y3 hy3 y4 hy4 w hr; rw [f_ctor_142] at hr; cases hr
  | succ k ih =>
    intro x5 s y1 hy1 y2 hy2 y3 hy3 y4 hy4 w hr
    rw [f_ctor_142] at hr
    refine Ev.iload (d0 73 rfl) rfl ?_
    refine Ev.bipush (z := 32) (d0 74 rfl) rfl ?_
    refine Ev.icge (t := 161) (d0 75 rfl) rfl (fun c1 => ?_) (fun c1 => ?_)
    · replace hr := (if_pos c1).symm.trans hr
      refine Ev.aloadN (d0 76 rfl) rfl ?_
      refine Ev.iload (d0 77 rfl) rfl ?_
      obtain ⟨q2, hq3, hr⟩ := Option.bind_eq_some_iff.mp hr
      refine Ev.priv (y := M_clearHandle) (args := [.int x5]) (rest := []) (gok hw) rfl nm_clearHandle (ww hw 35 rfl) (ww hw 36 rfl) (ww hw 37 rfl) (ww hw 38 rfl) (lenOf pd_clearHandle rfl) (d0 78 rfl) (V.2.1 s) (e_clearHandle hw V hq3) (by decide) (Nat.le_of_ble_eq_true rfl) rfl ?_
      refine Ev.iinc (z := 1) (L' := [.val (.ref o), y1, y2, y3, y4, .val (.int (x5 + (1 : Int32)))]) (d0 79 rfl) rfl rfl rfl ?_
      refine Ev.goto (t := 142) (d0 80 rfl) rfl ?_
      exact ih (x5 + (1 : Int32)) q2 y1 hy1 y2 hy2 y3 hy3 y4 hy4 _ hr
    · replace hr := (if_neg c1).symm.trans hr
      cases hr
      exact Ev.vreturn rfl (d0 81 rfl)
def f_ctor_123 (n : Nat) (x3 : Int32) (x4 : Int32) (s : St) : Option (St) :=
  bnd (setI s 9 x3) fun s1 =>
  bnd (setI s1 10 x4) fun s2 =>
  bnd (setI s2 11 (0 : Int32)) fun s3 =>
  f_ctor_142 n n (0 : Int32) s3
set_option maxRecDepth 100000 in
theorem e_ctor_123 {g : GT} {n : Nat} (hw : HW g) {K : St → MHeap} {o : Nat} {r : Nat → Nat} (V : View (GG g) Ln K o r) (x3 : Int32) (x4 : Int32) (s : St) (y1 : Slot) (hy1 : one1 y1 = true) (y2 : Slot) (hy2 : one1 y2 = true) (y5 : Slot) (hy5 : one1 y5 = true) (w : St) (hr : f_ctor_123 n x3 x4 s = some w) : Ev (GG g) M_ctor 123 [.val (.ref o), y1, y2, .val (.int x3), .val (.int x4), y5] [] (K s) (none, (K w)) := by
  unfold f_ctor_123 at hr
  refine Ev.aloadN (d0 62 rfl) rfl ?_
  refine Ev.iloadN (d0 63 rfl) rfl ?_
  refine Ev.pI V (gok hw) (ww hw 29 rfl) (Or.inl (ww hw 30 rfl)) (d0 64 rfl) (j := 9) rfl ?_
  revert hr
  generalize setI s 9 x3 = s1
  intro hr
  replace hr := (bnd_eq _ _).symm.trans hr
  refine Ev.aloadN (d0 65 rfl) rfl ?_
  refine Ev.iload (d0 66 rfl) rfl ?_
  refine Ev.pI V (gok hw) (ww hw 31 rfl) (Or.inl (ww hw 32 rfl)) (d0 67 rfl) (j := 10) rfl ?_
  revert hr
  generalize setI s1 10 x4 = s2
  intro hr
  replace hr := (bnd_eq _ _).symm.trans hr
  refine Ev.aloadN (d0 68 rfl) rfl ?_
  refine Ev.iconst (z := 0) (d0 69 rfl) rfl ?_
  refine Ev.pI V (gok hw) (ww hw 33 rfl) (Or.inl (ww hw 34 rfl)) (d0 70 rfl) (j := 11) rfl ?_
  revert hr
  generalize setI s2 11 (0 : Int32) = s3
  intro hr
  replace hr := (bnd_eq _ _).symm.trans hr
  refine Ev.iconst (z := 0) (d0 71 rfl) rfl ?_
  refine Ev.istD (L' := [.val (.ref o), y1, y2, .val (.int x3), .val (.int x4), .val (.int (0 : Int32))]) (d0 72 rfl) rfl hy5 rfl ?_
  exact e_ctor_142 hw V  n (0 : Int32) s3 y1 hy1 y2 hy2 (.val (.int x3)) rfl (.val (.int x4)) rfl _ hr
def f_ctor_112 (n : Nat) (x3 : Int32) (x4 : Int32) (s : St) : Option (St) :=
  if (32 : Int32) < x4 then
    f_ctor_123 n x3 (32 : Int32) s
  else
    f_ctor_123 n x3 x4 s
set_option maxRecDepth 100000 in
theorem e_ctor_112 {g : GT} {n : Nat} (hw : HW g) {K : St → MHeap} {o : Nat} {r : Nat → Nat} (V : View (GG g) Ln K o r) (x3 : Int32) (x4 : Int32) (s : St) (y1 : Slot) (hy1 : one1 y1 = true) (y2 : Slot) (hy2 : one1 y2 = true) (y5 : Slot) (hy5 : one1 y5 = true) (w : St) (hr : f_ctor_112 n x3 x4 s = some w) : Ev (GG g) M_ctor 112 [.val (.ref o), y1, y2, .val (.int x3), .val (.int x4), y5] [] (K s) (none, (K w)) := by
  unfold f_ctor_112 at hr
  refine Ev.iload (d0 57 rfl) rfl ?_
  refine Ev.bipush (z := 32) (d0 58 rfl) rfl ?_
  refine Ev.icle (t := 123) (d0 59 rfl) rfl (fun c1 => ?_) (fun c1 => ?_)
  · replace hr := (if_pos c1).symm.trans hr
    refine Ev.bipush (z := 32) (d0 60 rfl) rfl ?_
    refine Ev.istD (L' := [.val (.ref o), y1, y2, .val (.int x3), .val (.int (32 : Int32)), y5]) (d0 61 rfl) rfl rfl rfl ?_
    exact e_ctor_123 hw V  x3 (32 : Int32) s y1 hy1 y2 hy2 y5 hy5 _ hr
  · replace hr := (if_neg c1).symm.trans hr
    exact e_ctor_123 hw V  x3 x4 s y1 hy1 y2 hy2 y5 hy5 _ hr
def f_ctor_100 (n : Nat) (x2 : Int32) (x3 : Int32) (s : St) : Option (St) :=
  if x2 < (2 : Int32) then
    f_ctor_112 n x3 (2 : Int32) s
  else
    f_ctor_112 n x3 x2 s
set_option maxRecDepth 100000 in
theorem e_ctor_100 {g : GT} {n : Nat} (hw : HW g) {K : St → MHeap} {o : Nat} {r : Nat → Nat} (V : View (GG g) Ln K o r) (x2 : Int32) (x3 : Int32) (s : St) (y1 : Slot) (hy1 : one1 y1 = true) (y4 : Slot) (hy4 : one1 y4 = true) (y5 : Slot) (hy5 : one1 y5 = true) (w : St) (hr : f_ctor_100 n x2 x3 s = some w) : Ev (GG g) M_ctor 100 [.val (.ref o), y1, .val (.int x2), .val (.int x3), y4, y5] [] (K s) (none, (K w)) := by
  unfold f_ctor_100 at hr
  refine Ev.iloadN (d0 50 rfl) rfl ?_
  refine Ev.istD (L' := [.val (.ref o), y1, .val (.int x2), .val (.int x3), .val (.int x2), y5]) (d0 51 rfl) rfl hy4 rfl ?_
  refine Ev.iload (d0 52 rfl) rfl ?_
  refine Ev.iconst (z := 2) (d0 53 rfl) rfl ?_
  refine Ev.icge (t := 112) (d0 54 rfl) rfl (fun c1 => ?_) (fun c1 => ?_)
  · replace hr := (if_pos c1).symm.trans hr
    refine Ev.iconst (z := 2) (d0 55 rfl) rfl ?_
    refine Ev.istD (L' := [.val (.ref o), y1, .val (.int x2), .val (.int x3), .val (.int (2 : Int32)), y5]) (d0 56 rfl) rfl rfl rfl ?_
    exact e_ctor_112 hw V  x3 (2 : Int32) s y1 hy1 (.val (.int x2)) rfl y5 hy5 _ hr
  · replace hr := (if_neg c1).symm.trans hr
    exact e_ctor_112 hw V  x3 x2 s y1 hy1 (.val (.int x2)) rfl y5 hy5 _ hr
def f_ctor_89 (n : Nat) (x2 : Int32) (x3 : Int32) (s : St) : Option (St) :=
  if (256 : Int32) < x3 then
    f_ctor_100 n x2 (256 : Int32) s
  else
    f_ctor_100 n x2 x3 s
set_option maxRecDepth 100000 in
theorem e_ctor_89 {g : GT} {n : Nat} (hw : HW g) {K : St → MHeap} {o : Nat} {r : Nat → Nat} (V : View (GG g) Ln K o r) (x2 : Int32) (x3 : Int32) (s : St) (y1 : Slot) (hy1 : one1 y1 = true) (y4 : Slot) (hy4 : one1 y4 = true) (y5 : Slot) (hy5 : one1 y5 = true) (w : St) (hr : f_ctor_89 n x2 x3 s = some w) : Ev (GG g) M_ctor 89 [.val (.ref o), y1, .val (.int x2), .val (.int x3), y4, y5] [] (K s) (none, (K w)) := by
  unfold f_ctor_89 at hr
  refine Ev.iloadN (d0 45 rfl) rfl ?_
  refine Ev.sipush (z := 256) (d0 46 rfl) rfl ?_
  refine Ev.icle (t := 100) (d0 47 rfl) rfl (fun c1 => ?_) (fun c1 => ?_)
  · replace hr := (if_pos c1).symm.trans hr
    refine Ev.sipush (z := 256) (d0 48 rfl) rfl ?_
    refine Ev.istDN (L' := [.val (.ref o), y1, .val (.int x2), .val (.int (256 : Int32)), y4, y5]) (d0 49 rfl) rfl rfl rfl ?_
    exact e_ctor_100 hw V  x2 (256 : Int32) s y1 hy1 y4 hy4 y5 hy5 _ hr
  · replace hr := (if_neg c1).symm.trans hr
    exact e_ctor_100 hw V  x2 x3 s y1 hy1 y4 hy4 y5 hy5 _ hr
def f_ctor_78 (n : Nat) (x1 : Int32) (x2 : Int32) (s : St) : Option (St) :=
  if x1 < (8 : Int32) then
    f_ctor_89 n x2 (8 : Int32) s
  else
    f_ctor_89 n x2 x1 s
set_option maxRecDepth 100000 in
theorem e_ctor_78 {g : GT} {n : Nat} (hw : HW g) {K : St → MHeap} {o : Nat} {r : Nat → Nat} (V : View (GG g) Ln K o r) (x1 : Int32) (x2 : Int32) (s : St) (y3 : Slot) (hy3 : one1 y3 = true) (y4 : Slot) (hy4 : one1 y4 = true) (y5 : Slot) (hy5 : one1 y5 = true) (w : St) (hr : f_ctor_78 n x1 x2 s = some w) : Ev (GG g) M_ctor 78 [.val (.ref o), .val (.int x1), .val (.int x2), y3, y4, y5] [] (K s) (none, (K w)) := by
  unfold f_ctor_78 at hr
  refine Ev.iloadN (d0 38 rfl) rfl ?_
  refine Ev.istDN (L' := [.val (.ref o), .val (.int x1), .val (.int x2), .val (.int x1), y4, y5]) (d0 39 rfl) rfl hy3 rfl ?_
  refine Ev.iloadN (d0 40 rfl) rfl ?_
  refine Ev.bipush (z := 8) (d0 41 rfl) rfl ?_
  refine Ev.icge (t := 89) (d0 42 rfl) rfl (fun c1 => ?_) (fun c1 => ?_)
  · replace hr := (if_pos c1).symm.trans hr
    refine Ev.bipush (z := 8) (d0 43 rfl) rfl ?_
    refine Ev.istDN (L' := [.val (.ref o), .val (.int x1), .val (.int x2), .val (.int (8 : Int32)), y4, y5]) (d0 44 rfl) rfl rfl rfl ?_
    exact e_ctor_89 hw V  x2 (8 : Int32) s (.val (.int x1)) rfl y4 hy4 y5 hy5 _ hr
  · replace hr := (if_neg c1).symm.trans hr
    exact e_ctor_89 hw V  x2 x1 s (.val (.int x1)) rfl y4 hy4 y5 hy5 _ hr
def f_ctor (n : Nat) (a0 : Int32) (a1 : Int32) : Option (St) :=
  f_ctor_78 n a0 a1 zeroS
set_option maxRecDepth 100000 in
theorem e_ctor {g : GT} {n : Nat} {a0 : Int32} {a1 : Int32} {w : St} (hw : HW g) {pre : MHeap} (hk : k0 (GG g) ≤ pre.length) (hr : f_ctor n a0 a1 = some w) : EvC (GG g) M_ctor [.ref pre.length, .int a0, .int a1] (pre ++ [.inl dfl]) (none, KH flds al Ln pre [] w) := by
  refine EvC.enter (L0 := [.val (.ref pre.length), .val (.int a0), .val (.int a1), .unset, .unset, .unset]) pl_ctor (fun _ => rfl) rfl rfl ?_
  unfold f_ctor at hr
  refine Ev.aloadN (d0 0 rfl) rfl ?_
  refine Ev.initO (ww hw 6 rfl) (ww hw 7 rfl) (ww hw 8 rfl) (d0 1 rfl) (by decide) (Nat.le_of_ble_eq_true rfl) ?_
  show Ev (GG g) M_ctor 4 _ _ (cons pre dfl []) _
  refine Ev.aloadN (d0 2 rfl) rfl ?_
  refine Ev.sipush (z := 256) (d0 3 rfl) rfl ?_
  refine Ev.cnew (aty := .int) (b := false) (k := 256) (q := 0) (as' := [(false, tab 256 (fun _ => 0))]) (ww hw 9 rfl) rfl (d0 4 rfl) (by decide) rfl (by decide) rfl rfl ?_
  refine Ev.cput (v' := .ref (pre.length + 1 + 0)) (fs' := [.ref (pre.length + 1 + 0), .null, .null, .null, .null, .null, .null, .null, .null, .int 0, .int 0, .int 0]) (gok hw) hk (ww hw 10 rfl) (Or.inl (ww hw 11 rfl)) (d0 5 rfl) (j := 0) rfl rfl rfl ?_
  refine Ev.aloadN (d0 6 rfl) rfl ?_
  refine Ev.sipush (z := 256) (d0 7 rfl) rfl ?_
  refine Ev.cnew (aty := .boolean) (b := true) (k := 256) (q := 1) (as' := [(false, tab 256 (fun _ => 0)), (true, tab 256 (fun _ => 0))]) (ww hw 12 rfl) rfl (d0 8 rfl) (by decide) rfl (by decide) rfl rfl ?_
  refine Ev.cput (v' := .ref (pre.length + 1 + 1)) (fs' := [.ref (pre.length + 1 + 0), .ref (pre.length + 1 + 1), .null, .null, .null, .null, .null, .null, .null, .int 0, .int 0, .int 0]) (gok hw) hk (ww hw 13 rfl) (Or.inl (ww hw 14 rfl)) (d0 9 rfl) (j := 1) rfl rfl rfl ?_
  refine Ev.aloadN (d0 10 rfl) rfl ?_
  refine Ev.bipush (z := 32) (d0 11 rfl) rfl ?_
  refine Ev.cnew (aty := .int) (b := false) (k := 32) (q := 2) (as' := [(false, tab 256 (fun _ => 0)), (true, tab 256 (fun _ => 0)), (false, tab 32 (fun _ => 0))]) (ww hw 9 rfl) rfl (d0 12 rfl) (by decide) rfl (by decide) rfl rfl ?_
  refine Ev.cput (v' := .ref (pre.length + 1 + 2)) (fs' := [.ref (pre.length + 1 + 0), .ref (pre.length + 1 + 1), .ref (pre.length + 1 + 2), .null, .null, .null, .null, .null, .null, .int 0, .int 0, .int 0]) (gok hw) hk (ww hw 15 rfl) (Or.inl (ww hw 16 rfl)) (d0 13 rfl) (j := 2) rfl rfl rfl ?_
  refine Ev.aloadN (d0 14 rfl) rfl ?_
  refine Ev.bipush (z := 32) (d0 15 rfl) rfl ?_
  refine Ev.cnew (aty := .int) (b := false) (k := 32) (q := 3) (as' := [(false, tab 256 (fun _ => 0)), (true, tab 256 (fun _ => 0)), (false, tab 32 (fun _ => 0)), (false, tab 32 (fun _ => 0))]) (ww hw 9 rfl) rfl (d0 16 rfl) (by decide) rfl (by decide) rfl rfl ?_
  refine Ev.cput (v' := .ref (pre.length + 1 + 3)) (fs' := [.ref (pre.length + 1 + 0), .ref (pre.length + 1 + 1), .ref (pre.length + 1 + 2), .ref (pre.length + 1 + 3), .null, .null, .null, .null, .null, .int 0, .int 0, .int 0]) (gok hw) hk (ww hw 17 rfl) (Or.inl (ww hw 18 rfl)) (d0 17 rfl) (j := 3) rfl rfl rfl ?_
  refine Ev.aloadN (d0 18 rfl) rfl ?_
  refine Ev.bipush (z := 32) (d0 19 rfl) rfl ?_
  refine Ev.cnew (aty := .int) (b := false) (k := 32) (q := 4) (as' := [(false, tab 256 (fun _ => 0)), (true, tab 256 (fun _ => 0)), (false, tab 32 (fun _ => 0)), (false, tab 32 (fun _ => 0)), (false, tab 32 (fun _ => 0))]) (ww hw 9 rfl) rfl (d0 20 rfl) (by decide) rfl (by decide) rfl rfl ?_
  refine Ev.cput (v' := .ref (pre.length + 1 + 4)) (fs' := [.ref (pre.length + 1 + 0), .ref (pre.length + 1 + 1), .ref (pre.length + 1 + 2), .ref (pre.length + 1 + 3), .ref (pre.length + 1 + 4), .null, .null, .null, .null, .int 0, .int 0, .int 0]) (gok hw) hk (ww hw 19 rfl) (Or.inl (ww hw 20 rfl)) (d0 21 rfl) (j := 4) rfl rfl rfl ?_
  refine Ev.aloadN (d0 22 rfl) rfl ?_
  refine Ev.bipush (z := 32) (d0 23 rfl) rfl ?_
  refine Ev.cnew (aty := .int) (b := false) (k := 32) (q := 5) (as' := [(false, tab 256 (fun _ => 0)), (true, tab 256 (fun _ => 0)), (false, tab 32 (fun _ => 0)), (false, tab 32 (fun _ => 0)), (false, tab 32 (fun _ => 0)), (false, tab 32 (fun _ => 0))]) (ww hw 9 rfl) rfl (d0 24 rfl) (by decide) rfl (by decide) rfl rfl ?_
  refine Ev.cput (v' := .ref (pre.length + 1 + 5)) (fs' := [.ref (pre.length + 1 + 0), .ref (pre.length + 1 + 1), .ref (pre.length + 1 + 2), .ref (pre.length + 1 + 3), .ref (pre.length + 1 + 4), .ref (pre.length + 1 + 5), .null, .null, .null, .int 0, .int 0, .int 0]) (gok hw) hk (ww hw 21 rfl) (Or.inl (ww hw 22 rfl)) (d0 25 rfl) (j := 5) rfl rfl rfl ?_
  refine Ev.aloadN (d0 26 rfl) rfl ?_
  refine Ev.bipush (z := 32) (d0 27 rfl) rfl ?_
  refine Ev.cnew (aty := .int) (b := false) (k := 32) (q := 6) (as' := [(false, tab 256 (fun _ => 0)), (true, tab 256 (fun _ => 0)), (false, tab 32 (fun _ => 0)), (false, tab 32 (fun _ => 0)), (false, tab 32 (fun _ => 0)), (false, tab 32 (fun _ => 0)), (false, tab 32 (fun _ => 0))]) (ww hw 9 rfl) rfl (d0 28 rfl) (by decide) rfl (by decide) rfl rfl ?_
  refine Ev.cput (v' := .ref (pre.length + 1 + 6)) (fs' := [.ref (pre.length + 1 + 0), .ref (pre.length + 1 + 1), .ref (pre.length + 1 + 2), .ref (pre.length + 1 + 3), .ref (pre.length + 1 + 4), .ref (pre.length + 1 + 5), .ref (pre.length + 1 + 6), .null, .null, .int 0, .int 0, .int 0]) (gok hw) hk (ww hw 23 rfl) (Or.inl (ww hw 24 rfl)) (d0 29 rfl) (j := 6) rfl rfl rfl ?_
  refine Ev.aloadN (d0 30 rfl) rfl ?_
  refine Ev.bipush (z := 32) (d0 31 rfl) rfl ?_
  refine Ev.cnew (aty := .boolean) (b := true) (k := 32) (q := 7) (as' := [(false, tab 256 (fun _ => 0)), (true, tab 256 (fun _ => 0)), (false, tab 32 (fun _ => 0)), (false, tab 32 (fun _ => 0)), (false, tab 32 (fun _ => 0)), (false, tab 32 (fun _ => 0)), (false, tab 32 (fun _ => 0)), (true, tab 32 (fun _ => 0))]) (ww hw 12 rfl) rfl (d0 32 rfl) (by decide) rfl (by decide) rfl rfl ?_
  refine Ev.cput (v' := .ref (pre.length + 1 + 7)) (fs' := [.ref (pre.length + 1 + 0), .ref (pre.length + 1 + 1), .ref (pre.length + 1 + 2), .ref (pre.length + 1 + 3), .ref (pre.length + 1 + 4), .ref (pre.length + 1 + 5), .ref (pre.length + 1 + 6), .ref (pre.length + 1 + 7), .null, .int 0, .int 0, .int 0]) (gok hw) hk (ww hw 25 rfl) (Or.inl (ww hw 26 rfl)) (d0 33 rfl) (j := 7) rfl rfl rfl ?_
  refine Ev.aloadN (d0 34 rfl) rfl ?_
  refine Ev.bipush (z := 32) (d0 35 rfl) rfl ?_
  refine Ev.cnew (aty := .boolean) (b := true) (k := 32) (q := 8) (as' := [(false, tab 256 (fun _ => 0)), (true, tab 256 (fun _ => 0)), (false, tab 32 (fun _ => 0)), (false, tab 32 (fun _ => 0)), (false, tab 32 (fun _ => 0)), (false, tab 32 (fun _ => 0)), (false, tab 32 (fun _ => 0)), (true, tab 32 (fun _ => 0)), (true, tab 32 (fun _ => 0))]) (ww hw 12 rfl) rfl (d0 36 rfl) (by decide) rfl (by decide) rfl rfl ?_
  refine Ev.cput (v' := .ref (pre.length + 1 + 8)) (fs' := [.ref (pre.length + 1 + 0), .ref (pre.length + 1 + 1), .ref (pre.length + 1 + 2), .ref (pre.length + 1 + 3), .ref (pre.length + 1 + 4), .ref (pre.length + 1 + 5), .ref (pre.length + 1 + 6), .ref (pre.length + 1 + 7), .ref (pre.length + 1 + 8), .int 0, .int 0, .int 0]) (gok hw) hk (ww hw 27 rfl) (Or.inl (ww hw 28 rfl)) (d0 37 rfl) (j := 8) rfl rfl rfl ?_
  show Ev (GG g) M_ctor 78 [.val (.ref pre.length), .val (.int a0), .val (.int a1), .unset, .unset, .unset] [] (KH flds al Ln pre [] zeroS) _
  exact e_ctor_78 hw (K := KH flds al Ln pre []) (o := pre.length) (r := rA pre.length al) (view_of hk al_ok al_nd) a0 a1 zeroS .unset rfl .unset rfl .unset rfl _ hr
def f_clearMark_2 (n : Nat) : Nat → Int32 → St → Option (St)
  | 0 => fun _ _ => none
  | k + 1 => fun x1 s =>
    if x1 < (256 : Int32) then
      grd (inb x1 256) <|
      bnd (setA s 1 (ix x1) ((0 : Int32) &&& 1)) fun s3 =>
      f_clearMark_2 n k (x1 + (1 : Int32)) s3
    else
      some s
set_option maxRecDepth 100000 in
theorem e_clearMark_2 {g : GT} {n : Nat} (hw : HW g) {K : St → MHeap} {o : Nat} {r : Nat → Nat} (V : View (GG g) Ln K o r) (k : Nat) : ∀ (x1 : Int32) (s : St) (w : St), f_clearMark_2 n k x1 s = some w → Ev (GG g) M_clearMark 2 [.val (.ref o), .val (.int x1)] [] (K s) (none, (K w)) := by
  induction k with
  | zero => intro x1 s w hr; rw [f_clearMark_2] at hr; cases hr
  | succ k ih =>
    intro x1 s w hr
    rw [f_clearMark_2] at hr
    refine Ev.iloadN (d7 2 rfl) rfl ?_
    refine Ev.sipush (z := 256) (d7 3 rfl) rfl ?_
    refine Ev.icge (t := 22) (d7 4 rfl) rfl (fun c1 => ?_) (fun c1 => ?_)
    · replace hr := (if_pos c1).symm.trans hr
      refine Ev.aloadN (d7 5 rfl) rfl ?_
      refine Ev.gAr V (ww hw 13 rfl) (d7 6 rfl) (j := 1) rfl ?_
      refine Ev.iloadN (d7 7 rfl) rfl ?_
      refine Ev.iconst (z := 0) (d7 8 rfl) rfl ?_
      obtain ⟨b2, hr⟩ := grd_some hr
      refine Ev.bas V (j := 1) rfl rfl (d7 9 rfl) b2 ?_
      revert hr
      generalize setA s 1 (ix x1) ((0 : Int32) &&& 1) = s3
      intro hr
      replace hr := (bnd_eq _ _).symm.trans hr
      refine Ev.iinc (z := 1) (L' := [.val (.ref o), .val (.int (x1 + (1 : Int32)))]) (d7 10 rfl) rfl rfl rfl ?_
      refine Ev.goto (t := 2) (d7 11 rfl) rfl ?_
      exact ih (x1 + (1 : Int32)) s3  _ hr
    · replace hr := (if_neg c1).symm.trans hr
      cases hr
      exact Ev.vreturn rfl (d7 12 rfl)
def f_clearMark (n : Nat) (s : St) : Option (St) :=
  f_clearMark_2 n n (0 : Int32) s
set_option maxRecDepth 100000 in
theorem e_clearMark {g : GT} {n : Nat} {s : St} {w : St} (hw : HW g) {K : St → MHeap} {o : Nat} {r : Nat → Nat} (V : View (GG g) Ln K o r) (hr : f_clearMark n s = some w) : EvC (GG g) M_clearMark [.ref o] (K s) (none, (K w)) := by
  refine EvC.enter (L0 := [.val (.ref o), .unset]) pl_clearMark (fun _ => rfl) rfl rfl ?_
  unfold f_clearMark at hr
  refine Ev.iconst (z := 0) (d7 0 rfl) rfl ?_
  refine Ev.istDN (L' := [.val (.ref o), .val (.int (0 : Int32))]) (d7 1 rfl) rfl rfl rfl ?_
  exact e_clearMark_2 hw V  n (0 : Int32) s  _ hr
def f_markBlock_17 (n : Nat) : Nat → Int32 → Int32 → Int32 → St → Option (St)
  | 0 => fun _ _ _ _ => none
  | k + 1 => fun x2 x3 x4 s =>
    if x4 < x3 then
      if (x2 + x4) < 0 then
        f_markBlock_17 n k x2 x3 (x4 + (1 : Int32)) s
      else
        if (x2 + x4) < (256 : Int32) then
          grd (inb (x2 + x4) 256) <|
          bnd (setA s 1 (ix (x2 + x4)) ((1 : Int32) &&& 1)) fun s5 =>
          f_markBlock_17 n k x2 x3 (x4 + (1 : Int32)) s5
        else
          f_markBlock_17 n k x2 x3 (x4 + (1 : Int32)) s
    else
      some s
set_option maxRecDepth 100000 in
theorem e_markBlock_17 {g : GT} {n : Nat} (hw : HW g) {K : St → MHeap} {o : Nat} {r : Nat → Nat} (V : View (GG g) Ln K o r) (k : Nat) : ∀ (x2 : Int32) (x3 : Int32) (x4 : Int32) (s : St) (y1 : Slot) (hy1 : one1 y1 = true) (y5 : Slot) (hy5 : one1 y5 = true) (w : St), f_markBlock_17 n k x2 x3 x4 s = some w → Ev (GG g) M_markBlock 17 [.val (.ref o), y1, .val (.int x2), .val (.int x3), .val (.int x4), y5] [] (K s) (none, (K w)) := by
  induction k with
  | zero => intro x2 x3 x4 s y1 hy1 y5 hy5 w hr; rw [f_markBlock_17] at hr; cases hr
  | succ k ih =>
    intro x2 x3 x4 s y1 hy1 y5 hy5 w hr
    rw [f_markBlock_17] at hr
    refine Ev.iload (d12 12 rfl) rfl ?_
    refine Ev.iloadN (d12 13 rfl) rfl ?_
    refine Ev.icge (t := 56) (d12 14 rfl) rfl (fun c1 => ?_) (fun c1 => ?_)
    · replace hr := (if_pos c1).symm.trans hr
      refine Ev.iloadN (d12 15 rfl) rfl ?_
      refine Ev.iload (d12 16 rfl) rfl ?_
      refine Ev.iadd (d12 17 rfl) ?_
      refine Ev.istD (L' := [.val (.ref o), y1, .val (.int x2), .val (.int x3), .val (.int x4), .val (.int (x2 + x4))]) (d12 18 rfl) rfl hy5 rfl ?_
      refine Ev.iload (d12 19 rfl) rfl ?_
      refine Ev.iflt (t := 50) (d12 20 rfl) rfl (fun c2 => ?_) (fun c2 => ?_)
      · replace hr := (if_pos c2).symm.trans hr
        refine Ev.iinc (z := 1) (L' := [.val (.ref o), y1, .val (.int x2), .val (.int x3), .val (.int (x4 + (1 : Int32))), .val (.int (x2 + x4))]) (d12 29 rfl) rfl rfl rfl ?_
        refine Ev.goto (t := 17) (d12 30 rfl) rfl ?_
        exact ih x2 x3 (x4 + (1 : Int32)) s y1 hy1 (.val (.int (x2 + x4))) rfl _ hr
      · replace hr := (if_neg c2).symm.trans hr
        refine Ev.iload (d12 21 rfl) rfl ?_
        refine Ev.sipush (z := 256) (d12 22 rfl) rfl ?_
        refine Ev.icge (t := 50) (d12 23 rfl) rfl (fun c3 => ?_) (fun c3 => ?_)
        · replace hr := (if_pos c3).symm.trans hr
          refine Ev.aloadN (d12 24 rfl) rfl ?_
          refine Ev.gAr V (ww hw 13 rfl) (d12 25 rfl) (j := 1) rfl ?_
          refine Ev.iload (d12 26 rfl) rfl ?_
          refine Ev.iconst (z := 1) (d12 27 rfl) rfl ?_
          obtain ⟨b4, hr⟩ := grd_some hr
          refine Ev.bas V (j := 1) rfl rfl (d12 28 rfl) b4 ?_
          revert hr
          generalize setA s 1 (ix (x2 + x4)) ((1 : Int32) &&& 1) = s5
          intro hr
          replace hr := (bnd_eq _ _).symm.trans hr
          refine Ev.iinc (z := 1) (L' := [.val (.ref o), y1, .val (.int x2), .val (.int x3), .val (.int (x4 + (1 : Int32))), .val (.int (x2 + x4))]) (d12 29 rfl) rfl rfl rfl ?_
          refine Ev.goto (t := 17) (d12 30 rfl) rfl ?_
          exact ih x2 x3 (x4 + (1 : Int32)) s5 y1 hy1 (.val (.int (x2 + x4))) rfl _ hr
        · replace hr := (if_neg c3).symm.trans hr
          refine Ev.iinc (z := 1) (L' := [.val (.ref o), y1, .val (.int x2), .val (.int x3), .val (.int (x4 + (1 : Int32))), .val (.int (x2 + x4))]) (d12 29 rfl) rfl rfl rfl ?_
          refine Ev.goto (t := 17) (d12 30 rfl) rfl ?_
          exact ih x2 x3 (x4 + (1 : Int32)) s y1 hy1 (.val (.int (x2 + x4))) rfl _ hr
    · replace hr := (if_neg c1).symm.trans hr
      cases hr
      exact Ev.vreturn rfl (d12 31 rfl)
def f_markBlock (n : Nat) (a0 : Int32) (s : St) : Option (St) :=
  grd (inb a0 32) <|
  f_markBlock_17 n n (s.2 3 (ix a0)) (s.2 4 (ix a0)) (0 : Int32) s
set_option maxRecDepth 100000 in
theorem e_markBlock {g : GT} {n : Nat} {a0 : Int32} {s : St} {w : St} (hw : HW g) {K : St → MHeap} {o : Nat} {r : Nat → Nat} (V : View (GG g) Ln K o r) (hr : f_markBlock n a0 s = some w) : EvC (GG g) M_markBlock [.ref o, .int a0] (K s) (none, (K w)) := by
  refine EvC.enter (L0 := [.val (.ref o), .val (.int a0), .unset, .unset, .unset, .unset]) pl_markBlock (fun _ => rfl) rfl rfl ?_
  unfold f_markBlock at hr
  refine Ev.aloadN (d12 0 rfl) rfl ?_
  refine Ev.gAr V (ww hw 17 rfl) (d12 1 rfl) (j := 3) rfl ?_
  refine Ev.iloadN (d12 2 rfl) rfl ?_
  obtain ⟨b1, hr⟩ := grd_some hr
  refine Ev.ial V (j := 3) rfl rfl (d12 3 rfl) b1 ?_
  refine Ev.istDN (L' := [.val (.ref o), .val (.int a0), .val (.int (s.2 3 (ix a0))), .unset, .unset, .unset]) (d12 4 rfl) rfl rfl rfl ?_
  refine Ev.aloadN (d12 5 rfl) rfl ?_
  refine Ev.gAr V (ww hw 19 rfl) (d12 6 rfl) (j := 4) rfl ?_
  refine Ev.iloadN (d12 7 rfl) rfl ?_
  refine Ev.ial V (j := 4) rfl rfl (d12 8 rfl) b1 ?_
  refine Ev.istDN (L' := [.val (.ref o), .val (.int a0), .val (.int (s.2 3 (ix a0))), .val (.int (s.2 4 (ix a0))), .unset, .unset]) (d12 9 rfl) rfl rfl rfl ?_
  refine Ev.iconst (z := 0) (d12 10 rfl) rfl ?_
  refine Ev.istD (L' := [.val (.ref o), .val (.int a0), .val (.int (s.2 3 (ix a0))), .val (.int (s.2 4 (ix a0))), .val (.int (0 : Int32)), .unset]) (d12 11 rfl) rfl rfl rfl ?_
  exact e_markBlock_17 hw V  n (s.2 3 (ix a0)) (s.2 4 (ix a0)) (0 : Int32) s (.val (.int a0)) rfl .unset rfl _ hr
def f_markLive_6 (n : Nat) : Nat → Int32 → St → Option (St)
  | 0 => fun _ _ => none
  | k + 1 => fun x1 s =>
    if x1 < (s.1 10) then
      grd (inb x1 32) <|
      if (s.2 2 (ix x1)) = (1 : Int32) then
        (f_markBlock n x1 s).bind fun q4 =>
        f_markLive_6 n k (x1 + (1 : Int32)) q4
      else
        f_markLive_6 n k (x1 + (1 : Int32)) s
    else
      some s
set_option maxRecDepth 100000 in
theorem e_markLive_6 {g : GT} {n : Nat} (hw : HW g) {K : St → MHeap} {o : Nat} {r : Nat → Nat} (V : View (GG g) Ln K o r) (k : Nat) : ∀ (x1 : Int32) (s : St) (w : St), f_markLive_6 n k x1 s = some w → Ev (GG g) M_markLive 6 [.val (.ref o), .val (.int x1)] [] (K s) (none, (K w)) := by
  induction k with
  | zero => intro x1 s w hr; rw [f_markLive_6] at hr; cases hr
  | succ k ih =>
    intro x1 s w hr
    rw [f_markLive_6] at hr
    refine Ev.iloadN (d6 4 rfl) rfl ?_
    refine Ev.aloadN (d6 5 rfl) rfl ?_
    refine Ev.gI V (ww hw 31 rfl) (d6 6 rfl) (j := 10) rfl rfl ?_
    refine Ev.icge (t := 35) (d6 7 rfl) rfl (fun c1 => ?_) (fun c1 => ?_)
    · replace hr := (if_pos c1).symm.trans hr
      refine Ev.aloadN (d6 8 rfl) rfl ?_
      refine Ev.gAr V (ww hw 15 rfl) (d6 9 rfl) (j := 2) rfl ?_
      refine Ev.iloadN (d6 10 rfl) rfl ?_
      obtain ⟨b2, hr⟩ := grd_some hr
      refine Ev.ial V (j := 2) rfl rfl (d6 11 rfl) b2 ?_
      refine Ev.iconst (z := 1) (d6 12 rfl) rfl ?_
      refine Ev.icne (t := 29) (d6 13 rfl) rfl (fun c3 => ?_) (fun c3 => ?_)
      · replace hr := (if_pos c3).symm.trans hr
        refine Ev.aloadN (d6 14 rfl) rfl ?_
        refine Ev.iloadN (d6 15 rfl) rfl ?_
        obtain ⟨q4, hq5, hr⟩ := Option.bind_eq_some_iff.mp hr
        refine Ev.priv (y := M_markBlock) (args := [.int x1]) (rest := []) (gok hw) rfl nm_markBlock (ww hw 76 rfl) (ww hw 77 rfl) (ww hw 78 rfl) (ww hw 79 rfl) (lenOf pd_markBlock rfl) (d6 16 rfl) (V.2.1 s) (e_markBlock hw V hq5) (by decide) (Nat.le_of_ble_eq_true rfl) rfl ?_
        refine Ev.iinc (z := 1) (L' := [.val (.ref o), .val (.int (x1 + (1 : Int32)))]) (d6 17 rfl) rfl rfl rfl ?_
        refine Ev.goto (t := 6) (d6 18 rfl) rfl ?_
        exact ih (x1 + (1 : Int32)) q4  _ hr
      · replace hr := (if_neg c3).symm.trans hr
        refine Ev.iinc (z := 1) (L' := [.val (.ref o), .val (.int (x1 + (1 : Int32)))]) (d6 17 rfl) rfl rfl rfl ?_
        refine Ev.goto (t := 6) (d6 18 rfl) rfl ?_
        exact ih (x1 + (1 : Int32)) s  _ hr
    · replace hr := (if_neg c1).symm.trans hr
      cases hr
      exact Ev.vreturn rfl (d6 19 rfl)
def f_markLive (n : Nat) (s : St) : Option (St) :=
  (f_clearMark n s).bind fun q1 =>
  f_markLive_6 n n (0 : Int32) q1
set_option maxRecDepth 100000 in
theorem e_markLive {g : GT} {n : Nat} {s : St} {w : St} (hw : HW g) {K : St → MHeap} {o : Nat} {r : Nat → Nat} (V : View (GG g) Ln K o r) (hr : f_markLive n s = some w) : EvC (GG g) M_markLive [.ref o] (K s) (none, (K w)) := by
  refine EvC.enter (L0 := [.val (.ref o), .unset]) pl_markLive (fun _ => rfl) rfl rfl ?_
  unfold f_markLive at hr
  refine Ev.aloadN (d6 0 rfl) rfl ?_
  obtain ⟨q1, hq2, hr⟩ := Option.bind_eq_some_iff.mp hr
  refine Ev.priv (y := M_clearMark) (args := []) (rest := []) (gok hw) rfl nm_clearMark (ww hw 56 rfl) (ww hw 57 rfl) (ww hw 58 rfl) (ww hw 59 rfl) (lenOf pd_clearMark rfl) (d6 1 rfl) (V.2.1 s) (e_clearMark hw V hq2) (by decide) (Nat.le_of_ble_eq_true rfl) rfl ?_
  refine Ev.iconst (z := 0) (d6 2 rfl) rfl ?_
  refine Ev.istDN (L' := [.val (.ref o), .val (.int (0 : Int32))]) (d6 3 rfl) rfl rfl rfl ?_
  exact e_markLive_6 hw V  n (0 : Int32) q1  _ hr
def f_firstRun_4 (n : Nat) (s : St) : Nat → Int32 → Int32 → Int32 → Option (Int32)
  | 0 => fun _ _ _ => none
  | k + 1 => fun x1 x2 x3 =>
    if x3 < (s.1 9) then
      grd (inb x3 256) <|
      if (s.2 1 (ix x3)) = 0 then
        if (x2 + (1 : Int32)) < x1 then
          f_firstRun_4 n s k x1 (x2 + (1 : Int32)) (x3 + (1 : Int32))
        else
          some ((x3 - x1) + (1 : Int32))
      else
        f_firstRun_4 n s k x1 (0 : Int32) (x3 + (1 : Int32))
    else
      some (-1 : Int32)
set_option maxRecDepth 100000 in
theorem e_firstRun_4 {g : GT} {n : Nat} {s : St} (hw : HW g) {K : St → MHeap} {o : Nat} {r : Nat → Nat} (V : View (GG g) Ln K o r) (k : Nat) : ∀ (x1 : Int32) (x2 : Int32) (x3 : Int32) (w : Int32), f_firstRun_4 n s k x1 x2 x3 = some w → Ev (GG g) M_firstRun 4 [.val (.ref o), .val (.int x1), .val (.int x2), .val (.int x3)] [] (K s) ((some (.int w)), (K s)) := by
  induction k with
  | zero => intro x1 x2 x3 w hr; rw [f_firstRun_4] at hr; cases hr
  | succ k ih =>
    intro x1 x2 x3 w hr
    rw [f_firstRun_4] at hr
    refine Ev.iloadN (d8 4 rfl) rfl ?_
    refine Ev.aloadN (d8 5 rfl) rfl ?_
    refine Ev.gI V (ww hw 29 rfl) (d8 6 rfl) (j := 9) rfl rfl ?_
    refine Ev.icge (t := 46) (d8 7 rfl) rfl (fun c1 => ?_) (fun c1 => ?_)
    · replace hr := (if_pos c1).symm.trans hr
      refine Ev.aloadN (d8 8 rfl) rfl ?_
      refine Ev.gAr V (ww hw 13 rfl) (d8 9 rfl) (j := 1) rfl ?_
      refine Ev.iloadN (d8 10 rfl) rfl ?_
      obtain ⟨b2, hr⟩ := grd_some hr
      refine Ev.bal V (j := 1) rfl rfl (d8 11 rfl) b2 ?_
      refine Ev.ifeq (t := 26) (d8 12 rfl) rfl (fun c3 => ?_) (fun c3 => ?_)
      · replace hr := (if_pos c3).symm.trans hr
        refine Ev.iinc (z := 1) (L' := [.val (.ref o), .val (.int x1), .val (.int (x2 + (1 : Int32))), .val (.int x3)]) (d8 16 rfl) rfl rfl rfl ?_
        refine Ev.iloadN (d8 17 rfl) rfl ?_
        refine Ev.iloadN (d8 18 rfl) rfl ?_
        refine Ev.iclt (t := 40) (d8 19 rfl) rfl (fun c4 => ?_) (fun c4 => ?_)
        · replace hr := (if_pos c4).symm.trans hr
          refine Ev.iinc (z := 1) (L' := [.val (.ref o), .val (.int x1), .val (.int (x2 + (1 : Int32))), .val (.int (x3 + (1 : Int32)))]) (d8 26 rfl) rfl rfl rfl ?_
          refine Ev.goto (t := 4) (d8 27 rfl) rfl ?_
          exact ih x1 (x2 + (1 : Int32)) (x3 + (1 : Int32))  _ hr
        · replace hr := (if_neg c4).symm.trans hr
          refine Ev.iloadN (d8 20 rfl) rfl ?_
          refine Ev.iloadN (d8 21 rfl) rfl ?_
          refine Ev.isub (d8 22 rfl) ?_
          refine Ev.iconst (z := 1) (d8 23 rfl) rfl ?_
          refine Ev.iadd (d8 24 rfl) ?_
          cases hr
          exact Ev.ireturn rfl (d8 25 rfl)
      · replace hr := (if_neg c3).symm.trans hr
        refine Ev.iconst (z := 0) (d8 13 rfl) rfl ?_
        refine Ev.istDN (L' := [.val (.ref o), .val (.int x1), .val (.int (0 : Int32)), .val (.int x3)]) (d8 14 rfl) rfl rfl rfl ?_
        refine Ev.goto (t := 40) (d8 15 rfl) rfl ?_
        refine Ev.iinc (z := 1) (L' := [.val (.ref o), .val (.int x1), .val (.int (0 : Int32)), .val (.int (x3 + (1 : Int32)))]) (d8 26 rfl) rfl rfl rfl ?_
        refine Ev.goto (t := 4) (d8 27 rfl) rfl ?_
        exact ih x1 (0 : Int32) (x3 + (1 : Int32))  _ hr
    · replace hr := (if_neg c1).symm.trans hr
      refine Ev.iconst (z := -1) (d8 28 rfl) rfl ?_
      cases hr
      exact Ev.ireturn rfl (d8 29 rfl)
def f_firstRun (n : Nat) (s : St) (a0 : Int32) : Option (Int32) :=
  f_firstRun_4 n s n a0 (0 : Int32) (0 : Int32)
set_option maxRecDepth 100000 in
theorem e_firstRun {g : GT} {n : Nat} {s : St} {a0 : Int32} {w : Int32} (hw : HW g) {K : St → MHeap} {o : Nat} {r : Nat → Nat} (V : View (GG g) Ln K o r) (hr : f_firstRun n s a0 = some w) : EvC (GG g) M_firstRun [.ref o, .int a0] (K s) ((some (.int w)), (K s)) := by
  refine EvC.enter (L0 := [.val (.ref o), .val (.int a0), .unset, .unset]) pl_firstRun (fun h => nomatch h) rfl rfl ?_
  unfold f_firstRun at hr
  refine Ev.iconst (z := 0) (d8 0 rfl) rfl ?_
  refine Ev.istDN (L' := [.val (.ref o), .val (.int a0), .val (.int (0 : Int32)), .unset]) (d8 1 rfl) rfl rfl rfl ?_
  refine Ev.iconst (z := 0) (d8 2 rfl) rfl ?_
  refine Ev.istDN (L' := [.val (.ref o), .val (.int a0), .val (.int (0 : Int32)), .val (.int (0 : Int32))]) (d8 3 rfl) rfl rfl rfl ?_
  exact e_firstRun_4 hw V  n a0 (0 : Int32) (0 : Int32)  _ hr
def f_fit (n : Nat) (a0 : Int32) (s : St) : Option (Int32 × St) :=
  (f_markLive n s).bind fun q1 =>
  (f_firstRun n q1 a0).bind fun q3 =>
  some (q3, q1)
set_option maxRecDepth 100000 in
theorem e_fit {g : GT} {n : Nat} {a0 : Int32} {s : St} {w : Int32 × St} (hw : HW g) {K : St → MHeap} {o : Nat} {r : Nat → Nat} (V : View (GG g) Ln K o r) (hr : f_fit n a0 s = some w) : EvC (GG g) M_fit [.ref o, .int a0] (K s) ((some (.int w.1)), (K w.2)) := by
  refine EvC.enter (L0 := [.val (.ref o), .val (.int a0)]) pl_fit (fun h => nomatch h) rfl rfl ?_
  unfold f_fit at hr
  refine Ev.aloadN (d5 0 rfl) rfl ?_
  obtain ⟨q1, hq2, hr⟩ := Option.bind_eq_some_iff.mp hr
  refine Ev.priv (y := M_markLive) (args := []) (rest := []) (gok hw) rfl nm_markLive (ww hw 52 rfl) (ww hw 53 rfl) (ww hw 54 rfl) (ww hw 55 rfl) (lenOf pd_markLive rfl) (d5 1 rfl) (V.2.1 s) (e_markLive hw V hq2) (by decide) (Nat.le_of_ble_eq_true rfl) rfl ?_
  refine Ev.aloadN (d5 2 rfl) rfl ?_
  refine Ev.iloadN (d5 3 rfl) rfl ?_
  obtain ⟨q3, hq4, hr⟩ := Option.bind_eq_some_iff.mp hr
  refine Ev.priv (y := M_firstRun) (args := [.int a0]) (rest := []) (gok hw) rfl nm_firstRun (ww hw 60 rfl) (ww hw 61 rfl) (ww hw 62 rfl) (ww hw 63 rfl) (lenOf pd_firstRun rfl) (d5 4 rfl) (V.2.1 q1) (e_firstRun hw V hq4) (by decide) (Nat.le_of_ble_eq_true rfl) rfl ?_
  cases hr
  exact Ev.ireturn rfl (d5 5 rfl)
def f_sortOrder_9 (n : Nat) (k2 : Int32 → Int32 → St → Option (St)) : Nat → Int32 → Int32 → Int32 → St → Option (St)
  | 0 => fun _ _ _ _ => none
  | k + 1 => fun x1 x2 x3 s =>
    if 0 < x3 then
      grd (inb (x3 - (1 : Int32)) 32) <|
      grd (inb x3 32) <|
      grd (inb (s.2 6 (ix (x3 - (1 : Int32)))) 32) <|
      grd (inb (s.2 6 (ix x3)) 32) <|
      if (s.2 3 (ix (s.2 6 (ix x3)))) < (s.2 3 (ix (s.2 6 (ix (x3 - (1 : Int32)))))) then
        bnd (setA s 6 (ix (x3 - (1 : Int32))) (s.2 6 (ix x3))) fun s7 =>
        bnd (setA s7 6 (ix x3) (s.2 6 (ix (x3 - (1 : Int32))))) fun s8 =>
        f_sortOrder_9 n k2 k x1 x2 (x3 + (-1 : Int32)) s8
      else
        k2 x1 (x2 + (1 : Int32)) s
    else
      k2 x1 (x2 + (1 : Int32)) s
set_option maxRecDepth 100000 in
theorem e_sortOrder_9 {g : GT} {n : Nat} (hw : HW g) {K : St → MHeap} {o : Nat} {r : Nat → Nat} (V : View (GG g) Ln K o r) {k2 : Int32 → Int32 → St → Option (St)} (hk2 : ∀ (x1 : Int32) (x2 : Int32) (s : St) (y3 : Slot) (hy3 : one1 y3 = true) (y4 : Slot) (hy4 : one1 y4 = true) (y5 : Slot) (hy5 : one1 y5 = true) (w : St), k2 x1 x2 s = some w → Ev (GG g) M_sortOrder 2 [.val (.ref o), .val (.int x1), .val (.int x2), y3, y4, y5] [] (K s) (none, (K w))) (k : Nat) : ∀ (x1 : Int32) (x2 : Int32) (x3 : Int32) (s : St) (y4 : Slot) (hy4 : one1 y4 = true) (y5 : Slot) (hy5 : one1 y5 = true) (w : St), f_sortOrder_9 n k2 k x1 x2 x3 s = some w → Ev (GG g) M_sortOrder 9 [.val (.ref o), .val (.int x1), .val (.int x2), .val (.int x3), y4, y5] [] (K s) (none, (K w)) := by
  induction k with
  | zero => intro x1 x2 x3 s y4 hy4 y5 hy5 w hr; rw [f_sortOrder_9] at hr; cases hr
  | succ k ih =>
    intro x1 x2 x3 s y4 hy4 y5 hy5 w hr
    rw [f_sortOrder_9] at hr
    refine Ev.iloadN (d20 7 rfl) rfl ?_
    refine Ev.ifle (t := 75) (d20 8 rfl) rfl (fun c1 => ?_) (fun c1 => ?_)
    · replace hr := (if_pos c1).symm.trans hr
      refine Ev.aloadN (d20 9 rfl) rfl ?_
      refine Ev.gAr V (ww hw 23 rfl) (d20 10 rfl) (j := 6) rfl ?_
      refine Ev.iloadN (d20 11 rfl) rfl ?_
      refine Ev.iconst (z := 1) (d20 12 rfl) rfl ?_
      refine Ev.isub (d20 13 rfl) ?_
      obtain ⟨b2, hr⟩ := grd_some hr
      refine Ev.ial V (j := 6) rfl rfl (d20 14 rfl) b2 ?_
      refine Ev.istD (L' := [.val (.ref o), .val (.int x1), .val (.int x2), .val (.int x3), .val (.int (s.2 6 (ix (x3 - (1 : Int32))))), y5]) (d20 15 rfl) rfl hy4 rfl ?_
      refine Ev.aloadN (d20 16 rfl) rfl ?_
      refine Ev.gAr V (ww hw 23 rfl) (d20 17 rfl) (j := 6) rfl ?_
      refine Ev.iloadN (d20 18 rfl) rfl ?_
      obtain ⟨b3, hr⟩ := grd_some hr
      refine Ev.ial V (j := 6) rfl rfl (d20 19 rfl) b3 ?_
      refine Ev.istD (L' := [.val (.ref o), .val (.int x1), .val (.int x2), .val (.int x3), .val (.int (s.2 6 (ix (x3 - (1 : Int32))))), .val (.int (s.2 6 (ix x3)))]) (d20 20 rfl) rfl hy5 rfl ?_
      refine Ev.aloadN (d20 21 rfl) rfl ?_
      refine Ev.gAr V (ww hw 17 rfl) (d20 22 rfl) (j := 3) rfl ?_
      refine Ev.iload (d20 23 rfl) rfl ?_
      obtain ⟨b4, hr⟩ := grd_some hr
      refine Ev.ial V (j := 3) rfl rfl (d20 24 rfl) b4 ?_
      refine Ev.aloadN (d20 25 rfl) rfl ?_
      refine Ev.gAr V (ww hw 17 rfl) (d20 26 rfl) (j := 3) rfl ?_
      refine Ev.iload (d20 27 rfl) rfl ?_
      obtain ⟨b5, hr⟩ := grd_some hr
      refine Ev.ial V (j := 3) rfl rfl (d20 28 rfl) b5 ?_
      refine Ev.icgt (t := 51) (d20 29 rfl) rfl (fun c6 => ?_) (fun c6 => ?_)
      · replace hr := (if_pos c6).symm.trans hr
        refine Ev.aloadN (d20 31 rfl) rfl ?_
        refine Ev.gAr V (ww hw 23 rfl) (d20 32 rfl) (j := 6) rfl ?_
        refine Ev.iloadN (d20 33 rfl) rfl ?_
        refine Ev.iconst (z := 1) (d20 34 rfl) rfl ?_
        refine Ev.isub (d20 35 rfl) ?_
        refine Ev.iload (d20 36 rfl) rfl ?_
        refine Ev.ias V (j := 6) rfl rfl (d20 37 rfl) b2 ?_
        revert hr
        generalize setA s 6 (ix (x3 - (1 : Int32))) (s.2 6 (ix x3)) = s7
        intro hr
        replace hr := (bnd_eq _ _).symm.trans hr
        refine Ev.aloadN (d20 38 rfl) rfl ?_
        refine Ev.gAr V (ww hw 23 rfl) (d20 39 rfl) (j := 6) rfl ?_
        refine Ev.iloadN (d20 40 rfl) rfl ?_
        refine Ev.iload (d20 41 rfl) rfl ?_
        refine Ev.ias V (j := 6) rfl rfl (d20 42 rfl) b3 ?_
        revert hr
        generalize setA s7 6 (ix x3) (s.2 6 (ix (x3 - (1 : Int32)))) = s8
        intro hr
        replace hr := (bnd_eq _ _).symm.trans hr
        refine Ev.iinc (z := -1) (L' := [.val (.ref o), .val (.int x1), .val (.int x2), .val (.int (x3 + (-1 : Int32))), .val (.int (s.2 6 (ix (x3 - (1 : Int32))))), .val (.int (s.2 6 (ix x3)))]) (d20 43 rfl) rfl rfl rfl ?_
        refine Ev.goto (t := 9) (d20 44 rfl) rfl ?_
        exact ih x1 x2 (x3 + (-1 : Int32)) s8 (.val (.int (s.2 6 (ix (x3 - (1 : Int32)))))) rfl (.val (.int (s.2 6 (ix x3)))) rfl _ hr
      · replace hr := (if_neg c6).symm.trans hr
        refine Ev.goto (t := 75) (d20 30 rfl) rfl ?_
        refine Ev.iinc (z := 1) (L' := [.val (.ref o), .val (.int x1), .val (.int (x2 + (1 : Int32))), .val (.int x3), .val (.int (s.2 6 (ix (x3 - (1 : Int32))))), .val (.int (s.2 6 (ix x3)))]) (d20 45 rfl) rfl rfl rfl ?_
        refine Ev.goto (t := 2) (d20 46 rfl) rfl ?_
        exact hk2 x1 (x2 + (1 : Int32)) s (.val (.int x3)) rfl (.val (.int (s.2 6 (ix (x3 - (1 : Int32)))))) rfl (.val (.int (s.2 6 (ix x3)))) rfl _ hr
    · replace hr := (if_neg c1).symm.trans hr
      refine Ev.iinc (z := 1) (L' := [.val (.ref o), .val (.int x1), .val (.int (x2 + (1 : Int32))), .val (.int x3), y4, y5]) (d20 45 rfl) rfl rfl rfl ?_
      refine Ev.goto (t := 2) (d20 46 rfl) rfl ?_
      exact hk2 x1 (x2 + (1 : Int32)) s (.val (.int x3)) rfl y4 hy4 y5 hy5 _ hr
def f_sortOrder_2 (n : Nat) : Nat → Int32 → Int32 → St → Option (St)
  | 0 => fun _ _ _ => none
  | k + 1 => fun x1 x2 s =>
    if x2 < x1 then
      f_sortOrder_9 n (f_sortOrder_2 n k) n x1 x2 x2 s
    else
      some s
set_option maxRecDepth 100000 in
theorem e_sortOrder_2 {g : GT} {n : Nat} (hw : HW g) {K : St → MHeap} {o : Nat} {r : Nat → Nat} (V : View (GG g) Ln K o r) (k : Nat) : ∀ (x1 : Int32) (x2 : Int32) (s : St) (y3 : Slot) (hy3 : one1 y3 = true) (y4 : Slot) (hy4 : one1 y4 = true) (y5 : Slot) (hy5 : one1 y5 = true) (w : St), f_sortOrder_2 n k x1 x2 s = some w → Ev (GG g) M_sortOrder 2 [.val (.ref o), .val (.int x1), .val (.int x2), y3, y4, y5] [] (K s) (none, (K w)) := by
  induction k with
  | zero => intro x1 x2 s y3 hy3 y4 hy4 y5 hy5 w hr; rw [f_sortOrder_2] at hr; cases hr
  | succ k ih =>
    intro x1 x2 s y3 hy3 y4 hy4 y5 hy5 w hr
    rw [f_sortOrder_2] at hr
    refine Ev.iloadN (d20 2 rfl) rfl ?_
    refine Ev.iloadN (d20 3 rfl) rfl ?_
    refine Ev.icge (t := 81) (d20 4 rfl) rfl (fun c1 => ?_) (fun c1 => ?_)
    · replace hr := (if_pos c1).symm.trans hr
      refine Ev.iloadN (d20 5 rfl) rfl ?_
      refine Ev.istDN (L' := [.val (.ref o), .val (.int x1), .val (.int x2), .val (.int x2), y4, y5]) (d20 6 rfl) rfl hy3 rfl ?_
      exact e_sortOrder_9 hw V ih n x1 x2 x2 s y4 hy4 y5 hy5 _ hr
    · replace hr := (if_neg c1).symm.trans hr
      cases hr
      exact Ev.vreturn rfl (d20 47 rfl)
def f_sortOrder (n : Nat) (a0 : Int32) (s : St) : Option (St) :=
  f_sortOrder_2 n n a0 (1 : Int32) s
set_option maxRecDepth 100000 in
theorem e_sortOrder {g : GT} {n : Nat} {a0 : Int32} {s : St} {w : St} (hw : HW g) {K : St → MHeap} {o : Nat} {r : Nat → Nat} (V : View (GG g) Ln K o r) (hr : f_sortOrder n a0 s = some w) : EvC (GG g) M_sortOrder [.ref o, .int a0] (K s) (none, (K w)) := by
  refine EvC.enter (L0 := [.val (.ref o), .val (.int a0), .unset, .unset, .unset, .unset]) pl_sortOrder (fun _ => rfl) rfl rfl ?_
  unfold f_sortOrder at hr
  refine Ev.iconst (z := 1) (d20 0 rfl) rfl ?_
  refine Ev.istDN (L' := [.val (.ref o), .val (.int a0), .val (.int (1 : Int32)), .unset, .unset, .unset]) (d20 1 rfl) rfl rfl rfl ?_
  exact e_sortOrder_2 hw V  n a0 (1 : Int32) s .unset rfl .unset rfl .unset rfl _ hr
def f_copyOne (a0 : Int32) (a1 : Int32) (s : St) : Option (St) :=
  if a0 < 0 then
    some s
  else
    if a0 < (256 : Int32) then
      if a1 < 0 then
        some s
      else
        if a1 < (256 : Int32) then
          grd (inb a0 256) <|
          grd (inb a1 256) <|
          bnd (setA s 0 (ix a1) (s.2 0 (ix a0))) fun s7 =>
          some s7
        else
          some s
    else
      some s
set_option maxRecDepth 100000 in
theorem e_copyOne {g : GT} {a0 : Int32} {a1 : Int32} {s : St} {w : St} (hw : HW g) {K : St → MHeap} {o : Nat} {r : Nat → Nat} (V : View (GG g) Ln K o r) (hr : f_copyOne a0 a1 s = some w) : EvC (GG g) M_copyOne [.ref o, .int a0, .int a1] (K s) (none, (K w)) := by
  refine EvC.enter (L0 := [.val (.ref o), .val (.int a0), .val (.int a1)]) pl_copyOne (fun _ => rfl) rfl rfl ?_
  unfold f_copyOne at hr
  refine Ev.iloadN (d23 0 rfl) rfl ?_
  refine Ev.iflt (t := 34) (d23 1 rfl) rfl (fun c1 => ?_) (fun c1 => ?_)
  · replace hr := (if_pos c1).symm.trans hr
    cases hr
    exact Ev.vreturn rfl (d23 18 rfl)
  · replace hr := (if_neg c1).symm.trans hr
    refine Ev.iloadN (d23 2 rfl) rfl ?_
    refine Ev.sipush (z := 256) (d23 3 rfl) rfl ?_
    refine Ev.icge (t := 34) (d23 4 rfl) rfl (fun c2 => ?_) (fun c2 => ?_)
    · replace hr := (if_pos c2).symm.trans hr
      refine Ev.iloadN (d23 5 rfl) rfl ?_
      refine Ev.iflt (t := 34) (d23 6 rfl) rfl (fun c3 => ?_) (fun c3 => ?_)
      · replace hr := (if_pos c3).symm.trans hr
        cases hr
        exact Ev.vreturn rfl (d23 18 rfl)
      · replace hr := (if_neg c3).symm.trans hr
        refine Ev.iloadN (d23 7 rfl) rfl ?_
        refine Ev.sipush (z := 256) (d23 8 rfl) rfl ?_
        refine Ev.icge (t := 34) (d23 9 rfl) rfl (fun c4 => ?_) (fun c4 => ?_)
        · replace hr := (if_pos c4).symm.trans hr
          refine Ev.aloadN (d23 10 rfl) rfl ?_
          refine Ev.gAr V (ww hw 10 rfl) (d23 11 rfl) (j := 0) rfl ?_
          refine Ev.iloadN (d23 12 rfl) rfl ?_
          refine Ev.aloadN (d23 13 rfl) rfl ?_
          refine Ev.gAr V (ww hw 10 rfl) (d23 14 rfl) (j := 0) rfl ?_
          refine Ev.iloadN (d23 15 rfl) rfl ?_
          obtain ⟨b5, hr⟩ := grd_some hr
          refine Ev.ial V (j := 0) rfl rfl (d23 16 rfl) b5 ?_
          obtain ⟨b6, hr⟩ := grd_some hr
          refine Ev.ias V (j := 0) rfl rfl (d23 17 rfl) b6 ?_
          revert hr
          generalize setA s 0 (ix a1) (s.2 0 (ix a0)) = s7
          intro hr
          replace hr := (bnd_eq _ _).symm.trans hr
          cases hr
          exact Ev.vreturn rfl (d23 18 rfl)
        · replace hr := (if_neg c4).symm.trans hr
          cases hr
          exact Ev.vreturn rfl (d23 18 rfl)
    · replace hr := (if_neg c2).symm.trans hr
      cases hr
      exact Ev.vreturn rfl (d23 18 rfl)
def f_copyWords_8 (n : Nat) : Nat → Int32 → Int32 → Int32 → Int32 → St → Option (St)
  | 0 => fun _ _ _ _ _ => none
  | k + 1 => fun x1 x2 x3 x4 s =>
    if x4 < x3 then
      (f_copyOne (x1 + x4) (x2 + x4) s).bind fun q2 =>
      f_copyWords_8 n k x1 x2 x3 (x4 + (1 : Int32)) q2
    else
      some s
set_option maxRecDepth 100000 in
theorem e_copyWords_8 {g : GT} {n : Nat} (hw : HW g) {K : St → MHeap} {o : Nat} {r : Nat → Nat} (V : View (GG g) Ln K o r) (k : Nat) : ∀ (x1 : Int32) (x2 : Int32) (x3 : Int32) (x4 : Int32) (s : St) (w : St), f_copyWords_8 n k x1 x2 x3 x4 s = some w → Ev (GG g) M_copyWords 8 [.val (.ref o), .val (.int x1), .val (.int x2), .val (.int x3), .val (.int x4)] [] (K s) (none, (K w)) := by
  induction k with
  | zero => intro x1 x2 x3 x4 s w hr; rw [f_copyWords_8] at hr; cases hr
  | succ k ih =>
    intro x1 x2 x3 x4 s w hr
    rw [f_copyWords_8] at hr
    refine Ev.iload (d22 5 rfl) rfl ?_
    refine Ev.iloadN (d22 6 rfl) rfl ?_
    refine Ev.icge (t := 32) (d22 7 rfl) rfl (fun c1 => ?_) (fun c1 => ?_)
    · replace hr := (if_pos c1).symm.trans hr
      refine Ev.aloadN (d22 8 rfl) rfl ?_
      refine Ev.iloadN (d22 9 rfl) rfl ?_
      refine Ev.iload (d22 10 rfl) rfl ?_
      refine Ev.iadd (d22 11 rfl) ?_
      refine Ev.iloadN (d22 12 rfl) rfl ?_
      refine Ev.iload (d22 13 rfl) rfl ?_
      refine Ev.iadd (d22 14 rfl) ?_
      obtain ⟨q2, hq3, hr⟩ := Option.bind_eq_some_iff.mp hr
      refine Ev.priv (y := M_copyOne) (args := [.int (x1 + x4), .int (x2 + x4)]) (rest := []) (gok hw) rfl nm_copyOne (ww hw 124 rfl) (ww hw 125 rfl) (ww hw 126 rfl) (ww hw 127 rfl) (lenOf pd_copyOne rfl) (d22 15 rfl) (V.2.1 s) (e_copyOne hw V hq3) (by decide) (Nat.le_of_ble_eq_true rfl) rfl ?_
      refine Ev.iinc (z := 1) (L' := [.val (.ref o), .val (.int x1), .val (.int x2), .val (.int x3), .val (.int (x4 + (1 : Int32)))]) (d22 16 rfl) rfl rfl rfl ?_
      refine Ev.goto (t := 8) (d22 17 rfl) rfl ?_
      exact ih x1 x2 x3 (x4 + (1 : Int32)) q2  _ hr
    · replace hr := (if_neg c1).symm.trans hr
      refine Ev.goto (t := 63) (d22 18 rfl) rfl ?_
      cases hr
      exact Ev.vreturn rfl (d22 35 rfl)
def f_copyWords_40 (n : Nat) : Nat → Int32 → Int32 → Int32 → St → Option (St)
  | 0 => fun _ _ _ _ => none
  | k + 1 => fun x1 x2 x4 s =>
    if x4 < 0 then
      some s
    else
      (f_copyOne (x1 + x4) (x2 + x4) s).bind fun q2 =>
      f_copyWords_40 n k x1 x2 (x4 + (-1 : Int32)) q2
set_option maxRecDepth 100000 in
theorem e_copyWords_40 {g : GT} {n : Nat} (hw : HW g) {K : St → MHeap} {o : Nat} {r : Nat → Nat} (V : View (GG g) Ln K o r) (k : Nat) : ∀ (x1 : Int32) (x2 : Int32) (x4 : Int32) (s : St) (y3 : Slot) (hy3 : one1 y3 = true) (w : St), f_copyWords_40 n k x1 x2 x4 s = some w → Ev (GG g) M_copyWords 40 [.val (.ref o), .val (.int x1), .val (.int x2), y3, .val (.int x4)] [] (K s) (none, (K w)) := by
  induction k with
  | zero => intro x1 x2 x4 s y3 hy3 w hr; rw [f_copyWords_40] at hr; cases hr
  | succ k ih =>
    intro x1 x2 x4 s y3 hy3 w hr
    rw [f_copyWords_40] at hr
    refine Ev.iload (d22 23 rfl) rfl ?_
    refine Ev.iflt (t := 63) (d22 24 rfl) rfl (fun c1 => ?_) (fun c1 => ?_)
    · replace hr := (if_pos c1).symm.trans hr
      cases hr
      exact Ev.vreturn rfl (d22 35 rfl)
    · replace hr := (if_neg c1).symm.trans hr
      refine Ev.aloadN (d22 25 rfl) rfl ?_
      refine Ev.iloadN (d22 26 rfl) rfl ?_
      refine Ev.iload (d22 27 rfl) rfl ?_
      refine Ev.iadd (d22 28 rfl) ?_
      refine Ev.iloadN (d22 29 rfl) rfl ?_
      refine Ev.iload (d22 30 rfl) rfl ?_
      refine Ev.iadd (d22 31 rfl) ?_
      obtain ⟨q2, hq3, hr⟩ := Option.bind_eq_some_iff.mp hr
      refine Ev.priv (y := M_copyOne) (args := [.int (x1 + x4), .int (x2 + x4)]) (rest := []) (gok hw) rfl nm_copyOne (ww hw 124 rfl) (ww hw 125 rfl) (ww hw 126 rfl) (ww hw 127 rfl) (lenOf pd_copyOne rfl) (d22 32 rfl) (V.2.1 s) (e_copyOne hw V hq3) (by decide) (Nat.le_of_ble_eq_true rfl) rfl ?_
      refine Ev.iinc (z := -1) (L' := [.val (.ref o), .val (.int x1), .val (.int x2), y3, .val (.int (x4 + (-1 : Int32)))]) (d22 33 rfl) rfl rfl rfl ?_
      refine Ev.goto (t := 40) (d22 34 rfl) rfl ?_
      exact ih x1 x2 (x4 + (-1 : Int32)) q2 y3 hy3 _ hr
def f_copyWords (n : Nat) (a0 : Int32) (a1 : Int32) (a2 : Int32) (s : St) : Option (St) :=
  if a0 < a1 then
    f_copyWords_40 n n a0 a1 (a2 - (1 : Int32)) s
  else
    f_copyWords_8 n n a0 a1 a2 (0 : Int32) s
set_option maxRecDepth 100000 in
theorem e_copyWords {g : GT} {n : Nat} {a0 : Int32} {a1 : Int32} {a2 : Int32} {s : St} {w : St} (hw : HW g) {K : St → MHeap} {o : Nat} {r : Nat → Nat} (V : View (GG g) Ln K o r) (hr : f_copyWords n a0 a1 a2 s = some w) : EvC (GG g) M_copyWords [.ref o, .int a0, .int a1, .int a2] (K s) (none, (K w)) := by
  refine EvC.enter (L0 := [.val (.ref o), .val (.int a0), .val (.int a1), .val (.int a2), .unset]) pl_copyWords (fun _ => rfl) rfl rfl ?_
  unfold f_copyWords at hr
  refine Ev.iloadN (d22 0 rfl) rfl ?_
  refine Ev.iloadN (d22 1 rfl) rfl ?_
  refine Ev.icgt (t := 35) (d22 2 rfl) rfl (fun c1 => ?_) (fun c1 => ?_)
  · replace hr := (if_pos c1).symm.trans hr
    refine Ev.iloadN (d22 19 rfl) rfl ?_
    refine Ev.iconst (z := 1) (d22 20 rfl) rfl ?_
    refine Ev.isub (d22 21 rfl) ?_
    refine Ev.istD (L' := [.val (.ref o), .val (.int a0), .val (.int a1), .val (.int a2), .val (.int (a2 - (1 : Int32)))]) (d22 22 rfl) rfl rfl rfl ?_
    exact e_copyWords_40 hw V  n a0 a1 (a2 - (1 : Int32)) s (.val (.int a2)) rfl _ hr
  · replace hr := (if_neg c1).symm.trans hr
    refine Ev.iconst (z := 0) (d22 3 rfl) rfl ?_
    refine Ev.istD (L' := [.val (.ref o), .val (.int a0), .val (.int a1), .val (.int a2), .val (.int (0 : Int32))]) (d22 4 rfl) rfl rfl rfl ?_
    exact e_copyWords_8 hw V  n a0 a1 a2 (0 : Int32) s  _ hr
def f_moveBlock_34 (n : Nat) (x1 : Int32) (x2 : Int32) (x3 : Int32) (s : St) : Option (St) :=
  grd (inb x1 32) <|
  (f_copyWords n (s.2 3 (ix x1)) x3 x2 s).bind fun q2 =>
  bnd (setA q2 3 (ix x1) x3) fun s4 =>
  (f_markBlock n x1 s4).bind fun q5 =>
  some q5
set_option maxRecDepth 100000 in
theorem e_moveBlock_34 {g : GT} {n : Nat} (hw : HW g) {K : St → MHeap} {o : Nat} {r : Nat → Nat} (V : View (GG g) Ln K o r) (x1 : Int32) (x2 : Int32) (x3 : Int32) (s : St) (w : St) (hr : f_moveBlock_34 n x1 x2 x3 s = some w) : Ev (GG g) M_moveBlock 34 [.val (.ref o), .val (.int x1), .val (.int x2), .val (.int x3)] [] (K s) (none, (K w)) := by
  unfold f_moveBlock_34 at hr
  refine Ev.aloadN (d21 22 rfl) rfl ?_
  refine Ev.aloadN (d21 23 rfl) rfl ?_
  refine Ev.gAr V (ww hw 17 rfl) (d21 24 rfl) (j := 3) rfl ?_
  refine Ev.iloadN (d21 25 rfl) rfl ?_
  obtain ⟨b1, hr⟩ := grd_some hr
  refine Ev.ial V (j := 3) rfl rfl (d21 26 rfl) b1 ?_
  refine Ev.iloadN (d21 27 rfl) rfl ?_
  refine Ev.iloadN (d21 28 rfl) rfl ?_
  obtain ⟨q2, hq3, hr⟩ := Option.bind_eq_some_iff.mp hr
  refine Ev.priv (y := M_copyWords) (args := [.int (s.2 3 (ix x1)), .int x3, .int x2]) (rest := []) (gok hw) rfl nm_copyWords (ww hw 120 rfl) (ww hw 121 rfl) (ww hw 122 rfl) (ww hw 123 rfl) (lenOf pd_copyWords rfl) (d21 29 rfl) (V.2.1 s) (e_copyWords hw V hq3) (by decide) (Nat.le_of_ble_eq_true rfl) rfl ?_
  refine Ev.aloadN (d21 30 rfl) rfl ?_
  refine Ev.gAr V (ww hw 17 rfl) (d21 31 rfl) (j := 3) rfl ?_
  refine Ev.iloadN (d21 32 rfl) rfl ?_
  refine Ev.iloadN (d21 33 rfl) rfl ?_
  refine Ev.ias V (j := 3) rfl rfl (d21 34 rfl) b1 ?_
  revert hr
  generalize setA q2 3 (ix x1) x3 = s4
  intro hr
  replace hr := (bnd_eq _ _).symm.trans hr
  refine Ev.aloadN (d21 35 rfl) rfl ?_
  refine Ev.iloadN (d21 36 rfl) rfl ?_
  obtain ⟨q5, hq6, hr⟩ := Option.bind_eq_some_iff.mp hr
  refine Ev.priv (y := M_markBlock) (args := [.int x1]) (rest := []) (gok hw) rfl nm_markBlock (ww hw 76 rfl) (ww hw 77 rfl) (ww hw 78 rfl) (ww hw 79 rfl) (lenOf pd_markBlock rfl) (d21 37 rfl) (V.2.1 s4) (e_markBlock hw V hq6) (by decide) (Nat.le_of_ble_eq_true rfl) rfl ?_
  cases hr
  exact Ev.vreturn rfl (d21 38 rfl)
def f_moveBlock_27 (n : Nat) (x1 : Int32) (x2 : Int32) (s : St) : Option (St) :=
  grd (inb x1 32) <|
  f_moveBlock_34 n x1 x2 (s.2 3 (ix x1)) s
set_option maxRecDepth 100000 in
theorem e_moveBlock_27 {g : GT} {n : Nat} (hw : HW g) {K : St → MHeap} {o : Nat} {r : Nat → Nat} (V : View (GG g) Ln K o r) (x1 : Int32) (x2 : Int32) (s : St) (y3 : Slot) (hy3 : one1 y3 = true) (w : St) (hr : f_moveBlock_27 n x1 x2 s = some w) : Ev (GG g) M_moveBlock 27 [.val (.ref o), .val (.int x1), .val (.int x2), y3] [] (K s) (none, (K w)) := by
  unfold f_moveBlock_27 at hr
  refine Ev.aloadN (d21 17 rfl) rfl ?_
  refine Ev.gAr V (ww hw 17 rfl) (d21 18 rfl) (j := 3) rfl ?_
  refine Ev.iloadN (d21 19 rfl) rfl ?_
  obtain ⟨b1, hr⟩ := grd_some hr
  refine Ev.ial V (j := 3) rfl rfl (d21 20 rfl) b1 ?_
  refine Ev.istDN (L' := [.val (.ref o), .val (.int x1), .val (.int x2), .val (.int (s.2 3 (ix x1)))]) (d21 21 rfl) rfl hy3 rfl ?_
  exact e_moveBlock_34 hw V  x1 x2 (s.2 3 (ix x1)) s  _ hr
def f_moveBlock (n : Nat) (a0 : Int32) (s : St) : Option (St) :=
  grd (inb a0 32) <|
  (f_firstRun n s (s.2 4 (ix a0))).bind fun q2 =>
  if q2 < 0 then
    f_moveBlock_27 n a0 (s.2 4 (ix a0)) s
  else
    if (s.2 3 (ix a0)) < q2 then
      f_moveBlock_27 n a0 (s.2 4 (ix a0)) s
    else
      f_moveBlock_34 n a0 (s.2 4 (ix a0)) q2 s
set_option maxRecDepth 100000 in
theorem e_moveBlock {g : GT} {n : Nat} {a0 : Int32} {s : St} {w : St} (hw : HW g) {K : St → MHeap} {o : Nat} {r : Nat → Nat} (V : View (GG g) Ln K o r) (hr : f_moveBlock n a0 s = some w) : EvC (GG g) M_moveBlock [.ref o, .int a0] (K s) (none, (K w)) := by
  refine EvC.enter (L0 := [.val (.ref o), .val (.int a0), .unset, .unset]) pl_moveBlock (fun _ => rfl) rfl rfl ?_
  unfold f_moveBlock at hr
  refine Ev.aloadN (d21 0 rfl) rfl ?_
  refine Ev.gAr V (ww hw 19 rfl) (d21 1 rfl) (j := 4) rfl ?_
  refine Ev.iloadN (d21 2 rfl) rfl ?_
  obtain ⟨b1, hr⟩ := grd_some hr
  refine Ev.ial V (j := 4) rfl rfl (d21 3 rfl) b1 ?_
  refine Ev.istDN (L' := [.val (.ref o), .val (.int a0), .val (.int (s.2 4 (ix a0))), .unset]) (d21 4 rfl) rfl rfl rfl ?_
  refine Ev.aloadN (d21 5 rfl) rfl ?_
  refine Ev.iloadN (d21 6 rfl) rfl ?_
  obtain ⟨q2, hq3, hr⟩ := Option.bind_eq_some_iff.mp hr
  refine Ev.priv (y := M_firstRun) (args := [.int (s.2 4 (ix a0))]) (rest := []) (gok hw) rfl nm_firstRun (ww hw 60 rfl) (ww hw 61 rfl) (ww hw 62 rfl) (ww hw 63 rfl) (lenOf pd_firstRun rfl) (d21 7 rfl) (V.2.1 s) (e_firstRun hw V hq3) (by decide) (Nat.le_of_ble_eq_true rfl) rfl ?_
  refine Ev.istDN (L' := [.val (.ref o), .val (.int a0), .val (.int (s.2 4 (ix a0))), .val (.int q2)]) (d21 8 rfl) rfl rfl rfl ?_
  refine Ev.iloadN (d21 9 rfl) rfl ?_
  refine Ev.iflt (t := 27) (d21 10 rfl) rfl (fun c4 => ?_) (fun c4 => ?_)
  · replace hr := (if_pos c4).symm.trans hr
    exact e_moveBlock_27 hw V  a0 (s.2 4 (ix a0)) s (.val (.int q2)) rfl _ hr
  · replace hr := (if_neg c4).symm.trans hr
    refine Ev.iloadN (d21 11 rfl) rfl ?_
    refine Ev.aloadN (d21 12 rfl) rfl ?_
    refine Ev.gAr V (ww hw 17 rfl) (d21 13 rfl) (j := 3) rfl ?_
    refine Ev.iloadN (d21 14 rfl) rfl ?_
    refine Ev.ial V (j := 3) rfl rfl (d21 15 rfl) b1 ?_
    refine Ev.icle (t := 34) (d21 16 rfl) rfl (fun c5 => ?_) (fun c5 => ?_)
    · replace hr := (if_pos c5).symm.trans hr
      exact e_moveBlock_27 hw V  a0 (s.2 4 (ix a0)) s (.val (.int q2)) rfl _ hr
    · replace hr := (if_neg c5).symm.trans hr
      exact e_moveBlock_34 hw V  a0 (s.2 4 (ix a0)) q2 s  _ hr
def f_compactRun_40 (n : Nat) (k8 : Int32 → Int32 → Int32 → St → Option (St)) (x1 : Int32) (x2 : Int32) (x3 : Int32) (s : St) : Option (St) :=
  (f_markBlock n x3 s).bind fun q1 =>
  k8 x1 x2 (x3 + (1 : Int32)) q1
set_option maxRecDepth 100000 in
theorem e_compactRun_40 {g : GT} {n : Nat} (hw : HW g) {K : St → MHeap} {o : Nat} {r : Nat → Nat} (V : View (GG g) Ln K o r) {k8 : Int32 → Int32 → Int32 → St → Option (St)} (hk8 : ∀ (x1 : Int32) (x2 : Int32) (x3 : Int32) (s : St) (w : St), k8 x1 x2 x3 s = some w → Ev (GG g) M_compactRun 8 [.val (.ref o), .val (.int x1), .val (.int x2), .val (.int x3)] [] (K s) (none, (K w))) (x1 : Int32) (x2 : Int32) (x3 : Int32) (s : St) (w : St) (hr : f_compactRun_40 n k8 x1 x2 x3 s = some w) : Ev (GG g) M_compactRun 40 [.val (.ref o), .val (.int x1), .val (.int x2), .val (.int x3)] [] (K s) (none, (K w)) := by
  unfold f_compactRun_40 at hr
  refine Ev.aloadN (d19 24 rfl) rfl ?_
  refine Ev.iloadN (d19 25 rfl) rfl ?_
  obtain ⟨q1, hq2, hr⟩ := Option.bind_eq_some_iff.mp hr
  refine Ev.priv (y := M_markBlock) (args := [.int x3]) (rest := []) (gok hw) rfl nm_markBlock (ww hw 76 rfl) (ww hw 77 rfl) (ww hw 78 rfl) (ww hw 79 rfl) (lenOf pd_markBlock rfl) (d19 26 rfl) (V.2.1 s) (e_markBlock hw V hq2) (by decide) (Nat.le_of_ble_eq_true rfl) rfl ?_
  refine Ev.goto (t := 58) (d19 27 rfl) rfl ?_
  refine Ev.iinc (z := 1) (L' := [.val (.ref o), .val (.int x1), .val (.int x2), .val (.int (x3 + (1 : Int32)))]) (d19 34 rfl) rfl rfl rfl ?_
  refine Ev.goto (t := 8) (d19 35 rfl) rfl ?_
  exact hk8 x1 x2 (x3 + (1 : Int32)) q1  _ hr
def f_compactRun_71 (n : Nat) : Nat → Int32 → Int32 → St → Option (St)
  | 0 => fun _ _ _ => none
  | k + 1 => fun x2 x3 s =>
    if x3 < x2 then
      grd (inb x3 32) <|
      (f_moveBlock n (s.2 6 (ix x3)) s).bind fun q3 =>
      f_compactRun_71 n k x2 (x3 + (1 : Int32)) q3
    else
      some s
set_option maxRecDepth 100000 in
theorem e_compactRun_71 {g : GT} {n : Nat} (hw : HW g) {K : St → MHeap} {o : Nat} {r : Nat → Nat} (V : View (GG g) Ln K o r) (k : Nat) : ∀ (x2 : Int32) (x3 : Int32) (s : St) (y1 : Slot) (hy1 : one1 y1 = true) (w : St), f_compactRun_71 n k x2 x3 s = some w → Ev (GG g) M_compactRun 71 [.val (.ref o), y1, .val (.int x2), .val (.int x3)] [] (K s) (none, (K w)) := by
  induction k with
  | zero => intro x2 x3 s y1 hy1 w hr; rw [f_compactRun_71] at hr; cases hr
  | succ k ih =>
    intro x2 x3 s y1 hy1 w hr
    rw [f_compactRun_71] at hr
    refine Ev.iloadN (d19 41 rfl) rfl ?_
    refine Ev.iloadN (d19 42 rfl) rfl ?_
    refine Ev.icge (t := 92) (d19 43 rfl) rfl (fun c1 => ?_) (fun c1 => ?_)
    · replace hr := (if_pos c1).symm.trans hr
      refine Ev.aloadN (d19 44 rfl) rfl ?_
      refine Ev.aloadN (d19 45 rfl) rfl ?_
      refine Ev.gAr V (ww hw 23 rfl) (d19 46 rfl) (j := 6) rfl ?_
      refine Ev.iloadN (d19 47 rfl) rfl ?_
      obtain ⟨b2, hr⟩ := grd_some hr
      refine Ev.ial V (j := 6) rfl rfl (d19 48 rfl) b2 ?_
      obtain ⟨q3, hq4, hr⟩ := Option.bind_eq_some_iff.mp hr
      refine Ev.priv (y := M_moveBlock) (args := [.int (s.2 6 (ix x3))]) (rest := []) (gok hw) rfl nm_moveBlock (ww hw 116 rfl) (ww hw 117 rfl) (ww hw 118 rfl) (ww hw 119 rfl) (lenOf pd_moveBlock rfl) (d19 49 rfl) (V.2.1 s) (e_moveBlock hw V hq4) (by decide) (Nat.le_of_ble_eq_true rfl) rfl ?_
      refine Ev.iinc (z := 1) (L' := [.val (.ref o), y1, .val (.int x2), .val (.int (x3 + (1 : Int32)))]) (d19 50 rfl) rfl rfl rfl ?_
      refine Ev.goto (t := 71) (d19 51 rfl) rfl ?_
      exact ih x2 (x3 + (1 : Int32)) q3 y1 hy1 _ hr
    · replace hr := (if_neg c1).symm.trans hr
      cases hr
      exact Ev.vreturn rfl (d19 52 rfl)
def f_compactRun_8 (n : Nat) : Nat → Int32 → Int32 → Int32 → St → Option (St)
  | 0 => fun _ _ _ _ => none
  | k + 1 => fun x1 x2 x3 s =>
    if x3 < (s.1 10) then
      grd (inb x3 32) <|
      if (s.2 2 (ix x3)) = (1 : Int32) then
        if (s.2 7 (ix x3)) = 0 then
          if x3 = x1 then
            f_compactRun_40 n (f_compactRun_8 n k) x1 x2 x3 s
          else
            grd (inb x2 32) <|
            bnd (setA s 6 (ix x2) x3) fun s7 =>
            f_compactRun_8 n k x1 (x2 + (1 : Int32)) (x3 + (1 : Int32)) s7
        else
          f_compactRun_40 n (f_compactRun_8 n k) x1 x2 x3 s
      else
        f_compactRun_8 n k x1 x2 (x3 + (1 : Int32)) s
    else
      (f_sortOrder n x2 s).bind fun q8 =>
      f_compactRun_71 n n x2 (0 : Int32) q8
set_option maxRecDepth 100000 in
theorem e_compactRun_8 {g : GT} {n : Nat} (hw : HW g) {K : St → MHeap} {o : Nat} {r : Nat → Nat} (V : View (GG g) Ln K o r) (k : Nat) : ∀ (x1 : Int32) (x2 : Int32) (x3 : Int32) (s : St) (w : St), f_compactRun_8 n k x1 x2 x3 s = some w → Ev (GG g) M_compactRun 8 [.val (.ref o), .val (.int x1), .val (.int x2), .val (.int x3)] [] (K s) (none, (K w)) := by
  induction k with
  | zero => intro x1 x2 x3 s w hr; rw [f_compactRun_8] at hr; cases hr
  | succ k ih =>
    intro x1 x2 x3 s w hr
    rw [f_compactRun_8] at hr
    refine Ev.iloadN (d19 6 rfl) rfl ?_
    refine Ev.aloadN (d19 7 rfl) rfl ?_
    refine Ev.gI V (ww hw 31 rfl) (d19 8 rfl) (j := 10) rfl rfl ?_
    refine Ev.icge (t := 64) (d19 9 rfl) rfl (fun c1 => ?_) (fun c1 => ?_)
    · replace hr := (if_pos c1).symm.trans hr
      refine Ev.aloadN (d19 10 rfl) rfl ?_
      refine Ev.gAr V (ww hw 15 rfl) (d19 11 rfl) (j := 2) rfl ?_
      refine Ev.iloadN (d19 12 rfl) rfl ?_
      obtain ⟨b2, hr⟩ := grd_some hr
      refine Ev.ial V (j := 2) rfl rfl (d19 13 rfl) b2 ?_
      refine Ev.iconst (z := 1) (d19 14 rfl) rfl ?_
      refine Ev.icne (t := 58) (d19 15 rfl) rfl (fun c3 => ?_) (fun c3 => ?_)
      · replace hr := (if_pos c3).symm.trans hr
        refine Ev.aloadN (d19 16 rfl) rfl ?_
        refine Ev.gAr V (ww hw 25 rfl) (d19 17 rfl) (j := 7) rfl ?_
        refine Ev.iloadN (d19 18 rfl) rfl ?_
        refine Ev.bal V (j := 7) rfl rfl (d19 19 rfl) b2 ?_
        refine Ev.ifne (t := 40) (d19 20 rfl) rfl (fun c4 => ?_) (fun c4 => ?_)
        · replace hr := (if_pos c4).symm.trans hr
          refine Ev.iloadN (d19 21 rfl) rfl ?_
          refine Ev.iloadN (d19 22 rfl) rfl ?_
          refine Ev.icne (t := 48) (d19 23 rfl) rfl (fun c5 => ?_) (fun c5 => ?_)
          · replace hr := (if_pos c5).symm.trans hr
            exact e_compactRun_40 hw V ih x1 x2 x3 s  _ hr
          · replace hr := (if_neg c5).symm.trans hr
            refine Ev.aloadN (d19 28 rfl) rfl ?_
            refine Ev.gAr V (ww hw 23 rfl) (d19 29 rfl) (j := 6) rfl ?_
            refine Ev.iloadN (d19 30 rfl) rfl ?_
            refine Ev.iloadN (d19 31 rfl) rfl ?_
            obtain ⟨b6, hr⟩ := grd_some hr
            refine Ev.ias V (j := 6) rfl rfl (d19 32 rfl) b6 ?_
            revert hr
            generalize setA s 6 (ix x2) x3 = s7
            intro hr
            replace hr := (bnd_eq _ _).symm.trans hr
            refine Ev.iinc (z := 1) (L' := [.val (.ref o), .val (.int x1), .val (.int (x2 + (1 : Int32))), .val (.int x3)]) (d19 33 rfl) rfl rfl rfl ?_
            refine Ev.iinc (z := 1) (L' := [.val (.ref o), .val (.int x1), .val (.int (x2 + (1 : Int32))), .val (.int (x3 + (1 : Int32)))]) (d19 34 rfl) rfl rfl rfl ?_
            refine Ev.goto (t := 8) (d19 35 rfl) rfl ?_
            exact ih x1 (x2 + (1 : Int32)) (x3 + (1 : Int32)) s7  _ hr
        · replace hr := (if_neg c4).symm.trans hr
          exact e_compactRun_40 hw V ih x1 x2 x3 s  _ hr
      · replace hr := (if_neg c3).symm.trans hr
        refine Ev.iinc (z := 1) (L' := [.val (.ref o), .val (.int x1), .val (.int x2), .val (.int (x3 + (1 : Int32)))]) (d19 34 rfl) rfl rfl rfl ?_
        refine Ev.goto (t := 8) (d19 35 rfl) rfl ?_
        exact ih x1 x2 (x3 + (1 : Int32)) s  _ hr
    · replace hr := (if_neg c1).symm.trans hr
      refine Ev.aloadN (d19 36 rfl) rfl ?_
      refine Ev.iloadN (d19 37 rfl) rfl ?_
      obtain ⟨q8, hq9, hr⟩ := Option.bind_eq_some_iff.mp hr
      refine Ev.priv (y := M_sortOrder) (args := [.int x2]) (rest := []) (gok hw) rfl nm_sortOrder (ww hw 112 rfl) (ww hw 113 rfl) (ww hw 114 rfl) (ww hw 115 rfl) (lenOf pd_sortOrder rfl) (d19 38 rfl) (V.2.1 s) (e_sortOrder hw V hq9) (by decide) (Nat.le_of_ble_eq_true rfl) rfl ?_
      refine Ev.iconst (z := 0) (d19 39 rfl) rfl ?_
      refine Ev.istDN (L' := [.val (.ref o), .val (.int x1), .val (.int x2), .val (.int (0 : Int32))]) (d19 40 rfl) rfl rfl rfl ?_
      exact e_compactRun_71 hw V  n x2 (0 : Int32) q8 (.val (.int x1)) rfl _ hr
def f_compactRun (n : Nat) (a0 : Int32) (s : St) : Option (St) :=
  (f_clearMark n s).bind fun q1 =>
  f_compactRun_8 n n a0 (0 : Int32) (0 : Int32) q1
set_option maxRecDepth 100000 in
theorem e_compactRun {g : GT} {n : Nat} {a0 : Int32} {s : St} {w : St} (hw : HW g) {K : St → MHeap} {o : Nat} {r : Nat → Nat} (V : View (GG g) Ln K o r) (hr : f_compactRun n a0 s = some w) : EvC (GG g) M_compactRun [.ref o, .int a0] (K s) (none, (K w)) := by
  refine EvC.enter (L0 := [.val (.ref o), .val (.int a0), .unset, .unset]) pl_compactRun (fun _ => rfl) rfl rfl ?_
  unfold f_compactRun at hr
  refine Ev.aloadN (d19 0 rfl) rfl ?_
  obtain ⟨q1, hq2, hr⟩ := Option.bind_eq_some_iff.mp hr
  refine Ev.priv (y := M_clearMark) (args := []) (rest := []) (gok hw) rfl nm_clearMark (ww hw 56 rfl) (ww hw 57 rfl) (ww hw 58 rfl) (ww hw 59 rfl) (lenOf pd_clearMark rfl) (d19 1 rfl) (V.2.1 s) (e_clearMark hw V hq2) (by decide) (Nat.le_of_ble_eq_true rfl) rfl ?_
  refine Ev.iconst (z := 0) (d19 2 rfl) rfl ?_
  refine Ev.istDN (L' := [.val (.ref o), .val (.int a0), .val (.int (0 : Int32)), .unset]) (d19 3 rfl) rfl rfl rfl ?_
  refine Ev.iconst (z := 0) (d19 4 rfl) rfl ?_
  refine Ev.istDN (L' := [.val (.ref o), .val (.int a0), .val (.int (0 : Int32)), .val (.int (0 : Int32))]) (d19 5 rfl) rfl rfl rfl ?_
  exact e_compactRun_8 hw V  n a0 (0 : Int32) (0 : Int32) q1  _ hr
def f_victim_64 (n : Nat) (s : St) (k4 : Int32 → Int32 → Int32 → Option (Int32)) (x1 : Int32) (x3 : Int32) : Option (Int32) :=
  k4 x1 x3 (x3 + (1 : Int32))
set_option maxRecDepth 100000 in
theorem e_victim_64 {g : GT} {n : Nat} {s : St} (hw : HW g) {K : St → MHeap} {o : Nat} {r : Nat → Nat} (V : View (GG g) Ln K o r) {k4 : Int32 → Int32 → Int32 → Option (Int32)} (hk4 : ∀ (x1 : Int32) (x2 : Int32) (x3 : Int32) (w : Int32), k4 x1 x2 x3 = some w → Ev (GG g) M_victim 4 [.val (.ref o), .val (.int x1), .val (.int x2), .val (.int x3)] [] (K s) ((some (.int w)), (K s))) (x1 : Int32) (x3 : Int32) (y2 : Slot) (hy2 : one1 y2 = true) (w : Int32) (hr : f_victim_64 n s k4 x1 x3 = some w) : Ev (GG g) M_victim 64 [.val (.ref o), .val (.int x1), y2, .val (.int x3)] [] (K s) ((some (.int w)), (K s)) := by
  unfold f_victim_64 at hr
  refine Ev.iloadN (d31 38 rfl) rfl ?_
  refine Ev.istDN (L' := [.val (.ref o), .val (.int x1), .val (.int x3), .val (.int x3)]) (d31 39 rfl) rfl hy2 rfl ?_
  refine Ev.iinc (z := 1) (L' := [.val (.ref o), .val (.int x1), .val (.int x3), .val (.int (x3 + (1 : Int32)))]) (d31 40 rfl) rfl rfl rfl ?_
  refine Ev.goto (t := 4) (d31 41 rfl) rfl ?_
  exact hk4 x1 x3 (x3 + (1 : Int32))  _ hr
def f_victim_4 (n : Nat) (s : St) : Nat → Int32 → Int32 → Int32 → Option (Int32)
  | 0 => fun _ _ _ => none
  | k + 1 => fun x1 x2 x3 =>
    if x3 < (s.1 10) then
      grd (inb x3 32) <|
      if (s.2 2 (ix x3)) = (1 : Int32) then
        if x3 = x1 then
          f_victim_4 n s k x1 x2 (x3 + (1 : Int32))
        else
          if (s.2 8 (ix x3)) = 0 then
            f_victim_4 n s k x1 x2 (x3 + (1 : Int32))
          else
            if (s.2 7 (ix x3)) = 0 then
              if x2 < 0 then
                f_victim_64 n s (f_victim_4 n s k) x1 x3
              else
                grd (inb x2 32) <|
                if (s.2 5 (ix x3)) < (s.2 5 (ix x2)) then
                  f_victim_64 n s (f_victim_4 n s k) x1 x3
                else
                  f_victim_4 n s k x1 x2 (x3 + (1 : Int32))
            else
              f_victim_4 n s k x1 x2 (x3 + (1 : Int32))
      else
        f_victim_4 n s k x1 x2 (x3 + (1 : Int32))
    else
      some x2
set_option maxRecDepth 100000 in
theorem e_victim_4 {g : GT} {n : Nat} {s : St} (hw : HW g) {K : St → MHeap} {o : Nat} {r : Nat → Nat} (V : View (GG g) Ln K o r) (k : Nat) : ∀ (x1 : Int32) (x2 : Int32) (x3 : Int32) (w : Int32), f_victim_4 n s k x1 x2 x3 = some w → Ev (GG g) M_victim 4 [.val (.ref o), .val (.int x1), .val (.int x2), .val (.int x3)] [] (K s) ((some (.int w)), (K s)) := by
  induction k with
  | zero => intro x1 x2 x3 w hr; rw [f_victim_4] at hr; cases hr
  | succ k ih =>
    intro x1 x2 x3 w hr
    rw [f_victim_4] at hr
    refine Ev.iloadN (d31 4 rfl) rfl ?_
    refine Ev.aloadN (d31 5 rfl) rfl ?_
    refine Ev.gI V (ww hw 31 rfl) (d31 6 rfl) (j := 10) rfl rfl ?_
    refine Ev.icge (t := 72) (d31 7 rfl) rfl (fun c1 => ?_) (fun c1 => ?_)
    · replace hr := (if_pos c1).symm.trans hr
      refine Ev.aloadN (d31 8 rfl) rfl ?_
      refine Ev.gAr V (ww hw 15 rfl) (d31 9 rfl) (j := 2) rfl ?_
      refine Ev.iloadN (d31 10 rfl) rfl ?_
      obtain ⟨b2, hr⟩ := grd_some hr
      refine Ev.ial V (j := 2) rfl rfl (d31 11 rfl) b2 ?_
      refine Ev.iconst (z := 1) (d31 12 rfl) rfl ?_
      refine Ev.icne (t := 66) (d31 13 rfl) rfl (fun c3 => ?_) (fun c3 => ?_)
      · replace hr := (if_pos c3).symm.trans hr
        refine Ev.iloadN (d31 14 rfl) rfl ?_
        refine Ev.iloadN (d31 15 rfl) rfl ?_
        refine Ev.iceq (t := 66) (d31 16 rfl) rfl (fun c4 => ?_) (fun c4 => ?_)
        · replace hr := (if_pos c4).symm.trans hr
          refine Ev.iinc (z := 1) (L' := [.val (.ref o), .val (.int x1), .val (.int x2), .val (.int (x3 + (1 : Int32)))]) (d31 40 rfl) rfl rfl rfl ?_
          refine Ev.goto (t := 4) (d31 41 rfl) rfl ?_
          exact ih x1 x2 (x3 + (1 : Int32))  _ hr
        · replace hr := (if_neg c4).symm.trans hr
          refine Ev.aloadN (d31 17 rfl) rfl ?_
          refine Ev.gAr V (ww hw 27 rfl) (d31 18 rfl) (j := 8) rfl ?_
          refine Ev.iloadN (d31 19 rfl) rfl ?_
          refine Ev.bal V (j := 8) rfl rfl (d31 20 rfl) b2 ?_
          refine Ev.ifeq (t := 66) (d31 21 rfl) rfl (fun c5 => ?_) (fun c5 => ?_)
          · replace hr := (if_pos c5).symm.trans hr
            refine Ev.iinc (z := 1) (L' := [.val (.ref o), .val (.int x1), .val (.int x2), .val (.int (x3 + (1 : Int32)))]) (d31 40 rfl) rfl rfl rfl ?_
            refine Ev.goto (t := 4) (d31 41 rfl) rfl ?_
            exact ih x1 x2 (x3 + (1 : Int32))  _ hr
          · replace hr := (if_neg c5).symm.trans hr
            refine Ev.aloadN (d31 22 rfl) rfl ?_
            refine Ev.gAr V (ww hw 25 rfl) (d31 23 rfl) (j := 7) rfl ?_
            refine Ev.iloadN (d31 24 rfl) rfl ?_
            refine Ev.bal V (j := 7) rfl rfl (d31 25 rfl) b2 ?_
            refine Ev.ifne (t := 66) (d31 26 rfl) rfl (fun c6 => ?_) (fun c6 => ?_)
            · replace hr := (if_pos c6).symm.trans hr
              refine Ev.iloadN (d31 27 rfl) rfl ?_
              refine Ev.iflt (t := 64) (d31 28 rfl) rfl (fun c7 => ?_) (fun c7 => ?_)
              · replace hr := (if_pos c7).symm.trans hr
                exact e_victim_64 hw V ih x1 x3 (.val (.int x2)) rfl _ hr
              · replace hr := (if_neg c7).symm.trans hr
                refine Ev.aloadN (d31 29 rfl) rfl ?_
                refine Ev.gAr V (ww hw 21 rfl) (d31 30 rfl) (j := 5) rfl ?_
                refine Ev.iloadN (d31 31 rfl) rfl ?_
                refine Ev.ial V (j := 5) rfl rfl (d31 32 rfl) b2 ?_
                refine Ev.aloadN (d31 33 rfl) rfl ?_
                refine Ev.gAr V (ww hw 21 rfl) (d31 34 rfl) (j := 5) rfl ?_
                refine Ev.iloadN (d31 35 rfl) rfl ?_
                obtain ⟨b8, hr⟩ := grd_some hr
                refine Ev.ial V (j := 5) rfl rfl (d31 36 rfl) b8 ?_
                refine Ev.icge (t := 66) (d31 37 rfl) rfl (fun c9 => ?_) (fun c9 => ?_)
                · replace hr := (if_pos c9).symm.trans hr
                  exact e_victim_64 hw V ih x1 x3 (.val (.int x2)) rfl _ hr
                · replace hr := (if_neg c9).symm.trans hr
                  refine Ev.iinc (z := 1) (L' := [.val (.ref o), .val (.int x1), .val (.int x2), .val (.int (x3 + (1 : Int32)))]) (d31 40 rfl) rfl rfl rfl ?_
                  refine Ev.goto (t := 4) (d31 41 rfl) rfl ?_
                  exact ih x1 x2 (x3 + (1 : Int32))  _ hr
            · replace hr := (if_neg c6).symm.trans hr
              refine Ev.iinc (z := 1) (L' := [.val (.ref o), .val (.int x1), .val (.int x2), .val (.int (x3 + (1 : Int32)))]) (d31 40 rfl) rfl rfl rfl ?_
              refine Ev.goto (t := 4) (d31 41 rfl) rfl ?_
              exact ih x1 x2 (x3 + (1 : Int32))  _ hr
      · replace hr := (if_neg c3).symm.trans hr
        refine Ev.iinc (z := 1) (L' := [.val (.ref o), .val (.int x1), .val (.int x2), .val (.int (x3 + (1 : Int32)))]) (d31 40 rfl) rfl rfl rfl ?_
        refine Ev.goto (t := 4) (d31 41 rfl) rfl ?_
        exact ih x1 x2 (x3 + (1 : Int32))  _ hr
    · replace hr := (if_neg c1).symm.trans hr
      refine Ev.iloadN (d31 42 rfl) rfl ?_
      cases hr
      exact Ev.ireturn rfl (d31 43 rfl)
def f_victim (n : Nat) (s : St) (a0 : Int32) : Option (Int32) :=
  f_victim_4 n s n a0 (-1 : Int32) (0 : Int32)
set_option maxRecDepth 100000 in
theorem e_victim {g : GT} {n : Nat} {s : St} {a0 : Int32} {w : Int32} (hw : HW g) {K : St → MHeap} {o : Nat} {r : Nat → Nat} (V : View (GG g) Ln K o r) (hr : f_victim n s a0 = some w) : EvC (GG g) M_victim [.ref o, .int a0] (K s) ((some (.int w)), (K s)) := by
  refine EvC.enter (L0 := [.val (.ref o), .val (.int a0), .unset, .unset]) pl_victim (fun h => nomatch h) rfl rfl ?_
  unfold f_victim at hr
  refine Ev.iconst (z := -1) (d31 0 rfl) rfl ?_
  refine Ev.istDN (L' := [.val (.ref o), .val (.int a0), .val (.int (-1 : Int32)), .unset]) (d31 1 rfl) rfl rfl rfl ?_
  refine Ev.iconst (z := 0) (d31 2 rfl) rfl ?_
  refine Ev.istDN (L' := [.val (.ref o), .val (.int a0), .val (.int (-1 : Int32)), .val (.int (0 : Int32))]) (d31 3 rfl) rfl rfl rfl ?_
  exact e_victim_4 hw V  n a0 (-1 : Int32) (0 : Int32)  _ hr
def f_purge (a0 : Int32) (s : St) : Option (St) :=
  grd (inb a0 32) <|
  bnd (setA s 2 (ix a0) (2 : Int32)) fun s2 =>
  bnd (setA s2 3 (ix a0) (-1 : Int32)) fun s3 =>
  bnd (setA s3 4 (ix a0) (0 : Int32)) fun s4 =>
  bnd (setA s4 7 (ix a0) ((0 : Int32) &&& 1)) fun s5 =>
  bnd (setA s5 8 (ix a0) ((0 : Int32) &&& 1)) fun s6 =>
  some s6
set_option maxRecDepth 100000 in
theorem e_purge {g : GT} {a0 : Int32} {s : St} {w : St} (hw : HW g) {K : St → MHeap} {o : Nat} {r : Nat → Nat} (V : View (GG g) Ln K o r) (hr : f_purge a0 s = some w) : EvC (GG g) M_purge [.ref o, .int a0] (K s) (none, (K w)) := by
  refine EvC.enter (L0 := [.val (.ref o), .val (.int a0)]) pl_purge (fun _ => rfl) rfl rfl ?_
  unfold f_purge at hr
  refine Ev.aloadN (d32 0 rfl) rfl ?_
  refine Ev.gAr V (ww hw 15 rfl) (d32 1 rfl) (j := 2) rfl ?_
  refine Ev.iloadN (d32 2 rfl) rfl ?_
  refine Ev.iconst (z := 2) (d32 3 rfl) rfl ?_
  obtain ⟨b1, hr⟩ := grd_some hr
  refine Ev.ias V (j := 2) rfl rfl (d32 4 rfl) b1 ?_
  revert hr
  generalize setA s 2 (ix a0) (2 : Int32) = s2
  intro hr
  replace hr := (bnd_eq _ _).symm.trans hr
  refine Ev.aloadN (d32 5 rfl) rfl ?_
  refine Ev.gAr V (ww hw 17 rfl) (d32 6 rfl) (j := 3) rfl ?_
  refine Ev.iloadN (d32 7 rfl) rfl ?_
  refine Ev.iconst (z := -1) (d32 8 rfl) rfl ?_
  refine Ev.ias V (j := 3) rfl rfl (d32 9 rfl) b1 ?_
  revert hr
  generalize setA s2 3 (ix a0) (-1 : Int32) = s3
  intro hr
  replace hr := (bnd_eq _ _).symm.trans hr
  refine Ev.aloadN (d32 10 rfl) rfl ?_
  refine Ev.gAr V (ww hw 19 rfl) (d32 11 rfl) (j := 4) rfl ?_
  refine Ev.iloadN (d32 12 rfl) rfl ?_
  refine Ev.iconst (z := 0) (d32 13 rfl) rfl ?_
  refine Ev.ias V (j := 4) rfl rfl (d32 14 rfl) b1 ?_
  revert hr
  generalize setA s3 4 (ix a0) (0 : Int32) = s4
  intro hr
  replace hr := (bnd_eq _ _).symm.trans hr
  refine Ev.aloadN (d32 15 rfl) rfl ?_
  refine Ev.gAr V (ww hw 25 rfl) (d32 16 rfl) (j := 7) rfl ?_
  refine Ev.iloadN (d32 17 rfl) rfl ?_
  refine Ev.iconst (z := 0) (d32 18 rfl) rfl ?_
  refine Ev.bas V (j := 7) rfl rfl (d32 19 rfl) b1 ?_
  revert hr
  generalize setA s4 7 (ix a0) ((0 : Int32) &&& 1) = s5
  intro hr
  replace hr := (bnd_eq _ _).symm.trans hr
  refine Ev.aloadN (d32 20 rfl) rfl ?_
  refine Ev.gAr V (ww hw 27 rfl) (d32 21 rfl) (j := 8) rfl ?_
  refine Ev.iloadN (d32 22 rfl) rfl ?_
  refine Ev.iconst (z := 0) (d32 23 rfl) rfl ?_
  refine Ev.bas V (j := 8) rfl rfl (d32 24 rfl) b1 ?_
  revert hr
  generalize setA s5 8 (ix a0) ((0 : Int32) &&& 1) = s6
  intro hr
  replace hr := (bnd_eq _ _).symm.trans hr
  cases hr
  exact Ev.vreturn rfl (d32 25 rfl)
def f_alloc_32 (n : Nat) : Nat → Int32 → Int32 → Int32 → St → Option (Int32 × St)
  | 0 => fun _ _ _ _ => none
  | k + 1 => fun x1 x2 x4 s =>
    if (32 : Int32) < x4 then
      some ((-1 : Int32), s)
    else
      (f_victim n s x2).bind fun q2 =>
      if q2 < 0 then
        some ((-1 : Int32), s)
      else
        (f_purge q2 s).bind fun q5 =>
        (f_compactRun n x2 q5).bind fun q7 =>
        (f_fit n x1 q7).bind fun q9 =>
        if q9.1 < 0 then
          f_alloc_32 n k x1 x2 (x4 + (1 : Int32)) q9.2
        else
          some (q9.1, q9.2)
set_option maxRecDepth 100000 in
theorem e_alloc_32 {g : GT} {n : Nat} (hw : HW g) {K : St → MHeap} {o : Nat} {r : Nat → Nat} (V : View (GG g) Ln K o r) (k : Nat) : ∀ (x1 : Int32) (x2 : Int32) (x4 : Int32) (s : St) (y3 : Slot) (hy3 : one1 y3 = true) (y5 : Slot) (hy5 : one1 y5 = true) (w : Int32 × St), f_alloc_32 n k x1 x2 x4 s = some w → Ev (GG g) M_alloc 32 [.val (.ref o), .val (.int x1), .val (.int x2), y3, .val (.int x4), y5] [] (K s) ((some (.int w.1)), (K w.2)) := by
  induction k with
  | zero => intro x1 x2 x4 s y3 hy3 y5 hy5 w hr; rw [f_alloc_32] at hr; cases hr
  | succ k ih =>
    intro x1 x2 x4 s y3 hy3 y5 hy5 w hr
    rw [f_alloc_32] at hr
    refine Ev.iload (d4 21 rfl) rfl ?_
    refine Ev.bipush (z := 32) (d4 22 rfl) rfl ?_
    refine Ev.icgt (t := 82) (d4 23 rfl) rfl (fun c1 => ?_) (fun c1 => ?_)
    · replace hr := (if_pos c1).symm.trans hr
      refine Ev.iconst (z := -1) (d4 48 rfl) rfl ?_
      cases hr
      exact Ev.ireturn rfl (d4 49 rfl)
    · replace hr := (if_neg c1).symm.trans hr
      refine Ev.aloadN (d4 24 rfl) rfl ?_
      refine Ev.iloadN (d4 25 rfl) rfl ?_
      obtain ⟨q2, hq3, hr⟩ := Option.bind_eq_some_iff.mp hr
      refine Ev.priv (y := M_victim) (args := [.int x2]) (rest := []) (gok hw) rfl nm_victim (ww hw 163 rfl) (ww hw 164 rfl) (ww hw 165 rfl) (ww hw 166 rfl) (lenOf pd_victim rfl) (d4 26 rfl) (V.2.1 s) (e_victim hw V hq3) (by decide) (Nat.le_of_ble_eq_true rfl) rfl ?_
      refine Ev.istD (L' := [.val (.ref o), .val (.int x1), .val (.int x2), y3, .val (.int x4), .val (.int q2)]) (d4 27 rfl) rfl hy5 rfl ?_
      refine Ev.iload (d4 28 rfl) rfl ?_
      refine Ev.ifge (t := 53) (d4 29 rfl) rfl (fun c4 => ?_) (fun c4 => ?_)
      · replace hr := (if_pos c4).symm.trans hr
        refine Ev.iconst (z := -1) (d4 30 rfl) rfl ?_
        cases hr
        exact Ev.ireturn rfl (d4 31 rfl)
      · replace hr := (if_neg c4).symm.trans hr
        refine Ev.aloadN (d4 32 rfl) rfl ?_
        refine Ev.iload (d4 33 rfl) rfl ?_
        obtain ⟨q5, hq6, hr⟩ := Option.bind_eq_some_iff.mp hr
        refine Ev.priv (y := M_purge) (args := [.int q2]) (rest := []) (gok hw) rfl nm_purge (ww hw 167 rfl) (ww hw 168 rfl) (ww hw 169 rfl) (ww hw 170 rfl) (lenOf pd_purge rfl) (d4 34 rfl) (V.2.1 s) (e_purge hw V hq6) (by decide) (Nat.le_of_ble_eq_true rfl) rfl ?_
        refine Ev.aloadN (d4 35 rfl) rfl ?_
        refine Ev.iloadN (d4 36 rfl) rfl ?_
        obtain ⟨q7, hq8, hr⟩ := Option.bind_eq_some_iff.mp hr
        refine Ev.priv (y := M_compactRun) (args := [.int x2]) (rest := []) (gok hw) rfl nm_compactRun (ww hw 108 rfl) (ww hw 109 rfl) (ww hw 110 rfl) (ww hw 111 rfl) (lenOf pd_compactRun rfl) (d4 37 rfl) (V.2.1 q5) (e_compactRun hw V hq8) (by decide) (Nat.le_of_ble_eq_true rfl) rfl ?_
        refine Ev.aloadN (d4 38 rfl) rfl ?_
        refine Ev.iloadN (d4 39 rfl) rfl ?_
        obtain ⟨q9, hq10, hr⟩ := Option.bind_eq_some_iff.mp hr
        refine Ev.priv (y := M_fit) (args := [.int x1]) (rest := []) (gok hw) rfl nm_fit (ww hw 48 rfl) (ww hw 49 rfl) (ww hw 50 rfl) (ww hw 51 rfl) (lenOf pd_fit rfl) (d4 40 rfl) (V.2.1 q7) (e_fit hw V hq10) (by decide) (Nat.le_of_ble_eq_true rfl) rfl ?_
        refine Ev.istDN (L' := [.val (.ref o), .val (.int x1), .val (.int x2), .val (.int q9.1), .val (.int x4), .val (.int q2)]) (d4 41 rfl) rfl hy3 rfl ?_
        refine Ev.iloadN (d4 42 rfl) rfl ?_
        refine Ev.iflt (t := 76) (d4 43 rfl) rfl (fun c11 => ?_) (fun c11 => ?_)
        · replace hr := (if_pos c11).symm.trans hr
          refine Ev.iinc (z := 1) (L' := [.val (.ref o), .val (.int x1), .val (.int x2), .val (.int q9.1), .val (.int (x4 + (1 : Int32))), .val (.int q2)]) (d4 46 rfl) rfl rfl rfl ?_
          refine Ev.goto (t := 32) (d4 47 rfl) rfl ?_
          exact ih x1 x2 (x4 + (1 : Int32)) q9.2 (.val (.int q9.1)) rfl (.val (.int q2)) rfl _ hr
        · replace hr := (if_neg c11).symm.trans hr
          refine Ev.iloadN (d4 44 rfl) rfl ?_
          cases hr
          exact Ev.ireturn rfl (d4 45 rfl)
def f_alloc (n : Nat) (a0 : Int32) (a1 : Int32) (s : St) : Option (Int32 × St) :=
  (f_fit n a0 s).bind fun q1 =>
  if q1.1 < 0 then
    (f_compactRun n a1 q1.2).bind fun q4 =>
    (f_fit n a0 q4).bind fun q6 =>
    if q6.1 < 0 then
      f_alloc_32 n n a0 a1 (0 : Int32) q6.2
    else
      some (q6.1, q6.2)
  else
    some (q1.1, q1.2)
set_option maxRecDepth 100000 in
theorem e_alloc {g : GT} {n : Nat} {a0 : Int32} {a1 : Int32} {s : St} {w : Int32 × St} (hw : HW g) {K : St → MHeap} {o : Nat} {r : Nat → Nat} (V : View (GG g) Ln K o r) (hr : f_alloc n a0 a1 s = some w) : EvC (GG g) M_alloc [.ref o, .int a0, .int a1] (K s) ((some (.int w.1)), (K w.2)) := by
  refine EvC.enter (L0 := [.val (.ref o), .val (.int a0), .val (.int a1), .unset, .unset, .unset]) pl_alloc (fun h => nomatch h) rfl rfl ?_
  unfold f_alloc at hr
  refine Ev.aloadN (d4 0 rfl) rfl ?_
  refine Ev.iloadN (d4 1 rfl) rfl ?_
  obtain ⟨q1, hq2, hr⟩ := Option.bind_eq_some_iff.mp hr
  refine Ev.priv (y := M_fit) (args := [.int a0]) (rest := []) (gok hw) rfl nm_fit (ww hw 48 rfl) (ww hw 49 rfl) (ww hw 50 rfl) (ww hw 51 rfl) (lenOf pd_fit rfl) (d4 2 rfl) (V.2.1 s) (e_fit hw V hq2) (by decide) (Nat.le_of_ble_eq_true rfl) rfl ?_
  refine Ev.istDN (L' := [.val (.ref o), .val (.int a0), .val (.int a1), .val (.int q1.1), .unset, .unset]) (d4 3 rfl) rfl rfl rfl ?_
  refine Ev.iloadN (d4 4 rfl) rfl ?_
  refine Ev.iflt (t := 12) (d4 5 rfl) rfl (fun c3 => ?_) (fun c3 => ?_)
  · replace hr := (if_pos c3).symm.trans hr
    refine Ev.aloadN (d4 8 rfl) rfl ?_
    refine Ev.iloadN (d4 9 rfl) rfl ?_
    obtain ⟨q4, hq5, hr⟩ := Option.bind_eq_some_iff.mp hr
    refine Ev.priv (y := M_compactRun) (args := [.int a1]) (rest := []) (gok hw) rfl nm_compactRun (ww hw 108 rfl) (ww hw 109 rfl) (ww hw 110 rfl) (ww hw 111 rfl) (lenOf pd_compactRun rfl) (d4 10 rfl) (V.2.1 q1.2) (e_compactRun hw V hq5) (by decide) (Nat.le_of_ble_eq_true rfl) rfl ?_
    refine Ev.aloadN (d4 11 rfl) rfl ?_
    refine Ev.iloadN (d4 12 rfl) rfl ?_
    obtain ⟨q6, hq7, hr⟩ := Option.bind_eq_some_iff.mp hr
    refine Ev.priv (y := M_fit) (args := [.int a0]) (rest := []) (gok hw) rfl nm_fit (ww hw 48 rfl) (ww hw 49 rfl) (ww hw 50 rfl) (ww hw 51 rfl) (lenOf pd_fit rfl) (d4 13 rfl) (V.2.1 q4) (e_fit hw V hq7) (by decide) (Nat.le_of_ble_eq_true rfl) rfl ?_
    refine Ev.istDN (L' := [.val (.ref o), .val (.int a0), .val (.int a1), .val (.int q6.1), .unset, .unset]) (d4 14 rfl) rfl rfl rfl ?_
    refine Ev.iloadN (d4 15 rfl) rfl ?_
    refine Ev.iflt (t := 29) (d4 16 rfl) rfl (fun c8 => ?_) (fun c8 => ?_)
    · replace hr := (if_pos c8).symm.trans hr
      refine Ev.iconst (z := 0) (d4 19 rfl) rfl ?_
      refine Ev.istD (L' := [.val (.ref o), .val (.int a0), .val (.int a1), .val (.int q6.1), .val (.int (0 : Int32)), .unset]) (d4 20 rfl) rfl rfl rfl ?_
      exact e_alloc_32 hw V  n a0 a1 (0 : Int32) q6.2 (.val (.int q6.1)) rfl .unset rfl _ hr
    · replace hr := (if_neg c8).symm.trans hr
      refine Ev.iloadN (d4 17 rfl) rfl ?_
      cases hr
      exact Ev.ireturn rfl (d4 18 rfl)
  · replace hr := (if_neg c3).symm.trans hr
    refine Ev.iloadN (d4 6 rfl) rfl ?_
    cases hr
    exact Ev.ireturn rfl (d4 7 rfl)
def f_zeroWords_2 (n : Nat) : Nat → Int32 → Int32 → Int32 → St → Option (St)
  | 0 => fun _ _ _ _ => none
  | k + 1 => fun x1 x2 x3 s =>
    if x3 < x2 then
      if (x1 + x3) < 0 then
        f_zeroWords_2 n k x1 x2 (x3 + (1 : Int32)) s
      else
        if (x1 + x3) < (256 : Int32) then
          grd (inb (x1 + x3) 256) <|
          bnd (setA s 0 (ix (x1 + x3)) (0 : Int32)) fun s5 =>
          f_zeroWords_2 n k x1 x2 (x3 + (1 : Int32)) s5
        else
          f_zeroWords_2 n k x1 x2 (x3 + (1 : Int32)) s
    else
      some s
set_option maxRecDepth 100000 in
theorem e_zeroWords_2 {g : GT} {n : Nat} (hw : HW g) {K : St → MHeap} {o : Nat} {r : Nat → Nat} (V : View (GG g) Ln K o r) (k : Nat) : ∀ (x1 : Int32) (x2 : Int32) (x3 : Int32) (s : St) (y4 : Slot) (hy4 : one1 y4 = true) (w : St), f_zeroWords_2 n k x1 x2 x3 s = some w → Ev (GG g) M_zeroWords 2 [.val (.ref o), .val (.int x1), .val (.int x2), .val (.int x3), y4] [] (K s) (none, (K w)) := by
  induction k with
  | zero => intro x1 x2 x3 s y4 hy4 w hr; rw [f_zeroWords_2] at hr; cases hr
  | succ k ih =>
    intro x1 x2 x3 s y4 hy4 w hr
    rw [f_zeroWords_2] at hr
    refine Ev.iloadN (d10 2 rfl) rfl ?_
    refine Ev.iloadN (d10 3 rfl) rfl ?_
    refine Ev.icge (t := 39) (d10 4 rfl) rfl (fun c1 => ?_) (fun c1 => ?_)
    · replace hr := (if_pos c1).symm.trans hr
      refine Ev.iloadN (d10 5 rfl) rfl ?_
      refine Ev.iloadN (d10 6 rfl) rfl ?_
      refine Ev.iadd (d10 7 rfl) ?_
      refine Ev.istD (L' := [.val (.ref o), .val (.int x1), .val (.int x2), .val (.int x3), .val (.int (x1 + x3))]) (d10 8 rfl) rfl hy4 rfl ?_
      refine Ev.iload (d10 9 rfl) rfl ?_
      refine Ev.iflt (t := 33) (d10 10 rfl) rfl (fun c2 => ?_) (fun c2 => ?_)
      · replace hr := (if_pos c2).symm.trans hr
        refine Ev.iinc (z := 1) (L' := [.val (.ref o), .val (.int x1), .val (.int x2), .val (.int (x3 + (1 : Int32))), .val (.int (x1 + x3))]) (d10 19 rfl) rfl rfl rfl ?_
        refine Ev.goto (t := 2) (d10 20 rfl) rfl ?_
        exact ih x1 x2 (x3 + (1 : Int32)) s (.val (.int (x1 + x3))) rfl _ hr
      · replace hr := (if_neg c2).symm.trans hr
        refine Ev.iload (d10 11 rfl) rfl ?_
        refine Ev.sipush (z := 256) (d10 12 rfl) rfl ?_
        refine Ev.icge (t := 33) (d10 13 rfl) rfl (fun c3 => ?_) (fun c3 => ?_)
        · replace hr := (if_pos c3).symm.trans hr
          refine Ev.aloadN (d10 14 rfl) rfl ?_
          refine Ev.gAr V (ww hw 10 rfl) (d10 15 rfl) (j := 0) rfl ?_
          refine Ev.iload (d10 16 rfl) rfl ?_
          refine Ev.iconst (z := 0) (d10 17 rfl) rfl ?_
          obtain ⟨b4, hr⟩ := grd_some hr
          refine Ev.ias V (j := 0) rfl rfl (d10 18 rfl) b4 ?_
          revert hr
          generalize setA s 0 (ix (x1 + x3)) (0 : Int32) = s5
          intro hr
          replace hr := (bnd_eq _ _).symm.trans hr
          refine Ev.iinc (z := 1) (L' := [.val (.ref o), .val (.int x1), .val (.int x2), .val (.int (x3 + (1 : Int32))), .val (.int (x1 + x3))]) (d10 19 rfl) rfl rfl rfl ?_
          refine Ev.goto (t := 2) (d10 20 rfl) rfl ?_
          exact ih x1 x2 (x3 + (1 : Int32)) s5 (.val (.int (x1 + x3))) rfl _ hr
        · replace hr := (if_neg c3).symm.trans hr
          refine Ev.iinc (z := 1) (L' := [.val (.ref o), .val (.int x1), .val (.int x2), .val (.int (x3 + (1 : Int32))), .val (.int (x1 + x3))]) (d10 19 rfl) rfl rfl rfl ?_
          refine Ev.goto (t := 2) (d10 20 rfl) rfl ?_
          exact ih x1 x2 (x3 + (1 : Int32)) s (.val (.int (x1 + x3))) rfl _ hr
    · replace hr := (if_neg c1).symm.trans hr
      cases hr
      exact Ev.vreturn rfl (d10 21 rfl)
def f_zeroWords (n : Nat) (a0 : Int32) (a1 : Int32) (s : St) : Option (St) :=
  f_zeroWords_2 n n a0 a1 (0 : Int32) s
set_option maxRecDepth 100000 in
theorem e_zeroWords {g : GT} {n : Nat} {a0 : Int32} {a1 : Int32} {s : St} {w : St} (hw : HW g) {K : St → MHeap} {o : Nat} {r : Nat → Nat} (V : View (GG g) Ln K o r) (hr : f_zeroWords n a0 a1 s = some w) : EvC (GG g) M_zeroWords [.ref o, .int a0, .int a1] (K s) (none, (K w)) := by
  refine EvC.enter (L0 := [.val (.ref o), .val (.int a0), .val (.int a1), .unset, .unset]) pl_zeroWords (fun _ => rfl) rfl rfl ?_
  unfold f_zeroWords at hr
  refine Ev.iconst (z := 0) (d10 0 rfl) rfl ?_
  refine Ev.istDN (L' := [.val (.ref o), .val (.int a0), .val (.int a1), .val (.int (0 : Int32)), .unset]) (d10 1 rfl) rfl rfl rfl ?_
  exact e_zeroWords_2 hw V  n a0 a1 (0 : Int32) s .unset rfl _ hr
def f_touch (a0 : Int32) (s : St) : Option (St) :=
  bnd (setI s 11 ((s.1 11) + (1 : Int32))) fun s1 =>
  grd (inb a0 32) <|
  bnd (setA s1 5 (ix a0) (s1.1 11)) fun s3 =>
  some s3
set_option maxRecDepth 100000 in
theorem e_touch {g : GT} {a0 : Int32} {s : St} {w : St} (hw : HW g) {K : St → MHeap} {o : Nat} {r : Nat → Nat} (V : View (GG g) Ln K o r) (hr : f_touch a0 s = some w) : EvC (GG g) M_touch [.ref o, .int a0] (K s) (none, (K w)) := by
  refine EvC.enter (L0 := [.val (.ref o), .val (.int a0)]) pl_touch (fun _ => rfl) rfl rfl ?_
  unfold f_touch at hr
  refine Ev.aloadN (d11 0 rfl) rfl ?_
  refine Ev.aloadN (d11 1 rfl) rfl ?_
  refine Ev.gI V (ww hw 33 rfl) (d11 2 rfl) (j := 11) rfl rfl ?_
  refine Ev.iconst (z := 1) (d11 3 rfl) rfl ?_
  refine Ev.iadd (d11 4 rfl) ?_
  refine Ev.pI V (gok hw) (ww hw 33 rfl) (Or.inl (ww hw 34 rfl)) (d11 5 rfl) (j := 11) rfl ?_
  revert hr
  generalize setI s 11 ((s.1 11) + (1 : Int32)) = s1
  intro hr
  replace hr := (bnd_eq _ _).symm.trans hr
  refine Ev.aloadN (d11 6 rfl) rfl ?_
  refine Ev.gAr V (ww hw 21 rfl) (d11 7 rfl) (j := 5) rfl ?_
  refine Ev.iloadN (d11 8 rfl) rfl ?_
  refine Ev.aloadN (d11 9 rfl) rfl ?_
  refine Ev.gI V (ww hw 33 rfl) (d11 10 rfl) (j := 11) rfl rfl ?_
  obtain ⟨b2, hr⟩ := grd_some hr
  refine Ev.ias V (j := 5) rfl rfl (d11 11 rfl) b2 ?_
  revert hr
  generalize setA s1 5 (ix a0) (s1.1 11) = s3
  intro hr
  replace hr := (bnd_eq _ _).symm.trans hr
  cases hr
  exact Ev.vreturn rfl (d11 12 rfl)
def f_establish (n : Nat) (a0 : Int32) (a1 : Int32) (a2 : Int32) (s : St) : Option (St) :=
  grd (inb a0 32) <|
  bnd (setA s 2 (ix a0) (1 : Int32)) fun s2 =>
  bnd (setA s2 3 (ix a0) a1) fun s3 =>
  bnd (setA s3 4 (ix a0) a2) fun s4 =>
  bnd (setA s4 7 (ix a0) ((0 : Int32) &&& 1)) fun s5 =>
  bnd (setA s5 8 (ix a0) ((0 : Int32) &&& 1)) fun s6 =>
  (f_zeroWords n a1 a2 s6).bind fun q7 =>
  (f_touch a0 q7).bind fun q9 =>
  some q9
set_option maxRecDepth 100000 in
theorem e_establish {g : GT} {n : Nat} {a0 : Int32} {a1 : Int32} {a2 : Int32} {s : St} {w : St} (hw : HW g) {K : St → MHeap} {o : Nat} {r : Nat → Nat} (V : View (GG g) Ln K o r) (hr : f_establish n a0 a1 a2 s = some w) : EvC (GG g) M_establish [.ref o, .int a0, .int a1, .int a2] (K s) (none, (K w)) := by
  refine EvC.enter (L0 := [.val (.ref o), .val (.int a0), .val (.int a1), .val (.int a2)]) pl_establish (fun _ => rfl) rfl rfl ?_
  unfold f_establish at hr
  refine Ev.aloadN (d9 0 rfl) rfl ?_
  refine Ev.gAr V (ww hw 15 rfl) (d9 1 rfl) (j := 2) rfl ?_
  refine Ev.iloadN (d9 2 rfl) rfl ?_
  refine Ev.iconst (z := 1) (d9 3 rfl) rfl ?_
  obtain ⟨b1, hr⟩ := grd_some hr
  refine Ev.ias V (j := 2) rfl rfl (d9 4 rfl) b1 ?_
  revert hr
  generalize setA s 2 (ix a0) (1 : Int32) = s2
  intro hr
  replace hr := (bnd_eq _ _).symm.trans hr
  refine Ev.aloadN (d9 5 rfl) rfl ?_
  refine Ev.gAr V (ww hw 17 rfl) (d9 6 rfl) (j := 3) rfl ?_
  refine Ev.iloadN (d9 7 rfl) rfl ?_
  refine Ev.iloadN (d9 8 rfl) rfl ?_
  refine Ev.ias V (j := 3) rfl rfl (d9 9 rfl) b1 ?_
  revert hr
  generalize setA s2 3 (ix a0) a1 = s3
  intro hr
  replace hr := (bnd_eq _ _).symm.trans hr
  refine Ev.aloadN (d9 10 rfl) rfl ?_
  refine Ev.gAr V (ww hw 19 rfl) (d9 11 rfl) (j := 4) rfl ?_
  refine Ev.iloadN (d9 12 rfl) rfl ?_
  refine Ev.iloadN (d9 13 rfl) rfl ?_
  refine Ev.ias V (j := 4) rfl rfl (d9 14 rfl) b1 ?_
  revert hr
  generalize setA s3 4 (ix a0) a2 = s4
  intro hr
  replace hr := (bnd_eq _ _).symm.trans hr
  refine Ev.aloadN (d9 15 rfl) rfl ?_
  refine Ev.gAr V (ww hw 25 rfl) (d9 16 rfl) (j := 7) rfl ?_
  refine Ev.iloadN (d9 17 rfl) rfl ?_
  refine Ev.iconst (z := 0) (d9 18 rfl) rfl ?_
  refine Ev.bas V (j := 7) rfl rfl (d9 19 rfl) b1 ?_
  revert hr
  generalize setA s4 7 (ix a0) ((0 : Int32) &&& 1) = s5
  intro hr
  replace hr := (bnd_eq _ _).symm.trans hr
  refine Ev.aloadN (d9 20 rfl) rfl ?_
  refine Ev.gAr V (ww hw 27 rfl) (d9 21 rfl) (j := 8) rfl ?_
  refine Ev.iloadN (d9 22 rfl) rfl ?_
  refine Ev.iconst (z := 0) (d9 23 rfl) rfl ?_
  refine Ev.bas V (j := 8) rfl rfl (d9 24 rfl) b1 ?_
  revert hr
  generalize setA s5 8 (ix a0) ((0 : Int32) &&& 1) = s6
  intro hr
  replace hr := (bnd_eq _ _).symm.trans hr
  refine Ev.aloadN (d9 25 rfl) rfl ?_
  refine Ev.iloadN (d9 26 rfl) rfl ?_
  refine Ev.iloadN (d9 27 rfl) rfl ?_
  obtain ⟨q7, hq8, hr⟩ := Option.bind_eq_some_iff.mp hr
  refine Ev.priv (y := M_zeroWords) (args := [.int a1, .int a2]) (rest := []) (gok hw) rfl nm_zeroWords (ww hw 68 rfl) (ww hw 69 rfl) (ww hw 70 rfl) (ww hw 71 rfl) (lenOf pd_zeroWords rfl) (d9 28 rfl) (V.2.1 s6) (e_zeroWords hw V hq8) (by decide) (Nat.le_of_ble_eq_true rfl) rfl ?_
  refine Ev.aloadN (d9 29 rfl) rfl ?_
  refine Ev.iloadN (d9 30 rfl) rfl ?_
  obtain ⟨q9, hq10, hr⟩ := Option.bind_eq_some_iff.mp hr
  refine Ev.priv (y := M_touch) (args := [.int a0]) (rest := []) (gok hw) rfl nm_touch (ww hw 72 rfl) (ww hw 73 rfl) (ww hw 74 rfl) (ww hw 75 rfl) (lenOf pd_touch rfl) (d9 31 rfl) (V.2.1 q7) (e_touch hw V hq10) (by decide) (Nat.le_of_ble_eq_true rfl) rfl ?_
  cases hr
  exact Ev.vreturn rfl (d9 32 rfl)
def f_newHandle_48 (n : Nat) (x1 : Int32) (x2 : Int32) (s : St) : Option (Int32 × St) :=
  if x2 < 0 then
    some ((-7 : Int32), s)
  else
    (f_alloc n x1 (-1 : Int32) s).bind fun q2 =>
    if q2.1 < 0 then
      some ((-6 : Int32), q2.2)
    else
      (f_establish n x2 q2.1 x1 q2.2).bind fun q5 =>
      some (x2, q5)
set_option maxRecDepth 100000 in
theorem e_newHandle_48 {g : GT} {n : Nat} (hw : HW g) {K : St → MHeap} {o : Nat} {r : Nat → Nat} (V : View (GG g) Ln K o r) (x1 : Int32) (x2 : Int32) (s : St) (y3 : Slot) (hy3 : one1 y3 = true) (w : Int32 × St) (hr : f_newHandle_48 n x1 x2 s = some w) : Ev (GG g) M_newHandle 48 [.val (.ref o), .val (.int x1), .val (.int x2), y3] [] (K s) ((some (.int w.1)), (K w.2)) := by
  unfold f_newHandle_48 at hr
  refine Ev.iloadN (d3 27 rfl) rfl ?_
  refine Ev.ifge (t := 55) (d3 28 rfl) rfl (fun c1 => ?_) (fun c1 => ?_)
  · replace hr := (if_pos c1).symm.trans hr
    refine Ev.bipush (z := -7) (d3 29 rfl) rfl ?_
    cases hr
    exact Ev.ireturn rfl (d3 30 rfl)
  · replace hr := (if_neg c1).symm.trans hr
    refine Ev.aloadN (d3 31 rfl) rfl ?_
    refine Ev.iloadN (d3 32 rfl) rfl ?_
    refine Ev.iconst (z := -1) (d3 33 rfl) rfl ?_
    obtain ⟨q2, hq3, hr⟩ := Option.bind_eq_some_iff.mp hr
    refine Ev.priv (y := M_alloc) (args := [.int x1, .int (-1 : Int32)]) (rest := []) (gok hw) rfl nm_alloc (ww hw 44 rfl) (ww hw 45 rfl) (ww hw 46 rfl) (ww hw 47 rfl) (lenOf pd_alloc rfl) (d3 34 rfl) (V.2.1 s) (e_alloc hw V hq3) (by decide) (Nat.le_of_ble_eq_true rfl) rfl ?_
    refine Ev.istDN (L' := [.val (.ref o), .val (.int x1), .val (.int x2), .val (.int q2.1)]) (d3 35 rfl) rfl hy3 rfl ?_
    refine Ev.iloadN (d3 36 rfl) rfl ?_
    refine Ev.ifge (t := 69) (d3 37 rfl) rfl (fun c4 => ?_) (fun c4 => ?_)
    · replace hr := (if_pos c4).symm.trans hr
      refine Ev.bipush (z := -6) (d3 38 rfl) rfl ?_
      cases hr
      exact Ev.ireturn rfl (d3 39 rfl)
    · replace hr := (if_neg c4).symm.trans hr
      refine Ev.aloadN (d3 40 rfl) rfl ?_
      refine Ev.iloadN (d3 41 rfl) rfl ?_
      refine Ev.iloadN (d3 42 rfl) rfl ?_
      refine Ev.iloadN (d3 43 rfl) rfl ?_
      obtain ⟨q5, hq6, hr⟩ := Option.bind_eq_some_iff.mp hr
      refine Ev.priv (y := M_establish) (args := [.int x2, .int q2.1, .int x1]) (rest := []) (gok hw) rfl nm_establish (ww hw 64 rfl) (ww hw 65 rfl) (ww hw 66 rfl) (ww hw 67 rfl) (lenOf pd_establish rfl) (d3 44 rfl) (V.2.1 q2.2) (e_establish hw V hq6) (by decide) (Nat.le_of_ble_eq_true rfl) rfl ?_
      refine Ev.iloadN (d3 45 rfl) rfl ?_
      cases hr
      exact Ev.ireturn rfl (d3 46 rfl)
def f_newHandle_20 (n : Nat) : Nat → Int32 → Int32 → Int32 → St → Option (Int32 × St)
  | 0 => fun _ _ _ _ => none
  | k + 1 => fun x1 x2 x3 s =>
    if x3 < (s.1 10) then
      grd (inb x3 32) <|
      if (s.2 2 (ix x3)) = 0 then
        f_newHandle_48 n x1 x3 s
      else
        f_newHandle_20 n k x1 x2 (x3 + (1 : Int32)) s
    else
      f_newHandle_48 n x1 x2 s
set_option maxRecDepth 100000 in
theorem e_newHandle_20 {g : GT} {n : Nat} (hw : HW g) {K : St → MHeap} {o : Nat} {r : Nat → Nat} (V : View (GG g) Ln K o r) (k : Nat) : ∀ (x1 : Int32) (x2 : Int32) (x3 : Int32) (s : St) (w : Int32 × St), f_newHandle_20 n k x1 x2 x3 s = some w → Ev (GG g) M_newHandle 20 [.val (.ref o), .val (.int x1), .val (.int x2), .val (.int x3)] [] (K s) ((some (.int w.1)), (K w.2)) := by
  induction k with
  | zero => intro x1 x2 x3 s w hr; rw [f_newHandle_20] at hr; cases hr
  | succ k ih =>
    intro x1 x2 x3 s w hr
    rw [f_newHandle_20] at hr
    refine Ev.iloadN (d3 13 rfl) rfl ?_
    refine Ev.aloadN (d3 14 rfl) rfl ?_
    refine Ev.gI V (ww hw 31 rfl) (d3 15 rfl) (j := 10) rfl rfl ?_
    refine Ev.icge (t := 48) (d3 16 rfl) rfl (fun c1 => ?_) (fun c1 => ?_)
    · replace hr := (if_pos c1).symm.trans hr
      refine Ev.aloadN (d3 17 rfl) rfl ?_
      refine Ev.gAr V (ww hw 15 rfl) (d3 18 rfl) (j := 2) rfl ?_
      refine Ev.iloadN (d3 19 rfl) rfl ?_
      obtain ⟨b2, hr⟩ := grd_some hr
      refine Ev.ial V (j := 2) rfl rfl (d3 20 rfl) b2 ?_
      refine Ev.ifne (t := 42) (d3 21 rfl) rfl (fun c3 => ?_) (fun c3 => ?_)
      · replace hr := (if_pos c3).symm.trans hr
        refine Ev.iloadN (d3 22 rfl) rfl ?_
        refine Ev.istDN (L' := [.val (.ref o), .val (.int x1), .val (.int x3), .val (.int x3)]) (d3 23 rfl) rfl rfl rfl ?_
        refine Ev.goto (t := 48) (d3 24 rfl) rfl ?_
        exact e_newHandle_48 hw V  x1 x3 s (.val (.int x3)) rfl _ hr
      · replace hr := (if_neg c3).symm.trans hr
        refine Ev.iinc (z := 1) (L' := [.val (.ref o), .val (.int x1), .val (.int x2), .val (.int (x3 + (1 : Int32)))]) (d3 25 rfl) rfl rfl rfl ?_
        refine Ev.goto (t := 20) (d3 26 rfl) rfl ?_
        exact ih x1 x2 (x3 + (1 : Int32)) s  _ hr
    · replace hr := (if_neg c1).symm.trans hr
      exact e_newHandle_48 hw V  x1 x2 s (.val (.int x3)) rfl _ hr
def f_newHandle (n : Nat) (a0 : Int32) (s : St) : Option (Int32 × St) :=
  if a0 < (1 : Int32) then
    some ((-2 : Int32), s)
  else
    if (s.1 9) < a0 then
      some ((-2 : Int32), s)
    else
      f_newHandle_20 n n a0 (-1 : Int32) (0 : Int32) s
set_option maxRecDepth 100000 in
theorem e_newHandle {g : GT} {n : Nat} {a0 : Int32} {s : St} {w : Int32 × St} (hw : HW g) {K : St → MHeap} {o : Nat} {r : Nat → Nat} (V : View (GG g) Ln K o r) (hr : f_newHandle n a0 s = some w) : EvC (GG g) M_newHandle [.ref o, .int a0] (K s) ((some (.int w.1)), (K w.2)) := by
  refine EvC.enter (L0 := [.val (.ref o), .val (.int a0), .unset, .unset]) pl_newHandle (fun h => nomatch h) rfl rfl ?_
  unfold f_newHandle at hr
  refine Ev.iloadN (d3 0 rfl) rfl ?_
  refine Ev.iconst (z := 1) (d3 1 rfl) rfl ?_
  refine Ev.iclt (t := 13) (d3 2 rfl) rfl (fun c1 => ?_) (fun c1 => ?_)
  · replace hr := (if_pos c1).symm.trans hr
    refine Ev.bipush (z := -2) (d3 7 rfl) rfl ?_
    cases hr
    exact Ev.ireturn rfl (d3 8 rfl)
  · replace hr := (if_neg c1).symm.trans hr
    refine Ev.iloadN (d3 3 rfl) rfl ?_
    refine Ev.aloadN (d3 4 rfl) rfl ?_
    refine Ev.gI V (ww hw 29 rfl) (d3 5 rfl) (j := 9) rfl rfl ?_
    refine Ev.icle (t := 16) (d3 6 rfl) rfl (fun c2 => ?_) (fun c2 => ?_)
    · replace hr := (if_pos c2).symm.trans hr
      refine Ev.bipush (z := -2) (d3 7 rfl) rfl ?_
      cases hr
      exact Ev.ireturn rfl (d3 8 rfl)
    · replace hr := (if_neg c2).symm.trans hr
      refine Ev.iconst (z := -1) (d3 9 rfl) rfl ?_
      refine Ev.istDN (L' := [.val (.ref o), .val (.int a0), .val (.int (-1 : Int32)), .unset]) (d3 10 rfl) rfl rfl rfl ?_
      refine Ev.iconst (z := 0) (d3 11 rfl) rfl ?_
      refine Ev.istDN (L' := [.val (.ref o), .val (.int a0), .val (.int (-1 : Int32)), .val (.int (0 : Int32))]) (d3 12 rfl) rfl rfl rfl ?_
      exact e_newHandle_20 hw V  n a0 (-1 : Int32) (0 : Int32) s  _ hr
def f_valid (s : St) (a0 : Int32) : Option (Int32) :=
  if a0 < 0 then
    some (0 : Int32)
  else
    if a0 < (s.1 10) then
      some (1 : Int32)
    else
      some (0 : Int32)
set_option maxRecDepth 100000 in
theorem e_valid {g : GT} {s : St} {a0 : Int32} {w : Int32} (hw : HW g) {K : St → MHeap} {o : Nat} {r : Nat → Nat} (V : View (GG g) Ln K o r) (hr : f_valid s a0 = some w) : EvC (GG g) M_valid [.ref o, .int a0] (K s) ((some (.int w)), (K s)) := by
  refine EvC.enter (L0 := [.val (.ref o), .val (.int a0)]) pl_valid (fun h => nomatch h) rfl rfl ?_
  unfold f_valid at hr
  refine Ev.iloadN (d15 0 rfl) rfl ?_
  refine Ev.iflt (t := 16) (d15 1 rfl) rfl (fun c1 => ?_) (fun c1 => ?_)
  · replace hr := (if_pos c1).symm.trans hr
    refine Ev.iconst (z := 0) (d15 8 rfl) rfl ?_
    cases hr
    exact Ev.zret0 rfl (d15 9 rfl)
  · replace hr := (if_neg c1).symm.trans hr
    refine Ev.iloadN (d15 2 rfl) rfl ?_
    refine Ev.aloadN (d15 3 rfl) rfl ?_
    refine Ev.gI V (ww hw 31 rfl) (d15 4 rfl) (j := 10) rfl rfl ?_
    refine Ev.icge (t := 16) (d15 5 rfl) rfl (fun c2 => ?_) (fun c2 => ?_)
    · replace hr := (if_pos c2).symm.trans hr
      refine Ev.iconst (z := 1) (d15 6 rfl) rfl ?_
      refine Ev.goto (t := 17) (d15 7 rfl) rfl ?_
      cases hr
      exact Ev.zret1 rfl (d15 9 rfl)
    · replace hr := (if_neg c2).symm.trans hr
      refine Ev.iconst (z := 0) (d15 8 rfl) rfl ?_
      cases hr
      exact Ev.zret0 rfl (d15 9 rfl)
def f_check (s : St) (a0 : Int32) : Option (Int32) :=
  (f_valid s a0).bind fun q1 =>
  if q1 = 0 then
    some (-1 : Int32)
  else
    grd (inb a0 32) <|
    if (s.2 2 (ix a0)) = 0 then
      some (-1 : Int32)
    else
      if (s.2 2 (ix a0)) = (2 : Int32) then
        some (-4 : Int32)
      else
        some (0 : Int32)
set_option maxRecDepth 100000 in
theorem e_check {g : GT} {s : St} {a0 : Int32} {w : Int32} (hw : HW g) {K : St → MHeap} {o : Nat} {r : Nat → Nat} (V : View (GG g) Ln K o r) (hr : f_check s a0 = some w) : EvC (GG g) M_check [.ref o, .int a0] (K s) ((some (.int w)), (K s)) := by
  refine EvC.enter (L0 := [.val (.ref o), .val (.int a0)]) pl_check (fun h => nomatch h) rfl rfl ?_
  unfold f_check at hr
  refine Ev.aloadN (d14 0 rfl) rfl ?_
  refine Ev.iloadN (d14 1 rfl) rfl ?_
  obtain ⟨q1, hq2, hr⟩ := Option.bind_eq_some_iff.mp hr
  refine Ev.priv (y := M_valid) (args := [.int a0]) (rest := []) (gok hw) rfl nm_valid (ww hw 89 rfl) (ww hw 90 rfl) (ww hw 91 rfl) (ww hw 92 rfl) (lenOf pd_valid rfl) (d14 2 rfl) (V.2.1 s) (e_valid hw V hq2) (by decide) (Nat.le_of_ble_eq_true rfl) rfl ?_
  refine Ev.ifeq (t := 17) (d14 3 rfl) rfl (fun c3 => ?_) (fun c3 => ?_)
  · replace hr := (if_pos c3).symm.trans hr
    refine Ev.iconst (z := -1) (d14 9 rfl) rfl ?_
    cases hr
    exact Ev.ireturn rfl (d14 10 rfl)
  · replace hr := (if_neg c3).symm.trans hr
    refine Ev.aloadN (d14 4 rfl) rfl ?_
    refine Ev.gAr V (ww hw 15 rfl) (d14 5 rfl) (j := 2) rfl ?_
    refine Ev.iloadN (d14 6 rfl) rfl ?_
    obtain ⟨b4, hr⟩ := grd_some hr
    refine Ev.ial V (j := 2) rfl rfl (d14 7 rfl) b4 ?_
    refine Ev.ifne (t := 19) (d14 8 rfl) rfl (fun c5 => ?_) (fun c5 => ?_)
    · replace hr := (if_pos c5).symm.trans hr
      refine Ev.iconst (z := -1) (d14 9 rfl) rfl ?_
      cases hr
      exact Ev.ireturn rfl (d14 10 rfl)
    · replace hr := (if_neg c5).symm.trans hr
      refine Ev.aloadN (d14 11 rfl) rfl ?_
      refine Ev.gAr V (ww hw 15 rfl) (d14 12 rfl) (j := 2) rfl ?_
      refine Ev.iloadN (d14 13 rfl) rfl ?_
      refine Ev.ial V (j := 2) rfl rfl (d14 14 rfl) b4 ?_
      refine Ev.iconst (z := 2) (d14 15 rfl) rfl ?_
      refine Ev.icne (t := 32) (d14 16 rfl) rfl (fun c6 => ?_) (fun c6 => ?_)
      · replace hr := (if_pos c6).symm.trans hr
        refine Ev.bipush (z := -4) (d14 17 rfl) rfl ?_
        cases hr
        exact Ev.ireturn rfl (d14 18 rfl)
      · replace hr := (if_neg c6).symm.trans hr
        refine Ev.iconst (z := 0) (d14 19 rfl) rfl ?_
        cases hr
        exact Ev.ireturn rfl (d14 20 rfl)
def f_write_63 (x1 : Int32) (s : St) : Option (Int32 × St) :=
  (f_touch x1 s).bind fun q1 =>
  some ((0 : Int32), q1)
set_option maxRecDepth 100000 in
theorem e_write_63 {g : GT} (hw : HW g) {K : St → MHeap} {o : Nat} {r : Nat → Nat} (V : View (GG g) Ln K o r) (x1 : Int32) (s : St) (y2 : Slot) (hy2 : one1 y2 = true) (y3 : Slot) (hy3 : one1 y3 = true) (y4 : Slot) (hy4 : one1 y4 = true) (y5 : Slot) (hy5 : one1 y5 = true) (w : Int32 × St) (hr : f_write_63 x1 s = some w) : Ev (GG g) M_write 63 [.val (.ref o), .val (.int x1), y2, y3, y4, y5] [] (K s) ((some (.int w.1)), (K w.2)) := by
  unfold f_write_63 at hr
  refine Ev.aloadN (d13 35 rfl) rfl ?_
  refine Ev.iloadN (d13 36 rfl) rfl ?_
  obtain ⟨q1, hq2, hr⟩ := Option.bind_eq_some_iff.mp hr
  refine Ev.priv (y := M_touch) (args := [.int x1]) (rest := []) (gok hw) rfl nm_touch (ww hw 72 rfl) (ww hw 73 rfl) (ww hw 74 rfl) (ww hw 75 rfl) (lenOf pd_touch rfl) (d13 37 rfl) (V.2.1 s) (e_touch hw V hq2) (by decide) (Nat.le_of_ble_eq_true rfl) rfl ?_
  refine Ev.iconst (z := 0) (d13 38 rfl) rfl ?_
  cases hr
  exact Ev.ireturn rfl (d13 39 rfl)
def f_write (a0 : Int32) (a1 : Int32) (a2 : Int32) (s : St) : Option (Int32 × St) :=
  (f_check s a0).bind fun q1 =>
  if q1 = 0 then
    if a1 < 0 then
      some ((-3 : Int32), s)
    else
      grd (inb a0 32) <|
      if a1 < (s.2 4 (ix a0)) then
        if ((s.2 3 (ix a0)) + a1) < 0 then
          f_write_63 a0 s
        else
          if ((s.2 3 (ix a0)) + a1) < (256 : Int32) then
            grd (inb ((s.2 3 (ix a0)) + a1) 256) <|
            bnd (setA s 0 (ix ((s.2 3 (ix a0)) + a1)) a2) fun s10 =>
            f_write_63 a0 s10
          else
            f_write_63 a0 s
      else
        some ((-3 : Int32), s)
  else
    some (q1, s)
set_option maxRecDepth 100000 in
theorem e_write {g : GT} {a0 : Int32} {a1 : Int32} {a2 : Int32} {s : St} {w : Int32 × St} (hw : HW g) {K : St → MHeap} {o : Nat} {r : Nat → Nat} (V : View (GG g) Ln K o r) (hr : f_write a0 a1 a2 s = some w) : EvC (GG g) M_write [.ref o, .int a0, .int a1, .int a2] (K s) ((some (.int w.1)), (K w.2)) := by
  refine EvC.enter (L0 := [.val (.ref o), .val (.int a0), .val (.int a1), .val (.int a2), .unset, .unset]) pl_write (fun h => nomatch h) rfl rfl ?_
  unfold f_write at hr
  refine Ev.aloadN (d13 0 rfl) rfl ?_
  refine Ev.iloadN (d13 1 rfl) rfl ?_
  obtain ⟨q1, hq2, hr⟩ := Option.bind_eq_some_iff.mp hr
  refine Ev.priv (y := M_check) (args := [.int a0]) (rest := []) (gok hw) rfl nm_check (ww hw 85 rfl) (ww hw 86 rfl) (ww hw 87 rfl) (ww hw 88 rfl) (lenOf pd_check rfl) (d13 2 rfl) (V.2.1 s) (e_check hw V hq2) (by decide) (Nat.le_of_ble_eq_true rfl) rfl ?_
  refine Ev.istD (L' := [.val (.ref o), .val (.int a0), .val (.int a1), .val (.int a2), .val (.int q1), .unset]) (d13 3 rfl) rfl rfl rfl ?_
  refine Ev.iload (d13 4 rfl) rfl ?_
  refine Ev.ifeq (t := 15) (d13 5 rfl) rfl (fun c3 => ?_) (fun c3 => ?_)
  · replace hr := (if_pos c3).symm.trans hr
    refine Ev.iloadN (d13 8 rfl) rfl ?_
    refine Ev.iflt (t := 29) (d13 9 rfl) rfl (fun c4 => ?_) (fun c4 => ?_)
    · replace hr := (if_pos c4).symm.trans hr
      refine Ev.bipush (z := -3) (d13 16 rfl) rfl ?_
      cases hr
      exact Ev.ireturn rfl (d13 17 rfl)
    · replace hr := (if_neg c4).symm.trans hr
      refine Ev.iloadN (d13 10 rfl) rfl ?_
      refine Ev.aloadN (d13 11 rfl) rfl ?_
      refine Ev.gAr V (ww hw 19 rfl) (d13 12 rfl) (j := 4) rfl ?_
      refine Ev.iloadN (d13 13 rfl) rfl ?_
      obtain ⟨b5, hr⟩ := grd_some hr
      refine Ev.ial V (j := 4) rfl rfl (d13 14 rfl) b5 ?_
      refine Ev.iclt (t := 32) (d13 15 rfl) rfl (fun c6 => ?_) (fun c6 => ?_)
      · replace hr := (if_pos c6).symm.trans hr
        refine Ev.aloadN (d13 18 rfl) rfl ?_
        refine Ev.gAr V (ww hw 17 rfl) (d13 19 rfl) (j := 3) rfl ?_
        refine Ev.iloadN (d13 20 rfl) rfl ?_
        refine Ev.ial V (j := 3) rfl rfl (d13 21 rfl) b5 ?_
        refine Ev.iloadN (d13 22 rfl) rfl ?_
        refine Ev.iadd (d13 23 rfl) ?_
        refine Ev.istD (L' := [.val (.ref o), .val (.int a0), .val (.int a1), .val (.int a2), .val (.int q1), .val (.int ((s.2 3 (ix a0)) + a1))]) (d13 24 rfl) rfl rfl rfl ?_
        refine Ev.iload (d13 25 rfl) rfl ?_
        refine Ev.iflt (t := 63) (d13 26 rfl) rfl (fun c7 => ?_) (fun c7 => ?_)
        · replace hr := (if_pos c7).symm.trans hr
          exact e_write_63 hw V  a0 s (.val (.int a1)) rfl (.val (.int a2)) rfl (.val (.int q1)) rfl (.val (.int ((s.2 3 (ix a0)) + a1))) rfl _ hr
        · replace hr := (if_neg c7).symm.trans hr
          refine Ev.iload (d13 27 rfl) rfl ?_
          refine Ev.sipush (z := 256) (d13 28 rfl) rfl ?_
          refine Ev.icge (t := 63) (d13 29 rfl) rfl (fun c8 => ?_) (fun c8 => ?_)
          · replace hr := (if_pos c8).symm.trans hr
            refine Ev.aloadN (d13 30 rfl) rfl ?_
            refine Ev.gAr V (ww hw 10 rfl) (d13 31 rfl) (j := 0) rfl ?_
            refine Ev.iload (d13 32 rfl) rfl ?_
            refine Ev.iloadN (d13 33 rfl) rfl ?_
            obtain ⟨b9, hr⟩ := grd_some hr
            refine Ev.ias V (j := 0) rfl rfl (d13 34 rfl) b9 ?_
            revert hr
            generalize setA s 0 (ix ((s.2 3 (ix a0)) + a1)) a2 = s10
            intro hr
            replace hr := (bnd_eq _ _).symm.trans hr
            exact e_write_63 hw V  a0 s10 (.val (.int a1)) rfl (.val (.int a2)) rfl (.val (.int q1)) rfl (.val (.int ((s.2 3 (ix a0)) + a1))) rfl _ hr
          · replace hr := (if_neg c8).symm.trans hr
            exact e_write_63 hw V  a0 s (.val (.int a1)) rfl (.val (.int a2)) rfl (.val (.int q1)) rfl (.val (.int ((s.2 3 (ix a0)) + a1))) rfl _ hr
      · replace hr := (if_neg c6).symm.trans hr
        refine Ev.bipush (z := -3) (d13 16 rfl) rfl ?_
        cases hr
        exact Ev.ireturn rfl (d13 17 rfl)
  · replace hr := (if_neg c3).symm.trans hr
    refine Ev.iload (d13 6 rfl) rfl ?_
    cases hr
    exact Ev.ireturn rfl (d13 7 rfl)
def f_setPurgeable (a0 : Int32) (a1 : Int32) (s : St) : Option (Int32 × St) :=
  (f_check s a0).bind fun q1 =>
  if q1 = 0 then
    grd (inb a0 32) <|
    bnd (setA s 8 (ix a0) (a1 &&& 1)) fun s5 =>
    some ((0 : Int32), s5)
  else
    some (q1, s)
set_option maxRecDepth 100000 in
theorem e_setPurgeable {g : GT} {a0 : Int32} {a1 : Int32} {s : St} {w : Int32 × St} (hw : HW g) {K : St → MHeap} {o : Nat} {r : Nat → Nat} (V : View (GG g) Ln K o r) (hr : f_setPurgeable a0 a1 s = some w) : EvC (GG g) M_setPurgeable [.ref o, .int a0, .int a1] (K s) ((some (.int w.1)), (K w.2)) := by
  refine EvC.enter (L0 := [.val (.ref o), .val (.int a0), .val (.int a1), .unset]) pl_setPurgeable (fun h => nomatch h) rfl rfl ?_
  unfold f_setPurgeable at hr
  refine Ev.aloadN (d16 0 rfl) rfl ?_
  refine Ev.iloadN (d16 1 rfl) rfl ?_
  obtain ⟨q1, hq2, hr⟩ := Option.bind_eq_some_iff.mp hr
  refine Ev.priv (y := M_check) (args := [.int a0]) (rest := []) (gok hw) rfl nm_check (ww hw 85 rfl) (ww hw 86 rfl) (ww hw 87 rfl) (ww hw 88 rfl) (lenOf pd_check rfl) (d16 2 rfl) (V.2.1 s) (e_check hw V hq2) (by decide) (Nat.le_of_ble_eq_true rfl) rfl ?_
  refine Ev.istDN (L' := [.val (.ref o), .val (.int a0), .val (.int a1), .val (.int q1)]) (d16 3 rfl) rfl rfl rfl ?_
  refine Ev.iloadN (d16 4 rfl) rfl ?_
  refine Ev.ifeq (t := 12) (d16 5 rfl) rfl (fun c3 => ?_) (fun c3 => ?_)
  · replace hr := (if_pos c3).symm.trans hr
    refine Ev.aloadN (d16 8 rfl) rfl ?_
    refine Ev.gAr V (ww hw 27 rfl) (d16 9 rfl) (j := 8) rfl ?_
    refine Ev.iloadN (d16 10 rfl) rfl ?_
    refine Ev.iloadN (d16 11 rfl) rfl ?_
    obtain ⟨b4, hr⟩ := grd_some hr
    refine Ev.bas V (j := 8) rfl rfl (d16 12 rfl) b4 ?_
    revert hr
    generalize setA s 8 (ix a0) (a1 &&& 1) = s5
    intro hr
    replace hr := (bnd_eq _ _).symm.trans hr
    refine Ev.iconst (z := 0) (d16 13 rfl) rfl ?_
    cases hr
    exact Ev.ireturn rfl (d16 14 rfl)
  · replace hr := (if_neg c3).symm.trans hr
    refine Ev.iloadN (d16 6 rfl) rfl ?_
    cases hr
    exact Ev.ireturn rfl (d16 7 rfl)
def f_lock (a0 : Int32) (s : St) : Option (Int32 × St) :=
  (f_check s a0).bind fun q1 =>
  if q1 = 0 then
    grd (inb a0 32) <|
    bnd (setA s 7 (ix a0) ((1 : Int32) &&& 1)) fun s5 =>
    some ((0 : Int32), s5)
  else
    some (q1, s)
set_option maxRecDepth 100000 in
theorem e_lock {g : GT} {a0 : Int32} {s : St} {w : Int32 × St} (hw : HW g) {K : St → MHeap} {o : Nat} {r : Nat → Nat} (V : View (GG g) Ln K o r) (hr : f_lock a0 s = some w) : EvC (GG g) M_lock [.ref o, .int a0] (K s) ((some (.int w.1)), (K w.2)) := by
  refine EvC.enter (L0 := [.val (.ref o), .val (.int a0), .unset]) pl_lock (fun h => nomatch h) rfl rfl ?_
  unfold f_lock at hr
  refine Ev.aloadN (d30 0 rfl) rfl ?_
  refine Ev.iloadN (d30 1 rfl) rfl ?_
  obtain ⟨q1, hq2, hr⟩ := Option.bind_eq_some_iff.mp hr
  refine Ev.priv (y := M_check) (args := [.int a0]) (rest := []) (gok hw) rfl nm_check (ww hw 85 rfl) (ww hw 86 rfl) (ww hw 87 rfl) (ww hw 88 rfl) (lenOf pd_check rfl) (d30 2 rfl) (V.2.1 s) (e_check hw V hq2) (by decide) (Nat.le_of_ble_eq_true rfl) rfl ?_
  refine Ev.istDN (L' := [.val (.ref o), .val (.int a0), .val (.int q1)]) (d30 3 rfl) rfl rfl rfl ?_
  refine Ev.iloadN (d30 4 rfl) rfl ?_
  refine Ev.ifeq (t := 12) (d30 5 rfl) rfl (fun c3 => ?_) (fun c3 => ?_)
  · replace hr := (if_pos c3).symm.trans hr
    refine Ev.aloadN (d30 8 rfl) rfl ?_
    refine Ev.gAr V (ww hw 25 rfl) (d30 9 rfl) (j := 7) rfl ?_
    refine Ev.iloadN (d30 10 rfl) rfl ?_
    refine Ev.iconst (z := 1) (d30 11 rfl) rfl ?_
    obtain ⟨b4, hr⟩ := grd_some hr
    refine Ev.bas V (j := 7) rfl rfl (d30 12 rfl) b4 ?_
    revert hr
    generalize setA s 7 (ix a0) ((1 : Int32) &&& 1) = s5
    intro hr
    replace hr := (bnd_eq _ _).symm.trans hr
    refine Ev.iconst (z := 0) (d30 13 rfl) rfl ?_
    cases hr
    exact Ev.ireturn rfl (d30 14 rfl)
  · replace hr := (if_neg c3).symm.trans hr
    refine Ev.iloadN (d30 6 rfl) rfl ?_
    cases hr
    exact Ev.ireturn rfl (d30 7 rfl)
def f_dispose (a0 : Int32) (s : St) : Option (Int32 × St) :=
  (f_valid s a0).bind fun q1 =>
  if q1 = 0 then
    some ((-1 : Int32), s)
  else
    grd (inb a0 32) <|
    if (s.2 2 (ix a0)) = 0 then
      some ((-1 : Int32), s)
    else
      (f_clearHandle a0 s).bind fun q6 =>
      some ((0 : Int32), q6)
set_option maxRecDepth 100000 in
theorem e_dispose {g : GT} {a0 : Int32} {s : St} {w : Int32 × St} (hw : HW g) {K : St → MHeap} {o : Nat} {r : Nat → Nat} (V : View (GG g) Ln K o r) (hr : f_dispose a0 s = some w) : EvC (GG g) M_dispose [.ref o, .int a0] (K s) ((some (.int w.1)), (K w.2)) := by
  refine EvC.enter (L0 := [.val (.ref o), .val (.int a0)]) pl_dispose (fun h => nomatch h) rfl rfl ?_
  unfold f_dispose at hr
  refine Ev.aloadN (d17 0 rfl) rfl ?_
  refine Ev.iloadN (d17 1 rfl) rfl ?_
  obtain ⟨q1, hq2, hr⟩ := Option.bind_eq_some_iff.mp hr
  refine Ev.priv (y := M_valid) (args := [.int a0]) (rest := []) (gok hw) rfl nm_valid (ww hw 89 rfl) (ww hw 90 rfl) (ww hw 91 rfl) (ww hw 92 rfl) (lenOf pd_valid rfl) (d17 2 rfl) (V.2.1 s) (e_valid hw V hq2) (by decide) (Nat.le_of_ble_eq_true rfl) rfl ?_
  refine Ev.ifeq (t := 17) (d17 3 rfl) rfl (fun c3 => ?_) (fun c3 => ?_)
  · replace hr := (if_pos c3).symm.trans hr
    refine Ev.iconst (z := -1) (d17 9 rfl) rfl ?_
    cases hr
    exact Ev.ireturn rfl (d17 10 rfl)
  · replace hr := (if_neg c3).symm.trans hr
    refine Ev.aloadN (d17 4 rfl) rfl ?_
    refine Ev.gAr V (ww hw 15 rfl) (d17 5 rfl) (j := 2) rfl ?_
    refine Ev.iloadN (d17 6 rfl) rfl ?_
    obtain ⟨b4, hr⟩ := grd_some hr
    refine Ev.ial V (j := 2) rfl rfl (d17 7 rfl) b4 ?_
    refine Ev.ifne (t := 19) (d17 8 rfl) rfl (fun c5 => ?_) (fun c5 => ?_)
    · replace hr := (if_pos c5).symm.trans hr
      refine Ev.iconst (z := -1) (d17 9 rfl) rfl ?_
      cases hr
      exact Ev.ireturn rfl (d17 10 rfl)
    · replace hr := (if_neg c5).symm.trans hr
      refine Ev.aloadN (d17 11 rfl) rfl ?_
      refine Ev.iloadN (d17 12 rfl) rfl ?_
      obtain ⟨q6, hq7, hr⟩ := Option.bind_eq_some_iff.mp hr
      refine Ev.priv (y := M_clearHandle) (args := [.int a0]) (rest := []) (gok hw) rfl nm_clearHandle (ww hw 35 rfl) (ww hw 36 rfl) (ww hw 37 rfl) (ww hw 38 rfl) (lenOf pd_clearHandle rfl) (d17 13 rfl) (V.2.1 s) (e_clearHandle hw V hq7) (by decide) (Nat.le_of_ble_eq_true rfl) rfl ?_
      refine Ev.iconst (z := 0) (d17 14 rfl) rfl ?_
      cases hr
      exact Ev.ireturn rfl (d17 15 rfl)
def f_largestFree_10 (n : Nat) : Nat → Int32 → Int32 → Int32 → St → Option (Int32 × St)
  | 0 => fun _ _ _ _ => none
  | k + 1 => fun x1 x2 x3 s =>
    if x3 < (s.1 9) then
      grd (inb x3 256) <|
      if (s.2 1 (ix x3)) = 0 then
        if x1 < (x2 + (1 : Int32)) then
          f_largestFree_10 n k (x2 + (1 : Int32)) (x2 + (1 : Int32)) (x3 + (1 : Int32)) s
        else
          f_largestFree_10 n k x1 (x2 + (1 : Int32)) (x3 + (1 : Int32)) s
      else
        f_largestFree_10 n k x1 (0 : Int32) (x3 + (1 : Int32)) s
    else
      some (x1, s)
set_option maxRecDepth 100000 in
theorem e_largestFree_10 {g : GT} {n : Nat} (hw : HW g) {K : St → MHeap} {o : Nat} {r : Nat → Nat} (V : View (GG g) Ln K o r) (k : Nat) : ∀ (x1 : Int32) (x2 : Int32) (x3 : Int32) (s : St) (w : Int32 × St), f_largestFree_10 n k x1 x2 x3 s = some w → Ev (GG g) M_largestFree 10 [.val (.ref o), .val (.int x1), .val (.int x2), .val (.int x3)] [] (K s) ((some (.int w.1)), (K w.2)) := by
  induction k with
  | zero => intro x1 x2 x3 s w hr; rw [f_largestFree_10] at hr; cases hr
  | succ k ih =>
    intro x1 x2 x3 s w hr
    rw [f_largestFree_10] at hr
    refine Ev.iloadN (d18 8 rfl) rfl ?_
    refine Ev.aloadN (d18 9 rfl) rfl ?_
    refine Ev.gI V (ww hw 29 rfl) (d18 10 rfl) (j := 9) rfl rfl ?_
    refine Ev.icge (t := 48) (d18 11 rfl) rfl (fun c1 => ?_) (fun c1 => ?_)
    · replace hr := (if_pos c1).symm.trans hr
      refine Ev.aloadN (d18 12 rfl) rfl ?_
      refine Ev.gAr V (ww hw 13 rfl) (d18 13 rfl) (j := 1) rfl ?_
      refine Ev.iloadN (d18 14 rfl) rfl ?_
      obtain ⟨b2, hr⟩ := grd_some hr
      refine Ev.bal V (j := 1) rfl rfl (d18 15 rfl) b2 ?_
      refine Ev.ifeq (t := 32) (d18 16 rfl) rfl (fun c3 => ?_) (fun c3 => ?_)
      · replace hr := (if_pos c3).symm.trans hr
        refine Ev.iinc (z := 1) (L' := [.val (.ref o), .val (.int x1), .val (.int (x2 + (1 : Int32))), .val (.int x3)]) (d18 20 rfl) rfl rfl rfl ?_
        refine Ev.iloadN (d18 21 rfl) rfl ?_
        refine Ev.iloadN (d18 22 rfl) rfl ?_
        refine Ev.icle (t := 42) (d18 23 rfl) rfl (fun c4 => ?_) (fun c4 => ?_)
        · replace hr := (if_pos c4).symm.trans hr
          refine Ev.iloadN (d18 24 rfl) rfl ?_
          refine Ev.istDN (L' := [.val (.ref o), .val (.int (x2 + (1 : Int32))), .val (.int (x2 + (1 : Int32))), .val (.int x3)]) (d18 25 rfl) rfl rfl rfl ?_
          refine Ev.iinc (z := 1) (L' := [.val (.ref o), .val (.int (x2 + (1 : Int32))), .val (.int (x2 + (1 : Int32))), .val (.int (x3 + (1 : Int32)))]) (d18 26 rfl) rfl rfl rfl ?_
          refine Ev.goto (t := 10) (d18 27 rfl) rfl ?_
          exact ih (x2 + (1 : Int32)) (x2 + (1 : Int32)) (x3 + (1 : Int32)) s  _ hr
        · replace hr := (if_neg c4).symm.trans hr
          refine Ev.iinc (z := 1) (L' := [.val (.ref o), .val (.int x1), .val (.int (x2 + (1 : Int32))), .val (.int (x3 + (1 : Int32)))]) (d18 26 rfl) rfl rfl rfl ?_
          refine Ev.goto (t := 10) (d18 27 rfl) rfl ?_
          exact ih x1 (x2 + (1 : Int32)) (x3 + (1 : Int32)) s  _ hr
      · replace hr := (if_neg c3).symm.trans hr
        refine Ev.iconst (z := 0) (d18 17 rfl) rfl ?_
        refine Ev.istDN (L' := [.val (.ref o), .val (.int x1), .val (.int (0 : Int32)), .val (.int x3)]) (d18 18 rfl) rfl rfl rfl ?_
        refine Ev.goto (t := 42) (d18 19 rfl) rfl ?_
        refine Ev.iinc (z := 1) (L' := [.val (.ref o), .val (.int x1), .val (.int (0 : Int32)), .val (.int (x3 + (1 : Int32)))]) (d18 26 rfl) rfl rfl rfl ?_
        refine Ev.goto (t := 10) (d18 27 rfl) rfl ?_
        exact ih x1 (0 : Int32) (x3 + (1 : Int32)) s  _ hr
    · replace hr := (if_neg c1).symm.trans hr
      refine Ev.iloadN (d18 28 rfl) rfl ?_
      cases hr
      exact Ev.ireturn rfl (d18 29 rfl)
def f_largestFree (n : Nat) (s : St) : Option (Int32 × St) :=
  (f_markLive n s).bind fun q1 =>
  f_largestFree_10 n n (0 : Int32) (0 : Int32) (0 : Int32) q1
set_option maxRecDepth 100000 in
theorem e_largestFree {g : GT} {n : Nat} {s : St} {w : Int32 × St} (hw : HW g) {K : St → MHeap} {o : Nat} {r : Nat → Nat} (V : View (GG g) Ln K o r) (hr : f_largestFree n s = some w) : EvC (GG g) M_largestFree [.ref o] (K s) ((some (.int w.1)), (K w.2)) := by
  refine EvC.enter (L0 := [.val (.ref o), .unset, .unset, .unset]) pl_largestFree (fun h => nomatch h) rfl rfl ?_
  unfold f_largestFree at hr
  refine Ev.aloadN (d18 0 rfl) rfl ?_
  obtain ⟨q1, hq2, hr⟩ := Option.bind_eq_some_iff.mp hr
  refine Ev.priv (y := M_markLive) (args := []) (rest := []) (gok hw) rfl nm_markLive (ww hw 52 rfl) (ww hw 53 rfl) (ww hw 54 rfl) (ww hw 55 rfl) (lenOf pd_markLive rfl) (d18 1 rfl) (V.2.1 s) (e_markLive hw V hq2) (by decide) (Nat.le_of_ble_eq_true rfl) rfl ?_
  refine Ev.iconst (z := 0) (d18 2 rfl) rfl ?_
  refine Ev.istDN (L' := [.val (.ref o), .val (.int (0 : Int32)), .unset, .unset]) (d18 3 rfl) rfl rfl rfl ?_
  refine Ev.iconst (z := 0) (d18 4 rfl) rfl ?_
  refine Ev.istDN (L' := [.val (.ref o), .val (.int (0 : Int32)), .val (.int (0 : Int32)), .unset]) (d18 5 rfl) rfl rfl rfl ?_
  refine Ev.iconst (z := 0) (d18 6 rfl) rfl ?_
  refine Ev.istDN (L' := [.val (.ref o), .val (.int (0 : Int32)), .val (.int (0 : Int32)), .val (.int (0 : Int32))]) (d18 7 rfl) rfl rfl rfl ?_
  exact e_largestFree_10 hw V  n (0 : Int32) (0 : Int32) (0 : Int32) q1  _ hr
def f_getState (s : St) (a0 : Int32) : Option (Int32) :=
  (f_valid s a0).bind fun q1 =>
  if q1 = 0 then
    some (-1 : Int32)
  else
    grd (inb a0 32) <|
    some (s.2 2 (ix a0))
set_option maxRecDepth 100000 in
theorem e_getState {g : GT} {s : St} {a0 : Int32} {w : Int32} (hw : HW g) {K : St → MHeap} {o : Nat} {r : Nat → Nat} (V : View (GG g) Ln K o r) (hr : f_getState s a0 = some w) : EvC (GG g) M_getState [.ref o, .int a0] (K s) ((some (.int w)), (K s)) := by
  refine EvC.enter (L0 := [.val (.ref o), .val (.int a0)]) pl_getState (fun h => nomatch h) rfl rfl ?_
  unfold f_getState at hr
  refine Ev.aloadN (d24 0 rfl) rfl ?_
  refine Ev.iloadN (d24 1 rfl) rfl ?_
  obtain ⟨q1, hq2, hr⟩ := Option.bind_eq_some_iff.mp hr
  refine Ev.priv (y := M_valid) (args := [.int a0]) (rest := []) (gok hw) rfl nm_valid (ww hw 89 rfl) (ww hw 90 rfl) (ww hw 91 rfl) (ww hw 92 rfl) (lenOf pd_valid rfl) (d24 2 rfl) (V.2.1 s) (e_valid hw V hq2) (by decide) (Nat.le_of_ble_eq_true rfl) rfl ?_
  refine Ev.ifne (t := 10) (d24 3 rfl) rfl (fun c3 => ?_) (fun c3 => ?_)
  · replace hr := (if_pos c3).symm.trans hr
    refine Ev.iconst (z := -1) (d24 4 rfl) rfl ?_
    cases hr
    exact Ev.ireturn rfl (d24 5 rfl)
  · replace hr := (if_neg c3).symm.trans hr
    refine Ev.aloadN (d24 6 rfl) rfl ?_
    refine Ev.gAr V (ww hw 15 rfl) (d24 7 rfl) (j := 2) rfl ?_
    refine Ev.iloadN (d24 8 rfl) rfl ?_
    obtain ⟨b4, hr⟩ := grd_some hr
    refine Ev.ial V (j := 2) rfl rfl (d24 9 rfl) b4 ?_
    cases hr
    exact Ev.ireturn rfl (d24 10 rfl)
def f_getAddress (s : St) (a0 : Int32) : Option (Int32) :=
  (f_valid s a0).bind fun q1 =>
  if q1 = 0 then
    some (-1 : Int32)
  else
    grd (inb a0 32) <|
    if (s.2 2 (ix a0)) = (1 : Int32) then
      some (s.2 3 (ix a0))
    else
      some (-1 : Int32)
set_option maxRecDepth 100000 in
theorem e_getAddress {g : GT} {s : St} {a0 : Int32} {w : Int32} (hw : HW g) {K : St → MHeap} {o : Nat} {r : Nat → Nat} (V : View (GG g) Ln K o r) (hr : f_getAddress s a0 = some w) : EvC (GG g) M_getAddress [.ref o, .int a0] (K s) ((some (.int w)), (K s)) := by
  refine EvC.enter (L0 := [.val (.ref o), .val (.int a0)]) pl_getAddress (fun h => nomatch h) rfl rfl ?_
  unfold f_getAddress at hr
  refine Ev.aloadN (d25 0 rfl) rfl ?_
  refine Ev.iloadN (d25 1 rfl) rfl ?_
  obtain ⟨q1, hq2, hr⟩ := Option.bind_eq_some_iff.mp hr
  refine Ev.priv (y := M_valid) (args := [.int a0]) (rest := []) (gok hw) rfl nm_valid (ww hw 89 rfl) (ww hw 90 rfl) (ww hw 91 rfl) (ww hw 92 rfl) (lenOf pd_valid rfl) (d25 2 rfl) (V.2.1 s) (e_valid hw V hq2) (by decide) (Nat.le_of_ble_eq_true rfl) rfl ?_
  refine Ev.ifeq (t := 18) (d25 3 rfl) rfl (fun c3 => ?_) (fun c3 => ?_)
  · replace hr := (if_pos c3).symm.trans hr
    refine Ev.iconst (z := -1) (d25 10 rfl) rfl ?_
    cases hr
    exact Ev.ireturn rfl (d25 11 rfl)
  · replace hr := (if_neg c3).symm.trans hr
    refine Ev.aloadN (d25 4 rfl) rfl ?_
    refine Ev.gAr V (ww hw 15 rfl) (d25 5 rfl) (j := 2) rfl ?_
    refine Ev.iloadN (d25 6 rfl) rfl ?_
    obtain ⟨b4, hr⟩ := grd_some hr
    refine Ev.ial V (j := 2) rfl rfl (d25 7 rfl) b4 ?_
    refine Ev.iconst (z := 1) (d25 8 rfl) rfl ?_
    refine Ev.iceq (t := 20) (d25 9 rfl) rfl (fun c5 => ?_) (fun c5 => ?_)
    · replace hr := (if_pos c5).symm.trans hr
      refine Ev.aloadN (d25 12 rfl) rfl ?_
      refine Ev.gAr V (ww hw 17 rfl) (d25 13 rfl) (j := 3) rfl ?_
      refine Ev.iloadN (d25 14 rfl) rfl ?_
      refine Ev.ial V (j := 3) rfl rfl (d25 15 rfl) b4 ?_
      cases hr
      exact Ev.ireturn rfl (d25 16 rfl)
    · replace hr := (if_neg c5).symm.trans hr
      refine Ev.iconst (z := -1) (d25 10 rfl) rfl ?_
      cases hr
      exact Ev.ireturn rfl (d25 11 rfl)
def f_getSize (s : St) (a0 : Int32) : Option (Int32) :=
  (f_valid s a0).bind fun q1 =>
  if q1 = 0 then
    some (0 : Int32)
  else
    grd (inb a0 32) <|
    if (s.2 2 (ix a0)) = (1 : Int32) then
      some (s.2 4 (ix a0))
    else
      some (0 : Int32)
set_option maxRecDepth 100000 in
theorem e_getSize {g : GT} {s : St} {a0 : Int32} {w : Int32} (hw : HW g) {K : St → MHeap} {o : Nat} {r : Nat → Nat} (V : View (GG g) Ln K o r) (hr : f_getSize s a0 = some w) : EvC (GG g) M_getSize [.ref o, .int a0] (K s) ((some (.int w)), (K s)) := by
  refine EvC.enter (L0 := [.val (.ref o), .val (.int a0)]) pl_getSize (fun h => nomatch h) rfl rfl ?_
  unfold f_getSize at hr
  refine Ev.aloadN (d26 0 rfl) rfl ?_
  refine Ev.iloadN (d26 1 rfl) rfl ?_
  obtain ⟨q1, hq2, hr⟩ := Option.bind_eq_some_iff.mp hr
  refine Ev.priv (y := M_valid) (args := [.int a0]) (rest := []) (gok hw) rfl nm_valid (ww hw 89 rfl) (ww hw 90 rfl) (ww hw 91 rfl) (ww hw 92 rfl) (lenOf pd_valid rfl) (d26 2 rfl) (V.2.1 s) (e_valid hw V hq2) (by decide) (Nat.le_of_ble_eq_true rfl) rfl ?_
  refine Ev.ifeq (t := 18) (d26 3 rfl) rfl (fun c3 => ?_) (fun c3 => ?_)
  · replace hr := (if_pos c3).symm.trans hr
    refine Ev.iconst (z := 0) (d26 10 rfl) rfl ?_
    cases hr
    exact Ev.ireturn rfl (d26 11 rfl)
  · replace hr := (if_neg c3).symm.trans hr
    refine Ev.aloadN (d26 4 rfl) rfl ?_
    refine Ev.gAr V (ww hw 15 rfl) (d26 5 rfl) (j := 2) rfl ?_
    refine Ev.iloadN (d26 6 rfl) rfl ?_
    obtain ⟨b4, hr⟩ := grd_some hr
    refine Ev.ial V (j := 2) rfl rfl (d26 7 rfl) b4 ?_
    refine Ev.iconst (z := 1) (d26 8 rfl) rfl ?_
    refine Ev.iceq (t := 20) (d26 9 rfl) rfl (fun c5 => ?_) (fun c5 => ?_)
    · replace hr := (if_pos c5).symm.trans hr
      refine Ev.aloadN (d26 12 rfl) rfl ?_
      refine Ev.gAr V (ww hw 19 rfl) (d26 13 rfl) (j := 4) rfl ?_
      refine Ev.iloadN (d26 14 rfl) rfl ?_
      refine Ev.ial V (j := 4) rfl rfl (d26 15 rfl) b4 ?_
      cases hr
      exact Ev.ireturn rfl (d26 16 rfl)
    · replace hr := (if_neg c5).symm.trans hr
      refine Ev.iconst (z := 0) (d26 10 rfl) rfl ?_
      cases hr
      exact Ev.ireturn rfl (d26 11 rfl)
def f_read (a0 : Int32) (a1 : Int32) (s : St) : Option (Int32 × St) :=
  (f_valid s a0).bind fun q1 =>
  if q1 = 0 then
    some ((0 : Int32), s)
  else
    grd (inb a0 32) <|
    if (s.2 2 (ix a0)) = (1 : Int32) then
      if a1 < 0 then
        some ((0 : Int32), s)
      else
        if a1 < (s.2 4 (ix a0)) then
          if ((s.2 3 (ix a0)) + a1) < 0 then
            some ((0 : Int32), s)
          else
            if ((s.2 3 (ix a0)) + a1) < (256 : Int32) then
              (f_touch a0 s).bind fun q10 =>
              grd (inb ((s.2 3 (ix a0)) + a1) 256) <|
              some ((q10.2 0 (ix ((s.2 3 (ix a0)) + a1))), q10)
            else
              some ((0 : Int32), s)
        else
          some ((0 : Int32), s)
    else
      some ((0 : Int32), s)
set_option maxRecDepth 100000 in
theorem e_read {g : GT} {a0 : Int32} {a1 : Int32} {s : St} {w : Int32 × St} (hw : HW g) {K : St → MHeap} {o : Nat} {r : Nat → Nat} (V : View (GG g) Ln K o r) (hr : f_read a0 a1 s = some w) : EvC (GG g) M_read [.ref o, .int a0, .int a1] (K s) ((some (.int w.1)), (K w.2)) := by
  refine EvC.enter (L0 := [.val (.ref o), .val (.int a0), .val (.int a1), .unset]) pl_read (fun h => nomatch h) rfl rfl ?_
  unfold f_read at hr
  refine Ev.aloadN (d27 0 rfl) rfl ?_
  refine Ev.iloadN (d27 1 rfl) rfl ?_
  obtain ⟨q1, hq2, hr⟩ := Option.bind_eq_some_iff.mp hr
  refine Ev.priv (y := M_valid) (args := [.int a0]) (rest := []) (gok hw) rfl nm_valid (ww hw 89 rfl) (ww hw 90 rfl) (ww hw 91 rfl) (ww hw 92 rfl) (lenOf pd_valid rfl) (d27 2 rfl) (V.2.1 s) (e_valid hw V hq2) (by decide) (Nat.le_of_ble_eq_true rfl) rfl ?_
  refine Ev.ifeq (t := 18) (d27 3 rfl) rfl (fun c3 => ?_) (fun c3 => ?_)
  · replace hr := (if_pos c3).symm.trans hr
    refine Ev.iconst (z := 0) (d27 10 rfl) rfl ?_
    cases hr
    exact Ev.ireturn rfl (d27 11 rfl)
  · replace hr := (if_neg c3).symm.trans hr
    refine Ev.aloadN (d27 4 rfl) rfl ?_
    refine Ev.gAr V (ww hw 15 rfl) (d27 5 rfl) (j := 2) rfl ?_
    refine Ev.iloadN (d27 6 rfl) rfl ?_
    obtain ⟨b4, hr⟩ := grd_some hr
    refine Ev.ial V (j := 2) rfl rfl (d27 7 rfl) b4 ?_
    refine Ev.iconst (z := 1) (d27 8 rfl) rfl ?_
    refine Ev.iceq (t := 20) (d27 9 rfl) rfl (fun c5 => ?_) (fun c5 => ?_)
    · replace hr := (if_pos c5).symm.trans hr
      refine Ev.iloadN (d27 12 rfl) rfl ?_
      refine Ev.iflt (t := 34) (d27 13 rfl) rfl (fun c6 => ?_) (fun c6 => ?_)
      · replace hr := (if_pos c6).symm.trans hr
        refine Ev.iconst (z := 0) (d27 20 rfl) rfl ?_
        cases hr
        exact Ev.ireturn rfl (d27 21 rfl)
      · replace hr := (if_neg c6).symm.trans hr
        refine Ev.iloadN (d27 14 rfl) rfl ?_
        refine Ev.aloadN (d27 15 rfl) rfl ?_
        refine Ev.gAr V (ww hw 19 rfl) (d27 16 rfl) (j := 4) rfl ?_
        refine Ev.iloadN (d27 17 rfl) rfl ?_
        refine Ev.ial V (j := 4) rfl rfl (d27 18 rfl) b4 ?_
        refine Ev.iclt (t := 36) (d27 19 rfl) rfl (fun c7 => ?_) (fun c7 => ?_)
        · replace hr := (if_pos c7).symm.trans hr
          refine Ev.aloadN (d27 22 rfl) rfl ?_
          refine Ev.gAr V (ww hw 17 rfl) (d27 23 rfl) (j := 3) rfl ?_
          refine Ev.iloadN (d27 24 rfl) rfl ?_
          refine Ev.ial V (j := 3) rfl rfl (d27 25 rfl) b4 ?_
          refine Ev.iloadN (d27 26 rfl) rfl ?_
          refine Ev.iadd (d27 27 rfl) ?_
          refine Ev.istDN (L' := [.val (.ref o), .val (.int a0), .val (.int a1), .val (.int ((s.2 3 (ix a0)) + a1))]) (d27 28 rfl) rfl rfl rfl ?_
          refine Ev.iloadN (d27 29 rfl) rfl ?_
          refine Ev.iflt (t := 56) (d27 30 rfl) rfl (fun c8 => ?_) (fun c8 => ?_)
          · replace hr := (if_pos c8).symm.trans hr
            refine Ev.iconst (z := 0) (d27 34 rfl) rfl ?_
            cases hr
            exact Ev.ireturn rfl (d27 35 rfl)
          · replace hr := (if_neg c8).symm.trans hr
            refine Ev.iloadN (d27 31 rfl) rfl ?_
            refine Ev.sipush (z := 256) (d27 32 rfl) rfl ?_
            refine Ev.iclt (t := 58) (d27 33 rfl) rfl (fun c9 => ?_) (fun c9 => ?_)
            · replace hr := (if_pos c9).symm.trans hr
              refine Ev.aloadN (d27 36 rfl) rfl ?_
              refine Ev.iloadN (d27 37 rfl) rfl ?_
              obtain ⟨q10, hq11, hr⟩ := Option.bind_eq_some_iff.mp hr
              refine Ev.priv (y := M_touch) (args := [.int a0]) (rest := []) (gok hw) rfl nm_touch (ww hw 72 rfl) (ww hw 73 rfl) (ww hw 74 rfl) (ww hw 75 rfl) (lenOf pd_touch rfl) (d27 38 rfl) (V.2.1 s) (e_touch hw V hq11) (by decide) (Nat.le_of_ble_eq_true rfl) rfl ?_
              refine Ev.aloadN (d27 39 rfl) rfl ?_
              refine Ev.gAr V (ww hw 10 rfl) (d27 40 rfl) (j := 0) rfl ?_
              refine Ev.iloadN (d27 41 rfl) rfl ?_
              obtain ⟨b12, hr⟩ := grd_some hr
              refine Ev.ial V (j := 0) rfl rfl (d27 42 rfl) b12 ?_
              cases hr
              exact Ev.ireturn rfl (d27 43 rfl)
            · replace hr := (if_neg c9).symm.trans hr
              refine Ev.iconst (z := 0) (d27 34 rfl) rfl ?_
              cases hr
              exact Ev.ireturn rfl (d27 35 rfl)
        · replace hr := (if_neg c7).symm.trans hr
          refine Ev.iconst (z := 0) (d27 20 rfl) rfl ?_
          cases hr
          exact Ev.ireturn rfl (d27 21 rfl)
    · replace hr := (if_neg c5).symm.trans hr
      refine Ev.iconst (z := 0) (d27 10 rfl) rfl ?_
      cases hr
      exact Ev.ireturn rfl (d27 11 rfl)
def f_getFlags_35 (s : St) (x1 : Int32) (x2 : Int32) : Option (Int32) :=
  grd (inb x1 32) <|
  if (s.2 8 (ix x1)) = 0 then
    some x2
  else
    some (x2 + (2 : Int32))
set_option maxRecDepth 100000 in
theorem e_getFlags_35 {g : GT} {s : St} (hw : HW g) {K : St → MHeap} {o : Nat} {r : Nat → Nat} (V : View (GG g) Ln K o r) (x1 : Int32) (x2 : Int32) (w : Int32) (hr : f_getFlags_35 s x1 x2 = some w) : Ev (GG g) M_getFlags 35 [.val (.ref o), .val (.int x1), .val (.int x2)] [] (K s) ((some (.int w)), (K s)) := by
  unfold f_getFlags_35 at hr
  refine Ev.aloadN (d28 23 rfl) rfl ?_
  refine Ev.gAr V (ww hw 27 rfl) (d28 24 rfl) (j := 8) rfl ?_
  refine Ev.iloadN (d28 25 rfl) rfl ?_
  obtain ⟨b1, hr⟩ := grd_some hr
  refine Ev.bal V (j := 8) rfl rfl (d28 26 rfl) b1 ?_
  refine Ev.ifeq (t := 48) (d28 27 rfl) rfl (fun c2 => ?_) (fun c2 => ?_)
  · replace hr := (if_pos c2).symm.trans hr
    refine Ev.iloadN (d28 32 rfl) rfl ?_
    cases hr
    exact Ev.ireturn rfl (d28 33 rfl)
  · replace hr := (if_neg c2).symm.trans hr
    refine Ev.iloadN (d28 28 rfl) rfl ?_
    refine Ev.iconst (z := 2) (d28 29 rfl) rfl ?_
    refine Ev.iadd (d28 30 rfl) ?_
    refine Ev.istDN (L' := [.val (.ref o), .val (.int x1), .val (.int (x2 + (2 : Int32)))]) (d28 31 rfl) rfl rfl rfl ?_
    refine Ev.iloadN (d28 32 rfl) rfl ?_
    cases hr
    exact Ev.ireturn rfl (d28 33 rfl)
def f_getFlags (s : St) (a0 : Int32) : Option (Int32) :=
  (f_valid s a0).bind fun q1 =>
  if q1 = 0 then
    some (0 : Int32)
  else
    grd (inb a0 32) <|
    if (s.2 2 (ix a0)) = (1 : Int32) then
      if (s.2 7 (ix a0)) = 0 then
        f_getFlags_35 s a0 (0 : Int32)
      else
        f_getFlags_35 s a0 ((0 : Int32) + (1 : Int32))
    else
      some (0 : Int32)
set_option maxRecDepth 100000 in
theorem e_getFlags {g : GT} {s : St} {a0 : Int32} {w : Int32} (hw : HW g) {K : St → MHeap} {o : Nat} {r : Nat → Nat} (V : View (GG g) Ln K o r) (hr : f_getFlags s a0 = some w) : EvC (GG g) M_getFlags [.ref o, .int a0] (K s) ((some (.int w)), (K s)) := by
  refine EvC.enter (L0 := [.val (.ref o), .val (.int a0), .unset]) pl_getFlags (fun h => nomatch h) rfl rfl ?_
  unfold f_getFlags at hr
  refine Ev.aloadN (d28 0 rfl) rfl ?_
  refine Ev.iloadN (d28 1 rfl) rfl ?_
  obtain ⟨q1, hq2, hr⟩ := Option.bind_eq_some_iff.mp hr
  refine Ev.priv (y := M_valid) (args := [.int a0]) (rest := []) (gok hw) rfl nm_valid (ww hw 89 rfl) (ww hw 90 rfl) (ww hw 91 rfl) (ww hw 92 rfl) (lenOf pd_valid rfl) (d28 2 rfl) (V.2.1 s) (e_valid hw V hq2) (by decide) (Nat.le_of_ble_eq_true rfl) rfl ?_
  refine Ev.ifeq (t := 18) (d28 3 rfl) rfl (fun c3 => ?_) (fun c3 => ?_)
  · replace hr := (if_pos c3).symm.trans hr
    refine Ev.iconst (z := 0) (d28 10 rfl) rfl ?_
    cases hr
    exact Ev.ireturn rfl (d28 11 rfl)
  · replace hr := (if_neg c3).symm.trans hr
    refine Ev.aloadN (d28 4 rfl) rfl ?_
    refine Ev.gAr V (ww hw 15 rfl) (d28 5 rfl) (j := 2) rfl ?_
    refine Ev.iloadN (d28 6 rfl) rfl ?_
    obtain ⟨b4, hr⟩ := grd_some hr
    refine Ev.ial V (j := 2) rfl rfl (d28 7 rfl) b4 ?_
    refine Ev.iconst (z := 1) (d28 8 rfl) rfl ?_
    refine Ev.iceq (t := 20) (d28 9 rfl) rfl (fun c5 => ?_) (fun c5 => ?_)
    · replace hr := (if_pos c5).symm.trans hr
      refine Ev.iconst (z := 0) (d28 12 rfl) rfl ?_
      refine Ev.istDN (L' := [.val (.ref o), .val (.int a0), .val (.int (0 : Int32))]) (d28 13 rfl) rfl rfl rfl ?_
      refine Ev.aloadN (d28 14 rfl) rfl ?_
      refine Ev.gAr V (ww hw 25 rfl) (d28 15 rfl) (j := 7) rfl ?_
      refine Ev.iloadN (d28 16 rfl) rfl ?_
      refine Ev.bal V (j := 7) rfl rfl (d28 17 rfl) b4 ?_
      refine Ev.ifeq (t := 35) (d28 18 rfl) rfl (fun c6 => ?_) (fun c6 => ?_)
      · replace hr := (if_pos c6).symm.trans hr
        exact e_getFlags_35 hw V  a0 (0 : Int32)  _ hr
      · replace hr := (if_neg c6).symm.trans hr
        refine Ev.iloadN (d28 19 rfl) rfl ?_
        refine Ev.iconst (z := 1) (d28 20 rfl) rfl ?_
        refine Ev.iadd (d28 21 rfl) ?_
        refine Ev.istDN (L' := [.val (.ref o), .val (.int a0), .val (.int ((0 : Int32) + (1 : Int32)))]) (d28 22 rfl) rfl rfl rfl ?_
        exact e_getFlags_35 hw V  a0 ((0 : Int32) + (1 : Int32))  _ hr
    · replace hr := (if_neg c5).symm.trans hr
      refine Ev.iconst (z := 0) (d28 10 rfl) rfl ?_
      cases hr
      exact Ev.ireturn rfl (d28 11 rfl)
def f_freeWords_4 (n : Nat) (s : St) : Nat → Int32 → Int32 → Option (Int32)
  | 0 => fun _ _ => none
  | k + 1 => fun x1 x2 =>
    if x2 < (s.1 10) then
      grd (inb x2 32) <|
      if (s.2 2 (ix x2)) = (1 : Int32) then
        f_freeWords_4 n s k (x1 + (s.2 4 (ix x2))) (x2 + (1 : Int32))
      else
        f_freeWords_4 n s k x1 (x2 + (1 : Int32))
    else
      some ((s.1 9) - x1)
set_option maxRecDepth 100000 in
theorem e_freeWords_4 {g : GT} {n : Nat} {s : St} (hw : HW g) {K : St → MHeap} {o : Nat} {r : Nat → Nat} (V : View (GG g) Ln K o r) (k : Nat) : ∀ (x1 : Int32) (x2 : Int32) (w : Int32), f_freeWords_4 n s k x1 x2 = some w → Ev (GG g) M_freeWords 4 [.val (.ref o), .val (.int x1), .val (.int x2)] [] (K s) ((some (.int w)), (K s)) := by
  induction k with
  | zero => intro x1 x2 w hr; rw [f_freeWords_4] at hr; cases hr
  | succ k ih =>
    intro x1 x2 w hr
    rw [f_freeWords_4] at hr
    refine Ev.iloadN (d29 4 rfl) rfl ?_
    refine Ev.aloadN (d29 5 rfl) rfl ?_
    refine Ev.gI V (ww hw 31 rfl) (d29 6 rfl) (j := 10) rfl rfl ?_
    refine Ev.icge (t := 37) (d29 7 rfl) rfl (fun c1 => ?_) (fun c1 => ?_)
    · replace hr := (if_pos c1).symm.trans hr
      refine Ev.aloadN (d29 8 rfl) rfl ?_
      refine Ev.gAr V (ww hw 15 rfl) (d29 9 rfl) (j := 2) rfl ?_
      refine Ev.iloadN (d29 10 rfl) rfl ?_
      obtain ⟨b2, hr⟩ := grd_some hr
      refine Ev.ial V (j := 2) rfl rfl (d29 11 rfl) b2 ?_
      refine Ev.iconst (z := 1) (d29 12 rfl) rfl ?_
      refine Ev.icne (t := 31) (d29 13 rfl) rfl (fun c3 => ?_) (fun c3 => ?_)
      · replace hr := (if_pos c3).symm.trans hr
        refine Ev.iloadN (d29 14 rfl) rfl ?_
        refine Ev.aloadN (d29 15 rfl) rfl ?_
        refine Ev.gAr V (ww hw 19 rfl) (d29 16 rfl) (j := 4) rfl ?_
        refine Ev.iloadN (d29 17 rfl) rfl ?_
        refine Ev.ial V (j := 4) rfl rfl (d29 18 rfl) b2 ?_
        refine Ev.iadd (d29 19 rfl) ?_
        refine Ev.istDN (L' := [.val (.ref o), .val (.int (x1 + (s.2 4 (ix x2)))), .val (.int x2)]) (d29 20 rfl) rfl rfl rfl ?_
        refine Ev.iinc (z := 1) (L' := [.val (.ref o), .val (.int (x1 + (s.2 4 (ix x2)))), .val (.int (x2 + (1 : Int32)))]) (d29 21 rfl) rfl rfl rfl ?_
        refine Ev.goto (t := 4) (d29 22 rfl) rfl ?_
        exact ih (x1 + (s.2 4 (ix x2))) (x2 + (1 : Int32))  _ hr
      · replace hr := (if_neg c3).symm.trans hr
        refine Ev.iinc (z := 1) (L' := [.val (.ref o), .val (.int x1), .val (.int (x2 + (1 : Int32)))]) (d29 21 rfl) rfl rfl rfl ?_
        refine Ev.goto (t := 4) (d29 22 rfl) rfl ?_
        exact ih x1 (x2 + (1 : Int32))  _ hr
    · replace hr := (if_neg c1).symm.trans hr
      refine Ev.aloadN (d29 23 rfl) rfl ?_
      refine Ev.gI V (ww hw 29 rfl) (d29 24 rfl) (j := 9) rfl rfl ?_
      refine Ev.iloadN (d29 25 rfl) rfl ?_
      refine Ev.isub (d29 26 rfl) ?_
      cases hr
      exact Ev.ireturn rfl (d29 27 rfl)
def f_freeWords (n : Nat) (s : St) : Option (Int32) :=
  f_freeWords_4 n s n (0 : Int32) (0 : Int32)
set_option maxRecDepth 100000 in
theorem e_freeWords {g : GT} {n : Nat} {s : St} {w : Int32} (hw : HW g) {K : St → MHeap} {o : Nat} {r : Nat → Nat} (V : View (GG g) Ln K o r) (hr : f_freeWords n s = some w) : EvC (GG g) M_freeWords [.ref o] (K s) ((some (.int w)), (K s)) := by
  refine EvC.enter (L0 := [.val (.ref o), .unset, .unset]) pl_freeWords (fun h => nomatch h) rfl rfl ?_
  unfold f_freeWords at hr
  refine Ev.iconst (z := 0) (d29 0 rfl) rfl ?_
  refine Ev.istDN (L' := [.val (.ref o), .val (.int (0 : Int32)), .unset]) (d29 1 rfl) rfl rfl rfl ?_
  refine Ev.iconst (z := 0) (d29 2 rfl) rfl ?_
  refine Ev.istDN (L' := [.val (.ref o), .val (.int (0 : Int32)), .val (.int (0 : Int32))]) (d29 3 rfl) rfl rfl rfl ?_
  exact e_freeWords_4 hw V  n (0 : Int32) (0 : Int32)  _ hr
def f_law_500 (n : Nat) (x2 : Int32) (x3 : Int32) (x18 : Int32) (x19 : Int32) (x20 : Int32) (x21 : Int32) (z0 : Int32) (z1 : Int32) (s : St) : Option (Int32 × St) :=
  if z1 = z0 then
    (f_getAddress s (2 : Int32)).bind fun q2 =>
    if q2 = x18 then
      (f_getFlags s (2 : Int32)).bind fun q5 =>
      if q5 = x19 then
        (f_read (2 : Int32) (0 : Int32) s).bind fun q8 =>
        if q8.1 = x2 then
          (f_read (2 : Int32) (1 : Int32) q8.2).bind fun q11 =>
          if q11.1 = x3 then
            (f_freeWords n q11.2).bind fun q14 =>
            if q14 = x20 then
              (f_largestFree n q11.2).bind fun q17 =>
              if q17.1 = x21 then
                some ((1 : Int32), q17.2)
              else
                some ((0 : Int32), q17.2)
            else
              some ((0 : Int32), q11.2)
          else
            some ((0 : Int32), q11.2)
        else
          some ((0 : Int32), q8.2)
      else
        some ((0 : Int32), s)
    else
      some ((0 : Int32), s)
  else
    some ((0 : Int32), s)
set_option maxRecDepth 100000 in
theorem e_law_500 {g : GT} {n : Nat} (hw : HW g) {K : St → MHeap} {o : Nat} {r : Nat → Nat} (V : View (GG g) Ln K o r) (x2 : Int32) (x3 : Int32) (x18 : Int32) (x19 : Int32) (x20 : Int32) (x21 : Int32) (z0 : Int32) (z1 : Int32) (s : St) (y0 : Slot) (hy0 : one1 y0 = true) (y1 : Slot) (hy1 : one1 y1 = true) (y4 : Slot) (hy4 : one1 y4 = true) (y5 : Slot) (hy5 : one1 y5 = true) (y6 : Slot) (hy6 : one1 y6 = true) (y8 : Slot) (hy8 : one1 y8 = true) (y9 : Slot) (hy9 : one1 y9 = true) (y10 : Slot) (hy10 : one1 y10 = true) (y11 : Slot) (hy11 : one1 y11 = true) (y12 : Slot) (hy12 : one1 y12 = true) (y13 : Slot) (hy13 : one1 y13 = true) (y14 : Slot) (hy14 : one1 y14 = true) (y15 : Slot) (hy15 : one1 y15 = true) (y16 : Slot) (hy16 : one1 y16 = true) (y17 : Slot) (hy17 : one1 y17 = true) (w : Int32 × St) (hr : f_law_500 n x2 x3 x18 x19 x20 x21 z0 z1 s = some w) : Ev (GG g) M_law 500 [y0, y1, .val (.int x2), .val (.int x3), y4, y5, y6, .val (.ref o), y8, y9, y10, y11, y12, y13, y14, y15, y16, y17, .val (.int x18), .val (.int x19), .val (.int x20), .val (.int x21)] [.int z0, .int z1] (K s) ((some (.int w.1)), (K w.2)) := by
  unfold f_law_500 at hr
  refine Ev.icne (t := 571) at_500 rfl (fun c1 => ?_) (fun c1 => ?_)
  · replace hr := (if_pos c1).symm.trans hr
    refine Ev.aload at_503 rfl ?_
    refine Ev.iconst (z := 2) at_505 rfl ?_
    obtain ⟨q2, hq3, hr⟩ := Option.bind_eq_some_iff.mp hr
    refine Ev.virt (y := M_getAddress) (args := [.int (2 : Int32)]) (rest := []) (gok hw) rfl nm_getAddress (ww hw 133 rfl) (ww hw 134 rfl) (ww hw 135 rfl) (ww hw 136 rfl) (ww hw 137 rfl) (lenOf pd_getAddress rfl) at_506 (V.2.1 s) (e_getAddress hw V hq3) (by decide) (Nat.le_of_ble_eq_true rfl) rfl ?_
    refine Ev.iload at_509 rfl ?_
    refine Ev.icne (t := 571) at_511 rfl (fun c4 => ?_) (fun c4 => ?_)
    · replace hr := (if_pos c4).symm.trans hr
      refine Ev.aload at_514 rfl ?_
      refine Ev.iconst (z := 2) at_516 rfl ?_
      obtain ⟨q5, hq6, hr⟩ := Option.bind_eq_some_iff.mp hr
      refine Ev.virt (y := M_getFlags) (args := [.int (2 : Int32)]) (rest := []) (gok hw) rfl nm_getFlags (ww hw 148 rfl) (ww hw 149 rfl) (ww hw 150 rfl) (ww hw 151 rfl) (ww hw 152 rfl) (lenOf pd_getFlags rfl) at_517 (V.2.1 s) (e_getFlags hw V hq6) (by decide) (Nat.le_of_ble_eq_true rfl) rfl ?_
      refine Ev.iload at_520 rfl ?_
      refine Ev.icne (t := 571) at_522 rfl (fun c7 => ?_) (fun c7 => ?_)
      · replace hr := (if_pos c7).symm.trans hr
        refine Ev.aload at_525 rfl ?_
        refine Ev.iconst (z := 2) at_527 rfl ?_
        refine Ev.iconst (z := 0) at_528 rfl ?_
        obtain ⟨q8, hq9, hr⟩ := Option.bind_eq_some_iff.mp hr
        refine Ev.virt (y := M_read) (args := [.int (2 : Int32), .int (0 : Int32)]) (rest := []) (gok hw) rfl nm_read (ww hw 143 rfl) (ww hw 144 rfl) (ww hw 145 rfl) (ww hw 146 rfl) (ww hw 147 rfl) (lenOf pd_read rfl) at_529 (V.2.1 s) (e_read hw V hq9) (by decide) (Nat.le_of_ble_eq_true rfl) rfl ?_
        refine Ev.iloadN at_532 rfl ?_
        refine Ev.icne (t := 571) at_533 rfl (fun c10 => ?_) (fun c10 => ?_)
        · replace hr := (if_pos c10).symm.trans hr
          refine Ev.aload at_536 rfl ?_
          refine Ev.iconst (z := 2) at_538 rfl ?_
          refine Ev.iconst (z := 1) at_539 rfl ?_
          obtain ⟨q11, hq12, hr⟩ := Option.bind_eq_some_iff.mp hr
          refine Ev.virt (y := M_read) (args := [.int (2 : Int32), .int (1 : Int32)]) (rest := []) (gok hw) rfl nm_read (ww hw 143 rfl) (ww hw 144 rfl) (ww hw 145 rfl) (ww hw 146 rfl) (ww hw 147 rfl) (lenOf pd_read rfl) at_540 (V.2.1 q8.2) (e_read hw V hq12) (by decide) (Nat.le_of_ble_eq_true rfl) rfl ?_
          refine Ev.iloadN at_543 rfl ?_
          refine Ev.icne (t := 571) at_544 rfl (fun c13 => ?_) (fun c13 => ?_)
          · replace hr := (if_pos c13).symm.trans hr
            refine Ev.aload at_547 rfl ?_
            obtain ⟨q14, hq15, hr⟩ := Option.bind_eq_some_iff.mp hr
            refine Ev.virt (y := M_freeWords) (args := []) (rest := []) (gok hw) rfl nm_freeWords (ww hw 153 rfl) (ww hw 154 rfl) (ww hw 155 rfl) (ww hw 156 rfl) (ww hw 157 rfl) (lenOf pd_freeWords rfl) at_549 (V.2.1 q11.2) (e_freeWords hw V hq15) (by decide) (Nat.le_of_ble_eq_true rfl) rfl ?_
            refine Ev.iload at_552 rfl ?_
            refine Ev.icne (t := 571) at_554 rfl (fun c16 => ?_) (fun c16 => ?_)
            · replace hr := (if_pos c16).symm.trans hr
              refine Ev.aload at_557 rfl ?_
              obtain ⟨q17, hq18, hr⟩ := Option.bind_eq_some_iff.mp hr
              refine Ev.virt (y := M_largestFree) (args := []) (rest := []) (gok hw) rfl nm_largestFree (ww hw 103 rfl) (ww hw 104 rfl) (ww hw 105 rfl) (ww hw 106 rfl) (ww hw 107 rfl) (lenOf pd_largestFree rfl) at_559 (V.2.1 q11.2) (e_largestFree hw V hq18) (by decide) (Nat.le_of_ble_eq_true rfl) rfl ?_
              refine Ev.iload at_562 rfl ?_
              refine Ev.icne (t := 571) at_564 rfl (fun c19 => ?_) (fun c19 => ?_)
              · replace hr := (if_pos c19).symm.trans hr
                refine Ev.iconst (z := 1) at_567 rfl ?_
                refine Ev.goto (t := 572) at_568 rfl ?_
                cases hr
                exact Ev.zret1 rfl at_572
              · replace hr := (if_neg c19).symm.trans hr
                refine Ev.iconst (z := 0) at_571 rfl ?_
                cases hr
                exact Ev.zret0 rfl at_572
            · replace hr := (if_neg c16).symm.trans hr
              refine Ev.iconst (z := 0) at_571 rfl ?_
              cases hr
              exact Ev.zret0 rfl at_572
          · replace hr := (if_neg c13).symm.trans hr
            refine Ev.iconst (z := 0) at_571 rfl ?_
            cases hr
            exact Ev.zret0 rfl at_572
        · replace hr := (if_neg c10).symm.trans hr
          refine Ev.iconst (z := 0) at_571 rfl ?_
          cases hr
          exact Ev.zret0 rfl at_572
      · replace hr := (if_neg c7).symm.trans hr
        refine Ev.iconst (z := 0) at_571 rfl ?_
        cases hr
        exact Ev.zret0 rfl at_572
    · replace hr := (if_neg c4).symm.trans hr
      refine Ev.iconst (z := 0) at_571 rfl ?_
      cases hr
      exact Ev.zret0 rfl at_572
  · replace hr := (if_neg c1).symm.trans hr
    refine Ev.iconst (z := 0) at_571 rfl ?_
    cases hr
    exact Ev.zret0 rfl at_572
def f_law_480 (n : Nat) (x1 : Int32) (x2 : Int32) (x3 : Int32) (x9 : Int32) (x18 : Int32) (x19 : Int32) (x20 : Int32) (x21 : Int32) (z0 : Int32) (z1 : Int32) (s : St) : Option (Int32 × St) :=
  if z1 = z0 then
    (f_read (0 : Int32) (1 : Int32) s).bind fun q2 =>
    if x9 = 0 then
      f_law_500 n x2 x3 x18 x19 x20 x21 x1 q2.1 q2.2
    else
      f_law_500 n x2 x3 x18 x19 x20 x21 (0 : Int32) q2.1 q2.2
  else
    some ((0 : Int32), s)
set_option maxRecDepth 100000 in
theorem e_law_480 {g : GT} {n : Nat} (hw : HW g) {K : St → MHeap} {o : Nat} {r : Nat → Nat} (V : View (GG g) Ln K o r) (x1 : Int32) (x2 : Int32) (x3 : Int32) (x9 : Int32) (x18 : Int32) (x19 : Int32) (x20 : Int32) (x21 : Int32) (z0 : Int32) (z1 : Int32) (s : St) (y0 : Slot) (hy0 : one1 y0 = true) (y4 : Slot) (hy4 : one1 y4 = true) (y5 : Slot) (hy5 : one1 y5 = true) (y6 : Slot) (hy6 : one1 y6 = true) (y8 : Slot) (hy8 : one1 y8 = true) (y10 : Slot) (hy10 : one1 y10 = true) (y11 : Slot) (hy11 : one1 y11 = true) (y12 : Slot) (hy12 : one1 y12 = true) (y13 : Slot) (hy13 : one1 y13 = true) (y14 : Slot) (hy14 : one1 y14 = true) (y15 : Slot) (hy15 : one1 y15 = true) (y16 : Slot) (hy16 : one1 y16 = true) (y17 : Slot) (hy17 : one1 y17 = true) (w : Int32 × St) (hr : f_law_480 n x1 x2 x3 x9 x18 x19 x20 x21 z0 z1 s = some w) : Ev (GG g) M_law 480 [y0, .val (.int x1), .val (.int x2), .val (.int x3), y4, y5, y6, .val (.ref o), y8, .val (.int x9), y10, y11, y12, y13, y14, y15, y16, y17, .val (.int x18), .val (.int x19), .val (.int x20), .val (.int x21)] [.int z0, .int z1] (K s) ((some (.int w.1)), (K w.2)) := by
  unfold f_law_480 at hr
  refine Ev.icne (t := 571) at_480 rfl (fun c1 => ?_) (fun c1 => ?_)
  · replace hr := (if_pos c1).symm.trans hr
    refine Ev.aload at_483 rfl ?_
    refine Ev.iconst (z := 0) at_485 rfl ?_
    refine Ev.iconst (z := 1) at_486 rfl ?_
    obtain ⟨q2, hq3, hr⟩ := Option.bind_eq_some_iff.mp hr
    refine Ev.virt (y := M_read) (args := [.int (0 : Int32), .int (1 : Int32)]) (rest := []) (gok hw) rfl nm_read (ww hw 143 rfl) (ww hw 144 rfl) (ww hw 145 rfl) (ww hw 146 rfl) (ww hw 147 rfl) (lenOf pd_read rfl) at_487 (V.2.1 s) (e_read hw V hq3) (by decide) (Nat.le_of_ble_eq_true rfl) rfl ?_
    refine Ev.iload at_490 rfl ?_
    refine Ev.ifeq (t := 499) at_492 rfl (fun c4 => ?_) (fun c4 => ?_)
    · replace hr := (if_pos c4).symm.trans hr
      refine Ev.iloadN at_499 rfl ?_
      exact e_law_500 hw V  x2 x3 x18 x19 x20 x21 x1 q2.1 q2.2 y0 hy0 (.val (.int x1)) rfl y4 hy4 y5 hy5 y6 hy6 y8 hy8 (.val (.int x9)) rfl y10 hy10 y11 hy11 y12 hy12 y13 hy13 y14 hy14 y15 hy15 y16 hy16 y17 hy17 _ hr
    · replace hr := (if_neg c4).symm.trans hr
      refine Ev.iconst (z := 0) at_495 rfl ?_
      refine Ev.goto (t := 500) at_496 rfl ?_
      exact e_law_500 hw V  x2 x3 x18 x19 x20 x21 (0 : Int32) q2.1 q2.2 y0 hy0 (.val (.int x1)) rfl y4 hy4 y5 hy5 y6 hy6 y8 hy8 (.val (.int x9)) rfl y10 hy10 y11 hy11 y12 hy12 y13 hy13 y14 hy14 y15 hy15 y16 hy16 y17 hy17 _ hr
  · replace hr := (if_neg c1).symm.trans hr
    refine Ev.iconst (z := 0) at_571 rfl ?_
    cases hr
    exact Ev.zret0 rfl at_572
def f_law_378 (n : Nat) (x0 : Int32) (x1 : Int32) (x2 : Int32) (x3 : Int32) (x8 : Int32) (x9 : Int32) (x11 : Int32) (x12 : Int32) (x13 : Int32) (x14 : Int32) (x15 : Int32) (x16 : Int32) (x17 : Int32) (x18 : Int32) (x19 : Int32) (x20 : Int32) (z0 : Int32) (s : St) : Option (Int32 × St) :=
  if x8 = x11 then
    (f_getState s (1 : Int32)).bind fun q2 =>
    if q2 = x12 then
      (f_getAddress s (1 : Int32)).bind fun q5 =>
      if q5 = x13 then
        (f_getSize s (1 : Int32)).bind fun q8 =>
        if q8 = x14 then
          (f_read (1 : Int32) (0 : Int32) s).bind fun q11 =>
          if q11.1 = 0 then
            (f_getState q11.2 (0 : Int32)).bind fun q14 =>
            if q14 = x15 then
              (f_getAddress q11.2 (0 : Int32)).bind fun q17 =>
              if q17 = x16 then
                (f_getFlags q11.2 (0 : Int32)).bind fun q20 =>
                if q20 = x17 then
                  (f_read (0 : Int32) (0 : Int32) q11.2).bind fun q23 =>
                  if x9 = 0 then
                    f_law_480 n x1 x2 x3 x9 x18 x19 x20 z0 x0 q23.1 q23.2
                  else
                    f_law_480 n x1 x2 x3 x9 x18 x19 x20 z0 (0 : Int32) q23.1 q23.2
                else
                  some ((0 : Int32), q11.2)
              else
                some ((0 : Int32), q11.2)
            else
              some ((0 : Int32), q11.2)
          else
            some ((0 : Int32), q11.2)
        else
          some ((0 : Int32), s)
      else
        some ((0 : Int32), s)
    else
      some ((0 : Int32), s)
  else
    some ((0 : Int32), s)
set_option maxRecDepth 100000 in
theorem e_law_378 {g : GT} {n : Nat} (hw : HW g) {K : St → MHeap} {o : Nat} {r : Nat → Nat} (V : View (GG g) Ln K o r) (x0 : Int32) (x1 : Int32) (x2 : Int32) (x3 : Int32) (x8 : Int32) (x9 : Int32) (x11 : Int32) (x12 : Int32) (x13 : Int32) (x14 : Int32) (x15 : Int32) (x16 : Int32) (x17 : Int32) (x18 : Int32) (x19 : Int32) (x20 : Int32) (z0 : Int32) (s : St) (y4 : Slot) (hy4 : one1 y4 = true) (y5 : Slot) (hy5 : one1 y5 = true) (y6 : Slot) (hy6 : one1 y6 = true) (y10 : Slot) (hy10 : one1 y10 = true) (y21 : Slot) (hy21 : one1 y21 = true) (w : Int32 × St) (hr : f_law_378 n x0 x1 x2 x3 x8 x9 x11 x12 x13 x14 x15 x16 x17 x18 x19 x20 z0 s = some w) : Ev (GG g) M_law 378 [.val (.int x0), .val (.int x1), .val (.int x2), .val (.int x3), y4, y5, y6, .val (.ref o), .val (.int x8), .val (.int x9), y10, .val (.int x11), .val (.int x12), .val (.int x13), .val (.int x14), .val (.int x15), .val (.int x16), .val (.int x17), .val (.int x18), .val (.int x19), .val (.int x20), y21] [.int z0] (K s) ((some (.int w.1)), (K w.2)) := by
  unfold f_law_378 at hr
  refine Ev.istD (L' := [.val (.int x0), .val (.int x1), .val (.int x2), .val (.int x3), y4, y5, y6, .val (.ref o), .val (.int x8), .val (.int x9), y10, .val (.int x11), .val (.int x12), .val (.int x13), .val (.int x14), .val (.int x15), .val (.int x16), .val (.int x17), .val (.int x18), .val (.int x19), .val (.int x20), .val (.int z0)]) at_378 rfl hy21 rfl ?_
  refine Ev.iload at_380 rfl ?_
  refine Ev.iload at_382 rfl ?_
  refine Ev.icne (t := 571) at_384 rfl (fun c1 => ?_) (fun c1 => ?_)
  · replace hr := (if_pos c1).symm.trans hr
    refine Ev.aload at_387 rfl ?_
    refine Ev.iconst (z := 1) at_389 rfl ?_
    obtain ⟨q2, hq3, hr⟩ := Option.bind_eq_some_iff.mp hr
    refine Ev.virt (y := M_getState) (args := [.int (1 : Int32)]) (rest := []) (gok hw) rfl nm_getState (ww hw 128 rfl) (ww hw 129 rfl) (ww hw 130 rfl) (ww hw 131 rfl) (ww hw 132 rfl) (lenOf pd_getState rfl) at_390 (V.2.1 s) (e_getState hw V hq3) (by decide) (Nat.le_of_ble_eq_true rfl) rfl ?_
    refine Ev.iload at_393 rfl ?_
    refine Ev.icne (t := 571) at_395 rfl (fun c4 => ?_) (fun c4 => ?_)
    · replace hr := (if_pos c4).symm.trans hr
      refine Ev.aload at_398 rfl ?_
      refine Ev.iconst (z := 1) at_400 rfl ?_
      obtain ⟨q5, hq6, hr⟩ := Option.bind_eq_some_iff.mp hr
      refine Ev.virt (y := M_getAddress) (args := [.int (1 : Int32)]) (rest := []) (gok hw) rfl nm_getAddress (ww hw 133 rfl) (ww hw 134 rfl) (ww hw 135 rfl) (ww hw 136 rfl) (ww hw 137 rfl) (lenOf pd_getAddress rfl) at_401 (V.2.1 s) (e_getAddress hw V hq6) (by decide) (Nat.le_of_ble_eq_true rfl) rfl ?_
      refine Ev.iload at_404 rfl ?_
      refine Ev.icne (t := 571) at_406 rfl (fun c7 => ?_) (fun c7 => ?_)
      · replace hr := (if_pos c7).symm.trans hr
        refine Ev.aload at_409 rfl ?_
        refine Ev.iconst (z := 1) at_411 rfl ?_
        obtain ⟨q8, hq9, hr⟩ := Option.bind_eq_some_iff.mp hr
        refine Ev.virt (y := M_getSize) (args := [.int (1 : Int32)]) (rest := []) (gok hw) rfl nm_getSize (ww hw 138 rfl) (ww hw 139 rfl) (ww hw 140 rfl) (ww hw 141 rfl) (ww hw 142 rfl) (lenOf pd_getSize rfl) at_412 (V.2.1 s) (e_getSize hw V hq9) (by decide) (Nat.le_of_ble_eq_true rfl) rfl ?_
        refine Ev.iload at_415 rfl ?_
        refine Ev.icne (t := 571) at_417 rfl (fun c10 => ?_) (fun c10 => ?_)
        · replace hr := (if_pos c10).symm.trans hr
          refine Ev.aload at_420 rfl ?_
          refine Ev.iconst (z := 1) at_422 rfl ?_
          refine Ev.iconst (z := 0) at_423 rfl ?_
          obtain ⟨q11, hq12, hr⟩ := Option.bind_eq_some_iff.mp hr
          refine Ev.virt (y := M_read) (args := [.int (1 : Int32), .int (0 : Int32)]) (rest := []) (gok hw) rfl nm_read (ww hw 143 rfl) (ww hw 144 rfl) (ww hw 145 rfl) (ww hw 146 rfl) (ww hw 147 rfl) (lenOf pd_read rfl) at_424 (V.2.1 s) (e_read hw V hq12) (by decide) (Nat.le_of_ble_eq_true rfl) rfl ?_
          refine Ev.ifne (t := 571) at_427 rfl (fun c13 => ?_) (fun c13 => ?_)
          · replace hr := (if_pos c13).symm.trans hr
            refine Ev.aload at_430 rfl ?_
            refine Ev.iconst (z := 0) at_432 rfl ?_
            obtain ⟨q14, hq15, hr⟩ := Option.bind_eq_some_iff.mp hr
            refine Ev.virt (y := M_getState) (args := [.int (0 : Int32)]) (rest := []) (gok hw) rfl nm_getState (ww hw 128 rfl) (ww hw 129 rfl) (ww hw 130 rfl) (ww hw 131 rfl) (ww hw 132 rfl) (lenOf pd_getState rfl) at_433 (V.2.1 q11.2) (e_getState hw V hq15) (by decide) (Nat.le_of_ble_eq_true rfl) rfl ?_
            refine Ev.iload at_436 rfl ?_
            refine Ev.icne (t := 571) at_438 rfl (fun c16 => ?_) (fun c16 => ?_)
            · replace hr := (if_pos c16).symm.trans hr
              refine Ev.aload at_441 rfl ?_
              refine Ev.iconst (z := 0) at_443 rfl ?_
              obtain ⟨q17, hq18, hr⟩ := Option.bind_eq_some_iff.mp hr
              refine Ev.virt (y := M_getAddress) (args := [.int (0 : Int32)]) (rest := []) (gok hw) rfl nm_getAddress (ww hw 133 rfl) (ww hw 134 rfl) (ww hw 135 rfl) (ww hw 136 rfl) (ww hw 137 rfl) (lenOf pd_getAddress rfl) at_444 (V.2.1 q11.2) (e_getAddress hw V hq18) (by decide) (Nat.le_of_ble_eq_true rfl) rfl ?_
              refine Ev.iload at_447 rfl ?_
              refine Ev.icne (t := 571) at_449 rfl (fun c19 => ?_) (fun c19 => ?_)
              · replace hr := (if_pos c19).symm.trans hr
                refine Ev.aload at_452 rfl ?_
                refine Ev.iconst (z := 0) at_454 rfl ?_
                obtain ⟨q20, hq21, hr⟩ := Option.bind_eq_some_iff.mp hr
                refine Ev.virt (y := M_getFlags) (args := [.int (0 : Int32)]) (rest := []) (gok hw) rfl nm_getFlags (ww hw 148 rfl) (ww hw 149 rfl) (ww hw 150 rfl) (ww hw 151 rfl) (ww hw 152 rfl) (lenOf pd_getFlags rfl) at_455 (V.2.1 q11.2) (e_getFlags hw V hq21) (by decide) (Nat.le_of_ble_eq_true rfl) rfl ?_
                refine Ev.iload at_458 rfl ?_
                refine Ev.icne (t := 571) at_460 rfl (fun c22 => ?_) (fun c22 => ?_)
                · replace hr := (if_pos c22).symm.trans hr
                  refine Ev.aload at_463 rfl ?_
                  refine Ev.iconst (z := 0) at_465 rfl ?_
                  refine Ev.iconst (z := 0) at_466 rfl ?_
                  obtain ⟨q23, hq24, hr⟩ := Option.bind_eq_some_iff.mp hr
                  refine Ev.virt (y := M_read) (args := [.int (0 : Int32), .int (0 : Int32)]) (rest := []) (gok hw) rfl nm_read (ww hw 143 rfl) (ww hw 144 rfl) (ww hw 145 rfl) (ww hw 146 rfl) (ww hw 147 rfl) (lenOf pd_read rfl) at_467 (V.2.1 q11.2) (e_read hw V hq24) (by decide) (Nat.le_of_ble_eq_true rfl) rfl ?_
                  refine Ev.iload at_470 rfl ?_
                  refine Ev.ifeq (t := 479) at_472 rfl (fun c25 => ?_) (fun c25 => ?_)
                  · replace hr := (if_pos c25).symm.trans hr
                    refine Ev.iloadN at_479 rfl ?_
                    exact e_law_480 hw V  x1 x2 x3 x9 x18 x19 x20 z0 x0 q23.1 q23.2 (.val (.int x0)) rfl y4 hy4 y5 hy5 y6 hy6 (.val (.int x8)) rfl y10 hy10 (.val (.int x11)) rfl (.val (.int x12)) rfl (.val (.int x13)) rfl (.val (.int x14)) rfl (.val (.int x15)) rfl (.val (.int x16)) rfl (.val (.int x17)) rfl _ hr
                  · replace hr := (if_neg c25).symm.trans hr
                    refine Ev.iconst (z := 0) at_475 rfl ?_
                    refine Ev.goto (t := 480) at_476 rfl ?_
                    exact e_law_480 hw V  x1 x2 x3 x9 x18 x19 x20 z0 (0 : Int32) q23.1 q23.2 (.val (.int x0)) rfl y4 hy4 y5 hy5 y6 hy6 (.val (.int x8)) rfl y10 hy10 (.val (.int x11)) rfl (.val (.int x12)) rfl (.val (.int x13)) rfl (.val (.int x14)) rfl (.val (.int x15)) rfl (.val (.int x16)) rfl (.val (.int x17)) rfl _ hr
                · replace hr := (if_neg c22).symm.trans hr
                  refine Ev.iconst (z := 0) at_571 rfl ?_
                  cases hr
                  exact Ev.zret0 rfl at_572
              · replace hr := (if_neg c19).symm.trans hr
                refine Ev.iconst (z := 0) at_571 rfl ?_
                cases hr
                exact Ev.zret0 rfl at_572
            · replace hr := (if_neg c16).symm.trans hr
              refine Ev.iconst (z := 0) at_571 rfl ?_
              cases hr
              exact Ev.zret0 rfl at_572
          · replace hr := (if_neg c13).symm.trans hr
            refine Ev.iconst (z := 0) at_571 rfl ?_
            cases hr
            exact Ev.zret0 rfl at_572
        · replace hr := (if_neg c10).symm.trans hr
          refine Ev.iconst (z := 0) at_571 rfl ?_
          cases hr
          exact Ev.zret0 rfl at_572
      · replace hr := (if_neg c7).symm.trans hr
        refine Ev.iconst (z := 0) at_571 rfl ?_
        cases hr
        exact Ev.zret0 rfl at_572
    · replace hr := (if_neg c4).symm.trans hr
      refine Ev.iconst (z := 0) at_571 rfl ?_
      cases hr
      exact Ev.zret0 rfl at_572
  · replace hr := (if_neg c1).symm.trans hr
    refine Ev.iconst (z := 0) at_571 rfl ?_
    cases hr
    exact Ev.zret0 rfl at_572
def f_law_366 (n : Nat) (x0 : Int32) (x1 : Int32) (x2 : Int32) (x3 : Int32) (x5 : Int32) (x8 : Int32) (x9 : Int32) (x11 : Int32) (x12 : Int32) (x13 : Int32) (x14 : Int32) (x15 : Int32) (x16 : Int32) (x17 : Int32) (x18 : Int32) (x19 : Int32) (z0 : Int32) (s : St) : Option (Int32 × St) :=
  if x5 = 0 then
    f_law_378 n x0 x1 x2 x3 x8 x9 x11 x12 x13 x14 x15 x16 x17 x18 x19 z0 (0 : Int32) s
  else
    f_law_378 n x0 x1 x2 x3 x8 x9 x11 x12 x13 x14 x15 x16 x17 x18 x19 z0 (2 : Int32) s
set_option maxRecDepth 100000 in
theorem e_law_366 {g : GT} {n : Nat} (hw : HW g) {K : St → MHeap} {o : Nat} {r : Nat → Nat} (V : View (GG g) Ln K o r) (x0 : Int32) (x1 : Int32) (x2 : Int32) (x3 : Int32) (x5 : Int32) (x8 : Int32) (x9 : Int32) (x11 : Int32) (x12 : Int32) (x13 : Int32) (x14 : Int32) (x15 : Int32) (x16 : Int32) (x17 : Int32) (x18 : Int32) (x19 : Int32) (z0 : Int32) (s : St) (y4 : Slot) (hy4 : one1 y4 = true) (y6 : Slot) (hy6 : one1 y6 = true) (y10 : Slot) (hy10 : one1 y10 = true) (y20 : Slot) (hy20 : one1 y20 = true) (y21 : Slot) (hy21 : one1 y21 = true) (w : Int32 × St) (hr : f_law_366 n x0 x1 x2 x3 x5 x8 x9 x11 x12 x13 x14 x15 x16 x17 x18 x19 z0 s = some w) : Ev (GG g) M_law 366 [.val (.int x0), .val (.int x1), .val (.int x2), .val (.int x3), y4, .val (.int x5), y6, .val (.ref o), .val (.int x8), .val (.int x9), y10, .val (.int x11), .val (.int x12), .val (.int x13), .val (.int x14), .val (.int x15), .val (.int x16), .val (.int x17), .val (.int x18), .val (.int x19), y20, y21] [.int z0] (K s) ((some (.int w.1)), (K w.2)) := by
  unfold f_law_366 at hr
  refine Ev.istD (L' := [.val (.int x0), .val (.int x1), .val (.int x2), .val (.int x3), y4, .val (.int x5), y6, .val (.ref o), .val (.int x8), .val (.int x9), y10, .val (.int x11), .val (.int x12), .val (.int x13), .val (.int x14), .val (.int x15), .val (.int x16), .val (.int x17), .val (.int x18), .val (.int x19), .val (.int z0), y21]) at_366 rfl hy20 rfl ?_
  refine Ev.iload at_368 rfl ?_
  refine Ev.ifeq (t := 377) at_370 rfl (fun c1 => ?_) (fun c1 => ?_)
  · replace hr := (if_pos c1).symm.trans hr
    refine Ev.iconst (z := 0) at_377 rfl ?_
    exact e_law_378 hw V  x0 x1 x2 x3 x8 x9 x11 x12 x13 x14 x15 x16 x17 x18 x19 z0 (0 : Int32) s y4 hy4 (.val (.int x5)) rfl y6 hy6 y10 hy10 y21 hy21 _ hr
  · replace hr := (if_neg c1).symm.trans hr
    refine Ev.iconst (z := 2) at_373 rfl ?_
    refine Ev.goto (t := 378) at_374 rfl ?_
    exact e_law_378 hw V  x0 x1 x2 x3 x8 x9 x11 x12 x13 x14 x15 x16 x17 x18 x19 z0 (2 : Int32) s y4 hy4 (.val (.int x5)) rfl y6 hy6 y10 hy10 y21 hy21 _ hr
def f_law_345 (n : Nat) (x0 : Int32) (x1 : Int32) (x2 : Int32) (x3 : Int32) (x5 : Int32) (x8 : Int32) (x9 : Int32) (x10 : Int32) (x11 : Int32) (x12 : Int32) (x13 : Int32) (x14 : Int32) (x15 : Int32) (x16 : Int32) (x17 : Int32) (x18 : Int32) (z0 : Int32) (s : St) : Option (Int32 × St) :=
  if x10 = 0 then
    if x9 = 0 then
      f_law_366 n x0 x1 x2 x3 x5 x8 x9 x11 x12 x13 x14 x15 x16 x17 x18 z0 (0 : Int32) s
    else
      f_law_366 n x0 x1 x2 x3 x5 x8 x9 x11 x12 x13 x14 x15 x16 x17 x18 z0 (2 : Int32) s
  else
    f_law_366 n x0 x1 x2 x3 x5 x8 x9 x11 x12 x13 x14 x15 x16 x17 x18 z0 (4 : Int32) s
set_option maxRecDepth 100000 in
theorem e_law_345 {g : GT} {n : Nat} (hw : HW g) {K : St → MHeap} {o : Nat} {r : Nat → Nat} (V : View (GG g) Ln K o r) (x0 : Int32) (x1 : Int32) (x2 : Int32) (x3 : Int32) (x5 : Int32) (x8 : Int32) (x9 : Int32) (x10 : Int32) (x11 : Int32) (x12 : Int32) (x13 : Int32) (x14 : Int32) (x15 : Int32) (x16 : Int32) (x17 : Int32) (x18 : Int32) (z0 : Int32) (s : St) (y4 : Slot) (hy4 : one1 y4 = true) (y6 : Slot) (hy6 : one1 y6 = true) (y19 : Slot) (hy19 : one1 y19 = true) (y20 : Slot) (hy20 : one1 y20 = true) (y21 : Slot) (hy21 : one1 y21 = true) (w : Int32 × St) (hr : f_law_345 n x0 x1 x2 x3 x5 x8 x9 x10 x11 x12 x13 x14 x15 x16 x17 x18 z0 s = some w) : Ev (GG g) M_law 345 [.val (.int x0), .val (.int x1), .val (.int x2), .val (.int x3), y4, .val (.int x5), y6, .val (.ref o), .val (.int x8), .val (.int x9), .val (.int x10), .val (.int x11), .val (.int x12), .val (.int x13), .val (.int x14), .val (.int x15), .val (.int x16), .val (.int x17), .val (.int x18), y19, y20, y21] [.int z0] (K s) ((some (.int w.1)), (K w.2)) := by
  unfold f_law_345 at hr
  refine Ev.istD (L' := [.val (.int x0), .val (.int x1), .val (.int x2), .val (.int x3), y4, .val (.int x5), y6, .val (.ref o), .val (.int x8), .val (.int x9), .val (.int x10), .val (.int x11), .val (.int x12), .val (.int x13), .val (.int x14), .val (.int x15), .val (.int x16), .val (.int x17), .val (.int x18), .val (.int z0), y20, y21]) at_345 rfl hy19 rfl ?_
  refine Ev.iload at_347 rfl ?_
  refine Ev.ifeq (t := 356) at_349 rfl (fun c1 => ?_) (fun c1 => ?_)
  · replace hr := (if_pos c1).symm.trans hr
    refine Ev.iload at_356 rfl ?_
    refine Ev.ifeq (t := 365) at_358 rfl (fun c2 => ?_) (fun c2 => ?_)
    · replace hr := (if_pos c2).symm.trans hr
      refine Ev.iconst (z := 0) at_365 rfl ?_
      exact e_law_366 hw V  x0 x1 x2 x3 x5 x8 x9 x11 x12 x13 x14 x15 x16 x17 x18 z0 (0 : Int32) s y4 hy4 y6 hy6 (.val (.int x10)) rfl y20 hy20 y21 hy21 _ hr
    · replace hr := (if_neg c2).symm.trans hr
      refine Ev.iconst (z := 2) at_361 rfl ?_
      refine Ev.goto (t := 366) at_362 rfl ?_
      exact e_law_366 hw V  x0 x1 x2 x3 x5 x8 x9 x11 x12 x13 x14 x15 x16 x17 x18 z0 (2 : Int32) s y4 hy4 y6 hy6 (.val (.int x10)) rfl y20 hy20 y21 hy21 _ hr
  · replace hr := (if_neg c1).symm.trans hr
    refine Ev.iconst (z := 4) at_352 rfl ?_
    refine Ev.goto (t := 366) at_353 rfl ?_
    exact e_law_366 hw V  x0 x1 x2 x3 x5 x8 x9 x11 x12 x13 x14 x15 x16 x17 x18 z0 (4 : Int32) s y4 hy4 y6 hy6 (.val (.int x10)) rfl y20 hy20 y21 hy21 _ hr
def f_law_333 (n : Nat) (x0 : Int32) (x1 : Int32) (x2 : Int32) (x3 : Int32) (x5 : Int32) (x8 : Int32) (x9 : Int32) (x10 : Int32) (x11 : Int32) (x12 : Int32) (x13 : Int32) (x14 : Int32) (x15 : Int32) (x16 : Int32) (x17 : Int32) (z0 : Int32) (s : St) : Option (Int32 × St) :=
  if x5 = 0 then
    f_law_345 n x0 x1 x2 x3 x5 x8 x9 x10 x11 x12 x13 x14 x15 x16 x17 z0 (0 : Int32) s
  else
    f_law_345 n x0 x1 x2 x3 x5 x8 x9 x10 x11 x12 x13 x14 x15 x16 x17 z0 (1 : Int32) s
set_option maxRecDepth 100000 in
theorem e_law_333 {g : GT} {n : Nat} (hw : HW g) {K : St → MHeap} {o : Nat} {r : Nat → Nat} (V : View (GG g) Ln K o r) (x0 : Int32) (x1 : Int32) (x2 : Int32) (x3 : Int32) (x5 : Int32) (x8 : Int32) (x9 : Int32) (x10 : Int32) (x11 : Int32) (x12 : Int32) (x13 : Int32) (x14 : Int32) (x15 : Int32) (x16 : Int32) (x17 : Int32) (z0 : Int32) (s : St) (y4 : Slot) (hy4 : one1 y4 = true) (y6 : Slot) (hy6 : one1 y6 = true) (y18 : Slot) (hy18 : one1 y18 = true) (y19 : Slot) (hy19 : one1 y19 = true) (y20 : Slot) (hy20 : one1 y20 = true) (y21 : Slot) (hy21 : one1 y21 = true) (w : Int32 × St) (hr : f_law_333 n x0 x1 x2 x3 x5 x8 x9 x10 x11 x12 x13 x14 x15 x16 x17 z0 s = some w) : Ev (GG g) M_law 333 [.val (.int x0), .val (.int x1), .val (.int x2), .val (.int x3), y4, .val (.int x5), y6, .val (.ref o), .val (.int x8), .val (.int x9), .val (.int x10), .val (.int x11), .val (.int x12), .val (.int x13), .val (.int x14), .val (.int x15), .val (.int x16), .val (.int x17), y18, y19, y20, y21] [.int z0] (K s) ((some (.int w.1)), (K w.2)) := by
  unfold f_law_333 at hr
  refine Ev.istD (L' := [.val (.int x0), .val (.int x1), .val (.int x2), .val (.int x3), y4, .val (.int x5), y6, .val (.ref o), .val (.int x8), .val (.int x9), .val (.int x10), .val (.int x11), .val (.int x12), .val (.int x13), .val (.int x14), .val (.int x15), .val (.int x16), .val (.int x17), .val (.int z0), y19, y20, y21]) at_333 rfl hy18 rfl ?_
  refine Ev.iload at_335 rfl ?_
  refine Ev.ifeq (t := 344) at_337 rfl (fun c1 => ?_) (fun c1 => ?_)
  · replace hr := (if_pos c1).symm.trans hr
    refine Ev.iconst (z := 0) at_344 rfl ?_
    exact e_law_345 hw V  x0 x1 x2 x3 x5 x8 x9 x10 x11 x12 x13 x14 x15 x16 x17 z0 (0 : Int32) s y4 hy4 y6 hy6 y19 hy19 y20 hy20 y21 hy21 _ hr
  · replace hr := (if_neg c1).symm.trans hr
    refine Ev.iconst (z := 1) at_340 rfl ?_
    refine Ev.goto (t := 345) at_341 rfl ?_
    exact e_law_345 hw V  x0 x1 x2 x3 x5 x8 x9 x10 x11 x12 x13 x14 x15 x16 x17 z0 (1 : Int32) s y4 hy4 y6 hy6 y19 hy19 y20 hy20 y21 hy21 _ hr
def f_law_321 (n : Nat) (x0 : Int32) (x1 : Int32) (x2 : Int32) (x3 : Int32) (x5 : Int32) (x8 : Int32) (x9 : Int32) (x10 : Int32) (x11 : Int32) (x12 : Int32) (x13 : Int32) (x14 : Int32) (x15 : Int32) (x16 : Int32) (z0 : Int32) (s : St) : Option (Int32 × St) :=
  if x5 = 0 then
    f_law_333 n x0 x1 x2 x3 x5 x8 x9 x10 x11 x12 x13 x14 x15 x16 z0 (2 : Int32) s
  else
    f_law_333 n x0 x1 x2 x3 x5 x8 x9 x10 x11 x12 x13 x14 x15 x16 z0 (4 : Int32) s
set_option maxRecDepth 100000 in
theorem e_law_321 {g : GT} {n : Nat} (hw : HW g) {K : St → MHeap} {o : Nat} {r : Nat → Nat} (V : View (GG g) Ln K o r) (x0 : Int32) (x1 : Int32) (x2 : Int32) (x3 : Int32) (x5 : Int32) (x8 : Int32) (x9 : Int32) (x10 : Int32) (x11 : Int32) (x12 : Int32) (x13 : Int32) (x14 : Int32) (x15 : Int32) (x16 : Int32) (z0 : Int32) (s : St) (y4 : Slot) (hy4 : one1 y4 = true) (y6 : Slot) (hy6 : one1 y6 = true) (y17 : Slot) (hy17 : one1 y17 = true) (y18 : Slot) (hy18 : one1 y18 = true) (y19 : Slot) (hy19 : one1 y19 = true) (y20 : Slot) (hy20 : one1 y20 = true) (y21 : Slot) (hy21 : one1 y21 = true) (w : Int32 × St) (hr : f_law_321 n x0 x1 x2 x3 x5 x8 x9 x10 x11 x12 x13 x14 x15 x16 z0 s = some w) : Ev (GG g) M_law 321 [.val (.int x0), .val (.int x1), .val (.int x2), .val (.int x3), y4, .val (.int x5), y6, .val (.ref o), .val (.int x8), .val (.int x9), .val (.int x10), .val (.int x11), .val (.int x12), .val (.int x13), .val (.int x14), .val (.int x15), .val (.int x16), y17, y18, y19, y20, y21] [.int z0] (K s) ((some (.int w.1)), (K w.2)) := by
  unfold f_law_321 at hr
  refine Ev.istD (L' := [.val (.int x0), .val (.int x1), .val (.int x2), .val (.int x3), y4, .val (.int x5), y6, .val (.ref o), .val (.int x8), .val (.int x9), .val (.int x10), .val (.int x11), .val (.int x12), .val (.int x13), .val (.int x14), .val (.int x15), .val (.int x16), .val (.int z0), y18, y19, y20, y21]) at_321 rfl hy17 rfl ?_
  refine Ev.iload at_323 rfl ?_
  refine Ev.ifeq (t := 332) at_325 rfl (fun c1 => ?_) (fun c1 => ?_)
  · replace hr := (if_pos c1).symm.trans hr
    refine Ev.iconst (z := 2) at_332 rfl ?_
    exact e_law_333 hw V  x0 x1 x2 x3 x5 x8 x9 x10 x11 x12 x13 x14 x15 x16 z0 (2 : Int32) s y4 hy4 y6 hy6 y18 hy18 y19 hy19 y20 hy20 y21 hy21 _ hr
  · replace hr := (if_neg c1).symm.trans hr
    refine Ev.iconst (z := 4) at_328 rfl ?_
    refine Ev.goto (t := 333) at_329 rfl ?_
    exact e_law_333 hw V  x0 x1 x2 x3 x5 x8 x9 x10 x11 x12 x13 x14 x15 x16 z0 (4 : Int32) s y4 hy4 y6 hy6 y18 hy18 y19 hy19 y20 hy20 y21 hy21 _ hr
def f_law_300 (n : Nat) (x0 : Int32) (x1 : Int32) (x2 : Int32) (x3 : Int32) (x5 : Int32) (x6 : Int32) (x8 : Int32) (x9 : Int32) (x10 : Int32) (x11 : Int32) (x12 : Int32) (x13 : Int32) (x14 : Int32) (x15 : Int32) (z0 : Int32) (s : St) : Option (Int32 × St) :=
  if x9 = 0 then
    if x6 = 0 then
      f_law_321 n x0 x1 x2 x3 x5 x8 x9 x10 x11 x12 x13 x14 x15 z0 (0 : Int32) s
    else
      f_law_321 n x0 x1 x2 x3 x5 x8 x9 x10 x11 x12 x13 x14 x15 z0 (2 : Int32) s
  else
    f_law_321 n x0 x1 x2 x3 x5 x8 x9 x10 x11 x12 x13 x14 x15 z0 (0 : Int32) s
set_option maxRecDepth 100000 in
theorem e_law_300 {g : GT} {n : Nat} (hw : HW g) {K : St → MHeap} {o : Nat} {r : Nat → Nat} (V : View (GG g) Ln K o r) (x0 : Int32) (x1 : Int32) (x2 : Int32) (x3 : Int32) (x5 : Int32) (x6 : Int32) (x8 : Int32) (x9 : Int32) (x10 : Int32) (x11 : Int32) (x12 : Int32) (x13 : Int32) (x14 : Int32) (x15 : Int32) (z0 : Int32) (s : St) (y4 : Slot) (hy4 : one1 y4 = true) (y16 : Slot) (hy16 : one1 y16 = true) (y17 : Slot) (hy17 : one1 y17 = true) (y18 : Slot) (hy18 : one1 y18 = true) (y19 : Slot) (hy19 : one1 y19 = true) (y20 : Slot) (hy20 : one1 y20 = true) (y21 : Slot) (hy21 : one1 y21 = true) (w : Int32 × St) (hr : f_law_300 n x0 x1 x2 x3 x5 x6 x8 x9 x10 x11 x12 x13 x14 x15 z0 s = some w) : Ev (GG g) M_law 300 [.val (.int x0), .val (.int x1), .val (.int x2), .val (.int x3), y4, .val (.int x5), .val (.int x6), .val (.ref o), .val (.int x8), .val (.int x9), .val (.int x10), .val (.int x11), .val (.int x12), .val (.int x13), .val (.int x14), .val (.int x15), y16, y17, y18, y19, y20, y21] [.int z0] (K s) ((some (.int w.1)), (K w.2)) := by
  unfold f_law_300 at hr
  refine Ev.istD (L' := [.val (.int x0), .val (.int x1), .val (.int x2), .val (.int x3), y4, .val (.int x5), .val (.int x6), .val (.ref o), .val (.int x8), .val (.int x9), .val (.int x10), .val (.int x11), .val (.int x12), .val (.int x13), .val (.int x14), .val (.int x15), .val (.int z0), y17, y18, y19, y20, y21]) at_300 rfl hy16 rfl ?_
  refine Ev.iload at_302 rfl ?_
  refine Ev.ifeq (t := 311) at_304 rfl (fun c1 => ?_) (fun c1 => ?_)
  · replace hr := (if_pos c1).symm.trans hr
    refine Ev.iload at_311 rfl ?_
    refine Ev.ifeq (t := 320) at_313 rfl (fun c2 => ?_) (fun c2 => ?_)
    · replace hr := (if_pos c2).symm.trans hr
      refine Ev.iconst (z := 0) at_320 rfl ?_
      exact e_law_321 hw V  x0 x1 x2 x3 x5 x8 x9 x10 x11 x12 x13 x14 x15 z0 (0 : Int32) s y4 hy4 (.val (.int x6)) rfl y17 hy17 y18 hy18 y19 hy19 y20 hy20 y21 hy21 _ hr
    · replace hr := (if_neg c2).symm.trans hr
      refine Ev.iconst (z := 2) at_316 rfl ?_
      refine Ev.goto (t := 321) at_317 rfl ?_
      exact e_law_321 hw V  x0 x1 x2 x3 x5 x8 x9 x10 x11 x12 x13 x14 x15 z0 (2 : Int32) s y4 hy4 (.val (.int x6)) rfl y17 hy17 y18 hy18 y19 hy19 y20 hy20 y21 hy21 _ hr
  · replace hr := (if_neg c1).symm.trans hr
    refine Ev.iconst (z := 0) at_307 rfl ?_
    refine Ev.goto (t := 321) at_308 rfl ?_
    exact e_law_321 hw V  x0 x1 x2 x3 x5 x8 x9 x10 x11 x12 x13 x14 x15 z0 (0 : Int32) s y4 hy4 (.val (.int x6)) rfl y17 hy17 y18 hy18 y19 hy19 y20 hy20 y21 hy21 _ hr
def f_law_288 (n : Nat) (x0 : Int32) (x1 : Int32) (x2 : Int32) (x3 : Int32) (x5 : Int32) (x6 : Int32) (x8 : Int32) (x9 : Int32) (x10 : Int32) (x11 : Int32) (x12 : Int32) (x13 : Int32) (x14 : Int32) (z0 : Int32) (s : St) : Option (Int32 × St) :=
  if x9 = 0 then
    f_law_300 n x0 x1 x2 x3 x5 x6 x8 x9 x10 x11 x12 x13 x14 z0 (0 : Int32) s
  else
    f_law_300 n x0 x1 x2 x3 x5 x6 x8 x9 x10 x11 x12 x13 x14 z0 (-1 : Int32) s
set_option maxRecDepth 100000 in
theorem e_law_288 {g : GT} {n : Nat} (hw : HW g) {K : St → MHeap} {o : Nat} {r : Nat → Nat} (V : View (GG g) Ln K o r) (x0 : Int32) (x1 : Int32) (x2 : Int32) (x3 : Int32) (x5 : Int32) (x6 : Int32) (x8 : Int32) (x9 : Int32) (x10 : Int32) (x11 : Int32) (x12 : Int32) (x13 : Int32) (x14 : Int32) (z0 : Int32) (s : St) (y4 : Slot) (hy4 : one1 y4 = true) (y15 : Slot) (hy15 : one1 y15 = true) (y16 : Slot) (hy16 : one1 y16 = true) (y17 : Slot) (hy17 : one1 y17 = true) (y18 : Slot) (hy18 : one1 y18 = true) (y19 : Slot) (hy19 : one1 y19 = true) (y20 : Slot) (hy20 : one1 y20 = true) (y21 : Slot) (hy21 : one1 y21 = true) (w : Int32 × St) (hr : f_law_288 n x0 x1 x2 x3 x5 x6 x8 x9 x10 x11 x12 x13 x14 z0 s = some w) : Ev (GG g) M_law 288 [.val (.int x0), .val (.int x1), .val (.int x2), .val (.int x3), y4, .val (.int x5), .val (.int x6), .val (.ref o), .val (.int x8), .val (.int x9), .val (.int x10), .val (.int x11), .val (.int x12), .val (.int x13), .val (.int x14), y15, y16, y17, y18, y19, y20, y21] [.int z0] (K s) ((some (.int w.1)), (K w.2)) := by
  unfold f_law_288 at hr
  refine Ev.istD (L' := [.val (.int x0), .val (.int x1), .val (.int x2), .val (.int x3), y4, .val (.int x5), .val (.int x6), .val (.ref o), .val (.int x8), .val (.int x9), .val (.int x10), .val (.int x11), .val (.int x12), .val (.int x13), .val (.int x14), .val (.int z0), y16, y17, y18, y19, y20, y21]) at_288 rfl hy15 rfl ?_
  refine Ev.iload at_290 rfl ?_
  refine Ev.ifeq (t := 299) at_292 rfl (fun c1 => ?_) (fun c1 => ?_)
  · replace hr := (if_pos c1).symm.trans hr
    refine Ev.iconst (z := 0) at_299 rfl ?_
    exact e_law_300 hw V  x0 x1 x2 x3 x5 x6 x8 x9 x10 x11 x12 x13 x14 z0 (0 : Int32) s y4 hy4 y16 hy16 y17 hy17 y18 hy18 y19 hy19 y20 hy20 y21 hy21 _ hr
  · replace hr := (if_neg c1).symm.trans hr
    refine Ev.iconst (z := -1) at_295 rfl ?_
    refine Ev.goto (t := 300) at_296 rfl ?_
    exact e_law_300 hw V  x0 x1 x2 x3 x5 x6 x8 x9 x10 x11 x12 x13 x14 z0 (-1 : Int32) s y4 hy4 y16 hy16 y17 hy17 y18 hy18 y19 hy19 y20 hy20 y21 hy21 _ hr
def f_law_276 (n : Nat) (x0 : Int32) (x1 : Int32) (x2 : Int32) (x3 : Int32) (x5 : Int32) (x6 : Int32) (x8 : Int32) (x9 : Int32) (x10 : Int32) (x11 : Int32) (x12 : Int32) (x13 : Int32) (z0 : Int32) (s : St) : Option (Int32 × St) :=
  if x9 = 0 then
    f_law_288 n x0 x1 x2 x3 x5 x6 x8 x9 x10 x11 x12 x13 z0 (1 : Int32) s
  else
    f_law_288 n x0 x1 x2 x3 x5 x6 x8 x9 x10 x11 x12 x13 z0 (2 : Int32) s
set_option maxRecDepth 100000 in
theorem e_law_276 {g : GT} {n : Nat} (hw : HW g) {K : St → MHeap} {o : Nat} {r : Nat → Nat} (V : View (GG g) Ln K o r) (x0 : Int32) (x1 : Int32) (x2 : Int32) (x3 : Int32) (x5 : Int32) (x6 : Int32) (x8 : Int32) (x9 : Int32) (x10 : Int32) (x11 : Int32) (x12 : Int32) (x13 : Int32) (z0 : Int32) (s : St) (y4 : Slot) (hy4 : one1 y4 = true) (y14 : Slot) (hy14 : one1 y14 = true) (y15 : Slot) (hy15 : one1 y15 = true) (y16 : Slot) (hy16 : one1 y16 = true) (y17 : Slot) (hy17 : one1 y17 = true) (y18 : Slot) (hy18 : one1 y18 = true) (y19 : Slot) (hy19 : one1 y19 = true) (y20 : Slot) (hy20 : one1 y20 = true) (y21 : Slot) (hy21 : one1 y21 = true) (w : Int32 × St) (hr : f_law_276 n x0 x1 x2 x3 x5 x6 x8 x9 x10 x11 x12 x13 z0 s = some w) : Ev (GG g) M_law 276 [.val (.int x0), .val (.int x1), .val (.int x2), .val (.int x3), y4, .val (.int x5), .val (.int x6), .val (.ref o), .val (.int x8), .val (.int x9), .val (.int x10), .val (.int x11), .val (.int x12), .val (.int x13), y14, y15, y16, y17, y18, y19, y20, y21] [.int z0] (K s) ((some (.int w.1)), (K w.2)) := by
  unfold f_law_276 at hr
  refine Ev.istD (L' := [.val (.int x0), .val (.int x1), .val (.int x2), .val (.int x3), y4, .val (.int x5), .val (.int x6), .val (.ref o), .val (.int x8), .val (.int x9), .val (.int x10), .val (.int x11), .val (.int x12), .val (.int x13), .val (.int z0), y15, y16, y17, y18, y19, y20, y21]) at_276 rfl hy14 rfl ?_
  refine Ev.iload at_278 rfl ?_
  refine Ev.ifeq (t := 287) at_280 rfl (fun c1 => ?_) (fun c1 => ?_)
  · replace hr := (if_pos c1).symm.trans hr
    refine Ev.iconst (z := 1) at_287 rfl ?_
    exact e_law_288 hw V  x0 x1 x2 x3 x5 x6 x8 x9 x10 x11 x12 x13 z0 (1 : Int32) s y4 hy4 y15 hy15 y16 hy16 y17 hy17 y18 hy18 y19 hy19 y20 hy20 y21 hy21 _ hr
  · replace hr := (if_neg c1).symm.trans hr
    refine Ev.iconst (z := 2) at_283 rfl ?_
    refine Ev.goto (t := 288) at_284 rfl ?_
    exact e_law_288 hw V  x0 x1 x2 x3 x5 x6 x8 x9 x10 x11 x12 x13 z0 (2 : Int32) s y4 hy4 y15 hy15 y16 hy16 y17 hy17 y18 hy18 y19 hy19 y20 hy20 y21 hy21 _ hr
def f_law_264 (n : Nat) (x0 : Int32) (x1 : Int32) (x2 : Int32) (x3 : Int32) (x5 : Int32) (x6 : Int32) (x8 : Int32) (x9 : Int32) (x10 : Int32) (x11 : Int32) (x12 : Int32) (z0 : Int32) (s : St) : Option (Int32 × St) :=
  if x10 = 0 then
    f_law_276 n x0 x1 x2 x3 x5 x6 x8 x9 x10 x11 x12 z0 (4 : Int32) s
  else
    f_law_276 n x0 x1 x2 x3 x5 x6 x8 x9 x10 x11 x12 z0 (0 : Int32) s
set_option maxRecDepth 100000 in
theorem e_law_264 {g : GT} {n : Nat} (hw : HW g) {K : St → MHeap} {o : Nat} {r : Nat → Nat} (V : View (GG g) Ln K o r) (x0 : Int32) (x1 : Int32) (x2 : Int32) (x3 : Int32) (x5 : Int32) (x6 : Int32) (x8 : Int32) (x9 : Int32) (x10 : Int32) (x11 : Int32) (x12 : Int32) (z0 : Int32) (s : St) (y4 : Slot) (hy4 : one1 y4 = true) (y13 : Slot) (hy13 : one1 y13 = true) (y14 : Slot) (hy14 : one1 y14 = true) (y15 : Slot) (hy15 : one1 y15 = true) (y16 : Slot) (hy16 : one1 y16 = true) (y17 : Slot) (hy17 : one1 y17 = true) (y18 : Slot) (hy18 : one1 y18 = true) (y19 : Slot) (hy19 : one1 y19 = true) (y20 : Slot) (hy20 : one1 y20 = true) (y21 : Slot) (hy21 : one1 y21 = true) (w : Int32 × St) (hr : f_law_264 n x0 x1 x2 x3 x5 x6 x8 x9 x10 x11 x12 z0 s = some w) : Ev (GG g) M_law 264 [.val (.int x0), .val (.int x1), .val (.int x2), .val (.int x3), y4, .val (.int x5), .val (.int x6), .val (.ref o), .val (.int x8), .val (.int x9), .val (.int x10), .val (.int x11), .val (.int x12), y13, y14, y15, y16, y17, y18, y19, y20, y21] [.int z0] (K s) ((some (.int w.1)), (K w.2)) := by
  unfold f_law_264 at hr
  refine Ev.istD (L' := [.val (.int x0), .val (.int x1), .val (.int x2), .val (.int x3), y4, .val (.int x5), .val (.int x6), .val (.ref o), .val (.int x8), .val (.int x9), .val (.int x10), .val (.int x11), .val (.int x12), .val (.int z0), y14, y15, y16, y17, y18, y19, y20, y21]) at_264 rfl hy13 rfl ?_
  refine Ev.iload at_266 rfl ?_
  refine Ev.ifeq (t := 275) at_268 rfl (fun c1 => ?_) (fun c1 => ?_)
  · replace hr := (if_pos c1).symm.trans hr
    refine Ev.iconst (z := 4) at_275 rfl ?_
    exact e_law_276 hw V  x0 x1 x2 x3 x5 x6 x8 x9 x10 x11 x12 z0 (4 : Int32) s y4 hy4 y14 hy14 y15 hy15 y16 hy16 y17 hy17 y18 hy18 y19 hy19 y20 hy20 y21 hy21 _ hr
  · replace hr := (if_neg c1).symm.trans hr
    refine Ev.iconst (z := 0) at_271 rfl ?_
    refine Ev.goto (t := 276) at_272 rfl ?_
    exact e_law_276 hw V  x0 x1 x2 x3 x5 x6 x8 x9 x10 x11 x12 z0 (0 : Int32) s y4 hy4 y14 hy14 y15 hy15 y16 hy16 y17 hy17 y18 hy18 y19 hy19 y20 hy20 y21 hy21 _ hr
def f_law_243 (n : Nat) (x0 : Int32) (x1 : Int32) (x2 : Int32) (x3 : Int32) (x5 : Int32) (x6 : Int32) (x8 : Int32) (x9 : Int32) (x10 : Int32) (x11 : Int32) (z0 : Int32) (s : St) : Option (Int32 × St) :=
  if x10 = 0 then
    if x9 = 0 then
      f_law_264 n x0 x1 x2 x3 x5 x6 x8 x9 x10 x11 z0 (4 : Int32) s
    else
      f_law_264 n x0 x1 x2 x3 x5 x6 x8 x9 x10 x11 z0 (0 : Int32) s
  else
    f_law_264 n x0 x1 x2 x3 x5 x6 x8 x9 x10 x11 z0 (-1 : Int32) s
set_option maxRecDepth 100000 in
theorem e_law_243 {g : GT} {n : Nat} (hw : HW g) {K : St → MHeap} {o : Nat} {r : Nat → Nat} (V : View (GG g) Ln K o r) (x0 : Int32) (x1 : Int32) (x2 : Int32) (x3 : Int32) (x5 : Int32) (x6 : Int32) (x8 : Int32) (x9 : Int32) (x10 : Int32) (x11 : Int32) (z0 : Int32) (s : St) (y4 : Slot) (hy4 : one1 y4 = true) (y12 : Slot) (hy12 : one1 y12 = true) (y13 : Slot) (hy13 : one1 y13 = true) (y14 : Slot) (hy14 : one1 y14 = true) (y15 : Slot) (hy15 : one1 y15 = true) (y16 : Slot) (hy16 : one1 y16 = true) (y17 : Slot) (hy17 : one1 y17 = true) (y18 : Slot) (hy18 : one1 y18 = true) (y19 : Slot) (hy19 : one1 y19 = true) (y20 : Slot) (hy20 : one1 y20 = true) (y21 : Slot) (hy21 : one1 y21 = true) (w : Int32 × St) (hr : f_law_243 n x0 x1 x2 x3 x5 x6 x8 x9 x10 x11 z0 s = some w) : Ev (GG g) M_law 243 [.val (.int x0), .val (.int x1), .val (.int x2), .val (.int x3), y4, .val (.int x5), .val (.int x6), .val (.ref o), .val (.int x8), .val (.int x9), .val (.int x10), .val (.int x11), y12, y13, y14, y15, y16, y17, y18, y19, y20, y21] [.int z0] (K s) ((some (.int w.1)), (K w.2)) := by
  unfold f_law_243 at hr
  refine Ev.istD (L' := [.val (.int x0), .val (.int x1), .val (.int x2), .val (.int x3), y4, .val (.int x5), .val (.int x6), .val (.ref o), .val (.int x8), .val (.int x9), .val (.int x10), .val (.int x11), .val (.int z0), y13, y14, y15, y16, y17, y18, y19, y20, y21]) at_243 rfl hy12 rfl ?_
  refine Ev.iload at_245 rfl ?_
  refine Ev.ifeq (t := 254) at_247 rfl (fun c1 => ?_) (fun c1 => ?_)
  · replace hr := (if_pos c1).symm.trans hr
    refine Ev.iload at_254 rfl ?_
    refine Ev.ifeq (t := 263) at_256 rfl (fun c2 => ?_) (fun c2 => ?_)
    · replace hr := (if_pos c2).symm.trans hr
      refine Ev.iconst (z := 4) at_263 rfl ?_
      exact e_law_264 hw V  x0 x1 x2 x3 x5 x6 x8 x9 x10 x11 z0 (4 : Int32) s y4 hy4 y13 hy13 y14 hy14 y15 hy15 y16 hy16 y17 hy17 y18 hy18 y19 hy19 y20 hy20 y21 hy21 _ hr
    · replace hr := (if_neg c2).symm.trans hr
      refine Ev.iconst (z := 0) at_259 rfl ?_
      refine Ev.goto (t := 264) at_260 rfl ?_
      exact e_law_264 hw V  x0 x1 x2 x3 x5 x6 x8 x9 x10 x11 z0 (0 : Int32) s y4 hy4 y13 hy13 y14 hy14 y15 hy15 y16 hy16 y17 hy17 y18 hy18 y19 hy19 y20 hy20 y21 hy21 _ hr
  · replace hr := (if_neg c1).symm.trans hr
    refine Ev.iconst (z := -1) at_250 rfl ?_
    refine Ev.goto (t := 264) at_251 rfl ?_
    exact e_law_264 hw V  x0 x1 x2 x3 x5 x6 x8 x9 x10 x11 z0 (-1 : Int32) s y4 hy4 y13 hy13 y14 hy14 y15 hy15 y16 hy16 y17 hy17 y18 hy18 y19 hy19 y20 hy20 y21 hy21 _ hr
def f_law_231 (n : Nat) (x0 : Int32) (x1 : Int32) (x2 : Int32) (x3 : Int32) (x5 : Int32) (x6 : Int32) (x8 : Int32) (x9 : Int32) (x10 : Int32) (z0 : Int32) (s : St) : Option (Int32 × St) :=
  if x10 = 0 then
    f_law_243 n x0 x1 x2 x3 x5 x6 x8 x9 x10 z0 (1 : Int32) s
  else
    f_law_243 n x0 x1 x2 x3 x5 x6 x8 x9 x10 z0 (0 : Int32) s
set_option maxRecDepth 100000 in
theorem e_law_231 {g : GT} {n : Nat} (hw : HW g) {K : St → MHeap} {o : Nat} {r : Nat → Nat} (V : View (GG g) Ln K o r) (x0 : Int32) (x1 : Int32) (x2 : Int32) (x3 : Int32) (x5 : Int32) (x6 : Int32) (x8 : Int32) (x9 : Int32) (x10 : Int32) (z0 : Int32) (s : St) (y4 : Slot) (hy4 : one1 y4 = true) (y11 : Slot) (hy11 : one1 y11 = true) (y12 : Slot) (hy12 : one1 y12 = true) (y13 : Slot) (hy13 : one1 y13 = true) (y14 : Slot) (hy14 : one1 y14 = true) (y15 : Slot) (hy15 : one1 y15 = true) (y16 : Slot) (hy16 : one1 y16 = true) (y17 : Slot) (hy17 : one1 y17 = true) (y18 : Slot) (hy18 : one1 y18 = true) (y19 : Slot) (hy19 : one1 y19 = true) (y20 : Slot) (hy20 : one1 y20 = true) (y21 : Slot) (hy21 : one1 y21 = true) (w : Int32 × St) (hr : f_law_231 n x0 x1 x2 x3 x5 x6 x8 x9 x10 z0 s = some w) : Ev (GG g) M_law 231 [.val (.int x0), .val (.int x1), .val (.int x2), .val (.int x3), y4, .val (.int x5), .val (.int x6), .val (.ref o), .val (.int x8), .val (.int x9), .val (.int x10), y11, y12, y13, y14, y15, y16, y17, y18, y19, y20, y21] [.int z0] (K s) ((some (.int w.1)), (K w.2)) := by
  unfold f_law_231 at hr
  refine Ev.istD (L' := [.val (.int x0), .val (.int x1), .val (.int x2), .val (.int x3), y4, .val (.int x5), .val (.int x6), .val (.ref o), .val (.int x8), .val (.int x9), .val (.int x10), .val (.int z0), y12, y13, y14, y15, y16, y17, y18, y19, y20, y21]) at_231 rfl hy11 rfl ?_
  refine Ev.iload at_233 rfl ?_
  refine Ev.ifeq (t := 242) at_235 rfl (fun c1 => ?_) (fun c1 => ?_)
  · replace hr := (if_pos c1).symm.trans hr
    refine Ev.iconst (z := 1) at_242 rfl ?_
    exact e_law_243 hw V  x0 x1 x2 x3 x5 x6 x8 x9 x10 z0 (1 : Int32) s y4 hy4 y12 hy12 y13 hy13 y14 hy14 y15 hy15 y16 hy16 y17 hy17 y18 hy18 y19 hy19 y20 hy20 y21 hy21 _ hr
  · replace hr := (if_neg c1).symm.trans hr
    refine Ev.iconst (z := 0) at_238 rfl ?_
    refine Ev.goto (t := 243) at_239 rfl ?_
    exact e_law_243 hw V  x0 x1 x2 x3 x5 x6 x8 x9 x10 z0 (0 : Int32) s y4 hy4 y12 hy12 y13 hy13 y14 hy14 y15 hy15 y16 hy16 y17 hy17 y18 hy18 y19 hy19 y20 hy20 y21 hy21 _ hr
def f_law_218 (n : Nat) (x0 : Int32) (x1 : Int32) (x2 : Int32) (x3 : Int32) (x5 : Int32) (x6 : Int32) (x8 : Int32) (x9 : Int32) (z0 : Int32) (s : St) : Option (Int32 × St) :=
  if z0 = 0 then
    f_law_231 n x0 x1 x2 x3 x5 x6 x8 x9 z0 (1 : Int32) s
  else
    f_law_231 n x0 x1 x2 x3 x5 x6 x8 x9 z0 (-6 : Int32) s
set_option maxRecDepth 100000 in
theorem e_law_218 {g : GT} {n : Nat} (hw : HW g) {K : St → MHeap} {o : Nat} {r : Nat → Nat} (V : View (GG g) Ln K o r) (x0 : Int32) (x1 : Int32) (x2 : Int32) (x3 : Int32) (x5 : Int32) (x6 : Int32) (x8 : Int32) (x9 : Int32) (z0 : Int32) (s : St) (y4 : Slot) (hy4 : one1 y4 = true) (y10 : Slot) (hy10 : one1 y10 = true) (y11 : Slot) (hy11 : one1 y11 = true) (y12 : Slot) (hy12 : one1 y12 = true) (y13 : Slot) (hy13 : one1 y13 = true) (y14 : Slot) (hy14 : one1 y14 = true) (y15 : Slot) (hy15 : one1 y15 = true) (y16 : Slot) (hy16 : one1 y16 = true) (y17 : Slot) (hy17 : one1 y17 = true) (y18 : Slot) (hy18 : one1 y18 = true) (y19 : Slot) (hy19 : one1 y19 = true) (y20 : Slot) (hy20 : one1 y20 = true) (y21 : Slot) (hy21 : one1 y21 = true) (w : Int32 × St) (hr : f_law_218 n x0 x1 x2 x3 x5 x6 x8 x9 z0 s = some w) : Ev (GG g) M_law 218 [.val (.int x0), .val (.int x1), .val (.int x2), .val (.int x3), y4, .val (.int x5), .val (.int x6), .val (.ref o), .val (.int x8), .val (.int x9), y10, y11, y12, y13, y14, y15, y16, y17, y18, y19, y20, y21] [.int z0] (K s) ((some (.int w.1)), (K w.2)) := by
  unfold f_law_218 at hr
  refine Ev.istD (L' := [.val (.int x0), .val (.int x1), .val (.int x2), .val (.int x3), y4, .val (.int x5), .val (.int x6), .val (.ref o), .val (.int x8), .val (.int x9), .val (.int z0), y11, y12, y13, y14, y15, y16, y17, y18, y19, y20, y21]) at_218 rfl hy10 rfl ?_
  refine Ev.iload at_220 rfl ?_
  refine Ev.ifeq (t := 230) at_222 rfl (fun c1 => ?_) (fun c1 => ?_)
  · replace hr := (if_pos c1).symm.trans hr
    refine Ev.iconst (z := 1) at_230 rfl ?_
    exact e_law_231 hw V  x0 x1 x2 x3 x5 x6 x8 x9 z0 (1 : Int32) s y4 hy4 y11 hy11 y12 hy12 y13 hy13 y14 hy14 y15 hy15 y16 hy16 y17 hy17 y18 hy18 y19 hy19 y20 hy20 y21 hy21 _ hr
  · replace hr := (if_neg c1).symm.trans hr
    refine Ev.bipush (z := -6) at_225 rfl ?_
    refine Ev.goto (t := 231) at_227 rfl ?_
    exact e_law_231 hw V  x0 x1 x2 x3 x5 x6 x8 x9 z0 (-6 : Int32) s y4 hy4 y11 hy11 y12 hy12 y13 hy13 y14 hy14 y15 hy15 y16 hy16 y17 hy17 y18 hy18 y19 hy19 y20 hy20 y21 hy21 _ hr
def f_law_201 (n : Nat) (x0 : Int32) (x1 : Int32) (x2 : Int32) (x3 : Int32) (x5 : Int32) (x6 : Int32) (x8 : Int32) (z0 : Int32) (s : St) : Option (Int32 × St) :=
  if x5 = 0 then
    f_law_218 n x0 x1 x2 x3 x5 x6 x8 z0 (0 : Int32) s
  else
    if x6 = 0 then
      f_law_218 n x0 x1 x2 x3 x5 x6 x8 z0 (1 : Int32) s
    else
      f_law_218 n x0 x1 x2 x3 x5 x6 x8 z0 (0 : Int32) s
set_option maxRecDepth 100000 in
theorem e_law_201 {g : GT} {n : Nat} (hw : HW g) {K : St → MHeap} {o : Nat} {r : Nat → Nat} (V : View (GG g) Ln K o r) (x0 : Int32) (x1 : Int32) (x2 : Int32) (x3 : Int32) (x5 : Int32) (x6 : Int32) (x8 : Int32) (z0 : Int32) (s : St) (y4 : Slot) (hy4 : one1 y4 = true) (y9 : Slot) (hy9 : one1 y9 = true) (y10 : Slot) (hy10 : one1 y10 = true) (y11 : Slot) (hy11 : one1 y11 = true) (y12 : Slot) (hy12 : one1 y12 = true) (y13 : Slot) (hy13 : one1 y13 = true) (y14 : Slot) (hy14 : one1 y14 = true) (y15 : Slot) (hy15 : one1 y15 = true) (y16 : Slot) (hy16 : one1 y16 = true) (y17 : Slot) (hy17 : one1 y17 = true) (y18 : Slot) (hy18 : one1 y18 = true) (y19 : Slot) (hy19 : one1 y19 = true) (y20 : Slot) (hy20 : one1 y20 = true) (y21 : Slot) (hy21 : one1 y21 = true) (w : Int32 × St) (hr : f_law_201 n x0 x1 x2 x3 x5 x6 x8 z0 s = some w) : Ev (GG g) M_law 201 [.val (.int x0), .val (.int x1), .val (.int x2), .val (.int x3), y4, .val (.int x5), .val (.int x6), .val (.ref o), .val (.int x8), y9, y10, y11, y12, y13, y14, y15, y16, y17, y18, y19, y20, y21] [.int z0] (K s) ((some (.int w.1)), (K w.2)) := by
  unfold f_law_201 at hr
  refine Ev.istD (L' := [.val (.int x0), .val (.int x1), .val (.int x2), .val (.int x3), y4, .val (.int x5), .val (.int x6), .val (.ref o), .val (.int x8), .val (.int z0), y10, y11, y12, y13, y14, y15, y16, y17, y18, y19, y20, y21]) at_201 rfl hy9 rfl ?_
  refine Ev.iload at_203 rfl ?_
  refine Ev.ifeq (t := 217) at_205 rfl (fun c1 => ?_) (fun c1 => ?_)
  · replace hr := (if_pos c1).symm.trans hr
    refine Ev.iconst (z := 0) at_217 rfl ?_
    exact e_law_218 hw V  x0 x1 x2 x3 x5 x6 x8 z0 (0 : Int32) s y4 hy4 y10 hy10 y11 hy11 y12 hy12 y13 hy13 y14 hy14 y15 hy15 y16 hy16 y17 hy17 y18 hy18 y19 hy19 y20 hy20 y21 hy21 _ hr
  · replace hr := (if_neg c1).symm.trans hr
    refine Ev.iload at_208 rfl ?_
    refine Ev.ifne (t := 217) at_210 rfl (fun c2 => ?_) (fun c2 => ?_)
    · replace hr := (if_pos c2).symm.trans hr
      refine Ev.iconst (z := 1) at_213 rfl ?_
      refine Ev.goto (t := 218) at_214 rfl ?_
      exact e_law_218 hw V  x0 x1 x2 x3 x5 x6 x8 z0 (1 : Int32) s y4 hy4 y10 hy10 y11 hy11 y12 hy12 y13 hy13 y14 hy14 y15 hy15 y16 hy16 y17 hy17 y18 hy18 y19 hy19 y20 hy20 y21 hy21 _ hr
    · replace hr := (if_neg c2).symm.trans hr
      refine Ev.iconst (z := 0) at_217 rfl ?_
      exact e_law_218 hw V  x0 x1 x2 x3 x5 x6 x8 z0 (0 : Int32) s y4 hy4 y10 hy10 y11 hy11 y12 hy12 y13 hy13 y14 hy14 y15 hy15 y16 hy16 y17 hy17 y18 hy18 y19 hy19 y20 hy20 y21 hy21 _ hr
def f_law_156 (n : Nat) (x0 : Int32) (x1 : Int32) (x2 : Int32) (x3 : Int32) (x5 : Int32) (x6 : Int32) (s : St) : Option (Int32 × St) :=
  (f_dispose (1 : Int32) s).bind fun q1 =>
  if q1.1 = 0 then
    (f_largestFree n q1.2).bind fun q4 =>
    if q4.1 = (2 : Int32) then
      (f_newHandle n (4 : Int32) q4.2).bind fun q7 =>
      if x5 = 0 then
        f_law_201 n x0 x1 x2 x3 x5 x6 q7.1 (0 : Int32) q7.2
      else
        if x6 = 0 then
          f_law_201 n x0 x1 x2 x3 x5 x6 q7.1 (0 : Int32) q7.2
        else
          f_law_201 n x0 x1 x2 x3 x5 x6 q7.1 (1 : Int32) q7.2
    else
      some ((0 : Int32), q4.2)
  else
    some ((0 : Int32), q1.2)
set_option maxRecDepth 100000 in
theorem e_law_156 {g : GT} {n : Nat} (hw : HW g) {K : St → MHeap} {o : Nat} {r : Nat → Nat} (V : View (GG g) Ln K o r) (x0 : Int32) (x1 : Int32) (x2 : Int32) (x3 : Int32) (x5 : Int32) (x6 : Int32) (s : St) (y4 : Slot) (hy4 : one1 y4 = true) (y8 : Slot) (hy8 : one1 y8 = true) (y9 : Slot) (hy9 : one1 y9 = true) (y10 : Slot) (hy10 : one1 y10 = true) (y11 : Slot) (hy11 : one1 y11 = true) (y12 : Slot) (hy12 : one1 y12 = true) (y13 : Slot) (hy13 : one1 y13 = true) (y14 : Slot) (hy14 : one1 y14 = true) (y15 : Slot) (hy15 : one1 y15 = true) (y16 : Slot) (hy16 : one1 y16 = true) (y17 : Slot) (hy17 : one1 y17 = true) (y18 : Slot) (hy18 : one1 y18 = true) (y19 : Slot) (hy19 : one1 y19 = true) (y20 : Slot) (hy20 : one1 y20 = true) (y21 : Slot) (hy21 : one1 y21 = true) (w : Int32 × St) (hr : f_law_156 n x0 x1 x2 x3 x5 x6 s = some w) : Ev (GG g) M_law 156 [.val (.int x0), .val (.int x1), .val (.int x2), .val (.int x3), y4, .val (.int x5), .val (.int x6), .val (.ref o), y8, y9, y10, y11, y12, y13, y14, y15, y16, y17, y18, y19, y20, y21] [] (K s) ((some (.int w.1)), (K w.2)) := by
  unfold f_law_156 at hr
  refine Ev.aload at_156 rfl ?_
  refine Ev.iconst (z := 1) at_158 rfl ?_
  obtain ⟨q1, hq2, hr⟩ := Option.bind_eq_some_iff.mp hr
  refine Ev.virt (y := M_dispose) (args := [.int (1 : Int32)]) (rest := []) (gok hw) rfl nm_dispose (ww hw 98 rfl) (ww hw 99 rfl) (ww hw 100 rfl) (ww hw 101 rfl) (ww hw 102 rfl) (lenOf pd_dispose rfl) at_159 (V.2.1 s) (e_dispose hw V hq2) (by decide) (Nat.le_of_ble_eq_true rfl) rfl ?_
  refine Ev.ifeq (t := 167) at_162 rfl (fun c3 => ?_) (fun c3 => ?_)
  · replace hr := (if_pos c3).symm.trans hr
    refine Ev.aload at_167 rfl ?_
    obtain ⟨q4, hq5, hr⟩ := Option.bind_eq_some_iff.mp hr
    refine Ev.virt (y := M_largestFree) (args := []) (rest := []) (gok hw) rfl nm_largestFree (ww hw 103 rfl) (ww hw 104 rfl) (ww hw 105 rfl) (ww hw 106 rfl) (ww hw 107 rfl) (lenOf pd_largestFree rfl) at_169 (V.2.1 q1.2) (e_largestFree hw V hq5) (by decide) (Nat.le_of_ble_eq_true rfl) rfl ?_
    refine Ev.iconst (z := 2) at_172 rfl ?_
    refine Ev.iceq (t := 178) at_173 rfl (fun c6 => ?_) (fun c6 => ?_)
    · replace hr := (if_pos c6).symm.trans hr
      refine Ev.aload at_178 rfl ?_
      refine Ev.iconst (z := 4) at_180 rfl ?_
      obtain ⟨q7, hq8, hr⟩ := Option.bind_eq_some_iff.mp hr
      refine Ev.virt (y := M_newHandle) (args := [.int (4 : Int32)]) (rest := []) (gok hw) rfl nm_newHandle (ww hw 39 rfl) (ww hw 40 rfl) (ww hw 41 rfl) (ww hw 42 rfl) (ww hw 43 rfl) (lenOf pd_newHandle rfl) at_181 (V.2.1 q4.2) (e_newHandle hw V hq8) (by decide) (Nat.le_of_ble_eq_true rfl) rfl ?_
      refine Ev.istD (L' := [.val (.int x0), .val (.int x1), .val (.int x2), .val (.int x3), y4, .val (.int x5), .val (.int x6), .val (.ref o), .val (.int q7.1), y9, y10, y11, y12, y13, y14, y15, y16, y17, y18, y19, y20, y21]) at_184 rfl hy8 rfl ?_
      refine Ev.iload at_186 rfl ?_
      refine Ev.ifeq (t := 200) at_188 rfl (fun c9 => ?_) (fun c9 => ?_)
      · replace hr := (if_pos c9).symm.trans hr
        refine Ev.iconst (z := 0) at_200 rfl ?_
        exact e_law_201 hw V  x0 x1 x2 x3 x5 x6 q7.1 (0 : Int32) q7.2 y4 hy4 y9 hy9 y10 hy10 y11 hy11 y12 hy12 y13 hy13 y14 hy14 y15 hy15 y16 hy16 y17 hy17 y18 hy18 y19 hy19 y20 hy20 y21 hy21 _ hr
      · replace hr := (if_neg c9).symm.trans hr
        refine Ev.iload at_191 rfl ?_
        refine Ev.ifeq (t := 200) at_193 rfl (fun c10 => ?_) (fun c10 => ?_)
        · replace hr := (if_pos c10).symm.trans hr
          refine Ev.iconst (z := 0) at_200 rfl ?_
          exact e_law_201 hw V  x0 x1 x2 x3 x5 x6 q7.1 (0 : Int32) q7.2 y4 hy4 y9 hy9 y10 hy10 y11 hy11 y12 hy12 y13 hy13 y14 hy14 y15 hy15 y16 hy16 y17 hy17 y18 hy18 y19 hy19 y20 hy20 y21 hy21 _ hr
        · replace hr := (if_neg c10).symm.trans hr
          refine Ev.iconst (z := 1) at_196 rfl ?_
          refine Ev.goto (t := 201) at_197 rfl ?_
          exact e_law_201 hw V  x0 x1 x2 x3 x5 x6 q7.1 (1 : Int32) q7.2 y4 hy4 y9 hy9 y10 hy10 y11 hy11 y12 hy12 y13 hy13 y14 hy14 y15 hy15 y16 hy16 y17 hy17 y18 hy18 y19 hy19 y20 hy20 y21 hy21 _ hr
    · replace hr := (if_neg c6).symm.trans hr
      refine Ev.iconst (z := 0) at_176 rfl ?_
      cases hr
      exact Ev.zret0 rfl at_177
  · replace hr := (if_neg c3).symm.trans hr
    refine Ev.iconst (z := 0) at_165 rfl ?_
    cases hr
    exact Ev.zret0 rfl at_166
def f_law_38 (n : Nat) (x0 : Int32) (x1 : Int32) (x2 : Int32) (x3 : Int32) (x5 : Int32) (x6 : Int32) (s : St) : Option (Int32 × St) :=
  (f_newHandle n (2 : Int32) s).bind fun q1 =>
  if q1.1 = 0 then
    (f_newHandle n (2 : Int32) q1.2).bind fun q4 =>
    if q4.1 = (1 : Int32) then
      (f_newHandle n (2 : Int32) q4.2).bind fun q7 =>
      if q7.1 = (2 : Int32) then
        (f_write (0 : Int32) (0 : Int32) x0 q7.2).bind fun q10 =>
        if q10.1 = 0 then
          (f_write (0 : Int32) (1 : Int32) x1 q10.2).bind fun q13 =>
          if q13.1 = 0 then
            (f_write (2 : Int32) (0 : Int32) x2 q13.2).bind fun q16 =>
            if q16.1 = 0 then
              (f_write (2 : Int32) (1 : Int32) x3 q16.2).bind fun q19 =>
              if q19.1 = 0 then
                (f_setPurgeable (0 : Int32) x6 q19.2).bind fun q22 =>
                if q22.1 = 0 then
                  if x5 = 0 then
                    f_law_156 n x0 x1 x2 x3 x5 x6 q22.2
                  else
                    (f_lock (2 : Int32) q22.2).bind fun q26 =>
                    if q26.1 = 0 then
                      f_law_156 n x0 x1 x2 x3 x5 x6 q26.2
                    else
                      some ((0 : Int32), q26.2)
                else
                  some ((0 : Int32), q22.2)
              else
                some ((0 : Int32), q19.2)
            else
              some ((0 : Int32), q16.2)
          else
            some ((0 : Int32), q13.2)
        else
          some ((0 : Int32), q10.2)
      else
        some ((0 : Int32), q7.2)
    else
      some ((0 : Int32), q4.2)
  else
    some ((0 : Int32), q1.2)
set_option maxRecDepth 100000 in
theorem e_law_38 {g : GT} {n : Nat} (hw : HW g) {K : St → MHeap} {o : Nat} {r : Nat → Nat} (V : View (GG g) Ln K o r) (x0 : Int32) (x1 : Int32) (x2 : Int32) (x3 : Int32) (x5 : Int32) (x6 : Int32) (s : St) (y4 : Slot) (hy4 : one1 y4 = true) (y7 : Slot) (hy7 : one1 y7 = true) (y8 : Slot) (hy8 : one1 y8 = true) (y9 : Slot) (hy9 : one1 y9 = true) (y10 : Slot) (hy10 : one1 y10 = true) (y11 : Slot) (hy11 : one1 y11 = true) (y12 : Slot) (hy12 : one1 y12 = true) (y13 : Slot) (hy13 : one1 y13 = true) (y14 : Slot) (hy14 : one1 y14 = true) (y15 : Slot) (hy15 : one1 y15 = true) (y16 : Slot) (hy16 : one1 y16 = true) (y17 : Slot) (hy17 : one1 y17 = true) (y18 : Slot) (hy18 : one1 y18 = true) (y19 : Slot) (hy19 : one1 y19 = true) (y20 : Slot) (hy20 : one1 y20 = true) (y21 : Slot) (hy21 : one1 y21 = true) (w : Int32 × St) (hr : f_law_38 n x0 x1 x2 x3 x5 x6 s = some w) : Ev (GG g) M_law 38 [.val (.int x0), .val (.int x1), .val (.int x2), .val (.int x3), y4, .val (.int x5), .val (.int x6), y7, y8, y9, y10, y11, y12, y13, y14, y15, y16, y17, y18, y19, y20, y21] [.ref o] (K s) ((some (.int w.1)), (K w.2)) := by
  unfold f_law_38 at hr
  refine Ev.astD (L' := [.val (.int x0), .val (.int x1), .val (.int x2), .val (.int x3), y4, .val (.int x5), .val (.int x6), .val (.ref o), y8, y9, y10, y11, y12, y13, y14, y15, y16, y17, y18, y19, y20, y21]) at_38 rfl hy7 rfl ?_
  refine Ev.aload at_40 rfl ?_
  refine Ev.iconst (z := 2) at_42 rfl ?_
  obtain ⟨q1, hq2, hr⟩ := Option.bind_eq_some_iff.mp hr
  refine Ev.virt (y := M_newHandle) (args := [.int (2 : Int32)]) (rest := []) (gok hw) rfl nm_newHandle (ww hw 39 rfl) (ww hw 40 rfl) (ww hw 41 rfl) (ww hw 42 rfl) (ww hw 43 rfl) (lenOf pd_newHandle rfl) at_43 (V.2.1 s) (e_newHandle hw V hq2) (by decide) (Nat.le_of_ble_eq_true rfl) rfl ?_
  refine Ev.ifeq (t := 51) at_46 rfl (fun c3 => ?_) (fun c3 => ?_)
  · replace hr := (if_pos c3).symm.trans hr
    refine Ev.aload at_51 rfl ?_
    refine Ev.iconst (z := 2) at_53 rfl ?_
    obtain ⟨q4, hq5, hr⟩ := Option.bind_eq_some_iff.mp hr
    refine Ev.virt (y := M_newHandle) (args := [.int (2 : Int32)]) (rest := []) (gok hw) rfl nm_newHandle (ww hw 39 rfl) (ww hw 40 rfl) (ww hw 41 rfl) (ww hw 42 rfl) (ww hw 43 rfl) (lenOf pd_newHandle rfl) at_54 (V.2.1 q1.2) (e_newHandle hw V hq5) (by decide) (Nat.le_of_ble_eq_true rfl) rfl ?_
    refine Ev.iconst (z := 1) at_57 rfl ?_
    refine Ev.iceq (t := 63) at_58 rfl (fun c6 => ?_) (fun c6 => ?_)
    · replace hr := (if_pos c6).symm.trans hr
      refine Ev.aload at_63 rfl ?_
      refine Ev.iconst (z := 2) at_65 rfl ?_
      obtain ⟨q7, hq8, hr⟩ := Option.bind_eq_some_iff.mp hr
      refine Ev.virt (y := M_newHandle) (args := [.int (2 : Int32)]) (rest := []) (gok hw) rfl nm_newHandle (ww hw 39 rfl) (ww hw 40 rfl) (ww hw 41 rfl) (ww hw 42 rfl) (ww hw 43 rfl) (lenOf pd_newHandle rfl) at_66 (V.2.1 q4.2) (e_newHandle hw V hq8) (by decide) (Nat.le_of_ble_eq_true rfl) rfl ?_
      refine Ev.iconst (z := 2) at_69 rfl ?_
      refine Ev.iceq (t := 75) at_70 rfl (fun c9 => ?_) (fun c9 => ?_)
      · replace hr := (if_pos c9).symm.trans hr
        refine Ev.aload at_75 rfl ?_
        refine Ev.iconst (z := 0) at_77 rfl ?_
        refine Ev.iconst (z := 0) at_78 rfl ?_
        refine Ev.iloadN at_79 rfl ?_
        obtain ⟨q10, hq11, hr⟩ := Option.bind_eq_some_iff.mp hr
        refine Ev.virt (y := M_write) (args := [.int (0 : Int32), .int (0 : Int32), .int x0]) (rest := []) (gok hw) rfl nm_write (ww hw 80 rfl) (ww hw 81 rfl) (ww hw 82 rfl) (ww hw 83 rfl) (ww hw 84 rfl) (lenOf pd_write rfl) at_80 (V.2.1 q7.2) (e_write hw V hq11) (by decide) (Nat.le_of_ble_eq_true rfl) rfl ?_
        refine Ev.ifeq (t := 88) at_83 rfl (fun c12 => ?_) (fun c12 => ?_)
        · replace hr := (if_pos c12).symm.trans hr
          refine Ev.aload at_88 rfl ?_
          refine Ev.iconst (z := 0) at_90 rfl ?_
          refine Ev.iconst (z := 1) at_91 rfl ?_
          refine Ev.iloadN at_92 rfl ?_
          obtain ⟨q13, hq14, hr⟩ := Option.bind_eq_some_iff.mp hr
          refine Ev.virt (y := M_write) (args := [.int (0 : Int32), .int (1 : Int32), .int x1]) (rest := []) (gok hw) rfl nm_write (ww hw 80 rfl) (ww hw 81 rfl) (ww hw 82 rfl) (ww hw 83 rfl) (ww hw 84 rfl) (lenOf pd_write rfl) at_93 (V.2.1 q10.2) (e_write hw V hq14) (by decide) (Nat.le_of_ble_eq_true rfl) rfl ?_
          refine Ev.ifeq (t := 101) at_96 rfl (fun c15 => ?_) (fun c15 => ?_)
          · replace hr := (if_pos c15).symm.trans hr
            refine Ev.aload at_101 rfl ?_
            refine Ev.iconst (z := 2) at_103 rfl ?_
            refine Ev.iconst (z := 0) at_104 rfl ?_
            refine Ev.iloadN at_105 rfl ?_
            obtain ⟨q16, hq17, hr⟩ := Option.bind_eq_some_iff.mp hr
            refine Ev.virt (y := M_write) (args := [.int (2 : Int32), .int (0 : Int32), .int x2]) (rest := []) (gok hw) rfl nm_write (ww hw 80 rfl) (ww hw 81 rfl) (ww hw 82 rfl) (ww hw 83 rfl) (ww hw 84 rfl) (lenOf pd_write rfl) at_106 (V.2.1 q13.2) (e_write hw V hq17) (by decide) (Nat.le_of_ble_eq_true rfl) rfl ?_
            refine Ev.ifeq (t := 114) at_109 rfl (fun c18 => ?_) (fun c18 => ?_)
            · replace hr := (if_pos c18).symm.trans hr
              refine Ev.aload at_114 rfl ?_
              refine Ev.iconst (z := 2) at_116 rfl ?_
              refine Ev.iconst (z := 1) at_117 rfl ?_
              refine Ev.iloadN at_118 rfl ?_
              obtain ⟨q19, hq20, hr⟩ := Option.bind_eq_some_iff.mp hr
              refine Ev.virt (y := M_write) (args := [.int (2 : Int32), .int (1 : Int32), .int x3]) (rest := []) (gok hw) rfl nm_write (ww hw 80 rfl) (ww hw 81 rfl) (ww hw 82 rfl) (ww hw 83 rfl) (ww hw 84 rfl) (lenOf pd_write rfl) at_119 (V.2.1 q16.2) (e_write hw V hq20) (by decide) (Nat.le_of_ble_eq_true rfl) rfl ?_
              refine Ev.ifeq (t := 127) at_122 rfl (fun c21 => ?_) (fun c21 => ?_)
              · replace hr := (if_pos c21).symm.trans hr
                refine Ev.aload at_127 rfl ?_
                refine Ev.iconst (z := 0) at_129 rfl ?_
                refine Ev.iload at_130 rfl ?_
                obtain ⟨q22, hq23, hr⟩ := Option.bind_eq_some_iff.mp hr
                refine Ev.virt (y := M_setPurgeable) (args := [.int (0 : Int32), .int x6]) (rest := []) (gok hw) rfl nm_setPurgeable (ww hw 93 rfl) (ww hw 94 rfl) (ww hw 95 rfl) (ww hw 96 rfl) (ww hw 97 rfl) (lenOf pd_setPurgeable rfl) at_132 (V.2.1 q19.2) (e_setPurgeable hw V hq23) (by decide) (Nat.le_of_ble_eq_true rfl) rfl ?_
                refine Ev.ifeq (t := 140) at_135 rfl (fun c24 => ?_) (fun c24 => ?_)
                · replace hr := (if_pos c24).symm.trans hr
                  refine Ev.iload at_140 rfl ?_
                  refine Ev.ifeq (t := 156) at_142 rfl (fun c25 => ?_) (fun c25 => ?_)
                  · replace hr := (if_pos c25).symm.trans hr
                    exact e_law_156 hw V  x0 x1 x2 x3 x5 x6 q22.2 y4 hy4 y8 hy8 y9 hy9 y10 hy10 y11 hy11 y12 hy12 y13 hy13 y14 hy14 y15 hy15 y16 hy16 y17 hy17 y18 hy18 y19 hy19 y20 hy20 y21 hy21 _ hr
                  · replace hr := (if_neg c25).symm.trans hr
                    refine Ev.aload at_145 rfl ?_
                    refine Ev.iconst (z := 2) at_147 rfl ?_
                    obtain ⟨q26, hq27, hr⟩ := Option.bind_eq_some_iff.mp hr
                    refine Ev.virt (y := M_lock) (args := [.int (2 : Int32)]) (rest := []) (gok hw) rfl nm_lock (ww hw 158 rfl) (ww hw 159 rfl) (ww hw 160 rfl) (ww hw 161 rfl) (ww hw 162 rfl) (lenOf pd_lock rfl) at_148 (V.2.1 q22.2) (e_lock hw V hq27) (by decide) (Nat.le_of_ble_eq_true rfl) rfl ?_
                    refine Ev.ifeq (t := 156) at_151 rfl (fun c28 => ?_) (fun c28 => ?_)
                    · replace hr := (if_pos c28).symm.trans hr
                      exact e_law_156 hw V  x0 x1 x2 x3 x5 x6 q26.2 y4 hy4 y8 hy8 y9 hy9 y10 hy10 y11 hy11 y12 hy12 y13 hy13 y14 hy14 y15 hy15 y16 hy16 y17 hy17 y18 hy18 y19 hy19 y20 hy20 y21 hy21 _ hr
                    · replace hr := (if_neg c28).symm.trans hr
                      refine Ev.iconst (z := 0) at_154 rfl ?_
                      cases hr
                      exact Ev.zret0 rfl at_155
                · replace hr := (if_neg c24).symm.trans hr
                  refine Ev.iconst (z := 0) at_138 rfl ?_
                  cases hr
                  exact Ev.zret0 rfl at_139
              · replace hr := (if_neg c21).symm.trans hr
                refine Ev.iconst (z := 0) at_125 rfl ?_
                cases hr
                exact Ev.zret0 rfl at_126
            · replace hr := (if_neg c18).symm.trans hr
              refine Ev.iconst (z := 0) at_112 rfl ?_
              cases hr
              exact Ev.zret0 rfl at_113
          · replace hr := (if_neg c15).symm.trans hr
            refine Ev.iconst (z := 0) at_99 rfl ?_
            cases hr
            exact Ev.zret0 rfl at_100
        · replace hr := (if_neg c12).symm.trans hr
          refine Ev.iconst (z := 0) at_86 rfl ?_
          cases hr
          exact Ev.zret0 rfl at_87
      · replace hr := (if_neg c9).symm.trans hr
        refine Ev.iconst (z := 0) at_73 rfl ?_
        cases hr
        exact Ev.zret0 rfl at_74
    · replace hr := (if_neg c6).symm.trans hr
      refine Ev.iconst (z := 0) at_61 rfl ?_
      cases hr
      exact Ev.zret0 rfl at_62
  · replace hr := (if_neg c3).symm.trans hr
    refine Ev.iconst (z := 0) at_49 rfl ?_
    cases hr
    exact Ev.zret0 rfl at_50
def f_law_26 (n : Nat) (x0 : Int32) (x1 : Int32) (x2 : Int32) (x3 : Int32) (x5 : Int32) (z0 : Int32) : Option (Int32 × St) :=
  (f_ctor n (8 : Int32) (4 : Int32)).bind fun q1 =>
  f_law_38 n x0 x1 x2 x3 x5 z0 q1
set_option maxRecDepth 100000 in
theorem e_law_26 {g : GT} {n : Nat} (hw : HW g) (hk : k0 (GG g) ≤ (H0).length) (x0 : Int32) (x1 : Int32) (x2 : Int32) (x3 : Int32) (x5 : Int32) (z0 : Int32) (y4 : Slot) (hy4 : one1 y4 = true) (y6 : Slot) (hy6 : one1 y6 = true) (y7 : Slot) (hy7 : one1 y7 = true) (y8 : Slot) (hy8 : one1 y8 = true) (y9 : Slot) (hy9 : one1 y9 = true) (y10 : Slot) (hy10 : one1 y10 = true) (y11 : Slot) (hy11 : one1 y11 = true) (y12 : Slot) (hy12 : one1 y12 = true) (y13 : Slot) (hy13 : one1 y13 = true) (y14 : Slot) (hy14 : one1 y14 = true) (y15 : Slot) (hy15 : one1 y15 = true) (y16 : Slot) (hy16 : one1 y16 = true) (y17 : Slot) (hy17 : one1 y17 = true) (y18 : Slot) (hy18 : one1 y18 = true) (y19 : Slot) (hy19 : one1 y19 = true) (y20 : Slot) (hy20 : one1 y20 = true) (y21 : Slot) (hy21 : one1 y21 = true) (w : Int32 × St) (hr : f_law_26 n x0 x1 x2 x3 x5 z0 = some w) : Ev (GG g) M_law 26 [.val (.int x0), .val (.int x1), .val (.int x2), .val (.int x3), y4, .val (.int x5), y6, y7, y8, y9, y10, y11, y12, y13, y14, y15, y16, y17, y18, y19, y20, y21] [.int z0] H0 ((some (.int w.1)), (KL w.2)) := by
  unfold f_law_26 at hr
  refine Ev.istD (L' := [.val (.int x0), .val (.int x1), .val (.int x2), .val (.int x3), y4, .val (.int x5), .val (.int z0), y7, y8, y9, y10, y11, y12, y13, y14, y15, y16, y17, y18, y19, y20, y21]) at_26 rfl hy6 rfl ?_
  refine Ev.new (gok hw) (ww hw 0 rfl) at_28 (fs := dfl) rfl ?_
  refine Ev.dup at_31 rfl ?_
  refine Ev.bipush (z := 8) at_32 rfl ?_
  refine Ev.iconst (z := 4) at_34 rfl ?_
  obtain ⟨q1, hq2, hr⟩ := Option.bind_eq_some_iff.mp hr
  refine Ev.ctor (y := M_ctor) (args := [.int (8 : Int32), .int (4 : Int32)]) (rest := [.ref (H0).length]) rfl rfl nm_ctor (ww hw 3 rfl) (ww hw 4 rfl) (ww hw 5 rfl) (ww hw 2 rfl) (lenOf pd_ctor rfl) at_35 (e_ctor hw hk hq2) (by decide) (Nat.le_of_ble_eq_true rfl) rfl ?_
  exact e_law_38 hw (K := KL) (o := (H0).length) (r := rA (H0).length al) (view_of hk al_ok al_nd)  x0 x1 x2 x3 x5 z0 q1 y4 hy4 y7 hy7 y8 hy8 y9 hy9 y10 hy10 y11 hy11 y12 hy12 y13 hy13 y14 hy14 y15 hy15 y16 hy16 y17 hy17 y18 hy18 y19 hy19 y20 hy20 y21 hy21 _ hr
def f_law_12 (n : Nat) (x0 : Int32) (x1 : Int32) (x2 : Int32) (x3 : Int32) (x4 : Int32) (z0 : Int32) : Option (Int32 × St) :=
  if (x4 &&& (2 : Int32)) = 0 then
    f_law_26 n x0 x1 x2 x3 z0 (0 : Int32)
  else
    f_law_26 n x0 x1 x2 x3 z0 (1 : Int32)
set_option maxRecDepth 100000 in
theorem e_law_12 {g : GT} {n : Nat} (hw : HW g) (hk : k0 (GG g) ≤ (H0).length) (x0 : Int32) (x1 : Int32) (x2 : Int32) (x3 : Int32) (x4 : Int32) (z0 : Int32) (y5 : Slot) (hy5 : one1 y5 = true) (y6 : Slot) (hy6 : one1 y6 = true) (y7 : Slot) (hy7 : one1 y7 = true) (y8 : Slot) (hy8 : one1 y8 = true) (y9 : Slot) (hy9 : one1 y9 = true) (y10 : Slot) (hy10 : one1 y10 = true) (y11 : Slot) (hy11 : one1 y11 = true) (y12 : Slot) (hy12 : one1 y12 = true) (y13 : Slot) (hy13 : one1 y13 = true) (y14 : Slot) (hy14 : one1 y14 = true) (y15 : Slot) (hy15 : one1 y15 = true) (y16 : Slot) (hy16 : one1 y16 = true) (y17 : Slot) (hy17 : one1 y17 = true) (y18 : Slot) (hy18 : one1 y18 = true) (y19 : Slot) (hy19 : one1 y19 = true) (y20 : Slot) (hy20 : one1 y20 = true) (y21 : Slot) (hy21 : one1 y21 = true) (w : Int32 × St) (hr : f_law_12 n x0 x1 x2 x3 x4 z0 = some w) : Ev (GG g) M_law 12 [.val (.int x0), .val (.int x1), .val (.int x2), .val (.int x3), .val (.int x4), y5, y6, y7, y8, y9, y10, y11, y12, y13, y14, y15, y16, y17, y18, y19, y20, y21] [.int z0] H0 ((some (.int w.1)), (KL w.2)) := by
  unfold f_law_12 at hr
  refine Ev.istD (L' := [.val (.int x0), .val (.int x1), .val (.int x2), .val (.int x3), .val (.int x4), .val (.int z0), y6, y7, y8, y9, y10, y11, y12, y13, y14, y15, y16, y17, y18, y19, y20, y21]) at_12 rfl hy5 rfl ?_
  refine Ev.iload at_14 rfl ?_
  refine Ev.iconst (z := 2) at_16 rfl ?_
  refine Ev.iand at_17 ?_
  refine Ev.ifeq (t := 25) at_18 rfl (fun c1 => ?_) (fun c1 => ?_)
  · replace hr := (if_pos c1).symm.trans hr
    refine Ev.iconst (z := 0) at_25 rfl ?_
    exact e_law_26 hw hk  x0 x1 x2 x3 z0 (0 : Int32) (.val (.int x4)) rfl y6 hy6 y7 hy7 y8 hy8 y9 hy9 y10 hy10 y11 hy11 y12 hy12 y13 hy13 y14 hy14 y15 hy15 y16 hy16 y17 hy17 y18 hy18 y19 hy19 y20 hy20 y21 hy21 _ hr
  · replace hr := (if_neg c1).symm.trans hr
    refine Ev.iconst (z := 1) at_21 rfl ?_
    refine Ev.goto (t := 26) at_22 rfl ?_
    exact e_law_26 hw hk  x0 x1 x2 x3 z0 (1 : Int32) (.val (.int x4)) rfl y6 hy6 y7 hy7 y8 hy8 y9 hy9 y10 hy10 y11 hy11 y12 hy12 y13 hy13 y14 hy14 y15 hy15 y16 hy16 y17 hy17 y18 hy18 y19 hy19 y20 hy20 y21 hy21 _ hr
def f_law (n : Nat) (a0 : Int32) (a1 : Int32) (a2 : Int32) (a3 : Int32) (a4 : Int32) : Option (Int32 × St) :=
  if (a4 &&& (1 : Int32)) = 0 then
    f_law_12 n a0 a1 a2 a3 a4 (0 : Int32)
  else
    f_law_12 n a0 a1 a2 a3 a4 (1 : Int32)
set_option maxRecDepth 100000 in
theorem e_law {g : GT} {n : Nat} {a0 : Int32} {a1 : Int32} {a2 : Int32} {a3 : Int32} {a4 : Int32} {w : Int32 × St} (hw : HW g) (hk : k0 (GG g) ≤ (H0).length) (hr : f_law n a0 a1 a2 a3 a4 = some w) : EvC (GG g) M_law [.int a0, .int a1, .int a2, .int a3, .int a4] H0 ((some (.int w.1)), (KL w.2)) := by
  refine EvC.enter (L0 := [.val (.int a0), .val (.int a1), .val (.int a2), .val (.int a3), .val (.int a4), .unset, .unset, .unset, .unset, .unset, .unset, .unset, .unset, .unset, .unset, .unset, .unset, .unset, .unset, .unset, .unset, .unset]) pl_law (fun h => nomatch h) rfl rfl ?_
  unfold f_law at hr
  refine Ev.iload at_0 rfl ?_
  refine Ev.iconst (z := 1) at_2 rfl ?_
  refine Ev.iand at_3 ?_
  refine Ev.ifeq (t := 11) at_4 rfl (fun c1 => ?_) (fun c1 => ?_)
  · replace hr := (if_pos c1).symm.trans hr
    refine Ev.iconst (z := 0) at_11 rfl ?_
    exact e_law_12 hw hk  a0 a1 a2 a3 a4 (0 : Int32) .unset rfl .unset rfl .unset rfl .unset rfl .unset rfl .unset rfl .unset rfl .unset rfl .unset rfl .unset rfl .unset rfl .unset rfl .unset rfl .unset rfl .unset rfl .unset rfl .unset rfl _ hr
  · replace hr := (if_neg c1).symm.trans hr
    refine Ev.iconst (z := 1) at_7 rfl ?_
    refine Ev.goto (t := 12) at_8 rfl ?_
    exact e_law_12 hw hk  a0 a1 a2 a3 a4 (1 : Int32) .unset rfl .unset rfl .unset rfl .unset rfl .unset rfl .unset rfl .unset rfl .unset rfl .unset rfl .unset rfl .unset rfl .unset rfl .unset rfl .unset rfl .unset rfl .unset rfl .unset rfl _ hr
theorem fin_len (w : St) : (KL w).length - H0.length ≤ 32 := by
  have q : al.length = 9 := rfl
  unfold KL; rw [KH_len]; simp only [List.length_nil]; omega
theorem fin_hsl (w : St) : hsl 12 (KL w) - hsl 12 H0 ≤ 1600 := by
  have q : (al.map fun q => Ln q.1).sum = 736 := by decide +kernel
  have z : hsl 12 [] = 0 := rfl
  unfold KL; rw [hsl_KH, q, z]; omega
set_option maxRecDepth 100000 in
theorem comes_1 (plain : ∀ i0 i1 i2 i3 i4 : Int32, ∃ n w, f_law n i0 i1 i2 i3 i4 = some (1, w)) {Post : Tables → Env → Array Value → State → Outcome → State → Prop} (hpost : ∀ tb e args s v u, (limb_1_1.after args s (.returned v) u = true ∧ limb_1_2.after args s (.returned v) u = true ∧ True) → FrameEnd s (.returned v) u (Jvm.fieldLocs frame_1_writes args s ++ Jvm.arrayLocs frame_1_arrays args s ++ Jvm.staticLocs frame_1_statics s) 32 1600 → Post tb e args s (.returned v) u) :
    ArmFor flags0 classFile x code maxLocals ret World_1 tables_1 room_1 Calls_1 rest_1 Pre_1 Post := by
  intro l hfl _ _ p e ha hc hk s m args below hf hA hF happ hP
  obtain ⟨hcalls, hrest, hpre⟩ := hP
  obtain ⟨-, -, -, hnamed, -, -, -, hat⟩ := (Spec.applies_iff hf).mp happ
  obtain ⟨hg, hn⟩ := and_e (Cond.before_iff.mp (show (Jvm.Cond.and given_1 narrow_1).before args s = true from hpre))
  obtain ⟨g0, hg⟩ := and_e hg
  obtain ⟨g1, hg⟩ := and_e hg
  obtain ⟨g2, hg⟩ := and_e hg
  obtain ⟨g3, hg⟩ := and_e hg
  obtain ⟨g4, hg⟩ := and_e hg
  obtain ⟨w0, w1, w2, w3, w4, rfl⟩ : ∃ w0 w1 w2 w3 w4 : Value, args = #[w0, w1, w2, w3, w4] := by
    have hs : args.size = 5 := by simpa [Cond.value, given_1] using g0
    obtain ⟨L⟩ := args
    match L, hs with
    | [w0, w1, w2, w3, w4], _ => exact ⟨w0, w1, w2, w3, w4, rfl⟩
  have hw := fun d (hd : d ∈ tables_1) => atoms_spec (ws := Jvm.Cond.code x code maxLocals ret :: tables_1) hat d (List.mem_cons_of_mem _ hd)
  obtain ⟨i0, ei0⟩ := is_v g1
  obtain rfl : w0 = (.int i0) := Option.some.inj ei0
  obtain ⟨i1, ei1⟩ := is_v g2
  obtain rfl : w1 = (.int i1) := Option.some.inj ei1
  obtain ⟨i2, ei2⟩ := is_v g3
  obtain rfl : w2 = (.int i2) := Option.some.inj ei2
  obtain ⟨i3, ei3⟩ := is_v g4
  obtain rfl : w3 = (.int i3) := Option.some.inj ei3
  obtain ⟨i4, ei4⟩ := is_v hg
  obtain rfl : w4 = (.int i4) := Option.some.inj ei4
  obtain ⟨n, w, hr⟩ := plain i0 i1 i2 i3 i4
  have hE := e_law (g := (s, _, l, none, s.heap.size)) hw (Nat.le_refl _) hr
  obtain ⟨n, o, h1, h2, h3, _, L, rfl, ⟨rfl, N, -⟩, hq⟩ := hE.2 tables_1 room_1 s.heap (by decide) (by decide) (fin_len w) (fin_hsl w) ⟨rfl, Nat.le_refl _, fun a q => (nomatch q), fun i c q => by simp [H0] at q⟩ p e ha hc hk s m _ below hf ((Spec.applies_iff_loose hf).mp happ).1 ⟨rfl, State.Warmed39.refl s, rfl⟩ trivial
  exact ⟨n, _, h1, h2, h3, hpost _ _ _ _ _ _ ⟨Cond.after_iff.mpr rfl, Cond.after_iff.mpr (eq_i res_at (Term.int_eval (1)) rfl), trivial⟩ ⟨hq.1, hq.2.1, (hq.2.2.sift fun y hy => Or.inr (N y hy)).mono (fin_len w) (fin_hsl w)⟩⟩
theorem u_ctor_142 (n : Nat) (k : Nat) (x5 : Int32) (s : St) : f_ctor_142 n (k + 1) x5 s =
    (if x5 < (32 : Int32) then
      (f_clearHandle x5 s).bind fun q2 =>
      f_ctor_142 n k (x5 + (1 : Int32)) q2
    else
      some s) := rfl
theorem u_freeWords_4 (n : Nat) (s : St) (k : Nat) (x1 : Int32) (x2 : Int32) : f_freeWords_4 n s (k + 1) x1 x2 =
    (if x2 < (s.1 10) then
      grd (inb x2 32) <|
      if (s.2 2 (ix x2)) = (1 : Int32) then
        f_freeWords_4 n s k (x1 + (s.2 4 (ix x2))) (x2 + (1 : Int32))
      else
        f_freeWords_4 n s k x1 (x2 + (1 : Int32))
    else
      some ((s.1 9) - x1)) := rfl
theorem u_clearMark_2 (n : Nat) (k : Nat) (x1 : Int32) (s : St) : f_clearMark_2 n (k + 1) x1 s =
    (if x1 < (256 : Int32) then
      grd (inb x1 256) <|
      bnd (setA s 1 (ix x1) ((0 : Int32) &&& 1)) fun s3 =>
      f_clearMark_2 n k (x1 + (1 : Int32)) s3
    else
      some s) := rfl
theorem u_markLive_6 (n : Nat) (k : Nat) (x1 : Int32) (s : St) : f_markLive_6 n (k + 1) x1 s =
    (if x1 < (s.1 10) then
      grd (inb x1 32) <|
      if (s.2 2 (ix x1)) = (1 : Int32) then
        (f_markBlock n x1 s).bind fun q4 =>
        f_markLive_6 n k (x1 + (1 : Int32)) q4
      else
        f_markLive_6 n k (x1 + (1 : Int32)) s
    else
      some s) := rfl
theorem u_firstRun_4 (n : Nat) (s : St) (k : Nat) (x1 : Int32) (x2 : Int32) (x3 : Int32) : f_firstRun_4 n s (k + 1) x1 x2 x3 =
    (if x3 < (s.1 9) then
      grd (inb x3 256) <|
      if (s.2 1 (ix x3)) = 0 then
        if (x2 + (1 : Int32)) < x1 then
          f_firstRun_4 n s k x1 (x2 + (1 : Int32)) (x3 + (1 : Int32))
        else
          some ((x3 - x1) + (1 : Int32))
      else
        f_firstRun_4 n s k x1 (0 : Int32) (x3 + (1 : Int32))
    else
      some (-1 : Int32)) := rfl
theorem u_zeroWords_2 (n : Nat) (k : Nat) (x1 : Int32) (x2 : Int32) (x3 : Int32) (s : St) : f_zeroWords_2 n (k + 1) x1 x2 x3 s =
    (if x3 < x2 then
      if (x1 + x3) < 0 then
        f_zeroWords_2 n k x1 x2 (x3 + (1 : Int32)) s
      else
        if (x1 + x3) < (256 : Int32) then
          grd (inb (x1 + x3) 256) <|
          bnd (setA s 0 (ix (x1 + x3)) (0 : Int32)) fun s5 =>
          f_zeroWords_2 n k x1 x2 (x3 + (1 : Int32)) s5
        else
          f_zeroWords_2 n k x1 x2 (x3 + (1 : Int32)) s
    else
      some s) := rfl
theorem u_newHandle_20 (n : Nat) (k : Nat) (x1 : Int32) (x2 : Int32) (x3 : Int32) (s : St) : f_newHandle_20 n (k + 1) x1 x2 x3 s =
    (if x3 < (s.1 10) then
      grd (inb x3 32) <|
      if (s.2 2 (ix x3)) = 0 then
        f_newHandle_48 n x1 x3 s
      else
        f_newHandle_20 n k x1 x2 (x3 + (1 : Int32)) s
    else
      f_newHandle_48 n x1 x2 s) := rfl
/-! ### the plain law -/
theorem own_ctor {n : Nat} (hn : 40 ≤ n) (a b : Int32) : ∃ s, f_ctor n a b = some s ∧ s.1 9 = own_cl a 8 256 ∧ s.1 10 = own_cl b 2 32 ∧ s.1 11 = 0 ∧ ∀ j x, s.2 j x = if j = 3 ∧ x < 32 then -1 else 0 := by
  have h123 : ∀ w h : Int32, ∃ s, f_ctor_123 n w h zeroS = some s ∧ s.1 9 = w ∧ s.1 10 = h ∧ s.1 11 = 0 ∧ ∀ j x, s.2 j x = if j = 3 ∧ x < 32 then -1 else 0 := fun w h => by
    unfold f_ctor_123
    simp only [bnd_eq]
    have q := loopN (F := f_ctor_142 n) (N := 32) (f := fun i s => setA (setA (setA (setA (setA s 2 i 0) 3 i (-1)) 4 i 0) 7 i (0 &&& 1)) 8 i (0 &&& 1)) (fin := fun s => some s)
      (fun k i s hi => by
        rw [u_ctor_142, if_pos (ltZ (z := 32) 32 rfl hi (by omega))]
        simp only [f_clearHandle, grd_pos (inbN (n := 32) hi (by omega)), bnd_eq, Option.bind_some, ix_N (show i < 2147483648 by omega)])
      (fun k s => by rw [u_ctor_142, if_neg (by decide)]) 32 0 n (setI (setI (setI zeroS 9 w) 10 h) 11 0) (by omega) (by omega)
    rw [itr_pt (f := fun i s => setA (setA (setA (setA (setA s 2 i 0) 3 i (-1)) 4 i 0) 7 i (0 &&& 1)) 8 i (0 &&& 1)) (u := fun j v => if j = 3 then -1 else if j = 2 ∨ j = 4 ∨ j = 7 ∨ j = 8 then 0 else v) (fun _ _ => rfl) (fun i s j x => by
      simp only [setA_2]
      by_cases e : x = i
      · by_cases e1 : j = 3
        · simp [e, e1]
        · by_cases e2 : j = 2
          · simp [e, e2]
          · by_cases e3 : j = 4
            · simp [e, e3]
            · by_cases e4 : j = 7
              · simp [e, e4]
              · by_cases e5 : j = 8
                · simp [e, e5]
                · simp [e1, e2, e3, e4, e5]
      · simp [e])] at q
    refine ⟨_, q, rfl, rfl, rfl, fun j x => ?_⟩
    by_cases hx : x < 32
    · have : 0 ≤ x ∧ x < 0 + 32 := by omega
      by_cases e1 : j = 3
      · simp [this, hx, e1]
      · simp only [this, and_self, if_true, e1, if_false, false_and]
        split
        · rfl
        · rfl
    · have : ¬ (0 ≤ x ∧ x < 0 + 32) := by omega
      simp only [this, if_false, hx, and_false]
      rfl
  unfold f_ctor f_ctor_78
  have h89 : ∀ x2 x3 : Int32, f_ctor_89 n x2 x3 zeroS = f_ctor_123 n (if 256 < x3 then 256 else x3) (own_cl x2 2 32) zeroS := fun x2 x3 => by
    unfold f_ctor_89 f_ctor_100 f_ctor_112 own_cl
    by_cases q1 : 256 < x3 <;> by_cases q2 : x2 < 2 <;> by_cases q3 : 32 < x2 <;> simp [q1, q2, q3]
  simp only [h89]
  unfold own_cl
  by_cases q : a < 8
  · simp only [q, if_true]; exact h123 _ _
  · simp only [q, if_false]; exact h123 _ _

theorem own_freeW {n : Nat} (hn : 40 ≤ n) {s : St} {N : Nat} (e : s.1 10 = Int32.ofNat N) (hN : N ≤ 32) (hz : ∀ i, i < N → s.2 2 i ≠ 1) : f_freeWords n s = some (s.1 9) := by
  obtain ⟨r, e1, e2⟩ := loopP (F := fun k i (c : Int32) => f_freeWords_4 n s k c i) (N := N) (P := fun _ c => c = 0) (Q := fun r => r = s.1 9)
    (fun k i c hi hp => Or.inl ⟨c, by
      show f_freeWords_4 n s (k + 1) c (Int32.ofNat i) = _
      rw [u_freeWords_4, e, if_pos (ltN hi (by omega)), grd_pos (inbN (show i < 32 by omega) (by omega)), ix_N (by omega), if_neg (hz i hi)], hp⟩)
    (fun k c hp => ⟨_, by
      show f_freeWords_4 n s (k + 1) c (Int32.ofNat N) = _
      rw [u_freeWords_4, e, if_neg (nltN (by omega))], by subst hp; simp⟩) N 0 n 0 (by omega) (by omega) rfl
  rw [← e2]; exact e1
theorem own_freeW1 {n : Nat} (hn : 40 ≤ n) {s : St} {N : Nat} (e : s.1 10 = Int32.ofNat N) (h2 : 2 ≤ N) (hN : N ≤ 32) (hz : ∀ i, s.2 2 i = if i = 0 then 1 else 0) : f_freeWords n s = some (s.1 9 - s.2 4 0) := by
  obtain ⟨r, e1, e2⟩ := loopP (F := fun k i (c : Int32) => f_freeWords_4 n s k c i) (N := N) (P := fun i c => c = if i = 0 then 0 else s.2 4 0) (Q := fun r => r = s.1 9 - s.2 4 0)
    (fun k i c hi hp => Or.inl (by
      show ∃ s', f_freeWords_4 n s (k + 1) c (Int32.ofNat i) = _ ∧ _
      rw [u_freeWords_4, e, if_pos (ltN hi (by omega)), grd_pos (inbN (show i < 32 by omega) (by omega)), ix_N (by omega), hz]
      by_cases q : i = 0
      · subst q
        refine ⟨c + s.2 4 0, by simp, ?_⟩
        rw [hp]; simp
      · refine ⟨c, by simp [q], ?_⟩
        rw [hp]; simp [q]))
    (fun k c hp => ⟨_, by
      show f_freeWords_4 n s (k + 1) c (Int32.ofNat N) = _
      rw [u_freeWords_4, e, if_neg (nltN (by omega))], by rw [hp, if_neg (by omega)]⟩) N 0 n 0 (by omega) (by omega) rfl
  rw [← e2]; exact e1
theorem own_clear {n : Nat} (hn : 300 ≤ n) (s : St) : ∃ s', f_clearMark n s = some s' ∧ s'.1 = s.1 ∧ ∀ k x, s'.2 k x = if k = 1 ∧ x < 256 then 0 else s.2 k x := by
  have q := loopN (F := f_clearMark_2 n) (N := 256) (f := fun i s => setA s 1 i (0 &&& 1)) (fin := fun s => some s)
    (fun k i s hi => by rw [u_clearMark_2, if_pos (ltZ (z := 256) 256 rfl hi (by omega)), grd_pos (inbN (n := 256) hi (by omega)), bnd_eq, ix_N (by omega)])
    (fun k s => by rw [u_clearMark_2, if_neg (by decide)]) 256 0 n s (by omega) (by omega)
  rw [itr_pt (f := fun i s => setA s 1 i (0 &&& 1)) (u := fun j v => if j = 1 then 0 else v) (fun _ _ => rfl) (fun i s j x => by
    simp only [setA_2]
    by_cases e : x = i <;> by_cases e1 : j = 1 <;> simp [e, e1])] at q
  refine ⟨_, q, rfl, fun k x => ?_⟩
  by_cases hx : x < 256
  · have : 0 ≤ x ∧ x < 0 + 256 := by omega
    by_cases e1 : k = 1 <;> simp [this, hx, e1]
  · have : ¬ (0 ≤ x ∧ x < 0 + 256) := by omega
    simp only [this, if_false, hx, and_false]
theorem own_mark {n : Nat} (hn : 300 ≤ n) {s : St} {N : Nat} (e : s.1 10 = Int32.ofNat N) (hN : N ≤ 32) (hz : ∀ i, s.2 2 i = 0) : ∃ s', f_markLive n s = some s' ∧ s'.1 = s.1 ∧ ∀ k x, s'.2 k x = if k = 1 ∧ x < 256 then 0 else s.2 k x := by
  obtain ⟨t, e1, e2, e3⟩ := own_clear hn s
  obtain ⟨r, f1, f2⟩ := loopP (F := f_markLive_6 n) (N := N) (P := fun _ c => c = t) (Q := fun r => r = t)
    (fun k i c hi hp => Or.inl ⟨c, by
      subst hp
      rw [u_markLive_6, e2, e, if_pos (ltN hi (by omega)), grd_pos (inbN (show i < 32 by omega) (by omega)), ix_N (by omega), e3, hz]
      simp, hp⟩)
    (fun k c hp => ⟨c, by
      subst hp
      rw [u_markLive_6, e2, e, if_neg (nltN (by omega))], hp⟩) N 0 n t (by omega) (by omega) rfl
  refine ⟨t, ?_, e2, e3⟩
  unfold f_markLive
  rw [e1]
  subst f2
  exact f1
theorem own_run {n : Nat} (hn : 300 ≤ n) {s : St} {H Z : Nat} (e : s.1 9 = Int32.ofNat H) (hH : H ≤ 256) (h1 : 1 ≤ Z) (hZ : Z ≤ H) (hz : ∀ i, i < 256 → s.2 1 i = 0) : f_firstRun n s (Int32.ofNat Z) = some 0 := by
  obtain ⟨r, f1, f2⟩ := loopP (F := fun k i (c : Int32) => f_firstRun_4 n s k (Int32.ofNat Z) c i) (N := Z) (P := fun i c => c = Int32.ofNat i ∧ i < Z) (Q := fun r => r = 0)
    (fun k i c hi hp => by
      show (∃ s', f_firstRun_4 n s (k + 1) (Int32.ofNat Z) c (Int32.ofNat i) = _ ∧ _) ∨ ∃ r, f_firstRun_4 n s (k + 1) (Int32.ofNat Z) c (Int32.ofNat i) = _ ∧ _
      rw [u_firstRun_4, e, if_pos (ltN (show i < H by omega) (by omega)), grd_pos (inbN (show i < 256 by omega) (by omega)), ix_N (by omega), if_pos (hz i (by omega)), hp.1, N_succ]
      by_cases q : i + 1 < Z
      · rw [if_pos (ltN q (by omega))]
        exact Or.inl ⟨_, rfl, rfl, q⟩
      · have : Z = i + 1 := by omega
        rw [if_neg (fun q' => q ((N_lt (by omega) (by omega)).mp q'))]
        refine Or.inr ⟨_, rfl, ?_⟩
        rw [this, eq_I]
        have a : (Int32.ofNat i - Int32.ofNat (i + 1)).toInt = -1 := by
          rw [sub_I] <;> rw [N_toInt (by omega), N_toInt (by omega)] <;> omega
        have b : (1 : Int32).toInt = 1 := rfl
        rw [add_I] <;> rw [a, b] <;> first | rfl | omega)
    (fun k c hp => absurd hp.2 (Nat.lt_irrefl _)) Z 0 n 0 (by omega) (by omega) ⟨rfl, by omega⟩
  subst f2; exact f1
theorem own_zero {n : Nat} (hn : 300 ≤ n) {s : St} {Z : Nat} (hZ : Z ≤ 256) : ∃ s', f_zeroWords n 0 (Int32.ofNat Z) s = some s' ∧ s'.1 = s.1 ∧ ∀ k, k ≠ 0 → s'.2 k = s.2 k := by
  obtain ⟨r, f1, f2⟩ := loopP (F := fun k i s => f_zeroWords_2 n k 0 (Int32.ofNat Z) i s) (N := Z) (P := fun _ t => t.1 = s.1 ∧ ∀ k, k ≠ 0 → t.2 k = s.2 k) (Q := fun t => t.1 = s.1 ∧ ∀ k, k ≠ 0 → t.2 k = s.2 k)
    (fun k i c hi hp => Or.inl (by
      show ∃ s', f_zeroWords_2 n (k + 1) 0 (Int32.ofNat Z) (Int32.ofNat i) c = _ ∧ _
      rw [u_zeroWords_2, if_pos (ltN hi (by omega)), Int32.zero_add, if_neg (N_neg (by omega)), if_pos (ltZ (z := 256) 256 rfl (by omega) (by omega)), grd_pos (inbN (show i < 256 by omega) (by omega)), bnd_eq]
      refine ⟨_, rfl, hp.1, fun j hj => ?_⟩
      rw [← hp.2 j hj]
      funext x
      rw [setA_2]
      simp [hj]))
    (fun k c hp => ⟨c, by
      show f_zeroWords_2 n (k + 1) 0 (Int32.ofNat Z) (Int32.ofNat Z) c = _
      rw [u_zeroWords_2, if_neg (nltN (by omega))], hp⟩) Z 0 n s (by omega) (by omega) ⟨rfl, fun _ _ => rfl⟩
  exact ⟨r, f1, f2⟩
theorem own_new {n : Nat} (hn : 300 ≤ n) {s : St} {H N Z : Nat} (eH : s.1 9 = Int32.ofNat H) (hH : H ≤ 256) (eN : s.1 10 = Int32.ofNat N) (h2 : 2 ≤ N) (hN : N ≤ 32) (hz : ∀ i, s.2 2 i = 0) (h1 : 1 ≤ Z) (hZ : Z ≤ H) :
    ∃ s', f_newHandle n (Int32.ofNat Z) s = some (0, s') ∧ s'.1 9 = s.1 9 ∧ s'.1 10 = s.1 10 ∧ (∀ i, s'.2 2 i = if i = 0 then 1 else 0) ∧ s'.2 3 0 = 0 ∧ s'.2 4 0 = Int32.ofNat Z := by
  obtain ⟨t, e1, e2, e3⟩ := own_mark hn eN hN hz
  have e4 := own_run hn (s := t) (H := H) (Z := Z) (by rw [e2, eH]) hH h1 hZ (fun i hi => by rw [e3]; simp [hi])
  obtain ⟨m, rfl⟩ : ∃ m, n = m + 1 := ⟨n - 1, by omega⟩
  obtain ⟨u, g1, g2, g3⟩ := own_zero hn (s := setA (setA (setA (setA (setA t 2 0 1) 3 0 0) 4 0 (Int32.ofNat Z)) 7 0 (0 &&& 1)) 8 0 (0 &&& 1)) (Z := Z) (by omega)
  have i0 : ix (0 : Int32) = 0 := rfl
  have b0 : inb (0 : Int32) 32 := by decide
  unfold f_newHandle
  rw [if_neg (fun q => by rw [show (1 : Int32) = Int32.ofNat 1 from rfl, N_lt (by omega) (by omega)] at q; omega), eH, if_neg (fun q => by rw [N_lt (by omega) (by omega)] at q; omega), u_newHandle_20, eN,
    show (0 : Int32) = Int32.ofNat 0 from rfl, if_pos (ltN (by omega) (by omega)), show Int32.ofNat 0 = (0 : Int32) from rfl, grd_pos b0, i0, if_pos (hz 0)]
  unfold f_newHandle_48 f_alloc f_fit
  rw [if_neg (by decide), e1]
  simp only [Option.bind_some, e4]
  rw [if_neg (by decide)]
  simp only [Option.bind_some]
  rw [if_neg (by decide)]
  unfold f_establish
  rw [grd_pos b0]
  simp only [bnd_eq, i0, g1, Option.bind_some, f_touch, grd_pos b0]
  refine ⟨_, rfl, ?_, ?_, fun i => ?_, ?_, ?_⟩
  all_goals simp [setA_1, setI_1, setI_2, setA_2, g2, g3, e2, e3, hz, eH, eN]

def own_clr (s : St) : St := (s.1, fun k x => if k = 1 ∧ x < 256 then 0 else s.2 k x)
theorem own_clrE {n : Nat} (hn : 300 ≤ n) (s : St) : f_clearMark n s = some (own_clr s) := by
  obtain ⟨t, e1, e2, e3⟩ := own_clear hn s
  rw [e1]
  congr 1
  exact Prod.ext e2 (funext fun k => funext fun x => e3 k x)
def g_markLive (n : Nat) (s : St) : Option (St) :=
  bnd (own_clr s) fun q1 =>
  f_markLive_6 n n (0 : Int32) q1
def g_fit (n : Nat) (a0 : Int32) (s : St) : Option (Int32 × St) :=
  (g_markLive n s).bind fun q1 =>
  (f_firstRun n q1 a0).bind fun q3 =>
  some (q3, q1)
def g_compactRun (n : Nat) (a0 : Int32) (s : St) : Option (St) :=
  bnd (own_clr s) fun q1 =>
  f_compactRun_8 n n a0 (0 : Int32) (0 : Int32) q1
def g_alloc_32 (n : Nat) : Nat → Int32 → Int32 → Int32 → St → Option (Int32 × St)
  | 0 => fun _ _ _ _ => none
  | k + 1 => fun x1 x2 x4 s =>
    if (32 : Int32) < x4 then
      some ((-1 : Int32), s)
    else
      (f_victim n s x2).bind fun q2 =>
      if q2 < 0 then
        some ((-1 : Int32), s)
      else
        (f_purge q2 s).bind fun q5 =>
        (g_compactRun n x2 q5).bind fun q7 =>
        (g_fit n x1 q7).bind fun q9 =>
        if q9.1 < 0 then
          g_alloc_32 n k x1 x2 (x4 + (1 : Int32)) q9.2
        else
          some (q9.1, q9.2)
def g_alloc (n : Nat) (a0 : Int32) (a1 : Int32) (s : St) : Option (Int32 × St) :=
  (g_fit n a0 s).bind fun q1 =>
  if q1.1 < 0 then
    (g_compactRun n a1 q1.2).bind fun q4 =>
    (g_fit n a0 q4).bind fun q6 =>
    if q6.1 < 0 then
      g_alloc_32 n n a0 a1 (0 : Int32) q6.2
    else
      some (q6.1, q6.2)
  else
    some (q1.1, q1.2)
def g_newHandle_48 (n : Nat) (x1 : Int32) (x2 : Int32) (s : St) : Option (Int32 × St) :=
  if x2 < 0 then
    some ((-7 : Int32), s)
  else
    (g_alloc n x1 (-1 : Int32) s).bind fun q2 =>
    if q2.1 < 0 then
      some ((-6 : Int32), q2.2)
    else
      (f_establish n x2 q2.1 x1 q2.2).bind fun q5 =>
      some (x2, q5)
def g_newHandle_20 (n : Nat) : Nat → Int32 → Int32 → Int32 → St → Option (Int32 × St)
  | 0 => fun _ _ _ _ => none
  | k + 1 => fun x1 x2 x3 s =>
    if x3 < (s.1 10) then
      grd (inb x3 32) <|
      if (s.2 2 (ix x3)) = 0 then
        g_newHandle_48 n x1 x3 s
      else
        g_newHandle_20 n k x1 x2 (x3 + (1 : Int32)) s
    else
      g_newHandle_48 n x1 x2 s
def g_newHandle (n : Nat) (a0 : Int32) (s : St) : Option (Int32 × St) :=
  if a0 < (1 : Int32) then
    some ((-2 : Int32), s)
  else
    if (s.1 9) < a0 then
      some ((-2 : Int32), s)
    else
      g_newHandle_20 n n a0 (-1 : Int32) (0 : Int32) s
def g_largestFree (n : Nat) (s : St) : Option (Int32 × St) :=
  (g_markLive n s).bind fun q1 =>
  f_largestFree_10 n n (0 : Int32) (0 : Int32) (0 : Int32) q1
def g_law_500 (n : Nat) (x2 : Int32) (x3 : Int32) (x18 : Int32) (x19 : Int32) (x20 : Int32) (x21 : Int32) (z0 : Int32) (z1 : Int32) (s : St) : Option (Int32 × St) :=
  if z1 = z0 then
    (f_getAddress s (2 : Int32)).bind fun q2 =>
    if q2 = x18 then
      (f_getFlags s (2 : Int32)).bind fun q5 =>
      if q5 = x19 then
        (f_read (2 : Int32) (0 : Int32) s).bind fun q8 =>
        if q8.1 = x2 then
          (f_read (2 : Int32) (1 : Int32) q8.2).bind fun q11 =>
          if q11.1 = x3 then
            (f_freeWords n q11.2).bind fun q14 =>
            if q14 = x20 then
              (g_largestFree n q11.2).bind fun q17 =>
              if q17.1 = x21 then
                some ((1 : Int32), q17.2)
              else
                some ((0 : Int32), q17.2)
            else
              some ((0 : Int32), q11.2)
          else
            some ((0 : Int32), q11.2)
        else
          some ((0 : Int32), q8.2)
      else
        some ((0 : Int32), s)
    else
      some ((0 : Int32), s)
  else
    some ((0 : Int32), s)
def g_law_480 (n : Nat) (x1 : Int32) (x2 : Int32) (x3 : Int32) (x9 : Int32) (x18 : Int32) (x19 : Int32) (x20 : Int32) (x21 : Int32) (z0 : Int32) (z1 : Int32) (s : St) : Option (Int32 × St) :=
  if z1 = z0 then
    (f_read (0 : Int32) (1 : Int32) s).bind fun q2 =>
    if x9 = 0 then
      g_law_500 n x2 x3 x18 x19 x20 x21 x1 q2.1 q2.2
    else
      g_law_500 n x2 x3 x18 x19 x20 x21 (0 : Int32) q2.1 q2.2
  else
    some ((0 : Int32), s)
def g_law_378 (n : Nat) (x0 : Int32) (x1 : Int32) (x2 : Int32) (x3 : Int32) (x8 : Int32) (x9 : Int32) (x11 : Int32) (x12 : Int32) (x13 : Int32) (x14 : Int32) (x15 : Int32) (x16 : Int32) (x17 : Int32) (x18 : Int32) (x19 : Int32) (x20 : Int32) (z0 : Int32) (s : St) : Option (Int32 × St) :=
  if x8 = x11 then
    (f_getState s (1 : Int32)).bind fun q2 =>
    if q2 = x12 then
      (f_getAddress s (1 : Int32)).bind fun q5 =>
      if q5 = x13 then
        (f_getSize s (1 : Int32)).bind fun q8 =>
        if q8 = x14 then
          (f_read (1 : Int32) (0 : Int32) s).bind fun q11 =>
          if q11.1 = 0 then
            (f_getState q11.2 (0 : Int32)).bind fun q14 =>
            if q14 = x15 then
              (f_getAddress q11.2 (0 : Int32)).bind fun q17 =>
              if q17 = x16 then
                (f_getFlags q11.2 (0 : Int32)).bind fun q20 =>
                if q20 = x17 then
                  (f_read (0 : Int32) (0 : Int32) q11.2).bind fun q23 =>
                  if x9 = 0 then
                    g_law_480 n x1 x2 x3 x9 x18 x19 x20 z0 x0 q23.1 q23.2
                  else
                    g_law_480 n x1 x2 x3 x9 x18 x19 x20 z0 (0 : Int32) q23.1 q23.2
                else
                  some ((0 : Int32), q11.2)
              else
                some ((0 : Int32), q11.2)
            else
              some ((0 : Int32), q11.2)
          else
            some ((0 : Int32), q11.2)
        else
          some ((0 : Int32), s)
      else
        some ((0 : Int32), s)
    else
      some ((0 : Int32), s)
  else
    some ((0 : Int32), s)
def g_law_366 (n : Nat) (x0 : Int32) (x1 : Int32) (x2 : Int32) (x3 : Int32) (x5 : Int32) (x8 : Int32) (x9 : Int32) (x11 : Int32) (x12 : Int32) (x13 : Int32) (x14 : Int32) (x15 : Int32) (x16 : Int32) (x17 : Int32) (x18 : Int32) (x19 : Int32) (z0 : Int32) (s : St) : Option (Int32 × St) :=
  if x5 = 0 then
    g_law_378 n x0 x1 x2 x3 x8 x9 x11 x12 x13 x14 x15 x16 x17 x18 x19 z0 (0 : Int32) s
  else
    g_law_378 n x0 x1 x2 x3 x8 x9 x11 x12 x13 x14 x15 x16 x17 x18 x19 z0 (2 : Int32) s
def g_law_345 (n : Nat) (x0 : Int32) (x1 : Int32) (x2 : Int32) (x3 : Int32) (x5 : Int32) (x8 : Int32) (x9 : Int32) (x10 : Int32) (x11 : Int32) (x12 : Int32) (x13 : Int32) (x14 : Int32) (x15 : Int32) (x16 : Int32) (x17 : Int32) (x18 : Int32) (z0 : Int32) (s : St) : Option (Int32 × St) :=
  if x10 = 0 then
    if x9 = 0 then
      g_law_366 n x0 x1 x2 x3 x5 x8 x9 x11 x12 x13 x14 x15 x16 x17 x18 z0 (0 : Int32) s
    else
      g_law_366 n x0 x1 x2 x3 x5 x8 x9 x11 x12 x13 x14 x15 x16 x17 x18 z0 (2 : Int32) s
  else
    g_law_366 n x0 x1 x2 x3 x5 x8 x9 x11 x12 x13 x14 x15 x16 x17 x18 z0 (4 : Int32) s
def g_law_333 (n : Nat) (x0 : Int32) (x1 : Int32) (x2 : Int32) (x3 : Int32) (x5 : Int32) (x8 : Int32) (x9 : Int32) (x10 : Int32) (x11 : Int32) (x12 : Int32) (x13 : Int32) (x14 : Int32) (x15 : Int32) (x16 : Int32) (x17 : Int32) (z0 : Int32) (s : St) : Option (Int32 × St) :=
  if x5 = 0 then
    g_law_345 n x0 x1 x2 x3 x5 x8 x9 x10 x11 x12 x13 x14 x15 x16 x17 z0 (0 : Int32) s
  else
    g_law_345 n x0 x1 x2 x3 x5 x8 x9 x10 x11 x12 x13 x14 x15 x16 x17 z0 (1 : Int32) s
def g_law_321 (n : Nat) (x0 : Int32) (x1 : Int32) (x2 : Int32) (x3 : Int32) (x5 : Int32) (x8 : Int32) (x9 : Int32) (x10 : Int32) (x11 : Int32) (x12 : Int32) (x13 : Int32) (x14 : Int32) (x15 : Int32) (x16 : Int32) (z0 : Int32) (s : St) : Option (Int32 × St) :=
  if x5 = 0 then
    g_law_333 n x0 x1 x2 x3 x5 x8 x9 x10 x11 x12 x13 x14 x15 x16 z0 (2 : Int32) s
  else
    g_law_333 n x0 x1 x2 x3 x5 x8 x9 x10 x11 x12 x13 x14 x15 x16 z0 (4 : Int32) s
def g_law_300 (n : Nat) (x0 : Int32) (x1 : Int32) (x2 : Int32) (x3 : Int32) (x5 : Int32) (x6 : Int32) (x8 : Int32) (x9 : Int32) (x10 : Int32) (x11 : Int32) (x12 : Int32) (x13 : Int32) (x14 : Int32) (x15 : Int32) (z0 : Int32) (s : St) : Option (Int32 × St) :=
  if x9 = 0 then
    if x6 = 0 then
      g_law_321 n x0 x1 x2 x3 x5 x8 x9 x10 x11 x12 x13 x14 x15 z0 (0 : Int32) s
    else
      g_law_321 n x0 x1 x2 x3 x5 x8 x9 x10 x11 x12 x13 x14 x15 z0 (2 : Int32) s
  else
    g_law_321 n x0 x1 x2 x3 x5 x8 x9 x10 x11 x12 x13 x14 x15 z0 (0 : Int32) s
def g_law_288 (n : Nat) (x0 : Int32) (x1 : Int32) (x2 : Int32) (x3 : Int32) (x5 : Int32) (x6 : Int32) (x8 : Int32) (x9 : Int32) (x10 : Int32) (x11 : Int32) (x12 : Int32) (x13 : Int32) (x14 : Int32) (z0 : Int32) (s : St) : Option (Int32 × St) :=
  if x9 = 0 then
    g_law_300 n x0 x1 x2 x3 x5 x6 x8 x9 x10 x11 x12 x13 x14 z0 (0 : Int32) s
  else
    g_law_300 n x0 x1 x2 x3 x5 x6 x8 x9 x10 x11 x12 x13 x14 z0 (-1 : Int32) s
def g_law_276 (n : Nat) (x0 : Int32) (x1 : Int32) (x2 : Int32) (x3 : Int32) (x5 : Int32) (x6 : Int32) (x8 : Int32) (x9 : Int32) (x10 : Int32) (x11 : Int32) (x12 : Int32) (x13 : Int32) (z0 : Int32) (s : St) : Option (Int32 × St) :=
  if x9 = 0 then
    g_law_288 n x0 x1 x2 x3 x5 x6 x8 x9 x10 x11 x12 x13 z0 (1 : Int32) s
  else
    g_law_288 n x0 x1 x2 x3 x5 x6 x8 x9 x10 x11 x12 x13 z0 (2 : Int32) s
def g_law_264 (n : Nat) (x0 : Int32) (x1 : Int32) (x2 : Int32) (x3 : Int32) (x5 : Int32) (x6 : Int32) (x8 : Int32) (x9 : Int32) (x10 : Int32) (x11 : Int32) (x12 : Int32) (z0 : Int32) (s : St) : Option (Int32 × St) :=
  if x10 = 0 then
    g_law_276 n x0 x1 x2 x3 x5 x6 x8 x9 x10 x11 x12 z0 (4 : Int32) s
  else
    g_law_276 n x0 x1 x2 x3 x5 x6 x8 x9 x10 x11 x12 z0 (0 : Int32) s
def g_law_243 (n : Nat) (x0 : Int32) (x1 : Int32) (x2 : Int32) (x3 : Int32) (x5 : Int32) (x6 : Int32) (x8 : Int32) (x9 : Int32) (x10 : Int32) (x11 : Int32) (z0 : Int32) (s : St) : Option (Int32 × St) :=
  if x10 = 0 then
    if x9 = 0 then
      g_law_264 n x0 x1 x2 x3 x5 x6 x8 x9 x10 x11 z0 (4 : Int32) s
    else
      g_law_264 n x0 x1 x2 x3 x5 x6 x8 x9 x10 x11 z0 (0 : Int32) s
  else
    g_law_264 n x0 x1 x2 x3 x5 x6 x8 x9 x10 x11 z0 (-1 : Int32) s
def g_law_231 (n : Nat) (x0 : Int32) (x1 : Int32) (x2 : Int32) (x3 : Int32) (x5 : Int32) (x6 : Int32) (x8 : Int32) (x9 : Int32) (x10 : Int32) (z0 : Int32) (s : St) : Option (Int32 × St) :=
  if x10 = 0 then
    g_law_243 n x0 x1 x2 x3 x5 x6 x8 x9 x10 z0 (1 : Int32) s
  else
    g_law_243 n x0 x1 x2 x3 x5 x6 x8 x9 x10 z0 (0 : Int32) s
def g_law_218 (n : Nat) (x0 : Int32) (x1 : Int32) (x2 : Int32) (x3 : Int32) (x5 : Int32) (x6 : Int32) (x8 : Int32) (x9 : Int32) (z0 : Int32) (s : St) : Option (Int32 × St) :=
  if z0 = 0 then
    g_law_231 n x0 x1 x2 x3 x5 x6 x8 x9 z0 (1 : Int32) s
  else
    g_law_231 n x0 x1 x2 x3 x5 x6 x8 x9 z0 (-6 : Int32) s
def g_law_201 (n : Nat) (x0 : Int32) (x1 : Int32) (x2 : Int32) (x3 : Int32) (x5 : Int32) (x6 : Int32) (x8 : Int32) (z0 : Int32) (s : St) : Option (Int32 × St) :=
  if x5 = 0 then
    g_law_218 n x0 x1 x2 x3 x5 x6 x8 z0 (0 : Int32) s
  else
    if x6 = 0 then
      g_law_218 n x0 x1 x2 x3 x5 x6 x8 z0 (1 : Int32) s
    else
      g_law_218 n x0 x1 x2 x3 x5 x6 x8 z0 (0 : Int32) s
def g_law_156 (n : Nat) (x0 : Int32) (x1 : Int32) (x2 : Int32) (x3 : Int32) (x5 : Int32) (x6 : Int32) (s : St) : Option (Int32 × St) :=
  (f_dispose (1 : Int32) s).bind fun q1 =>
  if q1.1 = 0 then
    (g_largestFree n q1.2).bind fun q4 =>
    if q4.1 = (2 : Int32) then
      (g_newHandle n (4 : Int32) q4.2).bind fun q7 =>
      if x5 = 0 then
        g_law_201 n x0 x1 x2 x3 x5 x6 q7.1 (0 : Int32) q7.2
      else
        if x6 = 0 then
          g_law_201 n x0 x1 x2 x3 x5 x6 q7.1 (0 : Int32) q7.2
        else
          g_law_201 n x0 x1 x2 x3 x5 x6 q7.1 (1 : Int32) q7.2
    else
      some ((0 : Int32), q4.2)
  else
    some ((0 : Int32), q1.2)
def g_law_38 (n : Nat) (x0 : Int32) (x1 : Int32) (x2 : Int32) (x3 : Int32) (x5 : Int32) (x6 : Int32) (s : St) : Option (Int32 × St) :=
  (g_newHandle n (2 : Int32) s).bind fun q1 =>
  if q1.1 = 0 then
    (g_newHandle n (2 : Int32) q1.2).bind fun q4 =>
    if q4.1 = (1 : Int32) then
      (g_newHandle n (2 : Int32) q4.2).bind fun q7 =>
      if q7.1 = (2 : Int32) then
        (f_write (0 : Int32) (0 : Int32) x0 q7.2).bind fun q10 =>
        if q10.1 = 0 then
          (f_write (0 : Int32) (1 : Int32) x1 q10.2).bind fun q13 =>
          if q13.1 = 0 then
            (f_write (2 : Int32) (0 : Int32) x2 q13.2).bind fun q16 =>
            if q16.1 = 0 then
              (f_write (2 : Int32) (1 : Int32) x3 q16.2).bind fun q19 =>
              if q19.1 = 0 then
                (f_setPurgeable (0 : Int32) x6 q19.2).bind fun q22 =>
                if q22.1 = 0 then
                  if x5 = 0 then
                    g_law_156 n x0 x1 x2 x3 x5 x6 q22.2
                  else
                    (f_lock (2 : Int32) q22.2).bind fun q26 =>
                    if q26.1 = 0 then
                      g_law_156 n x0 x1 x2 x3 x5 x6 q26.2
                    else
                      some ((0 : Int32), q26.2)
                else
                  some ((0 : Int32), q22.2)
              else
                some ((0 : Int32), q19.2)
            else
              some ((0 : Int32), q16.2)
          else
            some ((0 : Int32), q13.2)
        else
          some ((0 : Int32), q10.2)
      else
        some ((0 : Int32), q7.2)
    else
      some ((0 : Int32), q4.2)
  else
    some ((0 : Int32), q1.2)
theorem g_markLiveE {n : Nat} (hn : 300 ≤ n) (s : St) : f_markLive n s = g_markLive n s := by
  unfold f_markLive g_markLive
  rw [own_clrE hn]
  rfl
theorem g_fitE {n : Nat} (hn : 300 ≤ n) (a : Int32) (s : St) : f_fit n a s = g_fit n a s := by
  unfold f_fit g_fit
  rw [g_markLiveE hn]
theorem g_compactRunE {n : Nat} (hn : 300 ≤ n) (a : Int32) (s : St) : f_compactRun n a s = g_compactRun n a s := by
  unfold f_compactRun g_compactRun
  rw [own_clrE hn]
  rfl
theorem g_alloc_32E {n : Nat} (hn : 300 ≤ n) : ∀ (k : Nat) (x1 x2 x4 : Int32) (s : St), f_alloc_32 n k x1 x2 x4 s = g_alloc_32 n k x1 x2 x4 s := by
  intro k
  induction k with
  | zero => intros; rfl
  | succ k ih => intro x1 x2 x4 s; simp only [f_alloc_32, g_alloc_32, g_compactRunE hn, g_fitE hn, ih]
theorem g_allocE {n : Nat} (hn : 300 ≤ n) (a b : Int32) (s : St) : f_alloc n a b s = g_alloc n a b s := by
  unfold f_alloc g_alloc
  simp only [g_fitE hn, g_compactRunE hn, g_alloc_32E hn]
theorem g_newHandle_48E {n : Nat} (hn : 300 ≤ n) (a b : Int32) (s : St) : f_newHandle_48 n a b s = g_newHandle_48 n a b s := by
  unfold f_newHandle_48 g_newHandle_48
  simp only [g_allocE hn]
theorem g_newHandle_20E {n : Nat} (hn : 300 ≤ n) : ∀ (k : Nat) (x1 x2 x3 : Int32) (s : St), f_newHandle_20 n k x1 x2 x3 s = g_newHandle_20 n k x1 x2 x3 s := by
  intro k
  induction k with
  | zero => intros; rfl
  | succ k ih => intro x1 x2 x3 s; simp only [f_newHandle_20, g_newHandle_20, g_newHandle_48E hn, ih]
theorem g_newHandleE {n : Nat} (hn : 300 ≤ n) {a : Int32} {s : St} : f_newHandle n a s = g_newHandle n a s := by
  unfold f_newHandle g_newHandle
  simp only [g_newHandle_20E hn]
theorem g_largestFreeE {n : Nat} (hn : 300 ≤ n) {s : St} : f_largestFree n s = g_largestFree n s := by
  unfold f_largestFree g_largestFree
  rw [g_markLiveE hn]
def own_B : St := ((setI (setI (setI zeroS 9 8) 10 4) 11 0).1, fun j x => if j = 3 ∧ x < 32 then -1 else 0)
theorem own_c {n : Nat} (hn : 40 ≤ n) : f_ctor n 8 4 = some own_B := by
  have e : f_ctor n 8 4 = f_ctor_142 n n 0 (setI (setI (setI zeroS 9 8) 10 4) 11 0) := by
    simp only [f_ctor, f_ctor_78, f_ctor_89, f_ctor_100, f_ctor_112, f_ctor_123, show ¬ (8 : Int32) < 8 by decide, show ¬ (256 : Int32) < 8 by decide, show ¬ (4 : Int32) < 2 by decide, show ¬ (32 : Int32) < 4 by decide, if_false, bnd_eq]
  have q := loopN (F := f_ctor_142 n) (N := 32) (f := fun i s => setA (setA (setA (setA (setA s 2 i 0) 3 i (-1)) 4 i 0) 7 i (0 &&& 1)) 8 i (0 &&& 1)) (fin := fun s => some s)
    (fun k i s hi => by
      rw [u_ctor_142, if_pos (ltZ (z := 32) 32 rfl hi (by omega))]
      simp only [f_clearHandle, grd_pos (inbN (n := 32) hi (by omega)), bnd_eq, Option.bind_some, ix_N (show i < 2147483648 by omega)])
    (fun k s => by rw [u_ctor_142, if_neg (by decide)]) 32 0 n (setI (setI (setI zeroS 9 8) 10 4) 11 0) (by omega) (by omega)
  rw [itr_pt (f := fun i s => setA (setA (setA (setA (setA s 2 i 0) 3 i (-1)) 4 i 0) 7 i (0 &&& 1)) 8 i (0 &&& 1)) (u := fun j v => if j = 3 then -1 else if j = 2 ∨ j = 4 ∨ j = 7 ∨ j = 8 then 0 else v) (fun _ _ => rfl) (fun i s j x => by
    simp only [setA_2]
    by_cases e : x = i
    · by_cases e1 : j = 3
      · simp [e, e1]
      · by_cases e2 : j = 2
        · simp [e, e2]
        · by_cases e3 : j = 4
          · simp [e, e3]
          · by_cases e4 : j = 7
            · simp [e, e4]
            · by_cases e5 : j = 8
              · simp [e, e5]
              · simp [e1, e2, e3, e4, e5]
    · simp [e])] at q
  rw [e]
  refine q.trans (congrArg some (Prod.ext rfl ?_))
  funext j x
  show (if 0 ≤ x ∧ x < 0 + 32 then (if j = 3 then -1 else if j = 2 ∨ j = 4 ∨ j = 7 ∨ j = 8 then 0 else (0 : Int32)) else 0) = if j = 3 ∧ x < 32 then -1 else 0
  by_cases hx : x < 32
  · have : 0 ≤ x ∧ x < 0 + 32 := by omega
    by_cases e1 : j = 3
    · simp [this, hx, e1]
    · simp only [this, and_self, if_true, e1, if_false, false_and, ite_self]
  · have : ¬ (0 ≤ x ∧ x < 0 + 32) := by omega
    simp only [this, if_false, hx, and_false]
theorem g_law_500E {n : Nat} (hn : 300 ≤ n) (x2 : Int32) (x3 : Int32) (x18 : Int32) (x19 : Int32) (x20 : Int32) (x21 : Int32) (z0 : Int32) (z1 : Int32) (s : St) : f_law_500 n x2 x3 x18 x19 x20 x21 z0 z1 s = g_law_500 n x2 x3 x18 x19 x20 x21 z0 z1 s := by
  unfold f_law_500 g_law_500
  simp only [g_largestFreeE hn]
theorem g_law_480E {n : Nat} (hn : 300 ≤ n) (x1 : Int32) (x2 : Int32) (x3 : Int32) (x9 : Int32) (x18 : Int32) (x19 : Int32) (x20 : Int32) (x21 : Int32) (z0 : Int32) (z1 : Int32) (s : St) : f_law_480 n x1 x2 x3 x9 x18 x19 x20 x21 z0 z1 s = g_law_480 n x1 x2 x3 x9 x18 x19 x20 x21 z0 z1 s := by
  unfold f_law_480 g_law_480
  simp only [g_law_500E hn]
theorem g_law_378E {n : Nat} (hn : 300 ≤ n) (x0 : Int32) (x1 : Int32) (x2 : Int32) (x3 : Int32) (x8 : Int32) (x9 : Int32) (x11 : Int32) (x12 : Int32) (x13 : Int32) (x14 : Int32) (x15 : Int32) (x16 : Int32) (x17 : Int32) (x18 : Int32) (x19 : Int32) (x20 : Int32) (z0 : Int32) (s : St) : f_law_378 n x0 x1 x2 x3 x8 x9 x11 x12 x13 x14 x15 x16 x17 x18 x19 x20 z0 s = g_law_378 n x0 x1 x2 x3 x8 x9 x11 x12 x13 x14 x15 x16 x17 x18 x19 x20 z0 s := by
  unfold f_law_378 g_law_378
  simp only [g_law_480E hn]
theorem g_law_366E {n : Nat} (hn : 300 ≤ n) (x0 : Int32) (x1 : Int32) (x2 : Int32) (x3 : Int32) (x5 : Int32) (x8 : Int32) (x9 : Int32) (x11 : Int32) (x12 : Int32) (x13 : Int32) (x14 : Int32) (x15 : Int32) (x16 : Int32) (x17 : Int32) (x18 : Int32) (x19 : Int32) (z0 : Int32) (s : St) : f_law_366 n x0 x1 x2 x3 x5 x8 x9 x11 x12 x13 x14 x15 x16 x17 x18 x19 z0 s = g_law_366 n x0 x1 x2 x3 x5 x8 x9 x11 x12 x13 x14 x15 x16 x17 x18 x19 z0 s := by
  unfold f_law_366 g_law_366
  simp only [g_law_378E hn]
theorem g_law_345E {n : Nat} (hn : 300 ≤ n) (x0 : Int32) (x1 : Int32) (x2 : Int32) (x3 : Int32) (x5 : Int32) (x8 : Int32) (x9 : Int32) (x10 : Int32) (x11 : Int32) (x12 : Int32) (x13 : Int32) (x14 : Int32) (x15 : Int32) (x16 : Int32) (x17 : Int32) (x18 : Int32) (z0 : Int32) (s : St) : f_law_345 n x0 x1 x2 x3 x5 x8 x9 x10 x11 x12 x13 x14 x15 x16 x17 x18 z0 s = g_law_345 n x0 x1 x2 x3 x5 x8 x9 x10 x11 x12 x13 x14 x15 x16 x17 x18 z0 s := by
  unfold f_law_345 g_law_345
  simp only [g_law_366E hn]
theorem g_law_333E {n : Nat} (hn : 300 ≤ n) (x0 : Int32) (x1 : Int32) (x2 : Int32) (x3 : Int32) (x5 : Int32) (x8 : Int32) (x9 : Int32) (x10 : Int32) (x11 : Int32) (x12 : Int32) (x13 : Int32) (x14 : Int32) (x15 : Int32) (x16 : Int32) (x17 : Int32) (z0 : Int32) (s : St) : f_law_333 n x0 x1 x2 x3 x5 x8 x9 x10 x11 x12 x13 x14 x15 x16 x17 z0 s = g_law_333 n x0 x1 x2 x3 x5 x8 x9 x10 x11 x12 x13 x14 x15 x16 x17 z0 s := by
  unfold f_law_333 g_law_333
  simp only [g_law_345E hn]
theorem g_law_321E {n : Nat} (hn : 300 ≤ n) (x0 : Int32) (x1 : Int32) (x2 : Int32) (x3 : Int32) (x5 : Int32) (x8 : Int32) (x9 : Int32) (x10 : Int32) (x11 : Int32) (x12 : Int32) (x13 : Int32) (x14 : Int32) (x15 : Int32) (x16 : Int32) (z0 : Int32) (s : St) : f_law_321 n x0 x1 x2 x3 x5 x8 x9 x10 x11 x12 x13 x14 x15 x16 z0 s = g_law_321 n x0 x1 x2 x3 x5 x8 x9 x10 x11 x12 x13 x14 x15 x16 z0 s := by
  unfold f_law_321 g_law_321
  simp only [g_law_333E hn]
theorem g_law_300E {n : Nat} (hn : 300 ≤ n) (x0 : Int32) (x1 : Int32) (x2 : Int32) (x3 : Int32) (x5 : Int32) (x6 : Int32) (x8 : Int32) (x9 : Int32) (x10 : Int32) (x11 : Int32) (x12 : Int32) (x13 : Int32) (x14 : Int32) (x15 : Int32) (z0 : Int32) (s : St) : f_law_300 n x0 x1 x2 x3 x5 x6 x8 x9 x10 x11 x12 x13 x14 x15 z0 s = g_law_300 n x0 x1 x2 x3 x5 x6 x8 x9 x10 x11 x12 x13 x14 x15 z0 s := by
  unfold f_law_300 g_law_300
  simp only [g_law_321E hn]
theorem g_law_288E {n : Nat} (hn : 300 ≤ n) (x0 : Int32) (x1 : Int32) (x2 : Int32) (x3 : Int32) (x5 : Int32) (x6 : Int32) (x8 : Int32) (x9 : Int32) (x10 : Int32) (x11 : Int32) (x12 : Int32) (x13 : Int32) (x14 : Int32) (z0 : Int32) (s : St) : f_law_288 n x0 x1 x2 x3 x5 x6 x8 x9 x10 x11 x12 x13 x14 z0 s = g_law_288 n x0 x1 x2 x3 x5 x6 x8 x9 x10 x11 x12 x13 x14 z0 s := by
  unfold f_law_288 g_law_288
  simp only [g_law_300E hn]
theorem g_law_276E {n : Nat} (hn : 300 ≤ n) (x0 : Int32) (x1 : Int32) (x2 : Int32) (x3 : Int32) (x5 : Int32) (x6 : Int32) (x8 : Int32) (x9 : Int32) (x10 : Int32) (x11 : Int32) (x12 : Int32) (x13 : Int32) (z0 : Int32) (s : St) : f_law_276 n x0 x1 x2 x3 x5 x6 x8 x9 x10 x11 x12 x13 z0 s = g_law_276 n x0 x1 x2 x3 x5 x6 x8 x9 x10 x11 x12 x13 z0 s := by
  unfold f_law_276 g_law_276
  simp only [g_law_288E hn]
theorem g_law_264E {n : Nat} (hn : 300 ≤ n) (x0 : Int32) (x1 : Int32) (x2 : Int32) (x3 : Int32) (x5 : Int32) (x6 : Int32) (x8 : Int32) (x9 : Int32) (x10 : Int32) (x11 : Int32) (x12 : Int32) (z0 : Int32) (s : St) : f_law_264 n x0 x1 x2 x3 x5 x6 x8 x9 x10 x11 x12 z0 s = g_law_264 n x0 x1 x2 x3 x5 x6 x8 x9 x10 x11 x12 z0 s := by
  unfold f_law_264 g_law_264
  simp only [g_law_276E hn]
theorem g_law_243E {n : Nat} (hn : 300 ≤ n) (x0 : Int32) (x1 : Int32) (x2 : Int32) (x3 : Int32) (x5 : Int32) (x6 : Int32) (x8 : Int32) (x9 : Int32) (x10 : Int32) (x11 : Int32) (z0 : Int32) (s : St) : f_law_243 n x0 x1 x2 x3 x5 x6 x8 x9 x10 x11 z0 s = g_law_243 n x0 x1 x2 x3 x5 x6 x8 x9 x10 x11 z0 s := by
  unfold f_law_243 g_law_243
  simp only [g_law_264E hn]
theorem g_law_231E {n : Nat} (hn : 300 ≤ n) (x0 : Int32) (x1 : Int32) (x2 : Int32) (x3 : Int32) (x5 : Int32) (x6 : Int32) (x8 : Int32) (x9 : Int32) (x10 : Int32) (z0 : Int32) (s : St) : f_law_231 n x0 x1 x2 x3 x5 x6 x8 x9 x10 z0 s = g_law_231 n x0 x1 x2 x3 x5 x6 x8 x9 x10 z0 s := by
  unfold f_law_231 g_law_231
  simp only [g_law_243E hn]
theorem g_law_218E {n : Nat} (hn : 300 ≤ n) (x0 : Int32) (x1 : Int32) (x2 : Int32) (x3 : Int32) (x5 : Int32) (x6 : Int32) (x8 : Int32) (x9 : Int32) (z0 : Int32) (s : St) : f_law_218 n x0 x1 x2 x3 x5 x6 x8 x9 z0 s = g_law_218 n x0 x1 x2 x3 x5 x6 x8 x9 z0 s := by
  unfold f_law_218 g_law_218
  simp only [g_law_231E hn]
theorem g_law_201E {n : Nat} (hn : 300 ≤ n) (x0 : Int32) (x1 : Int32) (x2 : Int32) (x3 : Int32) (x5 : Int32) (x6 : Int32) (x8 : Int32) (z0 : Int32) (s : St) : f_law_201 n x0 x1 x2 x3 x5 x6 x8 z0 s = g_law_201 n x0 x1 x2 x3 x5 x6 x8 z0 s := by
  unfold f_law_201 g_law_201
  simp only [g_law_218E hn]
theorem g_law_156E {n : Nat} (hn : 300 ≤ n) (x0 : Int32) (x1 : Int32) (x2 : Int32) (x3 : Int32) (x5 : Int32) (x6 : Int32) (s : St) : f_law_156 n x0 x1 x2 x3 x5 x6 s = g_law_156 n x0 x1 x2 x3 x5 x6 s := by
  unfold f_law_156 g_law_156
  simp only [g_newHandleE hn, g_largestFreeE hn, g_law_201E hn]
theorem g_law_38E {n : Nat} (hn : 300 ≤ n) (x0 : Int32) (x1 : Int32) (x2 : Int32) (x3 : Int32) (x5 : Int32) (x6 : Int32) (s : St) : f_law_38 n x0 x1 x2 x3 x5 x6 s = g_law_38 n x0 x1 x2 x3 x5 x6 s := by
  unfold f_law_38 g_law_38
  simp only [g_newHandleE hn, g_law_156E hn]
theorem own_map {x : Option (Int32 × St)} (h : x.map Prod.fst = some 1) : ∃ w, x = some (1, w) := by
  cases x with
  | none => exact absurd h (by simp)
  | some p => obtain ⟨a, w⟩ := p; exact ⟨w, by simp at h; rw [h]⟩
set_option maxHeartbeats 4000000 in
theorem own_h0 (v0 v1 w0 w1 : Int32) : (g_law_38 300 v0 v1 w0 w1 0 0 own_B).map Prod.fst = some 1 := by cbv
theorem own_k0 (n : Nat) (hn : n = 300) (v0 v1 w0 w1 : Int32) : ∃ w, f_law_38 n v0 v1 w0 w1 0 0 own_B = some (1, w) := by
  rw [g_law_38E (by omega), hn]
  exact own_map (own_h0 v0 v1 w0 w1)
set_option maxHeartbeats 4000000 in
theorem own_h1 (v0 v1 w0 w1 : Int32) : (g_law_38 300 v0 v1 w0 w1 1 0 own_B).map Prod.fst = some 1 := by cbv
theorem own_k1 (n : Nat) (hn : n = 300) (v0 v1 w0 w1 : Int32) : ∃ w, f_law_38 n v0 v1 w0 w1 1 0 own_B = some (1, w) := by
  rw [g_law_38E (by omega), hn]
  exact own_map (own_h1 v0 v1 w0 w1)
set_option maxHeartbeats 4000000 in
theorem own_h2 (v0 v1 w0 w1 : Int32) : (g_law_38 300 v0 v1 w0 w1 0 1 own_B).map Prod.fst = some 1 := by cbv
theorem own_k2 (n : Nat) (hn : n = 300) (v0 v1 w0 w1 : Int32) : ∃ w, f_law_38 n v0 v1 w0 w1 0 1 own_B = some (1, w) := by
  rw [g_law_38E (by omega), hn]
  exact own_map (own_h2 v0 v1 w0 w1)
set_option maxHeartbeats 4000000 in
theorem own_h3 (v0 v1 w0 w1 : Int32) : (g_law_38 300 v0 v1 w0 w1 1 1 own_B).map Prod.fst = some 1 := by cbv
theorem own_k3 (n : Nat) (hn : n = 300) (v0 v1 w0 w1 : Int32) : ∃ w, f_law_38 n v0 v1 w0 w1 1 1 own_B = some (1, w) := by
  rw [g_law_38E (by omega), hn]
  exact own_map (own_h3 v0 v1 w0 w1)
theorem plain (v0 v1 w0 w1 k : Int32) : ∃ n w, f_law n v0 v1 w0 w1 k = some (1, w) := by
  obtain ⟨n, hn⟩ : ∃ n : Nat, n = 300 := ⟨_, rfl⟩
  refine ⟨n, ?_⟩
  unfold f_law f_law_12 f_law_26
  rw [own_c (by omega)]
  by_cases h1 : k &&& 1 = 0
  · by_cases h2 : k &&& 2 = 0
    · simp only [h1, h2, if_true, Option.bind_some]; exact own_k0 n hn v0 v1 w0 w1
    · simp only [h1, h2, if_true, if_false, Option.bind_some]; exact own_k2 n hn v0 v1 w0 w1
  · by_cases h2 : k &&& 2 = 0
    · simp only [h1, h2, if_true, if_false, Option.bind_some]; exact own_k1 n hn v0 v1 w0 w1
    · simp only [h1, h2, if_false, Option.bind_some]; exact own_k3 n hn v0 v1 w0 w1
theorem main_1_1 : Claimed_1_1 := comes_1 plain fun _ _ _ _ _ _ h hF => ⟨h.1, hF⟩
theorem main_1_2 : Claimed_1_2 := comes_1 plain fun _ _ _ _ _ _ h hF => ⟨h.2.1, hF⟩

end Jvm.Pilot.@@N@@
namespace Jvm.Pilot.@@N@@
open Jvm Jvm.ClassFile Sem Op Lib Jvm.Free Jvm.Stand Jvm.Pilot.@@N@@.Jvm.D
/-! MADE BY PROGRAM (witnessworld.py) out of the Statement's table words and the real class files: 11 classes; the members and pool entries that the words name. The judged class is class 1, her method 1. -/
namespace start1
open Jvm.ClassFile
def u (s : String) : CpInfo := .utf8 (stringToUtf16 s)
/-- a pool by its gaps: so many unusable entries, then the entry; so many at the end -/
def gap : Nat → List CpInfo → List CpInfo
  | 0, r => r
  | n + 1, r => .unusable :: gap n r
def poolList (es : List (Nat × CpInfo)) (last : Nat) : List CpInfo := es.foldr (fun e r => gap e.1 (e.2 :: r)) (gap last [])
def pool (es : List (Nat × CpInfo)) (last : Nat) : Array CpInfo := ⟨poolList es last⟩
def fileOf (pool : Array CpInfo) (this : Nat) (attrs : Array Attribute := #[]) (ms : Array MethodInfo := #[]) (fl : Nat := 33) (sup : Nat := 0) (ifs : Array Nat := #[]) (fds : Array FieldInfo := #[]) : ClassFile where
  minorVersion := 0
  majorVersion := 65
  constantPool := pool
  accessFlags := fl
  thisClass := this
  superClass := sup
  interfaces := ifs
  fields := fds
  methods := ms
  attributes := attrs
def plain (name : String) (sup : Option ClassId) : Class where
  name := name
  kind := .ordinary
  loader := none
  accessFlags := 33
  super := sup
  interfaces := #[]
  cf := none
  fields := #[]
  methods := #[]
  instanceTypes := #[]
  staticTypes := #[]
  resolved := #[]
  callSites := []
  init := .initialized
  statics := none
  mirror := none

def pool0 : Array CpInfo := pool [(5, u "<init>"), (0, u "()V"), (1, .class_ 10), (1, u "java/lang/Object")] 113

def k0c0 : Code := { maxStack := 0, maxLocals := 1, code := object_method_1_code, exceptionTable := #[], attributes := #[] }
def k0m0 : Method := { name := "<init>", desc := "()V", sig := { parameters := [], returnType := none }, accessFlags := 1, code := some k0c0 }
/-- java/lang/Object -/
def k0 : Class := { plain "java/lang/Object" none with
  accessFlags := 33
  interfaces := #[]
  cf := some (fileOf pool0 8 #[] #[{ accessFlags := 1, nameIndex := 5, descriptorIndex := 6, attributes := #[] }] 33 0 #[] #[])
  fields := #[]
  methods := #[k0m0]
  instanceTypes := #[]
  staticTypes := #[]
  resolved := Array.replicate 124 none
  statics := none }

def pool1 : Array CpInfo := pool [(2, .class_ 4), (1, u "java/lang/Object"), (0, u "<init>"), (0, u "()V"), (0, .class_ 8), (0, u "HandleHeap"), (0, .methodref 7 10), (0, .nameAndType 5 11), (0, u "(II)V"), (0, .methodref 7 13), (0, .nameAndType 14 15), (0, u "newHandle"), (0, u "(I)I"), (0, .methodref 7 17), (0, .nameAndType 18 19), (0, u "write"), (0, u "(III)I"), (0, .methodref 7 21), (0, .nameAndType 22 23), (0, u "setPurgeable"), (0, u "(IZ)I"), (0, .methodref 7 25), (0, .nameAndType 26 15), (0, u "lock"), (0, .methodref 7 28), (0, .nameAndType 29 15), (0, u "dispose"), (0, .methodref 7 31), (0, .nameAndType 32 33), (0, u "largestFree"), (0, u "()I"), (0, .methodref 7 35), (0, .nameAndType 36 15), (0, u "getState"), (0, .methodref 7 38), (0, .nameAndType 39 15), (0, u "getAddress"), (0, .methodref 7 41), (0, .nameAndType 42 15), (0, u "getSize"), (0, .methodref 7 44), (0, .nameAndType 45 46), (0, u "read"), (0, u "(II)I"), (0, .methodref 7 48), (0, .nameAndType 49 15), (0, u "getFlags"), (0, .methodref 7 51), (0, .nameAndType 52 33), (0, u "freeWords"), (0, .class_ 54), (0, u "HandleHeapL3"), (2, u "law"), (0, u "(IIIII)Z")] 3

def k1m0 : Method := { name := "<init>", desc := "()V", sig := { parameters := [], returnType := none }, accessFlags := 1, code := none }
def k1c1 : Code := { maxStack := 4, maxLocals := 22, code := code, exceptionTable := #[], attributes := #[] }
def k1m1 : Method := { name := "law", desc := "(IIIII)Z", sig := { parameters := [.int, .int, .int, .int, .int], returnType := some .boolean }, accessFlags := 9, code := some k1c1 }
/-- HandleHeapL3 -/
def k1 : Class := { plain "HandleHeapL3" (some 0) with
  accessFlags := 49
  interfaces := #[]
  cf := some (fileOf pool1 53 #[] #[{ accessFlags := 1, nameIndex := 5, descriptorIndex := 6, attributes := #[] }, { accessFlags := 9, nameIndex := 57, descriptorIndex := 58, attributes := #[] }] 49 2 #[] #[])
  fields := #[]
  methods := #[k1m0, k1m1]
  instanceTypes := #[]
  staticTypes := #[]
  resolved := Array.replicate 62 none
  statics := none }

def pool2 : Array CpInfo := pool [(1, .methodref 2 3), (0, .class_ 4), (0, .nameAndType 5 6), (0, u "java/lang/Object"), (0, u "<init>"), (0, u "()V"), (0, .fieldref 8 9), (0, .class_ 10), (0, .nameAndType 11 12), (0, u "HandleHeap"), (0, u "heap"), (0, u "[I"), (0, .fieldref 8 14), (0, .nameAndType 15 16), (0, u "mark"), (0, u "[Z"), (0, .fieldref 8 18), (0, .nameAndType 19 12), (0, u "state"), (0, .fieldref 8 21), (0, .nameAndType 22 12), (0, u "addr"), (0, .fieldref 8 24), (0, .nameAndType 25 12), (0, u "size"), (0, .fieldref 8 27), (0, .nameAndType 28 12), (0, u "stamp"), (0, .fieldref 8 30), (0, .nameAndType 31 12), (0, u "order"), (0, .fieldref 8 33), (0, .nameAndType 34 16), (0, u "locked"), (0, .fieldref 8 36), (0, .nameAndType 37 16), (0, u "purg"), (0, .fieldref 8 39), (0, .nameAndType 40 41), (0, u "hw"), (0, u "I"), (0, .fieldref 8 43), (0, .nameAndType 44 41), (0, u "nh"), (0, .fieldref 8 46), (0, .nameAndType 47 41), (0, u "clock"), (0, .methodref 8 49), (0, .nameAndType 50 51), (0, u "clearHandle"), (0, u "(I)V"), (0, .methodref 8 53), (0, .nameAndType 54 55), (0, u "alloc"), (0, u "(II)I"), (0, .methodref 8 57), (0, .nameAndType 58 59), (0, u "establish"), (0, u "(III)V"), (0, .methodref 8 61), (0, .nameAndType 62 63), (0, u "valid"), (0, u "(I)Z"), (0, .methodref 8 65), (0, .nameAndType 66 67), (0, u "check"), (0, u "(I)I"), (0, .methodref 8 69), (0, .nameAndType 70 51), (0, u "touch"), (4, .methodref 8 76), (0, .nameAndType 77 78), (0, u "zeroWords"), (0, u "(II)V"), (0, .methodref 8 80), (0, .nameAndType 81 59), (0, u "copyWords"), (0, .methodref 8 83), (0, .nameAndType 84 51), (0, u "compactRun"), (2, u "largestFree"), (0, u "()I"), (0, .methodref 8 90), (0, .nameAndType 91 6), (0, u "markLive"), (0, .methodref 8 93), (0, .nameAndType 94 78), (0, u "copyOne"), (0, .methodref 8 96), (0, .nameAndType 97 6), (0, u "clearMark"), (0, .methodref 8 99), (0, .nameAndType 100 51), (0, u "markBlock"), (0, .methodref 8 102), (0, .nameAndType 103 67), (0, u "firstRun"), (0, .methodref 8 105), (0, .nameAndType 106 51), (0, u "sortOrder"), (0, .methodref 8 108), (0, .nameAndType 109 51), (0, u "moveBlock"), (0, .methodref 8 111), (0, .nameAndType 112 67), (0, u "fit"), (0, .methodref 8 114), (0, .nameAndType 115 67), (0, u "victim"), (0, .methodref 8 117), (0, .nameAndType 118 51), (0, u "purge"), (0, u "OK"), (2, u "ERR_HANDLE"), (1, u "ERR_SIZE"), (1, u "ERR_INDEX"), (1, u "ERR_PURGED"), (1, u "ERR_LOCKED"), (1, u "ERR_NO_MEMORY"), (1, u "ERR_NO_HANDLE"), (1, u "ERR_NOT_EMPTY"), (1, u "STATE_FREE"), (0, u "STATE_LIVE"), (1, u "STATE_EMPTY"), (1, u "FLAG_LOCKED"), (0, u "FLAG_PURGEABLE"), (3, u "newHandle"), (0, u "dispose"), (2, u "lock"), (1, u "setPurgeable"), (0, u "(IZ)I"), (0, u "read"), (0, u "write"), (0, u "(III)I"), (1, u "getState"), (0, u "getSize"), (0, u "getAddress"), (0, u "getFlags"), (0, u "freeWords")] 2

def k2c0 : Code := { maxStack := 2, maxLocals := 6, code := prog_1_method_1_code, exceptionTable := #[], attributes := #[] }
def k2m0 : Method := { name := "<init>", desc := "(II)V", sig := { parameters := [.int, .int], returnType := none }, accessFlags := 1, code := some k2c0 }
def k2c1 : Code := { maxStack := 4, maxLocals := 4, code := prog_1_method_2_code, exceptionTable := #[], attributes := #[] }
def k2m1 : Method := { name := "newHandle", desc := "(I)I", sig := { parameters := [.int], returnType := some .int }, accessFlags := 1, code := some k2c1 }
def k2c2 : Code := { maxStack := 2, maxLocals := 2, code := prog_1_method_3_code, exceptionTable := #[], attributes := #[] }
def k2m2 : Method := { name := "dispose", desc := "(I)I", sig := { parameters := [.int], returnType := some .int }, accessFlags := 1, code := some k2c2 }
def k2c3 : Code := { maxStack := 3, maxLocals := 3, code := prog_1_method_6_code, exceptionTable := #[], attributes := #[] }
def k2m3 : Method := { name := "lock", desc := "(I)I", sig := { parameters := [.int], returnType := some .int }, accessFlags := 1, code := some k2c3 }
def k2c4 : Code := { maxStack := 3, maxLocals := 4, code := prog_1_method_8_code, exceptionTable := #[], attributes := #[] }
def k2m4 : Method := { name := "setPurgeable", desc := "(IZ)I", sig := { parameters := [.int, .boolean], returnType := some .int }, accessFlags := 1, code := some k2c4 }
def k2c5 : Code := { maxStack := 3, maxLocals := 4, code := prog_1_method_9_code, exceptionTable := #[], attributes := #[] }
def k2m5 : Method := { name := "read", desc := "(II)I", sig := { parameters := [.int, .int], returnType := some .int }, accessFlags := 1, code := some k2c5 }
def k2c6 : Code := { maxStack := 3, maxLocals := 6, code := prog_1_method_10_code, exceptionTable := #[], attributes := #[] }
def k2m6 : Method := { name := "write", desc := "(III)I", sig := { parameters := [.int, .int, .int], returnType := some .int }, accessFlags := 1, code := some k2c6 }
def k2c7 : Code := { maxStack := 2, maxLocals := 2, code := prog_1_method_12_code, exceptionTable := #[], attributes := #[] }
def k2m7 : Method := { name := "getState", desc := "(I)I", sig := { parameters := [.int], returnType := some .int }, accessFlags := 1, code := some k2c7 }
def k2c8 : Code := { maxStack := 2, maxLocals := 2, code := prog_1_method_13_code, exceptionTable := #[], attributes := #[] }
def k2m8 : Method := { name := "getSize", desc := "(I)I", sig := { parameters := [.int], returnType := some .int }, accessFlags := 1, code := some k2c8 }
def k2c9 : Code := { maxStack := 2, maxLocals := 2, code := prog_1_method_14_code, exceptionTable := #[], attributes := #[] }
def k2m9 : Method := { name := "getAddress", desc := "(I)I", sig := { parameters := [.int], returnType := some .int }, accessFlags := 1, code := some k2c9 }
def k2c10 : Code := { maxStack := 2, maxLocals := 3, code := prog_1_method_15_code, exceptionTable := #[], attributes := #[] }
def k2m10 : Method := { name := "getFlags", desc := "(I)I", sig := { parameters := [.int], returnType := some .int }, accessFlags := 1, code := some k2c10 }
def k2c11 : Code := { maxStack := 3, maxLocals := 3, code := prog_1_method_16_code, exceptionTable := #[], attributes := #[] }
def k2m11 : Method := { name := "freeWords", desc := "()I", sig := { parameters := [], returnType := some .int }, accessFlags := 1, code := some k2c11 }
def k2c12 : Code := { maxStack := 2, maxLocals := 4, code := prog_1_method_17_code, exceptionTable := #[], attributes := #[] }
def k2m12 : Method := { name := "largestFree", desc := "()I", sig := { parameters := [], returnType := some .int }, accessFlags := 1, code := some k2c12 }
def k2c13 : Code := { maxStack := 2, maxLocals := 2, code := prog_1_method_18_code, exceptionTable := #[], attributes := #[] }
def k2m13 : Method := { name := "valid", desc := "(I)Z", sig := { parameters := [.int], returnType := some .boolean }, accessFlags := 2, code := some k2c13 }
def k2c14 : Code := { maxStack := 2, maxLocals := 2, code := prog_1_method_19_code, exceptionTable := #[], attributes := #[] }
def k2m14 : Method := { name := "check", desc := "(I)I", sig := { parameters := [.int], returnType := some .int }, accessFlags := 2, code := some k2c14 }
def k2c15 : Code := { maxStack := 3, maxLocals := 2, code := prog_1_method_20_code, exceptionTable := #[], attributes := #[] }
def k2m15 : Method := { name := "touch", desc := "(I)V", sig := { parameters := [.int], returnType := none }, accessFlags := 2, code := some k2c15 }
def k2c16 : Code := { maxStack := 3, maxLocals := 2, code := prog_1_method_21_code, exceptionTable := #[], attributes := #[] }
def k2m16 : Method := { name := "clearHandle", desc := "(I)V", sig := { parameters := [.int], returnType := none }, accessFlags := 2, code := some k2c16 }
def k2c17 : Code := { maxStack := 3, maxLocals := 2, code := prog_1_method_22_code, exceptionTable := #[], attributes := #[] }
def k2m17 : Method := { name := "purge", desc := "(I)V", sig := { parameters := [.int], returnType := none }, accessFlags := 2, code := some k2c17 }
def k2c18 : Code := { maxStack := 3, maxLocals := 4, code := prog_1_method_23_code, exceptionTable := #[], attributes := #[] }
def k2m18 : Method := { name := "establish", desc := "(III)V", sig := { parameters := [.int, .int, .int], returnType := none }, accessFlags := 2, code := some k2c18 }
def k2c19 : Code := { maxStack := 3, maxLocals := 5, code := prog_1_method_24_code, exceptionTable := #[], attributes := #[] }
def k2m19 : Method := { name := "zeroWords", desc := "(II)V", sig := { parameters := [.int, .int], returnType := none }, accessFlags := 2, code := some k2c19 }
def k2c20 : Code := { maxStack := 4, maxLocals := 5, code := prog_1_method_25_code, exceptionTable := #[], attributes := #[] }
def k2m20 : Method := { name := "copyWords", desc := "(III)V", sig := { parameters := [.int, .int, .int], returnType := none }, accessFlags := 2, code := some k2c20 }
def k2c21 : Code := { maxStack := 4, maxLocals := 3, code := prog_1_method_26_code, exceptionTable := #[], attributes := #[] }
def k2m21 : Method := { name := "copyOne", desc := "(II)V", sig := { parameters := [.int, .int], returnType := none }, accessFlags := 2, code := some k2c21 }
def k2c22 : Code := { maxStack := 3, maxLocals := 2, code := prog_1_method_27_code, exceptionTable := #[], attributes := #[] }
def k2m22 : Method := { name := "clearMark", desc := "()V", sig := { parameters := [], returnType := none }, accessFlags := 2, code := some k2c22 }
def k2c23 : Code := { maxStack := 3, maxLocals := 6, code := prog_1_method_28_code, exceptionTable := #[], attributes := #[] }
def k2m23 : Method := { name := "markBlock", desc := "(I)V", sig := { parameters := [.int], returnType := none }, accessFlags := 2, code := some k2c23 }
def k2c24 : Code := { maxStack := 2, maxLocals := 2, code := prog_1_method_29_code, exceptionTable := #[], attributes := #[] }
def k2m24 : Method := { name := "markLive", desc := "()V", sig := { parameters := [], returnType := none }, accessFlags := 2, code := some k2c24 }
def k2c25 : Code := { maxStack := 2, maxLocals := 4, code := prog_1_method_30_code, exceptionTable := #[], attributes := #[] }
def k2m25 : Method := { name := "firstRun", desc := "(I)I", sig := { parameters := [.int], returnType := some .int }, accessFlags := 2, code := some k2c25 }
def k2c26 : Code := { maxStack := 2, maxLocals := 2, code := prog_1_method_31_code, exceptionTable := #[], attributes := #[] }
def k2m26 : Method := { name := "fit", desc := "(I)I", sig := { parameters := [.int], returnType := some .int }, accessFlags := 2, code := some k2c26 }
def k2c27 : Code := { maxStack := 3, maxLocals := 4, code := prog_1_method_33_code, exceptionTable := #[], attributes := #[] }
def k2m27 : Method := { name := "compactRun", desc := "(I)V", sig := { parameters := [.int], returnType := none }, accessFlags := 2, code := some k2c27 }
def k2c28 : Code := { maxStack := 3, maxLocals := 6, code := prog_1_method_34_code, exceptionTable := #[], attributes := #[] }
def k2m28 : Method := { name := "sortOrder", desc := "(I)V", sig := { parameters := [.int], returnType := none }, accessFlags := 2, code := some k2c28 }
def k2c29 : Code := { maxStack := 4, maxLocals := 4, code := prog_1_method_35_code, exceptionTable := #[], attributes := #[] }
def k2m29 : Method := { name := "moveBlock", desc := "(I)V", sig := { parameters := [.int], returnType := none }, accessFlags := 2, code := some k2c29 }
def k2c30 : Code := { maxStack := 3, maxLocals := 4, code := prog_1_method_36_code, exceptionTable := #[], attributes := #[] }
def k2m30 : Method := { name := "victim", desc := "(I)I", sig := { parameters := [.int], returnType := some .int }, accessFlags := 2, code := some k2c30 }
def k2c31 : Code := { maxStack := 2, maxLocals := 6, code := prog_1_method_37_code, exceptionTable := #[], attributes := #[] }
def k2m31 : Method := { name := "alloc", desc := "(II)I", sig := { parameters := [.int, .int], returnType := some .int }, accessFlags := 2, code := some k2c31 }
/-- HandleHeap -/
def k2 : Class := { plain "HandleHeap" (some 0) with
  accessFlags := 49
  interfaces := #[]
  cf := some (fileOf pool2 8 #[] #[{ accessFlags := 1, nameIndex := 5, descriptorIndex := 78, attributes := #[] }, { accessFlags := 1, nameIndex := 148, descriptorIndex := 67, attributes := #[] }, { accessFlags := 1, nameIndex := 149, descriptorIndex := 67, attributes := #[] }, { accessFlags := 1, nameIndex := 152, descriptorIndex := 67, attributes := #[] }, { accessFlags := 1, nameIndex := 154, descriptorIndex := 155, attributes := #[] }, { accessFlags := 1, nameIndex := 156, descriptorIndex := 55, attributes := #[] }, { accessFlags := 1, nameIndex := 157, descriptorIndex := 158, attributes := #[] }, { accessFlags := 1, nameIndex := 160, descriptorIndex := 67, attributes := #[] }, { accessFlags := 1, nameIndex := 161, descriptorIndex := 67, attributes := #[] }, { accessFlags := 1, nameIndex := 162, descriptorIndex := 67, attributes := #[] }, { accessFlags := 1, nameIndex := 163, descriptorIndex := 67, attributes := #[] }, { accessFlags := 1, nameIndex := 164, descriptorIndex := 88, attributes := #[] }, { accessFlags := 1, nameIndex := 87, descriptorIndex := 88, attributes := #[] }, { accessFlags := 2, nameIndex := 62, descriptorIndex := 63, attributes := #[] }, { accessFlags := 2, nameIndex := 66, descriptorIndex := 67, attributes := #[] }, { accessFlags := 2, nameIndex := 70, descriptorIndex := 51, attributes := #[] }, { accessFlags := 2, nameIndex := 50, descriptorIndex := 51, attributes := #[] }, { accessFlags := 2, nameIndex := 118, descriptorIndex := 51, attributes := #[] }, { accessFlags := 2, nameIndex := 58, descriptorIndex := 59, attributes := #[] }, { accessFlags := 2, nameIndex := 77, descriptorIndex := 78, attributes := #[] }, { accessFlags := 2, nameIndex := 81, descriptorIndex := 59, attributes := #[] }, { accessFlags := 2, nameIndex := 94, descriptorIndex := 78, attributes := #[] }, { accessFlags := 2, nameIndex := 97, descriptorIndex := 6, attributes := #[] }, { accessFlags := 2, nameIndex := 100, descriptorIndex := 51, attributes := #[] }, { accessFlags := 2, nameIndex := 91, descriptorIndex := 6, attributes := #[] }, { accessFlags := 2, nameIndex := 103, descriptorIndex := 67, attributes := #[] }, { accessFlags := 2, nameIndex := 112, descriptorIndex := 67, attributes := #[] }, { accessFlags := 2, nameIndex := 84, descriptorIndex := 51, attributes := #[] }, { accessFlags := 2, nameIndex := 106, descriptorIndex := 51, attributes := #[] }, { accessFlags := 2, nameIndex := 109, descriptorIndex := 51, attributes := #[] }, { accessFlags := 2, nameIndex := 115, descriptorIndex := 67, attributes := #[] }, { accessFlags := 2, nameIndex := 54, descriptorIndex := 55, attributes := #[] }] 49 2 #[] #[{ accessFlags := 25, nameIndex := 119, descriptorIndex := 41, attributes := #[] }, { accessFlags := 25, nameIndex := 122, descriptorIndex := 41, attributes := #[] }, { accessFlags := 25, nameIndex := 124, descriptorIndex := 41, attributes := #[] }, { accessFlags := 25, nameIndex := 126, descriptorIndex := 41, attributes := #[] }, { accessFlags := 25, nameIndex := 128, descriptorIndex := 41, attributes := #[] }, { accessFlags := 25, nameIndex := 130, descriptorIndex := 41, attributes := #[] }, { accessFlags := 25, nameIndex := 132, descriptorIndex := 41, attributes := #[] }, { accessFlags := 25, nameIndex := 134, descriptorIndex := 41, attributes := #[] }, { accessFlags := 25, nameIndex := 136, descriptorIndex := 41, attributes := #[] }, { accessFlags := 25, nameIndex := 138, descriptorIndex := 41, attributes := #[] }, { accessFlags := 25, nameIndex := 139, descriptorIndex := 41, attributes := #[] }, { accessFlags := 25, nameIndex := 141, descriptorIndex := 41, attributes := #[] }, { accessFlags := 25, nameIndex := 143, descriptorIndex := 41, attributes := #[] }, { accessFlags := 25, nameIndex := 144, descriptorIndex := 41, attributes := #[] }, { accessFlags := 2, nameIndex := 40, descriptorIndex := 41, attributes := #[] }, { accessFlags := 2, nameIndex := 44, descriptorIndex := 41, attributes := #[] }, { accessFlags := 2, nameIndex := 47, descriptorIndex := 41, attributes := #[] }, { accessFlags := 2, nameIndex := 11, descriptorIndex := 12, attributes := #[] }, { accessFlags := 2, nameIndex := 15, descriptorIndex := 16, attributes := #[] }, { accessFlags := 2, nameIndex := 19, descriptorIndex := 12, attributes := #[] }, { accessFlags := 2, nameIndex := 22, descriptorIndex := 12, attributes := #[] }, { accessFlags := 2, nameIndex := 25, descriptorIndex := 12, attributes := #[] }, { accessFlags := 2, nameIndex := 28, descriptorIndex := 12, attributes := #[] }, { accessFlags := 2, nameIndex := 31, descriptorIndex := 12, attributes := #[] }, { accessFlags := 2, nameIndex := 34, descriptorIndex := 16, attributes := #[] }, { accessFlags := 2, nameIndex := 37, descriptorIndex := 16, attributes := #[] }])
  fields := #[{ name := "OK", type := .int, accessFlags := 25, slot := 0, constantValue := 0 }, { name := "ERR_HANDLE", type := .int, accessFlags := 25, slot := 1, constantValue := 0 }, { name := "ERR_SIZE", type := .int, accessFlags := 25, slot := 2, constantValue := 0 }, { name := "ERR_INDEX", type := .int, accessFlags := 25, slot := 3, constantValue := 0 }, { name := "ERR_PURGED", type := .int, accessFlags := 25, slot := 4, constantValue := 0 }, { name := "ERR_LOCKED", type := .int, accessFlags := 25, slot := 5, constantValue := 0 }, { name := "ERR_NO_MEMORY", type := .int, accessFlags := 25, slot := 6, constantValue := 0 }, { name := "ERR_NO_HANDLE", type := .int, accessFlags := 25, slot := 7, constantValue := 0 }, { name := "ERR_NOT_EMPTY", type := .int, accessFlags := 25, slot := 8, constantValue := 0 }, { name := "STATE_FREE", type := .int, accessFlags := 25, slot := 9, constantValue := 0 }, { name := "STATE_LIVE", type := .int, accessFlags := 25, slot := 10, constantValue := 0 }, { name := "STATE_EMPTY", type := .int, accessFlags := 25, slot := 11, constantValue := 0 }, { name := "FLAG_LOCKED", type := .int, accessFlags := 25, slot := 12, constantValue := 0 }, { name := "FLAG_PURGEABLE", type := .int, accessFlags := 25, slot := 13, constantValue := 0 }, { name := "hw", type := .int, accessFlags := 2, slot := 0, constantValue := 0 }, { name := "nh", type := .int, accessFlags := 2, slot := 1, constantValue := 0 }, { name := "clock", type := .int, accessFlags := 2, slot := 2, constantValue := 0 }, { name := "heap", type := (.array .int), accessFlags := 2, slot := 3, constantValue := 0 }, { name := "mark", type := (.array .boolean), accessFlags := 2, slot := 4, constantValue := 0 }, { name := "state", type := (.array .int), accessFlags := 2, slot := 5, constantValue := 0 }, { name := "addr", type := (.array .int), accessFlags := 2, slot := 6, constantValue := 0 }, { name := "size", type := (.array .int), accessFlags := 2, slot := 7, constantValue := 0 }, { name := "stamp", type := (.array .int), accessFlags := 2, slot := 8, constantValue := 0 }, { name := "order", type := (.array .int), accessFlags := 2, slot := 9, constantValue := 0 }, { name := "locked", type := (.array .boolean), accessFlags := 2, slot := 10, constantValue := 0 }, { name := "purg", type := (.array .boolean), accessFlags := 2, slot := 11, constantValue := 0 }]
  methods := #[k2m0, k2m1, k2m2, k2m3, k2m4, k2m5, k2m6, k2m7, k2m8, k2m9, k2m10, k2m11, k2m12, k2m13, k2m14, k2m15, k2m16, k2m17, k2m18, k2m19, k2m20, k2m21, k2m22, k2m23, k2m24, k2m25, k2m26, k2m27, k2m28, k2m29, k2m30, k2m31]
  instanceTypes := #[.int, .int, .int, (.array .int), (.array .boolean), (.array .int), (.array .int), (.array .int), (.array .int), (.array .int), (.array .boolean), (.array .boolean)]
  staticTypes := #[.int, .int, .int, .int, .int, .int, .int, .int, .int, .int, .int, .int, .int, .int]
  resolved := Array.replicate 167 none
  statics := none }

def pool3 : Array CpInfo := pool [(1, u "java/lang/Cloneable"), (0, .class_ 1), (0, u "java/lang/Object"), (0, .class_ 3)] 3

/-- java/lang/Cloneable -/
def k3 : Class := { plain "java/lang/Cloneable" (some 0) with
  accessFlags := 1537
  interfaces := #[]
  cf := some (fileOf pool3 2 #[] #[] 1537 4 #[] #[])
  fields := #[]
  methods := #[]
  instanceTypes := #[]
  staticTypes := #[]
  resolved := Array.replicate 8 none
  statics := none }

def pool4 : Array CpInfo := pool [(1, u "java/io/Serializable"), (0, .class_ 1), (0, u "java/lang/Object"), (0, .class_ 3)] 3

/-- java/io/Serializable -/
def k4 : Class := { plain "java/io/Serializable" (some 0) with
  accessFlags := 1537
  interfaces := #[]
  cf := some (fileOf pool4 2 #[] #[] 1537 4 #[] #[])
  fields := #[]
  methods := #[]
  instanceTypes := #[]
  staticTypes := #[]
  resolved := Array.replicate 8 none
  statics := none }

/-- the primitive boolean -/
def k5 : Class := { plain "boolean" none with kind := .primitive 'Z', accessFlags := 0x411 }
/-- [Z -/
def k6 : Class := { plain "[Z" (some 0) with kind := .array 5 .boolean, interfaces := #[3, 4], accessFlags := 1041 }

/-- the primitive byte -/
def k7 : Class := { plain "byte" none with kind := .primitive 'B', accessFlags := 0x411 }
/-- [B -/
def k8 : Class := { plain "[B" (some 0) with kind := .array 7 .byte, interfaces := #[3, 4], accessFlags := 1041 }

/-- the primitive int -/
def k9 : Class := { plain "int" none with kind := .primitive 'I', accessFlags := 0x411 }
/-- [I -/
def k10 : Class := { plain "[I" (some 0) with kind := .array 9 .int, interfaces := #[3, 4], accessFlags := 1041 }

def heap : Heap := #[]
def classes : Array Class := #[k0, k1, k2, k3, k4, k5, k6, k7, k8, k9, k10]
def interned : List (Array UInt16 × Addr) := []
def slotsUsed : Nat := 0
def theMethod : MethodId := ⟨1, 1⟩
def args0 : Array Value := #[.int 5, .int 5, .int 5, .int 5, .int 5]
def aboutOver (below : List Frame) : State where
  vm := { classes := classes, interned := interned.toArray }
  heap := heap
  slotsUsed := slotsUsed
  threads := #[{ frames := .invoking theMethod args0 :: below }]
def below0 : List Frame := [.native { method := ⟨0, 0⟩, args := #[] }]
def about1 : State := aboutOver below0
def p0 : Program := .bare "" "" ""
def e0 : Env := launch0.env 0 0 0
theorem w_frames : about1.frames = Frame.invoking theMethod args0 :: below0 := rfl
set_option maxRecDepth 65536 in
theorem w_args : argsFit about1.vm theMethod args0 = true := by decide +kernel
set_option maxRecDepth 65536 in
theorem w_heap : heapFits about1 = true := by decide +kernel
set_option maxRecDepth 65536 in
theorem w_runnable : about1.curStatus? = some .runnable := by decide +kernel
set_option maxRecDepth 65536 in
theorem w_alone : about1.alone = true := by decide +kernel
set_option maxRecDepth 65536 in
theorem w_named : about1.methodNamed? x = some theMethod := by decide +kernel
set_option maxRecDepth 65536 in
theorem w_hears : about1.hears theMethod below0 = true := by decide +kernel
set_option maxRecDepth 65536 in
theorem w_ripe : about1.ripe theMethod args0 below0 = true := by decide +kernel
theorem w_running : about1.status = .running := rfl
set_option maxRecDepth 65536 in
theorem w_room : about1.hasRoom e0.platform room_1 = true :=
  launch0.hasRoom_least _ room_1 (by decide +kernel) (by decide +kernel) (by decide +kernel) (by decide +kernel) (by decide +kernel) (by decide +kernel)
theorem allAtoms_all (ts : List Jvm.Cond) (a : Array Jvm.Value) (st : Jvm.State) : (allAtoms ts).before a st = ts.all (fun c => c.before a st) := by
  induction ts with
  | nil => rfl
  | cons c t ih =>
    show (Jvm.Cond.and c (allAtoms t)).before a st = _
    rw [Jvm.Cond.before_and, ih, List.all_cons]
def words1 : List Jvm.Cond := Jvm.Cond.code x code maxLocals ret :: tables_1
/-- a 'code' word, met by the world's own term for the bytes: nothing is compared byte by byte -/
theorem code_word {y : MethodName} {bytes : ByteArray} {mx : Nat} {rt : Option FieldType} {a : Array Value} {s : State} {m : MethodId} {meth : Method} {c : Code} (h1 : s.methodNamed? y = some m) (h2 : s.vm.method? m = some meth) (h3 : meth.code = some c) (h4 : c.code = bytes)
    (h5 : (c.maxLocals == mx && c.exceptionTable.isEmpty && decide (c.maxStack ≤ mostOperands) && decide (meth.sig.returnType = rt) && !meth.locks && decide (parseMethodDescriptor y.desc = some meth.sig)) = true) : (Jvm.Cond.code y bytes mx rt).before a s = true := by
  simp only [Bool.and_eq_true, beq_iff_eq, Bool.not_eq_true', decide_eq_true_eq] at h5
  obtain ⟨⟨⟨⟨⟨g1, g2⟩, g3⟩, g4⟩, g5⟩, g6⟩ := h5
  simp [Cond.before, Cond.holds, Cond.value, h1, h2, h3, h4, g1, g2, g3, g4, g5, g6]
def isCode : Jvm.Cond → Bool
  | .code _ _ _ _ => true
  | _ => false
theorem all_split {L : List Jvm.Cond} {P : Jvm.Cond → Bool} (h1 : L.all (fun c => isCode c || P c) = true) (h2 : ∀ c ∈ L.filter isCode, P c = true) : L.all P = true := by
  refine List.all_eq_true.mpr fun c hc => ?_
  have h := List.all_eq_true.mp h1 c hc
  rcases Bool.eq_false_or_eq_true (isCode c) with hi | hi
  · exact h2 c (List.mem_filter.mpr ⟨hc, hi⟩)
  · simpa [hi] using h
set_option maxRecDepth 65536 in
theorem w_c0 : (Jvm.Cond.code x code maxLocals ret).before args0 about1 = true := code_word (m := ⟨1, 1⟩) (meth := k1m1) (c := k1c1) (by decide +kernel) rfl rfl rfl (by decide +kernel)
set_option maxRecDepth 65536 in
theorem w_c1 : (Jvm.Cond.code ({ cls := "HandleHeap", name := "<init>", desc := "(II)V" } : Jvm.MethodName) prog_1_method_1_code (6 : Nat) (Option.none : Option Jvm.ClassFile.FieldType)).before args0 about1 = true := code_word (m := ⟨2, 0⟩) (meth := k2m0) (c := k2c0) (by decide +kernel) rfl rfl rfl (by decide +kernel)
set_option maxRecDepth 65536 in
theorem w_c2 : (Jvm.Cond.code ({ cls := "java/lang/Object", name := "<init>", desc := "()V" } : Jvm.MethodName) object_method_1_code (1 : Nat) (Option.none : Option Jvm.ClassFile.FieldType)).before args0 about1 = true := code_word (m := ⟨0, 0⟩) (meth := k0m0) (c := k0c0) (by decide +kernel) rfl rfl rfl (by decide +kernel)
set_option maxRecDepth 65536 in
theorem w_c3 : (Jvm.Cond.code ({ cls := "HandleHeap", name := "clearHandle", desc := "(I)V" } : Jvm.MethodName) prog_1_method_21_code (2 : Nat) (Option.none : Option Jvm.ClassFile.FieldType)).before args0 about1 = true := code_word (m := ⟨2, 16⟩) (meth := k2m16) (c := k2c16) (by decide +kernel) rfl rfl rfl (by decide +kernel)
set_option maxRecDepth 65536 in
theorem w_c4 : (Jvm.Cond.code ({ cls := "HandleHeap", name := "newHandle", desc := "(I)I" } : Jvm.MethodName) prog_1_method_2_code (4 : Nat) (Option.some Jvm.ClassFile.FieldType.int)).before args0 about1 = true := code_word (m := ⟨2, 1⟩) (meth := k2m1) (c := k2c1) (by decide +kernel) rfl rfl rfl (by decide +kernel)
set_option maxRecDepth 65536 in
theorem w_c5 : (Jvm.Cond.code ({ cls := "HandleHeap", name := "alloc", desc := "(II)I" } : Jvm.MethodName) prog_1_method_37_code (6 : Nat) (Option.some Jvm.ClassFile.FieldType.int)).before args0 about1 = true := code_word (m := ⟨2, 31⟩) (meth := k2m31) (c := k2c31) (by decide +kernel) rfl rfl rfl (by decide +kernel)
set_option maxRecDepth 65536 in
theorem w_c6 : (Jvm.Cond.code ({ cls := "HandleHeap", name := "fit", desc := "(I)I" } : Jvm.MethodName) prog_1_method_31_code (2 : Nat) (Option.some Jvm.ClassFile.FieldType.int)).before args0 about1 = true := code_word (m := ⟨2, 26⟩) (meth := k2m26) (c := k2c26) (by decide +kernel) rfl rfl rfl (by decide +kernel)
set_option maxRecDepth 65536 in
theorem w_c7 : (Jvm.Cond.code ({ cls := "HandleHeap", name := "markLive", desc := "()V" } : Jvm.MethodName) prog_1_method_29_code (2 : Nat) (Option.none : Option Jvm.ClassFile.FieldType)).before args0 about1 = true := code_word (m := ⟨2, 24⟩) (meth := k2m24) (c := k2c24) (by decide +kernel) rfl rfl rfl (by decide +kernel)
set_option maxRecDepth 65536 in
theorem w_c8 : (Jvm.Cond.code ({ cls := "HandleHeap", name := "clearMark", desc := "()V" } : Jvm.MethodName) prog_1_method_27_code (2 : Nat) (Option.none : Option Jvm.ClassFile.FieldType)).before args0 about1 = true := code_word (m := ⟨2, 22⟩) (meth := k2m22) (c := k2c22) (by decide +kernel) rfl rfl rfl (by decide +kernel)
set_option maxRecDepth 65536 in
theorem w_c9 : (Jvm.Cond.code ({ cls := "HandleHeap", name := "firstRun", desc := "(I)I" } : Jvm.MethodName) prog_1_method_30_code (4 : Nat) (Option.some Jvm.ClassFile.FieldType.int)).before args0 about1 = true := code_word (m := ⟨2, 25⟩) (meth := k2m25) (c := k2c25) (by decide +kernel) rfl rfl rfl (by decide +kernel)
set_option maxRecDepth 65536 in
theorem w_c10 : (Jvm.Cond.code ({ cls := "HandleHeap", name := "establish", desc := "(III)V" } : Jvm.MethodName) prog_1_method_23_code (4 : Nat) (Option.none : Option Jvm.ClassFile.FieldType)).before args0 about1 = true := code_word (m := ⟨2, 18⟩) (meth := k2m18) (c := k2c18) (by decide +kernel) rfl rfl rfl (by decide +kernel)
set_option maxRecDepth 65536 in
theorem w_c11 : (Jvm.Cond.code ({ cls := "HandleHeap", name := "zeroWords", desc := "(II)V" } : Jvm.MethodName) prog_1_method_24_code (5 : Nat) (Option.none : Option Jvm.ClassFile.FieldType)).before args0 about1 = true := code_word (m := ⟨2, 19⟩) (meth := k2m19) (c := k2c19) (by decide +kernel) rfl rfl rfl (by decide +kernel)
set_option maxRecDepth 65536 in
theorem w_c12 : (Jvm.Cond.code ({ cls := "HandleHeap", name := "touch", desc := "(I)V" } : Jvm.MethodName) prog_1_method_20_code (2 : Nat) (Option.none : Option Jvm.ClassFile.FieldType)).before args0 about1 = true := code_word (m := ⟨2, 15⟩) (meth := k2m15) (c := k2c15) (by decide +kernel) rfl rfl rfl (by decide +kernel)
set_option maxRecDepth 65536 in
theorem w_c13 : (Jvm.Cond.code ({ cls := "HandleHeap", name := "markBlock", desc := "(I)V" } : Jvm.MethodName) prog_1_method_28_code (6 : Nat) (Option.none : Option Jvm.ClassFile.FieldType)).before args0 about1 = true := code_word (m := ⟨2, 23⟩) (meth := k2m23) (c := k2c23) (by decide +kernel) rfl rfl rfl (by decide +kernel)
set_option maxRecDepth 65536 in
theorem w_c14 : (Jvm.Cond.code ({ cls := "HandleHeap", name := "write", desc := "(III)I" } : Jvm.MethodName) prog_1_method_10_code (6 : Nat) (Option.some Jvm.ClassFile.FieldType.int)).before args0 about1 = true := code_word (m := ⟨2, 6⟩) (meth := k2m6) (c := k2c6) (by decide +kernel) rfl rfl rfl (by decide +kernel)
set_option maxRecDepth 65536 in
theorem w_c15 : (Jvm.Cond.code ({ cls := "HandleHeap", name := "check", desc := "(I)I" } : Jvm.MethodName) prog_1_method_19_code (2 : Nat) (Option.some Jvm.ClassFile.FieldType.int)).before args0 about1 = true := code_word (m := ⟨2, 14⟩) (meth := k2m14) (c := k2c14) (by decide +kernel) rfl rfl rfl (by decide +kernel)
set_option maxRecDepth 65536 in
theorem w_c16 : (Jvm.Cond.code ({ cls := "HandleHeap", name := "valid", desc := "(I)Z" } : Jvm.MethodName) prog_1_method_18_code (2 : Nat) (Option.some Jvm.ClassFile.FieldType.boolean)).before args0 about1 = true := code_word (m := ⟨2, 13⟩) (meth := k2m13) (c := k2c13) (by decide +kernel) rfl rfl rfl (by decide +kernel)
set_option maxRecDepth 65536 in
theorem w_c17 : (Jvm.Cond.code ({ cls := "HandleHeap", name := "setPurgeable", desc := "(IZ)I" } : Jvm.MethodName) prog_1_method_8_code (4 : Nat) (Option.some Jvm.ClassFile.FieldType.int)).before args0 about1 = true := code_word (m := ⟨2, 4⟩) (meth := k2m4) (c := k2c4) (by decide +kernel) rfl rfl rfl (by decide +kernel)
set_option maxRecDepth 65536 in
theorem w_c18 : (Jvm.Cond.code ({ cls := "HandleHeap", name := "dispose", desc := "(I)I" } : Jvm.MethodName) prog_1_method_3_code (2 : Nat) (Option.some Jvm.ClassFile.FieldType.int)).before args0 about1 = true := code_word (m := ⟨2, 2⟩) (meth := k2m2) (c := k2c2) (by decide +kernel) rfl rfl rfl (by decide +kernel)
set_option maxRecDepth 65536 in
theorem w_c19 : (Jvm.Cond.code ({ cls := "HandleHeap", name := "largestFree", desc := "()I" } : Jvm.MethodName) prog_1_method_17_code (4 : Nat) (Option.some Jvm.ClassFile.FieldType.int)).before args0 about1 = true := code_word (m := ⟨2, 12⟩) (meth := k2m12) (c := k2c12) (by decide +kernel) rfl rfl rfl (by decide +kernel)
set_option maxRecDepth 65536 in
theorem w_c20 : (Jvm.Cond.code ({ cls := "HandleHeap", name := "compactRun", desc := "(I)V" } : Jvm.MethodName) prog_1_method_33_code (4 : Nat) (Option.none : Option Jvm.ClassFile.FieldType)).before args0 about1 = true := code_word (m := ⟨2, 27⟩) (meth := k2m27) (c := k2c27) (by decide +kernel) rfl rfl rfl (by decide +kernel)
set_option maxRecDepth 65536 in
theorem w_c21 : (Jvm.Cond.code ({ cls := "HandleHeap", name := "sortOrder", desc := "(I)V" } : Jvm.MethodName) prog_1_method_34_code (6 : Nat) (Option.none : Option Jvm.ClassFile.FieldType)).before args0 about1 = true := code_word (m := ⟨2, 28⟩) (meth := k2m28) (c := k2c28) (by decide +kernel) rfl rfl rfl (by decide +kernel)
set_option maxRecDepth 65536 in
theorem w_c22 : (Jvm.Cond.code ({ cls := "HandleHeap", name := "moveBlock", desc := "(I)V" } : Jvm.MethodName) prog_1_method_35_code (4 : Nat) (Option.none : Option Jvm.ClassFile.FieldType)).before args0 about1 = true := code_word (m := ⟨2, 29⟩) (meth := k2m29) (c := k2c29) (by decide +kernel) rfl rfl rfl (by decide +kernel)
set_option maxRecDepth 65536 in
theorem w_c23 : (Jvm.Cond.code ({ cls := "HandleHeap", name := "copyWords", desc := "(III)V" } : Jvm.MethodName) prog_1_method_25_code (5 : Nat) (Option.none : Option Jvm.ClassFile.FieldType)).before args0 about1 = true := code_word (m := ⟨2, 20⟩) (meth := k2m20) (c := k2c20) (by decide +kernel) rfl rfl rfl (by decide +kernel)
set_option maxRecDepth 65536 in
theorem w_c24 : (Jvm.Cond.code ({ cls := "HandleHeap", name := "copyOne", desc := "(II)V" } : Jvm.MethodName) prog_1_method_26_code (3 : Nat) (Option.none : Option Jvm.ClassFile.FieldType)).before args0 about1 = true := code_word (m := ⟨2, 21⟩) (meth := k2m21) (c := k2c21) (by decide +kernel) rfl rfl rfl (by decide +kernel)
set_option maxRecDepth 65536 in
theorem w_c25 : (Jvm.Cond.code ({ cls := "HandleHeap", name := "getState", desc := "(I)I" } : Jvm.MethodName) prog_1_method_12_code (2 : Nat) (Option.some Jvm.ClassFile.FieldType.int)).before args0 about1 = true := code_word (m := ⟨2, 7⟩) (meth := k2m7) (c := k2c7) (by decide +kernel) rfl rfl rfl (by decide +kernel)
set_option maxRecDepth 65536 in
theorem w_c26 : (Jvm.Cond.code ({ cls := "HandleHeap", name := "getAddress", desc := "(I)I" } : Jvm.MethodName) prog_1_method_14_code (2 : Nat) (Option.some Jvm.ClassFile.FieldType.int)).before args0 about1 = true := code_word (m := ⟨2, 9⟩) (meth := k2m9) (c := k2c9) (by decide +kernel) rfl rfl rfl (by decide +kernel)
set_option maxRecDepth 65536 in
theorem w_c27 : (Jvm.Cond.code ({ cls := "HandleHeap", name := "getSize", desc := "(I)I" } : Jvm.MethodName) prog_1_method_13_code (2 : Nat) (Option.some Jvm.ClassFile.FieldType.int)).before args0 about1 = true := code_word (m := ⟨2, 8⟩) (meth := k2m8) (c := k2c8) (by decide +kernel) rfl rfl rfl (by decide +kernel)
set_option maxRecDepth 65536 in
theorem w_c28 : (Jvm.Cond.code ({ cls := "HandleHeap", name := "read", desc := "(II)I" } : Jvm.MethodName) prog_1_method_9_code (4 : Nat) (Option.some Jvm.ClassFile.FieldType.int)).before args0 about1 = true := code_word (m := ⟨2, 5⟩) (meth := k2m5) (c := k2c5) (by decide +kernel) rfl rfl rfl (by decide +kernel)
set_option maxRecDepth 65536 in
theorem w_c29 : (Jvm.Cond.code ({ cls := "HandleHeap", name := "getFlags", desc := "(I)I" } : Jvm.MethodName) prog_1_method_15_code (3 : Nat) (Option.some Jvm.ClassFile.FieldType.int)).before args0 about1 = true := code_word (m := ⟨2, 10⟩) (meth := k2m10) (c := k2c10) (by decide +kernel) rfl rfl rfl (by decide +kernel)
set_option maxRecDepth 65536 in
theorem w_c30 : (Jvm.Cond.code ({ cls := "HandleHeap", name := "freeWords", desc := "()I" } : Jvm.MethodName) prog_1_method_16_code (3 : Nat) (Option.some Jvm.ClassFile.FieldType.int)).before args0 about1 = true := code_word (m := ⟨2, 11⟩) (meth := k2m11) (c := k2c11) (by decide +kernel) rfl rfl rfl (by decide +kernel)
set_option maxRecDepth 65536 in
theorem w_c31 : (Jvm.Cond.code ({ cls := "HandleHeap", name := "lock", desc := "(I)I" } : Jvm.MethodName) prog_1_method_6_code (3 : Nat) (Option.some Jvm.ClassFile.FieldType.int)).before args0 about1 = true := code_word (m := ⟨2, 3⟩) (meth := k2m3) (c := k2c3) (by decide +kernel) rfl rfl rfl (by decide +kernel)
set_option maxRecDepth 65536 in
theorem w_c32 : (Jvm.Cond.code ({ cls := "HandleHeap", name := "victim", desc := "(I)I" } : Jvm.MethodName) prog_1_method_36_code (4 : Nat) (Option.some Jvm.ClassFile.FieldType.int)).before args0 about1 = true := code_word (m := ⟨2, 30⟩) (meth := k2m30) (c := k2c30) (by decide +kernel) rfl rfl rfl (by decide +kernel)
set_option maxRecDepth 65536 in
theorem w_c33 : (Jvm.Cond.code ({ cls := "HandleHeap", name := "purge", desc := "(I)V" } : Jvm.MethodName) prog_1_method_22_code (2 : Nat) (Option.none : Option Jvm.ClassFile.FieldType)).before args0 about1 = true := code_word (m := ⟨2, 17⟩) (meth := k2m17) (c := k2c17) (by decide +kernel) rfl rfl rfl (by decide +kernel)
def codes1 : List Jvm.Cond := [Jvm.Cond.code x code maxLocals ret, Jvm.Cond.code ({ cls := "HandleHeap", name := "<init>", desc := "(II)V" } : Jvm.MethodName) prog_1_method_1_code (6 : Nat) (Option.none : Option Jvm.ClassFile.FieldType), Jvm.Cond.code ({ cls := "java/lang/Object", name := "<init>", desc := "()V" } : Jvm.MethodName) object_method_1_code (1 : Nat) (Option.none : Option Jvm.ClassFile.FieldType), Jvm.Cond.code ({ cls := "HandleHeap", name := "clearHandle", desc := "(I)V" } : Jvm.MethodName) prog_1_method_21_code (2 : Nat) (Option.none : Option Jvm.ClassFile.FieldType), Jvm.Cond.code ({ cls := "HandleHeap", name := "newHandle", desc := "(I)I" } : Jvm.MethodName) prog_1_method_2_code (4 : Nat) (Option.some Jvm.ClassFile.FieldType.int), Jvm.Cond.code ({ cls := "HandleHeap", name := "alloc", desc := "(II)I" } : Jvm.MethodName) prog_1_method_37_code (6 : Nat) (Option.some Jvm.ClassFile.FieldType.int), Jvm.Cond.code ({ cls := "HandleHeap", name := "fit", desc := "(I)I" } : Jvm.MethodName) prog_1_method_31_code (2 : Nat) (Option.some Jvm.ClassFile.FieldType.int), Jvm.Cond.code ({ cls := "HandleHeap", name := "markLive", desc := "()V" } : Jvm.MethodName) prog_1_method_29_code (2 : Nat) (Option.none : Option Jvm.ClassFile.FieldType), Jvm.Cond.code ({ cls := "HandleHeap", name := "clearMark", desc := "()V" } : Jvm.MethodName) prog_1_method_27_code (2 : Nat) (Option.none : Option Jvm.ClassFile.FieldType), Jvm.Cond.code ({ cls := "HandleHeap", name := "firstRun", desc := "(I)I" } : Jvm.MethodName) prog_1_method_30_code (4 : Nat) (Option.some Jvm.ClassFile.FieldType.int), Jvm.Cond.code ({ cls := "HandleHeap", name := "establish", desc := "(III)V" } : Jvm.MethodName) prog_1_method_23_code (4 : Nat) (Option.none : Option Jvm.ClassFile.FieldType), Jvm.Cond.code ({ cls := "HandleHeap", name := "zeroWords", desc := "(II)V" } : Jvm.MethodName) prog_1_method_24_code (5 : Nat) (Option.none : Option Jvm.ClassFile.FieldType), Jvm.Cond.code ({ cls := "HandleHeap", name := "touch", desc := "(I)V" } : Jvm.MethodName) prog_1_method_20_code (2 : Nat) (Option.none : Option Jvm.ClassFile.FieldType), Jvm.Cond.code ({ cls := "HandleHeap", name := "markBlock", desc := "(I)V" } : Jvm.MethodName) prog_1_method_28_code (6 : Nat) (Option.none : Option Jvm.ClassFile.FieldType), Jvm.Cond.code ({ cls := "HandleHeap", name := "write", desc := "(III)I" } : Jvm.MethodName) prog_1_method_10_code (6 : Nat) (Option.some Jvm.ClassFile.FieldType.int), Jvm.Cond.code ({ cls := "HandleHeap", name := "check", desc := "(I)I" } : Jvm.MethodName) prog_1_method_19_code (2 : Nat) (Option.some Jvm.ClassFile.FieldType.int), Jvm.Cond.code ({ cls := "HandleHeap", name := "valid", desc := "(I)Z" } : Jvm.MethodName) prog_1_method_18_code (2 : Nat) (Option.some Jvm.ClassFile.FieldType.boolean), Jvm.Cond.code ({ cls := "HandleHeap", name := "setPurgeable", desc := "(IZ)I" } : Jvm.MethodName) prog_1_method_8_code (4 : Nat) (Option.some Jvm.ClassFile.FieldType.int), Jvm.Cond.code ({ cls := "HandleHeap", name := "dispose", desc := "(I)I" } : Jvm.MethodName) prog_1_method_3_code (2 : Nat) (Option.some Jvm.ClassFile.FieldType.int), Jvm.Cond.code ({ cls := "HandleHeap", name := "largestFree", desc := "()I" } : Jvm.MethodName) prog_1_method_17_code (4 : Nat) (Option.some Jvm.ClassFile.FieldType.int), Jvm.Cond.code ({ cls := "HandleHeap", name := "compactRun", desc := "(I)V" } : Jvm.MethodName) prog_1_method_33_code (4 : Nat) (Option.none : Option Jvm.ClassFile.FieldType), Jvm.Cond.code ({ cls := "HandleHeap", name := "sortOrder", desc := "(I)V" } : Jvm.MethodName) prog_1_method_34_code (6 : Nat) (Option.none : Option Jvm.ClassFile.FieldType), Jvm.Cond.code ({ cls := "HandleHeap", name := "moveBlock", desc := "(I)V" } : Jvm.MethodName) prog_1_method_35_code (4 : Nat) (Option.none : Option Jvm.ClassFile.FieldType), Jvm.Cond.code ({ cls := "HandleHeap", name := "copyWords", desc := "(III)V" } : Jvm.MethodName) prog_1_method_25_code (5 : Nat) (Option.none : Option Jvm.ClassFile.FieldType), Jvm.Cond.code ({ cls := "HandleHeap", name := "copyOne", desc := "(II)V" } : Jvm.MethodName) prog_1_method_26_code (3 : Nat) (Option.none : Option Jvm.ClassFile.FieldType), Jvm.Cond.code ({ cls := "HandleHeap", name := "getState", desc := "(I)I" } : Jvm.MethodName) prog_1_method_12_code (2 : Nat) (Option.some Jvm.ClassFile.FieldType.int), Jvm.Cond.code ({ cls := "HandleHeap", name := "getAddress", desc := "(I)I" } : Jvm.MethodName) prog_1_method_14_code (2 : Nat) (Option.some Jvm.ClassFile.FieldType.int), Jvm.Cond.code ({ cls := "HandleHeap", name := "getSize", desc := "(I)I" } : Jvm.MethodName) prog_1_method_13_code (2 : Nat) (Option.some Jvm.ClassFile.FieldType.int), Jvm.Cond.code ({ cls := "HandleHeap", name := "read", desc := "(II)I" } : Jvm.MethodName) prog_1_method_9_code (4 : Nat) (Option.some Jvm.ClassFile.FieldType.int), Jvm.Cond.code ({ cls := "HandleHeap", name := "getFlags", desc := "(I)I" } : Jvm.MethodName) prog_1_method_15_code (3 : Nat) (Option.some Jvm.ClassFile.FieldType.int), Jvm.Cond.code ({ cls := "HandleHeap", name := "freeWords", desc := "()I" } : Jvm.MethodName) prog_1_method_16_code (3 : Nat) (Option.some Jvm.ClassFile.FieldType.int), Jvm.Cond.code ({ cls := "HandleHeap", name := "lock", desc := "(I)I" } : Jvm.MethodName) prog_1_method_6_code (3 : Nat) (Option.some Jvm.ClassFile.FieldType.int), Jvm.Cond.code ({ cls := "HandleHeap", name := "victim", desc := "(I)I" } : Jvm.MethodName) prog_1_method_36_code (4 : Nat) (Option.some Jvm.ClassFile.FieldType.int), Jvm.Cond.code ({ cls := "HandleHeap", name := "purge", desc := "(I)V" } : Jvm.MethodName) prog_1_method_22_code (2 : Nat) (Option.none : Option Jvm.ClassFile.FieldType)]
set_option maxRecDepth 65536 in
theorem codes_eq : words1.filter isCode = codes1 := rfl
theorem w_codes : ∀ c ∈ words1.filter isCode, c.before args0 about1 = true := by
  rw [codes_eq]
  intro c hc
  simp only [codes1, List.mem_cons, List.not_mem_nil, or_false] at hc
  rcases hc with rfl | rfl | rfl | rfl | rfl | rfl | rfl | rfl | rfl | rfl | rfl | rfl | rfl | rfl | rfl | rfl | rfl | rfl | rfl | rfl | rfl | rfl | rfl | rfl | rfl | rfl | rfl | rfl | rfl | rfl | rfl | rfl | rfl | rfl
  · exact w_c0
  · exact w_c1
  · exact w_c2
  · exact w_c3
  · exact w_c4
  · exact w_c5
  · exact w_c6
  · exact w_c7
  · exact w_c8
  · exact w_c9
  · exact w_c10
  · exact w_c11
  · exact w_c12
  · exact w_c13
  · exact w_c14
  · exact w_c15
  · exact w_c16
  · exact w_c17
  · exact w_c18
  · exact w_c19
  · exact w_c20
  · exact w_c21
  · exact w_c22
  · exact w_c23
  · exact w_c24
  · exact w_c25
  · exact w_c26
  · exact w_c27
  · exact w_c28
  · exact w_c29
  · exact w_c30
  · exact w_c31
  · exact w_c32
  · exact w_c33
set_option maxRecDepth 65536 in
theorem w_t1 : (words1.take 24).all (fun c => isCode c || c.before args0 about1) = true := by decide +kernel
set_option maxRecDepth 65536 in
theorem w_t2 : ((words1.drop 24).take 24).all (fun c => isCode c || c.before args0 about1) = true := by decide +kernel
set_option maxRecDepth 65536 in
theorem w_t3 : (((words1.drop 24).drop 24).take 24).all (fun c => isCode c || c.before args0 about1) = true := by decide +kernel
set_option maxRecDepth 65536 in
theorem w_t4 : ((((words1.drop 24).drop 24).drop 24).take 24).all (fun c => isCode c || c.before args0 about1) = true := by decide +kernel
set_option maxRecDepth 65536 in
theorem w_t5 : (((((words1.drop 24).drop 24).drop 24).drop 24).take 24).all (fun c => isCode c || c.before args0 about1) = true := by decide +kernel
set_option maxRecDepth 65536 in
theorem w_t6 : ((((((words1.drop 24).drop 24).drop 24).drop 24).drop 24).take 24).all (fun c => isCode c || c.before args0 about1) = true := by decide +kernel
set_option maxRecDepth 65536 in
theorem w_t7 : (((((((words1.drop 24).drop 24).drop 24).drop 24).drop 24).drop 24).take 24).all (fun c => isCode c || c.before args0 about1) = true := by decide +kernel
set_option maxRecDepth 65536 in
theorem w_t8 : (((((((words1.drop 24).drop 24).drop 24).drop 24).drop 24).drop 24).drop 24).all (fun c => isCode c || c.before args0 about1) = true := by decide +kernel
theorem w_tables : (allAtoms (Jvm.Cond.code x code maxLocals ret :: tables_1)).before args0 about1 = true := by
  rw [allAtoms_all]
  show words1.all (fun c => c.before args0 about1) = true
  refine all_split ?_ w_codes
  rw [← List.take_append_drop 24 words1, List.all_append, w_t1, ← List.take_append_drop 24 (words1.drop 24), List.all_append, w_t2, ← List.take_append_drop 24 ((words1.drop 24).drop 24), List.all_append, w_t3, ← List.take_append_drop 24 (((words1.drop 24).drop 24).drop 24), List.all_append, w_t4, ← List.take_append_drop 24 ((((words1.drop 24).drop 24).drop 24).drop 24), List.all_append, w_t5, ← List.take_append_drop 24 (((((words1.drop 24).drop 24).drop 24).drop 24).drop 24), List.all_append, w_t6, ← List.take_append_drop 24 ((((((words1.drop 24).drop 24).drop 24).drop 24).drop 24).drop 24), List.all_append, w_t7, w_t8]
  rfl
set_option maxRecDepth 65536 in
theorem w_case : (Jvm.Cond.and given_1 narrow_1).before args0 about1 = true := by decide +kernel
theorem w_applies : (headSpec (Jvm.Cond.code x code maxLocals ret :: tables_1) room_1).applies x e0.platform about1 = true :=
  (Spec.applies_iff w_frames).mpr ⟨w_running, w_runnable, w_alone, w_named, w_hears, w_ripe, w_room, w_tables⟩
theorem atStart : AtStart classFile x code maxLocals ret World_1 tables_1 room_1 Calls_1 rest_1 Pre_1 launch0 p0 e0 about1 theMethod args0 below0 :=
  ⟨lists_1, trivial, launch0.admits_env _ _ _, launch0.least_env, fairChoices_fair.cas, fairChoices_fair.clock, w_frames, w_args, w_heap, w_applies, trivial, trivial, w_case⟩
end start1
theorem witness_1 : WitnessClaimed_1 := ⟨start1.p0, start1.e0, start1.about1, start1.theMethod, start1.args0, start1.below0, start1.atStart⟩
end Jvm.Pilot.@@N@@
