import JvmDerived
import JvmDerived.Pilot.@@N@@Statement
import JvmDerived.Pilot.@@N@@Code
set_option linter.unusedVariables false
set_option linter.unusedSimpArgs false
namespace Jvm.Own
open Sem ClassFile Op Lib Jvm.Stand Jvm.Free Jvm.LawKit Jvm.RoadKit
/-! ## 1. Small heaps: a list of cells: an object of the one class (its fields in order), or an array (of booleans, of ints) -/
abbrev MCell := List Value ⊕ (Bool × List Int32)
abbrev MHeap := List MCell
abbrev Fd := String × String × FieldType
/-- start, its arguments, launch, the script's place, the heap's first length, the class, its fields, its slots -/
abbrev Ctx := State × Array Value × Launch × Option Nat × Nat × String × List Fd × Nat
abbrev gZ (G : Ctx) : State := G.1
abbrev gA (G : Ctx) : Array Value := G.2.1
abbrev gL (G : Ctx) : Launch := G.2.2.1
abbrev gS (G : Ctx) : Option Nat := G.2.2.2.1
abbrev gN (G : Ctx) : Nat := G.2.2.2.2.1
abbrev gC (G : Ctx) : String := G.2.2.2.2.2.1
abbrev gF (G : Ctx) : List Fd := G.2.2.2.2.2.2.1
abbrev gK (G : Ctx) : Nat := G.2.2.2.2.2.2.2
/-- a method: name, bytes, locals, result, frames and words that it needs -/
abbrev Mi := MethodName × ByteArray × Nat × Option FieldType × Nat × Nat
abbrev mN (M : Mi) : MethodName := M.1
abbrev mB (M : Mi) : ByteArray := M.2.1
abbrev mL (M : Mi) : Nat := M.2.2.1
abbrev mR (M : Mi) : Option FieldType := M.2.2.2.1
abbrev mF (M : Mi) : Nat := M.2.2.2.2.1
abbrev mW (M : Mi) : Nat := M.2.2.2.2.2
def rhoA (sa : Option Nat) (n0 i : Nat) : Nat := match sa with
  | none => n0 + i
  | some a => match i with
    | 0 => a
    | j + 1 => n0 + j
def k0A (sa : Option Nat) : Nat := match sa with
  | none => 0
  | some _ => 1
def rho (G : Ctx) (i : Nat) : Nat := rhoA (gS G) (gN G) i
def k0 (G : Ctx) : Nat := k0A (gS G)
def tr (G : Ctx) : Value → Value
  | .ref i => .ref (rho G i)
  | v => v
def trS (G : Ctx) : Slot → Slot
  | .val v => .val (tr G v)
  | s => s
theorem tr_cat (G : Ctx) (v : Value) : (tr G v).category = v.category := by cases v <;> rfl
theorem tr_cats (G : Ctx) (S : List Value) : ((S.map (tr G)).map fun v => v.category).sum = (S.map fun v => v.category).sum := by
  rw [List.map_map]
  congr 1
  exact List.map_congr_left fun v _ => tr_cat G v
def kd : Bool → FieldType
  | true => .boolean
  | false => .int
def CellAt (G : Ctx) (hr : Heap) (a : Nat) : MCell → Prop
  | .inl fs => Exa (gZ G) hr a (gC G) ∧ fs.length = (gF G).length ∧ ∀ (j : Nat) (n d : String) (ty : FieldType) (v : Value), (gF G)[j]? = some (n, d, ty) → fs[j]? = some v → Fld (gZ G) hr a (gC G) n d (tr G v)
  | .inr bx => ∃ c : Cell, Arr (gZ G) hr a c (kd bx.1) ∧ c.slots = (bx.2.map Value.int).toArray
def Rel (G : Ctx) (hr : Heap) (h : MHeap) : Prop :=
  hr.size + k0 G = gN G + h.length ∧ k0 G ≤ h.length ∧ (∀ a, gS G = some a → a < gN G) ∧ ∀ i c, h[i]? = some c → CellAt G hr (rho G i) c
/-- what the sheet says of the class -/
def GOk (G : Ctx) : Prop :=
  (∀ (j : Nat) (n d : String) (ty : FieldType), (gF G)[j]? = some (n, d, ty) → Laid (gZ G) (gA G) (gC G) (gC G) n d ∧ parseFieldDescriptor d = some ty) ∧
  (∀ (j j' : Nat) (f f' : Fd), (gF G)[j]? = some f → (gF G)[j']? = some f' → j ≠ j' → f.1 ≠ f'.1) ∧
  (Cond.instantiable (gC G) (gK G)).before (gA G) (gZ G) = true ∧ (Cond.initialized (gC G)).before (gA G) (gZ G) = true
theorem rhoA_inj {sa : Option Nat} {n0 i j : Nat} (h : ∀ a, sa = some a → a < n0) (e : rhoA sa n0 i = rhoA sa n0 j) : i = j := by
  cases sa with
  | none => simp only [rhoA] at e; omega
  | some a =>
    have := h a rfl
    cases i <;> cases j <;> simp only [rhoA] at e <;> omega
theorem rho_inj {G : Ctx} {i j : Nat} (h : ∀ a, gS G = some a → a < gN G) (e : rho G i = rho G j) : i = j := rhoA_inj h e
theorem rhoA_new {sa : Option Nat} {n0 i : Nat} (h : k0A sa ≤ i) : rhoA sa n0 i = n0 + (i - k0A sa) := by
  cases sa with
  | none => simp only [rhoA, k0A]; omega
  | some a =>
    cases i with
    | zero => simp only [k0A] at h; omega
    | succ j => simp only [rhoA, k0A]; omega
theorem rho_new {G : Ctx} {i : Nat} (h : k0 G ≤ i) : rho G i = gN G + (i - k0 G) := rhoA_new h
theorem rho_ge {G : Ctx} {i : Nat} (h : k0 G ≤ i) : gN G ≤ rho G i := by rw [rho_new h]; omega
theorem CellAt.other {G : Ctx} {hr hr' : Heap} {a b : Nat} {sl : Nat} {v : Value} (W : Wr hr hr' a sl v) (hne : b ≠ a) : ∀ {c : MCell}, CellAt G hr b c → CellAt G hr' b c
  | .inl _, ⟨h1, h2, h3⟩ => ⟨h1.wr W, h2, fun j n d ty v hf hv => Fld.other W (h3 j n d ty v hf hv) (Or.inl hne)⟩
  | .inr _, ⟨c, h1, h2⟩ => ⟨c, h1.other W hne, h2⟩
theorem CellAt.ext {G : Ctx} {hr hr' : Heap} {b : Nat} (E : Ext hr hr') : ∀ {c : MCell}, CellAt G hr b c → CellAt G hr' b c
  | .inl _, ⟨h1, h2, h3⟩ => ⟨h1.ext E, h2, fun j n d ty v hf hv => Fld.ext E (h3 j n d ty v hf hv)⟩
  | .inr _, ⟨c, h1, h2⟩ => ⟨c, h1.ext E, h2⟩
theorem Rel.push {G : Ctx} {hr hr' : Heap} {h : MHeap} {c : MCell} (R : Rel G hr h) (E : Ext hr hr') (hs : hr'.size = hr.size + 1) (hc : CellAt G hr' hr.size c) : Rel G hr' (h ++ [c]) := by
  obtain ⟨h1, h2, h3, h4⟩ := R
  refine ⟨by rw [List.length_append, List.length_singleton]; omega, by rw [List.length_append]; omega, h3, fun i c' hi => ?_⟩
  rcases Nat.lt_or_ge i h.length with q | q
  · rw [List.getElem?_append_left q] at hi
    exact (h4 i c' hi).ext E
  · have hi2 := hi
    rw [List.getElem?_append_right q] at hi2
    have : i - h.length = 0 := by
      rcases Nat.eq_zero_or_pos (i - h.length) with z | z
      · exact z
      · rw [List.getElem?_eq_none (by simp; omega)] at hi2; cases hi2
    have e : i = h.length := by omega
    subst e
    rw [Nat.sub_self] at hi2
    cases hi2
    have : rho G h.length = hr.size := by rw [rho_new h2]; omega
    rw [this]; exact hc
theorem Rel.wrArr {G : Ctx} {hr hr' : Heap} {h : MHeap} {i j : Nat} {b : Bool} {xs : List Int32} {x : Int32} (R : Rel G hr h) (hi : h[i]? = some (.inr (b, xs))) (W : Wr hr hr' (rho G i) j (.int x)) : Rel G hr' (h.set i (.inr (b, xs.set j x))) := by
  obtain ⟨h1, h2, h3, h4⟩ := R
  refine ⟨by rw [W.size, List.length_set]; exact h1, by rw [List.length_set]; exact h2, h3, fun k c' hk => ?_⟩
  by_cases e : i = k
  · subst e
    rw [List.getElem?_set_self (List.getElem?_eq_some_iff.mp hi).1] at hk
    cases hk
    obtain ⟨c, A, hs⟩ := h4 i _ hi
    refine ⟨c.setSlot j (.int x), A.same W, ?_⟩
    show c.slots.setIfInBounds j (.int x) = _
    rw [hs]
    simp [List.map_set]
  · rw [List.getElem?_set_ne e] at hk
    exact (h4 k c' hk).other W fun q => e (rho_inj h3 q).symm
theorem Rel.wrFld {G : Ctx} {hr hr' : Heap} {h : MHeap} {i j : Nat} {fs : List Value} {n d : String} {ty : FieldType} {v : Value} (R : Rel G hr h) (K : GOk G) (hi : h[i]? = some (.inl fs)) (hF : (gF G)[j]? = some (n, d, ty)) (W : Wr hr hr' (rho G i) (Jvm.RoadKit.slotOf (gZ G) (gC G) n d) (tr G v)) : Rel G hr' (h.set i (.inl (fs.set j v))) := by
  obtain ⟨h1, h2, h3, h4⟩ := R
  refine ⟨by rw [W.size, List.length_set]; exact h1, by rw [List.length_set]; exact h2, h3, fun k c' hk => ?_⟩
  by_cases e : i = k
  · subst e
    rw [List.getElem?_set_self (List.getElem?_eq_some_iff.mp hi).1] at hk
    cases hk
    obtain ⟨e1, e2, e3⟩ := h4 i _ hi
    refine ⟨e1.wr W, by rw [List.length_set]; exact e2, fun j' n' d' ty' v' hf' hv' => ?_⟩
    by_cases q : j = j'
    · subst q
      cases hF.symm.trans hf'
      have hlt : j < fs.length := by rw [e2]; exact (List.getElem?_eq_some_iff.mp hF).1
      rw [List.getElem?_set_self hlt] at hv'
      cases hv'
      obtain ⟨w, hw⟩ : ∃ w, fs[j]? = some w := ⟨_, List.getElem?_eq_getElem hlt⟩
      exact Fld.same W (e3 j n d ty w hF hw)
    · rw [List.getElem?_set_ne q] at hv'
      refine Fld.other W (e3 j' n' d' ty' v' hf' hv') (Or.inr ?_)
      exact slot_ne (K.1 j' n' d' ty' hf').1 (K.1 j n d ty hF).1 (K.2.1 j' j _ _ hf' hF (Ne.symm q)) (K.1 j' n' d' ty' hf').2 (K.1 j n d ty hF).2
  · rw [List.getElem?_set_ne e] at hk
    exact (h4 k c' hk).other W fun q => e (rho_inj h3 q).symm
def csl (k : Nat) : MCell → Nat
  | .inl _ => k
  | .inr bx => bx.2.length
def hsl (k : Nat) (h : MHeap) : Nat := (h.map (csl k)).sum
theorem hsl_push (k : Nat) (h : MHeap) (c : MCell) : hsl k (h ++ [c]) = hsl k h + csl k c := by simp [hsl]
theorem hsl_set (k : Nat) : ∀ (h : MHeap) (i : Nat) (c c' : MCell), h[i]? = some c → csl k c' = csl k c → hsl k (h.set i c') = hsl k h
  | [], _, _, _, h, _ => by simp at h
  | a :: t, 0, c, c', h, e => by simp at h; subst h; simp [hsl, e]
  | a :: t, i + 1, c, c', h, e => by
    have := hsl_set k t i c c' (by simpa using h) e
    simp only [hsl, List.set_cons_succ, List.map_cons, List.sum_cons] at this ⊢
    omega
/-! ## 2. Storing a local variable, on lists -/
def lsetAt (l : List Slot) (i : Nat) (x : Slot) : Option (List Slot) := if i < l.length then some (l.set i x) else none
def lstoreSelf (l : List Slot) (i : Nat) (v : Value) : Option (List Slot) :=
  match lsetAt l i (.val v) with
  | none => none
  | some l => if v.category = 2 then
      (match l[i + 1]? with
      | none => none
      | some (.val old) => if old.category = 2 then (match lsetAt l (i + 2) .unset with | none => none | some l2 => lsetAt l2 (i + 1) .second) else lsetAt l (i + 1) .second
      | some _ => lsetAt l (i + 1) .second)
    else some l
def mst (l : List Slot) (i : Nat) (v : Value) : Option (List Slot) :=
  match l[i]? with
  | none => none
  | some .second => (match lsetAt l (i - 1) .unset with | none => none | some l2 => lstoreSelf l2 i v)
  | some (.val old) => if old.category = 2 then (match lsetAt l (i + 1) .unset with | none => none | some l2 => lstoreSelf l2 i v) else lstoreSelf l i v
  | some .unset => lstoreSelf l i v
def arL (G : Ctx) (l : List Slot) : Array Slot := (l.map (trS G)).toArray
theorem setAt_map (G : Ctx) (l : List Slot) (i : Nat) (x : Slot) : setAt (arL G l) i (trS G x) = (lsetAt l i x).map (arL G) := by
  unfold setAt lsetAt arL
  by_cases h : i < l.length <;> simp [h, List.map_set]
theorem arL_get (G : Ctx) (l : List Slot) (i : Nat) : (arL G l)[i]? = (l[i]?).map (trS G) := by simp [arL]
theorem storeSelf_map (G : Ctx) (l : List Slot) (i : Nat) (v : Value) : storeSelf (arL G l) i (tr G v) = (lstoreSelf l i v).map (arL G) := by
  unfold storeSelf lstoreSelf
  have e := setAt_map G l i (.val v)
  simp only [trS] at e
  rw [e]
  cases h1 : lsetAt l i (.val v) with
  | none => rfl
  | some l1 =>
    simp only [Option.map_some, Option.bind_eq_bind, Option.bind_some, tr_cat]
    by_cases hc : v.category = 2
    · simp only [hc, if_true, arL_get]
      cases h2 : l1[i + 1]? with
      | none => rfl
      | some sl =>
        simp only [Option.map_some, Option.bind_some]
        have u2 := setAt_map G l1 (i + 2) .unset
        have s1 := setAt_map G l1 (i + 1) .second
        simp only [trS] at u2 s1
        cases sl with
        | unset => exact s1
        | second => exact s1
        | val old =>
          simp only [trS, tr_cat]
          by_cases hq : old.category = 2
          · simp only [hq, if_true, u2]
            cases h3 : lsetAt l1 (i + 2) .unset with
            | none => rfl
            | some l2 =>
              have s2 := setAt_map G l2 (i + 1) .second
              simp only [trS] at s2
              exact s2
          · simp only [hq, if_false]
            exact s1
    · simp only [hc, if_false]
      rfl
theorem mst_map (G : Ctx) (l : List Slot) (i : Nat) (v : Value) : storeLocals (arL G l) i (tr G v) = (mst l i v).map (arL G) := by
  unfold storeLocals mst
  simp only [arL_get]
  cases h1 : l[i]? with
  | none => rfl
  | some sl =>
    simp only [Option.map_some, Option.bind_eq_bind, Option.bind_some]
    have u1 := setAt_map G l (i - 1) .unset
    have u2 := setAt_map G l (i + 1) .unset
    simp only [trS] at u1 u2
    cases sl with
    | unset => exact storeSelf_map G l i v
    | second =>
      simp only [trS, u1]
      cases h3 : lsetAt l (i - 1) .unset with
      | none => rfl
      | some l2 => exact storeSelf_map G l2 i v
    | val old =>
      simp only [trS, tr_cat]
      by_cases hq : old.category = 2
      · simp only [hq, if_true, u2]
        cases h3 : lsetAt l (i + 1) .unset with
        | none => rfl
        | some l2 => exact storeSelf_map G l2 i v
      · simp only [hq, if_false]
        exact storeSelf_map G l i v
theorem lsetAt_len {l l' : List Slot} {i : Nat} {x : Slot} (h : lsetAt l i x = some l') : l'.length = l.length := by
  unfold lsetAt at h; split at h
  · cases h; simp
  · cases h
theorem lstoreSelf_len {l l' : List Slot} {i : Nat} {v : Value} (h : lstoreSelf l i v = some l') : l'.length = l.length := by
  unfold lstoreSelf at h
  split at h
  · cases h
  · rename_i l1 h1
    have e1 := lsetAt_len h1
    split at h
    · split at h
      · cases h
      · split at h
        · split at h
          · cases h
          · rename_i h2; rw [lsetAt_len h, lsetAt_len h2, e1]
        · rw [lsetAt_len h, e1]
      · rw [lsetAt_len h, e1]
    · cases h; exact e1
theorem mst_len {l l' : List Slot} {i : Nat} {v : Value} (h : mst l i v = some l') : l'.length = l.length := by
  unfold mst at h
  split at h
  · cases h
  · split at h
    · cases h
    · rename_i h2; rw [lstoreSelf_len h, lsetAt_len h2]
  · split at h
    · split at h
      · cases h
      · rename_i h2; rw [lstoreSelf_len h, lsetAt_len h2]
    · exact lstoreSelf_len h
  · exact lstoreSelf_len h
theorem st_of {G : Ctx} {l l' : List Slot} {i : Nat} {v : Value} (h : mst l i v = some l') : storeLocals (arL G l) i (tr G v) = some (arL G l') := by rw [mst_map, h]; rfl
theorem ld_of {G : Ctx} {l : List Slot} {i : Nat} {s : Slot} (h : l[i]? = some s) : (arL G l)[i]? = some (trS G s) := by rw [arL_get, h]; rfl
/-! ## 3. What a run of a body from a point does -/
def Ev (G : Ctx) (M : Mi) (pc : Nat) (L : List Slot) (S : List Value) (h : MHeap) (r : Option Value × MHeap) : Prop :=
  (h.length ≤ r.2.length ∧ hsl (gK G) h ≤ hsl (gK G) r.2) ∧
  ∀ (p : Program) (e : Env) (R : Room) (s : State) (m : MethodId) (args : Array Value) (below : List Frame) (meth : Method) (c : Code) (T : State) (locs : List Loc) (cells slots : Nat),
    Stand p (gL G) e R s m args below meth c T locs cells slots → p.tables.exec = Jvm.exec → (gZ G).Warmed39 s.vm → s.vm.findClass (mN M).cls = some m.cls →
    c.code = mB M → c.maxLocals = mL M → meth.sig.returnType = mR M → meth.name = (mN M).name → L.length = mL M → mF M ≤ R.frames → mW M ≤ R.locals →
    s.heap.size + cells = T.heap.size → Rel G T.heap h → Fr (gN G) locs → cells + (r.2.length - h.length) ≤ R.cells → slots + (hsl (gK G) r.2 - hsl (gK G) h) ≤ R.slots →
    ∃ T' locs', Stand p (gL G) e R s m args below meth c T' locs' (cells + (r.2.length - h.length)) (slots + (hsl (gK G) r.2 - hsl (gK G) h)) ∧ Rel G T'.heap r.2 ∧ Fr (gN G) locs' ∧
      ∀ fs, (∀ (f : JFrame) (acts : List Action), f.method = m → f.locked = none → f.entered = [] → (doReturn e (T'.setTop f) acts (r.1.map (tr G))).1 = T'.setFrames fs) →
        Steps p.tables e below (T.setTop (mkF m pc (arL G L) (S.map (tr G)))) (T'.setFrames fs)
/-- a whole call -/
def EvC (G : Ctx) (y : Mi) (args : List Value) (h : MHeap) (r : Option Value × MHeap) : Prop :=
  (h.length ≤ r.2.length ∧ hsl (gK G) h ≤ hsl (gK G) r.2) ∧
  ∀ (ws : List Jvm.Cond) (R : Room) (hr : Heap), mF y ≤ R.frames → mW y ≤ R.locals → r.2.length - h.length ≤ R.cells → hsl (gK G) r.2 - hsl (gK G) h ≤ R.slots → Rel G hr h →
    MetFree (gL G) (mN y) (head1 (Jvm.Cond.code (mN y) (mB y) (mL y) (mR y) :: ws) R) (fun a U => a = (args.map (tr G)).toArray ∧ (gZ G).Warmed39 U.vm ∧ U.heap = hr) (fun _ _ _ _ _ => True)
      (fun _ U o U' => ∃ v L, o = .returned v ∧ (v = r.1.map (tr G) ∧ Fr (gN G) L ∧ Rel G U'.heap r.2) ∧ FrameEnd U o U' L (r.2.length - h.length) (hsl (gK G) r.2 - hsl (gK G) h))
section Rules
variable {G : Ctx} {M : Mi} {pc : Nat} {L : List Slot} {S : List Value} {h : MHeap} {r : Option Value × MHeap}
theorem Ev.gen {pc' : Nat} {L' : List Slot} {S' : List Value} {h' : MHeap} (hm1 : h.length ≤ h'.length) (hm2 : hsl (gK G) h ≤ hsl (gK G) h') (hL : L'.length = L.length) (hn : Ev G M pc' L' S' h' r)
    (st : ∀ {p : Program} {e : Env} {R : Room} {s : State} {m : MethodId} {args : Array Value} {below : List Frame} {meth : Method} {c : Code} {T : State} {locs : List Loc} {cells slots : Nat},
      Stand p (gL G) e R s m args below meth c T locs cells slots → p.tables.exec = Jvm.exec → (gZ G).Warmed39 s.vm → s.vm.findClass (mN M).cls = some m.cls →
      c.code = mB M → c.maxLocals = mL M → meth.name = (mN M).name → L.length = mL M → mF M ≤ R.frames → mW M ≤ R.locals →
      s.heap.size + cells = T.heap.size → Rel G T.heap h → Fr (gN G) locs → cells + (h'.length - h.length) ≤ R.cells → slots + (hsl (gK G) h' - hsl (gK G) h) ≤ R.slots →
      ∃ T' locs', Stand p (gL G) e R s m args below meth c T' locs' (cells + (h'.length - h.length)) (slots + (hsl (gK G) h' - hsl (gK G) h)) ∧ Rel G T'.heap h' ∧ Fr (gN G) locs' ∧
        ∀ target, Steps p.tables e below (T'.setTop (mkF m pc' (arL G L') (S'.map (tr G)))) target → Steps p.tables e below (T.setTop (mkF m pc (arL G L) (S.map (tr G)))) target) :
    Ev G M pc L S h r := by
  obtain ⟨⟨g1, g2⟩, hn⟩ := hn
  refine ⟨⟨Nat.le_trans hm1 g1, Nat.le_trans hm2 g2⟩, ?_⟩
  intro p e R s m args below meth c T locs cells slots X hx hZ hown hby hml hret hnm hLm hfr hlo hsz hR hF hc hs
  obtain ⟨T1, locs1, X1, R1, F1, st1⟩ := st X hx hZ hown hby hml hnm hLm hfr hlo hsz hR hF (by omega) (by omega)
  have hsz1 : s.heap.size + (cells + (h'.length - h.length)) = T1.heap.size := by
    have a1 := hR.1
    have a2 := R1.1
    omega
  obtain ⟨T2, locs2, X2, R2, F2, st2⟩ := hn p e R s m args below meth c T1 locs1 _ _ X1 hx hZ hown hby hml hret hnm (hL.trans hLm) hfr hlo hsz1 R1 F1 (by omega) (by omega)
  refine ⟨T2, locs2, ?_, R2, F2, fun fs hl => st1 _ (st2 fs hl)⟩
  have e1 : cells + (h'.length - h.length) + (r.2.length - h'.length) = cells + (r.2.length - h.length) := by omega
  have e2 : slots + (hsl (gK G) h' - hsl (gK G) h) + (hsl (gK G) r.2 - hsl (gK G) h') = slots + (hsl (gK G) r.2 - hsl (gK G) h) := by omega
  rw [e1, e2] at X2
  exact X2
/-- a step that leaves the heap -/
theorem Ev.same {pc' : Nat} {L' : List Slot} {S' : List Value} (hL : L'.length = L.length) (hn : Ev G M pc' L' S' h r)
    (st : ∀ {p : Program} {e : Env} {R : Room} {s : State} {m : MethodId} {args : Array Value} {below : List Frame} {meth : Method} {c : Code} {T : State} {locs : List Loc} {cells slots : Nat},
      Stand p (gL G) e R s m args below meth c T locs cells slots → p.tables.exec = Jvm.exec → (gZ G).Warmed39 s.vm → s.vm.findClass (mN M).cls = some m.cls →
      c.code = mB M → c.maxLocals = mL M → L.length = mL M → mF M ≤ R.frames → mW M ≤ R.locals → Rel G T.heap h →
      ∃ T', Stand p (gL G) e R s m args below meth c T' locs cells slots ∧ T'.heap = T.heap ∧
        ∀ target, Steps p.tables e below (T'.setTop (mkF m pc' (arL G L') (S'.map (tr G)))) target → Steps p.tables e below (T.setTop (mkF m pc (arL G L) (S.map (tr G)))) target) :
    Ev G M pc L S h r := by
  refine Ev.gen (Nat.le_refl _) (Nat.le_refl _) hL hn ?_
  intro p e R s m args below meth c T locs cells slots X hx hZ hown hby hml hnm hLm hfr hlo hsz hR hF hc hs
  obtain ⟨T', X', e', st'⟩ := st X hx hZ hown hby hml hLm hfr hlo hR
  refine ⟨T', locs, ?_, by rw [e']; exact hR, hF, st'⟩
  rw [Nat.sub_self, Nat.sub_self, Nat.add_zero, Nat.add_zero]
  exact X'
/-- a step that leaves all but the frame -/
theorem Ev.pure {pc' : Nat} {L' : List Slot} {S' : List Value} (hL : L'.length = L.length) (hn : Ev G M pc' L' S' h r)
    (st : ∀ {p : Program} {e : Env} {R : Room} {s : State} {m : MethodId} {args : Array Value} {below : List Frame} {meth : Method} {c : Code} {T : State} {locs : List Loc} {cells slots : Nat},
      Stand p (gL G) e R s m args below meth c T locs cells slots → p.tables.exec = Jvm.exec → (gZ G).Warmed39 s.vm → s.vm.findClass (mN M).cls = some m.cls →
      c.code = mB M → ∀ target, Steps p.tables e below (T.setTop (mkF m pc' (arL G L') (S'.map (tr G)))) target → Steps p.tables e below (T.setTop (mkF m pc (arL G L) (S.map (tr G)))) target) :
    Ev G M pc L S h r :=
  Ev.same hL hn fun {p e R s m args below meth c T locs cells slots} X hx hZ hown hby hml hLm hfr hlo hR => ⟨T, X, rfl, st X hx hZ hown hby⟩
/-! ### loads, stores, constants -/
theorem Ev.iload {k : Nat} {v : Int32} (hd : decode (mB M) pc = .ok (.iload k, 2)) (hl : L[k]? = some (.val (.int v))) (hn : Ev G M (pc + 2) L (.int v :: S) h r) : Ev G M pc L S h r :=
  Ev.pure rfl hn fun {_ _ _ _ m _ _ _ _ _ _ _ _} X hx hZ hown hby target q => XS.iload (g := mkF m pc (arL G L) (List.map (tr G) S)) X.here hx rfl (hb hby hd) (ld_of hl) q
theorem Ev.iloadN {k : Fin 4} {v : Int32} (hd : decode (mB M) pc = .ok (.iload_n k, 1)) (hl : L[k.val]? = some (.val (.int v))) (hn : Ev G M (pc + 1) L (.int v :: S) h r) : Ev G M pc L S h r :=
  Ev.pure rfl hn fun {_ _ _ _ m _ _ _ _ _ _ _ _} X hx hZ hown hby target q => XS.iloadN (g := mkF m pc (arL G L) (List.map (tr G) S)) X.here hx rfl (hb hby hd) (ld_of hl) q
theorem Ev.aload {k : Nat} {v : Nat} (hd : decode (mB M) pc = .ok (.aload k, 2)) (hl : L[k]? = some (.val (.ref v))) (hn : Ev G M (pc + 2) L (.ref v :: S) h r) : Ev G M pc L S h r :=
  Ev.pure rfl hn fun {_ _ _ _ m _ _ _ _ _ _ _ _} X hx hZ hown hby target q => XS.aload (g := mkF m pc (arL G L) (List.map (tr G) S)) X.here hx rfl (hb hby hd) (ld_of hl) rfl q
theorem Ev.aloadN {k : Fin 4} {v : Nat} (hd : decode (mB M) pc = .ok (.aload_n k, 1)) (hl : L[k.val]? = some (.val (.ref v))) (hn : Ev G M (pc + 1) L (.ref v :: S) h r) : Ev G M pc L S h r :=
  Ev.pure rfl hn fun {_ _ _ _ m _ _ _ _ _ _ _ _} X hx hZ hown hby target q => XS.aloadN (g := mkF m pc (arL G L) (List.map (tr G) S)) X.here hx rfl (hb hby hd) (ld_of hl) rfl q
theorem Ev.lload {k : Nat} {v : Int64} (hd : decode (mB M) pc = .ok (.lload k, 2)) (hl : L[k]? = some (.val (.long v))) (hn : Ev G M (pc + 2) L (.long v :: S) h r) : Ev G M pc L S h r :=
  Ev.pure rfl hn fun {_ _ _ _ m _ _ _ _ _ _ _ _} X hx hZ hown hby target q => XT.lload (g := mkF m pc (arL G L) (List.map (tr G) S)) X.here hx rfl (hb hby hd) (ld_of hl) q
theorem Ev.lloadN {k : Fin 4} {v : Int64} (hd : decode (mB M) pc = .ok (.lload_n k, 1)) (hl : L[k.val]? = some (.val (.long v))) (hn : Ev G M (pc + 1) L (.long v :: S) h r) : Ev G M pc L S h r :=
  Ev.pure rfl hn fun {_ _ _ _ m _ _ _ _ _ _ _ _} X hx hZ hown hby target q => XT.lloadN (g := mkF m pc (arL G L) (List.map (tr G) S)) X.here hx rfl (hb hby hd) (ld_of hl) q
theorem Ev.istore {k : Nat} {v : Int32} {L' : List Slot} (hd : decode (mB M) pc = .ok (.istore k, 2)) (hl : mst L k (.int v) = some L') (hn : Ev G M (pc + 2) L' S h r) : Ev G M pc L (.int v :: S) h r :=
  Ev.pure (mst_len hl) hn fun {_ _ _ _ m _ _ _ _ _ _ _ _} X hx hZ hown hby target q => XS.istore (g := mkF m pc (arL G L) (List.map (tr G) (Value.int v :: S))) X.here hx rfl (hb hby hd) rfl (st_of hl) q
theorem Ev.istoreN {k : Fin 4} {v : Int32} {L' : List Slot} (hd : decode (mB M) pc = .ok (.istore_n k, 1)) (hl : mst L k.val (.int v) = some L') (hn : Ev G M (pc + 1) L' S h r) : Ev G M pc L (.int v :: S) h r :=
  Ev.pure (mst_len hl) hn fun {_ _ _ _ m _ _ _ _ _ _ _ _} X hx hZ hown hby target q => XS.istoreN (g := mkF m pc (arL G L) (List.map (tr G) (Value.int v :: S))) X.here hx rfl (hb hby hd) rfl (st_of hl) q
theorem Ev.astore {k v : Nat} {L' : List Slot} (hd : decode (mB M) pc = .ok (.astore k, 2)) (hl : mst L k (.ref v) = some L') (hn : Ev G M (pc + 2) L' S h r) : Ev G M pc L (.ref v :: S) h r :=
  Ev.pure (mst_len hl) hn fun {_ _ _ _ m _ _ _ _ _ _ _ _} X hx hZ hown hby target q => XS.astore (g := mkF m pc (arL G L) (List.map (tr G) (Value.ref v :: S))) X.here hx rfl (hb hby hd) rfl rfl (st_of hl) q
theorem Ev.astoreN {k : Fin 4} {v : Nat} {L' : List Slot} (hd : decode (mB M) pc = .ok (.astore_n k, 1)) (hl : mst L k.val (.ref v) = some L') (hn : Ev G M (pc + 1) L' S h r) : Ev G M pc L (.ref v :: S) h r :=
  Ev.pure (mst_len hl) hn fun {_ _ _ _ m _ _ _ _ _ _ _ _} X hx hZ hown hby target q => XS.astoreN (g := mkF m pc (arL G L) (List.map (tr G) (Value.ref v :: S))) X.here hx rfl (hb hby hd) rfl rfl (st_of hl) q
theorem Ev.lstore {k : Nat} {v : Int64} {L' : List Slot} (hd : decode (mB M) pc = .ok (.lstore k, 2)) (hl : mst L k (.long v) = some L') (hn : Ev G M (pc + 2) L' S h r) : Ev G M pc L (.long v :: S) h r :=
  Ev.pure (mst_len hl) hn fun {_ _ _ _ m _ _ _ _ _ _ _ _} X hx hZ hown hby target q => XT.lstore (g := mkF m pc (arL G L) (List.map (tr G) (Value.long v :: S))) X.here hx rfl (hb hby hd) rfl (st_of hl) q
theorem Ev.lstoreN {k : Fin 4} {v : Int64} {L' : List Slot} (hd : decode (mB M) pc = .ok (.lstore_n k, 1)) (hl : mst L k.val (.long v) = some L') (hn : Ev G M (pc + 1) L' S h r) : Ev G M pc L (.long v :: S) h r :=
  Ev.pure (mst_len hl) hn fun {_ _ _ _ m _ _ _ _ _ _ _ _} X hx hZ hown hby target q => XT.lstoreN (g := mkF m pc (arL G L) (List.map (tr G) (Value.long v :: S))) X.here hx rfl (hb hby hd) rfl (st_of hl) q
theorem Ev.iconst {i : Int} {z : Int32} (hd : decode (mB M) pc = .ok (.iconst i, 1)) (hz : Int32.ofInt i = z) (hn : Ev G M (pc + 1) L (.int z :: S) h r) : Ev G M pc L S h r :=
  Ev.pure rfl (hz ▸ hn) fun {_ _ _ _ m _ _ _ _ _ _ _ _} X hx hZ hown hby target q => XS.iconst (g := mkF m pc (arL G L) (List.map (tr G) S)) X.here hx rfl (hb hby hd) q
theorem Ev.bipush {i : Int} {z : Int32} (hd : decode (mB M) pc = .ok (.bipush i, 2)) (hz : (Int8.ofInt i).toInt32 = z) (hn : Ev G M (pc + 2) L (.int z :: S) h r) : Ev G M pc L S h r :=
  Ev.pure rfl (hz ▸ hn) fun {_ _ _ _ m _ _ _ _ _ _ _ _} X hx hZ hown hby target q => XS.bipush (g := mkF m pc (arL G L) (List.map (tr G) S)) X.here hx rfl (hb hby hd) q
theorem Ev.sipush {i : Int} {z : Int32} (hd : decode (mB M) pc = .ok (.sipush i, 3)) (hz : (Int16.ofInt i).toInt32 = z) (hn : Ev G M (pc + 3) L (.int z :: S) h r) : Ev G M pc L S h r :=
  Ev.pure rfl (hz ▸ hn) fun {_ _ _ _ m _ _ _ _ _ _ _ _} X hx hZ hown hby target q => XS.sipush (g := mkF m pc (arL G L) (List.map (tr G) S)) X.here hx rfl (hb hby hd) q
theorem Ev.lconst {k : Fin 2} {z : Int64} (hd : decode (mB M) pc = .ok (.lconst k, 1)) (hz : Int64.ofNat k = z) (hn : Ev G M (pc + 1) L (.long z :: S) h r) : Ev G M pc L S h r :=
  Ev.pure rfl (hz ▸ hn) fun {_ _ _ _ m _ _ _ _ _ _ _ _} X hx hZ hown hby target q => XT.lconst (g := mkF m pc (arL G L) (List.map (tr G) S)) X.here hx rfl (hb hby hd) q
theorem Ev.ldc {k : Nat} {v : Int32} (w : (Jvm.Cond.constant (mN M).cls k v).before (gA G) (gZ G) = true) (hd : decode (mB M) pc = .ok (.ldc k, 2)) (hn : Ev G M (pc + 2) L (.int v :: S) h r) : Ev G M pc L S h r :=
  Ev.pure rfl hn fun {_ _ _ _ m _ _ _ _ _ _ _ _} X hx hZ hown hby target q => X.ldcInt hx hown (mvT hZ w) (g := mkF m pc (arL G L) (List.map (tr G) S)) rfl (hb hby hd) target q
theorem Ev.ldcW {k : Nat} {v : Int32} (w : (Jvm.Cond.constant (mN M).cls k v).before (gA G) (gZ G) = true) (hd : decode (mB M) pc = .ok (.ldc_w k, 3)) (hn : Ev G M (pc + 3) L (.int v :: S) h r) : Ev G M pc L S h r :=
  Ev.pure rfl hn fun {_ _ _ _ m _ _ _ _ _ _ _ _} X hx hZ hown hby target q => X.ldcwInt hx hown (mvT hZ w) (g := mkF m pc (arL G L) (List.map (tr G) S)) rfl (hb hby hd) target q
theorem Ev.ldcL {k : Nat} {v : Int64} (w : (Jvm.Cond.constantLong (mN M).cls k v).before (gA G) (gZ G) = true) (hd : decode (mB M) pc = .ok (.ldc2_w k, 3)) (hn : Ev G M (pc + 3) L (.long v :: S) h r) : Ev G M pc L S h r :=
  Ev.pure rfl hn fun {_ _ _ _ m _ _ _ _ _ _ _ _} X hx hZ hown hby target q => X.ldc2Long hx hown (mvT hZ w) (g := mkF m pc (arL G L) (List.map (tr G) S)) rfl (hb hby hd) target q
/-! ### reckoning -/
theorem Ev.iadd {x y : Int32} (hd : decode (mB M) pc = .ok (.iadd, 1)) (hn : Ev G M (pc + 1) L (.int (x + y) :: S) h r) : Ev G M pc L (.int y :: .int x :: S) h r :=
  Ev.pure rfl hn fun {_ _ _ _ m _ _ _ _ _ _ _ _} X hx hZ hown hby target q => XS.iadd (g := mkF m pc (arL G L) (List.map (tr G) (Value.int y :: Value.int x :: S))) X.here hx rfl (hb hby hd) rfl q
theorem Ev.isub {x y : Int32} (hd : decode (mB M) pc = .ok (.isub, 1)) (hn : Ev G M (pc + 1) L (.int (x - y) :: S) h r) : Ev G M pc L (.int y :: .int x :: S) h r :=
  Ev.pure rfl hn fun {_ _ _ _ m _ _ _ _ _ _ _ _} X hx hZ hown hby target q => XS.isub (g := mkF m pc (arL G L) (List.map (tr G) (Value.int y :: Value.int x :: S))) X.here hx rfl (hb hby hd) rfl q
theorem Ev.imul {x y : Int32} (hd : decode (mB M) pc = .ok (.imul, 1)) (hn : Ev G M (pc + 1) L (.int (x * y) :: S) h r) : Ev G M pc L (.int y :: .int x :: S) h r :=
  Ev.pure rfl hn fun {_ _ _ _ m _ _ _ _ _ _ _ _} X hx hZ hown hby target q => XS.imul (g := mkF m pc (arL G L) (List.map (tr G) (Value.int y :: Value.int x :: S))) X.here hx rfl (hb hby hd) rfl q
theorem Ev.idiv {x y : Int32} (hd : decode (mB M) pc = .ok (.idiv, 1)) (hy : y ≠ 0) (hn : Ev G M (pc + 1) L (.int (x / y) :: S) h r) : Ev G M pc L (.int y :: .int x :: S) h r :=
  Ev.pure rfl hn fun {_ _ _ _ m _ _ _ _ _ _ _ _} X hx hZ hown hby target q => XS.idiv (g := mkF m pc (arL G L) (List.map (tr G) (Value.int y :: Value.int x :: S))) X.here hx rfl (hb hby hd) rfl hy q
theorem Ev.irem {x y : Int32} (hd : decode (mB M) pc = .ok (.irem, 1)) (hy : y ≠ 0) (hn : Ev G M (pc + 1) L (.int (x % y) :: S) h r) : Ev G M pc L (.int y :: .int x :: S) h r :=
  Ev.pure rfl hn fun {_ _ _ _ m _ _ _ _ _ _ _ _} X hx hZ hown hby target q => iremM (g := mkF m pc (arL G L) (List.map (tr G) (Value.int y :: Value.int x :: S))) X hx rfl (hb hby hd) rfl hy q
theorem Ev.ineg {x : Int32} (hd : decode (mB M) pc = .ok (.ineg, 1)) (hn : Ev G M (pc + 1) L (.int (-x) :: S) h r) : Ev G M pc L (.int x :: S) h r :=
  Ev.pure rfl hn fun {_ _ _ _ m _ _ _ _ _ _ _ _} X hx hZ hown hby target q => XS.ineg (g := mkF m pc (arL G L) (List.map (tr G) (Value.int x :: S))) X.here hx rfl (hb hby hd) rfl q
theorem Ev.iand {x y : Int32} (hd : decode (mB M) pc = .ok (.iand, 1)) (hn : Ev G M (pc + 1) L (.int (x &&& y) :: S) h r) : Ev G M pc L (.int y :: .int x :: S) h r :=
  Ev.pure rfl hn fun {_ _ _ _ m _ _ _ _ _ _ _ _} X hx hZ hown hby target q => XS.iand (g := mkF m pc (arL G L) (List.map (tr G) (Value.int y :: Value.int x :: S))) X.here hx rfl (hb hby hd) rfl q
theorem Ev.ior {x y : Int32} (hd : decode (mB M) pc = .ok (.ior, 1)) (hn : Ev G M (pc + 1) L (.int (x ||| y) :: S) h r) : Ev G M pc L (.int y :: .int x :: S) h r :=
  Ev.pure rfl hn fun {_ _ _ _ m _ _ _ _ _ _ _ _} X hx hZ hown hby target q => XT.ior (g := mkF m pc (arL G L) (List.map (tr G) (Value.int y :: Value.int x :: S))) X.here hx rfl (hb hby hd) rfl q
theorem Ev.ixor {x y : Int32} (hd : decode (mB M) pc = .ok (.ixor, 1)) (hn : Ev G M (pc + 1) L (.int (x ^^^ y) :: S) h r) : Ev G M pc L (.int y :: .int x :: S) h r :=
  Ev.pure rfl hn fun {_ _ _ _ m _ _ _ _ _ _ _ _} X hx hZ hown hby target q => XT.ixor (g := mkF m pc (arL G L) (List.map (tr G) (Value.int y :: Value.int x :: S))) X.here hx rfl (hb hby hd) rfl q
theorem Ev.ishl {x y : Int32} (hd : decode (mB M) pc = .ok (.ishl, 1)) (hn : Ev G M (pc + 1) L (.int (x <<< (y &&& 31)) :: S) h r) : Ev G M pc L (.int y :: .int x :: S) h r :=
  Ev.pure rfl hn fun {_ _ _ _ m _ _ _ _ _ _ _ _} X hx hZ hown hby target q => XT.ishl (g := mkF m pc (arL G L) (List.map (tr G) (Value.int y :: Value.int x :: S))) X.here hx rfl (hb hby hd) rfl q
theorem Ev.ishr {x y : Int32} (hd : decode (mB M) pc = .ok (.ishr, 1)) (hn : Ev G M (pc + 1) L (.int (x >>> (y &&& 31)) :: S) h r) : Ev G M pc L (.int y :: .int x :: S) h r :=
  Ev.pure rfl hn fun {_ _ _ _ m _ _ _ _ _ _ _ _} X hx hZ hown hby target q => XT.ishr (g := mkF m pc (arL G L) (List.map (tr G) (Value.int y :: Value.int x :: S))) X.here hx rfl (hb hby hd) rfl q
theorem Ev.iushr {x y : Int32} (hd : decode (mB M) pc = .ok (.iushr, 1)) (hn : Ev G M (pc + 1) L (.int (XT.ushr x y) :: S) h r) : Ev G M pc L (.int y :: .int x :: S) h r :=
  Ev.pure rfl hn fun {_ _ _ _ m _ _ _ _ _ _ _ _} X hx hZ hown hby target q => XT.iushr (g := mkF m pc (arL G L) (List.map (tr G) (Value.int y :: Value.int x :: S))) X.here hx rfl (hb hby hd) rfl q
theorem Ev.ladd {x y : Int64} (hd : decode (mB M) pc = .ok (.ladd, 1)) (hn : Ev G M (pc + 1) L (.long (x + y) :: S) h r) : Ev G M pc L (.long y :: .long x :: S) h r :=
  Ev.pure rfl hn fun {_ _ _ _ m _ _ _ _ _ _ _ _} X hx hZ hown hby target q => XT.ladd (g := mkF m pc (arL G L) (List.map (tr G) (Value.long y :: Value.long x :: S))) X.here hx rfl (hb hby hd) rfl q
theorem Ev.lsub {x y : Int64} (hd : decode (mB M) pc = .ok (.lsub, 1)) (hn : Ev G M (pc + 1) L (.long (x - y) :: S) h r) : Ev G M pc L (.long y :: .long x :: S) h r :=
  Ev.pure rfl hn fun {_ _ _ _ m _ _ _ _ _ _ _ _} X hx hZ hown hby target q => XT.lsub (g := mkF m pc (arL G L) (List.map (tr G) (Value.long y :: Value.long x :: S))) X.here hx rfl (hb hby hd) rfl q
theorem Ev.lmul {x y : Int64} (hd : decode (mB M) pc = .ok (.lmul, 1)) (hn : Ev G M (pc + 1) L (.long (x * y) :: S) h r) : Ev G M pc L (.long y :: .long x :: S) h r :=
  Ev.pure rfl hn fun {_ _ _ _ m _ _ _ _ _ _ _ _} X hx hZ hown hby target q => XT.lmul (g := mkF m pc (arL G L) (List.map (tr G) (Value.long y :: Value.long x :: S))) X.here hx rfl (hb hby hd) rfl q
theorem Ev.ldiv {x y : Int64} (hd : decode (mB M) pc = .ok (.ldiv, 1)) (hy : y ≠ 0) (hn : Ev G M (pc + 1) L (.long (x / y) :: S) h r) : Ev G M pc L (.long y :: .long x :: S) h r :=
  Ev.pure rfl hn fun {_ _ _ _ m _ _ _ _ _ _ _ _} X hx hZ hown hby target q => XT.ldiv (g := mkF m pc (arL G L) (List.map (tr G) (Value.long y :: Value.long x :: S))) X.here hx rfl (hb hby hd) rfl hy q
theorem Ev.lneg {x : Int64} (hd : decode (mB M) pc = .ok (.lneg, 1)) (hn : Ev G M (pc + 1) L (.long (-x) :: S) h r) : Ev G M pc L (.long x :: S) h r :=
  Ev.pure rfl hn fun {_ _ _ _ m _ _ _ _ _ _ _ _} X hx hZ hown hby target q => XT.lneg (g := mkF m pc (arL G L) (List.map (tr G) (Value.long x :: S))) X.here hx rfl (hb hby hd) rfl q
theorem Ev.land {x y : Int64} (hd : decode (mB M) pc = .ok (.land, 1)) (hn : Ev G M (pc + 1) L (.long (x &&& y) :: S) h r) : Ev G M pc L (.long y :: .long x :: S) h r :=
  Ev.pure rfl hn fun {_ _ _ _ m _ _ _ _ _ _ _ _} X hx hZ hown hby target q => XT.land (g := mkF m pc (arL G L) (List.map (tr G) (Value.long y :: Value.long x :: S))) X.here hx rfl (hb hby hd) rfl q
theorem Ev.lor {x y : Int64} (hd : decode (mB M) pc = .ok (.lor, 1)) (hn : Ev G M (pc + 1) L (.long (x ||| y) :: S) h r) : Ev G M pc L (.long y :: .long x :: S) h r :=
  Ev.pure rfl hn fun {_ _ _ _ m _ _ _ _ _ _ _ _} X hx hZ hown hby target q => XT.lor (g := mkF m pc (arL G L) (List.map (tr G) (Value.long y :: Value.long x :: S))) X.here hx rfl (hb hby hd) rfl q
theorem Ev.lxor {x y : Int64} (hd : decode (mB M) pc = .ok (.lxor, 1)) (hn : Ev G M (pc + 1) L (.long (x ^^^ y) :: S) h r) : Ev G M pc L (.long y :: .long x :: S) h r :=
  Ev.pure rfl hn fun {_ _ _ _ m _ _ _ _ _ _ _ _} X hx hZ hown hby target q => XT.lxor (g := mkF m pc (arL G L) (List.map (tr G) (Value.long y :: Value.long x :: S))) X.here hx rfl (hb hby hd) rfl q
theorem Ev.lshl {x : Int64} {y : Int32} (hd : decode (mB M) pc = .ok (.lshl, 1)) (hn : Ev G M (pc + 1) L (.long (x <<< (y.toInt64 &&& 63)) :: S) h r) : Ev G M pc L (.int y :: .long x :: S) h r :=
  Ev.pure rfl hn fun {_ _ _ _ m _ _ _ _ _ _ _ _} X hx hZ hown hby target q => XT.lshl (g := mkF m pc (arL G L) (List.map (tr G) (Value.int y :: Value.long x :: S))) X.here hx rfl (hb hby hd) rfl q
theorem Ev.lushr {x : Int64} {y : Int32} (hd : decode (mB M) pc = .ok (.lushr, 1)) (hn : Ev G M (pc + 1) L (.long (XT.ushrL x y) :: S) h r) : Ev G M pc L (.int y :: .long x :: S) h r :=
  Ev.pure rfl hn fun {_ _ _ _ m _ _ _ _ _ _ _ _} X hx hZ hown hby target q => XT.lushr (g := mkF m pc (arL G L) (List.map (tr G) (Value.int y :: Value.long x :: S))) X.here hx rfl (hb hby hd) rfl q
theorem Ev.lcmp {x y : Int64} (hd : decode (mB M) pc = .ok (.lcmp, 1)) (hn : Ev G M (pc + 1) L (.int (XT.cmpL x y) :: S) h r) : Ev G M pc L (.long y :: .long x :: S) h r :=
  Ev.pure rfl hn fun {_ _ _ _ m _ _ _ _ _ _ _ _} X hx hZ hown hby target q => XT.lcmp (g := mkF m pc (arL G L) (List.map (tr G) (Value.long y :: Value.long x :: S))) X.here hx rfl (hb hby hd) rfl q
theorem Ev.i2l {x : Int32} (hd : decode (mB M) pc = .ok (.i2l, 1)) (hn : Ev G M (pc + 1) L (.long x.toInt64 :: S) h r) : Ev G M pc L (.int x :: S) h r :=
  Ev.pure rfl hn fun {_ _ _ _ m _ _ _ _ _ _ _ _} X hx hZ hown hby target q => XT.i2l (g := mkF m pc (arL G L) (List.map (tr G) (Value.int x :: S))) X.here hx rfl (hb hby hd) rfl q
theorem Ev.l2i {x : Int64} (hd : decode (mB M) pc = .ok (.l2i, 1)) (hn : Ev G M (pc + 1) L (.int x.toInt32 :: S) h r) : Ev G M pc L (.long x :: S) h r :=
  Ev.pure rfl hn fun {_ _ _ _ m _ _ _ _ _ _ _ _} X hx hZ hown hby target q => XT.l2i (g := mkF m pc (arL G L) (List.map (tr G) (Value.long x :: S))) X.here hx rfl (hb hby hd) rfl q
theorem Ev.i2b {x : Int32} (hd : decode (mB M) pc = .ok (.i2b, 1)) (hn : Ev G M (pc + 1) L (.int x.toInt8.toInt32 :: S) h r) : Ev G M pc L (.int x :: S) h r :=
  Ev.pure rfl hn fun {_ _ _ _ m _ _ _ _ _ _ _ _} X hx hZ hown hby target q => XT.i2b (g := mkF m pc (arL G L) (List.map (tr G) (Value.int x :: S))) X.here hx rfl (hb hby hd) rfl q
theorem Ev.iinc {k : Nat} {i : Int} {x z : Int32} {L' : List Slot} (hd : decode (mB M) pc = .ok (.iinc k i, 3)) (hl : L[k]? = some (.val (.int x))) (hz : Int32.ofInt i = z) (hl' : mst L k (.int (x + z)) = some L') (hn : Ev G M (pc + 3) L' S h r) : Ev G M pc L S h r :=
  Ev.pure (mst_len hl') hn fun {_ _ _ _ m _ _ _ _ _ _ _ _} X hx hZ hown hby target q => XS.iinc (g := mkF m pc (arL G L) (List.map (tr G) S)) X.here hx rfl (hb hby hd) (ld_of hl) (by rw [hz]; exact st_of hl') q
theorem iincW {tb : Tables} [Ours tb] {e : Env} {below : List Frame} {T target : State} {m : MethodId} {c : Code} {g : JFrame} (h : At T m c below) (hx : tb.exec = Jvm.exec) (hg : g.method = m) {k : Nat} {cst : Int} {x : Int32} {l' : Array Slot} (hd : decode c.code g.pc = .ok (.iinc k cst, 6)) (hl : g.locals[k]? = some (.val (.int x))) (hl' : storeLocals g.locals k (.int (x + Int32.ofInt cst)) = some l')
    (hr : Steps tb e below (T.setTop { g with pc := g.pc + 6, locals := l' }) target) : Steps tb e below (T.setTop g) target := by
  subst hg
  jvm_step h [h.top, hx, hd, hl, hl']
  exact hr
theorem Ev.iincW {k : Nat} {i : Int} {x z : Int32} {L' : List Slot} (hd : decode (mB M) pc = .ok (.iinc k i, 6)) (hl : L[k]? = some (.val (.int x))) (hz : Int32.ofInt i = z) (hl' : mst L k (.int (x + z)) = some L') (hn : Ev G M (pc + 6) L' S h r) : Ev G M pc L S h r :=
  Ev.pure (mst_len hl') hn fun {_ _ _ _ m _ _ _ _ _ _ _ _} X hx hZ hown hby target q => Own.iincW (g := mkF m pc (arL G L) (List.map (tr G) S)) X.here hx rfl (hb hby hd) (ld_of hl) (by rw [hz]; exact st_of hl') q
theorem Ev.dup {x : Value} (hd : decode (mB M) pc = .ok (.dup, 1)) (hc : x.category = 1) (hn : Ev G M (pc + 1) L (x :: x :: S) h r) : Ev G M pc L (x :: S) h r :=
  Ev.pure rfl hn fun {_ _ _ _ m _ _ _ _ _ _ _ _} X hx hZ hown hby target q => XS.dup (g := mkF m pc (arL G L) (List.map (tr G) (x :: S))) X.here hx rfl (hb hby hd) rfl ((tr_cat G x).trans hc) q
theorem Ev.dup2 {x y : Value} (hd : decode (mB M) pc = .ok (.dup2, 1)) (hc : x.category = 1) (hc' : y.category = 1) (hn : Ev G M (pc + 1) L (x :: y :: x :: y :: S) h r) : Ev G M pc L (x :: y :: S) h r :=
  Ev.pure rfl hn fun {_ _ _ _ m _ _ _ _ _ _ _ _} X hx hZ hown hby target q => XT.dup2 (g := mkF m pc (arL G L) (List.map (tr G) (x :: y :: S))) X.here hx rfl (hb hby hd) rfl ((tr_cat G x).trans hc) ((tr_cat G y).trans hc') q
theorem Ev.pop {x : Value} (hd : decode (mB M) pc = .ok (.pop, 1)) (hc : x.category = 1) (hn : Ev G M (pc + 1) L S h r) : Ev G M pc L (x :: S) h r :=
  Ev.pure rfl hn fun {_ _ _ _ m _ _ _ _ _ _ _ _} X hx hZ hown hby target q => XT.pop (g := mkF m pc (arL G L) (List.map (tr G) (x :: S))) X.here hx rfl (hb hby hd) rfl ((tr_cat G x).trans hc) q
/-! ### branches -/
theorem Ev.goto {o : Int} {t : Nat} (hd : decode (mB M) pc = .ok (.goto o, 3)) (hp : (pc : Int) + o = (t : Int)) (hn : Ev G M t L S h r) : Ev G M pc L S h r :=
  Ev.pure rfl hn fun {_ _ _ _ m _ _ _ _ _ _ _ _} X hx hZ hown hby target q => XS.goto (g := mkF m pc (arL G L) (List.map (tr G) S)) X.here hx rfl rfl (hb hby hd) (by rw [hp]; exact Int.natCast_nonneg t) (by rw [hp]; rfl) q
theorem Ev.ifc {cd : ClassFile.Cond} {x : Int32} {o : Int} {t : Nat} (hd : decode (mB M) pc = .ok (.ifCond cd o, 3)) (hp : (pc : Int) + o = (t : Int)) (h1 : ifCond.holds cd x = true → Ev G M t L S h r) (h2 : ifCond.holds cd x = false → Ev G M (pc + 3) L S h r) : Ev G M pc L (.int x :: S) h r := by
  cases hc : ifCond.holds cd x with
  | true => exact Ev.pure rfl (h1 hc) fun {_ _ _ _ m _ _ _ _ _ _ _ _} X hx hZ hown hby target q => XS.ifYes (g := mkF m pc (arL G L) (List.map (tr G) (Value.int x :: S))) X.here hx rfl rfl (hb hby hd) rfl hc (by rw [hp]; exact Int.natCast_nonneg t) (by rw [hp]; rfl) q
  | false => exact Ev.pure rfl (h2 hc) fun {_ _ _ _ m _ _ _ _ _ _ _ _} X hx hZ hown hby target q => XS.ifNo (g := mkF m pc (arL G L) (List.map (tr G) (Value.int x :: S))) X.here hx rfl (hb hby hd) rfl hc q
theorem Ev.icc {cd : ClassFile.Cond} {x y : Int32} {o : Int} {t : Nat} (hd : decode (mB M) pc = .ok (.if_icmp cd o, 3)) (hp : (pc : Int) + o = (t : Int)) (h1 : if_icmp.holds cd x y = true → Ev G M t L S h r) (h2 : if_icmp.holds cd x y = false → Ev G M (pc + 3) L S h r) : Ev G M pc L (.int y :: .int x :: S) h r := by
  cases hc : if_icmp.holds cd x y with
  | true => exact Ev.pure rfl (h1 hc) fun {_ _ _ _ m _ _ _ _ _ _ _ _} X hx hZ hown hby target q => XS.icmpYes (g := mkF m pc (arL G L) (List.map (tr G) (Value.int y :: Value.int x :: S))) X.here hx rfl rfl (hb hby hd) rfl hc (by rw [hp]; exact Int.natCast_nonneg t) (by rw [hp]; rfl) q
  | false => exact Ev.pure rfl (h2 hc) fun {_ _ _ _ m _ _ _ _ _ _ _ _} X hx hZ hown hby target q => XS.icmpNo (g := mkF m pc (arL G L) (List.map (tr G) (Value.int y :: Value.int x :: S))) X.here hx rfl (hb hby hd) rfl hc q
theorem Ev.iclt {x y : Int32} {o : Int} {t : Nat} (hd : decode (mB M) pc = .ok (.if_icmp .lt o, 3)) (hp : (pc : Int) + o = (t : Int)) (h1 : x < y → Ev G M t L S h r) (h2 : ¬ x < y → Ev G M (pc + 3) L S h r) : Ev G M pc L (.int y :: .int x :: S) h r :=
  Ev.icc hd hp (fun q => h1 (by simpa [if_icmp.holds] using q)) (fun q => h2 (by simpa [if_icmp.holds] using q))
theorem Ev.icge {x y : Int32} {o : Int} {t : Nat} (hd : decode (mB M) pc = .ok (.if_icmp .ge o, 3)) (hp : (pc : Int) + o = (t : Int)) (h1 : x < y → Ev G M (pc + 3) L S h r) (h2 : ¬ x < y → Ev G M t L S h r) : Ev G M pc L (.int y :: .int x :: S) h r :=
  Ev.icc hd hp (fun q => h2 (by simpa [if_icmp.holds] using q)) (fun q => h1 (by simpa [if_icmp.holds] using q))
theorem Ev.icgt {x y : Int32} {o : Int} {t : Nat} (hd : decode (mB M) pc = .ok (.if_icmp .gt o, 3)) (hp : (pc : Int) + o = (t : Int)) (h1 : y < x → Ev G M t L S h r) (h2 : ¬ y < x → Ev G M (pc + 3) L S h r) : Ev G M pc L (.int y :: .int x :: S) h r :=
  Ev.icc hd hp (fun q => h1 (by simpa [if_icmp.holds] using q)) (fun q => h2 (by simpa [if_icmp.holds] using q))
theorem Ev.icle {x y : Int32} {o : Int} {t : Nat} (hd : decode (mB M) pc = .ok (.if_icmp .le o, 3)) (hp : (pc : Int) + o = (t : Int)) (h1 : y < x → Ev G M (pc + 3) L S h r) (h2 : ¬ y < x → Ev G M t L S h r) : Ev G M pc L (.int y :: .int x :: S) h r :=
  Ev.icc hd hp (fun q => h2 (by simpa [if_icmp.holds] using q)) (fun q => h1 (by simpa [if_icmp.holds] using q))
theorem Ev.iceq {x y : Int32} {o : Int} {t : Nat} (hd : decode (mB M) pc = .ok (.if_icmp .eq o, 3)) (hp : (pc : Int) + o = (t : Int)) (h1 : x = y → Ev G M t L S h r) (h2 : ¬ x = y → Ev G M (pc + 3) L S h r) : Ev G M pc L (.int y :: .int x :: S) h r :=
  Ev.icc hd hp (fun q => h1 (by simpa [if_icmp.holds] using q)) (fun q => h2 (by simpa [if_icmp.holds] using q))
theorem Ev.icne {x y : Int32} {o : Int} {t : Nat} (hd : decode (mB M) pc = .ok (.if_icmp .ne o, 3)) (hp : (pc : Int) + o = (t : Int)) (h1 : x = y → Ev G M (pc + 3) L S h r) (h2 : ¬ x = y → Ev G M t L S h r) : Ev G M pc L (.int y :: .int x :: S) h r :=
  Ev.icc hd hp (fun q => h2 (by simpa [if_icmp.holds] using q)) (fun q => h1 (by simpa [if_icmp.holds] using q))
theorem Ev.iflt {x : Int32} {o : Int} {t : Nat} (hd : decode (mB M) pc = .ok (.ifCond .lt o, 3)) (hp : (pc : Int) + o = (t : Int)) (h1 : x < 0 → Ev G M t L S h r) (h2 : ¬ x < 0 → Ev G M (pc + 3) L S h r) : Ev G M pc L (.int x :: S) h r :=
  Ev.ifc hd hp (fun q => h1 (by simpa [ifCond.holds] using q)) (fun q => h2 (by simpa [ifCond.holds] using q))
theorem Ev.ifge {x : Int32} {o : Int} {t : Nat} (hd : decode (mB M) pc = .ok (.ifCond .ge o, 3)) (hp : (pc : Int) + o = (t : Int)) (h1 : x < 0 → Ev G M (pc + 3) L S h r) (h2 : ¬ x < 0 → Ev G M t L S h r) : Ev G M pc L (.int x :: S) h r :=
  Ev.ifc hd hp (fun q => h2 (by simpa [ifCond.holds] using q)) (fun q => h1 (by simpa [ifCond.holds] using q))
theorem Ev.ifgt {x : Int32} {o : Int} {t : Nat} (hd : decode (mB M) pc = .ok (.ifCond .gt o, 3)) (hp : (pc : Int) + o = (t : Int)) (h1 : 0 < x → Ev G M t L S h r) (h2 : ¬ 0 < x → Ev G M (pc + 3) L S h r) : Ev G M pc L (.int x :: S) h r :=
  Ev.ifc hd hp (fun q => h1 (by simpa [ifCond.holds] using q)) (fun q => h2 (by simpa [ifCond.holds] using q))
theorem Ev.ifle {x : Int32} {o : Int} {t : Nat} (hd : decode (mB M) pc = .ok (.ifCond .le o, 3)) (hp : (pc : Int) + o = (t : Int)) (h1 : 0 < x → Ev G M (pc + 3) L S h r) (h2 : ¬ 0 < x → Ev G M t L S h r) : Ev G M pc L (.int x :: S) h r :=
  Ev.ifc hd hp (fun q => h2 (by simpa [ifCond.holds] using q)) (fun q => h1 (by simpa [ifCond.holds] using q))
theorem Ev.ifeq {x : Int32} {o : Int} {t : Nat} (hd : decode (mB M) pc = .ok (.ifCond .eq o, 3)) (hp : (pc : Int) + o = (t : Int)) (h1 : x = 0 → Ev G M t L S h r) (h2 : ¬ x = 0 → Ev G M (pc + 3) L S h r) : Ev G M pc L (.int x :: S) h r :=
  Ev.ifc hd hp (fun q => h1 (by simpa [ifCond.holds] using q)) (fun q => h2 (by simpa [ifCond.holds] using q))
theorem Ev.ifne {x : Int32} {o : Int} {t : Nat} (hd : decode (mB M) pc = .ok (.ifCond .ne o, 3)) (hp : (pc : Int) + o = (t : Int)) (h1 : x = 0 → Ev G M (pc + 3) L S h r) (h2 : ¬ x = 0 → Ev G M t L S h r) : Ev G M pc L (.int x :: S) h r :=
  Ev.ifc hd hp (fun q => h2 (by simpa [ifCond.holds] using q)) (fun q => h1 (by simpa [ifCond.holds] using q))
theorem Ev.tswIn {x : Int32} {dflt low high : Int} {offs : Array Int} {len t : Nat} {o : Int} (hd : decode (mB M) pc = .ok (.tableswitch dflt low high offs, len)) (hin : ¬ (x.toInt < low ∨ x.toInt > high)) (ho : offs[(x.toInt - low).toNat]? = some o) (hp : (pc : Int) + o = (t : Int)) (hn : Ev G M t L S h r) : Ev G M pc L (.int x :: S) h r :=
  Ev.pure rfl hn fun {_ _ _ _ m _ _ _ _ _ _ _ _} X hx hZ hown hby target q => XS.tswIn (g := mkF m pc (arL G L) (List.map (tr G) (Value.int x :: S))) X.here hx rfl rfl (hb hby hd) rfl hin ho (by rw [hp]; exact Int.natCast_nonneg t) (by rw [hp]; rfl) q
theorem Ev.tswOut {x : Int32} {dflt low high : Int} {offs : Array Int} {len t : Nat} (hd : decode (mB M) pc = .ok (.tableswitch dflt low high offs, len)) (hout : x.toInt < low ∨ x.toInt > high) (hp : (pc : Int) + dflt = (t : Int)) (hn : Ev G M t L S h r) : Ev G M pc L (.int x :: S) h r :=
  Ev.pure rfl hn fun {_ _ _ _ m _ _ _ _ _ _ _ _} X hx hZ hown hby target q => XS.tswOut (g := mkF m pc (arL G L) (List.map (tr G) (Value.int x :: S))) X.here hx rfl rfl (hb hby hd) rfl hout (by rw [hp]; exact Int.natCast_nonneg t) (by rw [hp]; rfl) q
/-! ### fields -/
theorem Ev.getfield {idx j i : Nat} {n d : String} {ty : FieldType} {fs : List Value} {v : Value} (w : (Jvm.Cond.fieldLink (mN M).cls idx (gC G) n d).before (gA G) (gZ G) = true) (hd : decode (mB M) pc = .ok (.getfield idx, 3))
    (hF : (gF G)[j]? = some (n, d, ty)) (hi : h[i]? = some (.inl fs)) (hv : fs[j]? = some v) (hn : Ev G M (pc + 3) L (v :: S) h r) : Ev G M pc L (.ref i :: S) h r := by
  refine Ev.same rfl hn ?_
  intro p e R s m args below meth c T locs cells slots X hx hZ hown hby hml hLm hfr hlo hR
  obtain ⟨-, -, h3⟩ := hR.2.2.2 i _ hi
  obtain ⟨T', X', e', st⟩ := getF X hx hZ hown (host := "") (Or.inl w) Via.refl rfl (h3 j n d ty v hF hv) (g := mkF m pc (arL G L) ((Value.ref i :: S).map (tr G))) rfl rfl (hb hby hd)
  exact ⟨T', X', e', st⟩
def mput : FieldType → Value → Option Value
  | .int, .int z => some (.int z)
  | .boolean, .int z => some (.int (z &&& 1))
  | .array _, .ref a => some (.ref a)
  | _, _ => none
theorem mput_spec {G : Ctx} {ty : FieldType} {v v' : Value} (h : mput ty v = some v') : narrow ty (tr G v) = tr G v' ∧ fits ty (tr G v') = true := by
  unfold mput at h
  split at h
  · cases h; exact ⟨rfl, rfl⟩
  · cases h; exact ⟨rfl, fits_nar_bool _⟩
  · cases h; exact ⟨rfl, rfl⟩
  · cases h
theorem Ev.putfield {idx j i : Nat} {n d : String} {ty : FieldType} {fs : List Value} {v v' : Value} (K : GOk G) (w : (Jvm.Cond.fieldLink (mN M).cls idx (gC G) n d).before (gA G) (gZ G) = true)
    (wl : (Jvm.Cond.lays (gC G) (gC G) n d).before (gA G) (gZ G) = true ∨ ((Jvm.Cond.laysFinal (gC G) (gC G) n d).before (gA G) (gZ G) = true ∧ (mN M).cls = gC G ∧ (mN M).name = "<init>"))
    (hd : decode (mB M) pc = .ok (.putfield idx, 3)) (hF : (gF G)[j]? = some (n, d, ty)) (hk : k0 G ≤ i) (hi : h[i]? = some (.inl fs)) (hp : mput ty v = some v') (hn : Ev G M (pc + 3) L S (h.set i (.inl (fs.set j v'))) r) : Ev G M pc L (v :: .ref i :: S) h r := by
  have hs := hsl_set (gK G) h i (.inl fs) (.inl (fs.set j v')) hi rfl
  refine Ev.gen (by rw [List.length_set]; exact Nat.le_refl _) (by rw [hs]; exact Nat.le_refl _) rfl hn ?_
  intro p e R s m args below meth c T locs cells slots X hx hZ hown hby hml hnm hLm hfr hlo hsz hR hFr hc hsq
  obtain ⟨e1, e2, e3⟩ := hR.2.2.2 i _ hi
  obtain ⟨q1, q2⟩ := mput_spec (G := G) hp
  have hlt : j < fs.length := by rw [e2]; exact (List.getElem?_eq_some_iff.mp hF).1
  have F := e3 j n d ty _ hF (List.getElem?_eq_getElem hlt)
  obtain ⟨T', h', X', eT', W, st⟩ := putFN X hx hZ hown w Via.refl rfl F e1 (wl.imp id fun ⟨a, b, c⟩ => ⟨a, b, by rw [hnm]; exact c⟩) K.2.2.1 (K.1 j n d ty hF).2 q1 q2 (g := mkF m pc (arL G L) ((v :: Value.ref i :: S).map (tr G))) rfl rfl (hb hby hd)
  refine ⟨T', _, ?_, ?_, Fr.snoc X' hFr (rho_ge hk), st⟩
  · rw [hs, List.length_set, Nat.sub_self, Nat.sub_self, Nat.add_zero, Nat.add_zero]; exact X'
  · rw [eT']; exact hR.wrFld K hi hF W
/-! ### arrays -/
theorem get_arr {xs : List Int32} {c : Cell} (hs : c.slots = (xs.map Value.int).toArray) (k : Nat) : c.slots[k]? = (xs[k]?).map Value.int := by rw [hs]; simp
theorem arr_size {xs : List Int32} {c : Cell} (hs : c.slots = (xs.map Value.int).toArray) : c.slots.size = xs.length := by rw [hs]; simp
theorem Ev.arraylength {i : Nat} {b : Bool} {xs : List Int32} (hd : decode (mB M) pc = .ok (.arraylength, 1)) (hi : h[i]? = some (.inr (b, xs))) (hn : Ev G M (pc + 1) L (.int xs.length.toInt32 :: S) h r) : Ev G M pc L (.ref i :: S) h r := by
  refine Ev.same rfl hn ?_
  intro p e R s m args below meth c T locs cells slots X hx hZ hown hby hml hLm hfr hlo hR
  obtain ⟨cl, A, hs⟩ := hR.2.2.2 i _ hi
  refine ⟨T, X, rfl, fun target k => X.arraylength hx A.1 (State.isArrayOf_alike hZ.alike A.2.1) (g := mkF m pc (arL G L) ((Value.ref i :: S).map (tr G))) rfl rfl (hb hby hd) target ?_⟩
  rw [arr_size hs]; exact k
theorem Ev.iaload {i : Nat} {xs : List Int32} {j v : Int32} (hd : decode (mB M) pc = .ok (.iaload, 1)) (hi : h[i]? = some (.inr (false, xs))) (hj : ¬ j < 0) (hv : xs[j.toNatClampNeg]? = some v) (hn : Ev G M (pc + 1) L (.int v :: S) h r) : Ev G M pc L (.int j :: .ref i :: S) h r := by
  refine Ev.same rfl hn ?_
  intro p e R s m args below meth c T locs cells slots X hx hZ hown hby hml hLm hfr hlo hR
  obtain ⟨cl, A, hs⟩ := hR.2.2.2 i _ hi
  have hlt := (List.getElem?_eq_some_iff.mp hv).1
  exact ⟨T, X, rfl, fun target k => X.iaload hx A.1 (State.isArrayOf_alike hZ.alike A.2.1) A.2.2 (fun q => q.elim hj fun q => absurd (arr_size hs ▸ q) (Nat.not_le.mpr hlt)) (by rw [get_arr hs, hv]; rfl) (g := mkF m pc (arL G L) ((Value.int j :: Value.ref i :: S).map (tr G))) rfl rfl (hb hby hd) target k⟩
theorem Ev.baload {i : Nat} {xs : List Int32} {j v : Int32} (hd : decode (mB M) pc = .ok (.baload, 1)) (hi : h[i]? = some (.inr (true, xs))) (hj : ¬ j < 0) (hv : xs[j.toNatClampNeg]? = some v) (hn : Ev G M (pc + 1) L (.int v :: S) h r) : Ev G M pc L (.int j :: .ref i :: S) h r := by
  refine Ev.same rfl hn ?_
  intro p e R s m args below meth c T locs cells slots X hx hZ hown hby hml hLm hfr hlo hR
  obtain ⟨cl, A, hs⟩ := hR.2.2.2 i _ hi
  have hlt := (List.getElem?_eq_some_iff.mp hv).1
  exact ⟨T, X, rfl, fun target k => X.baloadBooleans hx A.1 (State.isArrayOf_alike hZ.alike A.2.1) A.2.2 (fun q => q.elim hj fun q => absurd (arr_size hs ▸ q) (Nat.not_le.mpr hlt)) (by rw [get_arr hs, hv]; rfl) (g := mkF m pc (arL G L) ((Value.int j :: Value.ref i :: S).map (tr G))) rfl rfl (hb hby hd) target k⟩
theorem Ev.iastore {i : Nat} {xs : List Int32} {j v : Int32} (hd : decode (mB M) pc = .ok (.iastore, 1)) (hk : k0 G ≤ i) (hi : h[i]? = some (.inr (false, xs))) (hj : ¬ j < 0) (hlt : j.toNatClampNeg < xs.length) (hn : Ev G M (pc + 1) L S (h.set i (.inr (false, xs.set j.toNatClampNeg v))) r) : Ev G M pc L (.int v :: .int j :: .ref i :: S) h r := by
  have hs := hsl_set (gK G) h i (.inr (false, xs)) (.inr (false, xs.set j.toNatClampNeg v)) hi (by simp [csl])
  refine Ev.gen (by rw [List.length_set]; exact Nat.le_refl _) (by rw [hs]; exact Nat.le_refl _) rfl hn ?_
  intro p e R s m args below meth c T locs cells slots X hx hZ hown hby hml hnm hLm hfr hlo hsz hR hFr hc hsq
  obtain ⟨cl, A, hsz'⟩ := hR.2.2.2 i _ hi
  obtain ⟨T', h', X', eT', W, st⟩ := stI X hx hZ rfl A (j := j) (x := v) (fun q => q.elim hj fun q => absurd (arr_size hsz' ▸ q) (Nat.not_le.mpr hlt)) (g := mkF m pc (arL G L) ((Value.int v :: Value.int j :: Value.ref i :: S).map (tr G))) rfl rfl (hb hby hd)
  refine ⟨T', _, ?_, ?_, Fr.snoc X' hFr (rho_ge hk), st⟩
  · rw [hs, List.length_set, Nat.sub_self, Nat.sub_self, Nat.add_zero, Nat.add_zero]; exact X'
  · rw [eT']; exact hR.wrArr hi W
theorem Ev.bastore {i : Nat} {xs : List Int32} {j v : Int32} (hd : decode (mB M) pc = .ok (.bastore, 1)) (hk : k0 G ≤ i) (hi : h[i]? = some (.inr (true, xs))) (hj : ¬ j < 0) (hlt : j.toNatClampNeg < xs.length) (hn : Ev G M (pc + 1) L S (h.set i (.inr (true, xs.set j.toNatClampNeg (v &&& 1)))) r) : Ev G M pc L (.int v :: .int j :: .ref i :: S) h r := by
  have hs := hsl_set (gK G) h i (.inr (true, xs)) (.inr (true, xs.set j.toNatClampNeg (v &&& 1))) hi (by simp [csl])
  refine Ev.gen (by rw [List.length_set]; exact Nat.le_refl _) (by rw [hs]; exact Nat.le_refl _) rfl hn ?_
  intro p e R s m args below meth c T locs cells slots X hx hZ hown hby hml hnm hLm hfr hlo hsz hR hFr hc hsq
  obtain ⟨cl, A, hsz'⟩ := hR.2.2.2 i _ hi
  obtain ⟨T', h', X', eT', W, st⟩ := stZ X hx hZ rfl A (j := j) (x := v) (fun q => q.elim hj fun q => absurd (arr_size hsz' ▸ q) (Nat.not_le.mpr hlt)) (g := mkF m pc (arL G L) ((Value.int v :: Value.int j :: Value.ref i :: S).map (tr G))) rfl rfl (hb hby hd)
  refine ⟨T', _, ?_, ?_, Fr.snoc X' hFr (rho_ge hk), st⟩
  · rw [hs, List.length_set, Nat.sub_self, Nat.sub_self, Nat.add_zero, Nat.add_zero]; exact X'
  · rw [eT']; exact hR.wrArr hi W
/-! ### making -/
theorem Ev.new {idx : Nat} {fs : List Value} (K : GOk G) (w : (Jvm.Cond.classLink (mN M).cls idx (gC G)).before (gA G) (gZ G) = true) (hd : decode (mB M) pc = .ok (.new idx, 3)) (hf : fs = (gF G).map fun f => defaultValue f.2.2)
    (hn : Ev G M (pc + 3) L (.ref h.length :: S) (h ++ [.inl fs]) r) : Ev G M pc L S h r := by
  subst hf
  have hs := hsl_push (gK G) h (.inl ((gF G).map fun f => defaultValue f.2.2))
  refine Ev.gen (by simp) (by rw [hs]; exact Nat.le_add_right _ _) rfl hn ?_
  intro p e R s m args below meth c T locs cells slots X hx hZ hown hby hml hnm hLm hfr hlo hsz hR hFr hc hsq
  have el : (h ++ [(.inl ((gF G).map fun f => defaultValue f.2.2) : MCell)]).length - h.length = 1 := by simp
  have es : hsl (gK G) (h ++ [.inl ((gF G).map fun f => defaultValue f.2.2)]) - hsl (gK G) h = gK G := by rw [hs]; simp [csl]
  rw [el] at hc
  rw [es] at hsq
  obtain ⟨T', h', X', eT', E, A, D, -, st⟩ := newO X hx hZ hown w K.2.2.1 K.2.2.2 rfl (g := mkF m pc (arL G L) (S.map (tr G))) rfl (hb hby hd) hc hsq
  rw [el, es]
  have hrho : rho G h.length = T.heap.size := by rw [rho_new hR.2.1]; have := hR.1; have := hR.2.1; omega
  refine ⟨T', _, X', ?_, hFr, fun target k => st target ?_⟩
  · rw [eT']
    refine hR.push E ?_ ⟨A, by simp, fun j n d ty v hf hv => ?_⟩
    · have h1 := X'.heapSize
      have h2 : T.heap.size < h'.size := A.lt
      rw [eT'] at h1
      omega
    · rw [List.getElem?_map, hf] at hv
      cases hv
      have := D (K.1 j n d ty hf).1 (K.1 j n d ty hf).2
      have e : tr G (defaultValue ty) = defaultValue ty := by cases ty <;> rfl
      rw [e]; exact this
  · rw [← hrho]; exact k
theorem Ev.newarray {aty : ArrayType} {b : Bool} {n : Int32} {k : Nat} (w : (Jvm.Cond.arrayClass (newarray.typeOf aty)).before (gA G) (gZ G) = true) (hb' : newarray.typeOf aty = kd b) (hd : decode (mB M) pc = .ok (.newarray aty, 2)) (hn0 : ¬ n < 0) (hk : n.toNatClampNeg = k) (hcap : k ≤ 67108864)
    (hn : Ev G M (pc + 2) L (.ref h.length :: S) (h ++ [.inr (b, List.replicate k 0)]) r) : Ev G M pc L (.int n :: S) h r := by
  subst hk
  have hs := hsl_push (gK G) h (.inr (b, List.replicate n.toNatClampNeg 0))
  refine Ev.gen (by simp) (by rw [hs]; exact Nat.le_add_right _ _) rfl hn ?_
  intro p e R s m args below meth c T locs cells slots X hx hZ hown hby hml hnm hLm hfr hlo hsz hR hFr hc hsq
  have el : (h ++ [(.inr (b, List.replicate n.toNatClampNeg 0) : MCell)]).length - h.length = 1 := by simp
  have es : hsl (gK G) (h ++ [.inr (b, List.replicate n.toNatClampNeg 0)]) - hsl (gK G) h = n.toNatClampNeg := by rw [hs]; simp [csl]
  rw [el] at hc
  rw [es] at hsq
  obtain ⟨T', h', cA, X', eT', E, A, st⟩ := newP X hx hZ w rfl (g := mkF m pc (arL G L) ((Value.int n :: S).map (tr G))) rfl (hb hby hd) rfl hn0 (cap := n.toNatClampNeg) (Nat.le_refl _) (by omega) hc hsq
  rw [el, es]
  have hrho : rho G h.length = T.heap.size := by rw [rho_new hR.2.1]; have := hR.1; have := hR.2.1; omega
  refine ⟨T', _, X', ?_, hFr, fun target k => st target ?_⟩
  · rw [eT']
    refine hR.push E ?_ ⟨_, hb' ▸ A, ?_⟩
    · have h1 := X'.heapSize
      have h2 : T.heap.size < h'.size := A.lt
      rw [eT'] at h1
      omega
    · have e0 : defaultValue (kd b) = .int 0 := by cases b <;> rfl
      show Array.replicate n.toNatClampNeg (defaultValue (kd b)) = _
      rw [e0]
      simp
  · rw [← hrho]; exact k
theorem Ev.initO {idx i : Nat} (w1 : (Jvm.Cond.methodLink (mN M).cls idx Lib.objectInit).before (gA G) (gZ G) = true) (w2 : (Jvm.Cond.instanceMethod Lib.objectInit).before (gA G) (gZ G) = true) (w3 : (Jvm.Cond.code Lib.objectInit ⟨#[0xb1]⟩ 1 none).before (gA G) (gZ G) = true)
    (hd : decode (mB M) pc = .ok (.invokespecial idx, 3)) (hf : 1 ≤ mF M) (hl : (S.map fun v => v.category).sum + 12 ≤ mW M) (hn : Ev G M (pc + 3) L S h r) : Ev G M pc L (.ref i :: S) h r := by
  refine Ev.same rfl hn ?_
  intro p e R s m args below meth c T locs cells slots X hx hZ hown hby hml hLm hfr hlo hR
  obtain ⟨T', X', e', st⟩ := RoadKit.initO X hx hZ hown w1 w2 w3 rfl (g := mkF m pc (arL G L) ((Value.ref i :: S).map (tr G))) rfl (by rw [hml, ← hLm]; simp [arL]) (a := rho G i) (rest := S.map (tr G)) rfl (hb hby hd) (Nat.le_trans hf hfr) (W := (S.map fun v => v.category).sum) (by rw [tr_cats]; show 2 * 0 + _ ≤ _; omega) (by omega)
  exact ⟨T', X', e', st⟩
/-! ### calls -/
def notMH (y : Mi) : Prop := (mN y).cls ≠ "java/lang/invoke/MethodHandle" ∧ (mN y).cls ≠ "java/lang/invoke/VarHandle"
theorem mapRev (G : Ctx) (args : List Value) : (args.reverse).map (tr G) = (args.map (tr G)).reverse := by simp
theorem vList (G : Ctx) (v : Option Value) (S : List Value) : (v.map (tr G)).toList ++ S.map (tr G) = (v.toList ++ S).map (tr G) := by cases v <;> simp
theorem back_of_evc {p : Program} {e : Env} {R : Room} {s : State} {args0 : Array Value} {below : List Frame} {y : Mi} {args : List Value} {r1 : Option Value × MHeap} {hr : Heap} {W : Nat} (hC : EvC G y args h r1) (hR : Rel G hr h) (hZ : (gZ G).Warmed39 s.vm)
    (wc : (Jvm.Cond.code (mN y) (mB y) (mL y) (mR y)).before (gA G) (gZ G) = true) (wz : (Jvm.Cond.initialized (mN y).cls).before (gA G) (gZ G) = true) (hf : mF y + 1 ≤ R.frames) (hl : W + (mL y + 11) + mW y ≤ R.locals) :
    Back (gL G) R p e below s args0 (mN y) 3 W (fun A a => a = (args.map (tr G)).toArray ∧ A.U.heap = hr ∧ A.cells + (r1.2.length - h.length) ≤ R.cells ∧ A.slots + (hsl (gK G) r1.2 - hsl (gK G) h) ≤ R.slots)
      (fun A _ v B => ∃ L, (v = r1.1.map (tr G) ∧ Fr (gN G) L ∧ Rel G B.U.heap r1.2) ∧ B.locs = A.locs ++ L ∧ B.cells = A.cells + (r1.2.length - h.length) ∧ B.slots = A.slots + (hsl (gK G) r1.2 - hsl (gK G) h)) :=
  backOf (Q := fun v hp L => v = r1.1.map (tr G) ∧ Fr (gN G) L ∧ Rel G hp r1.2) (rm := { frames := mF y, cells := r1.2.length - h.length, slots := hsl (gK G) r1.2 - hsl (gK G) h, locals := mW y })
    (hC.2 [] { frames := mF y, cells := r1.2.length - h.length, slots := hsl (gK G) r1.2 - hsl (gK G) h, locals := mW y } hr (Nat.le_refl _) (Nat.le_refl _) (Nat.le_refl _) (Nat.le_refl _) hR) hZ wc wz hf hl
/-- a private method of the class -/
theorem Ev.priv {y : Mi} {idx i : Nat} {args rest : List Value} {v : Option Value} {h1 : MHeap} {fs : List Value} (K : GOk G) (hcls : (mN y).cls = gC G) (hy : notMH y)
    (wl : (Jvm.Cond.methodLink (mN M).cls idx (mN y)).before (gA G) (gZ G) = true) (wi : (Jvm.Cond.instanceMethod (mN y)).before (gA G) (gZ G) = true) (wp : (Jvm.Cond.privateMethod (mN y)).before (gA G) (gZ G) = true)
    (wc : (Jvm.Cond.code (mN y) (mB y) (mL y) (mR y)).before (gA G) (gZ G) = true) (hlen : ∀ sig, parseMethodDescriptor (mN y).desc = some sig → args.length = sig.parameters.length)
    (hd : decode (mB M) pc = .ok (.invokevirtual idx, 3)) (hi : h[i]? = some (.inl fs)) (hC : EvC G y (.ref i :: args) h (v, h1)) (hfr : mF y + 1 ≤ mF M) (hlo : (rest.map fun v => v.category).sum + (mL y + 11) + mW y ≤ mW M)
    (hS : S = args.reverse ++ .ref i :: rest) (hn : Ev G M (pc + 3) L (v.toList ++ rest) h1 r) : Ev G M pc L S h r := by
  subst hS
  refine Ev.gen hC.1.1 hC.1.2 rfl hn ?_
  intro p e R s m args0 below meth c T locs cells slots X hx hZ hown hby hml hnm hLm hfr' hlo' hsz hR hFr hc hsq
  obtain ⟨e1, -, -⟩ := hR.2.2.2 i _ hi
  obtain ⟨cell, hcell, hobj⟩ := e1.cell
  have hwi : (Jvm.Cond.instanceMethod (mN y)).before args0 s = true := mvT hZ wi
  have hpr := Jvm.Cond.privateMethod_at (mvP hZ wp (args := #[]))
  have hsel : (Jvm.Cond.selects (mN y).cls (mN y) (mN y)).before args0 s = true := by
    obtain ⟨c0, k0', q1, q2, -, q4, -⟩ := Jvm.Cond.instantiable_spec (mvT hZ K.2.2.1 (args := #[]) (s := s))
    refine selects_self_of_private (c := c0) (k := k0') (by rw [hcls]; exact q1) q2 ?_ hpr hwi hy
    simp only [Bool.or_eq_false_iff] at q4
    exact q4.1
  obtain ⟨v', vm1, ⟨T', L', k', n'⟩, -, X', ⟨Lc, ⟨rfl, hF', hR'⟩, l1, l2, l3⟩, st⟩ := X.privateBack hx (y := mN y) hown (mvT hZ wl) hwi hsel hpr (mvT hZ wc) hy
    (back_of_evc (W := (rest.map fun v => v.category).sum) hC hR hZ wc (hcls ▸ K.2.2.2) (Nat.le_trans hfr hfr') (Nat.le_trans hlo hlo')) (g := mkF m pc (arL G L) ((args.reverse ++ Value.ref i :: rest).map (tr G))) rfl (by rw [hml, ← hLm]; simp [arL]) (Steps.refl _) hcell hobj
    (argsL := args.map (tr G)) (rest := rest.map (tr G)) (fun sig hsig => by rw [List.length_map]; exact hlen sig hsig) (by simp [tr]) (by rw [tr_cats]; show 2 * 0 + _ ≤ _; omega) (hb hby hd) (fun vm1 hW1 => ⟨rfl, rfl, hc, hsq⟩)
  dsimp only [Pt.U, Pt.locs, Pt.cells, Pt.slots] at X' l1 l2 l3 st hR'
  subst l1 l2 l3
  refine ⟨T', _, X', hR', hFr.app hF', fun target k => st.trans ?_⟩
  rw [vList]
  exact k
/-- a method of the class that no one overrides -/
theorem Ev.virt {y : Mi} {idx i : Nat} {args rest : List Value} {v : Option Value} {h1 : MHeap} {fs : List Value} (K : GOk G) (hcls : (mN y).cls = gC G) (hy : notMH y)
    (wl : (Jvm.Cond.methodLink (mN M).cls idx (mN y)).before (gA G) (gZ G) = true) (wd : (Jvm.Cond.declares (mN y)).before (gA G) (gZ G) = true) (wi : (Jvm.Cond.instanceMethod (mN y)).before (gA G) (gZ G) = true) (ws : (Jvm.Cond.selects (gC G) (mN y) (mN y)).before (gA G) (gZ G) = true)
    (wc : (Jvm.Cond.code (mN y) (mB y) (mL y) (mR y)).before (gA G) (gZ G) = true) (hlen : ∀ sig, parseMethodDescriptor (mN y).desc = some sig → args.length = sig.parameters.length)
    (hd : decode (mB M) pc = .ok (.invokevirtual idx, 3)) (hi : h[i]? = some (.inl fs)) (hC : EvC G y (.ref i :: args) h (v, h1)) (hfr : mF y + 1 ≤ mF M) (hlo : (rest.map fun v => v.category).sum + (mL y + 11) + mW y ≤ mW M)
    (hS : S = args.reverse ++ .ref i :: rest) (hn : Ev G M (pc + 3) L (v.toList ++ rest) h1 r) : Ev G M pc L S h r := by
  subst hS
  refine Ev.gen hC.1.1 hC.1.2 rfl hn ?_
  intro p e R s m args0 below meth c T locs cells slots X hx hZ hown hby hml hnm hLm hfr' hlo' hsz hR hFr hc hsq
  obtain ⟨e1, -, -⟩ := hR.2.2.2 i _ hi
  obtain ⟨cq, kq, qa, qb, qc⟩ := isOf (T := T) hZ rfl e1
  obtain ⟨v', vm1, ⟨T', L', k', n'⟩, -, X', ⟨Lc, ⟨rfl, hF', hR'⟩, l1, l2, l3⟩, st⟩ := X.virtualBack hx (y := mN y) (z := mN y) hown (mvT hZ wl) (mvT hZ wd) (notFace_of_selects (args := #[]) (mvT hZ ws)) (mvT hZ ws) (mvT hZ wi) hy
    (back_of_evc (W := (rest.map fun v => v.category).sum) hC hR hZ wc (hcls ▸ K.2.2.2) (Nat.le_trans hfr hfr') (Nat.le_trans hlo hlo')) qa qc (g := mkF m pc (arL G L) ((args.reverse ++ Value.ref i :: rest).map (tr G))) rfl (by rw [hml, ← hLm]; simp [arL]) (Steps.refl _)
    (argsL := args.map (tr G)) (rest := rest.map (tr G)) (fun sig hsig => by rw [List.length_map]; exact hlen sig hsig) (by simp [tr]) (by rw [tr_cats]; show 2 * 0 + _ ≤ _; omega) (hb hby hd) (fun vm1 hW1 => ⟨rfl, rfl, hc, hsq⟩)
  dsimp only [Pt.U, Pt.locs, Pt.cells, Pt.slots] at X' l1 l2 l3 st hR'
  subst l1 l2 l3
  refine ⟨T', _, X', hR', hFr.app hF', fun target k => st.trans ?_⟩
  rw [vList]
  exact k
/-- a constructor -/
theorem Ev.ctor {y : Mi} {idx i : Nat} {args rest : List Value} {v : Option Value} {h1 : MHeap} (hy1 : (mN y).name = "<init>") (hret : mR y = none) (hy : notMH y)
    (wl : (Jvm.Cond.methodLink (mN M).cls idx (mN y)).before (gA G) (gZ G) = true) (wi : (Jvm.Cond.instanceMethod (mN y)).before (gA G) (gZ G) = true)
    (wc : (Jvm.Cond.code (mN y) (mB y) (mL y) (mR y)).before (gA G) (gZ G) = true) (wz : (Jvm.Cond.initialized (mN y).cls).before (gA G) (gZ G) = true) (hlen : ∀ sig, parseMethodDescriptor (mN y).desc = some sig → args.length = sig.parameters.length)
    (hd : decode (mB M) pc = .ok (.invokespecial idx, 3)) (hC : EvC G y (.ref i :: args) h (v, h1)) (hfr : mF y + 1 ≤ mF M) (hlo : (rest.map fun v => v.category).sum + (mL y + 11) + mW y ≤ mW M)
    (hS : S = args.reverse ++ .ref i :: rest) (hn : Ev G M (pc + 3) L (v.toList ++ rest) h1 r) : Ev G M pc L S h r := by
  subst hS
  refine Ev.gen hC.1.1 hC.1.2 rfl hn ?_
  intro p e R s m args0 below meth c T locs cells slots X hx hZ hown hby hml hnm hLm hfr' hlo' hsz hR hFr hc hsq
  obtain ⟨v', vm1, ⟨T', L', k', n'⟩, -, X', ⟨Lc, ⟨rfl, hF', hR'⟩, l1, l2, l3⟩, st⟩ := X.specialBack hx (y := mN y) hy1 hown (mvT hZ wl) (mvT hZ wi) (mvT hZ (hret ▸ wc)) hy
    (back_of_evc (W := (rest.map fun v => v.category).sum) hC hR hZ wc wz (Nat.le_trans hfr hfr') (Nat.le_trans hlo hlo')) (g := mkF m pc (arL G L) ((args.reverse ++ Value.ref i :: rest).map (tr G))) rfl (by rw [hml, ← hLm]; simp [arL]) (Steps.refl _)
    (a := rho G i) (argsL := args.map (tr G)) (rest := rest.map (tr G)) (fun sig hsig => by rw [List.length_map]; exact hlen sig hsig) (by simp [tr]) (by rw [tr_cats]; show 2 * 0 + _ ≤ _; omega) (hb hby hd) (fun vm1 hW1 => ⟨rfl, rfl, hc, hsq⟩)
  dsimp only [Pt.U, Pt.locs, Pt.cells, Pt.slots] at X' l1 l2 l3 st hR'
  subst l1 l2 l3
  refine ⟨T', _, X', hR', hFr.app hF', fun target k => st.trans ?_⟩
  rw [vList]
  exact k
/-- a static method -/
theorem Ev.stat {y : Mi} {idx : Nat} {args rest : List Value} {v : Option Value} {h1 : MHeap} (hy : notMH y)
    (wl : (Jvm.Cond.methodLink (mN M).cls idx (mN y)).before (gA G) (gZ G) = true) (wst : (Jvm.Cond.static (mN y)).before (gA G) (gZ G) = true) (wz : (Jvm.Cond.initialized (mN y).cls).before (gA G) (gZ G) = true)
    (wc : (Jvm.Cond.code (mN y) (mB y) (mL y) (mR y)).before (gA G) (gZ G) = true) (hlen : ∀ sig, parseMethodDescriptor (mN y).desc = some sig → args.length = sig.parameters.length)
    (hd : decode (mB M) pc = .ok (.invokestatic idx, 3)) (hC : EvC G y args h (v, h1)) (hfr : mF y + 1 ≤ mF M) (hlo : (rest.map fun v => v.category).sum + (mL y + 11) + mW y ≤ mW M)
    (hS : S = args.reverse ++ rest) (hn : Ev G M (pc + 3) L (v.toList ++ rest) h1 r) : Ev G M pc L S h r := by
  subst hS
  refine Ev.gen hC.1.1 hC.1.2 rfl hn ?_
  intro p e R s m args0 below meth c T locs cells slots X hx hZ hown hby hml hnm hLm hfr' hlo' hsz hR hFr hc hsq
  obtain ⟨v', vm1, ⟨T', L', k', n'⟩, -, X', ⟨Lc, ⟨rfl, hF', hR'⟩, l1, l2, l3⟩, st⟩ := Jvm.LawKit.callS X hx (y := mN y) hown (mvT hZ wl) (mvT hZ wst) (mvT hZ wz) (mvT hZ wc) hy
    (back_of_evc (W := (rest.map fun v => v.category).sum) hC hR hZ wc wz (Nat.le_trans hfr hfr') (Nat.le_trans hlo hlo')) (g := mkF m pc (arL G L) ((args.reverse ++ rest).map (tr G))) rfl (by rw [hml, ← hLm]; simp [arL])
    (argsL := args.map (tr G)) (rest := rest.map (tr G)) (fun sig hsig => by rw [List.length_map]; exact hlen sig hsig) (by simp) (by rw [tr_cats]; show 2 * 0 + _ ≤ _; omega) (hb hby hd) (fun vm1 hW1 => ⟨rfl, rfl, hc, hsq⟩)
  dsimp only [Pt.U, Pt.locs, Pt.cells, Pt.slots] at X' l1 l2 l3 st hR'
  subst l1 l2 l3
  refine ⟨T', _, X', hR', hFr.app hF', fun target k => st target ?_⟩
  rw [vList]
  exact k
/-! ### returns -/
theorem Ev.ret {v : Option Value} (st : ∀ {p : Program} {e : Env} {R : Room} {s : State} {m : MethodId} {args : Array Value} {below : List Frame} {meth : Method} {c : Code} {T : State} {locs : List Loc} {cells slots : Nat},
      Stand p (gL G) e R s m args below meth c T locs cells slots → p.tables.exec = Jvm.exec → c.code = mB M → meth.sig.returnType = mR M → ∀ fs,
      (∀ (f : JFrame) (acts : List Action), f.method = m → f.locked = none → f.entered = [] → (doReturn e (T.setTop f) acts (v.map (tr G))).1 = T.setFrames fs) → Steps p.tables e below (T.setTop (mkF m pc (arL G L) (S.map (tr G)))) (T.setFrames fs)) :
    Ev G M pc L S h (v, h) := by
  refine ⟨⟨Nat.le_refl _, Nat.le_refl _⟩, ?_⟩
  intro p e R s m args below meth c T locs cells slots X hx hZ hown hby hml hret hnm hLm hfr hlo hsz hR hF hc hs
  refine ⟨T, locs, ?_, hR, hF, st X hx hby hret⟩
  rw [Nat.sub_self, Nat.sub_self, Nat.add_zero, Nat.add_zero]
  exact X
theorem Ev.ireturn {z : Int32} (hret : mR M = some .int) (hd : decode (mB M) pc = .ok (.ireturn, 1)) : Ev G M pc L (.int z :: S) h (some (.int z), h) :=
  Ev.ret fun X hx hby hr fs hl => retOut X hx (hr.trans hret) rfl (Or.inl ⟨rfl, Or.inl rfl, z, rfl⟩) (hb hby hd) hl
theorem Ev.zreturn {z : Int32} (hret : mR M = some .boolean) (hd : decode (mB M) pc = .ok (.ireturn, 1)) : Ev G M pc L (.int z :: S) h (some (.int (z &&& 1)), h) :=
  Ev.ret fun X hx hby hr fs hl => retN X hx (t := .boolean) (hr.trans hret) (Or.inl rfl) (hb hby hd) hl
theorem Ev.lreturn {z : Int64} (hret : mR M = some .long) (hd : decode (mB M) pc = .ok (.lreturn, 1)) : Ev G M pc L (.long z :: S) h (some (.long z), h) :=
  Ev.ret fun X hx hby hr fs hl => retOut X hx (hr.trans hret) rfl (Or.inr (Or.inl ⟨rfl, rfl, z, rfl⟩)) (hb hby hd) hl
theorem Ev.vreturn (hret : mR M = none) (hd : decode (mB M) pc = .ok (.return_, 1)) : Ev G M pc L [] h (none, h) :=
  Ev.ret fun X hx hby hr fs hl => X.returnOut hx (hr.trans hret) (hb hby hd) hl
/-! ### entering -/
def margs : List Value → List Slot
  | [] => []
  | v :: vs => if v.category = 2 then .val v :: .second :: margs vs else .val v :: margs vs
theorem margs_fold (vs : List Value) : ∀ acc : Array Slot, vs.foldl (init := acc) (fun acc v => if v.category = 2 then (acc.push (.val v)).push .second else acc.push (.val v)) = acc ++ (margs vs).toArray := by
  induction vs with
  | nil => intro acc; simp [margs]
  | cons v vs ih =>
    intro acc
    rw [List.foldl_cons, ih]
    by_cases h : v.category = 2
    · simp [margs, h]
    · simp [margs, h]
theorem margs_map (G : Ctx) : ∀ vs : List Value, margs (vs.map (tr G)) = (margs vs).map (trS G)
  | [] => rfl
  | v :: vs => by
    have ih := margs_map G vs
    by_cases h : v.category = 2
    · simp only [List.map_cons, margs, tr_cat, h, if_true, ih]; rfl
    · simp only [List.map_cons, margs, tr_cat, h, if_false, ih]; rfl
def ment (args : List Value) (k : Nat) : List Slot := margs args ++ List.replicate (k - (margs args).length) .unset
theorem entry_eq (G : Ctx) (m : MethodId) (args : List Value) (k : Nat) : entryFrame m (args.map (tr G)).toArray k = mkF m 0 (arL G (ment args k)) [] := by
  have e : argsToLocals (args.map (tr G)).toArray k = arL G (ment args k) := by
    unfold argsToLocals arL ment
    have q := margs_fold (args.map (tr G)) #[]
    rw [List.foldl_toArray']
    · rw [q, margs_map]
      simp [trS]
    · simp
  unfold entryFrame
  rw [e]
theorem EvC.enter {y : Mi} {args : List Value} {L0 : List Slot} (hp : plainFor (mN y) = true) (hv : mR y = none → r.1 = none) (hL : ment args (mL y) = L0) (hlen : L0.length = mL y) (hn : Ev G y 0 L0 [] h r) : EvC G y args h r := by
  subst hL
  refine ⟨hn.1, fun ws R hr hf hl hc hs hR => ?_⟩
  refine MetFree.of_bodySF hp hisR ?_
  intro p e s m args' below meth c s₁ Bd hml0 hP hK
  obtain ⟨rfl, hZ, hh⟩ := hP
  have X0 : Stand p (gL G) e R s m _ below meth c s₁ [] 0 0 := Stand.of_body Bd
  have e0 : s₁.heap = hr := by rw [← hh, Bd.state]; rfl
  obtain ⟨T', locs', X', R', F', st⟩ := hn.2 p e R s m _ below meth c s₁ [] 0 0 X0 Bd.exec hZ (findClass_of_methodNamed Bd.named) Bd.bytes hml0 Bd.returns (name_of_methodNamed Bd.named Bd.method).1 hlen hf hl (by rw [e0, hh]; rfl) (by rw [e0]; exact hR) (Fr.nil _) (by omega) (by omega)
  rw [Nat.zero_add, Nat.zero_add] at X'
  obtain ⟨fs, hret, hrun, hended, hW, hsame⟩ := X'.leave (v := r.1.map (tr G)) (fun q => by rw [hv (Bd.returns.symm.trans q)]; rfl)
  refine ⟨_, _, castTop (entry_eq G m args (mL y)) (st fs hret), hrun, hended, _, _, rfl, ⟨rfl, F', ?_⟩, ⟨_, rfl⟩, hW, hsame⟩
  exact R'
end Rules
end Jvm.Own
namespace Jvm.Own
open Sem ClassFile Op Lib Jvm.Stand Jvm.Free Jvm.LawKit Jvm.RoadKit
/-! ## 4. An object as two functions: its ints by the field's number, its arrays by the field's number and the place -/
abbrev St := (Nat → Int32) × (Nat → Nat → Int32)
def setI (s : St) (j : Nat) (z : Int32) : St := (fun k => if k = j then z else s.1 k, s.2)
def setA (s : St) (j i : Nat) (z : Int32) : St := (s.1, fun k x => if k = j ∧ x = i then z else s.2 k x)
def zeroS : St := (fun _ => 0, fun _ _ => 0)
theorem setI_1 (s : St) (j : Nat) (z : Int32) (k : Nat) : (setI s j z).1 k = if k = j then z else s.1 k := rfl
theorem setI_2 (s : St) (j : Nat) (z : Int32) : (setI s j z).2 = s.2 := rfl
theorem setA_1 (s : St) (j i : Nat) (z : Int32) : (setA s j i z).1 = s.1 := rfl
theorem setA_2 (s : St) (j i : Nat) (z : Int32) (k x : Nat) : (setA s j i z).2 k x = if k = j ∧ x = i then z else s.2 k x := rfl
def ix (j : Int32) : Nat := j.toNatClampNeg
/-- the place j lies in an array of n -/
def inb (j : Int32) (n : Nat) : Prop := ¬ j < 0 ∧ ix j < n
instance (j : Int32) (n : Nat) : Decidable (inb j n) := inferInstanceAs (Decidable (_ ∧ _))
def bnd {α β : Type} (x : α) (f : α → β) : β := f x
theorem bnd_eq {α β : Type} (x : α) (f : α → β) : bnd x f = f x := rfl
def tab (n : Nat) (f : Nat → Int32) : List Int32 := (List.range n).map f
theorem tab_len (n : Nat) (f : Nat → Int32) : (tab n f).length = n := by simp [tab]
theorem tab_get {n : Nat} {f : Nat → Int32} {i : Nat} (h : i < n) : (tab n f)[i]? = some (f i) := by simp [tab, h]
theorem tab_set {n : Nat} {f : Nat → Int32} {i : Nat} {z : Int32} : (tab n f).set i z = tab n (fun x => if x = i then z else f x) := by
  apply List.ext_getElem?
  intro k
  rw [List.getElem?_set]
  by_cases h : i = k
  · subst h
    by_cases q : i < n
    · simp [tab, q]
    · simp [tab, q]
  · by_cases q : k < n
    · simp [tab, q, h, Ne.symm h]
    · simp [tab, q, h]
theorem tab_zero (n : Nat) : tab n (fun _ => 0) = List.replicate n 0 := by
  apply List.ext_getElem?
  intro k
  by_cases q : k < n <;> simp [tab, q]
theorem tab_of (xs : List Int32) : xs = tab xs.length (fun i => xs.getD i 0) := by
  apply List.ext_getElem?
  intro k
  by_cases q : k < xs.length
  · simp [tab, q]
  · simp [tab, q]
def isA : FieldType → Bool
  | .array _ => true
  | _ => false
def isB : FieldType → Bool
  | .boolean => true
  | _ => false
def fv1 (r : Nat → Nat) (s : St) (j : Nat) (f : Fd) : Value := match f.2.2 with
  | .array _ => .ref (r j)
  | _ => .int (s.1 j)
def fvA (r : Nat → Nat) (s : St) : Nat → List Fd → List Value
  | _, [] => []
  | j, f :: fs => fv1 r s j f :: fvA r s (j + 1) fs
theorem fvA_get (r : Nat → Nat) (s : St) : ∀ (F : List Fd) (k j : Nat), (fvA r s k F)[j]? = (F[j]?).map (fv1 r s (k + j))
  | [], _, _ => by simp [fvA]
  | f :: fs, k, 0 => by simp [fvA]
  | f :: fs, k, j + 1 => by
    have := fvA_get r s fs (k + 1) j
    simp only [fvA, List.getElem?_cons_succ, this]
    rw [show k + 1 + j = k + (j + 1) by omega]
theorem fvA_len (r : Nat → Nat) (s : St) : ∀ (F : List Fd) (k : Nat), (fvA r s k F).length = F.length
  | [], _ => rfl
  | f :: fs, k => by simp [fvA, fvA_len r s fs (k + 1)]
theorem fvA_set {r : Nat → Nat} {s : St} {F : List Fd} {j : Nat} {f : Fd} {z : Int32} (hF : F[j]? = some f) (ht : isA f.2.2 = false) : (fvA r s 0 F).set j (.int z) = fvA r (setI s j z) 0 F := by
  apply List.ext_getElem?
  intro k
  rw [List.getElem?_set, fvA_get, fvA_get, Nat.zero_add]
  by_cases h : j = k
  · subst h
    simp only [if_true, fvA_len, (List.getElem?_eq_some_iff.mp hF).1, hF, Option.map_some]
    congr 1
    unfold fv1
    split
    · rename_i t e; rw [e] at ht; cases ht
    · simp [setI_1]
  · simp only [h, if_false]
    cases F[k]? with
    | none => rfl
    | some g =>
      simp only [Option.map_some]
      congr 1
      unfold fv1
      split
      · rfl
      · rw [setI_1, if_neg (Ne.symm h)]
theorem fvA_same (r : Nat → Nat) {s s' : St} (h : s.1 = s'.1) : ∀ (F : List Fd) (k : Nat), fvA r s k F = fvA r s' k F
  | [], _ => rfl
  | f :: fs, k => by
    simp only [fvA, fvA_same r h fs (k + 1)]
    congr 1
    unfold fv1
    split
    · rfl
    · rw [h]
/-- the heap K s shows the object at o, its arrays at r, as s tells -/
def View (G : Ctx) (Ln : Nat → Nat) (K : St → MHeap) (o : Nat) (r : Nat → Nat) : Prop :=
  k0 G ≤ o ∧ (∀ s, (K s)[o]? = some (.inl (fvA r s 0 (gF G)))) ∧
  (∀ s j f z, (gF G)[j]? = some f → isA f.2.2 = false → (K s).set o (.inl ((fvA r s 0 (gF G)).set j (.int z))) = K (setI s j z)) ∧
  (∀ j n d t, (gF G)[j]? = some (n, d, .array t) → k0 G ≤ r j ∧ (∀ s, (K s)[r j]? = some (.inr (isB t, tab (Ln j) (s.2 j)))) ∧ ∀ s i z, i < Ln j → (K s).set (r j) (.inr (isB t, (tab (Ln j) (s.2 j)).set i z)) = K (setA s j i z))
section ViewRules
variable {G : Ctx} {M : Mi} {pc : Nat} {L : List Slot} {S : List Value} {rr : Option Value × MHeap} {Ln : Nat → Nat} {K : St → MHeap} {o : Nat} {r : Nat → Nat} {s : St}
theorem Ev.gI {idx j : Nat} {n d : String} {ty : FieldType} (V : View G Ln K o r) (w : (Jvm.Cond.fieldLink (mN M).cls idx (gC G) n d).before (gA G) (gZ G) = true) (hd : decode (mB M) pc = .ok (.getfield idx, 3)) (hF : (gF G)[j]? = some (n, d, ty)) (ht : isA ty = false)
    (hn : Ev G M (pc + 3) L (.int (s.1 j) :: S) (K s) rr) : Ev G M pc L (.ref o :: S) (K s) rr :=
  Ev.getfield w hd hF (V.2.1 s) (v := .int (s.1 j)) (by rw [fvA_get, hF, Nat.zero_add]; simp only [Option.map_some, fv1]; cases ty <;> first | rfl | cases ht) hn
theorem Ev.gAr {idx j : Nat} {n d : String} {t : FieldType} (V : View G Ln K o r) (w : (Jvm.Cond.fieldLink (mN M).cls idx (gC G) n d).before (gA G) (gZ G) = true) (hd : decode (mB M) pc = .ok (.getfield idx, 3)) (hF : (gF G)[j]? = some (n, d, .array t))
    (hn : Ev G M (pc + 3) L (.ref (r j) :: S) (K s) rr) : Ev G M pc L (.ref o :: S) (K s) rr :=
  Ev.getfield w hd hF (V.2.1 s) (v := .ref (r j)) (by rw [fvA_get, hF, Nat.zero_add]; rfl) hn
theorem Ev.pI {idx j : Nat} {n d : String} {z : Int32} (V : View G Ln K o r) (Kk : GOk G) (w : (Jvm.Cond.fieldLink (mN M).cls idx (gC G) n d).before (gA G) (gZ G) = true)
    (wl : (Jvm.Cond.lays (gC G) (gC G) n d).before (gA G) (gZ G) = true ∨ ((Jvm.Cond.laysFinal (gC G) (gC G) n d).before (gA G) (gZ G) = true ∧ (mN M).cls = gC G ∧ (mN M).name = "<init>"))
    (hd : decode (mB M) pc = .ok (.putfield idx, 3)) (hF : (gF G)[j]? = some (n, d, .int)) (hn : Ev G M (pc + 3) L S (K (setI s j z)) rr) : Ev G M pc L (.int z :: .ref o :: S) (K s) rr := by
  refine Ev.putfield Kk w wl hd hF V.1 (V.2.1 s) (v' := .int z) rfl ?_
  rw [V.2.2.1 s j _ z hF rfl]; exact hn
theorem Ev.pZ {idx j : Nat} {n d : String} {z : Int32} (V : View G Ln K o r) (Kk : GOk G) (w : (Jvm.Cond.fieldLink (mN M).cls idx (gC G) n d).before (gA G) (gZ G) = true)
    (wl : (Jvm.Cond.lays (gC G) (gC G) n d).before (gA G) (gZ G) = true ∨ ((Jvm.Cond.laysFinal (gC G) (gC G) n d).before (gA G) (gZ G) = true ∧ (mN M).cls = gC G ∧ (mN M).name = "<init>"))
    (hd : decode (mB M) pc = .ok (.putfield idx, 3)) (hF : (gF G)[j]? = some (n, d, .boolean)) (hn : Ev G M (pc + 3) L S (K (setI s j (z &&& 1))) rr) : Ev G M pc L (.int z :: .ref o :: S) (K s) rr := by
  refine Ev.putfield Kk w wl hd hF V.1 (V.2.1 s) (v' := .int (z &&& 1)) rfl ?_
  rw [V.2.2.1 s j _ _ hF rfl]; exact hn
theorem Ev.ial {j : Nat} {n d : String} {i : Int32} {N : Nat} (V : View G Ln K o r) (hF : (gF G)[j]? = some (n, d, .array .int)) (hN : Ln j = N) (hd : decode (mB M) pc = .ok (.iaload, 1)) (hb : inb i N) (hn : Ev G M (pc + 1) L (.int (s.2 j (ix i)) :: S) (K s) rr) : Ev G M pc L (.int i :: .ref (r j) :: S) (K s) rr :=
  Ev.iaload hd ((V.2.2.2 j n d _ hF).2.1 s) hb.1 (tab_get (hN ▸ hb.2)) hn
theorem Ev.bal {j : Nat} {n d : String} {i : Int32} {N : Nat} (V : View G Ln K o r) (hF : (gF G)[j]? = some (n, d, .array .boolean)) (hN : Ln j = N) (hd : decode (mB M) pc = .ok (.baload, 1)) (hb : inb i N) (hn : Ev G M (pc + 1) L (.int (s.2 j (ix i)) :: S) (K s) rr) : Ev G M pc L (.int i :: .ref (r j) :: S) (K s) rr :=
  Ev.baload hd ((V.2.2.2 j n d _ hF).2.1 s) hb.1 (tab_get (hN ▸ hb.2)) hn
theorem Ev.ias {j : Nat} {n d : String} {i z : Int32} {N : Nat} (V : View G Ln K o r) (hF : (gF G)[j]? = some (n, d, .array .int)) (hN : Ln j = N) (hd : decode (mB M) pc = .ok (.iastore, 1)) (hb : inb i N) (hn : Ev G M (pc + 1) L S (K (setA s j (ix i) z)) rr) : Ev G M pc L (.int z :: .int i :: .ref (r j) :: S) (K s) rr := by
  obtain ⟨q1, q2, q3⟩ := V.2.2.2 j n d _ hF
  refine Ev.iastore hd q1 (q2 s) hb.1 (by rw [tab_len, hN]; exact hb.2) ?_
  have := q3 s (ix i) z (hN ▸ hb.2)
  exact this ▸ hn
theorem Ev.bas {j : Nat} {n d : String} {i z : Int32} {N : Nat} (V : View G Ln K o r) (hF : (gF G)[j]? = some (n, d, .array .boolean)) (hN : Ln j = N) (hd : decode (mB M) pc = .ok (.bastore, 1)) (hb : inb i N) (hn : Ev G M (pc + 1) L S (K (setA s j (ix i) (z &&& 1))) rr) : Ev G M pc L (.int z :: .int i :: .ref (r j) :: S) (K s) rr := by
  obtain ⟨q1, q2, q3⟩ := V.2.2.2 j n d _ hF
  refine Ev.bastore hd q1 (q2 s) hb.1 (by rw [tab_len, hN]; exact hb.2) ?_
  have := q3 s (ix i) (z &&& 1) (hN ▸ hb.2)
  exact this ▸ hn
theorem Ev.sal {h : MHeap} {i : Int32} {N k : Nat} {f : Nat → Int32} (hs : h[k]? = some (.inr (false, tab N f))) (hd : decode (mB M) pc = .ok (.iaload, 1)) (hb : inb i N) (hn : Ev G M (pc + 1) L (.int (f (ix i)) :: S) h rr) : Ev G M pc L (.int i :: .ref k :: S) h rr :=
  Ev.iaload hd hs hb.1 (tab_get hb.2) hn
theorem Ev.sln {h : MHeap} {N k : Nat} {f : Nat → Int32} (hs : h[k]? = some (.inr (false, tab N f))) (hd : decode (mB M) pc = .ok (.arraylength, 1)) (hn : Ev G M (pc + 1) L (.int N.toInt32 :: S) h rr) : Ev G M pc L (.ref k :: S) h rr :=
  Ev.arraylength hd hs (by rw [tab_len]; exact hn)
theorem Ev.zret1 {h : MHeap} (hret : mR M = some .boolean) (hd : decode (mB M) pc = .ok (.ireturn, 1)) : Ev G M pc L (.int 1 :: S) h (some (.int 1), h) := Ev.zreturn hret hd
theorem Ev.zret0 {h : MHeap} (hret : mR M = some .boolean) (hd : decode (mB M) pc = .ok (.ireturn, 1)) : Ev G M pc L (.int 0 :: S) h (some (.int 0), h) := Ev.zreturn hret hd
/-- a slot over which an int may be stored at once -/
def one1 : Slot → Bool
  | .unset => true
  | .val v => v.category == 1
  | .second => false
theorem mst_one {l : List Slot} {i : Nat} {v : Value} {o : Slot} (ho : l[i]? = some o) (h1 : one1 o = true) (hv : v.category = 1) : mst l i v = some (l.set i (.val v)) := by
  have hlt := (List.getElem?_eq_some_iff.mp ho).1
  have e : lstoreSelf l i v = some (l.set i (.val v)) := by simp [lstoreSelf, lsetAt, hlt, hv]
  unfold mst
  rw [ho]
  cases o with
  | unset => exact e
  | second => cases h1
  | val w =>
    have : w.category = 1 := by simpa [one1] using h1
    simp only [this]
    exact e
theorem Ev.istD {k : Nat} {v : Int32} {L' : List Slot} {o : Slot} {h : MHeap} (hd : decode (mB M) pc = .ok (.istore k, 2)) (ho : L[k]? = some o) (h1 : one1 o = true) (hl : L.set k (.val (.int v)) = L') (hn : Ev G M (pc + 2) L' S h rr) : Ev G M pc L (.int v :: S) h rr :=
  Ev.istore hd (by rw [mst_one ho h1 rfl, hl]) hn
theorem Ev.istDN {k : Fin 4} {v : Int32} {L' : List Slot} {o : Slot} {h : MHeap} (hd : decode (mB M) pc = .ok (.istore_n k, 1)) (ho : L[k.val]? = some o) (h1 : one1 o = true) (hl : L.set k.val (.val (.int v)) = L') (hn : Ev G M (pc + 1) L' S h rr) : Ev G M pc L (.int v :: S) h rr :=
  Ev.istoreN hd (by rw [mst_one ho h1 rfl, hl]) hn
/-- a pair of slots over which a long may be stored at once -/
def two2 (a b : Slot) : Prop := (one1 a = true ∧ one1 b = true) ∨ (∃ x, a = .val (.long x) ∧ b = .second)
theorem set_set2 {l : List Slot} {i : Nat} {a b c : Slot} : ((l.set (i + 1) a).set i b).set (i + 1) c = (l.set i b).set (i + 1) c := by
  rw [List.set_comm _ _ (by omega : i + 1 ≠ i), List.set_set]
theorem mst_two {l : List Slot} {i : Nat} {v : Int64} {o o' : Slot} (ho : l[i]? = some o) (ho' : l[i + 1]? = some o') (h2 : two2 o o') : mst l i (.long v) = some ((l.set i (.val (.long v))).set (i + 1) .second) := by
  have hlt := (List.getElem?_eq_some_iff.mp ho).1
  have hlt' := (List.getElem?_eq_some_iff.mp ho').1
  rcases h2 with ⟨h1, h1'⟩ | ⟨x, rfl, rfl⟩
  · have e : lstoreSelf l i (.long v) = some ((l.set i (.val (.long v))).set (i + 1) .second) := by
      have q : (l.set i (.val (.long v)))[i + 1]? = some o' := by rw [List.getElem?_set_ne (by omega)]; exact ho'
      have hcat : (Value.long v).category = 2 := rfl
      simp only [lstoreSelf, lsetAt, hlt, if_true, hcat, q]
      cases o' with
      | unset => simp [hlt']
      | second => cases h1'
      | val w =>
        have : w.category = 1 := by simpa [one1] using h1'
        simp [this, hlt']
    unfold mst
    rw [ho]
    cases o with
    | unset => exact e
    | second => cases h1
    | val w =>
      have : w.category = 1 := by simpa [one1] using h1
      simp only [this]
      exact e
  · unfold mst
    rw [ho]
    have q : ((l.set (i + 1) Slot.unset).set i (.val (.long v)))[i + 1]? = some .unset := by
      rw [List.getElem?_set_ne (by omega), List.getElem?_set_self hlt']
    simp only [Value.category, if_true, lsetAt, hlt', lstoreSelf, List.length_set, hlt, q, set_set2]
theorem Ev.lstD {k : Nat} {v : Int64} {L' : List Slot} {o o' : Slot} {h : MHeap} (hd : decode (mB M) pc = .ok (.lstore k, 2)) (ho : L[k]? = some o) (ho' : L[k + 1]? = some o') (h2 : two2 o o') (hl : (L.set k (.val (.long v))).set (k + 1) .second = L') (hn : Ev G M (pc + 2) L' S h rr) : Ev G M pc L (.long v :: S) h rr :=
  Ev.lstore hd (by rw [mst_two ho ho' h2, hl]) hn
theorem Ev.lstDN {k : Fin 4} {v : Int64} {L' : List Slot} {o o' : Slot} {h : MHeap} (hd : decode (mB M) pc = .ok (.lstore_n k, 1)) (ho : L[k.val]? = some o) (ho' : L[k.val + 1]? = some o') (h2 : two2 o o') (hl : (L.set k.val (.val (.long v))).set (k.val + 1) .second = L') (hn : Ev G M (pc + 1) L' S h rr) : Ev G M pc L (.long v :: S) h rr :=
  Ev.lstoreN hd (by rw [mst_two ho ho' h2, hl]) hn
end ViewRules
/-! ## 5. One object among others -/
/-- al: the array fields in the order in which the constructor makes them, each with 'of booleans' -/
def rA (o : Nat) (al : List (Nat × Bool)) (j : Nat) : Nat := o + 1 + al.findIdx (fun q => q.1 == j)
def arr1 (Ln : Nat → Nat) (s : St) (q : Nat × Bool) : MCell := .inr (q.2, tab (Ln q.1) (s.2 q.1))
def KO (F : List Fd) (al : List (Nat × Bool)) (Ln : Nat → Nat) (o : Nat) (s : St) : MHeap := .inl (fvA (rA o al) s 0 F) :: al.map (arr1 Ln s)
def KH (F : List Fd) (al : List (Nat × Bool)) (Ln : Nat → Nat) (pre post : MHeap) (s : St) : MHeap := pre ++ (KO F al Ln pre.length s ++ post)
def alOk (F : List Fd) (al : List (Nat × Bool)) : Bool := (List.range F.length).all (fun j => match F[j]? with
  | some (_, _, .array t) => al[al.findIdx (fun q => q.1 == j)]? == some (j, isB t)
  | _ => true)
theorem KO_len {F : List Fd} {al : List (Nat × Bool)} {Ln : Nat → Nat} {o : Nat} {s : St} : (KO F al Ln o s).length = al.length + 1 := by simp [KO]
theorem app_get (pre post l : MHeap) (k : Nat) (h : k < l.length) : (pre ++ (l ++ post))[pre.length + k]? = l[k]? := by
  rw [List.getElem?_append_right (by omega), Nat.add_sub_cancel_left, List.getElem?_append_left h]
theorem app_set (pre post l : MHeap) (k : Nat) (c : MCell) (h : k < l.length) : (pre ++ (l ++ post)).set (pre.length + k) c = pre ++ (l.set k c ++ post) := by
  rw [List.set_append_right _ _ (by omega), Nat.add_sub_cancel_left, List.set_append_left _ _ h]
theorem view_of {G : Ctx} {al : List (Nat × Bool)} {Ln : Nat → Nat} {pre post : MHeap} (hk : k0 G ≤ pre.length) (h1 : alOk (gF G) al = true) (h2 : (al.map (·.1)).Nodup) :
    View G Ln (KH (gF G) al Ln pre post) pre.length (rA pre.length al) := by
  refine ⟨hk, fun s => ?_, fun s j f z hF ht => ?_, fun j n d t hF => ?_⟩
  · have := app_get pre post (KO (gF G) al Ln pre.length s) 0 (by rw [KO_len]; omega)
    exact this
  · have := app_set pre post (KO (gF G) al Ln pre.length s) 0 (.inl ((fvA (rA pre.length al) s 0 (gF G)).set j (.int z))) (by rw [KO_len]; omega)
    refine Eq.trans this ?_
    show pre ++ ((.inl _ :: al.map (arr1 Ln s)) ++ post) = pre ++ ((.inl _ :: al.map (arr1 Ln (setI s j z))) ++ post)
    rw [fvA_set hF ht]
    rfl
  · have hj : j < (gF G).length := (List.getElem?_eq_some_iff.mp hF).1
    have hq := List.all_eq_true.mp h1 j (List.mem_range.mpr hj)
    simp only [hF, beq_iff_eq] at hq
    have hlt := (List.getElem?_eq_some_iff.mp hq).1
    have hlen : ∀ s, al.findIdx (fun q => q.1 == j) + 1 < (KO (gF G) al Ln pre.length s).length := fun s => by rw [KO_len]; omega
    have hr : rA pre.length al j = pre.length + (al.findIdx (fun q => q.1 == j) + 1) := by unfold rA; omega
    refine ⟨by rw [hr]; omega, fun s => ?_, fun s i z hi => ?_⟩
    · rw [hr]
      refine (app_get pre post _ _ (hlen s)).trans ?_
      show (al.map (arr1 Ln s))[al.findIdx fun q => q.1 == j]? = _
      rw [List.getElem?_map, hq]
      rfl
    · rw [hr]
      refine (app_set pre post _ _ _ (hlen s)).trans ?_
      show pre ++ ((.inl (fvA (rA pre.length al) s 0 (gF G)) :: (al.map (arr1 Ln s)).set (al.findIdx fun q => q.1 == j) (.inr (isB t, (tab (Ln j) (s.2 j)).set i z))) ++ post) = pre ++ ((.inl (fvA (rA pre.length al) (setA s j i z) 0 (gF G)) :: al.map (arr1 Ln (setA s j i z))) ++ post)
      rw [fvA_same (s := s) (s' := setA s j i z) _ rfl]
      congr 3
      apply List.ext_getElem?
      intro k
      rw [List.getElem?_set, List.getElem?_map, List.getElem?_map, List.length_map]
      by_cases e : al.findIdx (fun q => q.1 == j) = k
      · subst e
        simp only [if_true, hlt, hq, Option.map_some, arr1, tab_set]
        congr 4
        funext x
        rw [setA_2]
        simp
      · simp only [e, if_false]
        cases hk2 : al[k]? with
        | none => rfl
        | some q =>
          simp only [Option.map_some, arr1]
          have ne : q.1 ≠ j := fun hqj => by
            have a1 : (al.map (·.1))[al.findIdx (fun q => q.1 == j)]? = some j := by rw [List.getElem?_map, hq]; rfl
            have a2 : (al.map (·.1))[k]? = some j := by rw [List.getElem?_map, hk2]; simp [hqj]
            have := (List.getElem?_inj (by rw [List.length_map]; exact hlt) h2).mp (a1.trans a2.symm)
            exact e this
          congr 4
          funext x
          rw [setA_2]
          simp [ne]
/-! ### while the constructor makes the arrays -/
def cons (pre : MHeap) (fs : List Value) (as : List (Bool × List Int32)) : MHeap := pre ++ (.inl fs :: as.map .inr)
section ConsRules
variable {G : Ctx} {M : Mi} {pc : Nat} {L : List Slot} {S : List Value} {rr : Option Value × MHeap} {pre : MHeap} {fs fs' : List Value} {as : List (Bool × List Int32)}
theorem cons_get : (cons pre fs as)[pre.length]? = some (.inl fs) := by unfold cons; rw [List.getElem?_append_right (Nat.le_refl _), Nat.sub_self]; rfl
theorem cons_set (c : List Value) : (cons pre fs as).set pre.length (.inl c) = cons pre c as := by unfold cons; rw [List.set_append_right _ _ (Nat.le_refl _), Nat.sub_self]; rfl
theorem cons_len : (cons pre fs as).length = pre.length + 1 + as.length := by simp [cons]; omega
theorem cons_push (b : Bool) (xs : List Int32) : cons pre fs as ++ [.inr (b, xs)] = cons pre fs (as ++ [(b, xs)]) := by simp [cons]
theorem Ev.cput {idx j : Nat} {n d : String} {ty : FieldType} {v v' : Value} (K : GOk G) (hk : k0 G ≤ pre.length) (w : (Jvm.Cond.fieldLink (mN M).cls idx (gC G) n d).before (gA G) (gZ G) = true)
    (wl : (Jvm.Cond.lays (gC G) (gC G) n d).before (gA G) (gZ G) = true ∨ ((Jvm.Cond.laysFinal (gC G) (gC G) n d).before (gA G) (gZ G) = true ∧ (mN M).cls = gC G ∧ (mN M).name = "<init>"))
    (hd : decode (mB M) pc = .ok (.putfield idx, 3)) (hF : (gF G)[j]? = some (n, d, ty)) (hp : mput ty v = some v') (hs : fs.set j v' = fs') (hn : Ev G M (pc + 3) L S (cons pre fs' as) rr) : Ev G M pc L (v :: .ref pre.length :: S) (cons pre fs as) rr := by
  subst hs
  refine Ev.putfield K w wl hd hF hk cons_get hp ?_
  rw [cons_set]; exact hn
theorem Ev.cget {idx j : Nat} {n d : String} {ty : FieldType} {v : Value} (w : (Jvm.Cond.fieldLink (mN M).cls idx (gC G) n d).before (gA G) (gZ G) = true) (hd : decode (mB M) pc = .ok (.getfield idx, 3)) (hF : (gF G)[j]? = some (n, d, ty)) (hv : fs[j]? = some v)
    (hn : Ev G M (pc + 3) L (v :: S) (cons pre fs as) rr) : Ev G M pc L (.ref pre.length :: S) (cons pre fs as) rr := Ev.getfield w hd hF cons_get hv hn
theorem Ev.cnew {aty : ArrayType} {b : Bool} {n : Int32} {k q : Nat} {as' : List (Bool × List Int32)} (w : (Jvm.Cond.arrayClass (newarray.typeOf aty)).before (gA G) (gZ G) = true) (hb' : newarray.typeOf aty = kd b) (hd : decode (mB M) pc = .ok (.newarray aty, 2)) (hn0 : ¬ n < 0) (hk : n.toNatClampNeg = k) (hcap : k ≤ 67108864)
    (hq : as.length = q) (has : as ++ [(b, tab k (fun _ => 0))] = as') (hn : Ev G M (pc + 2) L (.ref (pre.length + 1 + q) :: S) (cons pre fs as') rr) : Ev G M pc L (.int n :: S) (cons pre fs as) rr := by
  subst hq has
  refine Ev.newarray w hb' hd hn0 hk hcap ?_
  rw [cons_push, cons_len, ← tab_zero]; exact hn
end ConsRules
theorem forall_get {P : Nat → Fd → Prop} : ∀ (F : List Fd) (k : Nat), (∀ j f, F[j]? = some f → P (k + j) f) → True := fun _ _ _ => trivial
def AllF (P : Fd → Prop) : List Fd → Prop
  | [] => True
  | f :: fs => P f ∧ AllF P fs
theorem AllF.mem {P : Fd → Prop} : ∀ {F : List Fd}, AllF P F → ∀ f ∈ F, P f
  | _ :: _, ⟨h1, h2⟩, f, hf => (List.mem_cons.mp hf).elim (fun e => e ▸ h1) (AllF.mem h2 f)
theorem gok_of {G : Ctx} (h1 : AllF (fun f => Laid (gZ G) (gA G) (gC G) (gC G) f.1 f.2.1 ∧ parseFieldDescriptor f.2.1 = some f.2.2) (gF G)) (h2 : ((gF G).map (·.1)).Nodup)
    (h3 : (Jvm.Cond.instantiable (gC G) (gK G)).before (gA G) (gZ G) = true) (h4 : (Jvm.Cond.initialized (gC G)).before (gA G) (gZ G) = true) : GOk G := by
  refine ⟨fun j n d ty hF => h1.mem _ (List.mem_of_getElem? hF), fun j j' f f' hF hF' ne e => ne ?_, h3, h4⟩
  have a1 : ((gF G).map (·.1))[j]? = some f.1 := by rw [List.getElem?_map, hF]; rfl
  have a2 : ((gF G).map (·.1))[j']? = some f.1 := by rw [List.getElem?_map, hF', e]; rfl
  exact (List.getElem?_inj (by rw [List.length_map]; exact (List.getElem?_eq_some_iff.mp hF).1) h2).mp (a1.trans a2.symm)
end Jvm.Own
namespace Jvm.Own
open Sem ClassFile Op Lib Jvm.Stand Jvm.Free Jvm.LawKit Jvm.RoadKit
def grd {α : Type} (c : Prop) [Decidable c] (x : Option α) : Option α := if c then x else none
theorem grd_some {α : Type} {c : Prop} [Decidable c] {x : Option α} {w : α} (h : grd c x = some w) : c ∧ x = some w := by
  unfold grd at h; split at h
  · exact ⟨by assumption, h⟩
  · cases h
theorem grd_pos {α : Type} {c : Prop} [Decidable c] {x : Option α} (h : c) : grd c x = x := if_pos h
theorem KH_len (F : List Fd) (al : List (Nat × Bool)) (Ln : Nat → Nat) (pre post : MHeap) (s : St) : (KH F al Ln pre post s).length = pre.length + (al.length + 1 + post.length) := by simp [KH, KO]; omega
theorem hsl_app (k : Nat) (a b : MHeap) : hsl k (a ++ b) = hsl k a + hsl k b := by simp [hsl]
theorem hsl_arr (k : Nat) (Ln : Nat → Nat) (s : St) : ∀ al : List (Nat × Bool), hsl k (al.map (arr1 Ln s)) = (al.map fun q => Ln q.1).sum
  | [] => rfl
  | q :: al => by
    have := hsl_arr k Ln s al
    simp only [hsl, List.map_cons, List.sum_cons] at this ⊢
    rw [this]
    simp [arr1, csl, tab_len]
theorem hsl_KH (k : Nat) (F : List Fd) (al : List (Nat × Bool)) (Ln : Nat → Nat) (pre post : MHeap) (s : St) : hsl k (KH F al Ln pre post s) = hsl k pre + (k + (al.map fun q => Ln q.1).sum + hsl k post) := by
  unfold KH
  rw [hsl_app, hsl_app]
  have : hsl k (KO F al Ln pre.length s) = k + (al.map fun q => Ln q.1).sum := by
    have := hsl_arr k Ln s al
    simp only [KO, hsl, List.map_cons, List.sum_cons, csl] at this ⊢
    rw [this]
  rw [this]
theorem ne_lit {x z : Int32} {k : Int} (h : ¬ x = z) (e : z.toInt = k) : x.toInt ≠ k := fun q => h (Int32.toInt_inj.mp (q.trans e.symm))
section
variable {G : Ctx} {M : Mi} {pc : Nat} {L : List Slot} {S : List Value} {rr : Option Value × MHeap}
theorem Ev.astD {k v : Nat} {L' : List Slot} {o : Slot} {h : MHeap} (hd : decode (mB M) pc = .ok (.astore k, 2)) (ho : L[k]? = some o) (h1 : one1 o = true) (hl : L.set k (.val (.ref v)) = L') (hn : Ev G M (pc + 2) L' S h rr) : Ev G M pc L (.ref v :: S) h rr :=
  Ev.astore hd (by rw [mst_one ho h1 rfl, hl]) hn
theorem Ev.astDN {k : Fin 4} {v : Nat} {L' : List Slot} {o : Slot} {h : MHeap} (hd : decode (mB M) pc = .ok (.astore_n k, 1)) (ho : L[k.val]? = some o) (h1 : one1 o = true) (hl : L.set k.val (.val (.ref v)) = L') (hn : Ev G M (pc + 1) L' S h rr) : Ev G M pc L (.ref v :: S) h rr :=
  Ev.astoreN hd (by rw [mst_one ho h1 rfl, hl]) hn
end
end Jvm.Own
namespace Jvm.Own
open Sem ClassFile Op Lib Jvm.Stand Jvm.Free Jvm.LawKit Jvm.RoadKit
section
variable {G : Ctx} {M : Mi} {pc : Nat} {L : List Slot} {S : List Value} {rr : Option Value × MHeap}
theorem mst_T {l : List Slot} {i : Nat} {v : Value} {o o' : Slot} (ho : l[i]? = some o) (ho' : l[i + 1]? = some o') (h2 : two2 o o') (hv : v.category = 1) : ∃ b, one1 b = true ∧ mst l i v = some ((l.set i (.val v)).set (i + 1) b) := by
  have hlt := (List.getElem?_eq_some_iff.mp ho).1
  have hlt' := (List.getElem?_eq_some_iff.mp ho').1
  rcases h2 with ⟨h1, h1'⟩ | ⟨x, rfl, rfl⟩
  · refine ⟨o', h1', ?_⟩
    rw [mst_one ho h1 hv]
    congr 1
    apply List.ext_getElem?
    intro k
    by_cases e : i + 1 = k
    · subst e
      rw [List.getElem?_set_self (by simpa using hlt'), List.getElem?_set_ne (by omega), ho']
    · rw [List.getElem?_set_ne e]
  · refine ⟨.unset, rfl, ?_⟩
    unfold mst
    rw [ho]
    have c2 : (Value.long x).category = 2 := rfl
    simp only [c2, if_true, lsetAt, hlt', lstoreSelf, List.length_set, hlt, hv]
    rw [List.set_comm _ _ (by omega : i + 1 ≠ i)]
    simp
theorem Ev.istT {k : Nat} {v : Int32} {L' : Slot → List Slot} {o o' : Slot} {h : MHeap} (hd : decode (mB M) pc = .ok (.istore k, 2)) (ho : L[k]? = some o) (ho' : L[k + 1]? = some o') (h2 : two2 o o') (hl : ∀ b, (L.set k (.val (.int v))).set (k + 1) b = L' b) (hn : ∀ b, one1 b = true → Ev G M (pc + 2) (L' b) S h rr) : Ev G M pc L (.int v :: S) h rr := by
  obtain ⟨b, h1, e⟩ := mst_T (v := .int v) ho ho' h2 rfl
  exact Ev.istore hd e (by rw [hl]; exact hn b h1)
theorem Ev.istTN {k : Fin 4} {v : Int32} {L' : Slot → List Slot} {o o' : Slot} {h : MHeap} (hd : decode (mB M) pc = .ok (.istore_n k, 1)) (ho : L[k.val]? = some o) (ho' : L[k.val + 1]? = some o') (h2 : two2 o o') (hl : ∀ b, (L.set k.val (.val (.int v))).set (k.val + 1) b = L' b) (hn : ∀ b, one1 b = true → Ev G M (pc + 1) (L' b) S h rr) : Ev G M pc L (.int v :: S) h rr := by
  obtain ⟨b, h1, e⟩ := mst_T (v := .int v) ho ho' h2 rfl
  exact Ev.istoreN hd e (by rw [hl]; exact hn b h1)
end
section
variable {G : Ctx} {Ln : Nat → Nat} {K : St → MHeap} {o len : Nat} {r : Nat → Nat} {F : List Fd} {al : List (Nat × Bool)}
theorem View.le (V : View G Ln K o r) (s : St) : k0 G ≤ (K s).length := Nat.le_trans V.1 (Nat.le_of_lt (List.getElem?_eq_some_iff.mp (V.2.1 s)).1)
theorem View.app (V : View G Ln K o r) (X : MHeap) : View G Ln (fun s => K s ++ X) o r := by
  refine ⟨V.1, fun s => ?_, fun s j f z hF ht => ?_, fun j n d t hF => ?_⟩
  · show (K s ++ X)[o]? = _
    rw [List.getElem?_append_left (List.getElem?_eq_some_iff.mp (V.2.1 s)).1]; exact V.2.1 s
  · show (K s ++ X).set o _ = _
    rw [List.set_append_left _ _ (List.getElem?_eq_some_iff.mp (V.2.1 s)).1, V.2.2.1 s j f z hF ht]
  · obtain ⟨q1, q2, q3⟩ := V.2.2.2 j n d t hF
    refine ⟨q1, fun s => ?_, fun s i z hi => ?_⟩
    · show (K s ++ X)[r j]? = _
      rw [List.getElem?_append_left (List.getElem?_eq_some_iff.mp (q2 s)).1]; exact q2 s
    · show (K s ++ X).set (r j) _ = _
      rw [List.set_append_left _ _ (List.getElem?_eq_some_iff.mp (q2 s)).1, q3 s i z hi]
theorem View.app2 (V : View G Ln K o r) (hl : ∀ s, (K s).length = len) (t : St) : View G Ln (fun s => KH F al Ln (K s) [] t) o r := by
  have e : (fun s => KH F al Ln (K s) [] t) = fun s => K s ++ (KO F al Ln len t ++ []) := by
    funext s; unfold KH; rw [hl]
  rw [e]
  exact V.app _
theorem app2_get (V : View G Ln K o r) {s t : St} {c : MCell} (h : (K s)[0]? = some c) : (KH F al Ln (K s) [] t)[0]? = some c := by
  unfold KH
  rw [List.getElem?_append_left (List.getElem?_eq_some_iff.mp h).1]; exact h
end
end Jvm.Own
namespace Jvm.Own
open Sem ClassFile Op Lib Jvm.Stand Jvm.Free Jvm.LawKit Jvm.RoadKit
def toI : Value → Int32
  | .int z => z
  | _ => 0
theorem script_rel {s : State} {a : Nat} {cl : Cell} {args : Array Value} {l : Launch} {C : String} {F : List Fd} {k : Nat} (hf : Fit s) (A : Arr s s.heap a cl .int) :
    ∃ xs : List Int32, xs.length = cl.slots.size ∧ Rel (s, args, l, some a, s.heap.size, C, F, k) s.heap [.inr (false, tab xs.length (fun i => xs.getD i 0))] := by
  have hl : (cl.slots.toList.map toI).length = cl.slots.size := by simp
  refine ⟨cl.slots.toList.map toI, hl, rfl, Nat.le_refl _, fun a' q => by cases q; exact A.lt, fun i c q => ?_⟩
  match i, q with
  | 0, q =>
    cases q
    refine ⟨cl, A, ?_⟩
    rw [← tab_of]
    apply Array.ext'
    apply List.ext_getElem?
    intro j
    simp only [List.map_map, List.getElem?_map]
    cases hj : cl.slots.toList[j]? with
    | none => rfl
    | some v =>
      have hj' : cl.slots[j]? = some v := by simpa using hj
      obtain ⟨hlt, hv⟩ := Array.getElem?_eq_some_iff.mp hj'
      have q := hf A.1 hlt
      obtain ⟨hs, kk, hk, comp, hkind⟩ := A.2.1
      have e : s.slotType? cl.cls cl.vm j = some .int := by
        cases hq : cl.vm <;> first | exact absurd hq (hs _) | simp [State.slotType?, hk, hkind]
      have q2 : fits .int v = true := by rw [hv] at q; simpa [State.fitsSlot, e] using q
      obtain ⟨z, rfl⟩ := fit_I q2 (Or.inl rfl)
      rfl
theorem script_len {s : State} {args : Array Value} {t : Term} {a : Nat} {cl : Cell} (A : Arr s s.heap a cl .int) (ea : t.eval args s none [] s = some (.ref a)) (h1 : (Jvm.Cond.isInt (.length t)).value args s none s [] = some true) (h2 : (Jvm.Cond.le (.length t) (.int 260)).value args s none s [] = some true) : cl.slots.size ≤ 260 := by
  obtain ⟨z, ez⟩ := is_v h1
  have ha := A.fin (Vm.Alike.refl s.vm)
  have hlen : cl.slots.size < 2 ^ 31 := by
    rcases Nat.lt_or_ge cl.slots.size (2 ^ 31) with q | q
    · exact q
    · simp [Term.eval, ea, ha, Nat.not_lt.mpr q] at ez
  have e1 := len_f ea ha hlen
  have q : cl.slots.size.toInt32 ≤ 260 := by
    have := Cond.le_ints e1 (Term.int_eval (260 : Int32)) (args := args) (first := s) (o := none) (s := s) (idx := [])
    exact gotT this h2
  have q2 := Int32.le_iff_toInt_le.mp q
  rw [len_toInt hlen] at q2
  have : (260 : Int32).toInt = 260 := by decide
  omega
end Jvm.Own
namespace Jvm.Own
open Sem ClassFile Op Lib Jvm.Stand Jvm.Free Jvm.LawKit Jvm.RoadKit
def decs (b : ByteArray) : List (Nat × Instr × Nat) → Bool
  | [] => true
  | q :: t => decide (decode b q.1 = .ok (q.2.1, q.2.2)) && decs b t
theorem dget {b : ByteArray} : ∀ {l : List (Nat × Instr × Nat)}, decs b l = true → ∀ {k p : Nat} {i : Instr} {n : Nat}, l[k]? = some (p, i, n) → decode b p = .ok (i, n)
  | [], _, k, _, _, _, hk => by simp at hk
  | q :: t, h, 0, p, i, n, hk => by
    simp only [decs, Bool.and_eq_true, decide_eq_true_eq] at h
    simp only [List.getElem?_cons_zero, Option.some.injEq] at hk
    subst hk
    exact h.1
  | q :: t, h, k + 1, p, i, n, hk => by
    simp only [decs, Bool.and_eq_true] at h
    exact dget h.2 (by simpa using hk)
end Jvm.Own
namespace Jvm.Own
/-! ## 6. Ints of 32 bits and naturals -/
theorem N_toInt {i : Nat} (h : i < 2147483648) : (Int32.ofNat i).toInt = i := Int32.toInt_ofNat_of_lt h
theorem N_lt {i j : Nat} (hi : i < 2147483648) (hj : j < 2147483648) : Int32.ofNat i < Int32.ofNat j ↔ i < j := by
  rw [Int32.lt_iff_toInt_lt, N_toInt hi, N_toInt hj]; omega
theorem N_inj {i j : Nat} (hi : i < 2147483648) (hj : j < 2147483648) : Int32.ofNat i = Int32.ofNat j ↔ i = j := by
  rw [← Int32.toInt_inj, N_toInt hi, N_toInt hj]; omega
theorem N_succ (i : Nat) : Int32.ofNat i + 1 = Int32.ofNat (i + 1) := (Int32.ofNat_add i 1).symm
theorem N_add (i j : Nat) : Int32.ofNat i + Int32.ofNat j = Int32.ofNat (i + j) := (Int32.ofNat_add i j).symm
theorem N_mul (i j : Nat) : Int32.ofNat i * Int32.ofNat j = Int32.ofNat (i * j) := (Int32.ofNat_mul i j).symm
theorem N_neg {i : Nat} (h : i < 2147483648) : ¬ Int32.ofNat i < 0 := by
  rw [Int32.lt_iff_toInt_lt, N_toInt h]; simp
theorem ix_N {i : Nat} (h : i < 2147483648) : ix (Int32.ofNat i) = i := by
  unfold ix Int32.toNatClampNeg; rw [N_toInt h]; simp
theorem inb_N {i n : Nat} (h : i < 2147483648) : inb (Int32.ofNat i) n ↔ i < n := by
  unfold inb; rw [ix_N h]; exact ⟨fun q => q.2, fun q => ⟨N_neg h, q⟩⟩
theorem ix_toInt {x : Int32} (h : ¬ x < 0) : (ix x : Int) = x.toInt := by
  unfold ix Int32.toNatClampNeg
  rw [Int32.lt_iff_toInt_lt] at h
  have : (0 : Int32).toInt = 0 := rfl
  omega
theorem ix_lt (x : Int32) : ix x < 2147483648 := by
  unfold ix Int32.toNatClampNeg
  have := Int32.toInt_lt x
  omega
theorem N_ix {x : Int32} (h : ¬ x < 0) : Int32.ofNat (ix x) = x := by
  rw [← Int32.toInt_inj, N_toInt (ix_lt x), ix_toInt h]
theorem ix_eq {x y : Int32} (hx : ¬ x < 0) (hy : ¬ y < 0) : ix x = ix y ↔ x = y := by
  refine ⟨fun e => ?_, fun e => e ▸ rfl⟩
  rw [← N_ix hx, ← N_ix hy, e]
theorem rng (x : Int32) : -2147483648 ≤ x.toInt ∧ x.toInt < 2147483648 := ⟨Int32.le_toInt x, Int32.toInt_lt x⟩
theorem lt_I {x y : Int32} : x < y ↔ x.toInt < y.toInt := Int32.lt_iff_toInt_lt
theorem le_I {x y : Int32} : x ≤ y ↔ x.toInt ≤ y.toInt := Int32.le_iff_toInt_le
theorem eq_I {x y : Int32} : x = y ↔ x.toInt = y.toInt := Int32.toInt_inj.symm
theorem bmod_eq {x : Int} (h1 : -2147483648 ≤ x) (h2 : x < 2147483648) : x.bmod (2 ^ 32) = x := by
  apply Int.bmod_eq_of_le <;> omega
theorem add_I {x y : Int32} (h1 : -2147483648 ≤ x.toInt + y.toInt) (h2 : x.toInt + y.toInt < 2147483648) : (x + y).toInt = x.toInt + y.toInt := by
  rw [Int32.toInt_add]; exact bmod_eq h1 h2
theorem sub_I {x y : Int32} (h1 : -2147483648 ≤ x.toInt - y.toInt) (h2 : x.toInt - y.toInt < 2147483648) : (x - y).toInt = x.toInt - y.toInt := by
  rw [Int32.toInt_sub]; exact bmod_eq h1 h2
theorem mul_I {x y : Int32} (h1 : -2147483648 ≤ x.toInt * y.toInt) (h2 : x.toInt * y.toInt < 2147483648) : (x * y).toInt = x.toInt * y.toInt := by
  rw [Int32.toInt_mul]; exact bmod_eq h1 h2
theorem inb_I {x : Int32} {n : Nat} (h1 : 0 ≤ x.toInt) (h2 : x.toInt < n) : inb x n := by
  have h : ¬ x < 0 := by rw [lt_I]; have : (0 : Int32).toInt = 0 := rfl; omega
  refine ⟨h, ?_⟩
  have := ix_toInt h
  omega
/-- an int between 0 and n is one of them -/
theorem cases_N {x : Int32} {n : Nat} (hn : n < 2147483648) (h0 : ¬ x < 0) (h1 : x < Int32.ofNat n) : ∃ i, i < n ∧ x = Int32.ofNat i := by
  refine ⟨ix x, ?_, (N_ix h0).symm⟩
  have a := ix_toInt h0
  rw [lt_I, N_toInt hn] at h1
  omega
/-! ## 7. Loops that count from i to N -/
def itr {α : Type} (f : Nat → α → α) : Nat → Nat → α → α
  | _, 0, s => s
  | i, m + 1, s => itr f (i + 1) m (f i s)
theorem loopN {α β : Type} {F : Nat → Int32 → α → Option β} {N : Nat} {f : Nat → α → α} {fin : α → Option β}
    (hF : ∀ k i s, i < N → F (k + 1) (Int32.ofNat i) s = F k (Int32.ofNat i + 1) (f i s)) (hE : ∀ k s, F (k + 1) (Int32.ofNat N) s = fin s) :
    ∀ m i k s, i + m = N → m < k → F k (Int32.ofNat i) s = fin (itr f i m s) := by
  intro m
  induction m with
  | zero =>
    intro i k s hi hk
    obtain ⟨k, rfl⟩ : ∃ k', k = k' + 1 := ⟨k - 1, by omega⟩
    have : i = N := by omega
    subst this
    exact hE k s
  | succ m ih =>
    intro i k s hi hk
    obtain ⟨k, rfl⟩ : ∃ k', k = k' + 1 := ⟨k - 1, by omega⟩
    rw [hF k i s (by omega), N_succ]
    exact ih (i + 1) k _ (by omega) (by omega)
theorem itr_ind {α : Type} {f : Nat → α → α} {P : Nat → α → Prop} {N : Nat} (h : ∀ i s, i < N → P i s → P (i + 1) (f i s)) : ∀ m i s, i + m = N → P i s → P N (itr f i m s) := by
  intro m
  induction m with
  | zero => intro i s hi hp; have : i = N := by omega
            subst this; exact hp
  | succ m ih => intro i s hi hp; exact ih (i + 1) _ (by omega) (h i s (by omega) hp)
theorem itr_pt {f : Nat → St → St} {u : Nat → Int32 → Int32} (h1 : ∀ i s, (f i s).1 = s.1) (h2 : ∀ i s k x, (f i s).2 k x = if x = i then u k (s.2 k x) else s.2 k x) :
    ∀ m i s, itr f i m s = (s.1, fun k x => if i ≤ x ∧ x < i + m then u k (s.2 k x) else s.2 k x) := by
  intro m
  induction m with
  | zero =>
    intro i s
    refine Prod.ext rfl ?_
    funext k x
    have : ¬ (i ≤ x ∧ x < i + 0) := by omega
    simp only [this, if_false]
    rfl
  | succ m ih =>
    intro i s
    show itr f (i + 1) m (f i s) = _
    rw [ih]
    refine Prod.ext (h1 i s) ?_
    funext k x
    simp only [h2]
    by_cases e : x = i
    · subst e
      have a : ¬ (x + 1 ≤ x ∧ x < x + 1 + m) := by omega
      have b : x ≤ x ∧ x < x + (m + 1) := by omega
      simp only [a, b, if_false, if_true, and_self]
    · have : (i + 1 ≤ x ∧ x < i + 1 + m) ↔ (i ≤ x ∧ x < i + (m + 1)) := by omega
      simp only [this, e, if_false]
theorem itr_fill (K : Nat) (z : Int32) (m : Nat) (s : St) : itr (fun i s => setA s K i z) 0 m s = (s.1, fun k x => if k = K ∧ x < m then z else s.2 k x) := by
  rw [itr_pt (f := fun i s => setA s K i z) (u := fun k v => if k = K then z else v) (fun _ _ => rfl) (fun i s j x => by
    simp only [setA_2]
    by_cases e : x = i <;> by_cases e1 : j = K <;> simp [e, e1])]
  refine Prod.ext rfl ?_
  funext k x
  have : (0 ≤ x ∧ x < 0 + m) ↔ x < m := by omega
  simp only [this]
  by_cases e : x < m <;> by_cases e1 : k = K <;> simp [e, e1]
theorem and_rng (x : Int32) {m : Nat} (hm : m < 2147483648) : 0 ≤ (x &&& Int32.ofNat m).toInt ∧ (x &&& Int32.ofNat m).toInt ≤ m := by
  have h1 : (x &&& Int32.ofNat m).toBitVec.toNat ≤ m := by
    rw [Int32.toBitVec_and, BitVec.toNat_and]
    refine Nat.le_trans Nat.and_le_right ?_
    show (BitVec.ofNat 32 m).toNat ≤ m
    rw [BitVec.toNat_ofNat]
    exact Nat.mod_le _ _
  have h2 : (x &&& Int32.ofNat m).toInt = ((x &&& Int32.ofNat m).toBitVec.toNat : Int) := by
    show (x &&& Int32.ofNat m).toBitVec.toInt = _
    exact BitVec.toInt_eq_toNat_of_lt (by omega)
  omega
theorem idx8 {o p : Int32} (h0 : ¬ o < 0) (h3 : ¬ 3 < o) : inb (o * 8 + (p &&& 7)) 32 := by
  have a := and_rng p (m := 7) (by omega)
  rw [show Int32.ofNat 7 = (7 : Int32) from rfl] at a
  rw [lt_I] at h0 h3
  have e0 : (0 : Int32).toInt = 0 := rfl
  have e3 : (3 : Int32).toInt = 3 := rfl
  have e8 : (8 : Int32).toInt = 8 := rfl
  have em : (o * 8).toInt = o.toInt * 8 := by rw [mul_I] <;> rw [e8] <;> omega
  have ea : (o * 8 + (p &&& 7)).toInt = o.toInt * 8 + (p &&& 7).toInt := by rw [add_I] <;> rw [em] <;> omega
  exact inb_I (by omega) (by omega)
theorem idx8' {o p : Int32} (h0 : ¬ o < 0) (h3 : ¬ 3 < o) (g0 : ¬ p < 0) (g7 : ¬ 7 < p) : inb (o * 8 + p) 32 ∧ (o * 8 + p).toInt = o.toInt * 8 + p.toInt := by
  rw [lt_I] at h0 h3 g0 g7
  have e0 : (0 : Int32).toInt = 0 := rfl
  have e3 : (3 : Int32).toInt = 3 := rfl
  have e7 : (7 : Int32).toInt = 7 := rfl
  have e8 : (8 : Int32).toInt = 8 := rfl
  have em : (o * 8).toInt = o.toInt * 8 := by rw [mul_I] <;> rw [e8] <;> omega
  have ea : (o * 8 + p).toInt = o.toInt * 8 + p.toInt := by rw [add_I] <;> rw [em] <;> omega
  exact ⟨inb_I (by omega) (by omega), ea⟩
theorem inb_le {x : Int32} {m : Int32} {n : Nat} (h0 : ¬ x < 0) (h1 : ¬ m < x) (hm : m.toInt < n) : inb x n := by
  rw [lt_I] at h0 h1
  have e0 : (0 : Int32).toInt = 0 := rfl
  exact inb_I (by omega) (by omega)
theorem inb_lt {x : Int32} {m : Int32} {n : Nat} (h0 : ¬ x < 0) (h1 : x < m) (hm : m.toInt ≤ n) : inb x n := by
  rw [lt_I] at h0 h1
  have e0 : (0 : Int32).toInt = 0 := rfl
  exact inb_I (by omega) (by omega)
theorem rem_N {a N : Nat} (ha : a < 2147483648) (hN : N < 2147483648) (h0 : 0 < N) : Int32.ofNat a % Int32.ofNat N = Int32.ofNat (a % N) := by
  have h1 : a % N < N := Nat.mod_lt _ h0
  rw [← Int32.toInt_inj, Int32.toInt_mod, N_toInt ha, N_toInt hN, N_toInt (by omega)]
  rw [Int.tmod_eq_emod_of_nonneg (by omega)]
  rfl
/-- the rule of a loop that counts from i to N: P before each turn; Q of what it gives -/
theorem loopP {α β : Type} {F : Nat → Int32 → α → Option β} {N : Nat} {P : Nat → α → Prop} {Q : β → Prop}
    (hF : ∀ k i s, i < N → P i s → (∃ s', F (k + 1) (Int32.ofNat i) s = F k (Int32.ofNat i + 1) s' ∧ P (i + 1) s') ∨ ∃ r, F (k + 1) (Int32.ofNat i) s = some r ∧ Q r)
    (hE : ∀ k s, P N s → ∃ r, F (k + 1) (Int32.ofNat N) s = some r ∧ Q r) :
    ∀ m i k s, i + m = N → m < k → P i s → ∃ r, F k (Int32.ofNat i) s = some r ∧ Q r := by
  intro m
  induction m with
  | zero =>
    intro i k s hi hk hp
    obtain ⟨k, rfl⟩ : ∃ k', k = k' + 1 := ⟨k - 1, by omega⟩
    have : i = N := by omega
    subst this
    exact hE k s hp
  | succ m ih =>
    intro i k s hi hk hp
    obtain ⟨k, rfl⟩ : ∃ k', k = k' + 1 := ⟨k - 1, by omega⟩
    rcases hF k i s (by omega) hp with ⟨s', e, hp'⟩ | h
    · rw [e, N_succ]
      exact ih (i + 1) k s' (by omega) (by omega) hp'
    · exact h
theorem ltN {i j : Nat} (h : i < j) (hj : j < 2147483648) : Int32.ofNat i < Int32.ofNat j := (N_lt (by omega) hj).mpr h
theorem ltZ {i : Nat} {z : Int32} (N : Nat) (hz : Int32.ofNat N = z) (h : i < N) (hN : N < 2147483648) : Int32.ofNat i < z := hz ▸ ltN h hN
theorem nltN {i : Nat} (hi : i < 2147483648) : ¬ Int32.ofNat i < Int32.ofNat i := fun q => by rw [N_lt hi hi] at q; omega
theorem inbN {i n : Nat} (h : i < n) (hi : i < 2147483648) : inb (Int32.ofNat i) n := (inb_N hi).mpr h
def own_cl (a lo hi : Int32) : Int32 := if a < lo then lo else if hi < a then hi else a
theorem own_cl_rng {a lo hi : Int32} (h : ¬ hi < lo) : lo.toInt ≤ (own_cl a lo hi).toInt ∧ (own_cl a lo hi).toInt ≤ hi.toInt := by
  unfold own_cl
  rw [lt_I] at h
  split
  · omega
  · rename_i q; rw [lt_I] at q
    split
    · omega
    · rename_i q2; rw [lt_I] at q2; omega
theorem own_nat {x : Int32} {lo hi : Nat} (h1 : (lo : Int) ≤ x.toInt) (h2 : x.toInt ≤ hi) : ∃ N : Nat, x = Int32.ofNat N ∧ lo ≤ N ∧ N ≤ hi := by
  have := rng x
  refine ⟨x.toInt.toNat, ?_, by omega, by omega⟩
  rw [← Int32.toInt_inj, N_toInt (by omega)]; omega
theorem own_clN (a : Int32) {lo hi : Nat} (h : lo ≤ hi) (hi' : hi < 2147483648) : ∃ N : Nat, own_cl a (Int32.ofNat lo) (Int32.ofNat hi) = Int32.ofNat N ∧ lo ≤ N ∧ N ≤ hi := by
  have q := own_cl_rng (a := a) (lo := Int32.ofNat lo) (hi := Int32.ofNat hi) (fun q => by rw [N_lt (by omega) (by omega)] at q; omega)
  rw [N_toInt (by omega), N_toInt (by omega)] at q
  exact own_nat q.1 q.2
end Jvm.Own
namespace Jvm.Pilot.@@N@@
open Jvm Jvm.ClassFile Sem Op Lib Jvm.Free Jvm.Stand Jvm.LawKit Jvm.RoadKit Bundle Jvm.Pilot.@@N@@.Jvm.D Jvm.Own
/-! ### the class and its words (printed by a program of this repo) -/
abbrev GT := State × Array Value × Launch × Option Addr × Nat
def flds : List Fd := [("pcls", "[I", FieldType.array FieldType.int), ("pframe", "[I", FieldType.array FieldType.int), ("pbits", "[I", FieldType.array FieldType.int), ("mem", "[I", FieldType.array FieldType.int), ("numPages", "I", FieldType.int), ("numFrames", "I", FieldType.int), ("rng", "I", FieldType.int)]
def GG (g : GT) : Ctx := (g.1, g.2.1, g.2.2.1, g.2.2.2.1, g.2.2.2.2, "MeshAllocatorX", flds, 7)
def HW (g : GT) : Prop := ∀ d ∈ tables_1, d.before g.2.1 g.1 = true
def al : List (Nat × Bool) := [(0, false), (1, false), (2, false), (3, false)]
def Ln (j : Nat) : Nat := [16, 16, 16, 256, 0, 0, 0].getD j 0
def dfl : List Value := [.null, .null, .null, .null, .int 0, .int 0, .int 0]
theorem ww {g : GT} (hw : HW g) (k : Nat) {d : Jvm.Cond} (h : tables_1[k]? = some d) : d.before (gA (GG g)) (gZ (GG g)) = true := hw _ (List.mem_of_getElem? h)
theorem fld_nd : (flds.map (·.1)).Nodup := by decide +kernel
theorem al_ok : alOk flds al = true := by decide +kernel
theorem al_nd : (al.map (·.1)).Nodup := by decide +kernel
theorem gok {g : GT} (hw : HW g) : GOk (GG g) := gok_of ⟨⟨Or.inl (ww hw 16 rfl), by decide⟩, ⟨Or.inl (ww hw 18 rfl), by decide⟩, ⟨Or.inl (ww hw 20 rfl), by decide⟩, ⟨Or.inl (ww hw 22 rfl), by decide⟩, ⟨Or.inl (ww hw 28 rfl), by decide⟩, ⟨Or.inl (ww hw 30 rfl), by decide⟩, ⟨Or.inl (ww hw 33 rfl), by decide⟩, trivial⟩ fld_nd (ww hw 5 rfl) (ww hw 6 rfl)
theorem pcls : plainName "MeshAllocatorX" = true := by first | (simp [plainName, overriddenIn]; done) | decide +kernel
theorem pclsL : plainName "MeshAllocatorXOwnLaw" = true := by first | (simp [plainName, overriddenIn]; done) | decide +kernel
theorem nmh : "MeshAllocatorX" ≠ "java/lang/invoke/MethodHandle" ∧ "MeshAllocatorX" ≠ "java/lang/invoke/VarHandle" := by decide
theorem nmhL : "MeshAllocatorXOwnLaw" ≠ "java/lang/invoke/MethodHandle" ∧ "MeshAllocatorXOwnLaw" ≠ "java/lang/invoke/VarHandle" := by decide
def M_hcell : Mi := ((⟨"MeshAllocatorXOwnLaw", "cell", "([II)I"⟩ : MethodName), method_2_code, 2, (some .int), 0, 0)
theorem pl_hcell : plainFor (mN M_hcell) = true := plainFor_of_name pclsL
theorem nm_hcell : notMH M_hcell := nmhL
theorem pd_hcell : parseMethodDescriptor (mN M_hcell).desc = some ⟨[.array .int, .int], some .int⟩ := by decide +kernel
def M_clamp : Mi := ((⟨"MeshAllocatorX", "clamp", "(III)I"⟩ : MethodName), prog_1_method_2_code, 4, (some .int), 0, 0)
theorem pl_clamp : plainFor (mN M_clamp) = true := plainFor_of_name pcls
theorem nm_clamp : notMH M_clamp := nmh
theorem pd_clamp : parseMethodDescriptor (mN M_clamp).desc = some ⟨[.int, .int, .int], some .int⟩ := by decide +kernel
def M_ctor : Mi := ((⟨"MeshAllocatorX", "<init>", "(III)V"⟩ : MethodName), prog_1_method_1_code, 5, none, 1, 16)
theorem pl_ctor : plainFor (mN M_ctor) = true := plainFor_of_name pcls
theorem nm_ctor : notMH M_ctor := nmh
theorem pd_ctor : parseMethodDescriptor (mN M_ctor).desc = some ⟨[.int, .int, .int], none⟩ := by decide +kernel
def M_popCount : Mi := ((⟨"MeshAllocatorX", "popCount", "(I)I"⟩ : MethodName), prog_1_method_10_code, 4, (some .int), 0, 0)
theorem pl_popCount : plainFor (mN M_popCount) = true := plainFor_of_name pcls
theorem nm_popCount : notMH M_popCount := nmh
theorem pd_popCount : parseMethodDescriptor (mN M_popCount).desc = some ⟨[.int], some .int⟩ := by decide +kernel
def M_liveObjects : Mi := ((⟨"MeshAllocatorX", "liveObjects", "()I"⟩ : MethodName), prog_1_method_30_code, 3, (some .int), 1, 16)
theorem pl_liveObjects : plainFor (mN M_liveObjects) = true := plainFor_of_name pcls
theorem nm_liveObjects : notMH M_liveObjects := nmh
theorem pd_liveObjects : parseMethodDescriptor (mN M_liveObjects).desc = some ⟨[], some .int⟩ := by decide +kernel
def M_pageClass : Mi := ((⟨"MeshAllocatorX", "pageClass", "(I)I"⟩ : MethodName), prog_1_method_24_code, 2, (some .int), 0, 0)
theorem pl_pageClass : plainFor (mN M_pageClass) = true := plainFor_of_name pcls
theorem nm_pageClass : notMH M_pageClass := nmh
theorem pd_pageClass : parseMethodDescriptor (mN M_pageClass).desc = some ⟨[.int], some .int⟩ := by decide +kernel
def M_frameOf : Mi := ((⟨"MeshAllocatorX", "frameOf", "(I)I"⟩ : MethodName), prog_1_method_25_code, 2, (some .int), 0, 0)
theorem pl_frameOf : plainFor (mN M_frameOf) = true := plainFor_of_name pcls
theorem nm_frameOf : notMH M_frameOf := nmh
theorem pd_frameOf : parseMethodDescriptor (mN M_frameOf).desc = some ⟨[.int], some .int⟩ := by decide +kernel
def M_pageBits : Mi := ((⟨"MeshAllocatorX", "pageBits", "(I)I"⟩ : MethodName), prog_1_method_26_code, 2, (some .int), 0, 0)
theorem pl_pageBits : plainFor (mN M_pageBits) = true := plainFor_of_name pcls
theorem nm_pageBits : notMH M_pageBits := nmh
theorem pd_pageBits : parseMethodDescriptor (mN M_pageBits).desc = some ⟨[.int], some .int⟩ := by decide +kernel
def M_hsize : Mi := ((⟨"MeshAllocatorXOwnLaw", "size", "(I)I"⟩ : MethodName), method_5_code, 1, (some .int), 0, 0)
theorem pl_hsize : plainFor (mN M_hsize) = true := plainFor_of_name pclsL
theorem nm_hsize : notMH M_hsize := nmhL
theorem pd_hsize : parseMethodDescriptor (mN M_hsize).desc = some ⟨[.int], some .int⟩ := by decide +kernel
def M_hpop : Mi := ((⟨"MeshAllocatorXOwnLaw", "pop", "(I)I"⟩ : MethodName), method_6_code, 3, (some .int), 0, 0)
theorem pl_hpop : plainFor (mN M_hpop) = true := plainFor_of_name pclsL
theorem nm_hpop : notMH M_hpop := nmhL
theorem pd_hpop : parseMethodDescriptor (mN M_hpop).desc = some ⟨[.int], some .int⟩ := by decide +kernel
def M_pagesInUse : Mi := ((⟨"MeshAllocatorX", "pagesInUse", "()I"⟩ : MethodName), prog_1_method_29_code, 3, (some .int), 0, 0)
theorem pl_pagesInUse : plainFor (mN M_pagesInUse) = true := plainFor_of_name pcls
theorem nm_pagesInUse : notMH M_pagesInUse := nmh
theorem pd_pagesInUse : parseMethodDescriptor (mN M_pagesInUse).desc = some ⟨[], some .int⟩ := by decide +kernel
def M_unionOf : Mi := ((⟨"MeshAllocatorX", "unionOf", "(I)I"⟩ : MethodName), prog_1_method_6_code, 4, (some .int), 0, 0)
theorem pl_unionOf : plainFor (mN M_unionOf) = true := plainFor_of_name pcls
theorem nm_unionOf : notMH M_unionOf := nmh
theorem pd_unionOf : parseMethodDescriptor (mN M_unionOf).desc = some ⟨[.int], some .int⟩ := by decide +kernel
def M_frameBits : Mi := ((⟨"MeshAllocatorX", "frameBits", "(I)I"⟩ : MethodName), prog_1_method_27_code, 2, (some .int), 1, 15)
theorem pl_frameBits : plainFor (mN M_frameBits) = true := plainFor_of_name pcls
theorem nm_frameBits : notMH M_frameBits := nmh
theorem pd_frameBits : parseMethodDescriptor (mN M_frameBits).desc = some ⟨[.int], some .int⟩ := by decide +kernel
def M_frameClass : Mi := ((⟨"MeshAllocatorX", "frameClass", "(I)I"⟩ : MethodName), prog_1_method_7_code, 3, (some .int), 0, 0)
theorem pl_frameClass : plainFor (mN M_frameClass) = true := plainFor_of_name pcls
theorem nm_frameClass : notMH M_frameClass := nmh
theorem pd_frameClass : parseMethodDescriptor (mN M_frameClass).desc = some ⟨[.int], some .int⟩ := by decide +kernel
def M_framesInUse : Mi := ((⟨"MeshAllocatorX", "framesInUse", "()I"⟩ : MethodName), prog_1_method_28_code, 3, (some .int), 1, 14)
theorem pl_framesInUse : plainFor (mN M_framesInUse) = true := plainFor_of_name pcls
theorem nm_framesInUse : notMH M_framesInUse := nmh
theorem pd_framesInUse : parseMethodDescriptor (mN M_framesInUse).desc = some ⟨[], some .int⟩ := by decide +kernel
def M_sizeOf : Mi := ((⟨"MeshAllocatorX", "sizeOf", "(I)I"⟩ : MethodName), prog_1_method_4_code, 2, (some .int), 0, 0)
theorem pl_sizeOf : plainFor (mN M_sizeOf) = true := plainFor_of_name pcls
theorem nm_sizeOf : notMH M_sizeOf := nmh
theorem pd_sizeOf : parseMethodDescriptor (mN M_sizeOf).desc = some ⟨[.int], some .int⟩ := by decide +kernel
def M_liveIndex : Mi := ((⟨"MeshAllocatorX", "liveIndex", "(I)I"⟩ : MethodName), prog_1_method_17_code, 7, (some .int), 1, 14)
theorem pl_liveIndex : plainFor (mN M_liveIndex) = true := plainFor_of_name pcls
theorem nm_liveIndex : notMH M_liveIndex := nmh
theorem pd_liveIndex : parseMethodDescriptor (mN M_liveIndex).desc = some ⟨[.int], some .int⟩ := by decide +kernel
def M_isLive : Mi := ((⟨"MeshAllocatorX", "isLive", "(I)Z"⟩ : MethodName), prog_1_method_20_code, 2, (some .boolean), 2, 32)
theorem pl_isLive : plainFor (mN M_isLive) = true := plainFor_of_name pcls
theorem nm_isLive : notMH M_isLive := nmh
theorem pd_isLive : parseMethodDescriptor (mN M_isLive).desc = some ⟨[.int], some .boolean⟩ := by decide +kernel
def M_read : Mi := ((⟨"MeshAllocatorX", "read", "(I)I"⟩ : MethodName), prog_1_method_19_code, 3, (some .int), 2, 32)
theorem pl_read : plainFor (mN M_read) = true := plainFor_of_name pcls
theorem nm_read : notMH M_read := nmh
theorem pd_read : parseMethodDescriptor (mN M_read).desc = some ⟨[.int], some .int⟩ := by decide +kernel
def M_htag : Mi := ((⟨"MeshAllocatorXOwnLaw", "tag", "(I)I"⟩ : MethodName), method_4_code, 1, (some .int), 0, 0)
theorem pl_htag : plainFor (mN M_htag) = true := plainFor_of_name pclsL
theorem nm_htag : notMH M_htag := nmhL
theorem pd_htag : parseMethodDescriptor (mN M_htag).desc = some ⟨[.int], some .int⟩ := by decide +kernel
def M_hconsistent : Mi := ((⟨"MeshAllocatorXOwnLaw", "consistent", "(LMeshAllocatorX;III)Z"⟩ : MethodName), method_7_code, 11, (some .boolean), 3, 46)
theorem pl_hconsistent : plainFor (mN M_hconsistent) = true := plainFor_of_name pclsL
theorem nm_hconsistent : notMH M_hconsistent := nmhL
theorem pd_hconsistent : parseMethodDescriptor (mN M_hconsistent).desc = some ⟨[.object "MeshAllocatorX", .int, .int, .int], some .boolean⟩ := by decide +kernel
def M_hmod : Mi := ((⟨"MeshAllocatorXOwnLaw", "mod", "(II)I"⟩ : MethodName), method_3_code, 3, (some .int), 0, 0)
theorem pl_hmod : plainFor (mN M_hmod) = true := plainFor_of_name pclsL
theorem nm_hmod : notMH M_hmod := nmhL
theorem pd_hmod : parseMethodDescriptor (mN M_hmod).desc = some ⟨[.int, .int], some .int⟩ := by decide +kernel
def M_rngState : Mi := ((⟨"MeshAllocatorX", "rngState", "()I"⟩ : MethodName), prog_1_method_31_code, 1, (some .int), 0, 0)
theorem pl_rngState : plainFor (mN M_rngState) = true := plainFor_of_name pcls
theorem nm_rngState : notMH M_rngState := nmh
theorem pd_rngState : parseMethodDescriptor (mN M_rngState).desc = some ⟨[], some .int⟩ := by decide +kernel
def M_slotsOf : Mi := ((⟨"MeshAllocatorX", "slotsOf", "(I)I"⟩ : MethodName), prog_1_method_3_code, 2, (some .int), 0, 0)
theorem pl_slotsOf : plainFor (mN M_slotsOf) = true := plainFor_of_name pcls
theorem nm_slotsOf : notMH M_slotsOf := nmh
theorem pd_slotsOf : parseMethodDescriptor (mN M_slotsOf).desc = some ⟨[.int], some .int⟩ := by decide +kernel
def M_countClear : Mi := ((⟨"MeshAllocatorX", "countClear", "(II)I"⟩ : MethodName), prog_1_method_8_code, 5, (some .int), 0, 0)
theorem pl_countClear : plainFor (mN M_countClear) = true := plainFor_of_name pcls
theorem nm_countClear : notMH M_countClear := nmh
theorem pd_countClear : parseMethodDescriptor (mN M_countClear).desc = some ⟨[.int, .int], some .int⟩ := by decide +kernel
def M_findEligible : Mi := ((⟨"MeshAllocatorX", "findEligible", "(I)I"⟩ : MethodName), prog_1_method_11_code, 5, (some .int), 1, 16)
theorem pl_findEligible : plainFor (mN M_findEligible) = true := plainFor_of_name pcls
theorem nm_findEligible : notMH M_findEligible := nmh
theorem pd_findEligible : parseMethodDescriptor (mN M_findEligible).desc = some ⟨[.int], some .int⟩ := by decide +kernel
def M_lowestUnusedPage : Mi := ((⟨"MeshAllocatorX", "lowestUnusedPage", "()I"⟩ : MethodName), prog_1_method_12_code, 2, (some .int), 0, 0)
theorem pl_lowestUnusedPage : plainFor (mN M_lowestUnusedPage) = true := plainFor_of_name pcls
theorem nm_lowestUnusedPage : notMH M_lowestUnusedPage := nmh
theorem pd_lowestUnusedPage : parseMethodDescriptor (mN M_lowestUnusedPage).desc = some ⟨[], some .int⟩ := by decide +kernel
def M_lowestFreeFrame : Mi := ((⟨"MeshAllocatorX", "lowestFreeFrame", "()I"⟩ : MethodName), prog_1_method_13_code, 2, (some .int), 1, 14)
theorem pl_lowestFreeFrame : plainFor (mN M_lowestFreeFrame) = true := plainFor_of_name pcls
theorem nm_lowestFreeFrame : notMH M_lowestFreeFrame := nmh
theorem pd_lowestFreeFrame : parseMethodDescriptor (mN M_lowestFreeFrame).desc = some ⟨[], some .int⟩ := by decide +kernel
def M_step : Mi := ((⟨"MeshAllocatorX", "step", "()I"⟩ : MethodName), prog_1_method_5_code, 1, (some .int), 0, 0)
theorem pl_step : plainFor (mN M_step) = true := plainFor_of_name pcls
theorem nm_step : notMH M_step := nmh
theorem pd_step : parseMethodDescriptor (mN M_step).desc = some ⟨[], some .int⟩ := by decide +kernel
def M_nthClear : Mi := ((⟨"MeshAllocatorX", "nthClear", "(III)I"⟩ : MethodName), prog_1_method_9_code, 6, (some .int), 0, 0)
theorem pl_nthClear : plainFor (mN M_nthClear) = true := plainFor_of_name pcls
theorem nm_nthClear : notMH M_nthClear := nmh
theorem pd_nthClear : parseMethodDescriptor (mN M_nthClear).desc = some ⟨[.int, .int, .int], some .int⟩ := by decide +kernel
def M_placeObject : Mi := ((⟨"MeshAllocatorX", "placeObject", "(II)I"⟩ : MethodName), prog_1_method_15_code, 13, (some .int), 1, 17)
theorem pl_placeObject : plainFor (mN M_placeObject) = true := plainFor_of_name pcls
theorem nm_placeObject : notMH M_placeObject := nmh
theorem pd_placeObject : parseMethodDescriptor (mN M_placeObject).desc = some ⟨[.int, .int], some .int⟩ := by decide +kernel
def M_alloc : Mi := ((⟨"MeshAllocatorX", "alloc", "(I)I"⟩ : MethodName), prog_1_method_14_code, 4, (some .int), 2, 41)
theorem pl_alloc : plainFor (mN M_alloc) = true := plainFor_of_name pcls
theorem nm_alloc : notMH M_alloc := nmh
theorem pd_alloc : parseMethodDescriptor (mN M_alloc).desc = some ⟨[.int], some .int⟩ := by decide +kernel
def M_write : Mi := ((⟨"MeshAllocatorX", "write", "(II)Z"⟩ : MethodName), prog_1_method_18_code, 4, (some .boolean), 2, 32)
theorem pl_write : plainFor (mN M_write) = true := plainFor_of_name pcls
theorem nm_write : notMH M_write := nmh
theorem pd_write : parseMethodDescriptor (mN M_write).desc = some ⟨[.int, .int], some .boolean⟩ := by decide +kernel
def M_free : Mi := ((⟨"MeshAllocatorX", "free", "(I)Z"⟩ : MethodName), prog_1_method_16_code, 7, (some .boolean), 1, 13)
theorem pl_free : plainFor (mN M_free) = true := plainFor_of_name pcls
theorem nm_free : notMH M_free := nmh
theorem pd_free : parseMethodDescriptor (mN M_free).desc = some ⟨[.int], some .boolean⟩ := by decide +kernel
def M_mergeFrames : Mi := ((⟨"MeshAllocatorX", "mergeFrames", "(IIII)V"⟩ : MethodName), prog_1_method_23_code, 10, none, 1, 13)
theorem pl_mergeFrames : plainFor (mN M_mergeFrames) = true := plainFor_of_name pcls
theorem nm_mergeFrames : notMH M_mergeFrames := nmh
theorem pd_mergeFrames : parseMethodDescriptor (mN M_mergeFrames).desc = some ⟨[.int, .int, .int, .int], none⟩ := by decide +kernel
def M_meshInto : Mi := ((⟨"MeshAllocatorX", "meshInto", "(II)I"⟩ : MethodName), prog_1_method_22_code, 7, (some .int), 2, 34)
theorem pl_meshInto : plainFor (mN M_meshInto) = true := plainFor_of_name pcls
theorem nm_meshInto : notMH M_meshInto := nmh
theorem pd_meshInto : parseMethodDescriptor (mN M_meshInto).desc = some ⟨[.int, .int], some .int⟩ := by decide +kernel
def M_mesh : Mi := ((⟨"MeshAllocatorX", "mesh", "()I"⟩ : MethodName), prog_1_method_21_code, 4, (some .int), 3, 53)
theorem pl_mesh : plainFor (mN M_mesh) = true := plainFor_of_name pcls
theorem nm_mesh : notMH M_mesh := nmh
theorem pd_mesh : parseMethodDescriptor (mN M_mesh).desc = some ⟨[], some .int⟩ := by decide +kernel
def M_law : Mi := (x, code, maxLocals, ret, 4, 68)
theorem pl_law : plainFor (mN M_law) = true := plainFor_of_name (by first | (simp [plainName, overriddenIn, x]; done) | decide +kernel)
def c0 : List (Nat × Instr × Nat) := [(0, .iload_n 1, 1), (1, .aload_n 0, 1), (2, .arraylength, 1), (3, .if_icmp .ge 9, 3), (6, .aload_n 0, 1), (7, .iload_n 1, 1), (8, .iaload, 1), (9, .goto 4, 3), (12, .iconst 0, 1), (13, .ireturn, 1)]
theorem D0 : decs method_2_code c0 = true := by decide +kernel
theorem d0 (k : Nat) {p : Nat} {i : Instr} {n : Nat} (h : c0[k]? = some (p, i, n)) : decode method_2_code p = .ok (i, n) := dget D0 h
def c3 : List (Nat × Instr × Nat) := [(0, .iload_n 1, 1), (1, .iload_n 2, 1), (2, .if_icmp .ge 5, 3), (5, .iload_n 2, 1), (6, .ireturn, 1), (7, .iload_n 1, 1), (8, .iload_n 3, 1), (9, .if_icmp .le 5, 3), (12, .iload_n 3, 1), (13, .ireturn, 1), (14, .iload_n 1, 1), (15, .ireturn, 1)]
theorem D3 : decs prog_1_method_2_code c3 = true := by decide +kernel
theorem d3 (k : Nat) {p : Nat} {i : Instr} {n : Nat} (h : c3[k]? = some (p, i, n)) : decode prog_1_method_2_code p = .ok (i, n) := dget D3 h
def c1 : List (Nat × Instr × Nat) := [(0, .aload_n 0, 1), (1, .invokespecial 1, 3), (4, .aload_n 0, 1), (5, .bipush 16, 2), (7, .newarray .int, 2), (9, .putfield 7, 3), (12, .aload_n 0, 1), (13, .bipush 16, 2), (15, .newarray .int, 2), (17, .putfield 13, 3), (20, .aload_n 0, 1), (21, .bipush 16, 2), (23, .newarray .int, 2), (25, .putfield 16, 3), (28, .aload_n 0, 1), (29, .sipush 256, 3), (32, .newarray .int, 2), (34, .putfield 19, 3), (37, .aload_n 0, 1), (38, .aload_n 0, 1), (39, .iload_n 1, 1), (40, .iconst 2, 1), (41, .bipush 16, 2), (43, .invokevirtual 22, 3), (46, .putfield 26, 3), (49, .aload_n 0, 1), (50, .aload_n 0, 1), (51, .iload_n 2, 1), (52, .iconst 1, 1), (53, .bipush 16, 2), (55, .invokevirtual 22, 3), (58, .putfield 30, 3), (61, .aload_n 0, 1), (62, .aload_n 0, 1), (63, .iload_n 3, 1), (64, .iconst 0, 1), (65, .ldc 33, 2), (67, .invokevirtual 22, 3), (70, .putfield 34, 3), (73, .iconst 0, 1), (74, .istore 4, 2), (76, .iload 4, 2), (78, .bipush 16, 2), (80, .if_icmp .ge 33, 3), (83, .aload_n 0, 1), (84, .getfield 7, 3), (87, .iload 4, 2), (89, .iconst (-1), 1), (90, .iastore, 1), (91, .aload_n 0, 1), (92, .getfield 13, 3), (95, .iload 4, 2), (97, .iconst (-1), 1), (98, .iastore, 1), (99, .aload_n 0, 1), (100, .getfield 16, 3), (103, .iload 4, 2), (105, .iconst 0, 1), (106, .iastore, 1), (107, .iinc 4 1, 3), (110, .goto (-34), 3), (113, .return_, 1)]
theorem D1 : decs prog_1_method_1_code c1 = true := by decide +kernel
theorem d1 (k : Nat) {p : Nat} {i : Instr} {n : Nat} (h : c1[k]? = some (p, i, n)) : decode prog_1_method_1_code p = .ok (i, n) := dget D1 h
def c32 : List (Nat × Instr × Nat) := [(0, .iconst 0, 1), (1, .istore_n 2, 1), (2, .iconst 0, 1), (3, .istore_n 3, 1), (4, .iload_n 3, 1), (5, .bipush 32, 2), (7, .if_icmp .ge 20, 3), (10, .iload_n 1, 1), (11, .iload_n 3, 1), (12, .iushr, 1), (13, .iconst 1, 1), (14, .iand, 1), (15, .ifCond .eq 6, 3), (18, .iinc 2 1, 3), (21, .iinc 3 1, 3), (24, .goto (-20), 3), (27, .iload_n 2, 1), (28, .ireturn, 1)]
theorem D32 : decs prog_1_method_10_code c32 = true := by decide +kernel
theorem d32 (k : Nat) {p : Nat} {i : Instr} {n : Nat} (h : c32[k]? = some (p, i, n)) : decode prog_1_method_10_code p = .ok (i, n) := dget D32 h
def c5 : List (Nat × Instr × Nat) := [(0, .iconst 0, 1), (1, .istore_n 1, 1), (2, .iconst 0, 1), (3, .istore_n 2, 1), (4, .iload_n 2, 1), (5, .aload_n 0, 1), (6, .getfield 26, 3), (9, .if_icmp .ge 32, 3), (12, .aload_n 0, 1), (13, .getfield 7, 3), (16, .iload_n 2, 1), (17, .iaload, 1), (18, .iconst (-1), 1), (19, .if_icmp .eq 16, 3), (22, .iload_n 1, 1), (23, .aload_n 0, 1), (24, .aload_n 0, 1), (25, .getfield 16, 3), (28, .iload_n 2, 1), (29, .iaload, 1), (30, .invokevirtual 84, 3), (33, .iadd, 1), (34, .istore_n 1, 1), (35, .iinc 2 1, 3), (38, .goto (-34), 3), (41, .iload_n 1, 1), (42, .ireturn, 1)]
theorem D5 : decs prog_1_method_30_code c5 = true := by decide +kernel
theorem d5 (k : Nat) {p : Nat} {i : Instr} {n : Nat} (h : c5[k]? = some (p, i, n)) : decode prog_1_method_30_code p = .ok (i, n) := dget D5 h
def c6 : List (Nat × Instr × Nat) := [(0, .iload_n 1, 1), (1, .ifCond .lt 11, 3), (4, .iload_n 1, 1), (5, .aload_n 0, 1), (6, .getfield 26, 3), (9, .if_icmp .lt 5, 3), (12, .iconst (-1), 1), (13, .ireturn, 1), (14, .aload_n 0, 1), (15, .getfield 7, 3), (18, .iload_n 1, 1), (19, .iaload, 1), (20, .ireturn, 1)]
theorem D6 : decs prog_1_method_24_code c6 = true := by decide +kernel
theorem d6 (k : Nat) {p : Nat} {i : Instr} {n : Nat} (h : c6[k]? = some (p, i, n)) : decode prog_1_method_24_code p = .ok (i, n) := dget D6 h
def c7 : List (Nat × Instr × Nat) := [(0, .iload_n 1, 1), (1, .ifCond .lt 21, 3), (4, .iload_n 1, 1), (5, .aload_n 0, 1), (6, .getfield 26, 3), (9, .if_icmp .ge 13, 3), (12, .aload_n 0, 1), (13, .getfield 7, 3), (16, .iload_n 1, 1), (17, .iaload, 1), (18, .iconst (-1), 1), (19, .if_icmp .ne 5, 3), (22, .iconst (-1), 1), (23, .ireturn, 1), (24, .aload_n 0, 1), (25, .getfield 13, 3), (28, .iload_n 1, 1), (29, .iaload, 1), (30, .ireturn, 1)]
theorem D7 : decs prog_1_method_25_code c7 = true := by decide +kernel
theorem d7 (k : Nat) {p : Nat} {i : Instr} {n : Nat} (h : c7[k]? = some (p, i, n)) : decode prog_1_method_25_code p = .ok (i, n) := dget D7 h
def c8 : List (Nat × Instr × Nat) := [(0, .iload_n 1, 1), (1, .ifCond .lt 21, 3), (4, .iload_n 1, 1), (5, .aload_n 0, 1), (6, .getfield 26, 3), (9, .if_icmp .ge 13, 3), (12, .aload_n 0, 1), (13, .getfield 7, 3), (16, .iload_n 1, 1), (17, .iaload, 1), (18, .iconst (-1), 1), (19, .if_icmp .ne 5, 3), (22, .iconst 0, 1), (23, .ireturn, 1), (24, .aload_n 0, 1), (25, .getfield 16, 3), (28, .iload_n 1, 1), (29, .iaload, 1), (30, .ireturn, 1)]
theorem D8 : decs prog_1_method_26_code c8 = true := by decide +kernel
theorem d8 (k : Nat) {p : Nat} {i : Instr} {n : Nat} (h : c8[k]? = some (p, i, n)) : decode prog_1_method_26_code p = .ok (i, n) := dget D8 h
def c29 : List (Nat × Instr × Nat) := [(0, .iload_n 0, 1), (1, .ifCond .ne 7, 3), (4, .iconst 1, 1), (5, .goto 13, 3), (8, .iload_n 0, 1), (9, .iconst 1, 1), (10, .if_icmp .ne 7, 3), (13, .iconst 2, 1), (14, .goto 4, 3), (17, .iconst 4, 1), (18, .ireturn, 1)]
theorem D29 : decs method_5_code c29 = true := by decide +kernel
theorem d29 (k : Nat) {p : Nat} {i : Instr} {n : Nat} (h : c29[k]? = some (p, i, n)) : decode method_5_code p = .ok (i, n) := dget D29 h
def c33 : List (Nat × Instr × Nat) := [(0, .iconst 0, 1), (1, .istore_n 1, 1), (2, .iconst 0, 1), (3, .istore_n 2, 1), (4, .iload_n 2, 1), (5, .bipush 32, 2), (7, .if_icmp .ge 20, 3), (10, .iload_n 0, 1), (11, .iload_n 2, 1), (12, .iushr, 1), (13, .iconst 1, 1), (14, .iand, 1), (15, .ifCond .eq 6, 3), (18, .iinc 1 1, 3), (21, .iinc 2 1, 3), (24, .goto (-20), 3), (27, .iload_n 1, 1), (28, .ireturn, 1)]
theorem D33 : decs method_6_code c33 = true := by decide +kernel
theorem d33 (k : Nat) {p : Nat} {i : Instr} {n : Nat} (h : c33[k]? = some (p, i, n)) : decode method_6_code p = .ok (i, n) := dget D33 h
def c9 : List (Nat × Instr × Nat) := [(0, .iconst 0, 1), (1, .istore_n 1, 1), (2, .iconst 0, 1), (3, .istore_n 2, 1), (4, .iload_n 2, 1), (5, .aload_n 0, 1), (6, .getfield 26, 3), (9, .if_icmp .ge 22, 3), (12, .aload_n 0, 1), (13, .getfield 7, 3), (16, .iload_n 2, 1), (17, .iaload, 1), (18, .iconst (-1), 1), (19, .if_icmp .eq 6, 3), (22, .iinc 1 1, 3), (25, .iinc 2 1, 3), (28, .goto (-24), 3), (31, .iload_n 1, 1), (32, .ireturn, 1)]
theorem D9 : decs prog_1_method_29_code c9 = true := by decide +kernel
theorem d9 (k : Nat) {p : Nat} {i : Instr} {n : Nat} (h : c9[k]? = some (p, i, n)) : decode prog_1_method_29_code p = .ok (i, n) := dget D9 h
def c11 : List (Nat × Instr × Nat) := [(0, .iconst 0, 1), (1, .istore_n 2, 1), (2, .iconst 0, 1), (3, .istore_n 3, 1), (4, .iload_n 3, 1), (5, .aload_n 0, 1), (6, .getfield 26, 3), (9, .if_icmp .ge 38, 3), (12, .aload_n 0, 1), (13, .getfield 7, 3), (16, .iload_n 3, 1), (17, .iaload, 1), (18, .iconst (-1), 1), (19, .if_icmp .eq 22, 3), (22, .aload_n 0, 1), (23, .getfield 13, 3), (26, .iload_n 3, 1), (27, .iaload, 1), (28, .iload_n 1, 1), (29, .if_icmp .ne 12, 3), (32, .iload_n 2, 1), (33, .aload_n 0, 1), (34, .getfield 16, 3), (37, .iload_n 3, 1), (38, .iaload, 1), (39, .ior, 1), (40, .istore_n 2, 1), (41, .iinc 3 1, 3), (44, .goto (-40), 3), (47, .iload_n 2, 1), (48, .ireturn, 1)]
theorem D11 : decs prog_1_method_6_code c11 = true := by decide +kernel
theorem d11 (k : Nat) {p : Nat} {i : Instr} {n : Nat} (h : c11[k]? = some (p, i, n)) : decode prog_1_method_6_code p = .ok (i, n) := dget D11 h
def c10 : List (Nat × Instr × Nat) := [(0, .iload_n 1, 1), (1, .ifCond .lt 11, 3), (4, .iload_n 1, 1), (5, .aload_n 0, 1), (6, .getfield 30, 3), (9, .if_icmp .lt 5, 3), (12, .iconst 0, 1), (13, .ireturn, 1), (14, .aload_n 0, 1), (15, .iload_n 1, 1), (16, .invokevirtual 42, 3), (19, .ireturn, 1)]
theorem D10 : decs prog_1_method_27_code c10 = true := by decide +kernel
theorem d10 (k : Nat) {p : Nat} {i : Instr} {n : Nat} (h : c10[k]? = some (p, i, n)) : decode prog_1_method_27_code p = .ok (i, n) := dget D10 h
def c13 : List (Nat × Instr × Nat) := [(0, .iconst 0, 1), (1, .istore_n 2, 1), (2, .iload_n 2, 1), (3, .aload_n 0, 1), (4, .getfield 26, 3), (7, .if_icmp .ge 36, 3), (10, .aload_n 0, 1), (11, .getfield 7, 3), (14, .iload_n 2, 1), (15, .iaload, 1), (16, .iconst (-1), 1), (17, .if_icmp .eq 20, 3), (20, .aload_n 0, 1), (21, .getfield 13, 3), (24, .iload_n 2, 1), (25, .iaload, 1), (26, .iload_n 1, 1), (27, .if_icmp .ne 10, 3), (30, .aload_n 0, 1), (31, .getfield 7, 3), (34, .iload_n 2, 1), (35, .iaload, 1), (36, .ireturn, 1), (37, .iinc 2 1, 3), (40, .goto (-38), 3), (43, .iconst (-1), 1), (44, .ireturn, 1)]
theorem D13 : decs prog_1_method_7_code c13 = true := by decide +kernel
theorem d13 (k : Nat) {p : Nat} {i : Instr} {n : Nat} (h : c13[k]? = some (p, i, n)) : decode prog_1_method_7_code p = .ok (i, n) := dget D13 h
def c12 : List (Nat × Instr × Nat) := [(0, .iconst 0, 1), (1, .istore_n 1, 1), (2, .iconst 0, 1), (3, .istore_n 2, 1), (4, .iload_n 2, 1), (5, .aload_n 0, 1), (6, .getfield 30, 3), (9, .if_icmp .ge 21, 3), (12, .aload_n 0, 1), (13, .iload_n 2, 1), (14, .invokevirtual 49, 3), (17, .iconst (-1), 1), (18, .if_icmp .eq 6, 3), (21, .iinc 1 1, 3), (24, .iinc 2 1, 3), (27, .goto (-23), 3), (30, .iload_n 1, 1), (31, .ireturn, 1)]
theorem D12 : decs prog_1_method_28_code c12 = true := by decide +kernel
theorem d12 (k : Nat) {p : Nat} {i : Instr} {n : Nat} (h : c12[k]? = some (p, i, n)) : decode prog_1_method_28_code p = .ok (i, n) := dget D12 h
def c25 : List (Nat × Instr × Nat) := [(0, .iconst 1, 1), (1, .iload_n 1, 1), (2, .ishl, 1), (3, .ireturn, 1)]
theorem D25 : decs prog_1_method_4_code c25 = true := by decide +kernel
theorem d25 (k : Nat) {p : Nat} {i : Instr} {n : Nat} (h : c25[k]? = some (p, i, n)) : decode prog_1_method_4_code p = .ok (i, n) := dget D25 h
def c15 : List (Nat × Instr × Nat) := [(0, .iload_n 1, 1), (1, .ifCond .lt 14, 3), (4, .iload_n 1, 1), (5, .aload_n 0, 1), (6, .getfield 26, 3), (9, .bipush 16, 2), (11, .imul, 1), (12, .if_icmp .lt 5, 3), (15, .iconst (-1), 1), (16, .ireturn, 1), (17, .iload_n 1, 1), (18, .bipush 16, 2), (20, .idiv, 1), (21, .istore_n 2, 1), (22, .aload_n 0, 1), (23, .getfield 7, 3), (26, .iload_n 2, 1), (27, .iaload, 1), (28, .istore_n 3, 1), (29, .iload_n 3, 1), (30, .iconst (-1), 1), (31, .if_icmp .ne 5, 3), (34, .iconst (-1), 1), (35, .ireturn, 1), (36, .iload_n 1, 1), (37, .bipush 16, 2), (39, .irem, 1), (40, .istore 4, 2), (42, .iload 4, 2), (44, .aload_n 0, 1), (45, .iload_n 3, 1), (46, .invokevirtual 65, 3), (49, .idiv, 1), (50, .istore 5, 2), (52, .aload_n 0, 1), (53, .getfield 16, 3), (56, .iload_n 2, 1), (57, .iaload, 1), (58, .iload 5, 2), (60, .iushr, 1), (61, .iconst 1, 1), (62, .iand, 1), (63, .ifCond .ne 5, 3), (66, .iconst (-1), 1), (67, .ireturn, 1), (68, .aload_n 0, 1), (69, .getfield 13, 3), (72, .iload_n 2, 1), (73, .iaload, 1), (74, .istore 6, 2), (76, .iload 6, 2), (78, .ifCond .lt 12, 3), (81, .iload 6, 2), (83, .aload_n 0, 1), (84, .getfield 30, 3), (87, .if_icmp .lt 5, 3), (90, .iconst (-1), 1), (91, .ireturn, 1), (92, .iload 6, 2), (94, .bipush 16, 2), (96, .imul, 1), (97, .iload 4, 2), (99, .iadd, 1), (100, .ireturn, 1)]
theorem D15 : decs prog_1_method_17_code c15 = true := by decide +kernel
theorem d15 (k : Nat) {p : Nat} {i : Instr} {n : Nat} (h : c15[k]? = some (p, i, n)) : decode prog_1_method_17_code p = .ok (i, n) := dget D15 h
def c14 : List (Nat × Instr × Nat) := [(0, .aload_n 0, 1), (1, .iload_n 1, 1), (2, .invokevirtual 74, 3), (5, .ifCond .lt 7, 3), (8, .iconst 1, 1), (9, .goto 4, 3), (12, .iconst 0, 1), (13, .ireturn, 1)]
theorem D14 : decs prog_1_method_20_code c14 = true := by decide +kernel
theorem d14 (k : Nat) {p : Nat} {i : Instr} {n : Nat} (h : c14[k]? = some (p, i, n)) : decode prog_1_method_20_code p = .ok (i, n) := dget D14 h
def c16 : List (Nat × Instr × Nat) := [(0, .aload_n 0, 1), (1, .iload_n 1, 1), (2, .invokevirtual 74, 3), (5, .istore_n 2, 1), (6, .iload_n 2, 1), (7, .ifCond .ge 5, 3), (10, .iconst 0, 1), (11, .ireturn, 1), (12, .aload_n 0, 1), (13, .getfield 19, 3), (16, .iload_n 2, 1), (17, .iaload, 1), (18, .ireturn, 1)]
theorem D16 : decs prog_1_method_19_code c16 = true := by decide +kernel
theorem d16 (k : Nat) {p : Nat} {i : Instr} {n : Nat} (h : c16[k]? = some (p, i, n)) : decode prog_1_method_19_code p = .ok (i, n) := dget D16 h
def c30 : List (Nat × Instr × Nat) := [(0, .iload_n 0, 1), (1, .sipush 131, 3), (4, .imul, 1), (5, .bipush 7, 2), (7, .iadd, 1), (8, .ireturn, 1)]
theorem D30 : decs method_4_code c30 = true := by decide +kernel
theorem d30 (k : Nat) {p : Nat} {i : Instr} {n : Nat} (h : c30[k]? = some (p, i, n)) : decode method_4_code p = .ok (i, n) := dget D30 h
def c4 : List (Nat × Instr × Nat) := [(0, .aload_n 0, 1), (1, .invokevirtual 7, 3), (4, .iload_n 3, 1), (5, .if_icmp .eq 5, 3), (8, .iconst 0, 1), (9, .ireturn, 1), (10, .iconst 0, 1), (11, .istore 4, 2), (13, .iconst 0, 1), (14, .istore 5, 2), (16, .iconst 0, 1), (17, .istore 6, 2), (19, .iload 6, 2), (21, .iload_n 1, 1), (22, .if_icmp .ge 162, 3), (25, .aload_n 0, 1), (26, .iload 6, 2), (28, .invokevirtual 13, 3), (31, .istore 7, 2), (33, .aload_n 0, 1), (34, .iload 6, 2), (36, .invokevirtual 17, 3), (39, .istore 8, 2), (41, .aload_n 0, 1), (42, .iload 6, 2), (44, .invokevirtual 20, 3), (47, .istore 9, 2), (49, .iload 7, 2), (51, .iconst (-1), 1), (52, .if_icmp .ne 16, 3), (55, .iload 8, 2), (57, .iconst (-1), 1), (58, .if_icmp .ne 8, 3), (61, .iload 9, 2), (63, .ifCond .eq 115, 3), (66, .iconst 0, 1), (67, .ireturn, 1), (68, .iload 7, 2), (70, .ifCond .lt 39, 3), (73, .iload 7, 2), (75, .iconst 2, 1), (76, .if_icmp .gt 33, 3), (79, .iload 8, 2), (81, .ifCond .lt 28, 3), (84, .iload 8, 2), (86, .iload_n 2, 1), (87, .if_icmp .ge 22, 3), (90, .iload 9, 2), (92, .ifCond .eq 17, 3), (95, .iload 9, 2), (97, .bipush 16, 2), (99, .iload 7, 2), (101, .invokestatic 23, 3), (104, .idiv, 1), (105, .iushr, 1), (106, .ifCond .eq 5, 3), (109, .iconst 0, 1), (110, .ireturn, 1), (111, .iinc 5 1, 3), (114, .iload 4, 2), (116, .iload 9, 2), (118, .invokestatic 28, 3), (121, .iadd, 1), (122, .istore 4, 2), (124, .iload 6, 2), (126, .iconst 1, 1), (127, .iadd, 1), (128, .istore 10, 2), (130, .iload 10, 2), (132, .iload_n 1, 1), (133, .if_icmp .ge 45, 3), (136, .aload_n 0, 1), (137, .iload 10, 2), (139, .invokevirtual 17, 3), (142, .iload 8, 2), (144, .if_icmp .ne 28, 3), (147, .aload_n 0, 1), (148, .iload 10, 2), (150, .invokevirtual 13, 3), (153, .iload 7, 2), (155, .if_icmp .ne 15, 3), (158, .iload 9, 2), (160, .aload_n 0, 1), (161, .iload 10, 2), (163, .invokevirtual 20, 3), (166, .iand, 1), (167, .ifCond .eq 5, 3), (170, .iconst 0, 1), (171, .ireturn, 1), (172, .iinc 10 1, 3), (175, .goto (-45), 3), (178, .iinc 6 1, 3), (181, .goto (-162), 3), (184, .iload 5, 2), (186, .aload_n 0, 1), (187, .invokevirtual 31, 3), (190, .if_icmp .ne 9, 3), (193, .iload 4, 2), (195, .iload_n 3, 1), (196, .if_icmp .eq 5, 3), (199, .iconst 0, 1), (200, .ireturn, 1), (201, .iconst 0, 1), (202, .istore 6, 2), (204, .iconst 0, 1), (205, .istore 7, 2), (207, .iload 7, 2), (209, .iload_n 2, 1), (210, .if_icmp .ge 70, 3), (213, .iconst 0, 1), (214, .istore 8, 2), (216, .iconst 0, 1), (217, .istore 9, 2), (219, .iload 9, 2), (221, .iload_n 1, 1), (222, .if_icmp .ge 31, 3), (225, .aload_n 0, 1), (226, .iload 9, 2), (228, .invokevirtual 17, 3), (231, .iload 7, 2), (233, .if_icmp .ne 14, 3), (236, .iload 8, 2), (238, .aload_n 0, 1), (239, .iload 9, 2), (241, .invokevirtual 20, 3), (244, .ior, 1), (245, .istore 8, 2), (247, .iinc 9 1, 3), (250, .goto (-31), 3), (253, .aload_n 0, 1), (254, .iload 7, 2), (256, .invokevirtual 34, 3), (259, .iload 8, 2), (261, .if_icmp .eq 5, 3), (264, .iconst 0, 1), (265, .ireturn, 1), (266, .iload 8, 2), (268, .ifCond .eq 6, 3), (271, .iinc 6 1, 3), (274, .iinc 7 1, 3), (277, .goto (-70), 3), (280, .iload 6, 2), (282, .aload_n 0, 1), (283, .invokevirtual 37, 3), (286, .if_icmp .eq 5, 3), (289, .iconst 0, 1), (290, .ireturn, 1), (291, .iconst 0, 1), (292, .istore 7, 2), (294, .iload 7, 2), (296, .iload_n 1, 1), (297, .bipush 16, 2), (299, .imul, 1), (300, .if_icmp .ge 97, 3), (303, .iload 7, 2), (305, .bipush 16, 2), (307, .idiv, 1), (308, .istore 8, 2), (310, .aload_n 0, 1), (311, .iload 8, 2), (313, .invokevirtual 13, 3), (316, .istore 9, 2), (318, .iload 9, 2), (320, .ifCond .lt 30, 3), (323, .aload_n 0, 1), (324, .iload 8, 2), (326, .invokevirtual 20, 3), (329, .iload 7, 2), (331, .bipush 16, 2), (333, .irem, 1), (334, .iload 9, 2), (336, .invokestatic 23, 3), (339, .idiv, 1), (340, .iushr, 1), (341, .iconst 1, 1), (342, .iand, 1), (343, .ifCond .eq 7, 3), (346, .iconst 1, 1), (347, .goto 4, 3), (350, .iconst 0, 1), (351, .istore 10, 2), (353, .aload_n 0, 1), (354, .iload 7, 2), (356, .invokevirtual 40, 3), (359, .iload 10, 2), (361, .if_icmp .eq 5, 3), (364, .iconst 0, 1), (365, .ireturn, 1), (366, .aload_n 0, 1), (367, .iload 7, 2), (369, .invokevirtual 44, 3), (372, .iload 10, 2), (374, .ifCond .eq 11, 3), (377, .iload 7, 2), (379, .invokestatic 47, 3), (382, .goto 4, 3), (385, .iconst 0, 1), (386, .if_icmp .eq 5, 3), (389, .iconst 0, 1), (390, .ireturn, 1), (391, .iinc 7 1, 3), (394, .goto (-100), 3), (397, .iconst 1, 1), (398, .ireturn, 1)]
theorem D4 : decs method_7_code c4 = true := by decide +kernel
theorem d4 (k : Nat) {p : Nat} {i : Instr} {n : Nat} (h : c4[k]? = some (p, i, n)) : decode method_7_code p = .ok (i, n) := dget D4 h
def c17 : List (Nat × Instr × Nat) := [(0, .iload_n 0, 1), (1, .iload_n 1, 1), (2, .irem, 1), (3, .istore_n 2, 1), (4, .iload_n 2, 1), (5, .ifCond .ge 9, 3), (8, .iload_n 2, 1), (9, .iload_n 1, 1), (10, .iadd, 1), (11, .goto 4, 3), (14, .iload_n 2, 1), (15, .ireturn, 1)]
theorem D17 : decs method_3_code c17 = true := by decide +kernel
theorem d17 (k : Nat) {p : Nat} {i : Instr} {n : Nat} (h : c17[k]? = some (p, i, n)) : decode method_3_code p = .ok (i, n) := dget D17 h
def c18 : List (Nat × Instr × Nat) := [(0, .aload_n 0, 1), (1, .getfield 34, 3), (4, .ireturn, 1)]
theorem D18 : decs prog_1_method_31_code c18 = true := by decide +kernel
theorem d18 (k : Nat) {p : Nat} {i : Instr} {n : Nat} (h : c18[k]? = some (p, i, n)) : decode prog_1_method_31_code p = .ok (i, n) := dget D18 h
def c21 : List (Nat × Instr × Nat) := [(0, .bipush 16, 2), (2, .iload_n 1, 1), (3, .ishr, 1), (4, .ireturn, 1)]
theorem D21 : decs prog_1_method_3_code c21 = true := by decide +kernel
theorem d21 (k : Nat) {p : Nat} {i : Instr} {n : Nat} (h : c21[k]? = some (p, i, n)) : decode prog_1_method_3_code p = .ok (i, n) := dget D21 h
def c26 : List (Nat × Instr × Nat) := [(0, .iconst 0, 1), (1, .istore_n 3, 1), (2, .iconst 0, 1), (3, .istore 4, 2), (5, .iload 4, 2), (7, .iload_n 2, 1), (8, .if_icmp .ge 21, 3), (11, .iload_n 1, 1), (12, .iload 4, 2), (14, .iushr, 1), (15, .iconst 1, 1), (16, .iand, 1), (17, .ifCond .ne 6, 3), (20, .iinc 3 1, 3), (23, .iinc 4 1, 3), (26, .goto (-21), 3), (29, .iload_n 3, 1), (30, .ireturn, 1)]
theorem D26 : decs prog_1_method_8_code c26 = true := by decide +kernel
theorem d26 (k : Nat) {p : Nat} {i : Instr} {n : Nat} (h : c26[k]? = some (p, i, n)) : decode prog_1_method_8_code p = .ok (i, n) := dget D26 h
def c20 : List (Nat × Instr × Nat) := [(0, .aload_n 0, 1), (1, .iload_n 1, 1), (2, .invokevirtual 38, 3), (5, .istore_n 2, 1), (6, .iconst 0, 1), (7, .istore_n 3, 1), (8, .iload_n 3, 1), (9, .aload_n 0, 1), (10, .getfield 26, 3), (13, .if_icmp .ge 43, 3), (16, .aload_n 0, 1), (17, .getfield 7, 3), (20, .iload_n 3, 1), (21, .iaload, 1), (22, .iload_n 1, 1), (23, .if_icmp .ne 27, 3), (26, .aload_n 0, 1), (27, .aload_n 0, 1), (28, .getfield 13, 3), (31, .iload_n 3, 1), (32, .iaload, 1), (33, .invokevirtual 42, 3), (36, .istore 4, 2), (38, .aload_n 0, 1), (39, .iload 4, 2), (41, .iload_n 2, 1), (42, .invokevirtual 45, 3), (45, .ifCond .le 5, 3), (48, .iload_n 3, 1), (49, .ireturn, 1), (50, .iinc 3 1, 3), (53, .goto (-45), 3), (56, .iconst (-1), 1), (57, .ireturn, 1)]
theorem D20 : decs prog_1_method_11_code c20 = true := by decide +kernel
theorem d20 (k : Nat) {p : Nat} {i : Instr} {n : Nat} (h : c20[k]? = some (p, i, n)) : decode prog_1_method_11_code p = .ok (i, n) := dget D20 h
def c22 : List (Nat × Instr × Nat) := [(0, .iconst 0, 1), (1, .istore_n 1, 1), (2, .iload_n 1, 1), (3, .aload_n 0, 1), (4, .getfield 26, 3), (7, .if_icmp .ge 21, 3), (10, .aload_n 0, 1), (11, .getfield 7, 3), (14, .iload_n 1, 1), (15, .iaload, 1), (16, .iconst (-1), 1), (17, .if_icmp .ne 5, 3), (20, .iload_n 1, 1), (21, .ireturn, 1), (22, .iinc 1 1, 3), (25, .goto (-23), 3), (28, .iconst (-1), 1), (29, .ireturn, 1)]
theorem D22 : decs prog_1_method_12_code c22 = true := by decide +kernel
theorem d22 (k : Nat) {p : Nat} {i : Instr} {n : Nat} (h : c22[k]? = some (p, i, n)) : decode prog_1_method_12_code p = .ok (i, n) := dget D22 h
def c23 : List (Nat × Instr × Nat) := [(0, .iconst 0, 1), (1, .istore_n 1, 1), (2, .iload_n 1, 1), (3, .aload_n 0, 1), (4, .getfield 30, 3), (7, .if_icmp .ge 20, 3), (10, .aload_n 0, 1), (11, .iload_n 1, 1), (12, .invokevirtual 49, 3), (15, .iconst (-1), 1), (16, .if_icmp .ne 5, 3), (19, .iload_n 1, 1), (20, .ireturn, 1), (21, .iinc 1 1, 3), (24, .goto (-22), 3), (27, .iconst (-1), 1), (28, .ireturn, 1)]
theorem D23 : decs prog_1_method_13_code c23 = true := by decide +kernel
theorem d23 (k : Nat) {p : Nat} {i : Instr} {n : Nat} (h : c23[k]? = some (p, i, n)) : decode prog_1_method_13_code p = .ok (i, n) := dget D23 h
def c27 : List (Nat × Instr × Nat) := [(0, .aload_n 0, 1), (1, .aload_n 0, 1), (2, .getfield 34, 3), (5, .ldc 37, 2), (7, .imul, 1), (8, .sipush 12345, 3), (11, .iadd, 1), (12, .putfield 34, 3), (15, .aload_n 0, 1), (16, .getfield 34, 3), (19, .bipush 16, 2), (21, .iushr, 1), (22, .sipush 32767, 3), (25, .iand, 1), (26, .ireturn, 1)]
theorem D27 : decs prog_1_method_5_code c27 = true := by decide +kernel
theorem d27 (k : Nat) {p : Nat} {i : Instr} {n : Nat} (h : c27[k]? = some (p, i, n)) : decode prog_1_method_5_code p = .ok (i, n) := dget D27 h
def c28 : List (Nat × Instr × Nat) := [(0, .iload_n 3, 1), (1, .istore 4, 2), (3, .iconst 0, 1), (4, .istore 5, 2), (6, .iload 5, 2), (8, .iload_n 2, 1), (9, .if_icmp .ge 29, 3), (12, .iload_n 1, 1), (13, .iload 5, 2), (15, .iushr, 1), (16, .iconst 1, 1), (17, .iand, 1), (18, .ifCond .ne 14, 3), (21, .iload 4, 2), (23, .ifCond .ne 6, 3), (26, .iload 5, 2), (28, .ireturn, 1), (29, .iinc 4 (-1), 3), (32, .iinc 5 1, 3), (35, .goto (-29), 3), (38, .iconst 0, 1), (39, .ireturn, 1)]
theorem D28 : decs prog_1_method_9_code c28 = true := by decide +kernel
theorem d28 (k : Nat) {p : Nat} {i : Instr} {n : Nat} (h : c28[k]? = some (p, i, n)) : decode prog_1_method_9_code p = .ok (i, n) := dget D28 h
def c24 : List (Nat × Instr × Nat) := [(0, .aload_n 0, 1), (1, .iload_n 2, 1), (2, .invokevirtual 38, 3), (5, .istore_n 3, 1), (6, .aload_n 0, 1), (7, .iload_n 2, 1), (8, .invokevirtual 65, 3), (11, .istore 4, 2), (13, .aload_n 0, 1), (14, .getfield 13, 3), (17, .iload_n 1, 1), (18, .iaload, 1), (19, .istore 5, 2), (21, .aload_n 0, 1), (22, .iload 5, 2), (24, .invokevirtual 42, 3), (27, .istore 6, 2), (29, .aload_n 0, 1), (30, .iload 6, 2), (32, .iload_n 3, 1), (33, .invokevirtual 45, 3), (36, .istore 7, 2), (38, .iload 7, 2), (40, .iconst 1, 1), (41, .if_icmp .ge 6, 3), (44, .iconst 1, 1), (45, .istore 7, 2), (47, .aload_n 0, 1), (48, .invokevirtual 68, 3), (51, .istore 8, 2), (53, .aload_n 0, 1), (54, .iload 6, 2), (56, .iload_n 3, 1), (57, .iload 8, 2), (59, .iload 7, 2), (61, .irem, 1), (62, .invokevirtual 71, 3), (65, .istore 9, 2), (67, .aload_n 0, 1), (68, .getfield 16, 3), (71, .iload_n 1, 1), (72, .dup2, 1), (73, .iaload, 1), (74, .iconst 1, 1), (75, .iload 9, 2), (77, .ishl, 1), (78, .ior, 1), (79, .iastore, 1), (80, .iload 5, 2), (82, .bipush 16, 2), (84, .imul, 1), (85, .iload 9, 2), (87, .iload 4, 2), (89, .imul, 1), (90, .iadd, 1), (91, .istore 10, 2), (93, .iconst 0, 1), (94, .istore 11, 2), (96, .iload 11, 2), (98, .iload 4, 2), (100, .if_icmp .ge 37, 3), (103, .iload 10, 2), (105, .iload 11, 2), (107, .iadd, 1), (108, .istore 12, 2), (110, .iload 12, 2), (112, .ifCond .lt 19, 3), (115, .iload 12, 2), (117, .sipush 256, 3), (120, .if_icmp .ge 11, 3), (123, .aload_n 0, 1), (124, .getfield 19, 3), (127, .iload 12, 2), (129, .iconst 0, 1), (130, .iastore, 1), (131, .iinc 11 1, 3), (134, .goto (-38), 3), (137, .iload_n 1, 1), (138, .bipush 16, 2), (140, .imul, 1), (141, .iload 9, 2), (143, .iload 4, 2), (145, .imul, 1), (146, .iadd, 1), (147, .ireturn, 1)]
theorem D24 : decs prog_1_method_15_code c24 = true := by decide +kernel
theorem d24 (k : Nat) {p : Nat} {i : Instr} {n : Nat} (h : c24[k]? = some (p, i, n)) : decode prog_1_method_15_code p = .ok (i, n) := dget D24 h
def c19 : List (Nat × Instr × Nat) := [(0, .iload_n 1, 1), (1, .ifCond .lt 8, 3), (4, .iload_n 1, 1), (5, .iconst 2, 1), (6, .if_icmp .le 5, 3), (9, .iconst (-1), 1), (10, .ireturn, 1), (11, .aload_n 0, 1), (12, .iload_n 1, 1), (13, .invokevirtual 52, 3), (16, .istore_n 2, 1), (17, .iload_n 2, 1), (18, .ifCond .ge 48, 3), (21, .aload_n 0, 1), (22, .invokevirtual 55, 3), (25, .istore_n 2, 1), (26, .iload_n 2, 1), (27, .ifCond .ge 6, 3), (30, .bipush (-2), 2), (32, .ireturn, 1), (33, .aload_n 0, 1), (34, .invokevirtual 59, 3), (37, .istore_n 3, 1), (38, .iload_n 3, 1), (39, .ifCond .ge 6, 3), (42, .bipush (-3), 2), (44, .ireturn, 1), (45, .aload_n 0, 1), (46, .getfield 7, 3), (49, .iload_n 2, 1), (50, .iload_n 1, 1), (51, .iastore, 1), (52, .aload_n 0, 1), (53, .getfield 13, 3), (56, .iload_n 2, 1), (57, .iload_n 3, 1), (58, .iastore, 1), (59, .aload_n 0, 1), (60, .getfield 16, 3), (63, .iload_n 2, 1), (64, .iconst 0, 1), (65, .iastore, 1), (66, .aload_n 0, 1), (67, .iload_n 2, 1), (68, .iload_n 1, 1), (69, .invokevirtual 62, 3), (72, .ireturn, 1)]
theorem D19 : decs prog_1_method_14_code c19 = true := by decide +kernel
theorem d19 (k : Nat) {p : Nat} {i : Instr} {n : Nat} (h : c19[k]? = some (p, i, n)) : decode prog_1_method_14_code p = .ok (i, n) := dget D19 h
def c31 : List (Nat × Instr × Nat) := [(0, .aload_n 0, 1), (1, .iload_n 1, 1), (2, .invokevirtual 74, 3), (5, .istore_n 3, 1), (6, .iload_n 3, 1), (7, .ifCond .ge 5, 3), (10, .iconst 0, 1), (11, .ireturn, 1), (12, .aload_n 0, 1), (13, .getfield 19, 3), (16, .iload_n 3, 1), (17, .iload_n 2, 1), (18, .iastore, 1), (19, .iconst 1, 1), (20, .ireturn, 1)]
theorem D31 : decs prog_1_method_18_code c31 = true := by decide +kernel
theorem d31 (k : Nat) {p : Nat} {i : Instr} {n : Nat} (h : c31[k]? = some (p, i, n)) : decode prog_1_method_18_code p = .ok (i, n) := dget D31 h
def c34 : List (Nat × Instr × Nat) := [(0, .iload_n 1, 1), (1, .ifCond .lt 14, 3), (4, .iload_n 1, 1), (5, .aload_n 0, 1), (6, .getfield 26, 3), (9, .bipush 16, 2), (11, .imul, 1), (12, .if_icmp .lt 5, 3), (15, .iconst 0, 1), (16, .ireturn, 1), (17, .iload_n 1, 1), (18, .bipush 16, 2), (20, .idiv, 1), (21, .istore_n 2, 1), (22, .aload_n 0, 1), (23, .getfield 7, 3), (26, .iload_n 2, 1), (27, .iaload, 1), (28, .istore_n 3, 1), (29, .iload_n 3, 1), (30, .iconst (-1), 1), (31, .if_icmp .ne 5, 3), (34, .iconst 0, 1), (35, .ireturn, 1), (36, .iload_n 1, 1), (37, .bipush 16, 2), (39, .irem, 1), (40, .istore 4, 2), (42, .aload_n 0, 1), (43, .iload_n 3, 1), (44, .invokevirtual 65, 3), (47, .istore 5, 2), (49, .iload 4, 2), (51, .iload 5, 2), (53, .irem, 1), (54, .ifCond .eq 5, 3), (57, .iconst 0, 1), (58, .ireturn, 1), (59, .iload 4, 2), (61, .iload 5, 2), (63, .idiv, 1), (64, .istore 6, 2), (66, .aload_n 0, 1), (67, .getfield 16, 3), (70, .iload_n 2, 1), (71, .iaload, 1), (72, .iload 6, 2), (74, .iushr, 1), (75, .iconst 1, 1), (76, .iand, 1), (77, .ifCond .ne 5, 3), (80, .iconst 0, 1), (81, .ireturn, 1), (82, .aload_n 0, 1), (83, .getfield 16, 3), (86, .iload_n 2, 1), (87, .dup2, 1), (88, .iaload, 1), (89, .iconst 1, 1), (90, .iload 6, 2), (92, .ishl, 1), (93, .iconst (-1), 1), (94, .ixor, 1), (95, .iand, 1), (96, .iastore, 1), (97, .aload_n 0, 1), (98, .getfield 16, 3), (101, .iload_n 2, 1), (102, .iaload, 1), (103, .ifCond .ne 17, 3), (106, .aload_n 0, 1), (107, .getfield 7, 3), (110, .iload_n 2, 1), (111, .iconst (-1), 1), (112, .iastore, 1), (113, .aload_n 0, 1), (114, .getfield 13, 3), (117, .iload_n 2, 1), (118, .iconst (-1), 1), (119, .iastore, 1), (120, .iconst 1, 1), (121, .ireturn, 1)]
theorem D34 : decs prog_1_method_16_code c34 = true := by decide +kernel
theorem d34 (k : Nat) {p : Nat} {i : Instr} {n : Nat} (h : c34[k]? = some (p, i, n)) : decode prog_1_method_16_code p = .ok (i, n) := dget D34 h
def c37 : List (Nat × Instr × Nat) := [(0, .aload_n 0, 1), (1, .iload_n 3, 1), (2, .invokevirtual 38, 3), (5, .istore 5, 2), (7, .aload_n 0, 1), (8, .iload_n 3, 1), (9, .invokevirtual 65, 3), (12, .istore 6, 2), (14, .iconst 0, 1), (15, .istore 7, 2), (17, .iload 7, 2), (19, .iload 5, 2), (21, .if_icmp .ge 69, 3), (24, .iload 4, 2), (26, .iload 7, 2), (28, .iushr, 1), (29, .iconst 1, 1), (30, .iand, 1), (31, .ifCond .eq 53, 3), (34, .iconst 0, 1), (35, .istore 8, 2), (37, .iload 8, 2), (39, .iload 6, 2), (41, .if_icmp .ge 43, 3), (44, .iload 7, 2), (46, .iload 6, 2), (48, .imul, 1), (49, .iload 8, 2), (51, .iadd, 1), (52, .istore 9, 2), (54, .aload_n 0, 1), (55, .getfield 19, 3), (58, .iload_n 1, 1), (59, .bipush 16, 2), (61, .imul, 1), (62, .iload 9, 2), (64, .iadd, 1), (65, .aload_n 0, 1), (66, .getfield 19, 3), (69, .iload_n 2, 1), (70, .bipush 16, 2), (72, .imul, 1), (73, .iload 9, 2), (75, .iadd, 1), (76, .iaload, 1), (77, .iastore, 1), (78, .iinc 8 1, 3), (81, .goto (-44), 3), (84, .iinc 7 1, 3), (87, .goto (-70), 3), (90, .iconst 0, 1), (91, .istore 7, 2), (93, .iload 7, 2), (95, .aload_n 0, 1), (96, .getfield 26, 3), (99, .if_icmp .ge 39, 3), (102, .aload_n 0, 1), (103, .getfield 7, 3), (106, .iload 7, 2), (108, .iaload, 1), (109, .iconst (-1), 1), (110, .if_icmp .eq 22, 3), (113, .aload_n 0, 1), (114, .getfield 13, 3), (117, .iload 7, 2), (119, .iaload, 1), (120, .iload_n 2, 1), (121, .if_icmp .ne 11, 3), (124, .aload_n 0, 1), (125, .getfield 13, 3), (128, .iload 7, 2), (130, .iload_n 1, 1), (131, .iastore, 1), (132, .iinc 7 1, 3), (135, .goto (-42), 3), (138, .return_, 1)]
theorem D37 : decs prog_1_method_23_code c37 = true := by decide +kernel
theorem d37 (k : Nat) {p : Nat} {i : Instr} {n : Nat} (h : c37[k]? = some (p, i, n)) : decode prog_1_method_23_code p = .ok (i, n) := dget D37 h
def c36 : List (Nat × Instr × Nat) := [(0, .iconst 0, 1), (1, .istore_n 3, 1), (2, .iload_n 1, 1), (3, .iconst 1, 1), (4, .iadd, 1), (5, .istore 4, 2), (7, .iload 4, 2), (9, .aload_n 0, 1), (10, .getfield 30, 3), (13, .if_icmp .ge 55, 3), (16, .aload_n 0, 1), (17, .iload 4, 2), (19, .invokevirtual 49, 3), (22, .iload_n 2, 1), (23, .if_icmp .ne 39, 3), (26, .aload_n 0, 1), (27, .iload_n 1, 1), (28, .invokevirtual 42, 3), (31, .istore 5, 2), (33, .aload_n 0, 1), (34, .iload 4, 2), (36, .invokevirtual 42, 3), (39, .istore 6, 2), (41, .iload 5, 2), (43, .iload 6, 2), (45, .iand, 1), (46, .ifCond .ne 16, 3), (49, .aload_n 0, 1), (50, .iload_n 1, 1), (51, .iload 4, 2), (53, .iload_n 2, 1), (54, .iload 6, 2), (56, .invokevirtual 80, 3), (59, .iinc 3 1, 3), (62, .iinc 4 1, 3), (65, .goto (-58), 3), (68, .iload_n 3, 1), (69, .ireturn, 1)]
theorem D36 : decs prog_1_method_22_code c36 = true := by decide +kernel
theorem d36 (k : Nat) {p : Nat} {i : Instr} {n : Nat} (h : c36[k]? = some (p, i, n)) : decode prog_1_method_22_code p = .ok (i, n) := dget D36 h
def c35 : List (Nat × Instr × Nat) := [(0, .iconst 0, 1), (1, .istore_n 1, 1), (2, .iconst 0, 1), (3, .istore_n 2, 1), (4, .iload_n 2, 1), (5, .iconst 2, 1), (6, .if_icmp .gt 43, 3), (9, .iconst 0, 1), (10, .istore_n 3, 1), (11, .iload_n 3, 1), (12, .aload_n 0, 1), (13, .getfield 30, 3), (16, .if_icmp .ge 27, 3), (19, .aload_n 0, 1), (20, .iload_n 3, 1), (21, .invokevirtual 49, 3), (24, .iload_n 2, 1), (25, .if_icmp .ne 12, 3), (28, .iload_n 1, 1), (29, .aload_n 0, 1), (30, .iload_n 3, 1), (31, .iload_n 2, 1), (32, .invokevirtual 77, 3), (35, .iadd, 1), (36, .istore_n 1, 1), (37, .iinc 3 1, 3), (40, .goto (-29), 3), (43, .iinc 2 1, 3), (46, .goto (-42), 3), (49, .iload_n 1, 1), (50, .ireturn, 1)]
theorem D35 : decs prog_1_method_21_code c35 = true := by decide +kernel
theorem d35 (k : Nat) {p : Nat} {i : Instr} {n : Nat} (h : c35[k]? = some (p, i, n)) : decode prog_1_method_21_code p = .ok (i, n) := dget D35 h
def H0 (sn : Nat) (sf : Nat → Int32) : MHeap := [.inr (false, tab sn sf)]
def KL (sn : Nat) (sf : Nat → Int32) (s : St) : MHeap := KH flds al Ln (H0 sn sf) [] s
def f_hcell (sn : Nat) (sf : Nat → Int32) (a1 : Int32) : Option (Int32) :=
  if a1 < sn.toInt32 then
    grd (inb a1 sn) <|
    some (sf (ix a1))
  else
    some (0 : Int32)
set_option maxRecDepth 100000 in
theorem e_hcell {g : GT} {sn : Nat} {sf : Nat → Int32} {a1 : Int32} {w : Int32} (hw : HW g) {h : MHeap} (hs : h[0]? = some (.inr (false, tab sn sf))) (hr : f_hcell sn sf a1 = some w) : EvC (GG g) M_hcell [.ref 0, .int a1] h ((some (.int w)), h) := by
  refine EvC.enter (L0 := [.val (.ref 0), .val (.int a1)]) pl_hcell (fun h => nomatch h) rfl rfl ?_
  unfold f_hcell at hr
  refine Ev.iloadN (d0 0 rfl) rfl ?_
  refine Ev.aloadN (d0 1 rfl) rfl ?_
  refine Ev.sln hs (d0 2 rfl) ?_
  refine Ev.icge (t := 12) (d0 3 rfl) rfl (fun c1 => ?_) (fun c1 => ?_)
  · replace hr := (if_pos c1).symm.trans hr
    refine Ev.aloadN (d0 4 rfl) rfl ?_
    refine Ev.iloadN (d0 5 rfl) rfl ?_
    obtain ⟨b2, hr⟩ := grd_some hr
    refine Ev.sal hs (d0 6 rfl) b2 ?_
    refine Ev.goto (t := 13) (d0 7 rfl) rfl ?_
    cases hr
    exact Ev.ireturn rfl (d0 9 rfl)
  · replace hr := (if_neg c1).symm.trans hr
    refine Ev.iconst (z := 0) (d0 8 rfl) rfl ?_
    cases hr
    exact Ev.ireturn rfl (d0 9 rfl)
def f_clamp (s : St) (a0 : Int32) (a1 : Int32) (a2 : Int32) : Option (Int32) :=
  if a0 < a1 then
    some a1
  else
    if a2 < a0 then
      some a2
    else
      some a0
set_option maxRecDepth 100000 in
theorem e_clamp {g : GT} {s : St} {a0 : Int32} {a1 : Int32} {a2 : Int32} {w : Int32} (hw : HW g) {K : St → MHeap} {o : Nat} {r : Nat → Nat} (V : View (GG g) Ln K o r) (hr : f_clamp s a0 a1 a2 = some w) : EvC (GG g) M_clamp [.ref o, .int a0, .int a1, .int a2] (K s) ((some (.int w)), (K s)) := by
  refine EvC.enter (L0 := [.val (.ref o), .val (.int a0), .val (.int a1), .val (.int a2)]) pl_clamp (fun h => nomatch h) rfl rfl ?_
  unfold f_clamp at hr
  refine Ev.iloadN (d3 0 rfl) rfl ?_
  refine Ev.iloadN (d3 1 rfl) rfl ?_
  refine Ev.icge (t := 7) (d3 2 rfl) rfl (fun c1 => ?_) (fun c1 => ?_)
  · replace hr := (if_pos c1).symm.trans hr
    refine Ev.iloadN (d3 3 rfl) rfl ?_
    cases hr
    exact Ev.ireturn rfl (d3 4 rfl)
  · replace hr := (if_neg c1).symm.trans hr
    refine Ev.iloadN (d3 5 rfl) rfl ?_
    refine Ev.iloadN (d3 6 rfl) rfl ?_
    refine Ev.icle (t := 14) (d3 7 rfl) rfl (fun c2 => ?_) (fun c2 => ?_)
    · replace hr := (if_pos c2).symm.trans hr
      refine Ev.iloadN (d3 8 rfl) rfl ?_
      cases hr
      exact Ev.ireturn rfl (d3 9 rfl)
    · replace hr := (if_neg c2).symm.trans hr
      refine Ev.iloadN (d3 10 rfl) rfl ?_
      cases hr
      exact Ev.ireturn rfl (d3 11 rfl)
def f_ctor_76 (n : Nat) : Nat → Int32 → St → Option (St)
  | 0 => fun _ _ => none
  | k + 1 => fun x4 s =>
    if x4 < (16 : Int32) then
      grd (inb x4 16) <|
      bnd (setA s 0 (ix x4) (-1 : Int32)) fun s3 =>
      bnd (setA s3 1 (ix x4) (-1 : Int32)) fun s4 =>
      bnd (setA s4 2 (ix x4) (0 : Int32)) fun s5 =>
      f_ctor_76 n k (x4 + (1 : Int32)) s5
    else
      some s
set_option maxRecDepth 100000 in
theorem e_ctor_76 {g : GT} {n : Nat} (hw : HW g) {K : St → MHeap} {o : Nat} {r : Nat → Nat} (V : View (GG g) Ln K o r) (k : Nat) : ∀ (x4 : Int32) (s : St) (y1 : Slot) (hy1 : one1 y1 = true) (y2 : Slot) (hy2 : one1 y2 = true) (y3 : Slot) (hy3 : one1 y3 = true) (w : St), f_ctor_76 n k x4 s = some w → Ev (GG g) M_ctor 76 [.val (.ref o), y1, y2, y3, .val (.int x4)] [] (K s) (none, (K w)) := by
  induction k with
  | zero => intro x4 s y1 hy1 y2 hy2 y3 hy3 w hr; rw [f_ctor_76] at hr; cases hr
  | succ k ih =>
    intro x4 s y1 hy1 y2 hy2 y3 hy3 w hr
    rw [f_ctor_76] at hr
    refine Ev.iload (d1 41 rfl) rfl ?_
    refine Ev.bipush (z := 16) (d1 42 rfl) rfl ?_
    refine Ev.icge (t := 113) (d1 43 rfl) rfl (fun c1 => ?_) (fun c1 => ?_)
    · replace hr := (if_pos c1).symm.trans hr
      refine Ev.aloadN (d1 44 rfl) rfl ?_
      refine Ev.gAr V (ww hw 15 rfl) (d1 45 rfl) (j := 0) rfl ?_
      refine Ev.iload (d1 46 rfl) rfl ?_
      refine Ev.iconst (z := -1) (d1 47 rfl) rfl ?_
      obtain ⟨b2, hr⟩ := grd_some hr
      refine Ev.ias V (j := 0) rfl rfl (d1 48 rfl) b2 ?_
      revert hr
      generalize setA s 0 (ix x4) (-1 : Int32) = s3
      intro hr
      replace hr := (bnd_eq _ _).symm.trans hr
      refine Ev.aloadN (d1 49 rfl) rfl ?_
      refine Ev.gAr V (ww hw 17 rfl) (d1 50 rfl) (j := 1) rfl ?_
      refine Ev.iload (d1 51 rfl) rfl ?_
      refine Ev.iconst (z := -1) (d1 52 rfl) rfl ?_
      refine Ev.ias V (j := 1) rfl rfl (d1 53 rfl) b2 ?_
      revert hr
      generalize setA s3 1 (ix x4) (-1 : Int32) = s4
      intro hr
      replace hr := (bnd_eq _ _).symm.trans hr
      refine Ev.aloadN (d1 54 rfl) rfl ?_
      refine Ev.gAr V (ww hw 19 rfl) (d1 55 rfl) (j := 2) rfl ?_
      refine Ev.iload (d1 56 rfl) rfl ?_
      refine Ev.iconst (z := 0) (d1 57 rfl) rfl ?_
      refine Ev.ias V (j := 2) rfl rfl (d1 58 rfl) b2 ?_
      revert hr
      generalize setA s4 2 (ix x4) (0 : Int32) = s5
      intro hr
      replace hr := (bnd_eq _ _).symm.trans hr
      refine Ev.iinc (z := 1) (L' := [.val (.ref o), y1, y2, y3, .val (.int (x4 + (1 : Int32)))]) (d1 59 rfl) rfl rfl rfl ?_
      refine Ev.goto (t := 76) (d1 60 rfl) rfl ?_
      exact ih (x4 + (1 : Int32)) s5 y1 hy1 y2 hy2 y3 hy3 _ hr
    · replace hr := (if_neg c1).symm.trans hr
      cases hr
      exact Ev.vreturn rfl (d1 61 rfl)
def f_ctor_37 (n : Nat) (x1 : Int32) (x2 : Int32) (x3 : Int32) (s : St) : Option (St) :=
  (f_clamp s x1 (2 : Int32) (16 : Int32)).bind fun q1 =>
  bnd (setI s 4 q1) fun s3 =>
  (f_clamp s3 x2 (1 : Int32) (16 : Int32)).bind fun q4 =>
  bnd (setI s3 5 q4) fun s6 =>
  (f_clamp s6 x3 (0 : Int32) (65535 : Int32)).bind fun q7 =>
  bnd (setI s6 6 q7) fun s9 =>
  f_ctor_76 n n (0 : Int32) s9
set_option maxRecDepth 100000 in
theorem e_ctor_37 {g : GT} {n : Nat} (hw : HW g) {K : St → MHeap} {o : Nat} {r : Nat → Nat} (V : View (GG g) Ln K o r) (x1 : Int32) (x2 : Int32) (x3 : Int32) (s : St) (y4 : Slot) (hy4 : one1 y4 = true) (w : St) (hr : f_ctor_37 n x1 x2 x3 s = some w) : Ev (GG g) M_ctor 37 [.val (.ref o), .val (.int x1), .val (.int x2), .val (.int x3), y4] [] (K s) (none, (K w)) := by
  unfold f_ctor_37 at hr
  refine Ev.aloadN (d1 18 rfl) rfl ?_
  refine Ev.aloadN (d1 19 rfl) rfl ?_
  refine Ev.iloadN (d1 20 rfl) rfl ?_
  refine Ev.iconst (z := 2) (d1 21 rfl) rfl ?_
  refine Ev.bipush (z := 16) (d1 22 rfl) rfl ?_
  obtain ⟨q1, hq2, hr⟩ := Option.bind_eq_some_iff.mp hr
  refine Ev.priv (y := M_clamp) (args := [.int x1, .int (2 : Int32), .int (16 : Int32)]) (rest := [.ref o]) (gok hw) rfl nm_clamp (ww hw 23 rfl) (ww hw 24 rfl) (ww hw 25 rfl) (ww hw 26 rfl) (lenOf pd_clamp rfl) (d1 23 rfl) (V.2.1 s) (e_clamp hw V hq2) (by decide) (Nat.le_of_ble_eq_true rfl) rfl ?_
  refine Ev.pI V (gok hw) (ww hw 27 rfl) (Or.inl (ww hw 28 rfl)) (d1 24 rfl) (j := 4) rfl ?_
  revert hr
  generalize setI s 4 q1 = s3
  intro hr
  replace hr := (bnd_eq _ _).symm.trans hr
  refine Ev.aloadN (d1 25 rfl) rfl ?_
  refine Ev.aloadN (d1 26 rfl) rfl ?_
  refine Ev.iloadN (d1 27 rfl) rfl ?_
  refine Ev.iconst (z := 1) (d1 28 rfl) rfl ?_
  refine Ev.bipush (z := 16) (d1 29 rfl) rfl ?_
  obtain ⟨q4, hq5, hr⟩ := Option.bind_eq_some_iff.mp hr
  refine Ev.priv (y := M_clamp) (args := [.int x2, .int (1 : Int32), .int (16 : Int32)]) (rest := [.ref o]) (gok hw) rfl nm_clamp (ww hw 23 rfl) (ww hw 24 rfl) (ww hw 25 rfl) (ww hw 26 rfl) (lenOf pd_clamp rfl) (d1 30 rfl) (V.2.1 s3) (e_clamp hw V hq5) (by decide) (Nat.le_of_ble_eq_true rfl) rfl ?_
  refine Ev.pI V (gok hw) (ww hw 29 rfl) (Or.inl (ww hw 30 rfl)) (d1 31 rfl) (j := 5) rfl ?_
  revert hr
  generalize setI s3 5 q4 = s6
  intro hr
  replace hr := (bnd_eq _ _).symm.trans hr
  refine Ev.aloadN (d1 32 rfl) rfl ?_
  refine Ev.aloadN (d1 33 rfl) rfl ?_
  refine Ev.iloadN (d1 34 rfl) rfl ?_
  refine Ev.iconst (z := 0) (d1 35 rfl) rfl ?_
  refine Ev.ldc (ww hw 31 rfl) (d1 36 rfl) ?_
  obtain ⟨q7, hq8, hr⟩ := Option.bind_eq_some_iff.mp hr
  refine Ev.priv (y := M_clamp) (args := [.int x3, .int (0 : Int32), .int (65535 : Int32)]) (rest := [.ref o]) (gok hw) rfl nm_clamp (ww hw 23 rfl) (ww hw 24 rfl) (ww hw 25 rfl) (ww hw 26 rfl) (lenOf pd_clamp rfl) (d1 37 rfl) (V.2.1 s6) (e_clamp hw V hq8) (by decide) (Nat.le_of_ble_eq_true rfl) rfl ?_
  refine Ev.pI V (gok hw) (ww hw 32 rfl) (Or.inl (ww hw 33 rfl)) (d1 38 rfl) (j := 6) rfl ?_
  revert hr
  generalize setI s6 6 q7 = s9
  intro hr
  replace hr := (bnd_eq _ _).symm.trans hr
  refine Ev.iconst (z := 0) (d1 39 rfl) rfl ?_
  refine Ev.istD (L' := [.val (.ref o), .val (.int x1), .val (.int x2), .val (.int x3), .val (.int (0 : Int32))]) (d1 40 rfl) rfl hy4 rfl ?_
  exact e_ctor_76 hw V  n (0 : Int32) s9 (.val (.int x1)) rfl (.val (.int x2)) rfl (.val (.int x3)) rfl _ hr
def f_ctor (n : Nat) (a0 : Int32) (a1 : Int32) (a2 : Int32) : Option (St) :=
  f_ctor_37 n a0 a1 a2 zeroS
set_option maxRecDepth 100000 in
theorem e_ctor {g : GT} {n : Nat} {a0 : Int32} {a1 : Int32} {a2 : Int32} {w : St} (hw : HW g) {pre : MHeap} (hk : k0 (GG g) ≤ pre.length) (hr : f_ctor n a0 a1 a2 = some w) : EvC (GG g) M_ctor [.ref pre.length, .int a0, .int a1, .int a2] (pre ++ [.inl dfl]) (none, KH flds al Ln pre [] w) := by
  refine EvC.enter (L0 := [.val (.ref pre.length), .val (.int a0), .val (.int a1), .val (.int a2), .unset]) pl_ctor (fun _ => rfl) rfl rfl ?_
  unfold f_ctor at hr
  refine Ev.aloadN (d1 0 rfl) rfl ?_
  refine Ev.initO (ww hw 11 rfl) (ww hw 12 rfl) (ww hw 13 rfl) (d1 1 rfl) (by decide) (Nat.le_of_ble_eq_true rfl) ?_
  show Ev (GG g) M_ctor 4 _ _ (cons pre dfl []) _
  refine Ev.aloadN (d1 2 rfl) rfl ?_
  refine Ev.bipush (z := 16) (d1 3 rfl) rfl ?_
  refine Ev.cnew (aty := .int) (b := false) (k := 16) (q := 0) (as' := [(false, tab 16 (fun _ => 0))]) (ww hw 14 rfl) rfl (d1 4 rfl) (by decide) rfl (by decide) rfl rfl ?_
  refine Ev.cput (v' := .ref (pre.length + 1 + 0)) (fs' := [.ref (pre.length + 1 + 0), .null, .null, .null, .int 0, .int 0, .int 0]) (gok hw) hk (ww hw 15 rfl) (Or.inl (ww hw 16 rfl)) (d1 5 rfl) (j := 0) rfl rfl rfl ?_
  refine Ev.aloadN (d1 6 rfl) rfl ?_
  refine Ev.bipush (z := 16) (d1 7 rfl) rfl ?_
  refine Ev.cnew (aty := .int) (b := false) (k := 16) (q := 1) (as' := [(false, tab 16 (fun _ => 0)), (false, tab 16 (fun _ => 0))]) (ww hw 14 rfl) rfl (d1 8 rfl) (by decide) rfl (by decide) rfl rfl ?_
  refine Ev.cput (v' := .ref (pre.length + 1 + 1)) (fs' := [.ref (pre.length + 1 + 0), .ref (pre.length + 1 + 1), .null, .null, .int 0, .int 0, .int 0]) (gok hw) hk (ww hw 17 rfl) (Or.inl (ww hw 18 rfl)) (d1 9 rfl) (j := 1) rfl rfl rfl ?_
  refine Ev.aloadN (d1 10 rfl) rfl ?_
  refine Ev.bipush (z := 16) (d1 11 rfl) rfl ?_
  refine Ev.cnew (aty := .int) (b := false) (k := 16) (q := 2) (as' := [(false, tab 16 (fun _ => 0)), (false, tab 16 (fun _ => 0)), (false, tab 16 (fun _ => 0))]) (ww hw 14 rfl) rfl (d1 12 rfl) (by decide) rfl (by decide) rfl rfl ?_
  refine Ev.cput (v' := .ref (pre.length + 1 + 2)) (fs' := [.ref (pre.length + 1 + 0), .ref (pre.length + 1 + 1), .ref (pre.length + 1 + 2), .null, .int 0, .int 0, .int 0]) (gok hw) hk (ww hw 19 rfl) (Or.inl (ww hw 20 rfl)) (d1 13 rfl) (j := 2) rfl rfl rfl ?_
  refine Ev.aloadN (d1 14 rfl) rfl ?_
  refine Ev.sipush (z := 256) (d1 15 rfl) rfl ?_
  refine Ev.cnew (aty := .int) (b := false) (k := 256) (q := 3) (as' := [(false, tab 16 (fun _ => 0)), (false, tab 16 (fun _ => 0)), (false, tab 16 (fun _ => 0)), (false, tab 256 (fun _ => 0))]) (ww hw 14 rfl) rfl (d1 16 rfl) (by decide) rfl (by decide) rfl rfl ?_
  refine Ev.cput (v' := .ref (pre.length + 1 + 3)) (fs' := [.ref (pre.length + 1 + 0), .ref (pre.length + 1 + 1), .ref (pre.length + 1 + 2), .ref (pre.length + 1 + 3), .int 0, .int 0, .int 0]) (gok hw) hk (ww hw 21 rfl) (Or.inl (ww hw 22 rfl)) (d1 17 rfl) (j := 3) rfl rfl rfl ?_
  show Ev (GG g) M_ctor 37 [.val (.ref pre.length), .val (.int a0), .val (.int a1), .val (.int a2), .unset] [] (KH flds al Ln pre [] zeroS) _
  exact e_ctor_37 hw (K := KH flds al Ln pre []) (o := pre.length) (r := rA pre.length al) (view_of hk al_ok al_nd) a0 a1 a2 zeroS .unset rfl _ hr
def f_popCount_4 (n : Nat) (s : St) : Nat → Int32 → Int32 → Int32 → Option (Int32)
  | 0 => fun _ _ _ => none
  | k + 1 => fun x1 x2 x3 =>
    if x3 < (32 : Int32) then
      if ((XT.ushr x1 x3) &&& (1 : Int32)) = 0 then
        f_popCount_4 n s k x1 x2 (x3 + (1 : Int32))
      else
        f_popCount_4 n s k x1 (x2 + (1 : Int32)) (x3 + (1 : Int32))
    else
      some x2
set_option maxRecDepth 100000 in
theorem e_popCount_4 {g : GT} {n : Nat} {s : St} (hw : HW g) {K : St → MHeap} {o : Nat} {r : Nat → Nat} (V : View (GG g) Ln K o r) (k : Nat) : ∀ (x1 : Int32) (x2 : Int32) (x3 : Int32) (y0 : Slot) (hy0 : one1 y0 = true) (w : Int32), f_popCount_4 n s k x1 x2 x3 = some w → Ev (GG g) M_popCount 4 [y0, .val (.int x1), .val (.int x2), .val (.int x3)] [] (K s) ((some (.int w)), (K s)) := by
  induction k with
  | zero => intro x1 x2 x3 y0 hy0 w hr; rw [f_popCount_4] at hr; cases hr
  | succ k ih =>
    intro x1 x2 x3 y0 hy0 w hr
    rw [f_popCount_4] at hr
    refine Ev.iloadN (d32 4 rfl) rfl ?_
    refine Ev.bipush (z := 32) (d32 5 rfl) rfl ?_
    refine Ev.icge (t := 27) (d32 6 rfl) rfl (fun c1 => ?_) (fun c1 => ?_)
    · replace hr := (if_pos c1).symm.trans hr
      refine Ev.iloadN (d32 7 rfl) rfl ?_
      refine Ev.iloadN (d32 8 rfl) rfl ?_
      refine Ev.iushr (d32 9 rfl) ?_
      refine Ev.iconst (z := 1) (d32 10 rfl) rfl ?_
      refine Ev.iand (d32 11 rfl) ?_
      refine Ev.ifeq (t := 21) (d32 12 rfl) rfl (fun c2 => ?_) (fun c2 => ?_)
      · replace hr := (if_pos c2).symm.trans hr
        refine Ev.iinc (z := 1) (L' := [y0, .val (.int x1), .val (.int x2), .val (.int (x3 + (1 : Int32)))]) (d32 14 rfl) rfl rfl rfl ?_
        refine Ev.goto (t := 4) (d32 15 rfl) rfl ?_
        exact ih x1 x2 (x3 + (1 : Int32)) y0 hy0 _ hr
      · replace hr := (if_neg c2).symm.trans hr
        refine Ev.iinc (z := 1) (L' := [y0, .val (.int x1), .val (.int (x2 + (1 : Int32))), .val (.int x3)]) (d32 13 rfl) rfl rfl rfl ?_
        refine Ev.iinc (z := 1) (L' := [y0, .val (.int x1), .val (.int (x2 + (1 : Int32))), .val (.int (x3 + (1 : Int32)))]) (d32 14 rfl) rfl rfl rfl ?_
        refine Ev.goto (t := 4) (d32 15 rfl) rfl ?_
        exact ih x1 (x2 + (1 : Int32)) (x3 + (1 : Int32)) y0 hy0 _ hr
    · replace hr := (if_neg c1).symm.trans hr
      refine Ev.iloadN (d32 16 rfl) rfl ?_
      cases hr
      exact Ev.ireturn rfl (d32 17 rfl)
def f_popCount (n : Nat) (s : St) (a0 : Int32) : Option (Int32) :=
  f_popCount_4 n s n a0 (0 : Int32) (0 : Int32)
set_option maxRecDepth 100000 in
theorem e_popCount {g : GT} {n : Nat} {s : St} {a0 : Int32} {w : Int32} (hw : HW g) {K : St → MHeap} {o : Nat} {r : Nat → Nat} (V : View (GG g) Ln K o r) (hr : f_popCount n s a0 = some w) : EvC (GG g) M_popCount [.ref o, .int a0] (K s) ((some (.int w)), (K s)) := by
  refine EvC.enter (L0 := [.val (.ref o), .val (.int a0), .unset, .unset]) pl_popCount (fun h => nomatch h) rfl rfl ?_
  unfold f_popCount at hr
  refine Ev.iconst (z := 0) (d32 0 rfl) rfl ?_
  refine Ev.istDN (L' := [.val (.ref o), .val (.int a0), .val (.int (0 : Int32)), .unset]) (d32 1 rfl) rfl rfl rfl ?_
  refine Ev.iconst (z := 0) (d32 2 rfl) rfl ?_
  refine Ev.istDN (L' := [.val (.ref o), .val (.int a0), .val (.int (0 : Int32)), .val (.int (0 : Int32))]) (d32 3 rfl) rfl rfl rfl ?_
  exact e_popCount_4 hw V  n a0 (0 : Int32) (0 : Int32) (.val (.ref o)) rfl _ hr
def f_liveObjects_4 (n : Nat) (s : St) : Nat → Int32 → Int32 → Option (Int32)
  | 0 => fun _ _ => none
  | k + 1 => fun x1 x2 =>
    if x2 < (s.1 4) then
      grd (inb x2 16) <|
      if (s.2 0 (ix x2)) = (-1 : Int32) then
        f_liveObjects_4 n s k x1 (x2 + (1 : Int32))
      else
        (f_popCount n s (s.2 2 (ix x2))).bind fun q4 =>
        f_liveObjects_4 n s k (x1 + q4) (x2 + (1 : Int32))
    else
      some x1
set_option maxRecDepth 100000 in
theorem e_liveObjects_4 {g : GT} {n : Nat} {s : St} (hw : HW g) {K : St → MHeap} {o : Nat} {r : Nat → Nat} (V : View (GG g) Ln K o r) (k : Nat) : ∀ (x1 : Int32) (x2 : Int32) (w : Int32), f_liveObjects_4 n s k x1 x2 = some w → Ev (GG g) M_liveObjects 4 [.val (.ref o), .val (.int x1), .val (.int x2)] [] (K s) ((some (.int w)), (K s)) := by
  induction k with
  | zero => intro x1 x2 w hr; rw [f_liveObjects_4] at hr; cases hr
  | succ k ih =>
    intro x1 x2 w hr
    rw [f_liveObjects_4] at hr
    refine Ev.iloadN (d5 4 rfl) rfl ?_
    refine Ev.aloadN (d5 5 rfl) rfl ?_
    refine Ev.gI V (ww hw 27 rfl) (d5 6 rfl) (j := 4) rfl rfl ?_
    refine Ev.icge (t := 41) (d5 7 rfl) rfl (fun c1 => ?_) (fun c1 => ?_)
    · replace hr := (if_pos c1).symm.trans hr
      refine Ev.aloadN (d5 8 rfl) rfl ?_
      refine Ev.gAr V (ww hw 15 rfl) (d5 9 rfl) (j := 0) rfl ?_
      refine Ev.iloadN (d5 10 rfl) rfl ?_
      obtain ⟨b2, hr⟩ := grd_some hr
      refine Ev.ial V (j := 0) rfl rfl (d5 11 rfl) b2 ?_
      refine Ev.iconst (z := -1) (d5 12 rfl) rfl ?_
      refine Ev.iceq (t := 35) (d5 13 rfl) rfl (fun c3 => ?_) (fun c3 => ?_)
      · replace hr := (if_pos c3).symm.trans hr
        refine Ev.iinc (z := 1) (L' := [.val (.ref o), .val (.int x1), .val (.int (x2 + (1 : Int32)))]) (d5 23 rfl) rfl rfl rfl ?_
        refine Ev.goto (t := 4) (d5 24 rfl) rfl ?_
        exact ih x1 (x2 + (1 : Int32))  _ hr
      · replace hr := (if_neg c3).symm.trans hr
        refine Ev.iloadN (d5 14 rfl) rfl ?_
        refine Ev.aloadN (d5 15 rfl) rfl ?_
        refine Ev.aloadN (d5 16 rfl) rfl ?_
        refine Ev.gAr V (ww hw 19 rfl) (d5 17 rfl) (j := 2) rfl ?_
        refine Ev.iloadN (d5 18 rfl) rfl ?_
        refine Ev.ial V (j := 2) rfl rfl (d5 19 rfl) b2 ?_
        obtain ⟨q4, hq5, hr⟩ := Option.bind_eq_some_iff.mp hr
        refine Ev.priv (y := M_popCount) (args := [.int (s.2 2 (ix x2))]) (rest := [.int x1]) (gok hw) rfl nm_popCount (ww hw 156 rfl) (ww hw 157 rfl) (ww hw 158 rfl) (ww hw 159 rfl) (lenOf pd_popCount rfl) (d5 20 rfl) (V.2.1 s) (e_popCount hw V hq5) (by decide) (Nat.le_of_ble_eq_true rfl) rfl ?_
        refine Ev.iadd (d5 21 rfl) ?_
        refine Ev.istDN (L' := [.val (.ref o), .val (.int (x1 + q4)), .val (.int x2)]) (d5 22 rfl) rfl rfl rfl ?_
        refine Ev.iinc (z := 1) (L' := [.val (.ref o), .val (.int (x1 + q4)), .val (.int (x2 + (1 : Int32)))]) (d5 23 rfl) rfl rfl rfl ?_
        refine Ev.goto (t := 4) (d5 24 rfl) rfl ?_
        exact ih (x1 + q4) (x2 + (1 : Int32))  _ hr
    · replace hr := (if_neg c1).symm.trans hr
      refine Ev.iloadN (d5 25 rfl) rfl ?_
      cases hr
      exact Ev.ireturn rfl (d5 26 rfl)
def f_liveObjects (n : Nat) (s : St) : Option (Int32) :=
  f_liveObjects_4 n s n (0 : Int32) (0 : Int32)
set_option maxRecDepth 100000 in
theorem e_liveObjects {g : GT} {n : Nat} {s : St} {w : Int32} (hw : HW g) {K : St → MHeap} {o : Nat} {r : Nat → Nat} (V : View (GG g) Ln K o r) (hr : f_liveObjects n s = some w) : EvC (GG g) M_liveObjects [.ref o] (K s) ((some (.int w)), (K s)) := by
  refine EvC.enter (L0 := [.val (.ref o), .unset, .unset]) pl_liveObjects (fun h => nomatch h) rfl rfl ?_
  unfold f_liveObjects at hr
  refine Ev.iconst (z := 0) (d5 0 rfl) rfl ?_
  refine Ev.istDN (L' := [.val (.ref o), .val (.int (0 : Int32)), .unset]) (d5 1 rfl) rfl rfl rfl ?_
  refine Ev.iconst (z := 0) (d5 2 rfl) rfl ?_
  refine Ev.istDN (L' := [.val (.ref o), .val (.int (0 : Int32)), .val (.int (0 : Int32))]) (d5 3 rfl) rfl rfl rfl ?_
  exact e_liveObjects_4 hw V  n (0 : Int32) (0 : Int32)  _ hr
def f_pageClass (s : St) (a0 : Int32) : Option (Int32) :=
  if a0 < 0 then
    some (-1 : Int32)
  else
    if a0 < (s.1 4) then
      grd (inb a0 16) <|
      some (s.2 0 (ix a0))
    else
      some (-1 : Int32)
set_option maxRecDepth 100000 in
theorem e_pageClass {g : GT} {s : St} {a0 : Int32} {w : Int32} (hw : HW g) {K : St → MHeap} {o : Nat} {r : Nat → Nat} (V : View (GG g) Ln K o r) (hr : f_pageClass s a0 = some w) : EvC (GG g) M_pageClass [.ref o, .int a0] (K s) ((some (.int w)), (K s)) := by
  refine EvC.enter (L0 := [.val (.ref o), .val (.int a0)]) pl_pageClass (fun h => nomatch h) rfl rfl ?_
  unfold f_pageClass at hr
  refine Ev.iloadN (d6 0 rfl) rfl ?_
  refine Ev.iflt (t := 12) (d6 1 rfl) rfl (fun c1 => ?_) (fun c1 => ?_)
  · replace hr := (if_pos c1).symm.trans hr
    refine Ev.iconst (z := -1) (d6 6 rfl) rfl ?_
    cases hr
    exact Ev.ireturn rfl (d6 7 rfl)
  · replace hr := (if_neg c1).symm.trans hr
    refine Ev.iloadN (d6 2 rfl) rfl ?_
    refine Ev.aloadN (d6 3 rfl) rfl ?_
    refine Ev.gI V (ww hw 27 rfl) (d6 4 rfl) (j := 4) rfl rfl ?_
    refine Ev.iclt (t := 14) (d6 5 rfl) rfl (fun c2 => ?_) (fun c2 => ?_)
    · replace hr := (if_pos c2).symm.trans hr
      refine Ev.aloadN (d6 8 rfl) rfl ?_
      refine Ev.gAr V (ww hw 15 rfl) (d6 9 rfl) (j := 0) rfl ?_
      refine Ev.iloadN (d6 10 rfl) rfl ?_
      obtain ⟨b3, hr⟩ := grd_some hr
      refine Ev.ial V (j := 0) rfl rfl (d6 11 rfl) b3 ?_
      cases hr
      exact Ev.ireturn rfl (d6 12 rfl)
    · replace hr := (if_neg c2).symm.trans hr
      refine Ev.iconst (z := -1) (d6 6 rfl) rfl ?_
      cases hr
      exact Ev.ireturn rfl (d6 7 rfl)
def f_frameOf (s : St) (a0 : Int32) : Option (Int32) :=
  if a0 < 0 then
    some (-1 : Int32)
  else
    if a0 < (s.1 4) then
      grd (inb a0 16) <|
      if (s.2 0 (ix a0)) = (-1 : Int32) then
        some (-1 : Int32)
      else
        some (s.2 1 (ix a0))
    else
      some (-1 : Int32)
set_option maxRecDepth 100000 in
theorem e_frameOf {g : GT} {s : St} {a0 : Int32} {w : Int32} (hw : HW g) {K : St → MHeap} {o : Nat} {r : Nat → Nat} (V : View (GG g) Ln K o r) (hr : f_frameOf s a0 = some w) : EvC (GG g) M_frameOf [.ref o, .int a0] (K s) ((some (.int w)), (K s)) := by
  refine EvC.enter (L0 := [.val (.ref o), .val (.int a0)]) pl_frameOf (fun h => nomatch h) rfl rfl ?_
  unfold f_frameOf at hr
  refine Ev.iloadN (d7 0 rfl) rfl ?_
  refine Ev.iflt (t := 22) (d7 1 rfl) rfl (fun c1 => ?_) (fun c1 => ?_)
  · replace hr := (if_pos c1).symm.trans hr
    refine Ev.iconst (z := -1) (d7 12 rfl) rfl ?_
    cases hr
    exact Ev.ireturn rfl (d7 13 rfl)
  · replace hr := (if_neg c1).symm.trans hr
    refine Ev.iloadN (d7 2 rfl) rfl ?_
    refine Ev.aloadN (d7 3 rfl) rfl ?_
    refine Ev.gI V (ww hw 27 rfl) (d7 4 rfl) (j := 4) rfl rfl ?_
    refine Ev.icge (t := 22) (d7 5 rfl) rfl (fun c2 => ?_) (fun c2 => ?_)
    · replace hr := (if_pos c2).symm.trans hr
      refine Ev.aloadN (d7 6 rfl) rfl ?_
      refine Ev.gAr V (ww hw 15 rfl) (d7 7 rfl) (j := 0) rfl ?_
      refine Ev.iloadN (d7 8 rfl) rfl ?_
      obtain ⟨b3, hr⟩ := grd_some hr
      refine Ev.ial V (j := 0) rfl rfl (d7 9 rfl) b3 ?_
      refine Ev.iconst (z := -1) (d7 10 rfl) rfl ?_
      refine Ev.icne (t := 24) (d7 11 rfl) rfl (fun c4 => ?_) (fun c4 => ?_)
      · replace hr := (if_pos c4).symm.trans hr
        refine Ev.iconst (z := -1) (d7 12 rfl) rfl ?_
        cases hr
        exact Ev.ireturn rfl (d7 13 rfl)
      · replace hr := (if_neg c4).symm.trans hr
        refine Ev.aloadN (d7 14 rfl) rfl ?_
        refine Ev.gAr V (ww hw 17 rfl) (d7 15 rfl) (j := 1) rfl ?_
        refine Ev.iloadN (d7 16 rfl) rfl ?_
        refine Ev.ial V (j := 1) rfl rfl (d7 17 rfl) b3 ?_
        cases hr
        exact Ev.ireturn rfl (d7 18 rfl)
    · replace hr := (if_neg c2).symm.trans hr
      refine Ev.iconst (z := -1) (d7 12 rfl) rfl ?_
      cases hr
      exact Ev.ireturn rfl (d7 13 rfl)
def f_pageBits (s : St) (a0 : Int32) : Option (Int32) :=
  if a0 < 0 then
    some (0 : Int32)
  else
    if a0 < (s.1 4) then
      grd (inb a0 16) <|
      if (s.2 0 (ix a0)) = (-1 : Int32) then
        some (0 : Int32)
      else
        some (s.2 2 (ix a0))
    else
      some (0 : Int32)
set_option maxRecDepth 100000 in
theorem e_pageBits {g : GT} {s : St} {a0 : Int32} {w : Int32} (hw : HW g) {K : St → MHeap} {o : Nat} {r : Nat → Nat} (V : View (GG g) Ln K o r) (hr : f_pageBits s a0 = some w) : EvC (GG g) M_pageBits [.ref o, .int a0] (K s) ((some (.int w)), (K s)) := by
  refine EvC.enter (L0 := [.val (.ref o), .val (.int a0)]) pl_pageBits (fun h => nomatch h) rfl rfl ?_
  unfold f_pageBits at hr
  refine Ev.iloadN (d8 0 rfl) rfl ?_
  refine Ev.iflt (t := 22) (d8 1 rfl) rfl (fun c1 => ?_) (fun c1 => ?_)
  · replace hr := (if_pos c1).symm.trans hr
    refine Ev.iconst (z := 0) (d8 12 rfl) rfl ?_
    cases hr
    exact Ev.ireturn rfl (d8 13 rfl)
  · replace hr := (if_neg c1).symm.trans hr
    refine Ev.iloadN (d8 2 rfl) rfl ?_
    refine Ev.aloadN (d8 3 rfl) rfl ?_
    refine Ev.gI V (ww hw 27 rfl) (d8 4 rfl) (j := 4) rfl rfl ?_
    refine Ev.icge (t := 22) (d8 5 rfl) rfl (fun c2 => ?_) (fun c2 => ?_)
    · replace hr := (if_pos c2).symm.trans hr
      refine Ev.aloadN (d8 6 rfl) rfl ?_
      refine Ev.gAr V (ww hw 15 rfl) (d8 7 rfl) (j := 0) rfl ?_
      refine Ev.iloadN (d8 8 rfl) rfl ?_
      obtain ⟨b3, hr⟩ := grd_some hr
      refine Ev.ial V (j := 0) rfl rfl (d8 9 rfl) b3 ?_
      refine Ev.iconst (z := -1) (d8 10 rfl) rfl ?_
      refine Ev.icne (t := 24) (d8 11 rfl) rfl (fun c4 => ?_) (fun c4 => ?_)
      · replace hr := (if_pos c4).symm.trans hr
        refine Ev.iconst (z := 0) (d8 12 rfl) rfl ?_
        cases hr
        exact Ev.ireturn rfl (d8 13 rfl)
      · replace hr := (if_neg c4).symm.trans hr
        refine Ev.aloadN (d8 14 rfl) rfl ?_
        refine Ev.gAr V (ww hw 19 rfl) (d8 15 rfl) (j := 2) rfl ?_
        refine Ev.iloadN (d8 16 rfl) rfl ?_
        refine Ev.ial V (j := 2) rfl rfl (d8 17 rfl) b3 ?_
        cases hr
        exact Ev.ireturn rfl (d8 18 rfl)
    · replace hr := (if_neg c2).symm.trans hr
      refine Ev.iconst (z := 0) (d8 12 rfl) rfl ?_
      cases hr
      exact Ev.ireturn rfl (d8 13 rfl)
def f_hsize (a0 : Int32) : Option (Int32) :=
  if a0 = 0 then
    some (1 : Int32)
  else
    if a0 = (1 : Int32) then
      some (2 : Int32)
    else
      some (4 : Int32)
set_option maxRecDepth 100000 in
theorem e_hsize {g : GT} {a0 : Int32} {w : Int32} (hw : HW g) {h : MHeap} (hr : f_hsize a0 = some w) : EvC (GG g) M_hsize [.int a0] h ((some (.int w)), h) := by
  refine EvC.enter (L0 := [.val (.int a0)]) pl_hsize (fun h => nomatch h) rfl rfl ?_
  unfold f_hsize at hr
  refine Ev.iloadN (d29 0 rfl) rfl ?_
  refine Ev.ifne (t := 8) (d29 1 rfl) rfl (fun c1 => ?_) (fun c1 => ?_)
  · replace hr := (if_pos c1).symm.trans hr
    refine Ev.iconst (z := 1) (d29 2 rfl) rfl ?_
    refine Ev.goto (t := 18) (d29 3 rfl) rfl ?_
    cases hr
    exact Ev.ireturn rfl (d29 10 rfl)
  · replace hr := (if_neg c1).symm.trans hr
    refine Ev.iloadN (d29 4 rfl) rfl ?_
    refine Ev.iconst (z := 1) (d29 5 rfl) rfl ?_
    refine Ev.icne (t := 17) (d29 6 rfl) rfl (fun c2 => ?_) (fun c2 => ?_)
    · replace hr := (if_pos c2).symm.trans hr
      refine Ev.iconst (z := 2) (d29 7 rfl) rfl ?_
      refine Ev.goto (t := 18) (d29 8 rfl) rfl ?_
      cases hr
      exact Ev.ireturn rfl (d29 10 rfl)
    · replace hr := (if_neg c2).symm.trans hr
      refine Ev.iconst (z := 4) (d29 9 rfl) rfl ?_
      cases hr
      exact Ev.ireturn rfl (d29 10 rfl)
def f_hpop_4 (n : Nat) : Nat → Int32 → Int32 → Int32 → Option (Int32)
  | 0 => fun _ _ _ => none
  | k + 1 => fun x0 x1 x2 =>
    if x2 < (32 : Int32) then
      if ((XT.ushr x0 x2) &&& (1 : Int32)) = 0 then
        f_hpop_4 n k x0 x1 (x2 + (1 : Int32))
      else
        f_hpop_4 n k x0 (x1 + (1 : Int32)) (x2 + (1 : Int32))
    else
      some x1
set_option maxRecDepth 100000 in
theorem e_hpop_4 {g : GT} {n : Nat} (hw : HW g) {h : MHeap} (k : Nat) : ∀ (x0 : Int32) (x1 : Int32) (x2 : Int32) (w : Int32), f_hpop_4 n k x0 x1 x2 = some w → Ev (GG g) M_hpop 4 [.val (.int x0), .val (.int x1), .val (.int x2)] [] h ((some (.int w)), h) := by
  induction k with
  | zero => intro x0 x1 x2 w hr; rw [f_hpop_4] at hr; cases hr
  | succ k ih =>
    intro x0 x1 x2 w hr
    rw [f_hpop_4] at hr
    refine Ev.iloadN (d33 4 rfl) rfl ?_
    refine Ev.bipush (z := 32) (d33 5 rfl) rfl ?_
    refine Ev.icge (t := 27) (d33 6 rfl) rfl (fun c1 => ?_) (fun c1 => ?_)
    · replace hr := (if_pos c1).symm.trans hr
      refine Ev.iloadN (d33 7 rfl) rfl ?_
      refine Ev.iloadN (d33 8 rfl) rfl ?_
      refine Ev.iushr (d33 9 rfl) ?_
      refine Ev.iconst (z := 1) (d33 10 rfl) rfl ?_
      refine Ev.iand (d33 11 rfl) ?_
      refine Ev.ifeq (t := 21) (d33 12 rfl) rfl (fun c2 => ?_) (fun c2 => ?_)
      · replace hr := (if_pos c2).symm.trans hr
        refine Ev.iinc (z := 1) (L' := [.val (.int x0), .val (.int x1), .val (.int (x2 + (1 : Int32)))]) (d33 14 rfl) rfl rfl rfl ?_
        refine Ev.goto (t := 4) (d33 15 rfl) rfl ?_
        exact ih x0 x1 (x2 + (1 : Int32))  _ hr
      · replace hr := (if_neg c2).symm.trans hr
        refine Ev.iinc (z := 1) (L' := [.val (.int x0), .val (.int (x1 + (1 : Int32))), .val (.int x2)]) (d33 13 rfl) rfl rfl rfl ?_
        refine Ev.iinc (z := 1) (L' := [.val (.int x0), .val (.int (x1 + (1 : Int32))), .val (.int (x2 + (1 : Int32)))]) (d33 14 rfl) rfl rfl rfl ?_
        refine Ev.goto (t := 4) (d33 15 rfl) rfl ?_
        exact ih x0 (x1 + (1 : Int32)) (x2 + (1 : Int32))  _ hr
    · replace hr := (if_neg c1).symm.trans hr
      refine Ev.iloadN (d33 16 rfl) rfl ?_
      cases hr
      exact Ev.ireturn rfl (d33 17 rfl)
def f_hpop (n : Nat) (a0 : Int32) : Option (Int32) :=
  f_hpop_4 n n a0 (0 : Int32) (0 : Int32)
set_option maxRecDepth 100000 in
theorem e_hpop {g : GT} {n : Nat} {a0 : Int32} {w : Int32} (hw : HW g) {h : MHeap} (hr : f_hpop n a0 = some w) : EvC (GG g) M_hpop [.int a0] h ((some (.int w)), h) := by
  refine EvC.enter (L0 := [.val (.int a0), .unset, .unset]) pl_hpop (fun h => nomatch h) rfl rfl ?_
  unfold f_hpop at hr
  refine Ev.iconst (z := 0) (d33 0 rfl) rfl ?_
  refine Ev.istDN (L' := [.val (.int a0), .val (.int (0 : Int32)), .unset]) (d33 1 rfl) rfl rfl rfl ?_
  refine Ev.iconst (z := 0) (d33 2 rfl) rfl ?_
  refine Ev.istDN (L' := [.val (.int a0), .val (.int (0 : Int32)), .val (.int (0 : Int32))]) (d33 3 rfl) rfl rfl rfl ?_
  exact e_hpop_4 hw   n a0 (0 : Int32) (0 : Int32)  _ hr
def f_pagesInUse_4 (n : Nat) (s : St) : Nat → Int32 → Int32 → Option (Int32)
  | 0 => fun _ _ => none
  | k + 1 => fun x1 x2 =>
    if x2 < (s.1 4) then
      grd (inb x2 16) <|
      if (s.2 0 (ix x2)) = (-1 : Int32) then
        f_pagesInUse_4 n s k x1 (x2 + (1 : Int32))
      else
        f_pagesInUse_4 n s k (x1 + (1 : Int32)) (x2 + (1 : Int32))
    else
      some x1
set_option maxRecDepth 100000 in
theorem e_pagesInUse_4 {g : GT} {n : Nat} {s : St} (hw : HW g) {K : St → MHeap} {o : Nat} {r : Nat → Nat} (V : View (GG g) Ln K o r) (k : Nat) : ∀ (x1 : Int32) (x2 : Int32) (w : Int32), f_pagesInUse_4 n s k x1 x2 = some w → Ev (GG g) M_pagesInUse 4 [.val (.ref o), .val (.int x1), .val (.int x2)] [] (K s) ((some (.int w)), (K s)) := by
  induction k with
  | zero => intro x1 x2 w hr; rw [f_pagesInUse_4] at hr; cases hr
  | succ k ih =>
    intro x1 x2 w hr
    rw [f_pagesInUse_4] at hr
    refine Ev.iloadN (d9 4 rfl) rfl ?_
    refine Ev.aloadN (d9 5 rfl) rfl ?_
    refine Ev.gI V (ww hw 27 rfl) (d9 6 rfl) (j := 4) rfl rfl ?_
    refine Ev.icge (t := 31) (d9 7 rfl) rfl (fun c1 => ?_) (fun c1 => ?_)
    · replace hr := (if_pos c1).symm.trans hr
      refine Ev.aloadN (d9 8 rfl) rfl ?_
      refine Ev.gAr V (ww hw 15 rfl) (d9 9 rfl) (j := 0) rfl ?_
      refine Ev.iloadN (d9 10 rfl) rfl ?_
      obtain ⟨b2, hr⟩ := grd_some hr
      refine Ev.ial V (j := 0) rfl rfl (d9 11 rfl) b2 ?_
      refine Ev.iconst (z := -1) (d9 12 rfl) rfl ?_
      refine Ev.iceq (t := 25) (d9 13 rfl) rfl (fun c3 => ?_) (fun c3 => ?_)
      · replace hr := (if_pos c3).symm.trans hr
        refine Ev.iinc (z := 1) (L' := [.val (.ref o), .val (.int x1), .val (.int (x2 + (1 : Int32)))]) (d9 15 rfl) rfl rfl rfl ?_
        refine Ev.goto (t := 4) (d9 16 rfl) rfl ?_
        exact ih x1 (x2 + (1 : Int32))  _ hr
      · replace hr := (if_neg c3).symm.trans hr
        refine Ev.iinc (z := 1) (L' := [.val (.ref o), .val (.int (x1 + (1 : Int32))), .val (.int x2)]) (d9 14 rfl) rfl rfl rfl ?_
        refine Ev.iinc (z := 1) (L' := [.val (.ref o), .val (.int (x1 + (1 : Int32))), .val (.int (x2 + (1 : Int32)))]) (d9 15 rfl) rfl rfl rfl ?_
        refine Ev.goto (t := 4) (d9 16 rfl) rfl ?_
        exact ih (x1 + (1 : Int32)) (x2 + (1 : Int32))  _ hr
    · replace hr := (if_neg c1).symm.trans hr
      refine Ev.iloadN (d9 17 rfl) rfl ?_
      cases hr
      exact Ev.ireturn rfl (d9 18 rfl)
def f_pagesInUse (n : Nat) (s : St) : Option (Int32) :=
  f_pagesInUse_4 n s n (0 : Int32) (0 : Int32)
set_option maxRecDepth 100000 in
theorem e_pagesInUse {g : GT} {n : Nat} {s : St} {w : Int32} (hw : HW g) {K : St → MHeap} {o : Nat} {r : Nat → Nat} (V : View (GG g) Ln K o r) (hr : f_pagesInUse n s = some w) : EvC (GG g) M_pagesInUse [.ref o] (K s) ((some (.int w)), (K s)) := by
  refine EvC.enter (L0 := [.val (.ref o), .unset, .unset]) pl_pagesInUse (fun h => nomatch h) rfl rfl ?_
  unfold f_pagesInUse at hr
  refine Ev.iconst (z := 0) (d9 0 rfl) rfl ?_
  refine Ev.istDN (L' := [.val (.ref o), .val (.int (0 : Int32)), .unset]) (d9 1 rfl) rfl rfl rfl ?_
  refine Ev.iconst (z := 0) (d9 2 rfl) rfl ?_
  refine Ev.istDN (L' := [.val (.ref o), .val (.int (0 : Int32)), .val (.int (0 : Int32))]) (d9 3 rfl) rfl rfl rfl ?_
  exact e_pagesInUse_4 hw V  n (0 : Int32) (0 : Int32)  _ hr
def f_unionOf_4 (n : Nat) (s : St) : Nat → Int32 → Int32 → Int32 → Option (Int32)
  | 0 => fun _ _ _ => none
  | k + 1 => fun x1 x2 x3 =>
    if x3 < (s.1 4) then
      grd (inb x3 16) <|
      if (s.2 0 (ix x3)) = (-1 : Int32) then
        f_unionOf_4 n s k x1 x2 (x3 + (1 : Int32))
      else
        if (s.2 1 (ix x3)) = x1 then
          f_unionOf_4 n s k x1 (x2 ||| (s.2 2 (ix x3))) (x3 + (1 : Int32))
        else
          f_unionOf_4 n s k x1 x2 (x3 + (1 : Int32))
    else
      some x2
set_option maxRecDepth 100000 in
theorem e_unionOf_4 {g : GT} {n : Nat} {s : St} (hw : HW g) {K : St → MHeap} {o : Nat} {r : Nat → Nat} (V : View (GG g) Ln K o r) (k : Nat) : ∀ (x1 : Int32) (x2 : Int32) (x3 : Int32) (w : Int32), f_unionOf_4 n s k x1 x2 x3 = some w → Ev (GG g) M_unionOf 4 [.val (.ref o), .val (.int x1), .val (.int x2), .val (.int x3)] [] (K s) ((some (.int w)), (K s)) := by
  induction k with
  | zero => intro x1 x2 x3 w hr; rw [f_unionOf_4] at hr; cases hr
  | succ k ih =>
    intro x1 x2 x3 w hr
    rw [f_unionOf_4] at hr
    refine Ev.iloadN (d11 4 rfl) rfl ?_
    refine Ev.aloadN (d11 5 rfl) rfl ?_
    refine Ev.gI V (ww hw 27 rfl) (d11 6 rfl) (j := 4) rfl rfl ?_
    refine Ev.icge (t := 47) (d11 7 rfl) rfl (fun c1 => ?_) (fun c1 => ?_)
    · replace hr := (if_pos c1).symm.trans hr
      refine Ev.aloadN (d11 8 rfl) rfl ?_
      refine Ev.gAr V (ww hw 15 rfl) (d11 9 rfl) (j := 0) rfl ?_
      refine Ev.iloadN (d11 10 rfl) rfl ?_
      obtain ⟨b2, hr⟩ := grd_some hr
      refine Ev.ial V (j := 0) rfl rfl (d11 11 rfl) b2 ?_
      refine Ev.iconst (z := -1) (d11 12 rfl) rfl ?_
      refine Ev.iceq (t := 41) (d11 13 rfl) rfl (fun c3 => ?_) (fun c3 => ?_)
      · replace hr := (if_pos c3).symm.trans hr
        refine Ev.iinc (z := 1) (L' := [.val (.ref o), .val (.int x1), .val (.int x2), .val (.int (x3 + (1 : Int32)))]) (d11 27 rfl) rfl rfl rfl ?_
        refine Ev.goto (t := 4) (d11 28 rfl) rfl ?_
        exact ih x1 x2 (x3 + (1 : Int32))  _ hr
      · replace hr := (if_neg c3).symm.trans hr
        refine Ev.aloadN (d11 14 rfl) rfl ?_
        refine Ev.gAr V (ww hw 17 rfl) (d11 15 rfl) (j := 1) rfl ?_
        refine Ev.iloadN (d11 16 rfl) rfl ?_
        refine Ev.ial V (j := 1) rfl rfl (d11 17 rfl) b2 ?_
        refine Ev.iloadN (d11 18 rfl) rfl ?_
        refine Ev.icne (t := 41) (d11 19 rfl) rfl (fun c4 => ?_) (fun c4 => ?_)
        · replace hr := (if_pos c4).symm.trans hr
          refine Ev.iloadN (d11 20 rfl) rfl ?_
          refine Ev.aloadN (d11 21 rfl) rfl ?_
          refine Ev.gAr V (ww hw 19 rfl) (d11 22 rfl) (j := 2) rfl ?_
          refine Ev.iloadN (d11 23 rfl) rfl ?_
          refine Ev.ial V (j := 2) rfl rfl (d11 24 rfl) b2 ?_
          refine Ev.ior (d11 25 rfl) ?_
          refine Ev.istDN (L' := [.val (.ref o), .val (.int x1), .val (.int (x2 ||| (s.2 2 (ix x3)))), .val (.int x3)]) (d11 26 rfl) rfl rfl rfl ?_
          refine Ev.iinc (z := 1) (L' := [.val (.ref o), .val (.int x1), .val (.int (x2 ||| (s.2 2 (ix x3)))), .val (.int (x3 + (1 : Int32)))]) (d11 27 rfl) rfl rfl rfl ?_
          refine Ev.goto (t := 4) (d11 28 rfl) rfl ?_
          exact ih x1 (x2 ||| (s.2 2 (ix x3))) (x3 + (1 : Int32))  _ hr
        · replace hr := (if_neg c4).symm.trans hr
          refine Ev.iinc (z := 1) (L' := [.val (.ref o), .val (.int x1), .val (.int x2), .val (.int (x3 + (1 : Int32)))]) (d11 27 rfl) rfl rfl rfl ?_
          refine Ev.goto (t := 4) (d11 28 rfl) rfl ?_
          exact ih x1 x2 (x3 + (1 : Int32))  _ hr
    · replace hr := (if_neg c1).symm.trans hr
      refine Ev.iloadN (d11 29 rfl) rfl ?_
      cases hr
      exact Ev.ireturn rfl (d11 30 rfl)
def f_unionOf (n : Nat) (s : St) (a0 : Int32) : Option (Int32) :=
  f_unionOf_4 n s n a0 (0 : Int32) (0 : Int32)
set_option maxRecDepth 100000 in
theorem e_unionOf {g : GT} {n : Nat} {s : St} {a0 : Int32} {w : Int32} (hw : HW g) {K : St → MHeap} {o : Nat} {r : Nat → Nat} (V : View (GG g) Ln K o r) (hr : f_unionOf n s a0 = some w) : EvC (GG g) M_unionOf [.ref o, .int a0] (K s) ((some (.int w)), (K s)) := by
  refine EvC.enter (L0 := [.val (.ref o), .val (.int a0), .unset, .unset]) pl_unionOf (fun h => nomatch h) rfl rfl ?_
  unfold f_unionOf at hr
  refine Ev.iconst (z := 0) (d11 0 rfl) rfl ?_
  refine Ev.istDN (L' := [.val (.ref o), .val (.int a0), .val (.int (0 : Int32)), .unset]) (d11 1 rfl) rfl rfl rfl ?_
  refine Ev.iconst (z := 0) (d11 2 rfl) rfl ?_
  refine Ev.istDN (L' := [.val (.ref o), .val (.int a0), .val (.int (0 : Int32)), .val (.int (0 : Int32))]) (d11 3 rfl) rfl rfl rfl ?_
  exact e_unionOf_4 hw V  n a0 (0 : Int32) (0 : Int32)  _ hr
def f_frameBits (n : Nat) (s : St) (a0 : Int32) : Option (Int32) :=
  if a0 < 0 then
    some (0 : Int32)
  else
    if a0 < (s.1 5) then
      (f_unionOf n s a0).bind fun q3 =>
      some q3
    else
      some (0 : Int32)
set_option maxRecDepth 100000 in
theorem e_frameBits {g : GT} {n : Nat} {s : St} {a0 : Int32} {w : Int32} (hw : HW g) {K : St → MHeap} {o : Nat} {r : Nat → Nat} (V : View (GG g) Ln K o r) (hr : f_frameBits n s a0 = some w) : EvC (GG g) M_frameBits [.ref o, .int a0] (K s) ((some (.int w)), (K s)) := by
  refine EvC.enter (L0 := [.val (.ref o), .val (.int a0)]) pl_frameBits (fun h => nomatch h) rfl rfl ?_
  unfold f_frameBits at hr
  refine Ev.iloadN (d10 0 rfl) rfl ?_
  refine Ev.iflt (t := 12) (d10 1 rfl) rfl (fun c1 => ?_) (fun c1 => ?_)
  · replace hr := (if_pos c1).symm.trans hr
    refine Ev.iconst (z := 0) (d10 6 rfl) rfl ?_
    cases hr
    exact Ev.ireturn rfl (d10 7 rfl)
  · replace hr := (if_neg c1).symm.trans hr
    refine Ev.iloadN (d10 2 rfl) rfl ?_
    refine Ev.aloadN (d10 3 rfl) rfl ?_
    refine Ev.gI V (ww hw 29 rfl) (d10 4 rfl) (j := 5) rfl rfl ?_
    refine Ev.iclt (t := 14) (d10 5 rfl) rfl (fun c2 => ?_) (fun c2 => ?_)
    · replace hr := (if_pos c2).symm.trans hr
      refine Ev.aloadN (d10 8 rfl) rfl ?_
      refine Ev.iloadN (d10 9 rfl) rfl ?_
      obtain ⟨q3, hq4, hr⟩ := Option.bind_eq_some_iff.mp hr
      refine Ev.priv (y := M_unionOf) (args := [.int a0]) (rest := []) (gok hw) rfl nm_unionOf (ww hw 67 rfl) (ww hw 68 rfl) (ww hw 69 rfl) (ww hw 70 rfl) (lenOf pd_unionOf rfl) (d10 10 rfl) (V.2.1 s) (e_unionOf hw V hq4) (by decide) (Nat.le_of_ble_eq_true rfl) rfl ?_
      cases hr
      exact Ev.ireturn rfl (d10 11 rfl)
    · replace hr := (if_neg c2).symm.trans hr
      refine Ev.iconst (z := 0) (d10 6 rfl) rfl ?_
      cases hr
      exact Ev.ireturn rfl (d10 7 rfl)
def f_frameClass_2 (n : Nat) (s : St) : Nat → Int32 → Int32 → Option (Int32)
  | 0 => fun _ _ => none
  | k + 1 => fun x1 x2 =>
    if x2 < (s.1 4) then
      grd (inb x2 16) <|
      if (s.2 0 (ix x2)) = (-1 : Int32) then
        f_frameClass_2 n s k x1 (x2 + (1 : Int32))
      else
        if (s.2 1 (ix x2)) = x1 then
          some (s.2 0 (ix x2))
        else
          f_frameClass_2 n s k x1 (x2 + (1 : Int32))
    else
      some (-1 : Int32)
set_option maxRecDepth 100000 in
theorem e_frameClass_2 {g : GT} {n : Nat} {s : St} (hw : HW g) {K : St → MHeap} {o : Nat} {r : Nat → Nat} (V : View (GG g) Ln K o r) (k : Nat) : ∀ (x1 : Int32) (x2 : Int32) (w : Int32), f_frameClass_2 n s k x1 x2 = some w → Ev (GG g) M_frameClass 2 [.val (.ref o), .val (.int x1), .val (.int x2)] [] (K s) ((some (.int w)), (K s)) := by
  induction k with
  | zero => intro x1 x2 w hr; rw [f_frameClass_2] at hr; cases hr
  | succ k ih =>
    intro x1 x2 w hr
    rw [f_frameClass_2] at hr
    refine Ev.iloadN (d13 2 rfl) rfl ?_
    refine Ev.aloadN (d13 3 rfl) rfl ?_
    refine Ev.gI V (ww hw 27 rfl) (d13 4 rfl) (j := 4) rfl rfl ?_
    refine Ev.icge (t := 43) (d13 5 rfl) rfl (fun c1 => ?_) (fun c1 => ?_)
    · replace hr := (if_pos c1).symm.trans hr
      refine Ev.aloadN (d13 6 rfl) rfl ?_
      refine Ev.gAr V (ww hw 15 rfl) (d13 7 rfl) (j := 0) rfl ?_
      refine Ev.iloadN (d13 8 rfl) rfl ?_
      obtain ⟨b2, hr⟩ := grd_some hr
      refine Ev.ial V (j := 0) rfl rfl (d13 9 rfl) b2 ?_
      refine Ev.iconst (z := -1) (d13 10 rfl) rfl ?_
      refine Ev.iceq (t := 37) (d13 11 rfl) rfl (fun c3 => ?_) (fun c3 => ?_)
      · replace hr := (if_pos c3).symm.trans hr
        refine Ev.iinc (z := 1) (L' := [.val (.ref o), .val (.int x1), .val (.int (x2 + (1 : Int32)))]) (d13 23 rfl) rfl rfl rfl ?_
        refine Ev.goto (t := 2) (d13 24 rfl) rfl ?_
        exact ih x1 (x2 + (1 : Int32))  _ hr
      · replace hr := (if_neg c3).symm.trans hr
        refine Ev.aloadN (d13 12 rfl) rfl ?_
        refine Ev.gAr V (ww hw 17 rfl) (d13 13 rfl) (j := 1) rfl ?_
        refine Ev.iloadN (d13 14 rfl) rfl ?_
        refine Ev.ial V (j := 1) rfl rfl (d13 15 rfl) b2 ?_
        refine Ev.iloadN (d13 16 rfl) rfl ?_
        refine Ev.icne (t := 37) (d13 17 rfl) rfl (fun c4 => ?_) (fun c4 => ?_)
        · replace hr := (if_pos c4).symm.trans hr
          refine Ev.aloadN (d13 18 rfl) rfl ?_
          refine Ev.gAr V (ww hw 15 rfl) (d13 19 rfl) (j := 0) rfl ?_
          refine Ev.iloadN (d13 20 rfl) rfl ?_
          refine Ev.ial V (j := 0) rfl rfl (d13 21 rfl) b2 ?_
          cases hr
          exact Ev.ireturn rfl (d13 22 rfl)
        · replace hr := (if_neg c4).symm.trans hr
          refine Ev.iinc (z := 1) (L' := [.val (.ref o), .val (.int x1), .val (.int (x2 + (1 : Int32)))]) (d13 23 rfl) rfl rfl rfl ?_
          refine Ev.goto (t := 2) (d13 24 rfl) rfl ?_
          exact ih x1 (x2 + (1 : Int32))  _ hr
    · replace hr := (if_neg c1).symm.trans hr
      refine Ev.iconst (z := -1) (d13 25 rfl) rfl ?_
      cases hr
      exact Ev.ireturn rfl (d13 26 rfl)
def f_frameClass (n : Nat) (s : St) (a0 : Int32) : Option (Int32) :=
  f_frameClass_2 n s n a0 (0 : Int32)
set_option maxRecDepth 100000 in
theorem e_frameClass {g : GT} {n : Nat} {s : St} {a0 : Int32} {w : Int32} (hw : HW g) {K : St → MHeap} {o : Nat} {r : Nat → Nat} (V : View (GG g) Ln K o r) (hr : f_frameClass n s a0 = some w) : EvC (GG g) M_frameClass [.ref o, .int a0] (K s) ((some (.int w)), (K s)) := by
  refine EvC.enter (L0 := [.val (.ref o), .val (.int a0), .unset]) pl_frameClass (fun h => nomatch h) rfl rfl ?_
  unfold f_frameClass at hr
  refine Ev.iconst (z := 0) (d13 0 rfl) rfl ?_
  refine Ev.istDN (L' := [.val (.ref o), .val (.int a0), .val (.int (0 : Int32))]) (d13 1 rfl) rfl rfl rfl ?_
  exact e_frameClass_2 hw V  n a0 (0 : Int32)  _ hr
def f_framesInUse_4 (n : Nat) (s : St) : Nat → Int32 → Int32 → Option (Int32)
  | 0 => fun _ _ => none
  | k + 1 => fun x1 x2 =>
    if x2 < (s.1 5) then
      (f_frameClass n s x2).bind fun q2 =>
      if q2 = (-1 : Int32) then
        f_framesInUse_4 n s k x1 (x2 + (1 : Int32))
      else
        f_framesInUse_4 n s k (x1 + (1 : Int32)) (x2 + (1 : Int32))
    else
      some x1
set_option maxRecDepth 100000 in
theorem e_framesInUse_4 {g : GT} {n : Nat} {s : St} (hw : HW g) {K : St → MHeap} {o : Nat} {r : Nat → Nat} (V : View (GG g) Ln K o r) (k : Nat) : ∀ (x1 : Int32) (x2 : Int32) (w : Int32), f_framesInUse_4 n s k x1 x2 = some w → Ev (GG g) M_framesInUse 4 [.val (.ref o), .val (.int x1), .val (.int x2)] [] (K s) ((some (.int w)), (K s)) := by
  induction k with
  | zero => intro x1 x2 w hr; rw [f_framesInUse_4] at hr; cases hr
  | succ k ih =>
    intro x1 x2 w hr
    rw [f_framesInUse_4] at hr
    refine Ev.iloadN (d12 4 rfl) rfl ?_
    refine Ev.aloadN (d12 5 rfl) rfl ?_
    refine Ev.gI V (ww hw 29 rfl) (d12 6 rfl) (j := 5) rfl rfl ?_
    refine Ev.icge (t := 30) (d12 7 rfl) rfl (fun c1 => ?_) (fun c1 => ?_)
    · replace hr := (if_pos c1).symm.trans hr
      refine Ev.aloadN (d12 8 rfl) rfl ?_
      refine Ev.iloadN (d12 9 rfl) rfl ?_
      obtain ⟨q2, hq3, hr⟩ := Option.bind_eq_some_iff.mp hr
      refine Ev.priv (y := M_frameClass) (args := [.int x2]) (rest := []) (gok hw) rfl nm_frameClass (ww hw 76 rfl) (ww hw 77 rfl) (ww hw 78 rfl) (ww hw 79 rfl) (lenOf pd_frameClass rfl) (d12 10 rfl) (V.2.1 s) (e_frameClass hw V hq3) (by decide) (Nat.le_of_ble_eq_true rfl) rfl ?_
      refine Ev.iconst (z := -1) (d12 11 rfl) rfl ?_
      refine Ev.iceq (t := 24) (d12 12 rfl) rfl (fun c4 => ?_) (fun c4 => ?_)
      · replace hr := (if_pos c4).symm.trans hr
        refine Ev.iinc (z := 1) (L' := [.val (.ref o), .val (.int x1), .val (.int (x2 + (1 : Int32)))]) (d12 14 rfl) rfl rfl rfl ?_
        refine Ev.goto (t := 4) (d12 15 rfl) rfl ?_
        exact ih x1 (x2 + (1 : Int32))  _ hr
      · replace hr := (if_neg c4).symm.trans hr
        refine Ev.iinc (z := 1) (L' := [.val (.ref o), .val (.int (x1 + (1 : Int32))), .val (.int x2)]) (d12 13 rfl) rfl rfl rfl ?_
        refine Ev.iinc (z := 1) (L' := [.val (.ref o), .val (.int (x1 + (1 : Int32))), .val (.int (x2 + (1 : Int32)))]) (d12 14 rfl) rfl rfl rfl ?_
        refine Ev.goto (t := 4) (d12 15 rfl) rfl ?_
        exact ih (x1 + (1 : Int32)) (x2 + (1 : Int32))  _ hr
    · replace hr := (if_neg c1).symm.trans hr
      refine Ev.iloadN (d12 16 rfl) rfl ?_
      cases hr
      exact Ev.ireturn rfl (d12 17 rfl)
def f_framesInUse (n : Nat) (s : St) : Option (Int32) :=
  f_framesInUse_4 n s n (0 : Int32) (0 : Int32)
set_option maxRecDepth 100000 in
theorem e_framesInUse {g : GT} {n : Nat} {s : St} {w : Int32} (hw : HW g) {K : St → MHeap} {o : Nat} {r : Nat → Nat} (V : View (GG g) Ln K o r) (hr : f_framesInUse n s = some w) : EvC (GG g) M_framesInUse [.ref o] (K s) ((some (.int w)), (K s)) := by
  refine EvC.enter (L0 := [.val (.ref o), .unset, .unset]) pl_framesInUse (fun h => nomatch h) rfl rfl ?_
  unfold f_framesInUse at hr
  refine Ev.iconst (z := 0) (d12 0 rfl) rfl ?_
  refine Ev.istDN (L' := [.val (.ref o), .val (.int (0 : Int32)), .unset]) (d12 1 rfl) rfl rfl rfl ?_
  refine Ev.iconst (z := 0) (d12 2 rfl) rfl ?_
  refine Ev.istDN (L' := [.val (.ref o), .val (.int (0 : Int32)), .val (.int (0 : Int32))]) (d12 3 rfl) rfl rfl rfl ?_
  exact e_framesInUse_4 hw V  n (0 : Int32) (0 : Int32)  _ hr
def f_sizeOf (s : St) (a0 : Int32) : Option (Int32) :=
  some ((1 : Int32) <<< (a0 &&& 31))
set_option maxRecDepth 100000 in
theorem e_sizeOf {g : GT} {s : St} {a0 : Int32} {w : Int32} (hw : HW g) {K : St → MHeap} {o : Nat} {r : Nat → Nat} (V : View (GG g) Ln K o r) (hr : f_sizeOf s a0 = some w) : EvC (GG g) M_sizeOf [.ref o, .int a0] (K s) ((some (.int w)), (K s)) := by
  refine EvC.enter (L0 := [.val (.ref o), .val (.int a0)]) pl_sizeOf (fun h => nomatch h) rfl rfl ?_
  unfold f_sizeOf at hr
  refine Ev.iconst (z := 1) (d25 0 rfl) rfl ?_
  refine Ev.iloadN (d25 1 rfl) rfl ?_
  refine Ev.ishl (d25 2 rfl) ?_
  cases hr
  exact Ev.ireturn rfl (d25 3 rfl)
def f_liveIndex (s : St) (a0 : Int32) : Option (Int32) :=
  if a0 < 0 then
    some (-1 : Int32)
  else
    if a0 < ((s.1 4) * (16 : Int32)) then
      grd (inb (a0 / (16 : Int32)) 16) <|
      if (s.2 0 (ix (a0 / (16 : Int32)))) = (-1 : Int32) then
        some (-1 : Int32)
      else
        (f_sizeOf s (s.2 0 (ix (a0 / (16 : Int32))))).bind fun q5 =>
        grd (q5 ≠ 0) <|
        if ((XT.ushr (s.2 2 (ix (a0 / (16 : Int32)))) ((a0 % (16 : Int32)) / q5)) &&& (1 : Int32)) = 0 then
          some (-1 : Int32)
        else
          if (s.2 1 (ix (a0 / (16 : Int32)))) < 0 then
            some (-1 : Int32)
          else
            if (s.2 1 (ix (a0 / (16 : Int32)))) < (s.1 5) then
              some (((s.2 1 (ix (a0 / (16 : Int32)))) * (16 : Int32)) + (a0 % (16 : Int32)))
            else
              some (-1 : Int32)
    else
      some (-1 : Int32)
set_option maxRecDepth 100000 in
theorem e_liveIndex {g : GT} {s : St} {a0 : Int32} {w : Int32} (hw : HW g) {K : St → MHeap} {o : Nat} {r : Nat → Nat} (V : View (GG g) Ln K o r) (hr : f_liveIndex s a0 = some w) : EvC (GG g) M_liveIndex [.ref o, .int a0] (K s) ((some (.int w)), (K s)) := by
  refine EvC.enter (L0 := [.val (.ref o), .val (.int a0), .unset, .unset, .unset, .unset, .unset]) pl_liveIndex (fun h => nomatch h) rfl rfl ?_
  unfold f_liveIndex at hr
  refine Ev.iloadN (d15 0 rfl) rfl ?_
  refine Ev.iflt (t := 15) (d15 1 rfl) rfl (fun c1 => ?_) (fun c1 => ?_)
  · replace hr := (if_pos c1).symm.trans hr
    refine Ev.iconst (z := -1) (d15 8 rfl) rfl ?_
    cases hr
    exact Ev.ireturn rfl (d15 9 rfl)
  · replace hr := (if_neg c1).symm.trans hr
    refine Ev.iloadN (d15 2 rfl) rfl ?_
    refine Ev.aloadN (d15 3 rfl) rfl ?_
    refine Ev.gI V (ww hw 27 rfl) (d15 4 rfl) (j := 4) rfl rfl ?_
    refine Ev.bipush (z := 16) (d15 5 rfl) rfl ?_
    refine Ev.imul (d15 6 rfl) ?_
    refine Ev.iclt (t := 17) (d15 7 rfl) rfl (fun c2 => ?_) (fun c2 => ?_)
    · replace hr := (if_pos c2).symm.trans hr
      refine Ev.iloadN (d15 10 rfl) rfl ?_
      refine Ev.bipush (z := 16) (d15 11 rfl) rfl ?_
      refine Ev.idiv (d15 12 rfl) (by decide) ?_
      refine Ev.istDN (L' := [.val (.ref o), .val (.int a0), .val (.int (a0 / (16 : Int32))), .unset, .unset, .unset, .unset]) (d15 13 rfl) rfl rfl rfl ?_
      refine Ev.aloadN (d15 14 rfl) rfl ?_
      refine Ev.gAr V (ww hw 15 rfl) (d15 15 rfl) (j := 0) rfl ?_
      refine Ev.iloadN (d15 16 rfl) rfl ?_
      obtain ⟨b3, hr⟩ := grd_some hr
      refine Ev.ial V (j := 0) rfl rfl (d15 17 rfl) b3 ?_
      refine Ev.istDN (L' := [.val (.ref o), .val (.int a0), .val (.int (a0 / (16 : Int32))), .val (.int (s.2 0 (ix (a0 / (16 : Int32))))), .unset, .unset, .unset]) (d15 18 rfl) rfl rfl rfl ?_
      refine Ev.iloadN (d15 19 rfl) rfl ?_
      refine Ev.iconst (z := -1) (d15 20 rfl) rfl ?_
      refine Ev.icne (t := 36) (d15 21 rfl) rfl (fun c4 => ?_) (fun c4 => ?_)
      · replace hr := (if_pos c4).symm.trans hr
        refine Ev.iconst (z := -1) (d15 22 rfl) rfl ?_
        cases hr
        exact Ev.ireturn rfl (d15 23 rfl)
      · replace hr := (if_neg c4).symm.trans hr
        refine Ev.iloadN (d15 24 rfl) rfl ?_
        refine Ev.bipush (z := 16) (d15 25 rfl) rfl ?_
        refine Ev.irem (d15 26 rfl) (by decide) ?_
        refine Ev.istD (L' := [.val (.ref o), .val (.int a0), .val (.int (a0 / (16 : Int32))), .val (.int (s.2 0 (ix (a0 / (16 : Int32))))), .val (.int (a0 % (16 : Int32))), .unset, .unset]) (d15 27 rfl) rfl rfl rfl ?_
        refine Ev.iload (d15 28 rfl) rfl ?_
        refine Ev.aloadN (d15 29 rfl) rfl ?_
        refine Ev.iloadN (d15 30 rfl) rfl ?_
        obtain ⟨q5, hq6, hr⟩ := Option.bind_eq_some_iff.mp hr
        refine Ev.priv (y := M_sizeOf) (args := [.int (s.2 0 (ix (a0 / (16 : Int32))))]) (rest := [.int (a0 % (16 : Int32))]) (gok hw) rfl nm_sizeOf (ww hw 127 rfl) (ww hw 128 rfl) (ww hw 129 rfl) (ww hw 130 rfl) (lenOf pd_sizeOf rfl) (d15 31 rfl) (V.2.1 s) (e_sizeOf hw V hq6) (by decide) (Nat.le_of_ble_eq_true rfl) rfl ?_
        obtain ⟨c7, hr⟩ := grd_some hr
        refine Ev.idiv (d15 32 rfl) c7 ?_
        refine Ev.istD (L' := [.val (.ref o), .val (.int a0), .val (.int (a0 / (16 : Int32))), .val (.int (s.2 0 (ix (a0 / (16 : Int32))))), .val (.int (a0 % (16 : Int32))), .val (.int ((a0 % (16 : Int32)) / q5)), .unset]) (d15 33 rfl) rfl rfl rfl ?_
        refine Ev.aloadN (d15 34 rfl) rfl ?_
        refine Ev.gAr V (ww hw 19 rfl) (d15 35 rfl) (j := 2) rfl ?_
        refine Ev.iloadN (d15 36 rfl) rfl ?_
        refine Ev.ial V (j := 2) rfl rfl (d15 37 rfl) b3 ?_
        refine Ev.iload (d15 38 rfl) rfl ?_
        refine Ev.iushr (d15 39 rfl) ?_
        refine Ev.iconst (z := 1) (d15 40 rfl) rfl ?_
        refine Ev.iand (d15 41 rfl) ?_
        refine Ev.ifne (t := 68) (d15 42 rfl) rfl (fun c8 => ?_) (fun c8 => ?_)
        · replace hr := (if_pos c8).symm.trans hr
          refine Ev.iconst (z := -1) (d15 43 rfl) rfl ?_
          cases hr
          exact Ev.ireturn rfl (d15 44 rfl)
        · replace hr := (if_neg c8).symm.trans hr
          refine Ev.aloadN (d15 45 rfl) rfl ?_
          refine Ev.gAr V (ww hw 17 rfl) (d15 46 rfl) (j := 1) rfl ?_
          refine Ev.iloadN (d15 47 rfl) rfl ?_
          refine Ev.ial V (j := 1) rfl rfl (d15 48 rfl) b3 ?_
          refine Ev.istD (L' := [.val (.ref o), .val (.int a0), .val (.int (a0 / (16 : Int32))), .val (.int (s.2 0 (ix (a0 / (16 : Int32))))), .val (.int (a0 % (16 : Int32))), .val (.int ((a0 % (16 : Int32)) / q5)), .val (.int (s.2 1 (ix (a0 / (16 : Int32)))))]) (d15 49 rfl) rfl rfl rfl ?_
          refine Ev.iload (d15 50 rfl) rfl ?_
          refine Ev.iflt (t := 90) (d15 51 rfl) rfl (fun c9 => ?_) (fun c9 => ?_)
          · replace hr := (if_pos c9).symm.trans hr
            refine Ev.iconst (z := -1) (d15 56 rfl) rfl ?_
            cases hr
            exact Ev.ireturn rfl (d15 57 rfl)
          · replace hr := (if_neg c9).symm.trans hr
            refine Ev.iload (d15 52 rfl) rfl ?_
            refine Ev.aloadN (d15 53 rfl) rfl ?_
            refine Ev.gI V (ww hw 29 rfl) (d15 54 rfl) (j := 5) rfl rfl ?_
            refine Ev.iclt (t := 92) (d15 55 rfl) rfl (fun c10 => ?_) (fun c10 => ?_)
            · replace hr := (if_pos c10).symm.trans hr
              refine Ev.iload (d15 58 rfl) rfl ?_
              refine Ev.bipush (z := 16) (d15 59 rfl) rfl ?_
              refine Ev.imul (d15 60 rfl) ?_
              refine Ev.iload (d15 61 rfl) rfl ?_
              refine Ev.iadd (d15 62 rfl) ?_
              cases hr
              exact Ev.ireturn rfl (d15 63 rfl)
            · replace hr := (if_neg c10).symm.trans hr
              refine Ev.iconst (z := -1) (d15 56 rfl) rfl ?_
              cases hr
              exact Ev.ireturn rfl (d15 57 rfl)
    · replace hr := (if_neg c2).symm.trans hr
      refine Ev.iconst (z := -1) (d15 8 rfl) rfl ?_
      cases hr
      exact Ev.ireturn rfl (d15 9 rfl)
def f_isLive (s : St) (a0 : Int32) : Option (Int32) :=
  (f_liveIndex s a0).bind fun q1 =>
  if q1 < 0 then
    some (0 : Int32)
  else
    some (1 : Int32)
set_option maxRecDepth 100000 in
theorem e_isLive {g : GT} {s : St} {a0 : Int32} {w : Int32} (hw : HW g) {K : St → MHeap} {o : Nat} {r : Nat → Nat} (V : View (GG g) Ln K o r) (hr : f_isLive s a0 = some w) : EvC (GG g) M_isLive [.ref o, .int a0] (K s) ((some (.int w)), (K s)) := by
  refine EvC.enter (L0 := [.val (.ref o), .val (.int a0)]) pl_isLive (fun h => nomatch h) rfl rfl ?_
  unfold f_isLive at hr
  refine Ev.aloadN (d14 0 rfl) rfl ?_
  refine Ev.iloadN (d14 1 rfl) rfl ?_
  obtain ⟨q1, hq2, hr⟩ := Option.bind_eq_some_iff.mp hr
  refine Ev.priv (y := M_liveIndex) (args := [.int a0]) (rest := []) (gok hw) rfl nm_liveIndex (ww hw 85 rfl) (ww hw 86 rfl) (ww hw 87 rfl) (ww hw 88 rfl) (lenOf pd_liveIndex rfl) (d14 2 rfl) (V.2.1 s) (e_liveIndex hw V hq2) (by decide) (Nat.le_of_ble_eq_true rfl) rfl ?_
  refine Ev.iflt (t := 12) (d14 3 rfl) rfl (fun c3 => ?_) (fun c3 => ?_)
  · replace hr := (if_pos c3).symm.trans hr
    refine Ev.iconst (z := 0) (d14 6 rfl) rfl ?_
    cases hr
    exact Ev.zret0 rfl (d14 7 rfl)
  · replace hr := (if_neg c3).symm.trans hr
    refine Ev.iconst (z := 1) (d14 4 rfl) rfl ?_
    refine Ev.goto (t := 13) (d14 5 rfl) rfl ?_
    cases hr
    exact Ev.zret1 rfl (d14 7 rfl)
def f_read (s : St) (a0 : Int32) : Option (Int32) :=
  (f_liveIndex s a0).bind fun q1 =>
  if q1 < 0 then
    some (0 : Int32)
  else
    grd (inb q1 256) <|
    some (s.2 3 (ix q1))
set_option maxRecDepth 100000 in
theorem e_read {g : GT} {s : St} {a0 : Int32} {w : Int32} (hw : HW g) {K : St → MHeap} {o : Nat} {r : Nat → Nat} (V : View (GG g) Ln K o r) (hr : f_read s a0 = some w) : EvC (GG g) M_read [.ref o, .int a0] (K s) ((some (.int w)), (K s)) := by
  refine EvC.enter (L0 := [.val (.ref o), .val (.int a0), .unset]) pl_read (fun h => nomatch h) rfl rfl ?_
  unfold f_read at hr
  refine Ev.aloadN (d16 0 rfl) rfl ?_
  refine Ev.iloadN (d16 1 rfl) rfl ?_
  obtain ⟨q1, hq2, hr⟩ := Option.bind_eq_some_iff.mp hr
  refine Ev.priv (y := M_liveIndex) (args := [.int a0]) (rest := []) (gok hw) rfl nm_liveIndex (ww hw 85 rfl) (ww hw 86 rfl) (ww hw 87 rfl) (ww hw 88 rfl) (lenOf pd_liveIndex rfl) (d16 2 rfl) (V.2.1 s) (e_liveIndex hw V hq2) (by decide) (Nat.le_of_ble_eq_true rfl) rfl ?_
  refine Ev.istDN (L' := [.val (.ref o), .val (.int a0), .val (.int q1)]) (d16 3 rfl) rfl rfl rfl ?_
  refine Ev.iloadN (d16 4 rfl) rfl ?_
  refine Ev.ifge (t := 12) (d16 5 rfl) rfl (fun c3 => ?_) (fun c3 => ?_)
  · replace hr := (if_pos c3).symm.trans hr
    refine Ev.iconst (z := 0) (d16 6 rfl) rfl ?_
    cases hr
    exact Ev.ireturn rfl (d16 7 rfl)
  · replace hr := (if_neg c3).symm.trans hr
    refine Ev.aloadN (d16 8 rfl) rfl ?_
    refine Ev.gAr V (ww hw 21 rfl) (d16 9 rfl) (j := 3) rfl ?_
    refine Ev.iloadN (d16 10 rfl) rfl ?_
    obtain ⟨b4, hr⟩ := grd_some hr
    refine Ev.ial V (j := 3) rfl rfl (d16 11 rfl) b4 ?_
    cases hr
    exact Ev.ireturn rfl (d16 12 rfl)
def f_htag (a0 : Int32) : Option (Int32) :=
  some ((a0 * (131 : Int32)) + (7 : Int32))
set_option maxRecDepth 100000 in
theorem e_htag {g : GT} {a0 : Int32} {w : Int32} (hw : HW g) {h : MHeap} (hr : f_htag a0 = some w) : EvC (GG g) M_htag [.int a0] h ((some (.int w)), h) := by
  refine EvC.enter (L0 := [.val (.int a0)]) pl_htag (fun h => nomatch h) rfl rfl ?_
  unfold f_htag at hr
  refine Ev.iloadN (d30 0 rfl) rfl ?_
  refine Ev.sipush (z := 131) (d30 1 rfl) rfl ?_
  refine Ev.imul (d30 2 rfl) ?_
  refine Ev.bipush (z := 7) (d30 3 rfl) rfl ?_
  refine Ev.iadd (d30 4 rfl) ?_
  cases hr
  exact Ev.ireturn rfl (d30 5 rfl)
def f_hconsistent_130 (n : Nat) (s : St) (k19 : Int32 → Int32 → Int32 → Int32 → Int32 → Int32 → Option (Int32)) : Nat → Int32 → Int32 → Int32 → Int32 → Int32 → Int32 → Int32 → Int32 → Int32 → Int32 → Option (Int32)
  | 0 => fun _ _ _ _ _ _ _ _ _ _ => none
  | k + 1 => fun x1 x2 x3 x4 x5 x6 x7 x8 x9 x10 =>
    if x10 < x1 then
      (f_frameOf s x10).bind fun q2 =>
      if q2 = x8 then
        (f_pageClass s x10).bind fun q5 =>
        if q5 = x7 then
          (f_pageBits s x10).bind fun q8 =>
          if (x9 &&& q8) = 0 then
            f_hconsistent_130 n s k19 k x1 x2 x3 x4 x5 x6 x7 x8 x9 (x10 + (1 : Int32))
          else
            some (0 : Int32)
        else
          some (0 : Int32)
      else
        f_hconsistent_130 n s k19 k x1 x2 x3 x4 x5 x6 x7 x8 x9 (x10 + (1 : Int32))
    else
      k19 x1 x2 x3 x4 x5 (x6 + (1 : Int32))
set_option maxRecDepth 100000 in
theorem e_hconsistent_130 {g : GT} {n : Nat} {s : St} (hw : HW g) {K : St → MHeap} {o : Nat} {r : Nat → Nat} (V : View (GG g) Ln K o r) {k19 : Int32 → Int32 → Int32 → Int32 → Int32 → Int32 → Option (Int32)} (hk19 : ∀ (x1 : Int32) (x2 : Int32) (x3 : Int32) (x4 : Int32) (x5 : Int32) (x6 : Int32) (y7 : Slot) (hy7 : one1 y7 = true) (y8 : Slot) (hy8 : one1 y8 = true) (y9 : Slot) (hy9 : one1 y9 = true) (y10 : Slot) (hy10 : one1 y10 = true) (w : Int32), k19 x1 x2 x3 x4 x5 x6 = some w → Ev (GG g) M_hconsistent 19 [.val (.ref o), .val (.int x1), .val (.int x2), .val (.int x3), .val (.int x4), .val (.int x5), .val (.int x6), y7, y8, y9, y10] [] (K s) ((some (.int w)), (K s))) (k : Nat) : ∀ (x1 : Int32) (x2 : Int32) (x3 : Int32) (x4 : Int32) (x5 : Int32) (x6 : Int32) (x7 : Int32) (x8 : Int32) (x9 : Int32) (x10 : Int32) (w : Int32), f_hconsistent_130 n s k19 k x1 x2 x3 x4 x5 x6 x7 x8 x9 x10 = some w → Ev (GG g) M_hconsistent 130 [.val (.ref o), .val (.int x1), .val (.int x2), .val (.int x3), .val (.int x4), .val (.int x5), .val (.int x6), .val (.int x7), .val (.int x8), .val (.int x9), .val (.int x10)] [] (K s) ((some (.int w)), (K s)) := by
  induction k with
  | zero => intro x1 x2 x3 x4 x5 x6 x7 x8 x9 x10 w hr; rw [f_hconsistent_130] at hr; cases hr
  | succ k ih =>
    intro x1 x2 x3 x4 x5 x6 x7 x8 x9 x10 w hr
    rw [f_hconsistent_130] at hr
    refine Ev.iload (d4 68 rfl) rfl ?_
    refine Ev.iloadN (d4 69 rfl) rfl ?_
    refine Ev.icge (t := 178) (d4 70 rfl) rfl (fun c1 => ?_) (fun c1 => ?_)
    · replace hr := (if_pos c1).symm.trans hr
      refine Ev.aloadN (d4 71 rfl) rfl ?_
      refine Ev.iload (d4 72 rfl) rfl ?_
      obtain ⟨q2, hq3, hr⟩ := Option.bind_eq_some_iff.mp hr
      refine Ev.virt (y := M_frameOf) (args := [.int x10]) (rest := []) (gok hw) rfl nm_frameOf (ww hw 47 rfl) (ww hw 48 rfl) (ww hw 49 rfl) (ww hw 50 rfl) (ww hw 51 rfl) (lenOf pd_frameOf rfl) (d4 73 rfl) (V.2.1 s) (e_frameOf hw V hq3) (by decide) (Nat.le_of_ble_eq_true rfl) rfl ?_
      refine Ev.iload (d4 74 rfl) rfl ?_
      refine Ev.icne (t := 172) (d4 75 rfl) rfl (fun c4 => ?_) (fun c4 => ?_)
      · replace hr := (if_pos c4).symm.trans hr
        refine Ev.aloadN (d4 76 rfl) rfl ?_
        refine Ev.iload (d4 77 rfl) rfl ?_
        obtain ⟨q5, hq6, hr⟩ := Option.bind_eq_some_iff.mp hr
        refine Ev.virt (y := M_pageClass) (args := [.int x10]) (rest := []) (gok hw) rfl nm_pageClass (ww hw 42 rfl) (ww hw 43 rfl) (ww hw 44 rfl) (ww hw 45 rfl) (ww hw 46 rfl) (lenOf pd_pageClass rfl) (d4 78 rfl) (V.2.1 s) (e_pageClass hw V hq6) (by decide) (Nat.le_of_ble_eq_true rfl) rfl ?_
        refine Ev.iload (d4 79 rfl) rfl ?_
        refine Ev.icne (t := 170) (d4 80 rfl) rfl (fun c7 => ?_) (fun c7 => ?_)
        · replace hr := (if_pos c7).symm.trans hr
          refine Ev.iload (d4 81 rfl) rfl ?_
          refine Ev.aloadN (d4 82 rfl) rfl ?_
          refine Ev.iload (d4 83 rfl) rfl ?_
          obtain ⟨q8, hq9, hr⟩ := Option.bind_eq_some_iff.mp hr
          refine Ev.virt (y := M_pageBits) (args := [.int x10]) (rest := [.int x9]) (gok hw) rfl nm_pageBits (ww hw 52 rfl) (ww hw 53 rfl) (ww hw 54 rfl) (ww hw 55 rfl) (ww hw 56 rfl) (lenOf pd_pageBits rfl) (d4 84 rfl) (V.2.1 s) (e_pageBits hw V hq9) (by decide) (Nat.le_of_ble_eq_true rfl) rfl ?_
          refine Ev.iand (d4 85 rfl) ?_
          refine Ev.ifeq (t := 172) (d4 86 rfl) rfl (fun c10 => ?_) (fun c10 => ?_)
          · replace hr := (if_pos c10).symm.trans hr
            refine Ev.iinc (z := 1) (L' := [.val (.ref o), .val (.int x1), .val (.int x2), .val (.int x3), .val (.int x4), .val (.int x5), .val (.int x6), .val (.int x7), .val (.int x8), .val (.int x9), .val (.int (x10 + (1 : Int32)))]) (d4 89 rfl) rfl rfl rfl ?_
            refine Ev.goto (t := 130) (d4 90 rfl) rfl ?_
            exact ih x1 x2 x3 x4 x5 x6 x7 x8 x9 (x10 + (1 : Int32))  _ hr
          · replace hr := (if_neg c10).symm.trans hr
            refine Ev.iconst (z := 0) (d4 87 rfl) rfl ?_
            cases hr
            exact Ev.zret0 rfl (d4 88 rfl)
        · replace hr := (if_neg c7).symm.trans hr
          refine Ev.iconst (z := 0) (d4 87 rfl) rfl ?_
          cases hr
          exact Ev.zret0 rfl (d4 88 rfl)
      · replace hr := (if_neg c4).symm.trans hr
        refine Ev.iinc (z := 1) (L' := [.val (.ref o), .val (.int x1), .val (.int x2), .val (.int x3), .val (.int x4), .val (.int x5), .val (.int x6), .val (.int x7), .val (.int x8), .val (.int x9), .val (.int (x10 + (1 : Int32)))]) (d4 89 rfl) rfl rfl rfl ?_
        refine Ev.goto (t := 130) (d4 90 rfl) rfl ?_
        exact ih x1 x2 x3 x4 x5 x6 x7 x8 x9 (x10 + (1 : Int32))  _ hr
    · replace hr := (if_neg c1).symm.trans hr
      refine Ev.iinc (z := 1) (L' := [.val (.ref o), .val (.int x1), .val (.int x2), .val (.int x3), .val (.int x4), .val (.int x5), .val (.int (x6 + (1 : Int32))), .val (.int x7), .val (.int x8), .val (.int x9), .val (.int x10)]) (d4 91 rfl) rfl rfl rfl ?_
      refine Ev.goto (t := 19) (d4 92 rfl) rfl ?_
      exact hk19 x1 x2 x3 x4 x5 (x6 + (1 : Int32)) (.val (.int x7)) rfl (.val (.int x8)) rfl (.val (.int x9)) rfl (.val (.int x10)) rfl _ hr
def f_hconsistent_219 (n : Nat) (s : St) (k207 : Int32 → Int32 → Int32 → Int32 → Option (Int32)) : Nat → Int32 → Int32 → Int32 → Int32 → Int32 → Int32 → Option (Int32)
  | 0 => fun _ _ _ _ _ _ => none
  | k + 1 => fun x1 x2 x6 x7 x8 x9 =>
    if x9 < x1 then
      (f_frameOf s x9).bind fun q2 =>
      if q2 = x7 then
        (f_pageBits s x9).bind fun q5 =>
        f_hconsistent_219 n s k207 k x1 x2 x6 x7 (x8 ||| q5) (x9 + (1 : Int32))
      else
        f_hconsistent_219 n s k207 k x1 x2 x6 x7 x8 (x9 + (1 : Int32))
    else
      (f_frameBits n s x7).bind fun q7 =>
      if q7 = x8 then
        if x8 = 0 then
          k207 x1 x2 x6 (x7 + (1 : Int32))
        else
          k207 x1 x2 (x6 + (1 : Int32)) (x7 + (1 : Int32))
      else
        some (0 : Int32)
set_option maxRecDepth 100000 in
theorem e_hconsistent_219 {g : GT} {n : Nat} {s : St} (hw : HW g) {K : St → MHeap} {o : Nat} {r : Nat → Nat} (V : View (GG g) Ln K o r) {k207 : Int32 → Int32 → Int32 → Int32 → Option (Int32)} (hk207 : ∀ (x1 : Int32) (x2 : Int32) (x6 : Int32) (x7 : Int32) (y3 : Slot) (hy3 : one1 y3 = true) (y4 : Slot) (hy4 : one1 y4 = true) (y5 : Slot) (hy5 : one1 y5 = true) (y8 : Slot) (hy8 : one1 y8 = true) (y9 : Slot) (hy9 : one1 y9 = true) (y10 : Slot) (hy10 : one1 y10 = true) (w : Int32), k207 x1 x2 x6 x7 = some w → Ev (GG g) M_hconsistent 207 [.val (.ref o), .val (.int x1), .val (.int x2), y3, y4, y5, .val (.int x6), .val (.int x7), y8, y9, y10] [] (K s) ((some (.int w)), (K s))) (k : Nat) : ∀ (x1 : Int32) (x2 : Int32) (x6 : Int32) (x7 : Int32) (x8 : Int32) (x9 : Int32) (y3 : Slot) (hy3 : one1 y3 = true) (y4 : Slot) (hy4 : one1 y4 = true) (y5 : Slot) (hy5 : one1 y5 = true) (y10 : Slot) (hy10 : one1 y10 = true) (w : Int32), f_hconsistent_219 n s k207 k x1 x2 x6 x7 x8 x9 = some w → Ev (GG g) M_hconsistent 219 [.val (.ref o), .val (.int x1), .val (.int x2), y3, y4, y5, .val (.int x6), .val (.int x7), .val (.int x8), .val (.int x9), y10] [] (K s) ((some (.int w)), (K s)) := by
  induction k with
  | zero => intro x1 x2 x6 x7 x8 x9 y3 hy3 y4 hy4 y5 hy5 y10 hy10 w hr; rw [f_hconsistent_219] at hr; cases hr
  | succ k ih =>
    intro x1 x2 x6 x7 x8 x9 y3 hy3 y4 hy4 y5 hy5 y10 hy10 w hr
    rw [f_hconsistent_219] at hr
    refine Ev.iload (d4 113 rfl) rfl ?_
    refine Ev.iloadN (d4 114 rfl) rfl ?_
    refine Ev.icge (t := 253) (d4 115 rfl) rfl (fun c1 => ?_) (fun c1 => ?_)
    · replace hr := (if_pos c1).symm.trans hr
      refine Ev.aloadN (d4 116 rfl) rfl ?_
      refine Ev.iload (d4 117 rfl) rfl ?_
      obtain ⟨q2, hq3, hr⟩ := Option.bind_eq_some_iff.mp hr
      refine Ev.virt (y := M_frameOf) (args := [.int x9]) (rest := []) (gok hw) rfl nm_frameOf (ww hw 47 rfl) (ww hw 48 rfl) (ww hw 49 rfl) (ww hw 50 rfl) (ww hw 51 rfl) (lenOf pd_frameOf rfl) (d4 118 rfl) (V.2.1 s) (e_frameOf hw V hq3) (by decide) (Nat.le_of_ble_eq_true rfl) rfl ?_
      refine Ev.iload (d4 119 rfl) rfl ?_
      refine Ev.icne (t := 247) (d4 120 rfl) rfl (fun c4 => ?_) (fun c4 => ?_)
      · replace hr := (if_pos c4).symm.trans hr
        refine Ev.iload (d4 121 rfl) rfl ?_
        refine Ev.aloadN (d4 122 rfl) rfl ?_
        refine Ev.iload (d4 123 rfl) rfl ?_
        obtain ⟨q5, hq6, hr⟩ := Option.bind_eq_some_iff.mp hr
        refine Ev.virt (y := M_pageBits) (args := [.int x9]) (rest := [.int x8]) (gok hw) rfl nm_pageBits (ww hw 52 rfl) (ww hw 53 rfl) (ww hw 54 rfl) (ww hw 55 rfl) (ww hw 56 rfl) (lenOf pd_pageBits rfl) (d4 124 rfl) (V.2.1 s) (e_pageBits hw V hq6) (by decide) (Nat.le_of_ble_eq_true rfl) rfl ?_
        refine Ev.ior (d4 125 rfl) ?_
        refine Ev.istD (L' := [.val (.ref o), .val (.int x1), .val (.int x2), y3, y4, y5, .val (.int x6), .val (.int x7), .val (.int (x8 ||| q5)), .val (.int x9), y10]) (d4 126 rfl) rfl rfl rfl ?_
        refine Ev.iinc (z := 1) (L' := [.val (.ref o), .val (.int x1), .val (.int x2), y3, y4, y5, .val (.int x6), .val (.int x7), .val (.int (x8 ||| q5)), .val (.int (x9 + (1 : Int32))), y10]) (d4 127 rfl) rfl rfl rfl ?_
        refine Ev.goto (t := 219) (d4 128 rfl) rfl ?_
        exact ih x1 x2 x6 x7 (x8 ||| q5) (x9 + (1 : Int32)) y3 hy3 y4 hy4 y5 hy5 y10 hy10 _ hr
      · replace hr := (if_neg c4).symm.trans hr
        refine Ev.iinc (z := 1) (L' := [.val (.ref o), .val (.int x1), .val (.int x2), y3, y4, y5, .val (.int x6), .val (.int x7), .val (.int x8), .val (.int (x9 + (1 : Int32))), y10]) (d4 127 rfl) rfl rfl rfl ?_
        refine Ev.goto (t := 219) (d4 128 rfl) rfl ?_
        exact ih x1 x2 x6 x7 x8 (x9 + (1 : Int32)) y3 hy3 y4 hy4 y5 hy5 y10 hy10 _ hr
    · replace hr := (if_neg c1).symm.trans hr
      refine Ev.aloadN (d4 129 rfl) rfl ?_
      refine Ev.iload (d4 130 rfl) rfl ?_
      obtain ⟨q7, hq8, hr⟩ := Option.bind_eq_some_iff.mp hr
      refine Ev.virt (y := M_frameBits) (args := [.int x7]) (rest := []) (gok hw) rfl nm_frameBits (ww hw 62 rfl) (ww hw 63 rfl) (ww hw 64 rfl) (ww hw 65 rfl) (ww hw 66 rfl) (lenOf pd_frameBits rfl) (d4 131 rfl) (V.2.1 s) (e_frameBits hw V hq8) (by decide) (Nat.le_of_ble_eq_true rfl) rfl ?_
      refine Ev.iload (d4 132 rfl) rfl ?_
      refine Ev.iceq (t := 266) (d4 133 rfl) rfl (fun c9 => ?_) (fun c9 => ?_)
      · replace hr := (if_pos c9).symm.trans hr
        refine Ev.iload (d4 136 rfl) rfl ?_
        refine Ev.ifeq (t := 274) (d4 137 rfl) rfl (fun c10 => ?_) (fun c10 => ?_)
        · replace hr := (if_pos c10).symm.trans hr
          refine Ev.iinc (z := 1) (L' := [.val (.ref o), .val (.int x1), .val (.int x2), y3, y4, y5, .val (.int x6), .val (.int (x7 + (1 : Int32))), .val (.int x8), .val (.int x9), y10]) (d4 139 rfl) rfl rfl rfl ?_
          refine Ev.goto (t := 207) (d4 140 rfl) rfl ?_
          exact hk207 x1 x2 x6 (x7 + (1 : Int32)) y3 hy3 y4 hy4 y5 hy5 (.val (.int x8)) rfl (.val (.int x9)) rfl y10 hy10 _ hr
        · replace hr := (if_neg c10).symm.trans hr
          refine Ev.iinc (z := 1) (L' := [.val (.ref o), .val (.int x1), .val (.int x2), y3, y4, y5, .val (.int (x6 + (1 : Int32))), .val (.int x7), .val (.int x8), .val (.int x9), y10]) (d4 138 rfl) rfl rfl rfl ?_
          refine Ev.iinc (z := 1) (L' := [.val (.ref o), .val (.int x1), .val (.int x2), y3, y4, y5, .val (.int (x6 + (1 : Int32))), .val (.int (x7 + (1 : Int32))), .val (.int x8), .val (.int x9), y10]) (d4 139 rfl) rfl rfl rfl ?_
          refine Ev.goto (t := 207) (d4 140 rfl) rfl ?_
          exact hk207 x1 x2 (x6 + (1 : Int32)) (x7 + (1 : Int32)) y3 hy3 y4 hy4 y5 hy5 (.val (.int x8)) rfl (.val (.int x9)) rfl y10 hy10 _ hr
      · replace hr := (if_neg c9).symm.trans hr
        refine Ev.iconst (z := 0) (d4 134 rfl) rfl ?_
        cases hr
        exact Ev.zret0 rfl (d4 135 rfl)
def f_hconsistent_386 (n : Nat) (s : St) (k294 : Int32 → Int32 → Option (Int32)) (x1 : Int32) (x7 : Int32) (z0 : Int32) (z1 : Int32) : Option (Int32) :=
  if z1 = z0 then
    k294 x1 (x7 + (1 : Int32))
  else
    some (0 : Int32)
set_option maxRecDepth 100000 in
theorem e_hconsistent_386 {g : GT} {n : Nat} {s : St} (hw : HW g) {K : St → MHeap} {o : Nat} {r : Nat → Nat} (V : View (GG g) Ln K o r) {k294 : Int32 → Int32 → Option (Int32)} (hk294 : ∀ (x1 : Int32) (x7 : Int32) (y2 : Slot) (hy2 : one1 y2 = true) (y3 : Slot) (hy3 : one1 y3 = true) (y4 : Slot) (hy4 : one1 y4 = true) (y5 : Slot) (hy5 : one1 y5 = true) (y6 : Slot) (hy6 : one1 y6 = true) (y8 : Slot) (hy8 : one1 y8 = true) (y9 : Slot) (hy9 : one1 y9 = true) (y10 : Slot) (hy10 : one1 y10 = true) (w : Int32), k294 x1 x7 = some w → Ev (GG g) M_hconsistent 294 [.val (.ref o), .val (.int x1), y2, y3, y4, y5, y6, .val (.int x7), y8, y9, y10] [] (K s) ((some (.int w)), (K s))) (x1 : Int32) (x7 : Int32) (z0 : Int32) (z1 : Int32) (y2 : Slot) (hy2 : one1 y2 = true) (y3 : Slot) (hy3 : one1 y3 = true) (y4 : Slot) (hy4 : one1 y4 = true) (y5 : Slot) (hy5 : one1 y5 = true) (y6 : Slot) (hy6 : one1 y6 = true) (y8 : Slot) (hy8 : one1 y8 = true) (y9 : Slot) (hy9 : one1 y9 = true) (y10 : Slot) (hy10 : one1 y10 = true) (w : Int32) (hr : f_hconsistent_386 n s k294 x1 x7 z0 z1 = some w) : Ev (GG g) M_hconsistent 386 [.val (.ref o), .val (.int x1), y2, y3, y4, y5, y6, .val (.int x7), y8, y9, y10] [.int z0, .int z1] (K s) ((some (.int w)), (K s)) := by
  unfold f_hconsistent_386 at hr
  refine Ev.iceq (t := 391) (d4 197 rfl) rfl (fun c1 => ?_) (fun c1 => ?_)
  · replace hr := (if_pos c1).symm.trans hr
    refine Ev.iinc (z := 1) (L' := [.val (.ref o), .val (.int x1), y2, y3, y4, y5, y6, .val (.int (x7 + (1 : Int32))), y8, y9, y10]) (d4 200 rfl) rfl rfl rfl ?_
    refine Ev.goto (t := 294) (d4 201 rfl) rfl ?_
    exact hk294 x1 (x7 + (1 : Int32)) y2 hy2 y3 hy3 y4 hy4 y5 hy5 y6 hy6 y8 hy8 y9 hy9 y10 hy10 _ hr
  · replace hr := (if_neg c1).symm.trans hr
    refine Ev.iconst (z := 0) (d4 198 rfl) rfl ?_
    cases hr
    exact Ev.zret0 rfl (d4 199 rfl)
def f_hconsistent_351 (n : Nat) (s : St) (k294 : Int32 → Int32 → Option (Int32)) (x1 : Int32) (x7 : Int32) (z0 : Int32) : Option (Int32) :=
  (f_isLive s x7).bind fun q1 =>
  if q1 = z0 then
    (f_read s x7).bind fun q4 =>
    if z0 = 0 then
      f_hconsistent_386 n s k294 x1 x7 (0 : Int32) q4
    else
      (f_htag x7).bind fun q7 =>
      f_hconsistent_386 n s k294 x1 x7 q7 q4
  else
    some (0 : Int32)
set_option maxRecDepth 100000 in
theorem e_hconsistent_351 {g : GT} {n : Nat} {s : St} (hw : HW g) {K : St → MHeap} {o : Nat} {r : Nat → Nat} (V : View (GG g) Ln K o r) {k294 : Int32 → Int32 → Option (Int32)} (hk294 : ∀ (x1 : Int32) (x7 : Int32) (y2 : Slot) (hy2 : one1 y2 = true) (y3 : Slot) (hy3 : one1 y3 = true) (y4 : Slot) (hy4 : one1 y4 = true) (y5 : Slot) (hy5 : one1 y5 = true) (y6 : Slot) (hy6 : one1 y6 = true) (y8 : Slot) (hy8 : one1 y8 = true) (y9 : Slot) (hy9 : one1 y9 = true) (y10 : Slot) (hy10 : one1 y10 = true) (w : Int32), k294 x1 x7 = some w → Ev (GG g) M_hconsistent 294 [.val (.ref o), .val (.int x1), y2, y3, y4, y5, y6, .val (.int x7), y8, y9, y10] [] (K s) ((some (.int w)), (K s))) (x1 : Int32) (x7 : Int32) (z0 : Int32) (y2 : Slot) (hy2 : one1 y2 = true) (y3 : Slot) (hy3 : one1 y3 = true) (y4 : Slot) (hy4 : one1 y4 = true) (y5 : Slot) (hy5 : one1 y5 = true) (y6 : Slot) (hy6 : one1 y6 = true) (y8 : Slot) (hy8 : one1 y8 = true) (y9 : Slot) (hy9 : one1 y9 = true) (y10 : Slot) (hy10 : one1 y10 = true) (w : Int32) (hr : f_hconsistent_351 n s k294 x1 x7 z0 = some w) : Ev (GG g) M_hconsistent 351 [.val (.ref o), .val (.int x1), y2, y3, y4, y5, y6, .val (.int x7), y8, y9, y10] [.int z0] (K s) ((some (.int w)), (K s)) := by
  unfold f_hconsistent_351 at hr
  refine Ev.istD (L' := [.val (.ref o), .val (.int x1), y2, y3, y4, y5, y6, .val (.int x7), y8, y9, .val (.int z0)]) (d4 180 rfl) rfl hy10 rfl ?_
  refine Ev.aloadN (d4 181 rfl) rfl ?_
  refine Ev.iload (d4 182 rfl) rfl ?_
  obtain ⟨q1, hq2, hr⟩ := Option.bind_eq_some_iff.mp hr
  refine Ev.virt (y := M_isLive) (args := [.int x7]) (rest := []) (gok hw) rfl nm_isLive (ww hw 80 rfl) (ww hw 81 rfl) (ww hw 82 rfl) (ww hw 83 rfl) (ww hw 84 rfl) (lenOf pd_isLive rfl) (d4 183 rfl) (V.2.1 s) (e_isLive hw V hq2) (by decide) (Nat.le_of_ble_eq_true rfl) rfl ?_
  refine Ev.iload (d4 184 rfl) rfl ?_
  refine Ev.iceq (t := 366) (d4 185 rfl) rfl (fun c3 => ?_) (fun c3 => ?_)
  · replace hr := (if_pos c3).symm.trans hr
    refine Ev.aloadN (d4 188 rfl) rfl ?_
    refine Ev.iload (d4 189 rfl) rfl ?_
    obtain ⟨q4, hq5, hr⟩ := Option.bind_eq_some_iff.mp hr
    refine Ev.virt (y := M_read) (args := [.int x7]) (rest := []) (gok hw) rfl nm_read (ww hw 89 rfl) (ww hw 90 rfl) (ww hw 91 rfl) (ww hw 92 rfl) (ww hw 93 rfl) (lenOf pd_read rfl) (d4 190 rfl) (V.2.1 s) (e_read hw V hq5) (by decide) (Nat.le_of_ble_eq_true rfl) rfl ?_
    refine Ev.iload (d4 191 rfl) rfl ?_
    refine Ev.ifeq (t := 385) (d4 192 rfl) rfl (fun c6 => ?_) (fun c6 => ?_)
    · replace hr := (if_pos c6).symm.trans hr
      refine Ev.iconst (z := 0) (d4 196 rfl) rfl ?_
      exact e_hconsistent_386 hw V hk294 x1 x7 (0 : Int32) q4 y2 hy2 y3 hy3 y4 hy4 y5 hy5 y6 hy6 y8 hy8 y9 hy9 (.val (.int z0)) rfl _ hr
    · replace hr := (if_neg c6).symm.trans hr
      refine Ev.iload (d4 193 rfl) rfl ?_
      obtain ⟨q7, hq8, hr⟩ := Option.bind_eq_some_iff.mp hr
      refine Ev.stat (y := M_htag) (args := [.int x7]) (rest := [.int q4]) nm_htag (ww hw 148 rfl) (ww hw 149 rfl) (ww hw 2 rfl) (ww hw 150 rfl) (lenOf pd_htag rfl) (d4 194 rfl) (e_htag hw hq8) (by decide) (Nat.le_of_ble_eq_true rfl) rfl ?_
      refine Ev.goto (t := 386) (d4 195 rfl) rfl ?_
      exact e_hconsistent_386 hw V hk294 x1 x7 q7 q4 y2 hy2 y3 hy3 y4 hy4 y5 hy5 y6 hy6 y8 hy8 y9 hy9 (.val (.int z0)) rfl _ hr
  · replace hr := (if_neg c3).symm.trans hr
    refine Ev.iconst (z := 0) (d4 186 rfl) rfl ?_
    cases hr
    exact Ev.zret0 rfl (d4 187 rfl)
def f_hconsistent_294 (n : Nat) (s : St) : Nat → Int32 → Int32 → Option (Int32)
  | 0 => fun _ _ => none
  | k + 1 => fun x1 x7 =>
    if x7 < (x1 * (16 : Int32)) then
      (f_pageClass s (x7 / (16 : Int32))).bind fun q2 =>
      if q2 < 0 then
        f_hconsistent_351 n s (f_hconsistent_294 n s k) x1 x7 (0 : Int32)
      else
        (f_pageBits s (x7 / (16 : Int32))).bind fun q5 =>
        (f_hsize q2).bind fun q7 =>
        grd (q7 ≠ 0) <|
        if ((XT.ushr q5 ((x7 % (16 : Int32)) / q7)) &&& (1 : Int32)) = 0 then
          f_hconsistent_351 n s (f_hconsistent_294 n s k) x1 x7 (0 : Int32)
        else
          f_hconsistent_351 n s (f_hconsistent_294 n s k) x1 x7 (1 : Int32)
    else
      some (1 : Int32)
set_option maxRecDepth 100000 in
theorem e_hconsistent_294 {g : GT} {n : Nat} {s : St} (hw : HW g) {K : St → MHeap} {o : Nat} {r : Nat → Nat} (V : View (GG g) Ln K o r) (k : Nat) : ∀ (x1 : Int32) (x7 : Int32) (y2 : Slot) (hy2 : one1 y2 = true) (y3 : Slot) (hy3 : one1 y3 = true) (y4 : Slot) (hy4 : one1 y4 = true) (y5 : Slot) (hy5 : one1 y5 = true) (y6 : Slot) (hy6 : one1 y6 = true) (y8 : Slot) (hy8 : one1 y8 = true) (y9 : Slot) (hy9 : one1 y9 = true) (y10 : Slot) (hy10 : one1 y10 = true) (w : Int32), f_hconsistent_294 n s k x1 x7 = some w → Ev (GG g) M_hconsistent 294 [.val (.ref o), .val (.int x1), y2, y3, y4, y5, y6, .val (.int x7), y8, y9, y10] [] (K s) ((some (.int w)), (K s)) := by
  induction k with
  | zero => intro x1 x7 y2 hy2 y3 hy3 y4 hy4 y5 hy5 y6 hy6 y8 hy8 y9 hy9 y10 hy10 w hr; rw [f_hconsistent_294] at hr; cases hr
  | succ k ih =>
    intro x1 x7 y2 hy2 y3 hy3 y4 hy4 y5 hy5 y6 hy6 y8 hy8 y9 hy9 y10 hy10 w hr
    rw [f_hconsistent_294] at hr
    refine Ev.iload (d4 149 rfl) rfl ?_
    refine Ev.iloadN (d4 150 rfl) rfl ?_
    refine Ev.bipush (z := 16) (d4 151 rfl) rfl ?_
    refine Ev.imul (d4 152 rfl) ?_
    refine Ev.icge (t := 397) (d4 153 rfl) rfl (fun c1 => ?_) (fun c1 => ?_)
    · replace hr := (if_pos c1).symm.trans hr
      refine Ev.iload (d4 154 rfl) rfl ?_
      refine Ev.bipush (z := 16) (d4 155 rfl) rfl ?_
      refine Ev.idiv (d4 156 rfl) (by decide) ?_
      refine Ev.istD (L' := [.val (.ref o), .val (.int x1), y2, y3, y4, y5, y6, .val (.int x7), .val (.int (x7 / (16 : Int32))), y9, y10]) (d4 157 rfl) rfl hy8 rfl ?_
      refine Ev.aloadN (d4 158 rfl) rfl ?_
      refine Ev.iload (d4 159 rfl) rfl ?_
      obtain ⟨q2, hq3, hr⟩ := Option.bind_eq_some_iff.mp hr
      refine Ev.virt (y := M_pageClass) (args := [.int (x7 / (16 : Int32))]) (rest := []) (gok hw) rfl nm_pageClass (ww hw 42 rfl) (ww hw 43 rfl) (ww hw 44 rfl) (ww hw 45 rfl) (ww hw 46 rfl) (lenOf pd_pageClass rfl) (d4 160 rfl) (V.2.1 s) (e_pageClass hw V hq3) (by decide) (Nat.le_of_ble_eq_true rfl) rfl ?_
      refine Ev.istD (L' := [.val (.ref o), .val (.int x1), y2, y3, y4, y5, y6, .val (.int x7), .val (.int (x7 / (16 : Int32))), .val (.int q2), y10]) (d4 161 rfl) rfl hy9 rfl ?_
      refine Ev.iload (d4 162 rfl) rfl ?_
      refine Ev.iflt (t := 350) (d4 163 rfl) rfl (fun c4 => ?_) (fun c4 => ?_)
      · replace hr := (if_pos c4).symm.trans hr
        refine Ev.iconst (z := 0) (d4 179 rfl) rfl ?_
        exact e_hconsistent_351 hw V ih x1 x7 (0 : Int32) y2 hy2 y3 hy3 y4 hy4 y5 hy5 y6 hy6 (.val (.int (x7 / (16 : Int32)))) rfl (.val (.int q2)) rfl y10 hy10 _ hr
      · replace hr := (if_neg c4).symm.trans hr
        refine Ev.aloadN (d4 164 rfl) rfl ?_
        refine Ev.iload (d4 165 rfl) rfl ?_
        obtain ⟨q5, hq6, hr⟩ := Option.bind_eq_some_iff.mp hr
        refine Ev.virt (y := M_pageBits) (args := [.int (x7 / (16 : Int32))]) (rest := []) (gok hw) rfl nm_pageBits (ww hw 52 rfl) (ww hw 53 rfl) (ww hw 54 rfl) (ww hw 55 rfl) (ww hw 56 rfl) (lenOf pd_pageBits rfl) (d4 166 rfl) (V.2.1 s) (e_pageBits hw V hq6) (by decide) (Nat.le_of_ble_eq_true rfl) rfl ?_
        refine Ev.iload (d4 167 rfl) rfl ?_
        refine Ev.bipush (z := 16) (d4 168 rfl) rfl ?_
        refine Ev.irem (d4 169 rfl) (by decide) ?_
        refine Ev.iload (d4 170 rfl) rfl ?_
        obtain ⟨q7, hq8, hr⟩ := Option.bind_eq_some_iff.mp hr
        refine Ev.stat (y := M_hsize) (args := [.int q2]) (rest := [.int (x7 % (16 : Int32)), .int q5]) nm_hsize (ww hw 144 rfl) (ww hw 145 rfl) (ww hw 2 rfl) (ww hw 146 rfl) (lenOf pd_hsize rfl) (d4 171 rfl) (e_hsize hw hq8) (by decide) (Nat.le_of_ble_eq_true rfl) rfl ?_
        obtain ⟨c9, hr⟩ := grd_some hr
        refine Ev.idiv (d4 172 rfl) c9 ?_
        refine Ev.iushr (d4 173 rfl) ?_
        refine Ev.iconst (z := 1) (d4 174 rfl) rfl ?_
        refine Ev.iand (d4 175 rfl) ?_
        refine Ev.ifeq (t := 350) (d4 176 rfl) rfl (fun c10 => ?_) (fun c10 => ?_)
        · replace hr := (if_pos c10).symm.trans hr
          refine Ev.iconst (z := 0) (d4 179 rfl) rfl ?_
          exact e_hconsistent_351 hw V ih x1 x7 (0 : Int32) y2 hy2 y3 hy3 y4 hy4 y5 hy5 y6 hy6 (.val (.int (x7 / (16 : Int32)))) rfl (.val (.int q2)) rfl y10 hy10 _ hr
        · replace hr := (if_neg c10).symm.trans hr
          refine Ev.iconst (z := 1) (d4 177 rfl) rfl ?_
          refine Ev.goto (t := 351) (d4 178 rfl) rfl ?_
          exact e_hconsistent_351 hw V ih x1 x7 (1 : Int32) y2 hy2 y3 hy3 y4 hy4 y5 hy5 y6 hy6 (.val (.int (x7 / (16 : Int32)))) rfl (.val (.int q2)) rfl y10 hy10 _ hr
    · replace hr := (if_neg c1).symm.trans hr
      refine Ev.iconst (z := 1) (d4 202 rfl) rfl ?_
      cases hr
      exact Ev.zret1 rfl (d4 203 rfl)
def f_hconsistent_207 (n : Nat) (s : St) : Nat → Int32 → Int32 → Int32 → Int32 → Option (Int32)
  | 0 => fun _ _ _ _ => none
  | k + 1 => fun x1 x2 x6 x7 =>
    if x7 < x2 then
      f_hconsistent_219 n s (f_hconsistent_207 n s k) n x1 x2 x6 x7 (0 : Int32) (0 : Int32)
    else
      (f_framesInUse n s).bind fun q2 =>
      if x6 = q2 then
        f_hconsistent_294 n s n x1 (0 : Int32)
      else
        some (0 : Int32)
set_option maxRecDepth 100000 in
theorem e_hconsistent_207 {g : GT} {n : Nat} {s : St} (hw : HW g) {K : St → MHeap} {o : Nat} {r : Nat → Nat} (V : View (GG g) Ln K o r) (k : Nat) : ∀ (x1 : Int32) (x2 : Int32) (x6 : Int32) (x7 : Int32) (y3 : Slot) (hy3 : one1 y3 = true) (y4 : Slot) (hy4 : one1 y4 = true) (y5 : Slot) (hy5 : one1 y5 = true) (y8 : Slot) (hy8 : one1 y8 = true) (y9 : Slot) (hy9 : one1 y9 = true) (y10 : Slot) (hy10 : one1 y10 = true) (w : Int32), f_hconsistent_207 n s k x1 x2 x6 x7 = some w → Ev (GG g) M_hconsistent 207 [.val (.ref o), .val (.int x1), .val (.int x2), y3, y4, y5, .val (.int x6), .val (.int x7), y8, y9, y10] [] (K s) ((some (.int w)), (K s)) := by
  induction k with
  | zero => intro x1 x2 x6 x7 y3 hy3 y4 hy4 y5 hy5 y8 hy8 y9 hy9 y10 hy10 w hr; rw [f_hconsistent_207] at hr; cases hr
  | succ k ih =>
    intro x1 x2 x6 x7 y3 hy3 y4 hy4 y5 hy5 y8 hy8 y9 hy9 y10 hy10 w hr
    rw [f_hconsistent_207] at hr
    refine Ev.iload (d4 106 rfl) rfl ?_
    refine Ev.iloadN (d4 107 rfl) rfl ?_
    refine Ev.icge (t := 280) (d4 108 rfl) rfl (fun c1 => ?_) (fun c1 => ?_)
    · replace hr := (if_pos c1).symm.trans hr
      refine Ev.iconst (z := 0) (d4 109 rfl) rfl ?_
      refine Ev.istD (L' := [.val (.ref o), .val (.int x1), .val (.int x2), y3, y4, y5, .val (.int x6), .val (.int x7), .val (.int (0 : Int32)), y9, y10]) (d4 110 rfl) rfl hy8 rfl ?_
      refine Ev.iconst (z := 0) (d4 111 rfl) rfl ?_
      refine Ev.istD (L' := [.val (.ref o), .val (.int x1), .val (.int x2), y3, y4, y5, .val (.int x6), .val (.int x7), .val (.int (0 : Int32)), .val (.int (0 : Int32)), y10]) (d4 112 rfl) rfl hy9 rfl ?_
      exact e_hconsistent_219 hw V ih n x1 x2 x6 x7 (0 : Int32) (0 : Int32) y3 hy3 y4 hy4 y5 hy5 y10 hy10 _ hr
    · replace hr := (if_neg c1).symm.trans hr
      refine Ev.iload (d4 141 rfl) rfl ?_
      refine Ev.aloadN (d4 142 rfl) rfl ?_
      obtain ⟨q2, hq3, hr⟩ := Option.bind_eq_some_iff.mp hr
      refine Ev.virt (y := M_framesInUse) (args := []) (rest := [.int x6]) (gok hw) rfl nm_framesInUse (ww hw 71 rfl) (ww hw 72 rfl) (ww hw 73 rfl) (ww hw 74 rfl) (ww hw 75 rfl) (lenOf pd_framesInUse rfl) (d4 143 rfl) (V.2.1 s) (e_framesInUse hw V hq3) (by decide) (Nat.le_of_ble_eq_true rfl) rfl ?_
      refine Ev.iceq (t := 291) (d4 144 rfl) rfl (fun c4 => ?_) (fun c4 => ?_)
      · replace hr := (if_pos c4).symm.trans hr
        refine Ev.iconst (z := 0) (d4 147 rfl) rfl ?_
        refine Ev.istD (L' := [.val (.ref o), .val (.int x1), .val (.int x2), y3, y4, y5, .val (.int x6), .val (.int (0 : Int32)), y8, y9, y10]) (d4 148 rfl) rfl rfl rfl ?_
        exact e_hconsistent_294 hw V  n x1 (0 : Int32) (.val (.int x2)) rfl y3 hy3 y4 hy4 y5 hy5 (.val (.int x6)) rfl y8 hy8 y9 hy9 y10 hy10 _ hr
      · replace hr := (if_neg c4).symm.trans hr
        refine Ev.iconst (z := 0) (d4 145 rfl) rfl ?_
        cases hr
        exact Ev.zret0 rfl (d4 146 rfl)
def f_hconsistent_19 (n : Nat) (s : St) : Nat → Int32 → Int32 → Int32 → Int32 → Int32 → Int32 → Option (Int32)
  | 0 => fun _ _ _ _ _ _ => none
  | k + 1 => fun x1 x2 x3 x4 x5 x6 =>
    if x6 < x1 then
      (f_pageClass s x6).bind fun q2 =>
      (f_frameOf s x6).bind fun q4 =>
      (f_pageBits s x6).bind fun q6 =>
      if q2 = (-1 : Int32) then
        if q4 = (-1 : Int32) then
          if q6 = 0 then
            f_hconsistent_19 n s k x1 x2 x3 x4 x5 (x6 + (1 : Int32))
          else
            some (0 : Int32)
        else
          some (0 : Int32)
      else
        if q2 < 0 then
          some (0 : Int32)
        else
          if (2 : Int32) < q2 then
            some (0 : Int32)
          else
            if q4 < 0 then
              some (0 : Int32)
            else
              if q4 < x2 then
                if q6 = 0 then
                  some (0 : Int32)
                else
                  (f_hsize q2).bind fun q16 =>
                  grd (q16 ≠ 0) <|
                  if (XT.ushr q6 ((16 : Int32) / q16)) = 0 then
                    (f_hpop n q6).bind fun q20 =>
                    f_hconsistent_130 n s (f_hconsistent_19 n s k) n x1 x2 x3 (x4 + q20) (x5 + (1 : Int32)) x6 q2 q4 q6 (x6 + (1 : Int32))
                  else
                    some (0 : Int32)
              else
                some (0 : Int32)
    else
      (f_pagesInUse n s).bind fun q22 =>
      if x5 = q22 then
        if x4 = x3 then
          f_hconsistent_207 n s n x1 x2 (0 : Int32) (0 : Int32)
        else
          some (0 : Int32)
      else
        some (0 : Int32)
set_option maxRecDepth 100000 in
theorem e_hconsistent_19 {g : GT} {n : Nat} {s : St} (hw : HW g) {K : St → MHeap} {o : Nat} {r : Nat → Nat} (V : View (GG g) Ln K o r) (k : Nat) : ∀ (x1 : Int32) (x2 : Int32) (x3 : Int32) (x4 : Int32) (x5 : Int32) (x6 : Int32) (y7 : Slot) (hy7 : one1 y7 = true) (y8 : Slot) (hy8 : one1 y8 = true) (y9 : Slot) (hy9 : one1 y9 = true) (y10 : Slot) (hy10 : one1 y10 = true) (w : Int32), f_hconsistent_19 n s k x1 x2 x3 x4 x5 x6 = some w → Ev (GG g) M_hconsistent 19 [.val (.ref o), .val (.int x1), .val (.int x2), .val (.int x3), .val (.int x4), .val (.int x5), .val (.int x6), y7, y8, y9, y10] [] (K s) ((some (.int w)), (K s)) := by
  induction k with
  | zero => intro x1 x2 x3 x4 x5 x6 y7 hy7 y8 hy8 y9 hy9 y10 hy10 w hr; rw [f_hconsistent_19] at hr; cases hr
  | succ k ih =>
    intro x1 x2 x3 x4 x5 x6 y7 hy7 y8 hy8 y9 hy9 y10 hy10 w hr
    rw [f_hconsistent_19] at hr
    refine Ev.iload (d4 12 rfl) rfl ?_
    refine Ev.iloadN (d4 13 rfl) rfl ?_
    refine Ev.icge (t := 184) (d4 14 rfl) rfl (fun c1 => ?_) (fun c1 => ?_)
    · replace hr := (if_pos c1).symm.trans hr
      refine Ev.aloadN (d4 15 rfl) rfl ?_
      refine Ev.iload (d4 16 rfl) rfl ?_
      obtain ⟨q2, hq3, hr⟩ := Option.bind_eq_some_iff.mp hr
      refine Ev.virt (y := M_pageClass) (args := [.int x6]) (rest := []) (gok hw) rfl nm_pageClass (ww hw 42 rfl) (ww hw 43 rfl) (ww hw 44 rfl) (ww hw 45 rfl) (ww hw 46 rfl) (lenOf pd_pageClass rfl) (d4 17 rfl) (V.2.1 s) (e_pageClass hw V hq3) (by decide) (Nat.le_of_ble_eq_true rfl) rfl ?_
      refine Ev.istD (L' := [.val (.ref o), .val (.int x1), .val (.int x2), .val (.int x3), .val (.int x4), .val (.int x5), .val (.int x6), .val (.int q2), y8, y9, y10]) (d4 18 rfl) rfl hy7 rfl ?_
      refine Ev.aloadN (d4 19 rfl) rfl ?_
      refine Ev.iload (d4 20 rfl) rfl ?_
      obtain ⟨q4, hq5, hr⟩ := Option.bind_eq_some_iff.mp hr
      refine Ev.virt (y := M_frameOf) (args := [.int x6]) (rest := []) (gok hw) rfl nm_frameOf (ww hw 47 rfl) (ww hw 48 rfl) (ww hw 49 rfl) (ww hw 50 rfl) (ww hw 51 rfl) (lenOf pd_frameOf rfl) (d4 21 rfl) (V.2.1 s) (e_frameOf hw V hq5) (by decide) (Nat.le_of_ble_eq_true rfl) rfl ?_
      refine Ev.istD (L' := [.val (.ref o), .val (.int x1), .val (.int x2), .val (.int x3), .val (.int x4), .val (.int x5), .val (.int x6), .val (.int q2), .val (.int q4), y9, y10]) (d4 22 rfl) rfl hy8 rfl ?_
      refine Ev.aloadN (d4 23 rfl) rfl ?_
      refine Ev.iload (d4 24 rfl) rfl ?_
      obtain ⟨q6, hq7, hr⟩ := Option.bind_eq_some_iff.mp hr
      refine Ev.virt (y := M_pageBits) (args := [.int x6]) (rest := []) (gok hw) rfl nm_pageBits (ww hw 52 rfl) (ww hw 53 rfl) (ww hw 54 rfl) (ww hw 55 rfl) (ww hw 56 rfl) (lenOf pd_pageBits rfl) (d4 25 rfl) (V.2.1 s) (e_pageBits hw V hq7) (by decide) (Nat.le_of_ble_eq_true rfl) rfl ?_
      refine Ev.istD (L' := [.val (.ref o), .val (.int x1), .val (.int x2), .val (.int x3), .val (.int x4), .val (.int x5), .val (.int x6), .val (.int q2), .val (.int q4), .val (.int q6), y10]) (d4 26 rfl) rfl hy9 rfl ?_
      refine Ev.iload (d4 27 rfl) rfl ?_
      refine Ev.iconst (z := -1) (d4 28 rfl) rfl ?_
      refine Ev.icne (t := 68) (d4 29 rfl) rfl (fun c8 => ?_) (fun c8 => ?_)
      · replace hr := (if_pos c8).symm.trans hr
        refine Ev.iload (d4 30 rfl) rfl ?_
        refine Ev.iconst (z := -1) (d4 31 rfl) rfl ?_
        refine Ev.icne (t := 66) (d4 32 rfl) rfl (fun c9 => ?_) (fun c9 => ?_)
        · replace hr := (if_pos c9).symm.trans hr
          refine Ev.iload (d4 33 rfl) rfl ?_
          refine Ev.ifeq (t := 178) (d4 34 rfl) rfl (fun c10 => ?_) (fun c10 => ?_)
          · replace hr := (if_pos c10).symm.trans hr
            refine Ev.iinc (z := 1) (L' := [.val (.ref o), .val (.int x1), .val (.int x2), .val (.int x3), .val (.int x4), .val (.int x5), .val (.int (x6 + (1 : Int32))), .val (.int q2), .val (.int q4), .val (.int q6), y10]) (d4 91 rfl) rfl rfl rfl ?_
            refine Ev.goto (t := 19) (d4 92 rfl) rfl ?_
            exact ih x1 x2 x3 x4 x5 (x6 + (1 : Int32)) (.val (.int q2)) rfl (.val (.int q4)) rfl (.val (.int q6)) rfl y10 hy10 _ hr
          · replace hr := (if_neg c10).symm.trans hr
            refine Ev.iconst (z := 0) (d4 35 rfl) rfl ?_
            cases hr
            exact Ev.zret0 rfl (d4 36 rfl)
        · replace hr := (if_neg c9).symm.trans hr
          refine Ev.iconst (z := 0) (d4 35 rfl) rfl ?_
          cases hr
          exact Ev.zret0 rfl (d4 36 rfl)
      · replace hr := (if_neg c8).symm.trans hr
        refine Ev.iload (d4 37 rfl) rfl ?_
        refine Ev.iflt (t := 109) (d4 38 rfl) rfl (fun c11 => ?_) (fun c11 => ?_)
        · replace hr := (if_pos c11).symm.trans hr
          refine Ev.iconst (z := 0) (d4 56 rfl) rfl ?_
          cases hr
          exact Ev.zret0 rfl (d4 57 rfl)
        · replace hr := (if_neg c11).symm.trans hr
          refine Ev.iload (d4 39 rfl) rfl ?_
          refine Ev.iconst (z := 2) (d4 40 rfl) rfl ?_
          refine Ev.icgt (t := 109) (d4 41 rfl) rfl (fun c12 => ?_) (fun c12 => ?_)
          · replace hr := (if_pos c12).symm.trans hr
            refine Ev.iconst (z := 0) (d4 56 rfl) rfl ?_
            cases hr
            exact Ev.zret0 rfl (d4 57 rfl)
          · replace hr := (if_neg c12).symm.trans hr
            refine Ev.iload (d4 42 rfl) rfl ?_
            refine Ev.iflt (t := 109) (d4 43 rfl) rfl (fun c13 => ?_) (fun c13 => ?_)
            · replace hr := (if_pos c13).symm.trans hr
              refine Ev.iconst (z := 0) (d4 56 rfl) rfl ?_
              cases hr
              exact Ev.zret0 rfl (d4 57 rfl)
            · replace hr := (if_neg c13).symm.trans hr
              refine Ev.iload (d4 44 rfl) rfl ?_
              refine Ev.iloadN (d4 45 rfl) rfl ?_
              refine Ev.icge (t := 109) (d4 46 rfl) rfl (fun c14 => ?_) (fun c14 => ?_)
              · replace hr := (if_pos c14).symm.trans hr
                refine Ev.iload (d4 47 rfl) rfl ?_
                refine Ev.ifeq (t := 109) (d4 48 rfl) rfl (fun c15 => ?_) (fun c15 => ?_)
                · replace hr := (if_pos c15).symm.trans hr
                  refine Ev.iconst (z := 0) (d4 56 rfl) rfl ?_
                  cases hr
                  exact Ev.zret0 rfl (d4 57 rfl)
                · replace hr := (if_neg c15).symm.trans hr
                  refine Ev.iload (d4 49 rfl) rfl ?_
                  refine Ev.bipush (z := 16) (d4 50 rfl) rfl ?_
                  refine Ev.iload (d4 51 rfl) rfl ?_
                  obtain ⟨q16, hq17, hr⟩ := Option.bind_eq_some_iff.mp hr
                  refine Ev.stat (y := M_hsize) (args := [.int q2]) (rest := [.int (16 : Int32), .int q6]) nm_hsize (ww hw 144 rfl) (ww hw 145 rfl) (ww hw 2 rfl) (ww hw 146 rfl) (lenOf pd_hsize rfl) (d4 52 rfl) (e_hsize hw hq17) (by decide) (Nat.le_of_ble_eq_true rfl) rfl ?_
                  obtain ⟨c18, hr⟩ := grd_some hr
                  refine Ev.idiv (d4 53 rfl) c18 ?_
                  refine Ev.iushr (d4 54 rfl) ?_
                  refine Ev.ifeq (t := 111) (d4 55 rfl) rfl (fun c19 => ?_) (fun c19 => ?_)
                  · replace hr := (if_pos c19).symm.trans hr
                    refine Ev.iinc (z := 1) (L' := [.val (.ref o), .val (.int x1), .val (.int x2), .val (.int x3), .val (.int x4), .val (.int (x5 + (1 : Int32))), .val (.int x6), .val (.int q2), .val (.int q4), .val (.int q6), y10]) (d4 58 rfl) rfl rfl rfl ?_
                    refine Ev.iload (d4 59 rfl) rfl ?_
                    refine Ev.iload (d4 60 rfl) rfl ?_
                    obtain ⟨q20, hq21, hr⟩ := Option.bind_eq_some_iff.mp hr
                    refine Ev.stat (y := M_hpop) (args := [.int q6]) (rest := [.int x4]) nm_hpop (ww hw 160 rfl) (ww hw 161 rfl) (ww hw 2 rfl) (ww hw 162 rfl) (lenOf pd_hpop rfl) (d4 61 rfl) (e_hpop hw hq21) (by decide) (Nat.le_of_ble_eq_true rfl) rfl ?_
                    refine Ev.iadd (d4 62 rfl) ?_
                    refine Ev.istD (L' := [.val (.ref o), .val (.int x1), .val (.int x2), .val (.int x3), .val (.int (x4 + q20)), .val (.int (x5 + (1 : Int32))), .val (.int x6), .val (.int q2), .val (.int q4), .val (.int q6), y10]) (d4 63 rfl) rfl rfl rfl ?_
                    refine Ev.iload (d4 64 rfl) rfl ?_
                    refine Ev.iconst (z := 1) (d4 65 rfl) rfl ?_
                    refine Ev.iadd (d4 66 rfl) ?_
                    refine Ev.istD (L' := [.val (.ref o), .val (.int x1), .val (.int x2), .val (.int x3), .val (.int (x4 + q20)), .val (.int (x5 + (1 : Int32))), .val (.int x6), .val (.int q2), .val (.int q4), .val (.int q6), .val (.int (x6 + (1 : Int32)))]) (d4 67 rfl) rfl hy10 rfl ?_
                    exact e_hconsistent_130 hw V ih n x1 x2 x3 (x4 + q20) (x5 + (1 : Int32)) x6 q2 q4 q6 (x6 + (1 : Int32))  _ hr
                  · replace hr := (if_neg c19).symm.trans hr
                    refine Ev.iconst (z := 0) (d4 56 rfl) rfl ?_
                    cases hr
                    exact Ev.zret0 rfl (d4 57 rfl)
              · replace hr := (if_neg c14).symm.trans hr
                refine Ev.iconst (z := 0) (d4 56 rfl) rfl ?_
                cases hr
                exact Ev.zret0 rfl (d4 57 rfl)
    · replace hr := (if_neg c1).symm.trans hr
      refine Ev.iload (d4 93 rfl) rfl ?_
      refine Ev.aloadN (d4 94 rfl) rfl ?_
      obtain ⟨q22, hq23, hr⟩ := Option.bind_eq_some_iff.mp hr
      refine Ev.virt (y := M_pagesInUse) (args := []) (rest := [.int x5]) (gok hw) rfl nm_pagesInUse (ww hw 57 rfl) (ww hw 58 rfl) (ww hw 59 rfl) (ww hw 60 rfl) (ww hw 61 rfl) (lenOf pd_pagesInUse rfl) (d4 95 rfl) (V.2.1 s) (e_pagesInUse hw V hq23) (by decide) (Nat.le_of_ble_eq_true rfl) rfl ?_
      refine Ev.icne (t := 199) (d4 96 rfl) rfl (fun c24 => ?_) (fun c24 => ?_)
      · replace hr := (if_pos c24).symm.trans hr
        refine Ev.iload (d4 97 rfl) rfl ?_
        refine Ev.iloadN (d4 98 rfl) rfl ?_
        refine Ev.iceq (t := 201) (d4 99 rfl) rfl (fun c25 => ?_) (fun c25 => ?_)
        · replace hr := (if_pos c25).symm.trans hr
          refine Ev.iconst (z := 0) (d4 102 rfl) rfl ?_
          refine Ev.istD (L' := [.val (.ref o), .val (.int x1), .val (.int x2), .val (.int x3), .val (.int x4), .val (.int x5), .val (.int (0 : Int32)), y7, y8, y9, y10]) (d4 103 rfl) rfl rfl rfl ?_
          refine Ev.iconst (z := 0) (d4 104 rfl) rfl ?_
          refine Ev.istD (L' := [.val (.ref o), .val (.int x1), .val (.int x2), .val (.int x3), .val (.int x4), .val (.int x5), .val (.int (0 : Int32)), .val (.int (0 : Int32)), y8, y9, y10]) (d4 105 rfl) rfl hy7 rfl ?_
          exact e_hconsistent_207 hw V  n x1 x2 (0 : Int32) (0 : Int32) (.val (.int x3)) rfl (.val (.int x4)) rfl (.val (.int x5)) rfl y8 hy8 y9 hy9 y10 hy10 _ hr
        · replace hr := (if_neg c25).symm.trans hr
          refine Ev.iconst (z := 0) (d4 100 rfl) rfl ?_
          cases hr
          exact Ev.zret0 rfl (d4 101 rfl)
      · replace hr := (if_neg c24).symm.trans hr
        refine Ev.iconst (z := 0) (d4 100 rfl) rfl ?_
        cases hr
        exact Ev.zret0 rfl (d4 101 rfl)
def f_hconsistent (n : Nat) (s : St) (a1 : Int32) (a2 : Int32) (a3 : Int32) : Option (Int32) :=
  (f_liveObjects n s).bind fun q1 =>
  if q1 = a3 then
    f_hconsistent_19 n s n a1 a2 a3 (0 : Int32) (0 : Int32) (0 : Int32)
  else
    some (0 : Int32)
set_option maxRecDepth 100000 in
theorem e_hconsistent {g : GT} {n : Nat} {s : St} {a1 : Int32} {a2 : Int32} {a3 : Int32} {w : Int32} (hw : HW g) {K : St → MHeap} {o : Nat} {r : Nat → Nat} (V : View (GG g) Ln K o r) (hr : f_hconsistent n s a1 a2 a3 = some w) : EvC (GG g) M_hconsistent [.ref o, .int a1, .int a2, .int a3] (K s) ((some (.int w)), (K s)) := by
  refine EvC.enter (L0 := [.val (.ref o), .val (.int a1), .val (.int a2), .val (.int a3), .unset, .unset, .unset, .unset, .unset, .unset, .unset]) pl_hconsistent (fun h => nomatch h) rfl rfl ?_
  unfold f_hconsistent at hr
  refine Ev.aloadN (d4 0 rfl) rfl ?_
  obtain ⟨q1, hq2, hr⟩ := Option.bind_eq_some_iff.mp hr
  refine Ev.virt (y := M_liveObjects) (args := []) (rest := []) (gok hw) rfl nm_liveObjects (ww hw 37 rfl) (ww hw 38 rfl) (ww hw 39 rfl) (ww hw 40 rfl) (ww hw 41 rfl) (lenOf pd_liveObjects rfl) (d4 1 rfl) (V.2.1 s) (e_liveObjects hw V hq2) (by decide) (Nat.le_of_ble_eq_true rfl) rfl ?_
  refine Ev.iloadN (d4 2 rfl) rfl ?_
  refine Ev.iceq (t := 10) (d4 3 rfl) rfl (fun c3 => ?_) (fun c3 => ?_)
  · replace hr := (if_pos c3).symm.trans hr
    refine Ev.iconst (z := 0) (d4 6 rfl) rfl ?_
    refine Ev.istD (L' := [.val (.ref o), .val (.int a1), .val (.int a2), .val (.int a3), .val (.int (0 : Int32)), .unset, .unset, .unset, .unset, .unset, .unset]) (d4 7 rfl) rfl rfl rfl ?_
    refine Ev.iconst (z := 0) (d4 8 rfl) rfl ?_
    refine Ev.istD (L' := [.val (.ref o), .val (.int a1), .val (.int a2), .val (.int a3), .val (.int (0 : Int32)), .val (.int (0 : Int32)), .unset, .unset, .unset, .unset, .unset]) (d4 9 rfl) rfl rfl rfl ?_
    refine Ev.iconst (z := 0) (d4 10 rfl) rfl ?_
    refine Ev.istD (L' := [.val (.ref o), .val (.int a1), .val (.int a2), .val (.int a3), .val (.int (0 : Int32)), .val (.int (0 : Int32)), .val (.int (0 : Int32)), .unset, .unset, .unset, .unset]) (d4 11 rfl) rfl rfl rfl ?_
    exact e_hconsistent_19 hw V  n a1 a2 a3 (0 : Int32) (0 : Int32) (0 : Int32) .unset rfl .unset rfl .unset rfl .unset rfl _ hr
  · replace hr := (if_neg c3).symm.trans hr
    refine Ev.iconst (z := 0) (d4 4 rfl) rfl ?_
    cases hr
    exact Ev.zret0 rfl (d4 5 rfl)
def f_hmod (a0 : Int32) (a1 : Int32) : Option (Int32) :=
  grd (a1 ≠ 0) <|
  if (a0 % a1) < 0 then
    some ((a0 % a1) + a1)
  else
    some (a0 % a1)
set_option maxRecDepth 100000 in
theorem e_hmod {g : GT} {a0 : Int32} {a1 : Int32} {w : Int32} (hw : HW g) {h : MHeap} (hr : f_hmod a0 a1 = some w) : EvC (GG g) M_hmod [.int a0, .int a1] h ((some (.int w)), h) := by
  refine EvC.enter (L0 := [.val (.int a0), .val (.int a1), .unset]) pl_hmod (fun h => nomatch h) rfl rfl ?_
  unfold f_hmod at hr
  refine Ev.iloadN (d17 0 rfl) rfl ?_
  refine Ev.iloadN (d17 1 rfl) rfl ?_
  obtain ⟨c1, hr⟩ := grd_some hr
  refine Ev.irem (d17 2 rfl) c1 ?_
  refine Ev.istDN (L' := [.val (.int a0), .val (.int a1), .val (.int (a0 % a1))]) (d17 3 rfl) rfl rfl rfl ?_
  refine Ev.iloadN (d17 4 rfl) rfl ?_
  refine Ev.ifge (t := 14) (d17 5 rfl) rfl (fun c2 => ?_) (fun c2 => ?_)
  · replace hr := (if_pos c2).symm.trans hr
    refine Ev.iloadN (d17 6 rfl) rfl ?_
    refine Ev.iloadN (d17 7 rfl) rfl ?_
    refine Ev.iadd (d17 8 rfl) ?_
    refine Ev.goto (t := 15) (d17 9 rfl) rfl ?_
    cases hr
    exact Ev.ireturn rfl (d17 11 rfl)
  · replace hr := (if_neg c2).symm.trans hr
    refine Ev.iloadN (d17 10 rfl) rfl ?_
    cases hr
    exact Ev.ireturn rfl (d17 11 rfl)
def f_rngState (s : St) : Option (Int32) :=
  some (s.1 6)
set_option maxRecDepth 100000 in
theorem e_rngState {g : GT} {s : St} {w : Int32} (hw : HW g) {K : St → MHeap} {o : Nat} {r : Nat → Nat} (V : View (GG g) Ln K o r) (hr : f_rngState s = some w) : EvC (GG g) M_rngState [.ref o] (K s) ((some (.int w)), (K s)) := by
  refine EvC.enter (L0 := [.val (.ref o)]) pl_rngState (fun h => nomatch h) rfl rfl ?_
  unfold f_rngState at hr
  refine Ev.aloadN (d18 0 rfl) rfl ?_
  refine Ev.gI V (ww hw 32 rfl) (d18 1 rfl) (j := 6) rfl rfl ?_
  cases hr
  exact Ev.ireturn rfl (d18 2 rfl)
def f_slotsOf (s : St) (a0 : Int32) : Option (Int32) :=
  some ((16 : Int32) >>> (a0 &&& 31))
set_option maxRecDepth 100000 in
theorem e_slotsOf {g : GT} {s : St} {a0 : Int32} {w : Int32} (hw : HW g) {K : St → MHeap} {o : Nat} {r : Nat → Nat} (V : View (GG g) Ln K o r) (hr : f_slotsOf s a0 = some w) : EvC (GG g) M_slotsOf [.ref o, .int a0] (K s) ((some (.int w)), (K s)) := by
  refine EvC.enter (L0 := [.val (.ref o), .val (.int a0)]) pl_slotsOf (fun h => nomatch h) rfl rfl ?_
  unfold f_slotsOf at hr
  refine Ev.bipush (z := 16) (d21 0 rfl) rfl ?_
  refine Ev.iloadN (d21 1 rfl) rfl ?_
  refine Ev.ishr (d21 2 rfl) ?_
  cases hr
  exact Ev.ireturn rfl (d21 3 rfl)
def f_countClear_5 (n : Nat) (s : St) : Nat → Int32 → Int32 → Int32 → Int32 → Option (Int32)
  | 0 => fun _ _ _ _ => none
  | k + 1 => fun x1 x2 x3 x4 =>
    if x4 < x2 then
      if ((XT.ushr x1 x4) &&& (1 : Int32)) = 0 then
        f_countClear_5 n s k x1 x2 (x3 + (1 : Int32)) (x4 + (1 : Int32))
      else
        f_countClear_5 n s k x1 x2 x3 (x4 + (1 : Int32))
    else
      some x3
set_option maxRecDepth 100000 in
theorem e_countClear_5 {g : GT} {n : Nat} {s : St} (hw : HW g) {K : St → MHeap} {o : Nat} {r : Nat → Nat} (V : View (GG g) Ln K o r) (k : Nat) : ∀ (x1 : Int32) (x2 : Int32) (x3 : Int32) (x4 : Int32) (y0 : Slot) (hy0 : one1 y0 = true) (w : Int32), f_countClear_5 n s k x1 x2 x3 x4 = some w → Ev (GG g) M_countClear 5 [y0, .val (.int x1), .val (.int x2), .val (.int x3), .val (.int x4)] [] (K s) ((some (.int w)), (K s)) := by
  induction k with
  | zero => intro x1 x2 x3 x4 y0 hy0 w hr; rw [f_countClear_5] at hr; cases hr
  | succ k ih =>
    intro x1 x2 x3 x4 y0 hy0 w hr
    rw [f_countClear_5] at hr
    refine Ev.iload (d26 4 rfl) rfl ?_
    refine Ev.iloadN (d26 5 rfl) rfl ?_
    refine Ev.icge (t := 29) (d26 6 rfl) rfl (fun c1 => ?_) (fun c1 => ?_)
    · replace hr := (if_pos c1).symm.trans hr
      refine Ev.iloadN (d26 7 rfl) rfl ?_
      refine Ev.iload (d26 8 rfl) rfl ?_
      refine Ev.iushr (d26 9 rfl) ?_
      refine Ev.iconst (z := 1) (d26 10 rfl) rfl ?_
      refine Ev.iand (d26 11 rfl) ?_
      refine Ev.ifne (t := 23) (d26 12 rfl) rfl (fun c2 => ?_) (fun c2 => ?_)
      · replace hr := (if_pos c2).symm.trans hr
        refine Ev.iinc (z := 1) (L' := [y0, .val (.int x1), .val (.int x2), .val (.int (x3 + (1 : Int32))), .val (.int x4)]) (d26 13 rfl) rfl rfl rfl ?_
        refine Ev.iinc (z := 1) (L' := [y0, .val (.int x1), .val (.int x2), .val (.int (x3 + (1 : Int32))), .val (.int (x4 + (1 : Int32)))]) (d26 14 rfl) rfl rfl rfl ?_
        refine Ev.goto (t := 5) (d26 15 rfl) rfl ?_
        exact ih x1 x2 (x3 + (1 : Int32)) (x4 + (1 : Int32)) y0 hy0 _ hr
      · replace hr := (if_neg c2).symm.trans hr
        refine Ev.iinc (z := 1) (L' := [y0, .val (.int x1), .val (.int x2), .val (.int x3), .val (.int (x4 + (1 : Int32)))]) (d26 14 rfl) rfl rfl rfl ?_
        refine Ev.goto (t := 5) (d26 15 rfl) rfl ?_
        exact ih x1 x2 x3 (x4 + (1 : Int32)) y0 hy0 _ hr
    · replace hr := (if_neg c1).symm.trans hr
      refine Ev.iloadN (d26 16 rfl) rfl ?_
      cases hr
      exact Ev.ireturn rfl (d26 17 rfl)
def f_countClear (n : Nat) (s : St) (a0 : Int32) (a1 : Int32) : Option (Int32) :=
  f_countClear_5 n s n a0 a1 (0 : Int32) (0 : Int32)
set_option maxRecDepth 100000 in
theorem e_countClear {g : GT} {n : Nat} {s : St} {a0 : Int32} {a1 : Int32} {w : Int32} (hw : HW g) {K : St → MHeap} {o : Nat} {r : Nat → Nat} (V : View (GG g) Ln K o r) (hr : f_countClear n s a0 a1 = some w) : EvC (GG g) M_countClear [.ref o, .int a0, .int a1] (K s) ((some (.int w)), (K s)) := by
  refine EvC.enter (L0 := [.val (.ref o), .val (.int a0), .val (.int a1), .unset, .unset]) pl_countClear (fun h => nomatch h) rfl rfl ?_
  unfold f_countClear at hr
  refine Ev.iconst (z := 0) (d26 0 rfl) rfl ?_
  refine Ev.istDN (L' := [.val (.ref o), .val (.int a0), .val (.int a1), .val (.int (0 : Int32)), .unset]) (d26 1 rfl) rfl rfl rfl ?_
  refine Ev.iconst (z := 0) (d26 2 rfl) rfl ?_
  refine Ev.istD (L' := [.val (.ref o), .val (.int a0), .val (.int a1), .val (.int (0 : Int32)), .val (.int (0 : Int32))]) (d26 3 rfl) rfl rfl rfl ?_
  exact e_countClear_5 hw V  n a0 a1 (0 : Int32) (0 : Int32) (.val (.ref o)) rfl _ hr
def f_findEligible_8 (n : Nat) (s : St) : Nat → Int32 → Int32 → Int32 → Option (Int32)
  | 0 => fun _ _ _ => none
  | k + 1 => fun x1 x2 x3 =>
    if x3 < (s.1 4) then
      grd (inb x3 16) <|
      if (s.2 0 (ix x3)) = x1 then
        (f_unionOf n s (s.2 1 (ix x3))).bind fun q4 =>
        (f_countClear n s q4 x2).bind fun q6 =>
        if 0 < q6 then
          some x3
        else
          f_findEligible_8 n s k x1 x2 (x3 + (1 : Int32))
      else
        f_findEligible_8 n s k x1 x2 (x3 + (1 : Int32))
    else
      some (-1 : Int32)
set_option maxRecDepth 100000 in
theorem e_findEligible_8 {g : GT} {n : Nat} {s : St} (hw : HW g) {K : St → MHeap} {o : Nat} {r : Nat → Nat} (V : View (GG g) Ln K o r) (k : Nat) : ∀ (x1 : Int32) (x2 : Int32) (x3 : Int32) (y4 : Slot) (hy4 : one1 y4 = true) (w : Int32), f_findEligible_8 n s k x1 x2 x3 = some w → Ev (GG g) M_findEligible 8 [.val (.ref o), .val (.int x1), .val (.int x2), .val (.int x3), y4] [] (K s) ((some (.int w)), (K s)) := by
  induction k with
  | zero => intro x1 x2 x3 y4 hy4 w hr; rw [f_findEligible_8] at hr; cases hr
  | succ k ih =>
    intro x1 x2 x3 y4 hy4 w hr
    rw [f_findEligible_8] at hr
    refine Ev.iloadN (d20 6 rfl) rfl ?_
    refine Ev.aloadN (d20 7 rfl) rfl ?_
    refine Ev.gI V (ww hw 27 rfl) (d20 8 rfl) (j := 4) rfl rfl ?_
    refine Ev.icge (t := 56) (d20 9 rfl) rfl (fun c1 => ?_) (fun c1 => ?_)
    · replace hr := (if_pos c1).symm.trans hr
      refine Ev.aloadN (d20 10 rfl) rfl ?_
      refine Ev.gAr V (ww hw 15 rfl) (d20 11 rfl) (j := 0) rfl ?_
      refine Ev.iloadN (d20 12 rfl) rfl ?_
      obtain ⟨b2, hr⟩ := grd_some hr
      refine Ev.ial V (j := 0) rfl rfl (d20 13 rfl) b2 ?_
      refine Ev.iloadN (d20 14 rfl) rfl ?_
      refine Ev.icne (t := 50) (d20 15 rfl) rfl (fun c3 => ?_) (fun c3 => ?_)
      · replace hr := (if_pos c3).symm.trans hr
        refine Ev.aloadN (d20 16 rfl) rfl ?_
        refine Ev.aloadN (d20 17 rfl) rfl ?_
        refine Ev.gAr V (ww hw 17 rfl) (d20 18 rfl) (j := 1) rfl ?_
        refine Ev.iloadN (d20 19 rfl) rfl ?_
        refine Ev.ial V (j := 1) rfl rfl (d20 20 rfl) b2 ?_
        obtain ⟨q4, hq5, hr⟩ := Option.bind_eq_some_iff.mp hr
        refine Ev.priv (y := M_unionOf) (args := [.int (s.2 1 (ix x3))]) (rest := []) (gok hw) rfl nm_unionOf (ww hw 67 rfl) (ww hw 68 rfl) (ww hw 69 rfl) (ww hw 70 rfl) (lenOf pd_unionOf rfl) (d20 21 rfl) (V.2.1 s) (e_unionOf hw V hq5) (by decide) (Nat.le_of_ble_eq_true rfl) rfl ?_
        refine Ev.istD (L' := [.val (.ref o), .val (.int x1), .val (.int x2), .val (.int x3), .val (.int q4)]) (d20 22 rfl) rfl hy4 rfl ?_
        refine Ev.aloadN (d20 23 rfl) rfl ?_
        refine Ev.iload (d20 24 rfl) rfl ?_
        refine Ev.iloadN (d20 25 rfl) rfl ?_
        obtain ⟨q6, hq7, hr⟩ := Option.bind_eq_some_iff.mp hr
        refine Ev.priv (y := M_countClear) (args := [.int q4, .int x2]) (rest := []) (gok hw) rfl nm_countClear (ww hw 131 rfl) (ww hw 132 rfl) (ww hw 133 rfl) (ww hw 134 rfl) (lenOf pd_countClear rfl) (d20 26 rfl) (V.2.1 s) (e_countClear hw V hq7) (by decide) (Nat.le_of_ble_eq_true rfl) rfl ?_
        refine Ev.ifle (t := 50) (d20 27 rfl) rfl (fun c8 => ?_) (fun c8 => ?_)
        · replace hr := (if_pos c8).symm.trans hr
          refine Ev.iloadN (d20 28 rfl) rfl ?_
          cases hr
          exact Ev.ireturn rfl (d20 29 rfl)
        · replace hr := (if_neg c8).symm.trans hr
          refine Ev.iinc (z := 1) (L' := [.val (.ref o), .val (.int x1), .val (.int x2), .val (.int (x3 + (1 : Int32))), .val (.int q4)]) (d20 30 rfl) rfl rfl rfl ?_
          refine Ev.goto (t := 8) (d20 31 rfl) rfl ?_
          exact ih x1 x2 (x3 + (1 : Int32)) (.val (.int q4)) rfl _ hr
      · replace hr := (if_neg c3).symm.trans hr
        refine Ev.iinc (z := 1) (L' := [.val (.ref o), .val (.int x1), .val (.int x2), .val (.int (x3 + (1 : Int32))), y4]) (d20 30 rfl) rfl rfl rfl ?_
        refine Ev.goto (t := 8) (d20 31 rfl) rfl ?_
        exact ih x1 x2 (x3 + (1 : Int32)) y4 hy4 _ hr
    · replace hr := (if_neg c1).symm.trans hr
      refine Ev.iconst (z := -1) (d20 32 rfl) rfl ?_
      cases hr
      exact Ev.ireturn rfl (d20 33 rfl)
def f_findEligible (n : Nat) (s : St) (a0 : Int32) : Option (Int32) :=
  (f_slotsOf s a0).bind fun q1 =>
  f_findEligible_8 n s n a0 q1 (0 : Int32)
set_option maxRecDepth 100000 in
theorem e_findEligible {g : GT} {n : Nat} {s : St} {a0 : Int32} {w : Int32} (hw : HW g) {K : St → MHeap} {o : Nat} {r : Nat → Nat} (V : View (GG g) Ln K o r) (hr : f_findEligible n s a0 = some w) : EvC (GG g) M_findEligible [.ref o, .int a0] (K s) ((some (.int w)), (K s)) := by
  refine EvC.enter (L0 := [.val (.ref o), .val (.int a0), .unset, .unset, .unset]) pl_findEligible (fun h => nomatch h) rfl rfl ?_
  unfold f_findEligible at hr
  refine Ev.aloadN (d20 0 rfl) rfl ?_
  refine Ev.iloadN (d20 1 rfl) rfl ?_
  obtain ⟨q1, hq2, hr⟩ := Option.bind_eq_some_iff.mp hr
  refine Ev.priv (y := M_slotsOf) (args := [.int a0]) (rest := []) (gok hw) rfl nm_slotsOf (ww hw 111 rfl) (ww hw 112 rfl) (ww hw 113 rfl) (ww hw 114 rfl) (lenOf pd_slotsOf rfl) (d20 2 rfl) (V.2.1 s) (e_slotsOf hw V hq2) (by decide) (Nat.le_of_ble_eq_true rfl) rfl ?_
  refine Ev.istDN (L' := [.val (.ref o), .val (.int a0), .val (.int q1), .unset, .unset]) (d20 3 rfl) rfl rfl rfl ?_
  refine Ev.iconst (z := 0) (d20 4 rfl) rfl ?_
  refine Ev.istDN (L' := [.val (.ref o), .val (.int a0), .val (.int q1), .val (.int (0 : Int32)), .unset]) (d20 5 rfl) rfl rfl rfl ?_
  exact e_findEligible_8 hw V  n a0 q1 (0 : Int32) .unset rfl _ hr
def f_lowestUnusedPage_2 (n : Nat) (s : St) : Nat → Int32 → Option (Int32)
  | 0 => fun _ => none
  | k + 1 => fun x1 =>
    if x1 < (s.1 4) then
      grd (inb x1 16) <|
      if (s.2 0 (ix x1)) = (-1 : Int32) then
        some x1
      else
        f_lowestUnusedPage_2 n s k (x1 + (1 : Int32))
    else
      some (-1 : Int32)
set_option maxRecDepth 100000 in
theorem e_lowestUnusedPage_2 {g : GT} {n : Nat} {s : St} (hw : HW g) {K : St → MHeap} {o : Nat} {r : Nat → Nat} (V : View (GG g) Ln K o r) (k : Nat) : ∀ (x1 : Int32) (w : Int32), f_lowestUnusedPage_2 n s k x1 = some w → Ev (GG g) M_lowestUnusedPage 2 [.val (.ref o), .val (.int x1)] [] (K s) ((some (.int w)), (K s)) := by
  induction k with
  | zero => intro x1 w hr; rw [f_lowestUnusedPage_2] at hr; cases hr
  | succ k ih =>
    intro x1 w hr
    rw [f_lowestUnusedPage_2] at hr
    refine Ev.iloadN (d22 2 rfl) rfl ?_
    refine Ev.aloadN (d22 3 rfl) rfl ?_
    refine Ev.gI V (ww hw 27 rfl) (d22 4 rfl) (j := 4) rfl rfl ?_
    refine Ev.icge (t := 28) (d22 5 rfl) rfl (fun c1 => ?_) (fun c1 => ?_)
    · replace hr := (if_pos c1).symm.trans hr
      refine Ev.aloadN (d22 6 rfl) rfl ?_
      refine Ev.gAr V (ww hw 15 rfl) (d22 7 rfl) (j := 0) rfl ?_
      refine Ev.iloadN (d22 8 rfl) rfl ?_
      obtain ⟨b2, hr⟩ := grd_some hr
      refine Ev.ial V (j := 0) rfl rfl (d22 9 rfl) b2 ?_
      refine Ev.iconst (z := -1) (d22 10 rfl) rfl ?_
      refine Ev.icne (t := 22) (d22 11 rfl) rfl (fun c3 => ?_) (fun c3 => ?_)
      · replace hr := (if_pos c3).symm.trans hr
        refine Ev.iloadN (d22 12 rfl) rfl ?_
        cases hr
        exact Ev.ireturn rfl (d22 13 rfl)
      · replace hr := (if_neg c3).symm.trans hr
        refine Ev.iinc (z := 1) (L' := [.val (.ref o), .val (.int (x1 + (1 : Int32)))]) (d22 14 rfl) rfl rfl rfl ?_
        refine Ev.goto (t := 2) (d22 15 rfl) rfl ?_
        exact ih (x1 + (1 : Int32))  _ hr
    · replace hr := (if_neg c1).symm.trans hr
      refine Ev.iconst (z := -1) (d22 16 rfl) rfl ?_
      cases hr
      exact Ev.ireturn rfl (d22 17 rfl)
def f_lowestUnusedPage (n : Nat) (s : St) : Option (Int32) :=
  f_lowestUnusedPage_2 n s n (0 : Int32)
set_option maxRecDepth 100000 in
theorem e_lowestUnusedPage {g : GT} {n : Nat} {s : St} {w : Int32} (hw : HW g) {K : St → MHeap} {o : Nat} {r : Nat → Nat} (V : View (GG g) Ln K o r) (hr : f_lowestUnusedPage n s = some w) : EvC (GG g) M_lowestUnusedPage [.ref o] (K s) ((some (.int w)), (K s)) := by
  refine EvC.enter (L0 := [.val (.ref o), .unset]) pl_lowestUnusedPage (fun h => nomatch h) rfl rfl ?_
  unfold f_lowestUnusedPage at hr
  refine Ev.iconst (z := 0) (d22 0 rfl) rfl ?_
  refine Ev.istDN (L' := [.val (.ref o), .val (.int (0 : Int32))]) (d22 1 rfl) rfl rfl rfl ?_
  exact e_lowestUnusedPage_2 hw V  n (0 : Int32)  _ hr
def f_lowestFreeFrame_2 (n : Nat) (s : St) : Nat → Int32 → Option (Int32)
  | 0 => fun _ => none
  | k + 1 => fun x1 =>
    if x1 < (s.1 5) then
      (f_frameClass n s x1).bind fun q2 =>
      if q2 = (-1 : Int32) then
        some x1
      else
        f_lowestFreeFrame_2 n s k (x1 + (1 : Int32))
    else
      some (-1 : Int32)
set_option maxRecDepth 100000 in
theorem e_lowestFreeFrame_2 {g : GT} {n : Nat} {s : St} (hw : HW g) {K : St → MHeap} {o : Nat} {r : Nat → Nat} (V : View (GG g) Ln K o r) (k : Nat) : ∀ (x1 : Int32) (w : Int32), f_lowestFreeFrame_2 n s k x1 = some w → Ev (GG g) M_lowestFreeFrame 2 [.val (.ref o), .val (.int x1)] [] (K s) ((some (.int w)), (K s)) := by
  induction k with
  | zero => intro x1 w hr; rw [f_lowestFreeFrame_2] at hr; cases hr
  | succ k ih =>
    intro x1 w hr
    rw [f_lowestFreeFrame_2] at hr
    refine Ev.iloadN (d23 2 rfl) rfl ?_
    refine Ev.aloadN (d23 3 rfl) rfl ?_
    refine Ev.gI V (ww hw 29 rfl) (d23 4 rfl) (j := 5) rfl rfl ?_
    refine Ev.icge (t := 27) (d23 5 rfl) rfl (fun c1 => ?_) (fun c1 => ?_)
    · replace hr := (if_pos c1).symm.trans hr
      refine Ev.aloadN (d23 6 rfl) rfl ?_
      refine Ev.iloadN (d23 7 rfl) rfl ?_
      obtain ⟨q2, hq3, hr⟩ := Option.bind_eq_some_iff.mp hr
      refine Ev.priv (y := M_frameClass) (args := [.int x1]) (rest := []) (gok hw) rfl nm_frameClass (ww hw 76 rfl) (ww hw 77 rfl) (ww hw 78 rfl) (ww hw 79 rfl) (lenOf pd_frameClass rfl) (d23 8 rfl) (V.2.1 s) (e_frameClass hw V hq3) (by decide) (Nat.le_of_ble_eq_true rfl) rfl ?_
      refine Ev.iconst (z := -1) (d23 9 rfl) rfl ?_
      refine Ev.icne (t := 21) (d23 10 rfl) rfl (fun c4 => ?_) (fun c4 => ?_)
      · replace hr := (if_pos c4).symm.trans hr
        refine Ev.iloadN (d23 11 rfl) rfl ?_
        cases hr
        exact Ev.ireturn rfl (d23 12 rfl)
      · replace hr := (if_neg c4).symm.trans hr
        refine Ev.iinc (z := 1) (L' := [.val (.ref o), .val (.int (x1 + (1 : Int32)))]) (d23 13 rfl) rfl rfl rfl ?_
        refine Ev.goto (t := 2) (d23 14 rfl) rfl ?_
        exact ih (x1 + (1 : Int32))  _ hr
    · replace hr := (if_neg c1).symm.trans hr
      refine Ev.iconst (z := -1) (d23 15 rfl) rfl ?_
      cases hr
      exact Ev.ireturn rfl (d23 16 rfl)
def f_lowestFreeFrame (n : Nat) (s : St) : Option (Int32) :=
  f_lowestFreeFrame_2 n s n (0 : Int32)
set_option maxRecDepth 100000 in
theorem e_lowestFreeFrame {g : GT} {n : Nat} {s : St} {w : Int32} (hw : HW g) {K : St → MHeap} {o : Nat} {r : Nat → Nat} (V : View (GG g) Ln K o r) (hr : f_lowestFreeFrame n s = some w) : EvC (GG g) M_lowestFreeFrame [.ref o] (K s) ((some (.int w)), (K s)) := by
  refine EvC.enter (L0 := [.val (.ref o), .unset]) pl_lowestFreeFrame (fun h => nomatch h) rfl rfl ?_
  unfold f_lowestFreeFrame at hr
  refine Ev.iconst (z := 0) (d23 0 rfl) rfl ?_
  refine Ev.istDN (L' := [.val (.ref o), .val (.int (0 : Int32))]) (d23 1 rfl) rfl rfl rfl ?_
  exact e_lowestFreeFrame_2 hw V  n (0 : Int32)  _ hr
def f_step (s : St) : Option (Int32 × St) :=
  bnd (setI s 6 (((s.1 6) * (1103515245 : Int32)) + (12345 : Int32))) fun s1 =>
  some (((XT.ushr (s1.1 6) (16 : Int32)) &&& (32767 : Int32)), s1)
set_option maxRecDepth 100000 in
theorem e_step {g : GT} {s : St} {w : Int32 × St} (hw : HW g) {K : St → MHeap} {o : Nat} {r : Nat → Nat} (V : View (GG g) Ln K o r) (hr : f_step s = some w) : EvC (GG g) M_step [.ref o] (K s) ((some (.int w.1)), (K w.2)) := by
  refine EvC.enter (L0 := [.val (.ref o)]) pl_step (fun h => nomatch h) rfl rfl ?_
  unfold f_step at hr
  refine Ev.aloadN (d27 0 rfl) rfl ?_
  refine Ev.aloadN (d27 1 rfl) rfl ?_
  refine Ev.gI V (ww hw 32 rfl) (d27 2 rfl) (j := 6) rfl rfl ?_
  refine Ev.ldc (ww hw 139 rfl) (d27 3 rfl) ?_
  refine Ev.imul (d27 4 rfl) ?_
  refine Ev.sipush (z := 12345) (d27 5 rfl) rfl ?_
  refine Ev.iadd (d27 6 rfl) ?_
  refine Ev.pI V (gok hw) (ww hw 32 rfl) (Or.inl (ww hw 33 rfl)) (d27 7 rfl) (j := 6) rfl ?_
  revert hr
  generalize setI s 6 (((s.1 6) * (1103515245 : Int32)) + (12345 : Int32)) = s1
  intro hr
  replace hr := (bnd_eq _ _).symm.trans hr
  refine Ev.aloadN (d27 8 rfl) rfl ?_
  refine Ev.gI V (ww hw 32 rfl) (d27 9 rfl) (j := 6) rfl rfl ?_
  refine Ev.bipush (z := 16) (d27 10 rfl) rfl ?_
  refine Ev.iushr (d27 11 rfl) ?_
  refine Ev.sipush (z := 32767) (d27 12 rfl) rfl ?_
  refine Ev.iand (d27 13 rfl) ?_
  cases hr
  exact Ev.ireturn rfl (d27 14 rfl)
def f_nthClear_6 (n : Nat) (s : St) : Nat → Int32 → Int32 → Int32 → Int32 → Option (Int32)
  | 0 => fun _ _ _ _ => none
  | k + 1 => fun x1 x2 x4 x5 =>
    if x5 < x2 then
      if ((XT.ushr x1 x5) &&& (1 : Int32)) = 0 then
        if x4 = 0 then
          some x5
        else
          f_nthClear_6 n s k x1 x2 (x4 + (-1 : Int32)) (x5 + (1 : Int32))
      else
        f_nthClear_6 n s k x1 x2 x4 (x5 + (1 : Int32))
    else
      some (0 : Int32)
set_option maxRecDepth 100000 in
theorem e_nthClear_6 {g : GT} {n : Nat} {s : St} (hw : HW g) {K : St → MHeap} {o : Nat} {r : Nat → Nat} (V : View (GG g) Ln K o r) (k : Nat) : ∀ (x1 : Int32) (x2 : Int32) (x4 : Int32) (x5 : Int32) (y0 : Slot) (hy0 : one1 y0 = true) (y3 : Slot) (hy3 : one1 y3 = true) (w : Int32), f_nthClear_6 n s k x1 x2 x4 x5 = some w → Ev (GG g) M_nthClear 6 [y0, .val (.int x1), .val (.int x2), y3, .val (.int x4), .val (.int x5)] [] (K s) ((some (.int w)), (K s)) := by
  induction k with
  | zero => intro x1 x2 x4 x5 y0 hy0 y3 hy3 w hr; rw [f_nthClear_6] at hr; cases hr
  | succ k ih =>
    intro x1 x2 x4 x5 y0 hy0 y3 hy3 w hr
    rw [f_nthClear_6] at hr
    refine Ev.iload (d28 4 rfl) rfl ?_
    refine Ev.iloadN (d28 5 rfl) rfl ?_
    refine Ev.icge (t := 38) (d28 6 rfl) rfl (fun c1 => ?_) (fun c1 => ?_)
    · replace hr := (if_pos c1).symm.trans hr
      refine Ev.iloadN (d28 7 rfl) rfl ?_
      refine Ev.iload (d28 8 rfl) rfl ?_
      refine Ev.iushr (d28 9 rfl) ?_
      refine Ev.iconst (z := 1) (d28 10 rfl) rfl ?_
      refine Ev.iand (d28 11 rfl) ?_
      refine Ev.ifne (t := 32) (d28 12 rfl) rfl (fun c2 => ?_) (fun c2 => ?_)
      · replace hr := (if_pos c2).symm.trans hr
        refine Ev.iload (d28 13 rfl) rfl ?_
        refine Ev.ifne (t := 29) (d28 14 rfl) rfl (fun c3 => ?_) (fun c3 => ?_)
        · replace hr := (if_pos c3).symm.trans hr
          refine Ev.iload (d28 15 rfl) rfl ?_
          cases hr
          exact Ev.ireturn rfl (d28 16 rfl)
        · replace hr := (if_neg c3).symm.trans hr
          refine Ev.iinc (z := -1) (L' := [y0, .val (.int x1), .val (.int x2), y3, .val (.int (x4 + (-1 : Int32))), .val (.int x5)]) (d28 17 rfl) rfl rfl rfl ?_
          refine Ev.iinc (z := 1) (L' := [y0, .val (.int x1), .val (.int x2), y3, .val (.int (x4 + (-1 : Int32))), .val (.int (x5 + (1 : Int32)))]) (d28 18 rfl) rfl rfl rfl ?_
          refine Ev.goto (t := 6) (d28 19 rfl) rfl ?_
          exact ih x1 x2 (x4 + (-1 : Int32)) (x5 + (1 : Int32)) y0 hy0 y3 hy3 _ hr
      · replace hr := (if_neg c2).symm.trans hr
        refine Ev.iinc (z := 1) (L' := [y0, .val (.int x1), .val (.int x2), y3, .val (.int x4), .val (.int (x5 + (1 : Int32)))]) (d28 18 rfl) rfl rfl rfl ?_
        refine Ev.goto (t := 6) (d28 19 rfl) rfl ?_
        exact ih x1 x2 x4 (x5 + (1 : Int32)) y0 hy0 y3 hy3 _ hr
    · replace hr := (if_neg c1).symm.trans hr
      refine Ev.iconst (z := 0) (d28 20 rfl) rfl ?_
      cases hr
      exact Ev.ireturn rfl (d28 21 rfl)
def f_nthClear (n : Nat) (s : St) (a0 : Int32) (a1 : Int32) (a2 : Int32) : Option (Int32) :=
  f_nthClear_6 n s n a0 a1 a2 (0 : Int32)
set_option maxRecDepth 100000 in
theorem e_nthClear {g : GT} {n : Nat} {s : St} {a0 : Int32} {a1 : Int32} {a2 : Int32} {w : Int32} (hw : HW g) {K : St → MHeap} {o : Nat} {r : Nat → Nat} (V : View (GG g) Ln K o r) (hr : f_nthClear n s a0 a1 a2 = some w) : EvC (GG g) M_nthClear [.ref o, .int a0, .int a1, .int a2] (K s) ((some (.int w)), (K s)) := by
  refine EvC.enter (L0 := [.val (.ref o), .val (.int a0), .val (.int a1), .val (.int a2), .unset, .unset]) pl_nthClear (fun h => nomatch h) rfl rfl ?_
  unfold f_nthClear at hr
  refine Ev.iloadN (d28 0 rfl) rfl ?_
  refine Ev.istD (L' := [.val (.ref o), .val (.int a0), .val (.int a1), .val (.int a2), .val (.int a2), .unset]) (d28 1 rfl) rfl rfl rfl ?_
  refine Ev.iconst (z := 0) (d28 2 rfl) rfl ?_
  refine Ev.istD (L' := [.val (.ref o), .val (.int a0), .val (.int a1), .val (.int a2), .val (.int a2), .val (.int (0 : Int32))]) (d28 3 rfl) rfl rfl rfl ?_
  exact e_nthClear_6 hw V  n a0 a1 a2 (0 : Int32) (.val (.ref o)) rfl (.val (.int a2)) rfl _ hr
def f_placeObject_96 (n : Nat) : Nat → Int32 → Int32 → Int32 → Int32 → Int32 → St → Option (Int32 × St)
  | 0 => fun _ _ _ _ _ _ => none
  | k + 1 => fun x1 x4 x9 x10 x11 s =>
    if x11 < x4 then
      if (x10 + x11) < 0 then
        f_placeObject_96 n k x1 x4 x9 x10 (x11 + (1 : Int32)) s
      else
        if (x10 + x11) < (256 : Int32) then
          grd (inb (x10 + x11) 256) <|
          bnd (setA s 3 (ix (x10 + x11)) (0 : Int32)) fun s5 =>
          f_placeObject_96 n k x1 x4 x9 x10 (x11 + (1 : Int32)) s5
        else
          f_placeObject_96 n k x1 x4 x9 x10 (x11 + (1 : Int32)) s
    else
      some (((x1 * (16 : Int32)) + (x9 * x4)), s)
set_option maxRecDepth 100000 in
theorem e_placeObject_96 {g : GT} {n : Nat} (hw : HW g) {K : St → MHeap} {o : Nat} {r : Nat → Nat} (V : View (GG g) Ln K o r) (k : Nat) : ∀ (x1 : Int32) (x4 : Int32) (x9 : Int32) (x10 : Int32) (x11 : Int32) (s : St) (y2 : Slot) (hy2 : one1 y2 = true) (y3 : Slot) (hy3 : one1 y3 = true) (y5 : Slot) (hy5 : one1 y5 = true) (y6 : Slot) (hy6 : one1 y6 = true) (y7 : Slot) (hy7 : one1 y7 = true) (y8 : Slot) (hy8 : one1 y8 = true) (y12 : Slot) (hy12 : one1 y12 = true) (w : Int32 × St), f_placeObject_96 n k x1 x4 x9 x10 x11 s = some w → Ev (GG g) M_placeObject 96 [.val (.ref o), .val (.int x1), y2, y3, .val (.int x4), y5, y6, y7, y8, .val (.int x9), .val (.int x10), .val (.int x11), y12] [] (K s) ((some (.int w.1)), (K w.2)) := by
  induction k with
  | zero => intro x1 x4 x9 x10 x11 s y2 hy2 y3 hy3 y5 hy5 y6 hy6 y7 hy7 y8 hy8 y12 hy12 w hr; rw [f_placeObject_96] at hr; cases hr
  | succ k ih =>
    intro x1 x4 x9 x10 x11 s y2 hy2 y3 hy3 y5 hy5 y6 hy6 y7 hy7 y8 hy8 y12 hy12 w hr
    rw [f_placeObject_96] at hr
    refine Ev.iload (d24 58 rfl) rfl ?_
    refine Ev.iload (d24 59 rfl) rfl ?_
    refine Ev.icge (t := 137) (d24 60 rfl) rfl (fun c1 => ?_) (fun c1 => ?_)
    · replace hr := (if_pos c1).symm.trans hr
      refine Ev.iload (d24 61 rfl) rfl ?_
      refine Ev.iload (d24 62 rfl) rfl ?_
      refine Ev.iadd (d24 63 rfl) ?_
      refine Ev.istD (L' := [.val (.ref o), .val (.int x1), y2, y3, .val (.int x4), y5, y6, y7, y8, .val (.int x9), .val (.int x10), .val (.int x11), .val (.int (x10 + x11))]) (d24 64 rfl) rfl hy12 rfl ?_
      refine Ev.iload (d24 65 rfl) rfl ?_
      refine Ev.iflt (t := 131) (d24 66 rfl) rfl (fun c2 => ?_) (fun c2 => ?_)
      · replace hr := (if_pos c2).symm.trans hr
        refine Ev.iinc (z := 1) (L' := [.val (.ref o), .val (.int x1), y2, y3, .val (.int x4), y5, y6, y7, y8, .val (.int x9), .val (.int x10), .val (.int (x11 + (1 : Int32))), .val (.int (x10 + x11))]) (d24 75 rfl) rfl rfl rfl ?_
        refine Ev.goto (t := 96) (d24 76 rfl) rfl ?_
        exact ih x1 x4 x9 x10 (x11 + (1 : Int32)) s y2 hy2 y3 hy3 y5 hy5 y6 hy6 y7 hy7 y8 hy8 (.val (.int (x10 + x11))) rfl _ hr
      · replace hr := (if_neg c2).symm.trans hr
        refine Ev.iload (d24 67 rfl) rfl ?_
        refine Ev.sipush (z := 256) (d24 68 rfl) rfl ?_
        refine Ev.icge (t := 131) (d24 69 rfl) rfl (fun c3 => ?_) (fun c3 => ?_)
        · replace hr := (if_pos c3).symm.trans hr
          refine Ev.aloadN (d24 70 rfl) rfl ?_
          refine Ev.gAr V (ww hw 21 rfl) (d24 71 rfl) (j := 3) rfl ?_
          refine Ev.iload (d24 72 rfl) rfl ?_
          refine Ev.iconst (z := 0) (d24 73 rfl) rfl ?_
          obtain ⟨b4, hr⟩ := grd_some hr
          refine Ev.ias V (j := 3) rfl rfl (d24 74 rfl) b4 ?_
          revert hr
          generalize setA s 3 (ix (x10 + x11)) (0 : Int32) = s5
          intro hr
          replace hr := (bnd_eq _ _).symm.trans hr
          refine Ev.iinc (z := 1) (L' := [.val (.ref o), .val (.int x1), y2, y3, .val (.int x4), y5, y6, y7, y8, .val (.int x9), .val (.int x10), .val (.int (x11 + (1 : Int32))), .val (.int (x10 + x11))]) (d24 75 rfl) rfl rfl rfl ?_
          refine Ev.goto (t := 96) (d24 76 rfl) rfl ?_
          exact ih x1 x4 x9 x10 (x11 + (1 : Int32)) s5 y2 hy2 y3 hy3 y5 hy5 y6 hy6 y7 hy7 y8 hy8 (.val (.int (x10 + x11))) rfl _ hr
        · replace hr := (if_neg c3).symm.trans hr
          refine Ev.iinc (z := 1) (L' := [.val (.ref o), .val (.int x1), y2, y3, .val (.int x4), y5, y6, y7, y8, .val (.int x9), .val (.int x10), .val (.int (x11 + (1 : Int32))), .val (.int (x10 + x11))]) (d24 75 rfl) rfl rfl rfl ?_
          refine Ev.goto (t := 96) (d24 76 rfl) rfl ?_
          exact ih x1 x4 x9 x10 (x11 + (1 : Int32)) s y2 hy2 y3 hy3 y5 hy5 y6 hy6 y7 hy7 y8 hy8 (.val (.int (x10 + x11))) rfl _ hr
    · replace hr := (if_neg c1).symm.trans hr
      refine Ev.iloadN (d24 77 rfl) rfl ?_
      refine Ev.bipush (z := 16) (d24 78 rfl) rfl ?_
      refine Ev.imul (d24 79 rfl) ?_
      refine Ev.iload (d24 80 rfl) rfl ?_
      refine Ev.iload (d24 81 rfl) rfl ?_
      refine Ev.imul (d24 82 rfl) ?_
      refine Ev.iadd (d24 83 rfl) ?_
      cases hr
      exact Ev.ireturn rfl (d24 84 rfl)
def f_placeObject_47 (n : Nat) (x1 : Int32) (x3 : Int32) (x4 : Int32) (x5 : Int32) (x6 : Int32) (x7 : Int32) (s : St) : Option (Int32 × St) :=
  (f_step s).bind fun q1 =>
  grd (x7 ≠ 0) <|
  (f_nthClear n q1.2 x6 x3 (q1.1 % x7)).bind fun q4 =>
  grd (inb x1 16) <|
  bnd (setA q1.2 2 (ix x1) ((q1.2.2 2 (ix x1)) ||| ((1 : Int32) <<< (q4 &&& 31)))) fun s7 =>
  bnd ((x5 * (16 : Int32)) + (q4 * x4)) fun v8 =>
  f_placeObject_96 n n x1 x4 q4 v8 (0 : Int32) s7
set_option maxRecDepth 100000 in
theorem e_placeObject_47 {g : GT} {n : Nat} (hw : HW g) {K : St → MHeap} {o : Nat} {r : Nat → Nat} (V : View (GG g) Ln K o r) (x1 : Int32) (x3 : Int32) (x4 : Int32) (x5 : Int32) (x6 : Int32) (x7 : Int32) (s : St) (y2 : Slot) (hy2 : one1 y2 = true) (y8 : Slot) (hy8 : one1 y8 = true) (y9 : Slot) (hy9 : one1 y9 = true) (y10 : Slot) (hy10 : one1 y10 = true) (y11 : Slot) (hy11 : one1 y11 = true) (y12 : Slot) (hy12 : one1 y12 = true) (w : Int32 × St) (hr : f_placeObject_47 n x1 x3 x4 x5 x6 x7 s = some w) : Ev (GG g) M_placeObject 47 [.val (.ref o), .val (.int x1), y2, .val (.int x3), .val (.int x4), .val (.int x5), .val (.int x6), .val (.int x7), y8, y9, y10, y11, y12] [] (K s) ((some (.int w.1)), (K w.2)) := by
  unfold f_placeObject_47 at hr
  refine Ev.aloadN (d24 27 rfl) rfl ?_
  obtain ⟨q1, hq2, hr⟩ := Option.bind_eq_some_iff.mp hr
  refine Ev.priv (y := M_step) (args := []) (rest := []) (gok hw) rfl nm_step (ww hw 135 rfl) (ww hw 136 rfl) (ww hw 137 rfl) (ww hw 138 rfl) (lenOf pd_step rfl) (d24 28 rfl) (V.2.1 s) (e_step hw V hq2) (by decide) (Nat.le_of_ble_eq_true rfl) rfl ?_
  refine Ev.istD (L' := [.val (.ref o), .val (.int x1), y2, .val (.int x3), .val (.int x4), .val (.int x5), .val (.int x6), .val (.int x7), .val (.int q1.1), y9, y10, y11, y12]) (d24 29 rfl) rfl hy8 rfl ?_
  refine Ev.aloadN (d24 30 rfl) rfl ?_
  refine Ev.iload (d24 31 rfl) rfl ?_
  refine Ev.iloadN (d24 32 rfl) rfl ?_
  refine Ev.iload (d24 33 rfl) rfl ?_
  refine Ev.iload (d24 34 rfl) rfl ?_
  obtain ⟨c3, hr⟩ := grd_some hr
  refine Ev.irem (d24 35 rfl) c3 ?_
  obtain ⟨q4, hq5, hr⟩ := Option.bind_eq_some_iff.mp hr
  refine Ev.priv (y := M_nthClear) (args := [.int x6, .int x3, .int (q1.1 % x7)]) (rest := []) (gok hw) rfl nm_nthClear (ww hw 140 rfl) (ww hw 141 rfl) (ww hw 142 rfl) (ww hw 143 rfl) (lenOf pd_nthClear rfl) (d24 36 rfl) (V.2.1 q1.2) (e_nthClear hw V hq5) (by decide) (Nat.le_of_ble_eq_true rfl) rfl ?_
  refine Ev.istD (L' := [.val (.ref o), .val (.int x1), y2, .val (.int x3), .val (.int x4), .val (.int x5), .val (.int x6), .val (.int x7), .val (.int q1.1), .val (.int q4), y10, y11, y12]) (d24 37 rfl) rfl hy9 rfl ?_
  refine Ev.aloadN (d24 38 rfl) rfl ?_
  refine Ev.gAr V (ww hw 19 rfl) (d24 39 rfl) (j := 2) rfl ?_
  refine Ev.iloadN (d24 40 rfl) rfl ?_
  refine Ev.dup2 (d24 41 rfl) rfl rfl ?_
  obtain ⟨b6, hr⟩ := grd_some hr
  refine Ev.ial V (j := 2) rfl rfl (d24 42 rfl) b6 ?_
  refine Ev.iconst (z := 1) (d24 43 rfl) rfl ?_
  refine Ev.iload (d24 44 rfl) rfl ?_
  refine Ev.ishl (d24 45 rfl) ?_
  refine Ev.ior (d24 46 rfl) ?_
  refine Ev.ias V (j := 2) rfl rfl (d24 47 rfl) b6 ?_
  revert hr
  generalize setA q1.2 2 (ix x1) ((q1.2.2 2 (ix x1)) ||| ((1 : Int32) <<< (q4 &&& 31))) = s7
  intro hr
  replace hr := (bnd_eq _ _).symm.trans hr
  refine Ev.iload (d24 48 rfl) rfl ?_
  refine Ev.bipush (z := 16) (d24 49 rfl) rfl ?_
  refine Ev.imul (d24 50 rfl) ?_
  refine Ev.iload (d24 51 rfl) rfl ?_
  refine Ev.iload (d24 52 rfl) rfl ?_
  refine Ev.imul (d24 53 rfl) ?_
  refine Ev.iadd (d24 54 rfl) ?_
  revert hr
  generalize ((x5 * (16 : Int32)) + (q4 * x4)) = v8
  intro hr
  replace hr := (bnd_eq _ _).symm.trans hr
  refine Ev.istD (L' := [.val (.ref o), .val (.int x1), y2, .val (.int x3), .val (.int x4), .val (.int x5), .val (.int x6), .val (.int x7), .val (.int q1.1), .val (.int q4), .val (.int v8), y11, y12]) (d24 55 rfl) rfl hy10 rfl ?_
  refine Ev.iconst (z := 0) (d24 56 rfl) rfl ?_
  refine Ev.istD (L' := [.val (.ref o), .val (.int x1), y2, .val (.int x3), .val (.int x4), .val (.int x5), .val (.int x6), .val (.int x7), .val (.int q1.1), .val (.int q4), .val (.int v8), .val (.int (0 : Int32)), y12]) (d24 57 rfl) rfl hy11 rfl ?_
  exact e_placeObject_96 hw V  n x1 x4 q4 v8 (0 : Int32) s7 y2 hy2 (.val (.int x3)) rfl (.val (.int x5)) rfl (.val (.int x6)) rfl (.val (.int x7)) rfl (.val (.int q1.1)) rfl y12 hy12 _ hr
def f_placeObject (n : Nat) (a0 : Int32) (a1 : Int32) (s : St) : Option (Int32 × St) :=
  (f_slotsOf s a1).bind fun q1 =>
  (f_sizeOf s a1).bind fun q3 =>
  grd (inb a0 16) <|
  (f_unionOf n s (s.2 1 (ix a0))).bind fun q6 =>
  (f_countClear n s q6 q1).bind fun q8 =>
  if q8 < (1 : Int32) then
    f_placeObject_47 n a0 q1 q3 (s.2 1 (ix a0)) q6 (1 : Int32) s
  else
    f_placeObject_47 n a0 q1 q3 (s.2 1 (ix a0)) q6 q8 s
set_option maxRecDepth 100000 in
theorem e_placeObject {g : GT} {n : Nat} {a0 : Int32} {a1 : Int32} {s : St} {w : Int32 × St} (hw : HW g) {K : St → MHeap} {o : Nat} {r : Nat → Nat} (V : View (GG g) Ln K o r) (hr : f_placeObject n a0 a1 s = some w) : EvC (GG g) M_placeObject [.ref o, .int a0, .int a1] (K s) ((some (.int w.1)), (K w.2)) := by
  refine EvC.enter (L0 := [.val (.ref o), .val (.int a0), .val (.int a1), .unset, .unset, .unset, .unset, .unset, .unset, .unset, .unset, .unset, .unset]) pl_placeObject (fun h => nomatch h) rfl rfl ?_
  unfold f_placeObject at hr
  refine Ev.aloadN (d24 0 rfl) rfl ?_
  refine Ev.iloadN (d24 1 rfl) rfl ?_
  obtain ⟨q1, hq2, hr⟩ := Option.bind_eq_some_iff.mp hr
  refine Ev.priv (y := M_slotsOf) (args := [.int a1]) (rest := []) (gok hw) rfl nm_slotsOf (ww hw 111 rfl) (ww hw 112 rfl) (ww hw 113 rfl) (ww hw 114 rfl) (lenOf pd_slotsOf rfl) (d24 2 rfl) (V.2.1 s) (e_slotsOf hw V hq2) (by decide) (Nat.le_of_ble_eq_true rfl) rfl ?_
  refine Ev.istDN (L' := [.val (.ref o), .val (.int a0), .val (.int a1), .val (.int q1), .unset, .unset, .unset, .unset, .unset, .unset, .unset, .unset, .unset]) (d24 3 rfl) rfl rfl rfl ?_
  refine Ev.aloadN (d24 4 rfl) rfl ?_
  refine Ev.iloadN (d24 5 rfl) rfl ?_
  obtain ⟨q3, hq4, hr⟩ := Option.bind_eq_some_iff.mp hr
  refine Ev.priv (y := M_sizeOf) (args := [.int a1]) (rest := []) (gok hw) rfl nm_sizeOf (ww hw 127 rfl) (ww hw 128 rfl) (ww hw 129 rfl) (ww hw 130 rfl) (lenOf pd_sizeOf rfl) (d24 6 rfl) (V.2.1 s) (e_sizeOf hw V hq4) (by decide) (Nat.le_of_ble_eq_true rfl) rfl ?_
  refine Ev.istD (L' := [.val (.ref o), .val (.int a0), .val (.int a1), .val (.int q1), .val (.int q3), .unset, .unset, .unset, .unset, .unset, .unset, .unset, .unset]) (d24 7 rfl) rfl rfl rfl ?_
  refine Ev.aloadN (d24 8 rfl) rfl ?_
  refine Ev.gAr V (ww hw 17 rfl) (d24 9 rfl) (j := 1) rfl ?_
  refine Ev.iloadN (d24 10 rfl) rfl ?_
  obtain ⟨b5, hr⟩ := grd_some hr
  refine Ev.ial V (j := 1) rfl rfl (d24 11 rfl) b5 ?_
  refine Ev.istD (L' := [.val (.ref o), .val (.int a0), .val (.int a1), .val (.int q1), .val (.int q3), .val (.int (s.2 1 (ix a0))), .unset, .unset, .unset, .unset, .unset, .unset, .unset]) (d24 12 rfl) rfl rfl rfl ?_
  refine Ev.aloadN (d24 13 rfl) rfl ?_
  refine Ev.iload (d24 14 rfl) rfl ?_
  obtain ⟨q6, hq7, hr⟩ := Option.bind_eq_some_iff.mp hr
  refine Ev.priv (y := M_unionOf) (args := [.int (s.2 1 (ix a0))]) (rest := []) (gok hw) rfl nm_unionOf (ww hw 67 rfl) (ww hw 68 rfl) (ww hw 69 rfl) (ww hw 70 rfl) (lenOf pd_unionOf rfl) (d24 15 rfl) (V.2.1 s) (e_unionOf hw V hq7) (by decide) (Nat.le_of_ble_eq_true rfl) rfl ?_
  refine Ev.istD (L' := [.val (.ref o), .val (.int a0), .val (.int a1), .val (.int q1), .val (.int q3), .val (.int (s.2 1 (ix a0))), .val (.int q6), .unset, .unset, .unset, .unset, .unset, .unset]) (d24 16 rfl) rfl rfl rfl ?_
  refine Ev.aloadN (d24 17 rfl) rfl ?_
  refine Ev.iload (d24 18 rfl) rfl ?_
  refine Ev.iloadN (d24 19 rfl) rfl ?_
  obtain ⟨q8, hq9, hr⟩ := Option.bind_eq_some_iff.mp hr
  refine Ev.priv (y := M_countClear) (args := [.int q6, .int q1]) (rest := []) (gok hw) rfl nm_countClear (ww hw 131 rfl) (ww hw 132 rfl) (ww hw 133 rfl) (ww hw 134 rfl) (lenOf pd_countClear rfl) (d24 20 rfl) (V.2.1 s) (e_countClear hw V hq9) (by decide) (Nat.le_of_ble_eq_true rfl) rfl ?_
  refine Ev.istD (L' := [.val (.ref o), .val (.int a0), .val (.int a1), .val (.int q1), .val (.int q3), .val (.int (s.2 1 (ix a0))), .val (.int q6), .val (.int q8), .unset, .unset, .unset, .unset, .unset]) (d24 21 rfl) rfl rfl rfl ?_
  refine Ev.iload (d24 22 rfl) rfl ?_
  refine Ev.iconst (z := 1) (d24 23 rfl) rfl ?_
  refine Ev.icge (t := 47) (d24 24 rfl) rfl (fun c10 => ?_) (fun c10 => ?_)
  · replace hr := (if_pos c10).symm.trans hr
    refine Ev.iconst (z := 1) (d24 25 rfl) rfl ?_
    refine Ev.istD (L' := [.val (.ref o), .val (.int a0), .val (.int a1), .val (.int q1), .val (.int q3), .val (.int (s.2 1 (ix a0))), .val (.int q6), .val (.int (1 : Int32)), .unset, .unset, .unset, .unset, .unset]) (d24 26 rfl) rfl rfl rfl ?_
    exact e_placeObject_47 hw V  a0 q1 q3 (s.2 1 (ix a0)) q6 (1 : Int32) s (.val (.int a1)) rfl .unset rfl .unset rfl .unset rfl .unset rfl .unset rfl _ hr
  · replace hr := (if_neg c10).symm.trans hr
    exact e_placeObject_47 hw V  a0 q1 q3 (s.2 1 (ix a0)) q6 q8 s (.val (.int a1)) rfl .unset rfl .unset rfl .unset rfl .unset rfl .unset rfl _ hr
def f_alloc_66 (n : Nat) (x1 : Int32) (x2 : Int32) (s : St) : Option (Int32 × St) :=
  (f_placeObject n x2 x1 s).bind fun q1 =>
  some (q1.1, q1.2)
set_option maxRecDepth 100000 in
theorem e_alloc_66 {g : GT} {n : Nat} (hw : HW g) {K : St → MHeap} {o : Nat} {r : Nat → Nat} (V : View (GG g) Ln K o r) (x1 : Int32) (x2 : Int32) (s : St) (y3 : Slot) (hy3 : one1 y3 = true) (w : Int32 × St) (hr : f_alloc_66 n x1 x2 s = some w) : Ev (GG g) M_alloc 66 [.val (.ref o), .val (.int x1), .val (.int x2), y3] [] (K s) ((some (.int w.1)), (K w.2)) := by
  unfold f_alloc_66 at hr
  refine Ev.aloadN (d19 42 rfl) rfl ?_
  refine Ev.iloadN (d19 43 rfl) rfl ?_
  refine Ev.iloadN (d19 44 rfl) rfl ?_
  obtain ⟨q1, hq2, hr⟩ := Option.bind_eq_some_iff.mp hr
  refine Ev.priv (y := M_placeObject) (args := [.int x2, .int x1]) (rest := []) (gok hw) rfl nm_placeObject (ww hw 123 rfl) (ww hw 124 rfl) (ww hw 125 rfl) (ww hw 126 rfl) (lenOf pd_placeObject rfl) (d19 45 rfl) (V.2.1 s) (e_placeObject hw V hq2) (by decide) (Nat.le_of_ble_eq_true rfl) rfl ?_
  cases hr
  exact Ev.ireturn rfl (d19 46 rfl)
def f_alloc (n : Nat) (a0 : Int32) (s : St) : Option (Int32 × St) :=
  if a0 < 0 then
    some ((-1 : Int32), s)
  else
    if (2 : Int32) < a0 then
      some ((-1 : Int32), s)
    else
      (f_findEligible n s a0).bind fun q3 =>
      if q3 < 0 then
        (f_lowestUnusedPage n s).bind fun q6 =>
        if q6 < 0 then
          some ((-2 : Int32), s)
        else
          (f_lowestFreeFrame n s).bind fun q9 =>
          if q9 < 0 then
            some ((-3 : Int32), s)
          else
            grd (inb q6 16) <|
            bnd (setA s 0 (ix q6) a0) fun s13 =>
            bnd (setA s13 1 (ix q6) q9) fun s14 =>
            bnd (setA s14 2 (ix q6) (0 : Int32)) fun s15 =>
            f_alloc_66 n a0 q6 s15
      else
        f_alloc_66 n a0 q3 s
set_option maxRecDepth 100000 in
theorem e_alloc {g : GT} {n : Nat} {a0 : Int32} {s : St} {w : Int32 × St} (hw : HW g) {K : St → MHeap} {o : Nat} {r : Nat → Nat} (V : View (GG g) Ln K o r) (hr : f_alloc n a0 s = some w) : EvC (GG g) M_alloc [.ref o, .int a0] (K s) ((some (.int w.1)), (K w.2)) := by
  refine EvC.enter (L0 := [.val (.ref o), .val (.int a0), .unset, .unset]) pl_alloc (fun h => nomatch h) rfl rfl ?_
  unfold f_alloc at hr
  refine Ev.iloadN (d19 0 rfl) rfl ?_
  refine Ev.iflt (t := 9) (d19 1 rfl) rfl (fun c1 => ?_) (fun c1 => ?_)
  · replace hr := (if_pos c1).symm.trans hr
    refine Ev.iconst (z := -1) (d19 5 rfl) rfl ?_
    cases hr
    exact Ev.ireturn rfl (d19 6 rfl)
  · replace hr := (if_neg c1).symm.trans hr
    refine Ev.iloadN (d19 2 rfl) rfl ?_
    refine Ev.iconst (z := 2) (d19 3 rfl) rfl ?_
    refine Ev.icle (t := 11) (d19 4 rfl) rfl (fun c2 => ?_) (fun c2 => ?_)
    · replace hr := (if_pos c2).symm.trans hr
      refine Ev.iconst (z := -1) (d19 5 rfl) rfl ?_
      cases hr
      exact Ev.ireturn rfl (d19 6 rfl)
    · replace hr := (if_neg c2).symm.trans hr
      refine Ev.aloadN (d19 7 rfl) rfl ?_
      refine Ev.iloadN (d19 8 rfl) rfl ?_
      obtain ⟨q3, hq4, hr⟩ := Option.bind_eq_some_iff.mp hr
      refine Ev.priv (y := M_findEligible) (args := [.int a0]) (rest := []) (gok hw) rfl nm_findEligible (ww hw 107 rfl) (ww hw 108 rfl) (ww hw 109 rfl) (ww hw 110 rfl) (lenOf pd_findEligible rfl) (d19 9 rfl) (V.2.1 s) (e_findEligible hw V hq4) (by decide) (Nat.le_of_ble_eq_true rfl) rfl ?_
      refine Ev.istDN (L' := [.val (.ref o), .val (.int a0), .val (.int q3), .unset]) (d19 10 rfl) rfl rfl rfl ?_
      refine Ev.iloadN (d19 11 rfl) rfl ?_
      refine Ev.ifge (t := 66) (d19 12 rfl) rfl (fun c5 => ?_) (fun c5 => ?_)
      · replace hr := (if_pos c5).symm.trans hr
        refine Ev.aloadN (d19 13 rfl) rfl ?_
        obtain ⟨q6, hq7, hr⟩ := Option.bind_eq_some_iff.mp hr
        refine Ev.priv (y := M_lowestUnusedPage) (args := []) (rest := []) (gok hw) rfl nm_lowestUnusedPage (ww hw 115 rfl) (ww hw 116 rfl) (ww hw 117 rfl) (ww hw 118 rfl) (lenOf pd_lowestUnusedPage rfl) (d19 14 rfl) (V.2.1 s) (e_lowestUnusedPage hw V hq7) (by decide) (Nat.le_of_ble_eq_true rfl) rfl ?_
        refine Ev.istDN (L' := [.val (.ref o), .val (.int a0), .val (.int q6), .unset]) (d19 15 rfl) rfl rfl rfl ?_
        refine Ev.iloadN (d19 16 rfl) rfl ?_
        refine Ev.ifge (t := 33) (d19 17 rfl) rfl (fun c8 => ?_) (fun c8 => ?_)
        · replace hr := (if_pos c8).symm.trans hr
          refine Ev.bipush (z := -2) (d19 18 rfl) rfl ?_
          cases hr
          exact Ev.ireturn rfl (d19 19 rfl)
        · replace hr := (if_neg c8).symm.trans hr
          refine Ev.aloadN (d19 20 rfl) rfl ?_
          obtain ⟨q9, hq10, hr⟩ := Option.bind_eq_some_iff.mp hr
          refine Ev.priv (y := M_lowestFreeFrame) (args := []) (rest := []) (gok hw) rfl nm_lowestFreeFrame (ww hw 119 rfl) (ww hw 120 rfl) (ww hw 121 rfl) (ww hw 122 rfl) (lenOf pd_lowestFreeFrame rfl) (d19 21 rfl) (V.2.1 s) (e_lowestFreeFrame hw V hq10) (by decide) (Nat.le_of_ble_eq_true rfl) rfl ?_
          refine Ev.istDN (L' := [.val (.ref o), .val (.int a0), .val (.int q6), .val (.int q9)]) (d19 22 rfl) rfl rfl rfl ?_
          refine Ev.iloadN (d19 23 rfl) rfl ?_
          refine Ev.ifge (t := 45) (d19 24 rfl) rfl (fun c11 => ?_) (fun c11 => ?_)
          · replace hr := (if_pos c11).symm.trans hr
            refine Ev.bipush (z := -3) (d19 25 rfl) rfl ?_
            cases hr
            exact Ev.ireturn rfl (d19 26 rfl)
          · replace hr := (if_neg c11).symm.trans hr
            refine Ev.aloadN (d19 27 rfl) rfl ?_
            refine Ev.gAr V (ww hw 15 rfl) (d19 28 rfl) (j := 0) rfl ?_
            refine Ev.iloadN (d19 29 rfl) rfl ?_
            refine Ev.iloadN (d19 30 rfl) rfl ?_
            obtain ⟨b12, hr⟩ := grd_some hr
            refine Ev.ias V (j := 0) rfl rfl (d19 31 rfl) b12 ?_
            revert hr
            generalize setA s 0 (ix q6) a0 = s13
            intro hr
            replace hr := (bnd_eq _ _).symm.trans hr
            refine Ev.aloadN (d19 32 rfl) rfl ?_
            refine Ev.gAr V (ww hw 17 rfl) (d19 33 rfl) (j := 1) rfl ?_
            refine Ev.iloadN (d19 34 rfl) rfl ?_
            refine Ev.iloadN (d19 35 rfl) rfl ?_
            refine Ev.ias V (j := 1) rfl rfl (d19 36 rfl) b12 ?_
            revert hr
            generalize setA s13 1 (ix q6) q9 = s14
            intro hr
            replace hr := (bnd_eq _ _).symm.trans hr
            refine Ev.aloadN (d19 37 rfl) rfl ?_
            refine Ev.gAr V (ww hw 19 rfl) (d19 38 rfl) (j := 2) rfl ?_
            refine Ev.iloadN (d19 39 rfl) rfl ?_
            refine Ev.iconst (z := 0) (d19 40 rfl) rfl ?_
            refine Ev.ias V (j := 2) rfl rfl (d19 41 rfl) b12 ?_
            revert hr
            generalize setA s14 2 (ix q6) (0 : Int32) = s15
            intro hr
            replace hr := (bnd_eq _ _).symm.trans hr
            exact e_alloc_66 hw V  a0 q6 s15 (.val (.int q9)) rfl _ hr
      · replace hr := (if_neg c5).symm.trans hr
        exact e_alloc_66 hw V  a0 q3 s .unset rfl _ hr
def f_write (a0 : Int32) (a1 : Int32) (s : St) : Option (Int32 × St) :=
  (f_liveIndex s a0).bind fun q1 =>
  if q1 < 0 then
    some ((0 : Int32), s)
  else
    grd (inb q1 256) <|
    bnd (setA s 3 (ix q1) a1) fun s5 =>
    some ((1 : Int32), s5)
set_option maxRecDepth 100000 in
theorem e_write {g : GT} {a0 : Int32} {a1 : Int32} {s : St} {w : Int32 × St} (hw : HW g) {K : St → MHeap} {o : Nat} {r : Nat → Nat} (V : View (GG g) Ln K o r) (hr : f_write a0 a1 s = some w) : EvC (GG g) M_write [.ref o, .int a0, .int a1] (K s) ((some (.int w.1)), (K w.2)) := by
  refine EvC.enter (L0 := [.val (.ref o), .val (.int a0), .val (.int a1), .unset]) pl_write (fun h => nomatch h) rfl rfl ?_
  unfold f_write at hr
  refine Ev.aloadN (d31 0 rfl) rfl ?_
  refine Ev.iloadN (d31 1 rfl) rfl ?_
  obtain ⟨q1, hq2, hr⟩ := Option.bind_eq_some_iff.mp hr
  refine Ev.priv (y := M_liveIndex) (args := [.int a0]) (rest := []) (gok hw) rfl nm_liveIndex (ww hw 85 rfl) (ww hw 86 rfl) (ww hw 87 rfl) (ww hw 88 rfl) (lenOf pd_liveIndex rfl) (d31 2 rfl) (V.2.1 s) (e_liveIndex hw V hq2) (by decide) (Nat.le_of_ble_eq_true rfl) rfl ?_
  refine Ev.istDN (L' := [.val (.ref o), .val (.int a0), .val (.int a1), .val (.int q1)]) (d31 3 rfl) rfl rfl rfl ?_
  refine Ev.iloadN (d31 4 rfl) rfl ?_
  refine Ev.ifge (t := 12) (d31 5 rfl) rfl (fun c3 => ?_) (fun c3 => ?_)
  · replace hr := (if_pos c3).symm.trans hr
    refine Ev.iconst (z := 0) (d31 6 rfl) rfl ?_
    cases hr
    exact Ev.zret0 rfl (d31 7 rfl)
  · replace hr := (if_neg c3).symm.trans hr
    refine Ev.aloadN (d31 8 rfl) rfl ?_
    refine Ev.gAr V (ww hw 21 rfl) (d31 9 rfl) (j := 3) rfl ?_
    refine Ev.iloadN (d31 10 rfl) rfl ?_
    refine Ev.iloadN (d31 11 rfl) rfl ?_
    obtain ⟨b4, hr⟩ := grd_some hr
    refine Ev.ias V (j := 3) rfl rfl (d31 12 rfl) b4 ?_
    revert hr
    generalize setA s 3 (ix q1) a1 = s5
    intro hr
    replace hr := (bnd_eq _ _).symm.trans hr
    refine Ev.iconst (z := 1) (d31 13 rfl) rfl ?_
    cases hr
    exact Ev.zret1 rfl (d31 14 rfl)
def f_free (a0 : Int32) (s : St) : Option (Int32 × St) :=
  if a0 < 0 then
    some ((0 : Int32), s)
  else
    if a0 < ((s.1 4) * (16 : Int32)) then
      grd (inb (a0 / (16 : Int32)) 16) <|
      if (s.2 0 (ix (a0 / (16 : Int32)))) = (-1 : Int32) then
        some ((0 : Int32), s)
      else
        (f_sizeOf s (s.2 0 (ix (a0 / (16 : Int32))))).bind fun q5 =>
        grd (q5 ≠ 0) <|
        if ((a0 % (16 : Int32)) % q5) = 0 then
          grd (q5 ≠ 0) <|
          if ((XT.ushr (s.2 2 (ix (a0 / (16 : Int32)))) ((a0 % (16 : Int32)) / q5)) &&& (1 : Int32)) = 0 then
            some ((0 : Int32), s)
          else
            bnd (setA s 2 (ix (a0 / (16 : Int32))) ((s.2 2 (ix (a0 / (16 : Int32)))) &&& (((1 : Int32) <<< (((a0 % (16 : Int32)) / q5) &&& 31)) ^^^ (-1 : Int32)))) fun s11 =>
            if (s11.2 2 (ix (a0 / (16 : Int32)))) = 0 then
              bnd (setA s11 0 (ix (a0 / (16 : Int32))) (-1 : Int32)) fun s13 =>
              bnd (setA s13 1 (ix (a0 / (16 : Int32))) (-1 : Int32)) fun s14 =>
              some ((1 : Int32), s14)
            else
              some ((1 : Int32), s11)
        else
          some ((0 : Int32), s)
    else
      some ((0 : Int32), s)
set_option maxRecDepth 100000 in
theorem e_free {g : GT} {a0 : Int32} {s : St} {w : Int32 × St} (hw : HW g) {K : St → MHeap} {o : Nat} {r : Nat → Nat} (V : View (GG g) Ln K o r) (hr : f_free a0 s = some w) : EvC (GG g) M_free [.ref o, .int a0] (K s) ((some (.int w.1)), (K w.2)) := by
  refine EvC.enter (L0 := [.val (.ref o), .val (.int a0), .unset, .unset, .unset, .unset, .unset]) pl_free (fun h => nomatch h) rfl rfl ?_
  unfold f_free at hr
  refine Ev.iloadN (d34 0 rfl) rfl ?_
  refine Ev.iflt (t := 15) (d34 1 rfl) rfl (fun c1 => ?_) (fun c1 => ?_)
  · replace hr := (if_pos c1).symm.trans hr
    refine Ev.iconst (z := 0) (d34 8 rfl) rfl ?_
    cases hr
    exact Ev.zret0 rfl (d34 9 rfl)
  · replace hr := (if_neg c1).symm.trans hr
    refine Ev.iloadN (d34 2 rfl) rfl ?_
    refine Ev.aloadN (d34 3 rfl) rfl ?_
    refine Ev.gI V (ww hw 27 rfl) (d34 4 rfl) (j := 4) rfl rfl ?_
    refine Ev.bipush (z := 16) (d34 5 rfl) rfl ?_
    refine Ev.imul (d34 6 rfl) ?_
    refine Ev.iclt (t := 17) (d34 7 rfl) rfl (fun c2 => ?_) (fun c2 => ?_)
    · replace hr := (if_pos c2).symm.trans hr
      refine Ev.iloadN (d34 10 rfl) rfl ?_
      refine Ev.bipush (z := 16) (d34 11 rfl) rfl ?_
      refine Ev.idiv (d34 12 rfl) (by decide) ?_
      refine Ev.istDN (L' := [.val (.ref o), .val (.int a0), .val (.int (a0 / (16 : Int32))), .unset, .unset, .unset, .unset]) (d34 13 rfl) rfl rfl rfl ?_
      refine Ev.aloadN (d34 14 rfl) rfl ?_
      refine Ev.gAr V (ww hw 15 rfl) (d34 15 rfl) (j := 0) rfl ?_
      refine Ev.iloadN (d34 16 rfl) rfl ?_
      obtain ⟨b3, hr⟩ := grd_some hr
      refine Ev.ial V (j := 0) rfl rfl (d34 17 rfl) b3 ?_
      refine Ev.istDN (L' := [.val (.ref o), .val (.int a0), .val (.int (a0 / (16 : Int32))), .val (.int (s.2 0 (ix (a0 / (16 : Int32))))), .unset, .unset, .unset]) (d34 18 rfl) rfl rfl rfl ?_
      refine Ev.iloadN (d34 19 rfl) rfl ?_
      refine Ev.iconst (z := -1) (d34 20 rfl) rfl ?_
      refine Ev.icne (t := 36) (d34 21 rfl) rfl (fun c4 => ?_) (fun c4 => ?_)
      · replace hr := (if_pos c4).symm.trans hr
        refine Ev.iconst (z := 0) (d34 22 rfl) rfl ?_
        cases hr
        exact Ev.zret0 rfl (d34 23 rfl)
      · replace hr := (if_neg c4).symm.trans hr
        refine Ev.iloadN (d34 24 rfl) rfl ?_
        refine Ev.bipush (z := 16) (d34 25 rfl) rfl ?_
        refine Ev.irem (d34 26 rfl) (by decide) ?_
        refine Ev.istD (L' := [.val (.ref o), .val (.int a0), .val (.int (a0 / (16 : Int32))), .val (.int (s.2 0 (ix (a0 / (16 : Int32))))), .val (.int (a0 % (16 : Int32))), .unset, .unset]) (d34 27 rfl) rfl rfl rfl ?_
        refine Ev.aloadN (d34 28 rfl) rfl ?_
        refine Ev.iloadN (d34 29 rfl) rfl ?_
        obtain ⟨q5, hq6, hr⟩ := Option.bind_eq_some_iff.mp hr
        refine Ev.priv (y := M_sizeOf) (args := [.int (s.2 0 (ix (a0 / (16 : Int32))))]) (rest := []) (gok hw) rfl nm_sizeOf (ww hw 127 rfl) (ww hw 128 rfl) (ww hw 129 rfl) (ww hw 130 rfl) (lenOf pd_sizeOf rfl) (d34 30 rfl) (V.2.1 s) (e_sizeOf hw V hq6) (by decide) (Nat.le_of_ble_eq_true rfl) rfl ?_
        refine Ev.istD (L' := [.val (.ref o), .val (.int a0), .val (.int (a0 / (16 : Int32))), .val (.int (s.2 0 (ix (a0 / (16 : Int32))))), .val (.int (a0 % (16 : Int32))), .val (.int q5), .unset]) (d34 31 rfl) rfl rfl rfl ?_
        refine Ev.iload (d34 32 rfl) rfl ?_
        refine Ev.iload (d34 33 rfl) rfl ?_
        obtain ⟨c7, hr⟩ := grd_some hr
        refine Ev.irem (d34 34 rfl) c7 ?_
        refine Ev.ifeq (t := 59) (d34 35 rfl) rfl (fun c8 => ?_) (fun c8 => ?_)
        · replace hr := (if_pos c8).symm.trans hr
          refine Ev.iload (d34 38 rfl) rfl ?_
          refine Ev.iload (d34 39 rfl) rfl ?_
          obtain ⟨c9, hr⟩ := grd_some hr
          refine Ev.idiv (d34 40 rfl) c9 ?_
          refine Ev.istD (L' := [.val (.ref o), .val (.int a0), .val (.int (a0 / (16 : Int32))), .val (.int (s.2 0 (ix (a0 / (16 : Int32))))), .val (.int (a0 % (16 : Int32))), .val (.int q5), .val (.int ((a0 % (16 : Int32)) / q5))]) (d34 41 rfl) rfl rfl rfl ?_
          refine Ev.aloadN (d34 42 rfl) rfl ?_
          refine Ev.gAr V (ww hw 19 rfl) (d34 43 rfl) (j := 2) rfl ?_
          refine Ev.iloadN (d34 44 rfl) rfl ?_
          refine Ev.ial V (j := 2) rfl rfl (d34 45 rfl) b3 ?_
          refine Ev.iload (d34 46 rfl) rfl ?_
          refine Ev.iushr (d34 47 rfl) ?_
          refine Ev.iconst (z := 1) (d34 48 rfl) rfl ?_
          refine Ev.iand (d34 49 rfl) ?_
          refine Ev.ifne (t := 82) (d34 50 rfl) rfl (fun c10 => ?_) (fun c10 => ?_)
          · replace hr := (if_pos c10).symm.trans hr
            refine Ev.iconst (z := 0) (d34 51 rfl) rfl ?_
            cases hr
            exact Ev.zret0 rfl (d34 52 rfl)
          · replace hr := (if_neg c10).symm.trans hr
            refine Ev.aloadN (d34 53 rfl) rfl ?_
            refine Ev.gAr V (ww hw 19 rfl) (d34 54 rfl) (j := 2) rfl ?_
            refine Ev.iloadN (d34 55 rfl) rfl ?_
            refine Ev.dup2 (d34 56 rfl) rfl rfl ?_
            refine Ev.ial V (j := 2) rfl rfl (d34 57 rfl) b3 ?_
            refine Ev.iconst (z := 1) (d34 58 rfl) rfl ?_
            refine Ev.iload (d34 59 rfl) rfl ?_
            refine Ev.ishl (d34 60 rfl) ?_
            refine Ev.iconst (z := -1) (d34 61 rfl) rfl ?_
            refine Ev.ixor (d34 62 rfl) ?_
            refine Ev.iand (d34 63 rfl) ?_
            refine Ev.ias V (j := 2) rfl rfl (d34 64 rfl) b3 ?_
            revert hr
            generalize setA s 2 (ix (a0 / (16 : Int32))) ((s.2 2 (ix (a0 / (16 : Int32)))) &&& (((1 : Int32) <<< (((a0 % (16 : Int32)) / q5) &&& 31)) ^^^ (-1 : Int32))) = s11
            intro hr
            replace hr := (bnd_eq _ _).symm.trans hr
            refine Ev.aloadN (d34 65 rfl) rfl ?_
            refine Ev.gAr V (ww hw 19 rfl) (d34 66 rfl) (j := 2) rfl ?_
            refine Ev.iloadN (d34 67 rfl) rfl ?_
            refine Ev.ial V (j := 2) rfl rfl (d34 68 rfl) b3 ?_
            refine Ev.ifne (t := 120) (d34 69 rfl) rfl (fun c12 => ?_) (fun c12 => ?_)
            · replace hr := (if_pos c12).symm.trans hr
              refine Ev.aloadN (d34 70 rfl) rfl ?_
              refine Ev.gAr V (ww hw 15 rfl) (d34 71 rfl) (j := 0) rfl ?_
              refine Ev.iloadN (d34 72 rfl) rfl ?_
              refine Ev.iconst (z := -1) (d34 73 rfl) rfl ?_
              refine Ev.ias V (j := 0) rfl rfl (d34 74 rfl) b3 ?_
              revert hr
              generalize setA s11 0 (ix (a0 / (16 : Int32))) (-1 : Int32) = s13
              intro hr
              replace hr := (bnd_eq _ _).symm.trans hr
              refine Ev.aloadN (d34 75 rfl) rfl ?_
              refine Ev.gAr V (ww hw 17 rfl) (d34 76 rfl) (j := 1) rfl ?_
              refine Ev.iloadN (d34 77 rfl) rfl ?_
              refine Ev.iconst (z := -1) (d34 78 rfl) rfl ?_
              refine Ev.ias V (j := 1) rfl rfl (d34 79 rfl) b3 ?_
              revert hr
              generalize setA s13 1 (ix (a0 / (16 : Int32))) (-1 : Int32) = s14
              intro hr
              replace hr := (bnd_eq _ _).symm.trans hr
              refine Ev.iconst (z := 1) (d34 80 rfl) rfl ?_
              cases hr
              exact Ev.zret1 rfl (d34 81 rfl)
            · replace hr := (if_neg c12).symm.trans hr
              refine Ev.iconst (z := 1) (d34 80 rfl) rfl ?_
              cases hr
              exact Ev.zret1 rfl (d34 81 rfl)
        · replace hr := (if_neg c8).symm.trans hr
          refine Ev.iconst (z := 0) (d34 36 rfl) rfl ?_
          cases hr
          exact Ev.zret0 rfl (d34 37 rfl)
    · replace hr := (if_neg c2).symm.trans hr
      refine Ev.iconst (z := 0) (d34 8 rfl) rfl ?_
      cases hr
      exact Ev.zret0 rfl (d34 9 rfl)
def f_mergeFrames_37 (n : Nat) (k17 : Int32 → Int32 → Int32 → Int32 → Int32 → Int32 → St → Option (St)) : Nat → Int32 → Int32 → Int32 → Int32 → Int32 → Int32 → Int32 → St → Option (St)
  | 0 => fun _ _ _ _ _ _ _ _ => none
  | k + 1 => fun x1 x2 x4 x5 x6 x7 x8 s =>
    if x8 < x6 then
      grd (inb ((x2 * (16 : Int32)) + ((x7 * x6) + x8)) 256) <|
      grd (inb ((x1 * (16 : Int32)) + ((x7 * x6) + x8)) 256) <|
      bnd (setA s 3 (ix ((x1 * (16 : Int32)) + ((x7 * x6) + x8))) (s.2 3 (ix ((x2 * (16 : Int32)) + ((x7 * x6) + x8))))) fun s4 =>
      f_mergeFrames_37 n k17 k x1 x2 x4 x5 x6 x7 (x8 + (1 : Int32)) s4
    else
      k17 x1 x2 x4 x5 x6 (x7 + (1 : Int32)) s
set_option maxRecDepth 100000 in
theorem e_mergeFrames_37 {g : GT} {n : Nat} (hw : HW g) {K : St → MHeap} {o : Nat} {r : Nat → Nat} (V : View (GG g) Ln K o r) {k17 : Int32 → Int32 → Int32 → Int32 → Int32 → Int32 → St → Option (St)} (hk17 : ∀ (x1 : Int32) (x2 : Int32) (x4 : Int32) (x5 : Int32) (x6 : Int32) (x7 : Int32) (s : St) (y3 : Slot) (hy3 : one1 y3 = true) (y8 : Slot) (hy8 : one1 y8 = true) (y9 : Slot) (hy9 : one1 y9 = true) (w : St), k17 x1 x2 x4 x5 x6 x7 s = some w → Ev (GG g) M_mergeFrames 17 [.val (.ref o), .val (.int x1), .val (.int x2), y3, .val (.int x4), .val (.int x5), .val (.int x6), .val (.int x7), y8, y9] [] (K s) (none, (K w))) (k : Nat) : ∀ (x1 : Int32) (x2 : Int32) (x4 : Int32) (x5 : Int32) (x6 : Int32) (x7 : Int32) (x8 : Int32) (s : St) (y3 : Slot) (hy3 : one1 y3 = true) (y9 : Slot) (hy9 : one1 y9 = true) (w : St), f_mergeFrames_37 n k17 k x1 x2 x4 x5 x6 x7 x8 s = some w → Ev (GG g) M_mergeFrames 37 [.val (.ref o), .val (.int x1), .val (.int x2), y3, .val (.int x4), .val (.int x5), .val (.int x6), .val (.int x7), .val (.int x8), y9] [] (K s) (none, (K w)) := by
  induction k with
  | zero => intro x1 x2 x4 x5 x6 x7 x8 s y3 hy3 y9 hy9 w hr; rw [f_mergeFrames_37] at hr; cases hr
  | succ k ih =>
    intro x1 x2 x4 x5 x6 x7 x8 s y3 hy3 y9 hy9 w hr
    rw [f_mergeFrames_37] at hr
    refine Ev.iload (d37 21 rfl) rfl ?_
    refine Ev.iload (d37 22 rfl) rfl ?_
    refine Ev.icge (t := 84) (d37 23 rfl) rfl (fun c1 => ?_) (fun c1 => ?_)
    · replace hr := (if_pos c1).symm.trans hr
      refine Ev.iload (d37 24 rfl) rfl ?_
      refine Ev.iload (d37 25 rfl) rfl ?_
      refine Ev.imul (d37 26 rfl) ?_
      refine Ev.iload (d37 27 rfl) rfl ?_
      refine Ev.iadd (d37 28 rfl) ?_
      refine Ev.istD (L' := [.val (.ref o), .val (.int x1), .val (.int x2), y3, .val (.int x4), .val (.int x5), .val (.int x6), .val (.int x7), .val (.int x8), .val (.int ((x7 * x6) + x8))]) (d37 29 rfl) rfl hy9 rfl ?_
      refine Ev.aloadN (d37 30 rfl) rfl ?_
      refine Ev.gAr V (ww hw 21 rfl) (d37 31 rfl) (j := 3) rfl ?_
      refine Ev.iloadN (d37 32 rfl) rfl ?_
      refine Ev.bipush (z := 16) (d37 33 rfl) rfl ?_
      refine Ev.imul (d37 34 rfl) ?_
      refine Ev.iload (d37 35 rfl) rfl ?_
      refine Ev.iadd (d37 36 rfl) ?_
      refine Ev.aloadN (d37 37 rfl) rfl ?_
      refine Ev.gAr V (ww hw 21 rfl) (d37 38 rfl) (j := 3) rfl ?_
      refine Ev.iloadN (d37 39 rfl) rfl ?_
      refine Ev.bipush (z := 16) (d37 40 rfl) rfl ?_
      refine Ev.imul (d37 41 rfl) ?_
      refine Ev.iload (d37 42 rfl) rfl ?_
      refine Ev.iadd (d37 43 rfl) ?_
      obtain ⟨b2, hr⟩ := grd_some hr
      refine Ev.ial V (j := 3) rfl rfl (d37 44 rfl) b2 ?_
      obtain ⟨b3, hr⟩ := grd_some hr
      refine Ev.ias V (j := 3) rfl rfl (d37 45 rfl) b3 ?_
      revert hr
      generalize setA s 3 (ix ((x1 * (16 : Int32)) + ((x7 * x6) + x8))) (s.2 3 (ix ((x2 * (16 : Int32)) + ((x7 * x6) + x8)))) = s4
      intro hr
      replace hr := (bnd_eq _ _).symm.trans hr
      refine Ev.iinc (z := 1) (L' := [.val (.ref o), .val (.int x1), .val (.int x2), y3, .val (.int x4), .val (.int x5), .val (.int x6), .val (.int x7), .val (.int (x8 + (1 : Int32))), .val (.int ((x7 * x6) + x8))]) (d37 46 rfl) rfl rfl rfl ?_
      refine Ev.goto (t := 37) (d37 47 rfl) rfl ?_
      exact ih x1 x2 x4 x5 x6 x7 (x8 + (1 : Int32)) s4 y3 hy3 (.val (.int ((x7 * x6) + x8))) rfl _ hr
    · replace hr := (if_neg c1).symm.trans hr
      refine Ev.iinc (z := 1) (L' := [.val (.ref o), .val (.int x1), .val (.int x2), y3, .val (.int x4), .val (.int x5), .val (.int x6), .val (.int (x7 + (1 : Int32))), .val (.int x8), y9]) (d37 48 rfl) rfl rfl rfl ?_
      refine Ev.goto (t := 17) (d37 49 rfl) rfl ?_
      exact hk17 x1 x2 x4 x5 x6 (x7 + (1 : Int32)) s y3 hy3 (.val (.int x8)) rfl y9 hy9 _ hr
def f_mergeFrames_93 (n : Nat) : Nat → Int32 → Int32 → Int32 → St → Option (St)
  | 0 => fun _ _ _ _ => none
  | k + 1 => fun x1 x2 x7 s =>
    if x7 < (s.1 4) then
      grd (inb x7 16) <|
      if (s.2 0 (ix x7)) = (-1 : Int32) then
        f_mergeFrames_93 n k x1 x2 (x7 + (1 : Int32)) s
      else
        if (s.2 1 (ix x7)) = x2 then
          bnd (setA s 1 (ix x7) x1) fun s5 =>
          f_mergeFrames_93 n k x1 x2 (x7 + (1 : Int32)) s5
        else
          f_mergeFrames_93 n k x1 x2 (x7 + (1 : Int32)) s
    else
      some s
set_option maxRecDepth 100000 in
theorem e_mergeFrames_93 {g : GT} {n : Nat} (hw : HW g) {K : St → MHeap} {o : Nat} {r : Nat → Nat} (V : View (GG g) Ln K o r) (k : Nat) : ∀ (x1 : Int32) (x2 : Int32) (x7 : Int32) (s : St) (y3 : Slot) (hy3 : one1 y3 = true) (y4 : Slot) (hy4 : one1 y4 = true) (y5 : Slot) (hy5 : one1 y5 = true) (y6 : Slot) (hy6 : one1 y6 = true) (y8 : Slot) (hy8 : one1 y8 = true) (y9 : Slot) (hy9 : one1 y9 = true) (w : St), f_mergeFrames_93 n k x1 x2 x7 s = some w → Ev (GG g) M_mergeFrames 93 [.val (.ref o), .val (.int x1), .val (.int x2), y3, y4, y5, y6, .val (.int x7), y8, y9] [] (K s) (none, (K w)) := by
  induction k with
  | zero => intro x1 x2 x7 s y3 hy3 y4 hy4 y5 hy5 y6 hy6 y8 hy8 y9 hy9 w hr; rw [f_mergeFrames_93] at hr; cases hr
  | succ k ih =>
    intro x1 x2 x7 s y3 hy3 y4 hy4 y5 hy5 y6 hy6 y8 hy8 y9 hy9 w hr
    rw [f_mergeFrames_93] at hr
    refine Ev.iload (d37 52 rfl) rfl ?_
    refine Ev.aloadN (d37 53 rfl) rfl ?_
    refine Ev.gI V (ww hw 27 rfl) (d37 54 rfl) (j := 4) rfl rfl ?_
    refine Ev.icge (t := 138) (d37 55 rfl) rfl (fun c1 => ?_) (fun c1 => ?_)
    · replace hr := (if_pos c1).symm.trans hr
      refine Ev.aloadN (d37 56 rfl) rfl ?_
      refine Ev.gAr V (ww hw 15 rfl) (d37 57 rfl) (j := 0) rfl ?_
      refine Ev.iload (d37 58 rfl) rfl ?_
      obtain ⟨b2, hr⟩ := grd_some hr
      refine Ev.ial V (j := 0) rfl rfl (d37 59 rfl) b2 ?_
      refine Ev.iconst (z := -1) (d37 60 rfl) rfl ?_
      refine Ev.iceq (t := 132) (d37 61 rfl) rfl (fun c3 => ?_) (fun c3 => ?_)
      · replace hr := (if_pos c3).symm.trans hr
        refine Ev.iinc (z := 1) (L' := [.val (.ref o), .val (.int x1), .val (.int x2), y3, y4, y5, y6, .val (.int (x7 + (1 : Int32))), y8, y9]) (d37 73 rfl) rfl rfl rfl ?_
        refine Ev.goto (t := 93) (d37 74 rfl) rfl ?_
        exact ih x1 x2 (x7 + (1 : Int32)) s y3 hy3 y4 hy4 y5 hy5 y6 hy6 y8 hy8 y9 hy9 _ hr
      · replace hr := (if_neg c3).symm.trans hr
        refine Ev.aloadN (d37 62 rfl) rfl ?_
        refine Ev.gAr V (ww hw 17 rfl) (d37 63 rfl) (j := 1) rfl ?_
        refine Ev.iload (d37 64 rfl) rfl ?_
        refine Ev.ial V (j := 1) rfl rfl (d37 65 rfl) b2 ?_
        refine Ev.iloadN (d37 66 rfl) rfl ?_
        refine Ev.icne (t := 132) (d37 67 rfl) rfl (fun c4 => ?_) (fun c4 => ?_)
        · replace hr := (if_pos c4).symm.trans hr
          refine Ev.aloadN (d37 68 rfl) rfl ?_
          refine Ev.gAr V (ww hw 17 rfl) (d37 69 rfl) (j := 1) rfl ?_
          refine Ev.iload (d37 70 rfl) rfl ?_
          refine Ev.iloadN (d37 71 rfl) rfl ?_
          refine Ev.ias V (j := 1) rfl rfl (d37 72 rfl) b2 ?_
          revert hr
          generalize setA s 1 (ix x7) x1 = s5
          intro hr
          replace hr := (bnd_eq _ _).symm.trans hr
          refine Ev.iinc (z := 1) (L' := [.val (.ref o), .val (.int x1), .val (.int x2), y3, y4, y5, y6, .val (.int (x7 + (1 : Int32))), y8, y9]) (d37 73 rfl) rfl rfl rfl ?_
          refine Ev.goto (t := 93) (d37 74 rfl) rfl ?_
          exact ih x1 x2 (x7 + (1 : Int32)) s5 y3 hy3 y4 hy4 y5 hy5 y6 hy6 y8 hy8 y9 hy9 _ hr
        · replace hr := (if_neg c4).symm.trans hr
          refine Ev.iinc (z := 1) (L' := [.val (.ref o), .val (.int x1), .val (.int x2), y3, y4, y5, y6, .val (.int (x7 + (1 : Int32))), y8, y9]) (d37 73 rfl) rfl rfl rfl ?_
          refine Ev.goto (t := 93) (d37 74 rfl) rfl ?_
          exact ih x1 x2 (x7 + (1 : Int32)) s y3 hy3 y4 hy4 y5 hy5 y6 hy6 y8 hy8 y9 hy9 _ hr
    · replace hr := (if_neg c1).symm.trans hr
      cases hr
      exact Ev.vreturn rfl (d37 75 rfl)
def f_mergeFrames_17 (n : Nat) : Nat → Int32 → Int32 → Int32 → Int32 → Int32 → Int32 → St → Option (St)
  | 0 => fun _ _ _ _ _ _ _ => none
  | k + 1 => fun x1 x2 x4 x5 x6 x7 s =>
    if x7 < x5 then
      if ((XT.ushr x4 x7) &&& (1 : Int32)) = 0 then
        f_mergeFrames_17 n k x1 x2 x4 x5 x6 (x7 + (1 : Int32)) s
      else
        f_mergeFrames_37 n (f_mergeFrames_17 n k) n x1 x2 x4 x5 x6 x7 (0 : Int32) s
    else
      f_mergeFrames_93 n n x1 x2 (0 : Int32) s
set_option maxRecDepth 100000 in
theorem e_mergeFrames_17 {g : GT} {n : Nat} (hw : HW g) {K : St → MHeap} {o : Nat} {r : Nat → Nat} (V : View (GG g) Ln K o r) (k : Nat) : ∀ (x1 : Int32) (x2 : Int32) (x4 : Int32) (x5 : Int32) (x6 : Int32) (x7 : Int32) (s : St) (y3 : Slot) (hy3 : one1 y3 = true) (y8 : Slot) (hy8 : one1 y8 = true) (y9 : Slot) (hy9 : one1 y9 = true) (w : St), f_mergeFrames_17 n k x1 x2 x4 x5 x6 x7 s = some w → Ev (GG g) M_mergeFrames 17 [.val (.ref o), .val (.int x1), .val (.int x2), y3, .val (.int x4), .val (.int x5), .val (.int x6), .val (.int x7), y8, y9] [] (K s) (none, (K w)) := by
  induction k with
  | zero => intro x1 x2 x4 x5 x6 x7 s y3 hy3 y8 hy8 y9 hy9 w hr; rw [f_mergeFrames_17] at hr; cases hr
  | succ k ih =>
    intro x1 x2 x4 x5 x6 x7 s y3 hy3 y8 hy8 y9 hy9 w hr
    rw [f_mergeFrames_17] at hr
    refine Ev.iload (d37 10 rfl) rfl ?_
    refine Ev.iload (d37 11 rfl) rfl ?_
    refine Ev.icge (t := 90) (d37 12 rfl) rfl (fun c1 => ?_) (fun c1 => ?_)
    · replace hr := (if_pos c1).symm.trans hr
      refine Ev.iload (d37 13 rfl) rfl ?_
      refine Ev.iload (d37 14 rfl) rfl ?_
      refine Ev.iushr (d37 15 rfl) ?_
      refine Ev.iconst (z := 1) (d37 16 rfl) rfl ?_
      refine Ev.iand (d37 17 rfl) ?_
      refine Ev.ifeq (t := 84) (d37 18 rfl) rfl (fun c2 => ?_) (fun c2 => ?_)
      · replace hr := (if_pos c2).symm.trans hr
        refine Ev.iinc (z := 1) (L' := [.val (.ref o), .val (.int x1), .val (.int x2), y3, .val (.int x4), .val (.int x5), .val (.int x6), .val (.int (x7 + (1 : Int32))), y8, y9]) (d37 48 rfl) rfl rfl rfl ?_
        refine Ev.goto (t := 17) (d37 49 rfl) rfl ?_
        exact ih x1 x2 x4 x5 x6 (x7 + (1 : Int32)) s y3 hy3 y8 hy8 y9 hy9 _ hr
      · replace hr := (if_neg c2).symm.trans hr
        refine Ev.iconst (z := 0) (d37 19 rfl) rfl ?_
        refine Ev.istD (L' := [.val (.ref o), .val (.int x1), .val (.int x2), y3, .val (.int x4), .val (.int x5), .val (.int x6), .val (.int x7), .val (.int (0 : Int32)), y9]) (d37 20 rfl) rfl hy8 rfl ?_
        exact e_mergeFrames_37 hw V ih n x1 x2 x4 x5 x6 x7 (0 : Int32) s y3 hy3 y9 hy9 _ hr
    · replace hr := (if_neg c1).symm.trans hr
      refine Ev.iconst (z := 0) (d37 50 rfl) rfl ?_
      refine Ev.istD (L' := [.val (.ref o), .val (.int x1), .val (.int x2), y3, .val (.int x4), .val (.int x5), .val (.int x6), .val (.int (0 : Int32)), y8, y9]) (d37 51 rfl) rfl rfl rfl ?_
      exact e_mergeFrames_93 hw V  n x1 x2 (0 : Int32) s y3 hy3 (.val (.int x4)) rfl (.val (.int x5)) rfl (.val (.int x6)) rfl y8 hy8 y9 hy9 _ hr
def f_mergeFrames (n : Nat) (a0 : Int32) (a1 : Int32) (a2 : Int32) (a3 : Int32) (s : St) : Option (St) :=
  (f_slotsOf s a2).bind fun q1 =>
  (f_sizeOf s a2).bind fun q3 =>
  f_mergeFrames_17 n n a0 a1 a3 q1 q3 (0 : Int32) s
set_option maxRecDepth 100000 in
theorem e_mergeFrames {g : GT} {n : Nat} {a0 : Int32} {a1 : Int32} {a2 : Int32} {a3 : Int32} {s : St} {w : St} (hw : HW g) {K : St → MHeap} {o : Nat} {r : Nat → Nat} (V : View (GG g) Ln K o r) (hr : f_mergeFrames n a0 a1 a2 a3 s = some w) : EvC (GG g) M_mergeFrames [.ref o, .int a0, .int a1, .int a2, .int a3] (K s) (none, (K w)) := by
  refine EvC.enter (L0 := [.val (.ref o), .val (.int a0), .val (.int a1), .val (.int a2), .val (.int a3), .unset, .unset, .unset, .unset, .unset]) pl_mergeFrames (fun _ => rfl) rfl rfl ?_
  unfold f_mergeFrames at hr
  refine Ev.aloadN (d37 0 rfl) rfl ?_
  refine Ev.iloadN (d37 1 rfl) rfl ?_
  obtain ⟨q1, hq2, hr⟩ := Option.bind_eq_some_iff.mp hr
  refine Ev.priv (y := M_slotsOf) (args := [.int a2]) (rest := []) (gok hw) rfl nm_slotsOf (ww hw 111 rfl) (ww hw 112 rfl) (ww hw 113 rfl) (ww hw 114 rfl) (lenOf pd_slotsOf rfl) (d37 2 rfl) (V.2.1 s) (e_slotsOf hw V hq2) (by decide) (Nat.le_of_ble_eq_true rfl) rfl ?_
  refine Ev.istD (L' := [.val (.ref o), .val (.int a0), .val (.int a1), .val (.int a2), .val (.int a3), .val (.int q1), .unset, .unset, .unset, .unset]) (d37 3 rfl) rfl rfl rfl ?_
  refine Ev.aloadN (d37 4 rfl) rfl ?_
  refine Ev.iloadN (d37 5 rfl) rfl ?_
  obtain ⟨q3, hq4, hr⟩ := Option.bind_eq_some_iff.mp hr
  refine Ev.priv (y := M_sizeOf) (args := [.int a2]) (rest := []) (gok hw) rfl nm_sizeOf (ww hw 127 rfl) (ww hw 128 rfl) (ww hw 129 rfl) (ww hw 130 rfl) (lenOf pd_sizeOf rfl) (d37 6 rfl) (V.2.1 s) (e_sizeOf hw V hq4) (by decide) (Nat.le_of_ble_eq_true rfl) rfl ?_
  refine Ev.istD (L' := [.val (.ref o), .val (.int a0), .val (.int a1), .val (.int a2), .val (.int a3), .val (.int q1), .val (.int q3), .unset, .unset, .unset]) (d37 7 rfl) rfl rfl rfl ?_
  refine Ev.iconst (z := 0) (d37 8 rfl) rfl ?_
  refine Ev.istD (L' := [.val (.ref o), .val (.int a0), .val (.int a1), .val (.int a2), .val (.int a3), .val (.int q1), .val (.int q3), .val (.int (0 : Int32)), .unset, .unset]) (d37 9 rfl) rfl rfl rfl ?_
  exact e_mergeFrames_17 hw V  n a0 a1 a3 q1 q3 (0 : Int32) s (.val (.int a2)) rfl .unset rfl .unset rfl _ hr
def f_meshInto_7 (n : Nat) : Nat → Int32 → Int32 → Int32 → Int32 → St → Option (Int32 × St)
  | 0 => fun _ _ _ _ _ => none
  | k + 1 => fun x1 x2 x3 x4 s =>
    if x4 < (s.1 5) then
      (f_frameClass n s x4).bind fun q2 =>
      if q2 = x2 then
        (f_unionOf n s x1).bind fun q5 =>
        (f_unionOf n s x4).bind fun q7 =>
        if (q5 &&& q7) = 0 then
          (f_mergeFrames n x1 x4 x2 q7 s).bind fun q10 =>
          f_meshInto_7 n k x1 x2 (x3 + (1 : Int32)) (x4 + (1 : Int32)) q10
        else
          f_meshInto_7 n k x1 x2 x3 (x4 + (1 : Int32)) s
      else
        f_meshInto_7 n k x1 x2 x3 (x4 + (1 : Int32)) s
    else
      some (x3, s)
set_option maxRecDepth 100000 in
theorem e_meshInto_7 {g : GT} {n : Nat} (hw : HW g) {K : St → MHeap} {o : Nat} {r : Nat → Nat} (V : View (GG g) Ln K o r) (k : Nat) : ∀ (x1 : Int32) (x2 : Int32) (x3 : Int32) (x4 : Int32) (s : St) (y5 : Slot) (hy5 : one1 y5 = true) (y6 : Slot) (hy6 : one1 y6 = true) (w : Int32 × St), f_meshInto_7 n k x1 x2 x3 x4 s = some w → Ev (GG g) M_meshInto 7 [.val (.ref o), .val (.int x1), .val (.int x2), .val (.int x3), .val (.int x4), y5, y6] [] (K s) ((some (.int w.1)), (K w.2)) := by
  induction k with
  | zero => intro x1 x2 x3 x4 s y5 hy5 y6 hy6 w hr; rw [f_meshInto_7] at hr; cases hr
  | succ k ih =>
    intro x1 x2 x3 x4 s y5 hy5 y6 hy6 w hr
    rw [f_meshInto_7] at hr
    refine Ev.iload (d36 6 rfl) rfl ?_
    refine Ev.aloadN (d36 7 rfl) rfl ?_
    refine Ev.gI V (ww hw 29 rfl) (d36 8 rfl) (j := 5) rfl rfl ?_
    refine Ev.icge (t := 68) (d36 9 rfl) rfl (fun c1 => ?_) (fun c1 => ?_)
    · replace hr := (if_pos c1).symm.trans hr
      refine Ev.aloadN (d36 10 rfl) rfl ?_
      refine Ev.iload (d36 11 rfl) rfl ?_
      obtain ⟨q2, hq3, hr⟩ := Option.bind_eq_some_iff.mp hr
      refine Ev.priv (y := M_frameClass) (args := [.int x4]) (rest := []) (gok hw) rfl nm_frameClass (ww hw 76 rfl) (ww hw 77 rfl) (ww hw 78 rfl) (ww hw 79 rfl) (lenOf pd_frameClass rfl) (d36 12 rfl) (V.2.1 s) (e_frameClass hw V hq3) (by decide) (Nat.le_of_ble_eq_true rfl) rfl ?_
      refine Ev.iloadN (d36 13 rfl) rfl ?_
      refine Ev.icne (t := 62) (d36 14 rfl) rfl (fun c4 => ?_) (fun c4 => ?_)
      · replace hr := (if_pos c4).symm.trans hr
        refine Ev.aloadN (d36 15 rfl) rfl ?_
        refine Ev.iloadN (d36 16 rfl) rfl ?_
        obtain ⟨q5, hq6, hr⟩ := Option.bind_eq_some_iff.mp hr
        refine Ev.priv (y := M_unionOf) (args := [.int x1]) (rest := []) (gok hw) rfl nm_unionOf (ww hw 67 rfl) (ww hw 68 rfl) (ww hw 69 rfl) (ww hw 70 rfl) (lenOf pd_unionOf rfl) (d36 17 rfl) (V.2.1 s) (e_unionOf hw V hq6) (by decide) (Nat.le_of_ble_eq_true rfl) rfl ?_
        refine Ev.istD (L' := [.val (.ref o), .val (.int x1), .val (.int x2), .val (.int x3), .val (.int x4), .val (.int q5), y6]) (d36 18 rfl) rfl hy5 rfl ?_
        refine Ev.aloadN (d36 19 rfl) rfl ?_
        refine Ev.iload (d36 20 rfl) rfl ?_
        obtain ⟨q7, hq8, hr⟩ := Option.bind_eq_some_iff.mp hr
        refine Ev.priv (y := M_unionOf) (args := [.int x4]) (rest := []) (gok hw) rfl nm_unionOf (ww hw 67 rfl) (ww hw 68 rfl) (ww hw 69 rfl) (ww hw 70 rfl) (lenOf pd_unionOf rfl) (d36 21 rfl) (V.2.1 s) (e_unionOf hw V hq8) (by decide) (Nat.le_of_ble_eq_true rfl) rfl ?_
        refine Ev.istD (L' := [.val (.ref o), .val (.int x1), .val (.int x2), .val (.int x3), .val (.int x4), .val (.int q5), .val (.int q7)]) (d36 22 rfl) rfl hy6 rfl ?_
        refine Ev.iload (d36 23 rfl) rfl ?_
        refine Ev.iload (d36 24 rfl) rfl ?_
        refine Ev.iand (d36 25 rfl) ?_
        refine Ev.ifne (t := 62) (d36 26 rfl) rfl (fun c9 => ?_) (fun c9 => ?_)
        · replace hr := (if_pos c9).symm.trans hr
          refine Ev.aloadN (d36 27 rfl) rfl ?_
          refine Ev.iloadN (d36 28 rfl) rfl ?_
          refine Ev.iload (d36 29 rfl) rfl ?_
          refine Ev.iloadN (d36 30 rfl) rfl ?_
          refine Ev.iload (d36 31 rfl) rfl ?_
          obtain ⟨q10, hq11, hr⟩ := Option.bind_eq_some_iff.mp hr
          refine Ev.priv (y := M_mergeFrames) (args := [.int x1, .int x4, .int x2, .int q7]) (rest := []) (gok hw) rfl nm_mergeFrames (ww hw 177 rfl) (ww hw 178 rfl) (ww hw 179 rfl) (ww hw 180 rfl) (lenOf pd_mergeFrames rfl) (d36 32 rfl) (V.2.1 s) (e_mergeFrames hw V hq11) (by decide) (Nat.le_of_ble_eq_true rfl) rfl ?_
          refine Ev.iinc (z := 1) (L' := [.val (.ref o), .val (.int x1), .val (.int x2), .val (.int (x3 + (1 : Int32))), .val (.int x4), .val (.int q5), .val (.int q7)]) (d36 33 rfl) rfl rfl rfl ?_
          refine Ev.iinc (z := 1) (L' := [.val (.ref o), .val (.int x1), .val (.int x2), .val (.int (x3 + (1 : Int32))), .val (.int (x4 + (1 : Int32))), .val (.int q5), .val (.int q7)]) (d36 34 rfl) rfl rfl rfl ?_
          refine Ev.goto (t := 7) (d36 35 rfl) rfl ?_
          exact ih x1 x2 (x3 + (1 : Int32)) (x4 + (1 : Int32)) q10 (.val (.int q5)) rfl (.val (.int q7)) rfl _ hr
        · replace hr := (if_neg c9).symm.trans hr
          refine Ev.iinc (z := 1) (L' := [.val (.ref o), .val (.int x1), .val (.int x2), .val (.int x3), .val (.int (x4 + (1 : Int32))), .val (.int q5), .val (.int q7)]) (d36 34 rfl) rfl rfl rfl ?_
          refine Ev.goto (t := 7) (d36 35 rfl) rfl ?_
          exact ih x1 x2 x3 (x4 + (1 : Int32)) s (.val (.int q5)) rfl (.val (.int q7)) rfl _ hr
      · replace hr := (if_neg c4).symm.trans hr
        refine Ev.iinc (z := 1) (L' := [.val (.ref o), .val (.int x1), .val (.int x2), .val (.int x3), .val (.int (x4 + (1 : Int32))), y5, y6]) (d36 34 rfl) rfl rfl rfl ?_
        refine Ev.goto (t := 7) (d36 35 rfl) rfl ?_
        exact ih x1 x2 x3 (x4 + (1 : Int32)) s y5 hy5 y6 hy6 _ hr
    · replace hr := (if_neg c1).symm.trans hr
      refine Ev.iloadN (d36 36 rfl) rfl ?_
      cases hr
      exact Ev.ireturn rfl (d36 37 rfl)
def f_meshInto (n : Nat) (a0 : Int32) (a1 : Int32) (s : St) : Option (Int32 × St) :=
  f_meshInto_7 n n a0 a1 (0 : Int32) (a0 + (1 : Int32)) s
set_option maxRecDepth 100000 in
theorem e_meshInto {g : GT} {n : Nat} {a0 : Int32} {a1 : Int32} {s : St} {w : Int32 × St} (hw : HW g) {K : St → MHeap} {o : Nat} {r : Nat → Nat} (V : View (GG g) Ln K o r) (hr : f_meshInto n a0 a1 s = some w) : EvC (GG g) M_meshInto [.ref o, .int a0, .int a1] (K s) ((some (.int w.1)), (K w.2)) := by
  refine EvC.enter (L0 := [.val (.ref o), .val (.int a0), .val (.int a1), .unset, .unset, .unset, .unset]) pl_meshInto (fun h => nomatch h) rfl rfl ?_
  unfold f_meshInto at hr
  refine Ev.iconst (z := 0) (d36 0 rfl) rfl ?_
  refine Ev.istDN (L' := [.val (.ref o), .val (.int a0), .val (.int a1), .val (.int (0 : Int32)), .unset, .unset, .unset]) (d36 1 rfl) rfl rfl rfl ?_
  refine Ev.iloadN (d36 2 rfl) rfl ?_
  refine Ev.iconst (z := 1) (d36 3 rfl) rfl ?_
  refine Ev.iadd (d36 4 rfl) ?_
  refine Ev.istD (L' := [.val (.ref o), .val (.int a0), .val (.int a1), .val (.int (0 : Int32)), .val (.int (a0 + (1 : Int32))), .unset, .unset]) (d36 5 rfl) rfl rfl rfl ?_
  exact e_meshInto_7 hw V  n a0 a1 (0 : Int32) (a0 + (1 : Int32)) s .unset rfl .unset rfl _ hr
def f_mesh_11 (n : Nat) (k4 : Int32 → Int32 → St → Option (Int32 × St)) : Nat → Int32 → Int32 → Int32 → St → Option (Int32 × St)
  | 0 => fun _ _ _ _ => none
  | k + 1 => fun x1 x2 x3 s =>
    if x3 < (s.1 5) then
      (f_frameClass n s x3).bind fun q2 =>
      if q2 = x2 then
        (f_meshInto n x3 x2 s).bind fun q5 =>
        f_mesh_11 n k4 k (x1 + q5.1) x2 (x3 + (1 : Int32)) q5.2
      else
        f_mesh_11 n k4 k x1 x2 (x3 + (1 : Int32)) s
    else
      k4 x1 (x2 + (1 : Int32)) s
set_option maxRecDepth 100000 in
theorem e_mesh_11 {g : GT} {n : Nat} (hw : HW g) {K : St → MHeap} {o : Nat} {r : Nat → Nat} (V : View (GG g) Ln K o r) {k4 : Int32 → Int32 → St → Option (Int32 × St)} (hk4 : ∀ (x1 : Int32) (x2 : Int32) (s : St) (y3 : Slot) (hy3 : one1 y3 = true) (w : Int32 × St), k4 x1 x2 s = some w → Ev (GG g) M_mesh 4 [.val (.ref o), .val (.int x1), .val (.int x2), y3] [] (K s) ((some (.int w.1)), (K w.2))) (k : Nat) : ∀ (x1 : Int32) (x2 : Int32) (x3 : Int32) (s : St) (w : Int32 × St), f_mesh_11 n k4 k x1 x2 x3 s = some w → Ev (GG g) M_mesh 11 [.val (.ref o), .val (.int x1), .val (.int x2), .val (.int x3)] [] (K s) ((some (.int w.1)), (K w.2)) := by
  induction k with
  | zero => intro x1 x2 x3 s w hr; rw [f_mesh_11] at hr; cases hr
  | succ k ih =>
    intro x1 x2 x3 s w hr
    rw [f_mesh_11] at hr
    refine Ev.iloadN (d35 9 rfl) rfl ?_
    refine Ev.aloadN (d35 10 rfl) rfl ?_
    refine Ev.gI V (ww hw 29 rfl) (d35 11 rfl) (j := 5) rfl rfl ?_
    refine Ev.icge (t := 43) (d35 12 rfl) rfl (fun c1 => ?_) (fun c1 => ?_)
    · replace hr := (if_pos c1).symm.trans hr
      refine Ev.aloadN (d35 13 rfl) rfl ?_
      refine Ev.iloadN (d35 14 rfl) rfl ?_
      obtain ⟨q2, hq3, hr⟩ := Option.bind_eq_some_iff.mp hr
      refine Ev.priv (y := M_frameClass) (args := [.int x3]) (rest := []) (gok hw) rfl nm_frameClass (ww hw 76 rfl) (ww hw 77 rfl) (ww hw 78 rfl) (ww hw 79 rfl) (lenOf pd_frameClass rfl) (d35 15 rfl) (V.2.1 s) (e_frameClass hw V hq3) (by decide) (Nat.le_of_ble_eq_true rfl) rfl ?_
      refine Ev.iloadN (d35 16 rfl) rfl ?_
      refine Ev.icne (t := 37) (d35 17 rfl) rfl (fun c4 => ?_) (fun c4 => ?_)
      · replace hr := (if_pos c4).symm.trans hr
        refine Ev.iloadN (d35 18 rfl) rfl ?_
        refine Ev.aloadN (d35 19 rfl) rfl ?_
        refine Ev.iloadN (d35 20 rfl) rfl ?_
        refine Ev.iloadN (d35 21 rfl) rfl ?_
        obtain ⟨q5, hq6, hr⟩ := Option.bind_eq_some_iff.mp hr
        refine Ev.priv (y := M_meshInto) (args := [.int x3, .int x2]) (rest := [.int x1]) (gok hw) rfl nm_meshInto (ww hw 173 rfl) (ww hw 174 rfl) (ww hw 175 rfl) (ww hw 176 rfl) (lenOf pd_meshInto rfl) (d35 22 rfl) (V.2.1 s) (e_meshInto hw V hq6) (by decide) (Nat.le_of_ble_eq_true rfl) rfl ?_
        refine Ev.iadd (d35 23 rfl) ?_
        refine Ev.istDN (L' := [.val (.ref o), .val (.int (x1 + q5.1)), .val (.int x2), .val (.int x3)]) (d35 24 rfl) rfl rfl rfl ?_
        refine Ev.iinc (z := 1) (L' := [.val (.ref o), .val (.int (x1 + q5.1)), .val (.int x2), .val (.int (x3 + (1 : Int32)))]) (d35 25 rfl) rfl rfl rfl ?_
        refine Ev.goto (t := 11) (d35 26 rfl) rfl ?_
        exact ih (x1 + q5.1) x2 (x3 + (1 : Int32)) q5.2  _ hr
      · replace hr := (if_neg c4).symm.trans hr
        refine Ev.iinc (z := 1) (L' := [.val (.ref o), .val (.int x1), .val (.int x2), .val (.int (x3 + (1 : Int32)))]) (d35 25 rfl) rfl rfl rfl ?_
        refine Ev.goto (t := 11) (d35 26 rfl) rfl ?_
        exact ih x1 x2 (x3 + (1 : Int32)) s  _ hr
    · replace hr := (if_neg c1).symm.trans hr
      refine Ev.iinc (z := 1) (L' := [.val (.ref o), .val (.int x1), .val (.int (x2 + (1 : Int32))), .val (.int x3)]) (d35 27 rfl) rfl rfl rfl ?_
      refine Ev.goto (t := 4) (d35 28 rfl) rfl ?_
      exact hk4 x1 (x2 + (1 : Int32)) s (.val (.int x3)) rfl _ hr
def f_mesh_4 (n : Nat) : Nat → Int32 → Int32 → St → Option (Int32 × St)
  | 0 => fun _ _ _ => none
  | k + 1 => fun x1 x2 s =>
    if (2 : Int32) < x2 then
      some (x1, s)
    else
      f_mesh_11 n (f_mesh_4 n k) n x1 x2 (0 : Int32) s
set_option maxRecDepth 100000 in
theorem e_mesh_4 {g : GT} {n : Nat} (hw : HW g) {K : St → MHeap} {o : Nat} {r : Nat → Nat} (V : View (GG g) Ln K o r) (k : Nat) : ∀ (x1 : Int32) (x2 : Int32) (s : St) (y3 : Slot) (hy3 : one1 y3 = true) (w : Int32 × St), f_mesh_4 n k x1 x2 s = some w → Ev (GG g) M_mesh 4 [.val (.ref o), .val (.int x1), .val (.int x2), y3] [] (K s) ((some (.int w.1)), (K w.2)) := by
  induction k with
  | zero => intro x1 x2 s y3 hy3 w hr; rw [f_mesh_4] at hr; cases hr
  | succ k ih =>
    intro x1 x2 s y3 hy3 w hr
    rw [f_mesh_4] at hr
    refine Ev.iloadN (d35 4 rfl) rfl ?_
    refine Ev.iconst (z := 2) (d35 5 rfl) rfl ?_
    refine Ev.icgt (t := 49) (d35 6 rfl) rfl (fun c1 => ?_) (fun c1 => ?_)
    · replace hr := (if_pos c1).symm.trans hr
      refine Ev.iloadN (d35 29 rfl) rfl ?_
      cases hr
      exact Ev.ireturn rfl (d35 30 rfl)
    · replace hr := (if_neg c1).symm.trans hr
      refine Ev.iconst (z := 0) (d35 7 rfl) rfl ?_
      refine Ev.istDN (L' := [.val (.ref o), .val (.int x1), .val (.int x2), .val (.int (0 : Int32))]) (d35 8 rfl) rfl hy3 rfl ?_
      exact e_mesh_11 hw V ih n x1 x2 (0 : Int32) s  _ hr
def f_mesh (n : Nat) (s : St) : Option (Int32 × St) :=
  f_mesh_4 n n (0 : Int32) (0 : Int32) s
set_option maxRecDepth 100000 in
theorem e_mesh {g : GT} {n : Nat} {s : St} {w : Int32 × St} (hw : HW g) {K : St → MHeap} {o : Nat} {r : Nat → Nat} (V : View (GG g) Ln K o r) (hr : f_mesh n s = some w) : EvC (GG g) M_mesh [.ref o] (K s) ((some (.int w.1)), (K w.2)) := by
  refine EvC.enter (L0 := [.val (.ref o), .unset, .unset, .unset]) pl_mesh (fun h => nomatch h) rfl rfl ?_
  unfold f_mesh at hr
  refine Ev.iconst (z := 0) (d35 0 rfl) rfl ?_
  refine Ev.istDN (L' := [.val (.ref o), .val (.int (0 : Int32)), .unset, .unset]) (d35 1 rfl) rfl rfl rfl ?_
  refine Ev.iconst (z := 0) (d35 2 rfl) rfl ?_
  refine Ev.istDN (L' := [.val (.ref o), .val (.int (0 : Int32)), .val (.int (0 : Int32)), .unset]) (d35 3 rfl) rfl rfl rfl ?_
  exact e_mesh_4 hw V  n (0 : Int32) (0 : Int32) s .unset rfl _ hr
def f_law_642 (n : Nat) (sn : Nat) (sf : Nat → Int32) (k65 : Int32 → Int32 → Int32 → Int32 → Int32 → St → Option (Int32 × St)) (x1 : Int32) (x2 : Int32) (x4 : Int32) (x5 : Int32) (x6 : Int32) (s : St) : Option (Int32 × St) :=
  (f_hconsistent n s x1 x2 x5).bind fun q1 =>
  if q1 = 0 then
    some ((0 : Int32), s)
  else
    k65 x1 x2 x4 x5 (x6 + (2 : Int32)) s
set_option maxRecDepth 100000 in
theorem e_law_642 {g : GT} {n : Nat} {sn : Nat} {sf : Nat → Int32} (hw : HW g) {K : St → MHeap} {o : Nat} {r : Nat → Nat} (hs : ∀ s, (K s)[0]? = some (.inr (false, tab sn sf))) (V : View (GG g) Ln K o r) {k65 : Int32 → Int32 → Int32 → Int32 → Int32 → St → Option (Int32 × St)} (hk65 : ∀ (x1 : Int32) (x2 : Int32) (x4 : Int32) (x5 : Int32) (x6 : Int32) (s : St) (y7 : Slot) (hy7 : one1 y7 = true) (y8 : Slot) (hy8 : one1 y8 = true) (y9 : Slot) (hy9 : one1 y9 = true) (y10 : Slot) (hy10 : one1 y10 = true) (y11 : Slot) (hy11 : one1 y11 = true) (y12 : Slot) (hy12 : one1 y12 = true) (y13 : Slot) (hy13 : one1 y13 = true) (w : Int32 × St), k65 x1 x2 x4 x5 x6 s = some w → Ev (GG g) M_law 65 [.val (.ref 0), .val (.int x1), .val (.int x2), .val (.ref o), .val (.int x4), .val (.int x5), .val (.int x6), y7, y8, y9, y10, y11, y12, y13] [] (K s) ((some (.int w.1)), (K w.2))) (x1 : Int32) (x2 : Int32) (x4 : Int32) (x5 : Int32) (x6 : Int32) (s : St) (y7 : Slot) (hy7 : one1 y7 = true) (y8 : Slot) (hy8 : one1 y8 = true) (y9 : Slot) (hy9 : one1 y9 = true) (y10 : Slot) (hy10 : one1 y10 = true) (y11 : Slot) (hy11 : one1 y11 = true) (y12 : Slot) (hy12 : one1 y12 = true) (y13 : Slot) (hy13 : one1 y13 = true) (w : Int32 × St) (hr : f_law_642 n sn sf k65 x1 x2 x4 x5 x6 s = some w) : Ev (GG g) M_law 642 [.val (.ref 0), .val (.int x1), .val (.int x2), .val (.ref o), .val (.int x4), .val (.int x5), .val (.int x6), y7, y8, y9, y10, y11, y12, y13] [] (K s) ((some (.int w.1)), (K w.2)) := by
  unfold f_law_642 at hr
  refine Ev.aloadN at_642 rfl ?_
  refine Ev.iloadN at_643 rfl ?_
  refine Ev.iloadN at_644 rfl ?_
  refine Ev.iload at_645 rfl ?_
  obtain ⟨q1, hq2, hr⟩ := Option.bind_eq_some_iff.mp hr
  refine Ev.stat (y := M_hconsistent) (args := [.ref o, .int x1, .int x2, .int x5]) (rest := []) nm_hconsistent (ww hw 34 rfl) (ww hw 35 rfl) (ww hw 2 rfl) (ww hw 36 rfl) (lenOf pd_hconsistent rfl) at_647 (e_hconsistent hw V hq2) (by decide) (Nat.le_of_ble_eq_true rfl) rfl ?_
  refine Ev.ifne (t := 655) at_650 rfl (fun c3 => ?_) (fun c3 => ?_)
  · replace hr := (if_pos c3).symm.trans hr
    refine Ev.iconst (z := 0) at_653 rfl ?_
    cases hr
    exact Ev.zret0 rfl at_654
  · replace hr := (if_neg c3).symm.trans hr
    refine Ev.iinc (z := 2) (L' := [.val (.ref 0), .val (.int x1), .val (.int x2), .val (.ref o), .val (.int x4), .val (.int x5), .val (.int (x6 + (2 : Int32))), y7, y8, y9, y10, y11, y12, y13]) at_655 rfl rfl rfl ?_
    refine Ev.goto (t := 65) at_658 rfl ?_
    exact hk65 x1 x2 x4 x5 (x6 + (2 : Int32)) s y7 hy7 y8 hy8 y9 hy9 y10 hy10 y11 hy11 y12 hy12 y13 hy13 _ hr
def f_law_186 (n : Nat) (sn : Nat) (sf : Nat → Int32) (k65 : Int32 → Int32 → Int32 → Int32 → Int32 → St → Option (Int32 × St)) : Nat → Int32 → Int32 → Int32 → Int32 → Int32 → Int32 → Int32 → Int32 → St → Option (Int32 × St)
  | 0 => fun _ _ _ _ _ _ _ _ _ => none
  | k + 1 => fun x1 x2 x4 x5 x6 x11 x12 x13 s =>
    if x13 < x12 then
      (f_isLive s (x11 + x13)).bind fun q2 =>
      if q2 = 0 then
        some ((0 : Int32), s)
      else
        (f_read s (x11 + x13)).bind fun q5 =>
        if q5 = 0 then
          (f_htag (x11 + x13)).bind fun q8 =>
          (f_write (x11 + x13) q8 s).bind fun q10 =>
          if q10.1 = 0 then
            some ((0 : Int32), q10.2)
          else
            f_law_186 n sn sf k65 k x1 x2 x4 x5 x6 x11 x12 (x13 + (1 : Int32)) q10.2
        else
          some ((0 : Int32), s)
    else
      f_law_642 n sn sf k65 x1 x2 x4 (x5 + (1 : Int32)) x6 s
set_option maxRecDepth 100000 in
theorem e_law_186 {g : GT} {n : Nat} {sn : Nat} {sf : Nat → Int32} (hw : HW g) {K : St → MHeap} {o : Nat} {r : Nat → Nat} (hs : ∀ s, (K s)[0]? = some (.inr (false, tab sn sf))) (V : View (GG g) Ln K o r) {k65 : Int32 → Int32 → Int32 → Int32 → Int32 → St → Option (Int32 × St)} (hk65 : ∀ (x1 : Int32) (x2 : Int32) (x4 : Int32) (x5 : Int32) (x6 : Int32) (s : St) (y7 : Slot) (hy7 : one1 y7 = true) (y8 : Slot) (hy8 : one1 y8 = true) (y9 : Slot) (hy9 : one1 y9 = true) (y10 : Slot) (hy10 : one1 y10 = true) (y11 : Slot) (hy11 : one1 y11 = true) (y12 : Slot) (hy12 : one1 y12 = true) (y13 : Slot) (hy13 : one1 y13 = true) (w : Int32 × St), k65 x1 x2 x4 x5 x6 s = some w → Ev (GG g) M_law 65 [.val (.ref 0), .val (.int x1), .val (.int x2), .val (.ref o), .val (.int x4), .val (.int x5), .val (.int x6), y7, y8, y9, y10, y11, y12, y13] [] (K s) ((some (.int w.1)), (K w.2))) (k : Nat) : ∀ (x1 : Int32) (x2 : Int32) (x4 : Int32) (x5 : Int32) (x6 : Int32) (x11 : Int32) (x12 : Int32) (x13 : Int32) (s : St) (y7 : Slot) (hy7 : one1 y7 = true) (y8 : Slot) (hy8 : one1 y8 = true) (y9 : Slot) (hy9 : one1 y9 = true) (y10 : Slot) (hy10 : one1 y10 = true) (w : Int32 × St), f_law_186 n sn sf k65 k x1 x2 x4 x5 x6 x11 x12 x13 s = some w → Ev (GG g) M_law 186 [.val (.ref 0), .val (.int x1), .val (.int x2), .val (.ref o), .val (.int x4), .val (.int x5), .val (.int x6), y7, y8, y9, y10, .val (.int x11), .val (.int x12), .val (.int x13)] [] (K s) ((some (.int w.1)), (K w.2)) := by
  induction k with
  | zero => intro x1 x2 x4 x5 x6 x11 x12 x13 s y7 hy7 y8 hy8 y9 hy9 y10 hy10 w hr; rw [f_law_186] at hr; cases hr
  | succ k ih =>
    intro x1 x2 x4 x5 x6 x11 x12 x13 s y7 hy7 y8 hy8 y9 hy9 y10 hy10 w hr
    rw [f_law_186] at hr
    refine Ev.iload at_186 rfl ?_
    refine Ev.iload at_188 rfl ?_
    refine Ev.icge (t := 247) at_190 rfl (fun c1 => ?_) (fun c1 => ?_)
    · replace hr := (if_pos c1).symm.trans hr
      refine Ev.aloadN at_193 rfl ?_
      refine Ev.iload at_194 rfl ?_
      refine Ev.iload at_196 rfl ?_
      refine Ev.iadd at_198 ?_
      obtain ⟨q2, hq3, hr⟩ := Option.bind_eq_some_iff.mp hr
      refine Ev.virt (y := M_isLive) (args := [.int (x11 + x13)]) (rest := []) (gok hw) rfl nm_isLive (ww hw 80 rfl) (ww hw 81 rfl) (ww hw 82 rfl) (ww hw 83 rfl) (ww hw 84 rfl) (lenOf pd_isLive rfl) at_199 (V.2.1 s) (e_isLive hw V hq3) (by decide) (Nat.le_of_ble_eq_true rfl) rfl ?_
      refine Ev.ifeq (t := 217) at_202 rfl (fun c4 => ?_) (fun c4 => ?_)
      · replace hr := (if_pos c4).symm.trans hr
        refine Ev.iconst (z := 0) at_217 rfl ?_
        cases hr
        exact Ev.zret0 rfl at_218
      · replace hr := (if_neg c4).symm.trans hr
        refine Ev.aloadN at_205 rfl ?_
        refine Ev.iload at_206 rfl ?_
        refine Ev.iload at_208 rfl ?_
        refine Ev.iadd at_210 ?_
        obtain ⟨q5, hq6, hr⟩ := Option.bind_eq_some_iff.mp hr
        refine Ev.virt (y := M_read) (args := [.int (x11 + x13)]) (rest := []) (gok hw) rfl nm_read (ww hw 89 rfl) (ww hw 90 rfl) (ww hw 91 rfl) (ww hw 92 rfl) (ww hw 93 rfl) (lenOf pd_read rfl) at_211 (V.2.1 s) (e_read hw V hq6) (by decide) (Nat.le_of_ble_eq_true rfl) rfl ?_
        refine Ev.ifeq (t := 219) at_214 rfl (fun c7 => ?_) (fun c7 => ?_)
        · replace hr := (if_pos c7).symm.trans hr
          refine Ev.aloadN at_219 rfl ?_
          refine Ev.iload at_220 rfl ?_
          refine Ev.iload at_222 rfl ?_
          refine Ev.iadd at_224 ?_
          refine Ev.iload at_225 rfl ?_
          refine Ev.iload at_227 rfl ?_
          refine Ev.iadd at_229 ?_
          obtain ⟨q8, hq9, hr⟩ := Option.bind_eq_some_iff.mp hr
          refine Ev.stat (y := M_htag) (args := [.int (x11 + x13)]) (rest := [.int (x11 + x13), .ref o]) nm_htag (ww hw 148 rfl) (ww hw 149 rfl) (ww hw 2 rfl) (ww hw 150 rfl) (lenOf pd_htag rfl) at_230 (e_htag hw hq9) (by decide) (Nat.le_of_ble_eq_true rfl) rfl ?_
          obtain ⟨q10, hq11, hr⟩ := Option.bind_eq_some_iff.mp hr
          refine Ev.virt (y := M_write) (args := [.int (x11 + x13), .int q8]) (rest := []) (gok hw) rfl nm_write (ww hw 151 rfl) (ww hw 152 rfl) (ww hw 153 rfl) (ww hw 154 rfl) (ww hw 155 rfl) (lenOf pd_write rfl) at_233 (V.2.1 s) (e_write hw V hq11) (by decide) (Nat.le_of_ble_eq_true rfl) rfl ?_
          refine Ev.ifne (t := 241) at_236 rfl (fun c12 => ?_) (fun c12 => ?_)
          · replace hr := (if_pos c12).symm.trans hr
            refine Ev.iconst (z := 0) at_239 rfl ?_
            cases hr
            exact Ev.zret0 rfl at_240
          · replace hr := (if_neg c12).symm.trans hr
            refine Ev.iinc (z := 1) (L' := [.val (.ref 0), .val (.int x1), .val (.int x2), .val (.ref o), .val (.int x4), .val (.int x5), .val (.int x6), y7, y8, y9, y10, .val (.int x11), .val (.int x12), .val (.int (x13 + (1 : Int32)))]) at_241 rfl rfl rfl ?_
            refine Ev.goto (t := 186) at_244 rfl ?_
            exact ih x1 x2 x4 x5 x6 x11 x12 (x13 + (1 : Int32)) q10.2 y7 hy7 y8 hy8 y9 hy9 y10 hy10 _ hr
        · replace hr := (if_neg c7).symm.trans hr
          refine Ev.iconst (z := 0) at_217 rfl ?_
          cases hr
          exact Ev.zret0 rfl at_218
    · replace hr := (if_neg c1).symm.trans hr
      refine Ev.iinc (z := 1) (L' := [.val (.ref 0), .val (.int x1), .val (.int x2), .val (.ref o), .val (.int x4), .val (.int (x5 + (1 : Int32))), .val (.int x6), y7, y8, y9, y10, .val (.int x11), .val (.int x12), .val (.int x13)]) at_247 rfl rfl rfl ?_
      refine Ev.goto (t := 314) at_250 rfl ?_
      refine Ev.goto (t := 642) at_314 rfl ?_
      exact e_law_642 hw hs V hk65 x1 x2 x4 (x5 + (1 : Int32)) x6 s y7 hy7 y8 hy8 y9 hy9 y10 hy10 (.val (.int x11)) rfl (.val (.int x12)) rfl (.val (.int x13)) rfl _ hr
def f_law_297 (n : Nat) (sn : Nat) (sf : Nat → Int32) (k65 : Int32 → Int32 → Int32 → Int32 → Int32 → St → Option (Int32 × St)) (x1 : Int32) (x2 : Int32) (x4 : Int32) (x5 : Int32) (x6 : Int32) (x11 : Int32) (s : St) : Option (Int32 × St) :=
  if x11 = (-3 : Int32) then
    (f_framesInUse n s).bind fun q2 =>
    if q2 = x2 then
      f_law_642 n sn sf k65 x1 x2 x4 x5 x6 s
    else
      some ((0 : Int32), s)
  else
    f_law_642 n sn sf k65 x1 x2 x4 x5 x6 s
set_option maxRecDepth 100000 in
theorem e_law_297 {g : GT} {n : Nat} {sn : Nat} {sf : Nat → Int32} (hw : HW g) {K : St → MHeap} {o : Nat} {r : Nat → Nat} (hs : ∀ s, (K s)[0]? = some (.inr (false, tab sn sf))) (V : View (GG g) Ln K o r) {k65 : Int32 → Int32 → Int32 → Int32 → Int32 → St → Option (Int32 × St)} (hk65 : ∀ (x1 : Int32) (x2 : Int32) (x4 : Int32) (x5 : Int32) (x6 : Int32) (s : St) (y7 : Slot) (hy7 : one1 y7 = true) (y8 : Slot) (hy8 : one1 y8 = true) (y9 : Slot) (hy9 : one1 y9 = true) (y10 : Slot) (hy10 : one1 y10 = true) (y11 : Slot) (hy11 : one1 y11 = true) (y12 : Slot) (hy12 : one1 y12 = true) (y13 : Slot) (hy13 : one1 y13 = true) (w : Int32 × St), k65 x1 x2 x4 x5 x6 s = some w → Ev (GG g) M_law 65 [.val (.ref 0), .val (.int x1), .val (.int x2), .val (.ref o), .val (.int x4), .val (.int x5), .val (.int x6), y7, y8, y9, y10, y11, y12, y13] [] (K s) ((some (.int w.1)), (K w.2))) (x1 : Int32) (x2 : Int32) (x4 : Int32) (x5 : Int32) (x6 : Int32) (x11 : Int32) (s : St) (y7 : Slot) (hy7 : one1 y7 = true) (y8 : Slot) (hy8 : one1 y8 = true) (y9 : Slot) (hy9 : one1 y9 = true) (y10 : Slot) (hy10 : one1 y10 = true) (y12 : Slot) (hy12 : one1 y12 = true) (y13 : Slot) (hy13 : one1 y13 = true) (w : Int32 × St) (hr : f_law_297 n sn sf k65 x1 x2 x4 x5 x6 x11 s = some w) : Ev (GG g) M_law 297 [.val (.ref 0), .val (.int x1), .val (.int x2), .val (.ref o), .val (.int x4), .val (.int x5), .val (.int x6), y7, y8, y9, y10, .val (.int x11), y12, y13] [] (K s) ((some (.int w.1)), (K w.2)) := by
  unfold f_law_297 at hr
  refine Ev.iload at_297 rfl ?_
  refine Ev.bipush (z := -3) at_299 rfl ?_
  refine Ev.icne (t := 314) at_301 rfl (fun c1 => ?_) (fun c1 => ?_)
  · replace hr := (if_pos c1).symm.trans hr
    refine Ev.aloadN at_304 rfl ?_
    obtain ⟨q2, hq3, hr⟩ := Option.bind_eq_some_iff.mp hr
    refine Ev.virt (y := M_framesInUse) (args := []) (rest := []) (gok hw) rfl nm_framesInUse (ww hw 71 rfl) (ww hw 72 rfl) (ww hw 73 rfl) (ww hw 74 rfl) (ww hw 75 rfl) (lenOf pd_framesInUse rfl) at_305 (V.2.1 s) (e_framesInUse hw V hq3) (by decide) (Nat.le_of_ble_eq_true rfl) rfl ?_
    refine Ev.iloadN at_308 rfl ?_
    refine Ev.iceq (t := 314) at_309 rfl (fun c4 => ?_) (fun c4 => ?_)
    · replace hr := (if_pos c4).symm.trans hr
      refine Ev.goto (t := 642) at_314 rfl ?_
      exact e_law_642 hw hs V hk65 x1 x2 x4 x5 x6 s y7 hy7 y8 hy8 y9 hy9 y10 hy10 (.val (.int x11)) rfl y12 hy12 y13 hy13 _ hr
    · replace hr := (if_neg c4).symm.trans hr
      refine Ev.iconst (z := 0) at_312 rfl ?_
      cases hr
      exact Ev.zret0 rfl at_313
  · replace hr := (if_neg c1).symm.trans hr
    refine Ev.goto (t := 642) at_314 rfl ?_
    exact e_law_642 hw hs V hk65 x1 x2 x4 x5 x6 s y7 hy7 y8 hy8 y9 hy9 y10 hy10 (.val (.int x11)) rfl y12 hy12 y13 hy13 _ hr
def f_law_269 (n : Nat) (sn : Nat) (sf : Nat → Int32) (k65 : Int32 → Int32 → Int32 → Int32 → Int32 → St → Option (Int32 × St)) (x1 : Int32) (x2 : Int32) (x4 : Int32) (x5 : Int32) (x6 : Int32) (x10 : Int32) (x11 : Int32) (s : St) : Option (Int32 × St) :=
  (f_rngState s).bind fun q1 =>
  if q1 = x10 then
    if x11 = (-2 : Int32) then
      (f_pagesInUse n s).bind fun q5 =>
      if q5 = x1 then
        f_law_297 n sn sf k65 x1 x2 x4 x5 x6 x11 s
      else
        some ((0 : Int32), s)
    else
      f_law_297 n sn sf k65 x1 x2 x4 x5 x6 x11 s
  else
    some ((0 : Int32), s)
set_option maxRecDepth 100000 in
theorem e_law_269 {g : GT} {n : Nat} {sn : Nat} {sf : Nat → Int32} (hw : HW g) {K : St → MHeap} {o : Nat} {r : Nat → Nat} (hs : ∀ s, (K s)[0]? = some (.inr (false, tab sn sf))) (V : View (GG g) Ln K o r) {k65 : Int32 → Int32 → Int32 → Int32 → Int32 → St → Option (Int32 × St)} (hk65 : ∀ (x1 : Int32) (x2 : Int32) (x4 : Int32) (x5 : Int32) (x6 : Int32) (s : St) (y7 : Slot) (hy7 : one1 y7 = true) (y8 : Slot) (hy8 : one1 y8 = true) (y9 : Slot) (hy9 : one1 y9 = true) (y10 : Slot) (hy10 : one1 y10 = true) (y11 : Slot) (hy11 : one1 y11 = true) (y12 : Slot) (hy12 : one1 y12 = true) (y13 : Slot) (hy13 : one1 y13 = true) (w : Int32 × St), k65 x1 x2 x4 x5 x6 s = some w → Ev (GG g) M_law 65 [.val (.ref 0), .val (.int x1), .val (.int x2), .val (.ref o), .val (.int x4), .val (.int x5), .val (.int x6), y7, y8, y9, y10, y11, y12, y13] [] (K s) ((some (.int w.1)), (K w.2))) (x1 : Int32) (x2 : Int32) (x4 : Int32) (x5 : Int32) (x6 : Int32) (x10 : Int32) (x11 : Int32) (s : St) (y7 : Slot) (hy7 : one1 y7 = true) (y8 : Slot) (hy8 : one1 y8 = true) (y9 : Slot) (hy9 : one1 y9 = true) (y12 : Slot) (hy12 : one1 y12 = true) (y13 : Slot) (hy13 : one1 y13 = true) (w : Int32 × St) (hr : f_law_269 n sn sf k65 x1 x2 x4 x5 x6 x10 x11 s = some w) : Ev (GG g) M_law 269 [.val (.ref 0), .val (.int x1), .val (.int x2), .val (.ref o), .val (.int x4), .val (.int x5), .val (.int x6), y7, y8, y9, .val (.int x10), .val (.int x11), y12, y13] [] (K s) ((some (.int w.1)), (K w.2)) := by
  unfold f_law_269 at hr
  refine Ev.aloadN at_269 rfl ?_
  obtain ⟨q1, hq2, hr⟩ := Option.bind_eq_some_iff.mp hr
  refine Ev.virt (y := M_rngState) (args := []) (rest := []) (gok hw) rfl nm_rngState (ww hw 97 rfl) (ww hw 98 rfl) (ww hw 99 rfl) (ww hw 100 rfl) (ww hw 101 rfl) (lenOf pd_rngState rfl) at_270 (V.2.1 s) (e_rngState hw V hq2) (by decide) (Nat.le_of_ble_eq_true rfl) rfl ?_
  refine Ev.iload at_273 rfl ?_
  refine Ev.iceq (t := 280) at_275 rfl (fun c3 => ?_) (fun c3 => ?_)
  · replace hr := (if_pos c3).symm.trans hr
    refine Ev.iload at_280 rfl ?_
    refine Ev.bipush (z := -2) at_282 rfl ?_
    refine Ev.icne (t := 297) at_284 rfl (fun c4 => ?_) (fun c4 => ?_)
    · replace hr := (if_pos c4).symm.trans hr
      refine Ev.aloadN at_287 rfl ?_
      obtain ⟨q5, hq6, hr⟩ := Option.bind_eq_some_iff.mp hr
      refine Ev.virt (y := M_pagesInUse) (args := []) (rest := []) (gok hw) rfl nm_pagesInUse (ww hw 57 rfl) (ww hw 58 rfl) (ww hw 59 rfl) (ww hw 60 rfl) (ww hw 61 rfl) (lenOf pd_pagesInUse rfl) at_288 (V.2.1 s) (e_pagesInUse hw V hq6) (by decide) (Nat.le_of_ble_eq_true rfl) rfl ?_
      refine Ev.iloadN at_291 rfl ?_
      refine Ev.iceq (t := 297) at_292 rfl (fun c7 => ?_) (fun c7 => ?_)
      · replace hr := (if_pos c7).symm.trans hr
        exact e_law_297 hw hs V hk65 x1 x2 x4 x5 x6 x11 s y7 hy7 y8 hy8 y9 hy9 (.val (.int x10)) rfl y12 hy12 y13 hy13 _ hr
      · replace hr := (if_neg c7).symm.trans hr
        refine Ev.iconst (z := 0) at_295 rfl ?_
        cases hr
        exact Ev.zret0 rfl at_296
    · replace hr := (if_neg c4).symm.trans hr
      exact e_law_297 hw hs V hk65 x1 x2 x4 x5 x6 x11 s y7 hy7 y8 hy8 y9 hy9 (.val (.int x10)) rfl y12 hy12 y13 hy13 _ hr
  · replace hr := (if_neg c3).symm.trans hr
    refine Ev.iconst (z := 0) at_278 rfl ?_
    cases hr
    exact Ev.zret0 rfl at_279
def f_law_417 (n : Nat) (sn : Nat) (sf : Nat → Int32) (k65 : Int32 → Int32 → Int32 → Int32 → Int32 → St → Option (Int32 × St)) (x1 : Int32) (x2 : Int32) (x4 : Int32) (x5 : Int32) (x6 : Int32) (x10 : Int32) (s : St) : Option (Int32 × St) :=
  if x10 < 0 then
    some ((0 : Int32), s)
  else
    (f_free x10 s).bind fun q2 =>
    if q2.1 = 0 then
      some ((0 : Int32), q2.2)
    else
      (f_isLive q2.2 x10).bind fun q5 =>
      if q5 = 0 then
        f_law_642 n sn sf k65 x1 x2 x4 (x5 + (-1 : Int32)) x6 q2.2
      else
        some ((0 : Int32), q2.2)
set_option maxRecDepth 100000 in
theorem e_law_417 {g : GT} {n : Nat} {sn : Nat} {sf : Nat → Int32} (hw : HW g) {K : St → MHeap} {o : Nat} {r : Nat → Nat} (hs : ∀ s, (K s)[0]? = some (.inr (false, tab sn sf))) (V : View (GG g) Ln K o r) {k65 : Int32 → Int32 → Int32 → Int32 → Int32 → St → Option (Int32 × St)} (hk65 : ∀ (x1 : Int32) (x2 : Int32) (x4 : Int32) (x5 : Int32) (x6 : Int32) (s : St) (y7 : Slot) (hy7 : one1 y7 = true) (y8 : Slot) (hy8 : one1 y8 = true) (y9 : Slot) (hy9 : one1 y9 = true) (y10 : Slot) (hy10 : one1 y10 = true) (y11 : Slot) (hy11 : one1 y11 = true) (y12 : Slot) (hy12 : one1 y12 = true) (y13 : Slot) (hy13 : one1 y13 = true) (w : Int32 × St), k65 x1 x2 x4 x5 x6 s = some w → Ev (GG g) M_law 65 [.val (.ref 0), .val (.int x1), .val (.int x2), .val (.ref o), .val (.int x4), .val (.int x5), .val (.int x6), y7, y8, y9, y10, y11, y12, y13] [] (K s) ((some (.int w.1)), (K w.2))) (x1 : Int32) (x2 : Int32) (x4 : Int32) (x5 : Int32) (x6 : Int32) (x10 : Int32) (s : St) (y7 : Slot) (hy7 : one1 y7 = true) (y8 : Slot) (hy8 : one1 y8 = true) (y9 : Slot) (hy9 : one1 y9 = true) (y11 : Slot) (hy11 : one1 y11 = true) (y12 : Slot) (hy12 : one1 y12 = true) (y13 : Slot) (hy13 : one1 y13 = true) (w : Int32 × St) (hr : f_law_417 n sn sf k65 x1 x2 x4 x5 x6 x10 s = some w) : Ev (GG g) M_law 417 [.val (.ref 0), .val (.int x1), .val (.int x2), .val (.ref o), .val (.int x4), .val (.int x5), .val (.int x6), y7, y8, y9, .val (.int x10), y11, y12, y13] [] (K s) ((some (.int w.1)), (K w.2)) := by
  unfold f_law_417 at hr
  refine Ev.iload at_417 rfl ?_
  refine Ev.ifge (t := 424) at_419 rfl (fun c1 => ?_) (fun c1 => ?_)
  · replace hr := (if_pos c1).symm.trans hr
    refine Ev.iconst (z := 0) at_422 rfl ?_
    cases hr
    exact Ev.zret0 rfl at_423
  · replace hr := (if_neg c1).symm.trans hr
    refine Ev.aloadN at_424 rfl ?_
    refine Ev.iload at_425 rfl ?_
    obtain ⟨q2, hq3, hr⟩ := Option.bind_eq_some_iff.mp hr
    refine Ev.virt (y := M_free) (args := [.int x10]) (rest := []) (gok hw) rfl nm_free (ww hw 163 rfl) (ww hw 164 rfl) (ww hw 165 rfl) (ww hw 166 rfl) (ww hw 167 rfl) (lenOf pd_free rfl) at_427 (V.2.1 s) (e_free hw V hq3) (by decide) (Nat.le_of_ble_eq_true rfl) rfl ?_
    refine Ev.ifne (t := 435) at_430 rfl (fun c4 => ?_) (fun c4 => ?_)
    · replace hr := (if_pos c4).symm.trans hr
      refine Ev.iconst (z := 0) at_433 rfl ?_
      cases hr
      exact Ev.zret0 rfl at_434
    · replace hr := (if_neg c4).symm.trans hr
      refine Ev.iinc (z := -1) (L' := [.val (.ref 0), .val (.int x1), .val (.int x2), .val (.ref o), .val (.int x4), .val (.int (x5 + (-1 : Int32))), .val (.int x6), y7, y8, y9, .val (.int x10), y11, y12, y13]) at_435 rfl rfl rfl ?_
      refine Ev.aloadN at_438 rfl ?_
      refine Ev.iload at_439 rfl ?_
      obtain ⟨q5, hq6, hr⟩ := Option.bind_eq_some_iff.mp hr
      refine Ev.virt (y := M_isLive) (args := [.int x10]) (rest := []) (gok hw) rfl nm_isLive (ww hw 80 rfl) (ww hw 81 rfl) (ww hw 82 rfl) (ww hw 83 rfl) (ww hw 84 rfl) (lenOf pd_isLive rfl) at_441 (V.2.1 q2.2) (e_isLive hw V hq6) (by decide) (Nat.le_of_ble_eq_true rfl) rfl ?_
      refine Ev.ifeq (t := 449) at_444 rfl (fun c7 => ?_) (fun c7 => ?_)
      · replace hr := (if_pos c7).symm.trans hr
        refine Ev.goto (t := 642) at_449 rfl ?_
        exact e_law_642 hw hs V hk65 x1 x2 x4 (x5 + (-1 : Int32)) x6 q2.2 y7 hy7 y8 hy8 y9 hy9 (.val (.int x10)) rfl y11 hy11 y12 hy12 y13 hy13 _ hr
      · replace hr := (if_neg c7).symm.trans hr
        refine Ev.iconst (z := 0) at_447 rfl ?_
        cases hr
        exact Ev.zret0 rfl at_448
def f_law_346 (n : Nat) (sn : Nat) (sf : Nat → Int32) (k65 : Int32 → Int32 → Int32 → Int32 → Int32 → St → Option (Int32 × St)) : Nat → Int32 → Int32 → Int32 → Int32 → Int32 → Int32 → Int32 → Int32 → Int32 → St → Option (Int32 × St)
  | 0 => fun _ _ _ _ _ _ _ _ _ _ => none
  | k + 1 => fun x1 x2 x4 x5 x6 x9 x10 x11 x12 s =>
    if x12 < x4 then
      if x10 < 0 then
        (f_pageClass s (x12 / (16 : Int32))).bind fun q3 =>
        if q3 < 0 then
          f_law_346 n sn sf k65 k x1 x2 x4 x5 x6 x9 x10 x11 (x12 + (1 : Int32)) s
        else
          (f_hsize q3).bind fun q6 =>
          grd (q6 ≠ 0) <|
          if ((x12 % (16 : Int32)) % q6) = 0 then
            (f_isLive s x12).bind fun q10 =>
            if q10 = 0 then
              f_law_346 n sn sf k65 k x1 x2 x4 x5 x6 x9 x10 x11 (x12 + (1 : Int32)) s
            else
              if x11 = x9 then
                f_law_346 n sn sf k65 k x1 x2 x4 x5 x6 x9 x12 (x11 + (1 : Int32)) (x12 + (1 : Int32)) s
              else
                f_law_346 n sn sf k65 k x1 x2 x4 x5 x6 x9 x10 (x11 + (1 : Int32)) (x12 + (1 : Int32)) s
          else
            f_law_346 n sn sf k65 k x1 x2 x4 x5 x6 x9 x10 x11 (x12 + (1 : Int32)) s
      else
        f_law_417 n sn sf k65 x1 x2 x4 x5 x6 x10 s
    else
      f_law_417 n sn sf k65 x1 x2 x4 x5 x6 x10 s
set_option maxRecDepth 100000 in
theorem e_law_346 {g : GT} {n : Nat} {sn : Nat} {sf : Nat → Int32} (hw : HW g) {K : St → MHeap} {o : Nat} {r : Nat → Nat} (hs : ∀ s, (K s)[0]? = some (.inr (false, tab sn sf))) (V : View (GG g) Ln K o r) {k65 : Int32 → Int32 → Int32 → Int32 → Int32 → St → Option (Int32 × St)} (hk65 : ∀ (x1 : Int32) (x2 : Int32) (x4 : Int32) (x5 : Int32) (x6 : Int32) (s : St) (y7 : Slot) (hy7 : one1 y7 = true) (y8 : Slot) (hy8 : one1 y8 = true) (y9 : Slot) (hy9 : one1 y9 = true) (y10 : Slot) (hy10 : one1 y10 = true) (y11 : Slot) (hy11 : one1 y11 = true) (y12 : Slot) (hy12 : one1 y12 = true) (y13 : Slot) (hy13 : one1 y13 = true) (w : Int32 × St), k65 x1 x2 x4 x5 x6 s = some w → Ev (GG g) M_law 65 [.val (.ref 0), .val (.int x1), .val (.int x2), .val (.ref o), .val (.int x4), .val (.int x5), .val (.int x6), y7, y8, y9, y10, y11, y12, y13] [] (K s) ((some (.int w.1)), (K w.2))) (k : Nat) : ∀ (x1 : Int32) (x2 : Int32) (x4 : Int32) (x5 : Int32) (x6 : Int32) (x9 : Int32) (x10 : Int32) (x11 : Int32) (x12 : Int32) (s : St) (y7 : Slot) (hy7 : one1 y7 = true) (y8 : Slot) (hy8 : one1 y8 = true) (y13 : Slot) (hy13 : one1 y13 = true) (w : Int32 × St), f_law_346 n sn sf k65 k x1 x2 x4 x5 x6 x9 x10 x11 x12 s = some w → Ev (GG g) M_law 346 [.val (.ref 0), .val (.int x1), .val (.int x2), .val (.ref o), .val (.int x4), .val (.int x5), .val (.int x6), y7, y8, .val (.int x9), .val (.int x10), .val (.int x11), .val (.int x12), y13] [] (K s) ((some (.int w.1)), (K w.2)) := by
  induction k with
  | zero => intro x1 x2 x4 x5 x6 x9 x10 x11 x12 s y7 hy7 y8 hy8 y13 hy13 w hr; rw [f_law_346] at hr; cases hr
  | succ k ih =>
    intro x1 x2 x4 x5 x6 x9 x10 x11 x12 s y7 hy7 y8 hy8 y13 hy13 w hr
    rw [f_law_346] at hr
    refine Ev.iload at_346 rfl ?_
    refine Ev.iload at_348 rfl ?_
    refine Ev.icge (t := 417) at_350 rfl (fun c1 => ?_) (fun c1 => ?_)
    · replace hr := (if_pos c1).symm.trans hr
      refine Ev.iload at_353 rfl ?_
      refine Ev.ifge (t := 417) at_355 rfl (fun c2 => ?_) (fun c2 => ?_)
      · replace hr := (if_pos c2).symm.trans hr
        refine Ev.aloadN at_358 rfl ?_
        refine Ev.iload at_359 rfl ?_
        refine Ev.bipush (z := 16) at_361 rfl ?_
        refine Ev.idiv at_363 (by decide) ?_
        obtain ⟨q3, hq4, hr⟩ := Option.bind_eq_some_iff.mp hr
        refine Ev.virt (y := M_pageClass) (args := [.int (x12 / (16 : Int32))]) (rest := []) (gok hw) rfl nm_pageClass (ww hw 42 rfl) (ww hw 43 rfl) (ww hw 44 rfl) (ww hw 45 rfl) (ww hw 46 rfl) (lenOf pd_pageClass rfl) at_364 (V.2.1 s) (e_pageClass hw V hq4) (by decide) (Nat.le_of_ble_eq_true rfl) rfl ?_
        refine Ev.istD (L' := [.val (.ref 0), .val (.int x1), .val (.int x2), .val (.ref o), .val (.int x4), .val (.int x5), .val (.int x6), y7, y8, .val (.int x9), .val (.int x10), .val (.int x11), .val (.int x12), .val (.int q3)]) at_367 rfl hy13 rfl ?_
        refine Ev.iload at_369 rfl ?_
        refine Ev.iflt (t := 411) at_371 rfl (fun c5 => ?_) (fun c5 => ?_)
        · replace hr := (if_pos c5).symm.trans hr
          refine Ev.iinc (z := 1) (L' := [.val (.ref 0), .val (.int x1), .val (.int x2), .val (.ref o), .val (.int x4), .val (.int x5), .val (.int x6), y7, y8, .val (.int x9), .val (.int x10), .val (.int x11), .val (.int (x12 + (1 : Int32))), .val (.int q3)]) at_411 rfl rfl rfl ?_
          refine Ev.goto (t := 346) at_414 rfl ?_
          exact ih x1 x2 x4 x5 x6 x9 x10 x11 (x12 + (1 : Int32)) s y7 hy7 y8 hy8 (.val (.int q3)) rfl _ hr
        · replace hr := (if_neg c5).symm.trans hr
          refine Ev.iload at_374 rfl ?_
          refine Ev.bipush (z := 16) at_376 rfl ?_
          refine Ev.irem at_378 (by decide) ?_
          refine Ev.iload at_379 rfl ?_
          obtain ⟨q6, hq7, hr⟩ := Option.bind_eq_some_iff.mp hr
          refine Ev.stat (y := M_hsize) (args := [.int q3]) (rest := [.int (x12 % (16 : Int32))]) nm_hsize (ww hw 144 rfl) (ww hw 145 rfl) (ww hw 2 rfl) (ww hw 146 rfl) (lenOf pd_hsize rfl) at_381 (e_hsize hw hq7) (by decide) (Nat.le_of_ble_eq_true rfl) rfl ?_
          obtain ⟨c8, hr⟩ := grd_some hr
          refine Ev.irem at_384 c8 ?_
          refine Ev.ifne (t := 411) at_385 rfl (fun c9 => ?_) (fun c9 => ?_)
          · replace hr := (if_pos c9).symm.trans hr
            refine Ev.aloadN at_388 rfl ?_
            refine Ev.iload at_389 rfl ?_
            obtain ⟨q10, hq11, hr⟩ := Option.bind_eq_some_iff.mp hr
            refine Ev.virt (y := M_isLive) (args := [.int x12]) (rest := []) (gok hw) rfl nm_isLive (ww hw 80 rfl) (ww hw 81 rfl) (ww hw 82 rfl) (ww hw 83 rfl) (ww hw 84 rfl) (lenOf pd_isLive rfl) at_391 (V.2.1 s) (e_isLive hw V hq11) (by decide) (Nat.le_of_ble_eq_true rfl) rfl ?_
            refine Ev.ifeq (t := 411) at_394 rfl (fun c12 => ?_) (fun c12 => ?_)
            · replace hr := (if_pos c12).symm.trans hr
              refine Ev.iinc (z := 1) (L' := [.val (.ref 0), .val (.int x1), .val (.int x2), .val (.ref o), .val (.int x4), .val (.int x5), .val (.int x6), y7, y8, .val (.int x9), .val (.int x10), .val (.int x11), .val (.int (x12 + (1 : Int32))), .val (.int q3)]) at_411 rfl rfl rfl ?_
              refine Ev.goto (t := 346) at_414 rfl ?_
              exact ih x1 x2 x4 x5 x6 x9 x10 x11 (x12 + (1 : Int32)) s y7 hy7 y8 hy8 (.val (.int q3)) rfl _ hr
            · replace hr := (if_neg c12).symm.trans hr
              refine Ev.iload at_397 rfl ?_
              refine Ev.iload at_399 rfl ?_
              refine Ev.icne (t := 408) at_401 rfl (fun c13 => ?_) (fun c13 => ?_)
              · replace hr := (if_pos c13).symm.trans hr
                refine Ev.iload at_404 rfl ?_
                refine Ev.istD (L' := [.val (.ref 0), .val (.int x1), .val (.int x2), .val (.ref o), .val (.int x4), .val (.int x5), .val (.int x6), y7, y8, .val (.int x9), .val (.int x12), .val (.int x11), .val (.int x12), .val (.int q3)]) at_406 rfl rfl rfl ?_
                refine Ev.iinc (z := 1) (L' := [.val (.ref 0), .val (.int x1), .val (.int x2), .val (.ref o), .val (.int x4), .val (.int x5), .val (.int x6), y7, y8, .val (.int x9), .val (.int x12), .val (.int (x11 + (1 : Int32))), .val (.int x12), .val (.int q3)]) at_408 rfl rfl rfl ?_
                refine Ev.iinc (z := 1) (L' := [.val (.ref 0), .val (.int x1), .val (.int x2), .val (.ref o), .val (.int x4), .val (.int x5), .val (.int x6), y7, y8, .val (.int x9), .val (.int x12), .val (.int (x11 + (1 : Int32))), .val (.int (x12 + (1 : Int32))), .val (.int q3)]) at_411 rfl rfl rfl ?_
                refine Ev.goto (t := 346) at_414 rfl ?_
                exact ih x1 x2 x4 x5 x6 x9 x12 (x11 + (1 : Int32)) (x12 + (1 : Int32)) s y7 hy7 y8 hy8 (.val (.int q3)) rfl _ hr
              · replace hr := (if_neg c13).symm.trans hr
                refine Ev.iinc (z := 1) (L' := [.val (.ref 0), .val (.int x1), .val (.int x2), .val (.ref o), .val (.int x4), .val (.int x5), .val (.int x6), y7, y8, .val (.int x9), .val (.int x10), .val (.int (x11 + (1 : Int32))), .val (.int x12), .val (.int q3)]) at_408 rfl rfl rfl ?_
                refine Ev.iinc (z := 1) (L' := [.val (.ref 0), .val (.int x1), .val (.int x2), .val (.ref o), .val (.int x4), .val (.int x5), .val (.int x6), y7, y8, .val (.int x9), .val (.int x10), .val (.int (x11 + (1 : Int32))), .val (.int (x12 + (1 : Int32))), .val (.int q3)]) at_411 rfl rfl rfl ?_
                refine Ev.goto (t := 346) at_414 rfl ?_
                exact ih x1 x2 x4 x5 x6 x9 x10 (x11 + (1 : Int32)) (x12 + (1 : Int32)) s y7 hy7 y8 hy8 (.val (.int q3)) rfl _ hr
          · replace hr := (if_neg c9).symm.trans hr
            refine Ev.iinc (z := 1) (L' := [.val (.ref 0), .val (.int x1), .val (.int x2), .val (.ref o), .val (.int x4), .val (.int x5), .val (.int x6), y7, y8, .val (.int x9), .val (.int x10), .val (.int x11), .val (.int (x12 + (1 : Int32))), .val (.int q3)]) at_411 rfl rfl rfl ?_
            refine Ev.goto (t := 346) at_414 rfl ?_
            exact ih x1 x2 x4 x5 x6 x9 x10 x11 (x12 + (1 : Int32)) s y7 hy7 y8 hy8 (.val (.int q3)) rfl _ hr
      · replace hr := (if_neg c2).symm.trans hr
        exact e_law_417 hw hs V hk65 x1 x2 x4 x5 x6 x10 s y7 hy7 y8 hy8 (.val (.int x9)) rfl (.val (.int x11)) rfl (.val (.int x12)) rfl y13 hy13 _ hr
    · replace hr := (if_neg c1).symm.trans hr
      exact e_law_417 hw hs V hk65 x1 x2 x4 x5 x6 x10 s y7 hy7 y8 hy8 (.val (.int x9)) rfl (.val (.int x11)) rfl (.val (.int x12)) rfl y13 hy13 _ hr
def f_law_510 (n : Nat) (sn : Nat) (sf : Nat → Int32) (k65 : Int32 → Int32 → Int32 → Int32 → Int32 → St → Option (Int32 × St)) (x1 : Int32) (x2 : Int32) (x4 : Int32) (x5 : Int32) (x6 : Int32) (x9 : Int32) (z0 : Int32) (s : St) : Option (Int32 × St) :=
  (f_free x9 s).bind fun q1 =>
  if q1.1 = z0 then
    if q1.1 = 0 then
      f_law_642 n sn sf k65 x1 x2 x4 x5 x6 q1.2
    else
      (f_isLive q1.2 x9).bind fun q5 =>
      if q5 = 0 then
        f_law_642 n sn sf k65 x1 x2 x4 (x5 + (-1 : Int32)) x6 q1.2
      else
        some ((0 : Int32), q1.2)
  else
    some ((0 : Int32), q1.2)
set_option maxRecDepth 100000 in
theorem e_law_510 {g : GT} {n : Nat} {sn : Nat} {sf : Nat → Int32} (hw : HW g) {K : St → MHeap} {o : Nat} {r : Nat → Nat} (hs : ∀ s, (K s)[0]? = some (.inr (false, tab sn sf))) (V : View (GG g) Ln K o r) {k65 : Int32 → Int32 → Int32 → Int32 → Int32 → St → Option (Int32 × St)} (hk65 : ∀ (x1 : Int32) (x2 : Int32) (x4 : Int32) (x5 : Int32) (x6 : Int32) (s : St) (y7 : Slot) (hy7 : one1 y7 = true) (y8 : Slot) (hy8 : one1 y8 = true) (y9 : Slot) (hy9 : one1 y9 = true) (y10 : Slot) (hy10 : one1 y10 = true) (y11 : Slot) (hy11 : one1 y11 = true) (y12 : Slot) (hy12 : one1 y12 = true) (y13 : Slot) (hy13 : one1 y13 = true) (w : Int32 × St), k65 x1 x2 x4 x5 x6 s = some w → Ev (GG g) M_law 65 [.val (.ref 0), .val (.int x1), .val (.int x2), .val (.ref o), .val (.int x4), .val (.int x5), .val (.int x6), y7, y8, y9, y10, y11, y12, y13] [] (K s) ((some (.int w.1)), (K w.2))) (x1 : Int32) (x2 : Int32) (x4 : Int32) (x5 : Int32) (x6 : Int32) (x9 : Int32) (z0 : Int32) (s : St) (y7 : Slot) (hy7 : one1 y7 = true) (y8 : Slot) (hy8 : one1 y8 = true) (y10 : Slot) (hy10 : one1 y10 = true) (y11 : Slot) (hy11 : one1 y11 = true) (y12 : Slot) (hy12 : one1 y12 = true) (y13 : Slot) (hy13 : one1 y13 = true) (w : Int32 × St) (hr : f_law_510 n sn sf k65 x1 x2 x4 x5 x6 x9 z0 s = some w) : Ev (GG g) M_law 510 [.val (.ref 0), .val (.int x1), .val (.int x2), .val (.ref o), .val (.int x4), .val (.int x5), .val (.int x6), y7, y8, .val (.int x9), y10, y11, y12, y13] [.int z0] (K s) ((some (.int w.1)), (K w.2)) := by
  unfold f_law_510 at hr
  refine Ev.istD (L' := [.val (.ref 0), .val (.int x1), .val (.int x2), .val (.ref o), .val (.int x4), .val (.int x5), .val (.int x6), y7, y8, .val (.int x9), y10, y11, .val (.int z0), y13]) at_510 rfl hy12 rfl ?_
  refine Ev.aloadN at_512 rfl ?_
  refine Ev.iload at_513 rfl ?_
  obtain ⟨q1, hq2, hr⟩ := Option.bind_eq_some_iff.mp hr
  refine Ev.virt (y := M_free) (args := [.int x9]) (rest := []) (gok hw) rfl nm_free (ww hw 163 rfl) (ww hw 164 rfl) (ww hw 165 rfl) (ww hw 166 rfl) (ww hw 167 rfl) (lenOf pd_free rfl) at_515 (V.2.1 s) (e_free hw V hq2) (by decide) (Nat.le_of_ble_eq_true rfl) rfl ?_
  refine Ev.istD (L' := [.val (.ref 0), .val (.int x1), .val (.int x2), .val (.ref o), .val (.int x4), .val (.int x5), .val (.int x6), y7, y8, .val (.int x9), y10, y11, .val (.int z0), .val (.int q1.1)]) at_518 rfl hy13 rfl ?_
  refine Ev.iload at_520 rfl ?_
  refine Ev.iload at_522 rfl ?_
  refine Ev.iceq (t := 529) at_524 rfl (fun c3 => ?_) (fun c3 => ?_)
  · replace hr := (if_pos c3).symm.trans hr
    refine Ev.iload at_529 rfl ?_
    refine Ev.ifeq (t := 548) at_531 rfl (fun c4 => ?_) (fun c4 => ?_)
    · replace hr := (if_pos c4).symm.trans hr
      refine Ev.goto (t := 642) at_548 rfl ?_
      exact e_law_642 hw hs V hk65 x1 x2 x4 x5 x6 q1.2 y7 hy7 y8 hy8 (.val (.int x9)) rfl y10 hy10 y11 hy11 (.val (.int z0)) rfl (.val (.int q1.1)) rfl _ hr
    · replace hr := (if_neg c4).symm.trans hr
      refine Ev.iinc (z := -1) (L' := [.val (.ref 0), .val (.int x1), .val (.int x2), .val (.ref o), .val (.int x4), .val (.int (x5 + (-1 : Int32))), .val (.int x6), y7, y8, .val (.int x9), y10, y11, .val (.int z0), .val (.int q1.1)]) at_534 rfl rfl rfl ?_
      refine Ev.aloadN at_537 rfl ?_
      refine Ev.iload at_538 rfl ?_
      obtain ⟨q5, hq6, hr⟩ := Option.bind_eq_some_iff.mp hr
      refine Ev.virt (y := M_isLive) (args := [.int x9]) (rest := []) (gok hw) rfl nm_isLive (ww hw 80 rfl) (ww hw 81 rfl) (ww hw 82 rfl) (ww hw 83 rfl) (ww hw 84 rfl) (lenOf pd_isLive rfl) at_540 (V.2.1 q1.2) (e_isLive hw V hq6) (by decide) (Nat.le_of_ble_eq_true rfl) rfl ?_
      refine Ev.ifeq (t := 548) at_543 rfl (fun c7 => ?_) (fun c7 => ?_)
      · replace hr := (if_pos c7).symm.trans hr
        refine Ev.goto (t := 642) at_548 rfl ?_
        exact e_law_642 hw hs V hk65 x1 x2 x4 (x5 + (-1 : Int32)) x6 q1.2 y7 hy7 y8 hy8 (.val (.int x9)) rfl y10 hy10 y11 hy11 (.val (.int z0)) rfl (.val (.int q1.1)) rfl _ hr
      · replace hr := (if_neg c7).symm.trans hr
        refine Ev.iconst (z := 0) at_546 rfl ?_
        cases hr
        exact Ev.zret0 rfl at_547
  · replace hr := (if_neg c3).symm.trans hr
    refine Ev.iconst (z := 0) at_527 rfl ?_
    cases hr
    exact Ev.zret0 rfl at_528
def f_law_65 (n : Nat) (sn : Nat) (sf : Nat → Int32) : Nat → Int32 → Int32 → Int32 → Int32 → Int32 → St → Option (Int32 × St)
  | 0 => fun _ _ _ _ _ _ => none
  | k + 1 => fun x1 x2 x4 x5 x6 s =>
    if x6 < sn.toInt32 then
      grd (inb x6 sn) <|
      (f_hcell sn sf (x6 + (1 : Int32))).bind fun q3 =>
      if (3 : Int32) < ((sf (ix x6)) &&& (7 : Int32)) then
        if ((sf (ix x6)) &&& (7 : Int32)) = (4 : Int32) then
          if 0 < x5 then
            (f_hmod q3 x5).bind fun q8 =>
            f_law_346 n sn sf (f_law_65 n sn sf k) n x1 x2 x4 x5 x6 q8 (-1 : Int32) (0 : Int32) (0 : Int32) s
          else
            f_law_642 n sn sf (f_law_65 n sn sf k) x1 x2 x4 x5 x6 s
        else
          if ((sf (ix x6)) &&& (7 : Int32)) = (5 : Int32) then
            (f_hmod q3 x4).bind fun q11 =>
            (f_isLive s q11).bind fun q13 =>
            (f_pageClass s (q11 / (16 : Int32))).bind fun q15 =>
            if q13 = 0 then
              f_law_510 n sn sf (f_law_65 n sn sf k) x1 x2 x4 x5 x6 q11 (0 : Int32) s
            else
              (f_hsize q15).bind fun q18 =>
              grd (q18 ≠ 0) <|
              if ((q11 % (16 : Int32)) % q18) = 0 then
                f_law_510 n sn sf (f_law_65 n sn sf k) x1 x2 x4 x5 x6 q11 (1 : Int32) s
              else
                f_law_510 n sn sf (f_law_65 n sn sf k) x1 x2 x4 x5 x6 q11 (0 : Int32) s
          else
            if ((sf (ix x6)) &&& (7 : Int32)) = (6 : Int32) then
              (f_framesInUse n s).bind fun q23 =>
              (f_rngState s).bind fun q25 =>
              (f_mesh n s).bind fun q27 =>
              if q27.1 < 0 then
                some ((0 : Int32), q27.2)
              else
                (f_framesInUse n q27.2).bind fun q30 =>
                if q30 = (q23 - q27.1) then
                  (f_rngState q27.2).bind fun q33 =>
                  if q33 = q25 then
                    f_law_642 n sn sf (f_law_65 n sn sf k) x1 x2 x4 x5 x6 q27.2
                  else
                    some ((0 : Int32), q27.2)
                else
                  some ((0 : Int32), q27.2)
            else
              (f_hmod q3 x4).bind fun q36 =>
              (f_isLive s q36).bind fun q38 =>
              (f_htag q36).bind fun q40 =>
              (f_write q36 q40 s).bind fun q42 =>
              if q42.1 = q38 then
                f_law_642 n sn sf (f_law_65 n sn sf k) x1 x2 x4 x5 x6 q42.2
              else
                some ((0 : Int32), q42.2)
      else
        (f_hmod q3 (3 : Int32)).bind fun q45 =>
        (f_rngState s).bind fun q47 =>
        (f_alloc n q45 s).bind fun q49 =>
        if q49.1 < 0 then
          if q49.1 = (-2 : Int32) then
            f_law_269 n sn sf (f_law_65 n sn sf k) x1 x2 x4 x5 x6 q47 q49.1 q49.2
          else
            if q49.1 = (-3 : Int32) then
              f_law_269 n sn sf (f_law_65 n sn sf k) x1 x2 x4 x5 x6 q47 q49.1 q49.2
            else
              some ((0 : Int32), q49.2)
        else
          (f_hsize q45).bind fun q54 =>
          if q49.1 < x4 then
            grd (q54 ≠ 0) <|
            if ((q49.1 % (16 : Int32)) % q54) = 0 then
              (f_pageClass q49.2 (q49.1 / (16 : Int32))).bind fun q59 =>
              if q59 = q45 then
                (f_rngState q49.2).bind fun q62 =>
                if q62 = ((q47 * (1103515245 : Int32)) + (12345 : Int32)) then
                  f_law_186 n sn sf (f_law_65 n sn sf k) n x1 x2 x4 x5 x6 q49.1 q54 (0 : Int32) q49.2
                else
                  some ((0 : Int32), q49.2)
              else
                some ((0 : Int32), q49.2)
            else
              some ((0 : Int32), q49.2)
          else
            some ((0 : Int32), q49.2)
    else
      some ((1 : Int32), s)
set_option maxRecDepth 100000 in
theorem e_law_65 {g : GT} {n : Nat} {sn : Nat} {sf : Nat → Int32} (hw : HW g) {K : St → MHeap} {o : Nat} {r : Nat → Nat} (hs : ∀ s, (K s)[0]? = some (.inr (false, tab sn sf))) (V : View (GG g) Ln K o r) (k : Nat) : ∀ (x1 : Int32) (x2 : Int32) (x4 : Int32) (x5 : Int32) (x6 : Int32) (s : St) (y7 : Slot) (hy7 : one1 y7 = true) (y8 : Slot) (hy8 : one1 y8 = true) (y9 : Slot) (hy9 : one1 y9 = true) (y10 : Slot) (hy10 : one1 y10 = true) (y11 : Slot) (hy11 : one1 y11 = true) (y12 : Slot) (hy12 : one1 y12 = true) (y13 : Slot) (hy13 : one1 y13 = true) (w : Int32 × St), f_law_65 n sn sf k x1 x2 x4 x5 x6 s = some w → Ev (GG g) M_law 65 [.val (.ref 0), .val (.int x1), .val (.int x2), .val (.ref o), .val (.int x4), .val (.int x5), .val (.int x6), y7, y8, y9, y10, y11, y12, y13] [] (K s) ((some (.int w.1)), (K w.2)) := by
  induction k with
  | zero => intro x1 x2 x4 x5 x6 s y7 hy7 y8 hy8 y9 hy9 y10 hy10 y11 hy11 y12 hy12 y13 hy13 w hr; rw [f_law_65] at hr; cases hr
  | succ k ih =>
    intro x1 x2 x4 x5 x6 s y7 hy7 y8 hy8 y9 hy9 y10 hy10 y11 hy11 y12 hy12 y13 hy13 w hr
    rw [f_law_65] at hr
    refine Ev.iload at_65 rfl ?_
    refine Ev.aloadN at_67 rfl ?_
    refine Ev.sln (hs s) at_68 ?_
    refine Ev.icge (t := 661) at_69 rfl (fun c1 => ?_) (fun c1 => ?_)
    · replace hr := (if_pos c1).symm.trans hr
      refine Ev.aloadN at_72 rfl ?_
      refine Ev.iload at_73 rfl ?_
      obtain ⟨b2, hr⟩ := grd_some hr
      refine Ev.sal (hs s) at_75 b2 ?_
      refine Ev.bipush (z := 7) at_76 rfl ?_
      refine Ev.iand at_78 ?_
      refine Ev.istD (L' := [.val (.ref 0), .val (.int x1), .val (.int x2), .val (.ref o), .val (.int x4), .val (.int x5), .val (.int x6), .val (.int ((sf (ix x6)) &&& (7 : Int32))), y8, y9, y10, y11, y12, y13]) at_79 rfl hy7 rfl ?_
      refine Ev.aloadN at_81 rfl ?_
      refine Ev.iload at_82 rfl ?_
      refine Ev.iconst (z := 1) at_84 rfl ?_
      refine Ev.iadd at_85 ?_
      obtain ⟨q3, hq4, hr⟩ := Option.bind_eq_some_iff.mp hr
      refine Ev.stat (y := M_hcell) (args := [.ref 0, .int (x6 + (1 : Int32))]) (rest := []) nm_hcell (ww hw 0 rfl) (ww hw 1 rfl) (ww hw 2 rfl) (ww hw 3 rfl) (lenOf pd_hcell rfl) at_86 (e_hcell hw (hs s) hq4) (by decide) (Nat.le_of_ble_eq_true rfl) rfl ?_
      refine Ev.istD (L' := [.val (.ref 0), .val (.int x1), .val (.int x2), .val (.ref o), .val (.int x4), .val (.int x5), .val (.int x6), .val (.int ((sf (ix x6)) &&& (7 : Int32))), .val (.int q3), y9, y10, y11, y12, y13]) at_89 rfl hy8 rfl ?_
      refine Ev.iload at_91 rfl ?_
      refine Ev.iconst (z := 3) at_93 rfl ?_
      refine Ev.icgt (t := 317) at_94 rfl (fun c5 => ?_) (fun c5 => ?_)
      · replace hr := (if_pos c5).symm.trans hr
        refine Ev.iload at_317 rfl ?_
        refine Ev.iconst (z := 4) at_319 rfl ?_
        refine Ev.icne (t := 452) at_320 rfl (fun c6 => ?_) (fun c6 => ?_)
        · replace hr := (if_pos c6).symm.trans hr
          refine Ev.iload at_323 rfl ?_
          refine Ev.ifle (t := 642) at_325 rfl (fun c7 => ?_) (fun c7 => ?_)
          · replace hr := (if_pos c7).symm.trans hr
            refine Ev.iload at_328 rfl ?_
            refine Ev.iload at_330 rfl ?_
            obtain ⟨q8, hq9, hr⟩ := Option.bind_eq_some_iff.mp hr
            refine Ev.stat (y := M_hmod) (args := [.int q3, .int x5]) (rest := []) nm_hmod (ww hw 94 rfl) (ww hw 95 rfl) (ww hw 2 rfl) (ww hw 96 rfl) (lenOf pd_hmod rfl) at_332 (e_hmod hw hq9) (by decide) (Nat.le_of_ble_eq_true rfl) rfl ?_
            refine Ev.istD (L' := [.val (.ref 0), .val (.int x1), .val (.int x2), .val (.ref o), .val (.int x4), .val (.int x5), .val (.int x6), .val (.int ((sf (ix x6)) &&& (7 : Int32))), .val (.int q3), .val (.int q8), y10, y11, y12, y13]) at_335 rfl hy9 rfl ?_
            refine Ev.iconst (z := -1) at_337 rfl ?_
            refine Ev.istD (L' := [.val (.ref 0), .val (.int x1), .val (.int x2), .val (.ref o), .val (.int x4), .val (.int x5), .val (.int x6), .val (.int ((sf (ix x6)) &&& (7 : Int32))), .val (.int q3), .val (.int q8), .val (.int (-1 : Int32)), y11, y12, y13]) at_338 rfl hy10 rfl ?_
            refine Ev.iconst (z := 0) at_340 rfl ?_
            refine Ev.istD (L' := [.val (.ref 0), .val (.int x1), .val (.int x2), .val (.ref o), .val (.int x4), .val (.int x5), .val (.int x6), .val (.int ((sf (ix x6)) &&& (7 : Int32))), .val (.int q3), .val (.int q8), .val (.int (-1 : Int32)), .val (.int (0 : Int32)), y12, y13]) at_341 rfl hy11 rfl ?_
            refine Ev.iconst (z := 0) at_343 rfl ?_
            refine Ev.istD (L' := [.val (.ref 0), .val (.int x1), .val (.int x2), .val (.ref o), .val (.int x4), .val (.int x5), .val (.int x6), .val (.int ((sf (ix x6)) &&& (7 : Int32))), .val (.int q3), .val (.int q8), .val (.int (-1 : Int32)), .val (.int (0 : Int32)), .val (.int (0 : Int32)), y13]) at_344 rfl hy12 rfl ?_
            exact e_law_346 hw hs V ih n x1 x2 x4 x5 x6 q8 (-1 : Int32) (0 : Int32) (0 : Int32) s (.val (.int ((sf (ix x6)) &&& (7 : Int32)))) rfl (.val (.int q3)) rfl y13 hy13 _ hr
          · replace hr := (if_neg c7).symm.trans hr
            exact e_law_642 hw hs V ih x1 x2 x4 x5 x6 s (.val (.int ((sf (ix x6)) &&& (7 : Int32)))) rfl (.val (.int q3)) rfl y9 hy9 y10 hy10 y11 hy11 y12 hy12 y13 hy13 _ hr
        · replace hr := (if_neg c6).symm.trans hr
          refine Ev.iload at_452 rfl ?_
          refine Ev.iconst (z := 5) at_454 rfl ?_
          refine Ev.icne (t := 551) at_455 rfl (fun c10 => ?_) (fun c10 => ?_)
          · replace hr := (if_pos c10).symm.trans hr
            refine Ev.iload at_458 rfl ?_
            refine Ev.iload at_460 rfl ?_
            obtain ⟨q11, hq12, hr⟩ := Option.bind_eq_some_iff.mp hr
            refine Ev.stat (y := M_hmod) (args := [.int q3, .int x4]) (rest := []) nm_hmod (ww hw 94 rfl) (ww hw 95 rfl) (ww hw 2 rfl) (ww hw 96 rfl) (lenOf pd_hmod rfl) at_462 (e_hmod hw hq12) (by decide) (Nat.le_of_ble_eq_true rfl) rfl ?_
            refine Ev.istD (L' := [.val (.ref 0), .val (.int x1), .val (.int x2), .val (.ref o), .val (.int x4), .val (.int x5), .val (.int x6), .val (.int ((sf (ix x6)) &&& (7 : Int32))), .val (.int q3), .val (.int q11), y10, y11, y12, y13]) at_465 rfl hy9 rfl ?_
            refine Ev.aloadN at_467 rfl ?_
            refine Ev.iload at_468 rfl ?_
            obtain ⟨q13, hq14, hr⟩ := Option.bind_eq_some_iff.mp hr
            refine Ev.virt (y := M_isLive) (args := [.int q11]) (rest := []) (gok hw) rfl nm_isLive (ww hw 80 rfl) (ww hw 81 rfl) (ww hw 82 rfl) (ww hw 83 rfl) (ww hw 84 rfl) (lenOf pd_isLive rfl) at_470 (V.2.1 s) (e_isLive hw V hq14) (by decide) (Nat.le_of_ble_eq_true rfl) rfl ?_
            refine Ev.istD (L' := [.val (.ref 0), .val (.int x1), .val (.int x2), .val (.ref o), .val (.int x4), .val (.int x5), .val (.int x6), .val (.int ((sf (ix x6)) &&& (7 : Int32))), .val (.int q3), .val (.int q11), .val (.int q13), y11, y12, y13]) at_473 rfl hy10 rfl ?_
            refine Ev.aloadN at_475 rfl ?_
            refine Ev.iload at_476 rfl ?_
            refine Ev.bipush (z := 16) at_478 rfl ?_
            refine Ev.idiv at_480 (by decide) ?_
            obtain ⟨q15, hq16, hr⟩ := Option.bind_eq_some_iff.mp hr
            refine Ev.virt (y := M_pageClass) (args := [.int (q11 / (16 : Int32))]) (rest := []) (gok hw) rfl nm_pageClass (ww hw 42 rfl) (ww hw 43 rfl) (ww hw 44 rfl) (ww hw 45 rfl) (ww hw 46 rfl) (lenOf pd_pageClass rfl) at_481 (V.2.1 s) (e_pageClass hw V hq16) (by decide) (Nat.le_of_ble_eq_true rfl) rfl ?_
            refine Ev.istD (L' := [.val (.ref 0), .val (.int x1), .val (.int x2), .val (.ref o), .val (.int x4), .val (.int x5), .val (.int x6), .val (.int ((sf (ix x6)) &&& (7 : Int32))), .val (.int q3), .val (.int q11), .val (.int q13), .val (.int q15), y12, y13]) at_484 rfl hy11 rfl ?_
            refine Ev.iload at_486 rfl ?_
            refine Ev.ifeq (t := 509) at_488 rfl (fun c17 => ?_) (fun c17 => ?_)
            · replace hr := (if_pos c17).symm.trans hr
              refine Ev.iconst (z := 0) at_509 rfl ?_
              exact e_law_510 hw hs V ih x1 x2 x4 x5 x6 q11 (0 : Int32) s (.val (.int ((sf (ix x6)) &&& (7 : Int32)))) rfl (.val (.int q3)) rfl (.val (.int q13)) rfl (.val (.int q15)) rfl y12 hy12 y13 hy13 _ hr
            · replace hr := (if_neg c17).symm.trans hr
              refine Ev.iload at_491 rfl ?_
              refine Ev.bipush (z := 16) at_493 rfl ?_
              refine Ev.irem at_495 (by decide) ?_
              refine Ev.iload at_496 rfl ?_
              obtain ⟨q18, hq19, hr⟩ := Option.bind_eq_some_iff.mp hr
              refine Ev.stat (y := M_hsize) (args := [.int q15]) (rest := [.int (q11 % (16 : Int32))]) nm_hsize (ww hw 144 rfl) (ww hw 145 rfl) (ww hw 2 rfl) (ww hw 146 rfl) (lenOf pd_hsize rfl) at_498 (e_hsize hw hq19) (by decide) (Nat.le_of_ble_eq_true rfl) rfl ?_
              obtain ⟨c20, hr⟩ := grd_some hr
              refine Ev.irem at_501 c20 ?_
              refine Ev.ifne (t := 509) at_502 rfl (fun c21 => ?_) (fun c21 => ?_)
              · replace hr := (if_pos c21).symm.trans hr
                refine Ev.iconst (z := 1) at_505 rfl ?_
                refine Ev.goto (t := 510) at_506 rfl ?_
                exact e_law_510 hw hs V ih x1 x2 x4 x5 x6 q11 (1 : Int32) s (.val (.int ((sf (ix x6)) &&& (7 : Int32)))) rfl (.val (.int q3)) rfl (.val (.int q13)) rfl (.val (.int q15)) rfl y12 hy12 y13 hy13 _ hr
              · replace hr := (if_neg c21).symm.trans hr
                refine Ev.iconst (z := 0) at_509 rfl ?_
                exact e_law_510 hw hs V ih x1 x2 x4 x5 x6 q11 (0 : Int32) s (.val (.int ((sf (ix x6)) &&& (7 : Int32)))) rfl (.val (.int q3)) rfl (.val (.int q13)) rfl (.val (.int q15)) rfl y12 hy12 y13 hy13 _ hr
          · replace hr := (if_neg c10).symm.trans hr
            refine Ev.iload at_551 rfl ?_
            refine Ev.bipush (z := 6) at_553 rfl ?_
            refine Ev.icne (t := 607) at_555 rfl (fun c22 => ?_) (fun c22 => ?_)
            · replace hr := (if_pos c22).symm.trans hr
              refine Ev.aloadN at_558 rfl ?_
              obtain ⟨q23, hq24, hr⟩ := Option.bind_eq_some_iff.mp hr
              refine Ev.virt (y := M_framesInUse) (args := []) (rest := []) (gok hw) rfl nm_framesInUse (ww hw 71 rfl) (ww hw 72 rfl) (ww hw 73 rfl) (ww hw 74 rfl) (ww hw 75 rfl) (lenOf pd_framesInUse rfl) at_559 (V.2.1 s) (e_framesInUse hw V hq24) (by decide) (Nat.le_of_ble_eq_true rfl) rfl ?_
              refine Ev.istD (L' := [.val (.ref 0), .val (.int x1), .val (.int x2), .val (.ref o), .val (.int x4), .val (.int x5), .val (.int x6), .val (.int ((sf (ix x6)) &&& (7 : Int32))), .val (.int q3), .val (.int q23), y10, y11, y12, y13]) at_562 rfl hy9 rfl ?_
              refine Ev.aloadN at_564 rfl ?_
              obtain ⟨q25, hq26, hr⟩ := Option.bind_eq_some_iff.mp hr
              refine Ev.virt (y := M_rngState) (args := []) (rest := []) (gok hw) rfl nm_rngState (ww hw 97 rfl) (ww hw 98 rfl) (ww hw 99 rfl) (ww hw 100 rfl) (ww hw 101 rfl) (lenOf pd_rngState rfl) at_565 (V.2.1 s) (e_rngState hw V hq26) (by decide) (Nat.le_of_ble_eq_true rfl) rfl ?_
              refine Ev.istD (L' := [.val (.ref 0), .val (.int x1), .val (.int x2), .val (.ref o), .val (.int x4), .val (.int x5), .val (.int x6), .val (.int ((sf (ix x6)) &&& (7 : Int32))), .val (.int q3), .val (.int q23), .val (.int q25), y11, y12, y13]) at_568 rfl hy10 rfl ?_
              refine Ev.aloadN at_570 rfl ?_
              obtain ⟨q27, hq28, hr⟩ := Option.bind_eq_some_iff.mp hr
              refine Ev.virt (y := M_mesh) (args := []) (rest := []) (gok hw) rfl nm_mesh (ww hw 168 rfl) (ww hw 169 rfl) (ww hw 170 rfl) (ww hw 171 rfl) (ww hw 172 rfl) (lenOf pd_mesh rfl) at_571 (V.2.1 s) (e_mesh hw V hq28) (by decide) (Nat.le_of_ble_eq_true rfl) rfl ?_
              refine Ev.istD (L' := [.val (.ref 0), .val (.int x1), .val (.int x2), .val (.ref o), .val (.int x4), .val (.int x5), .val (.int x6), .val (.int ((sf (ix x6)) &&& (7 : Int32))), .val (.int q3), .val (.int q23), .val (.int q25), .val (.int q27.1), y12, y13]) at_574 rfl hy11 rfl ?_
              refine Ev.iload at_576 rfl ?_
              refine Ev.iflt (t := 602) at_578 rfl (fun c29 => ?_) (fun c29 => ?_)
              · replace hr := (if_pos c29).symm.trans hr
                refine Ev.iconst (z := 0) at_602 rfl ?_
                cases hr
                exact Ev.zret0 rfl at_603
              · replace hr := (if_neg c29).symm.trans hr
                refine Ev.aloadN at_581 rfl ?_
                obtain ⟨q30, hq31, hr⟩ := Option.bind_eq_some_iff.mp hr
                refine Ev.virt (y := M_framesInUse) (args := []) (rest := []) (gok hw) rfl nm_framesInUse (ww hw 71 rfl) (ww hw 72 rfl) (ww hw 73 rfl) (ww hw 74 rfl) (ww hw 75 rfl) (lenOf pd_framesInUse rfl) at_582 (V.2.1 q27.2) (e_framesInUse hw V hq31) (by decide) (Nat.le_of_ble_eq_true rfl) rfl ?_
                refine Ev.iload at_585 rfl ?_
                refine Ev.iload at_587 rfl ?_
                refine Ev.isub at_589 ?_
                refine Ev.icne (t := 602) at_590 rfl (fun c32 => ?_) (fun c32 => ?_)
                · replace hr := (if_pos c32).symm.trans hr
                  refine Ev.aloadN at_593 rfl ?_
                  obtain ⟨q33, hq34, hr⟩ := Option.bind_eq_some_iff.mp hr
                  refine Ev.virt (y := M_rngState) (args := []) (rest := []) (gok hw) rfl nm_rngState (ww hw 97 rfl) (ww hw 98 rfl) (ww hw 99 rfl) (ww hw 100 rfl) (ww hw 101 rfl) (lenOf pd_rngState rfl) at_594 (V.2.1 q27.2) (e_rngState hw V hq34) (by decide) (Nat.le_of_ble_eq_true rfl) rfl ?_
                  refine Ev.iload at_597 rfl ?_
                  refine Ev.iceq (t := 604) at_599 rfl (fun c35 => ?_) (fun c35 => ?_)
                  · replace hr := (if_pos c35).symm.trans hr
                    refine Ev.goto (t := 642) at_604 rfl ?_
                    exact e_law_642 hw hs V ih x1 x2 x4 x5 x6 q27.2 (.val (.int ((sf (ix x6)) &&& (7 : Int32)))) rfl (.val (.int q3)) rfl (.val (.int q23)) rfl (.val (.int q25)) rfl (.val (.int q27.1)) rfl y12 hy12 y13 hy13 _ hr
                  · replace hr := (if_neg c35).symm.trans hr
                    refine Ev.iconst (z := 0) at_602 rfl ?_
                    cases hr
                    exact Ev.zret0 rfl at_603
                · replace hr := (if_neg c32).symm.trans hr
                  refine Ev.iconst (z := 0) at_602 rfl ?_
                  cases hr
                  exact Ev.zret0 rfl at_603
            · replace hr := (if_neg c22).symm.trans hr
              refine Ev.iload at_607 rfl ?_
              refine Ev.iload at_609 rfl ?_
              obtain ⟨q36, hq37, hr⟩ := Option.bind_eq_some_iff.mp hr
              refine Ev.stat (y := M_hmod) (args := [.int q3, .int x4]) (rest := []) nm_hmod (ww hw 94 rfl) (ww hw 95 rfl) (ww hw 2 rfl) (ww hw 96 rfl) (lenOf pd_hmod rfl) at_611 (e_hmod hw hq37) (by decide) (Nat.le_of_ble_eq_true rfl) rfl ?_
              refine Ev.istD (L' := [.val (.ref 0), .val (.int x1), .val (.int x2), .val (.ref o), .val (.int x4), .val (.int x5), .val (.int x6), .val (.int ((sf (ix x6)) &&& (7 : Int32))), .val (.int q3), .val (.int q36), y10, y11, y12, y13]) at_614 rfl hy9 rfl ?_
              refine Ev.aloadN at_616 rfl ?_
              refine Ev.iload at_617 rfl ?_
              obtain ⟨q38, hq39, hr⟩ := Option.bind_eq_some_iff.mp hr
              refine Ev.virt (y := M_isLive) (args := [.int q36]) (rest := []) (gok hw) rfl nm_isLive (ww hw 80 rfl) (ww hw 81 rfl) (ww hw 82 rfl) (ww hw 83 rfl) (ww hw 84 rfl) (lenOf pd_isLive rfl) at_619 (V.2.1 s) (e_isLive hw V hq39) (by decide) (Nat.le_of_ble_eq_true rfl) rfl ?_
              refine Ev.istD (L' := [.val (.ref 0), .val (.int x1), .val (.int x2), .val (.ref o), .val (.int x4), .val (.int x5), .val (.int x6), .val (.int ((sf (ix x6)) &&& (7 : Int32))), .val (.int q3), .val (.int q36), .val (.int q38), y11, y12, y13]) at_622 rfl hy10 rfl ?_
              refine Ev.aloadN at_624 rfl ?_
              refine Ev.iload at_625 rfl ?_
              refine Ev.iload at_627 rfl ?_
              obtain ⟨q40, hq41, hr⟩ := Option.bind_eq_some_iff.mp hr
              refine Ev.stat (y := M_htag) (args := [.int q36]) (rest := [.int q36, .ref o]) nm_htag (ww hw 148 rfl) (ww hw 149 rfl) (ww hw 2 rfl) (ww hw 150 rfl) (lenOf pd_htag rfl) at_629 (e_htag hw hq41) (by decide) (Nat.le_of_ble_eq_true rfl) rfl ?_
              obtain ⟨q42, hq43, hr⟩ := Option.bind_eq_some_iff.mp hr
              refine Ev.virt (y := M_write) (args := [.int q36, .int q40]) (rest := []) (gok hw) rfl nm_write (ww hw 151 rfl) (ww hw 152 rfl) (ww hw 153 rfl) (ww hw 154 rfl) (ww hw 155 rfl) (lenOf pd_write rfl) at_632 (V.2.1 s) (e_write hw V hq43) (by decide) (Nat.le_of_ble_eq_true rfl) rfl ?_
              refine Ev.iload at_635 rfl ?_
              refine Ev.iceq (t := 642) at_637 rfl (fun c44 => ?_) (fun c44 => ?_)
              · replace hr := (if_pos c44).symm.trans hr
                exact e_law_642 hw hs V ih x1 x2 x4 x5 x6 q42.2 (.val (.int ((sf (ix x6)) &&& (7 : Int32)))) rfl (.val (.int q3)) rfl (.val (.int q36)) rfl (.val (.int q38)) rfl y11 hy11 y12 hy12 y13 hy13 _ hr
              · replace hr := (if_neg c44).symm.trans hr
                refine Ev.iconst (z := 0) at_640 rfl ?_
                cases hr
                exact Ev.zret0 rfl at_641
      · replace hr := (if_neg c5).symm.trans hr
        refine Ev.iload at_97 rfl ?_
        refine Ev.iconst (z := 3) at_99 rfl ?_
        obtain ⟨q45, hq46, hr⟩ := Option.bind_eq_some_iff.mp hr
        refine Ev.stat (y := M_hmod) (args := [.int q3, .int (3 : Int32)]) (rest := []) nm_hmod (ww hw 94 rfl) (ww hw 95 rfl) (ww hw 2 rfl) (ww hw 96 rfl) (lenOf pd_hmod rfl) at_100 (e_hmod hw hq46) (by decide) (Nat.le_of_ble_eq_true rfl) rfl ?_
        refine Ev.istD (L' := [.val (.ref 0), .val (.int x1), .val (.int x2), .val (.ref o), .val (.int x4), .val (.int x5), .val (.int x6), .val (.int ((sf (ix x6)) &&& (7 : Int32))), .val (.int q3), .val (.int q45), y10, y11, y12, y13]) at_103 rfl hy9 rfl ?_
        refine Ev.aloadN at_105 rfl ?_
        obtain ⟨q47, hq48, hr⟩ := Option.bind_eq_some_iff.mp hr
        refine Ev.virt (y := M_rngState) (args := []) (rest := []) (gok hw) rfl nm_rngState (ww hw 97 rfl) (ww hw 98 rfl) (ww hw 99 rfl) (ww hw 100 rfl) (ww hw 101 rfl) (lenOf pd_rngState rfl) at_106 (V.2.1 s) (e_rngState hw V hq48) (by decide) (Nat.le_of_ble_eq_true rfl) rfl ?_
        refine Ev.istD (L' := [.val (.ref 0), .val (.int x1), .val (.int x2), .val (.ref o), .val (.int x4), .val (.int x5), .val (.int x6), .val (.int ((sf (ix x6)) &&& (7 : Int32))), .val (.int q3), .val (.int q45), .val (.int q47), y11, y12, y13]) at_109 rfl hy10 rfl ?_
        refine Ev.aloadN at_111 rfl ?_
        refine Ev.iload at_112 rfl ?_
        obtain ⟨q49, hq50, hr⟩ := Option.bind_eq_some_iff.mp hr
        refine Ev.virt (y := M_alloc) (args := [.int q45]) (rest := []) (gok hw) rfl nm_alloc (ww hw 102 rfl) (ww hw 103 rfl) (ww hw 104 rfl) (ww hw 105 rfl) (ww hw 106 rfl) (lenOf pd_alloc rfl) at_114 (V.2.1 s) (e_alloc hw V hq50) (by decide) (Nat.le_of_ble_eq_true rfl) rfl ?_
        refine Ev.istD (L' := [.val (.ref 0), .val (.int x1), .val (.int x2), .val (.ref o), .val (.int x4), .val (.int x5), .val (.int x6), .val (.int ((sf (ix x6)) &&& (7 : Int32))), .val (.int q3), .val (.int q45), .val (.int q47), .val (.int q49.1), y12, y13]) at_117 rfl hy11 rfl ?_
        refine Ev.iload at_119 rfl ?_
        refine Ev.iflt (t := 253) at_121 rfl (fun c51 => ?_) (fun c51 => ?_)
        · replace hr := (if_pos c51).symm.trans hr
          refine Ev.iload at_253 rfl ?_
          refine Ev.bipush (z := -2) at_255 rfl ?_
          refine Ev.iceq (t := 269) at_257 rfl (fun c52 => ?_) (fun c52 => ?_)
          · replace hr := (if_pos c52).symm.trans hr
            exact e_law_269 hw hs V ih x1 x2 x4 x5 x6 q47 q49.1 q49.2 (.val (.int ((sf (ix x6)) &&& (7 : Int32)))) rfl (.val (.int q3)) rfl (.val (.int q45)) rfl y12 hy12 y13 hy13 _ hr
          · replace hr := (if_neg c52).symm.trans hr
            refine Ev.iload at_260 rfl ?_
            refine Ev.bipush (z := -3) at_262 rfl ?_
            refine Ev.iceq (t := 269) at_264 rfl (fun c53 => ?_) (fun c53 => ?_)
            · replace hr := (if_pos c53).symm.trans hr
              exact e_law_269 hw hs V ih x1 x2 x4 x5 x6 q47 q49.1 q49.2 (.val (.int ((sf (ix x6)) &&& (7 : Int32)))) rfl (.val (.int q3)) rfl (.val (.int q45)) rfl y12 hy12 y13 hy13 _ hr
            · replace hr := (if_neg c53).symm.trans hr
              refine Ev.iconst (z := 0) at_267 rfl ?_
              cases hr
              exact Ev.zret0 rfl at_268
        · replace hr := (if_neg c51).symm.trans hr
          refine Ev.iload at_124 rfl ?_
          obtain ⟨q54, hq55, hr⟩ := Option.bind_eq_some_iff.mp hr
          refine Ev.stat (y := M_hsize) (args := [.int q45]) (rest := []) nm_hsize (ww hw 144 rfl) (ww hw 145 rfl) (ww hw 2 rfl) (ww hw 146 rfl) (lenOf pd_hsize rfl) at_126 (e_hsize hw hq55) (by decide) (Nat.le_of_ble_eq_true rfl) rfl ?_
          refine Ev.istD (L' := [.val (.ref 0), .val (.int x1), .val (.int x2), .val (.ref o), .val (.int x4), .val (.int x5), .val (.int x6), .val (.int ((sf (ix x6)) &&& (7 : Int32))), .val (.int q3), .val (.int q45), .val (.int q47), .val (.int q49.1), .val (.int q54), y13]) at_129 rfl hy12 rfl ?_
          refine Ev.iload at_131 rfl ?_
          refine Ev.iload at_133 rfl ?_
          refine Ev.icge (t := 163) at_135 rfl (fun c56 => ?_) (fun c56 => ?_)
          · replace hr := (if_pos c56).symm.trans hr
            refine Ev.iload at_138 rfl ?_
            refine Ev.bipush (z := 16) at_140 rfl ?_
            refine Ev.irem at_142 (by decide) ?_
            refine Ev.iload at_143 rfl ?_
            obtain ⟨c57, hr⟩ := grd_some hr
            refine Ev.irem at_145 c57 ?_
            refine Ev.ifne (t := 163) at_146 rfl (fun c58 => ?_) (fun c58 => ?_)
            · replace hr := (if_pos c58).symm.trans hr
              refine Ev.aloadN at_149 rfl ?_
              refine Ev.iload at_150 rfl ?_
              refine Ev.bipush (z := 16) at_152 rfl ?_
              refine Ev.idiv at_154 (by decide) ?_
              obtain ⟨q59, hq60, hr⟩ := Option.bind_eq_some_iff.mp hr
              refine Ev.virt (y := M_pageClass) (args := [.int (q49.1 / (16 : Int32))]) (rest := []) (gok hw) rfl nm_pageClass (ww hw 42 rfl) (ww hw 43 rfl) (ww hw 44 rfl) (ww hw 45 rfl) (ww hw 46 rfl) (lenOf pd_pageClass rfl) at_155 (V.2.1 q49.2) (e_pageClass hw V hq60) (by decide) (Nat.le_of_ble_eq_true rfl) rfl ?_
              refine Ev.iload at_158 rfl ?_
              refine Ev.iceq (t := 165) at_160 rfl (fun c61 => ?_) (fun c61 => ?_)
              · replace hr := (if_pos c61).symm.trans hr
                refine Ev.aloadN at_165 rfl ?_
                obtain ⟨q62, hq63, hr⟩ := Option.bind_eq_some_iff.mp hr
                refine Ev.virt (y := M_rngState) (args := []) (rest := []) (gok hw) rfl nm_rngState (ww hw 97 rfl) (ww hw 98 rfl) (ww hw 99 rfl) (ww hw 100 rfl) (ww hw 101 rfl) (lenOf pd_rngState rfl) at_166 (V.2.1 q49.2) (e_rngState hw V hq63) (by decide) (Nat.le_of_ble_eq_true rfl) rfl ?_
                refine Ev.iload at_169 rfl ?_
                refine Ev.ldc (ww hw 147 rfl) at_171 ?_
                refine Ev.imul at_173 ?_
                refine Ev.sipush (z := 12345) at_174 rfl ?_
                refine Ev.iadd at_177 ?_
                refine Ev.iceq (t := 183) at_178 rfl (fun c64 => ?_) (fun c64 => ?_)
                · replace hr := (if_pos c64).symm.trans hr
                  refine Ev.iconst (z := 0) at_183 rfl ?_
                  refine Ev.istD (L' := [.val (.ref 0), .val (.int x1), .val (.int x2), .val (.ref o), .val (.int x4), .val (.int x5), .val (.int x6), .val (.int ((sf (ix x6)) &&& (7 : Int32))), .val (.int q3), .val (.int q45), .val (.int q47), .val (.int q49.1), .val (.int q54), .val (.int (0 : Int32))]) at_184 rfl hy13 rfl ?_
                  exact e_law_186 hw hs V ih n x1 x2 x4 x5 x6 q49.1 q54 (0 : Int32) q49.2 (.val (.int ((sf (ix x6)) &&& (7 : Int32)))) rfl (.val (.int q3)) rfl (.val (.int q45)) rfl (.val (.int q47)) rfl _ hr
                · replace hr := (if_neg c64).symm.trans hr
                  refine Ev.iconst (z := 0) at_181 rfl ?_
                  cases hr
                  exact Ev.zret0 rfl at_182
              · replace hr := (if_neg c61).symm.trans hr
                refine Ev.iconst (z := 0) at_163 rfl ?_
                cases hr
                exact Ev.zret0 rfl at_164
            · replace hr := (if_neg c58).symm.trans hr
              refine Ev.iconst (z := 0) at_163 rfl ?_
              cases hr
              exact Ev.zret0 rfl at_164
          · replace hr := (if_neg c56).symm.trans hr
            refine Ev.iconst (z := 0) at_163 rfl ?_
            cases hr
            exact Ev.zret0 rfl at_164
    · replace hr := (if_neg c1).symm.trans hr
      refine Ev.iconst (z := 1) at_661 rfl ?_
      cases hr
      exact Ev.zret1 rfl at_662
def f_law_39 (n : Nat) (sn : Nat) (sf : Nat → Int32) (x1 : Int32) (x2 : Int32) (s : St) : Option (Int32 × St) :=
  (f_hconsistent n s x1 x2 (0 : Int32)).bind fun q1 =>
  if q1 = 0 then
    some ((0 : Int32), s)
  else
    f_law_65 n sn sf n x1 x2 (x1 * (16 : Int32)) (0 : Int32) (3 : Int32) s
set_option maxRecDepth 100000 in
theorem e_law_39 {g : GT} {n : Nat} {sn : Nat} {sf : Nat → Int32} (hw : HW g) {K : St → MHeap} {o : Nat} {r : Nat → Nat} (hs : ∀ s, (K s)[0]? = some (.inr (false, tab sn sf))) (V : View (GG g) Ln K o r) (x1 : Int32) (x2 : Int32) (s : St) (y3 : Slot) (hy3 : one1 y3 = true) (y4 : Slot) (hy4 : one1 y4 = true) (y5 : Slot) (hy5 : one1 y5 = true) (y6 : Slot) (hy6 : one1 y6 = true) (y7 : Slot) (hy7 : one1 y7 = true) (y8 : Slot) (hy8 : one1 y8 = true) (y9 : Slot) (hy9 : one1 y9 = true) (y10 : Slot) (hy10 : one1 y10 = true) (y11 : Slot) (hy11 : one1 y11 = true) (y12 : Slot) (hy12 : one1 y12 = true) (y13 : Slot) (hy13 : one1 y13 = true) (w : Int32 × St) (hr : f_law_39 n sn sf x1 x2 s = some w) : Ev (GG g) M_law 39 [.val (.ref 0), .val (.int x1), .val (.int x2), y3, y4, y5, y6, y7, y8, y9, y10, y11, y12, y13] [.ref o] (K s) ((some (.int w.1)), (K w.2)) := by
  unfold f_law_39 at hr
  refine Ev.astDN (L' := [.val (.ref 0), .val (.int x1), .val (.int x2), .val (.ref o), y4, y5, y6, y7, y8, y9, y10, y11, y12, y13]) at_39 rfl hy3 rfl ?_
  refine Ev.iloadN at_40 rfl ?_
  refine Ev.bipush (z := 16) at_41 rfl ?_
  refine Ev.imul at_43 ?_
  refine Ev.istD (L' := [.val (.ref 0), .val (.int x1), .val (.int x2), .val (.ref o), .val (.int (x1 * (16 : Int32))), y5, y6, y7, y8, y9, y10, y11, y12, y13]) at_44 rfl hy4 rfl ?_
  refine Ev.iconst (z := 0) at_46 rfl ?_
  refine Ev.istD (L' := [.val (.ref 0), .val (.int x1), .val (.int x2), .val (.ref o), .val (.int (x1 * (16 : Int32))), .val (.int (0 : Int32)), y6, y7, y8, y9, y10, y11, y12, y13]) at_47 rfl hy5 rfl ?_
  refine Ev.aloadN at_49 rfl ?_
  refine Ev.iloadN at_50 rfl ?_
  refine Ev.iloadN at_51 rfl ?_
  refine Ev.iload at_52 rfl ?_
  obtain ⟨q1, hq2, hr⟩ := Option.bind_eq_some_iff.mp hr
  refine Ev.stat (y := M_hconsistent) (args := [.ref o, .int x1, .int x2, .int (0 : Int32)]) (rest := []) nm_hconsistent (ww hw 34 rfl) (ww hw 35 rfl) (ww hw 2 rfl) (ww hw 36 rfl) (lenOf pd_hconsistent rfl) at_54 (e_hconsistent hw V hq2) (by decide) (Nat.le_of_ble_eq_true rfl) rfl ?_
  refine Ev.ifne (t := 62) at_57 rfl (fun c3 => ?_) (fun c3 => ?_)
  · replace hr := (if_pos c3).symm.trans hr
    refine Ev.iconst (z := 0) at_60 rfl ?_
    cases hr
    exact Ev.zret0 rfl at_61
  · replace hr := (if_neg c3).symm.trans hr
    refine Ev.iconst (z := 3) at_62 rfl ?_
    refine Ev.istD (L' := [.val (.ref 0), .val (.int x1), .val (.int x2), .val (.ref o), .val (.int (x1 * (16 : Int32))), .val (.int (0 : Int32)), .val (.int (3 : Int32)), y7, y8, y9, y10, y11, y12, y13]) at_63 rfl hy6 rfl ?_
    exact e_law_65 hw hs V  n x1 x2 (x1 * (16 : Int32)) (0 : Int32) (3 : Int32) s y7 hy7 y8 hy8 y9 hy9 y10 hy10 y11 hy11 y12 hy12 y13 hy13 _ hr
def f_law (n : Nat) (sn : Nat) (sf : Nat → Int32) : Option (Int32 × St) :=
  (f_hcell sn sf (0 : Int32)).bind fun q1 =>
  (f_hcell sn sf (1 : Int32)).bind fun q3 =>
  (f_hcell sn sf (2 : Int32)).bind fun q5 =>
  (f_ctor n ((2 : Int32) + (q1 &&& (7 : Int32))) ((1 : Int32) + (q3 &&& (7 : Int32))) (q5 &&& (65535 : Int32))).bind fun q7 =>
  f_law_39 n sn sf ((2 : Int32) + (q1 &&& (7 : Int32))) ((1 : Int32) + (q3 &&& (7 : Int32))) q7
set_option maxRecDepth 100000 in
theorem e_law {g : GT} {n : Nat} {sn : Nat} {sf : Nat → Int32} {w : Int32 × St} (hw : HW g) (hk : k0 (GG g) ≤ (H0 sn sf).length) (hr : f_law n sn sf = some w) : EvC (GG g) M_law [.ref 0] (H0 sn sf) ((some (.int w.1)), (KL sn sf w.2)) := by
  refine EvC.enter (L0 := [.val (.ref 0), .unset, .unset, .unset, .unset, .unset, .unset, .unset, .unset, .unset, .unset, .unset, .unset, .unset]) pl_law (fun h => nomatch h) rfl rfl ?_
  unfold f_law at hr
  refine Ev.iconst (z := 2) at_0 rfl ?_
  refine Ev.aloadN at_1 rfl ?_
  refine Ev.iconst (z := 0) at_2 rfl ?_
  obtain ⟨q1, hq2, hr⟩ := Option.bind_eq_some_iff.mp hr
  refine Ev.stat (y := M_hcell) (args := [.ref 0, .int (0 : Int32)]) (rest := [.int (2 : Int32)]) nm_hcell (ww hw 0 rfl) (ww hw 1 rfl) (ww hw 2 rfl) (ww hw 3 rfl) (lenOf pd_hcell rfl) at_3 (e_hcell hw rfl hq2) (by decide) (Nat.le_of_ble_eq_true rfl) rfl ?_
  refine Ev.bipush (z := 7) at_6 rfl ?_
  refine Ev.iand at_8 ?_
  refine Ev.iadd at_9 ?_
  refine Ev.istDN (L' := [.val (.ref 0), .val (.int ((2 : Int32) + (q1 &&& (7 : Int32)))), .unset, .unset, .unset, .unset, .unset, .unset, .unset, .unset, .unset, .unset, .unset, .unset]) at_10 rfl rfl rfl ?_
  refine Ev.iconst (z := 1) at_11 rfl ?_
  refine Ev.aloadN at_12 rfl ?_
  refine Ev.iconst (z := 1) at_13 rfl ?_
  obtain ⟨q3, hq4, hr⟩ := Option.bind_eq_some_iff.mp hr
  refine Ev.stat (y := M_hcell) (args := [.ref 0, .int (1 : Int32)]) (rest := [.int (1 : Int32)]) nm_hcell (ww hw 0 rfl) (ww hw 1 rfl) (ww hw 2 rfl) (ww hw 3 rfl) (lenOf pd_hcell rfl) at_14 (e_hcell hw rfl hq4) (by decide) (Nat.le_of_ble_eq_true rfl) rfl ?_
  refine Ev.bipush (z := 7) at_17 rfl ?_
  refine Ev.iand at_19 ?_
  refine Ev.iadd at_20 ?_
  refine Ev.istDN (L' := [.val (.ref 0), .val (.int ((2 : Int32) + (q1 &&& (7 : Int32)))), .val (.int ((1 : Int32) + (q3 &&& (7 : Int32)))), .unset, .unset, .unset, .unset, .unset, .unset, .unset, .unset, .unset, .unset, .unset]) at_21 rfl rfl rfl ?_
  refine Ev.new (gok hw) (ww hw 4 rfl) at_22 (fs := dfl) rfl ?_
  refine Ev.dup at_25 rfl ?_
  refine Ev.iloadN at_26 rfl ?_
  refine Ev.iloadN at_27 rfl ?_
  refine Ev.aloadN at_28 rfl ?_
  refine Ev.iconst (z := 2) at_29 rfl ?_
  obtain ⟨q5, hq6, hr⟩ := Option.bind_eq_some_iff.mp hr
  refine Ev.stat (y := M_hcell) (args := [.ref 0, .int (2 : Int32)]) (rest := [.int ((1 : Int32) + (q3 &&& (7 : Int32))), .int ((2 : Int32) + (q1 &&& (7 : Int32))), .ref (H0 sn sf).length, .ref (H0 sn sf).length]) nm_hcell (ww hw 0 rfl) (ww hw 1 rfl) (ww hw 2 rfl) (ww hw 3 rfl) (lenOf pd_hcell rfl) at_30 (e_hcell hw rfl hq6) (by decide) (Nat.le_of_ble_eq_true rfl) rfl ?_
  refine Ev.ldc (ww hw 7 rfl) at_33 ?_
  refine Ev.iand at_35 ?_
  obtain ⟨q7, hq8, hr⟩ := Option.bind_eq_some_iff.mp hr
  refine Ev.ctor (y := M_ctor) (args := [.int ((2 : Int32) + (q1 &&& (7 : Int32))), .int ((1 : Int32) + (q3 &&& (7 : Int32))), .int (q5 &&& (65535 : Int32))]) (rest := [.ref (H0 sn sf).length]) rfl rfl nm_ctor (ww hw 8 rfl) (ww hw 9 rfl) (ww hw 10 rfl) (ww hw 6 rfl) (lenOf pd_ctor rfl) at_36 (e_ctor hw hk hq8) (by decide) (Nat.le_of_ble_eq_true rfl) rfl ?_
  exact e_law_39 hw (K := KL sn sf) (o := (H0 sn sf).length) (r := rA (H0 sn sf).length al) (fun _ => rfl) (view_of hk al_ok al_nd)  ((2 : Int32) + (q1 &&& (7 : Int32))) ((1 : Int32) + (q3 &&& (7 : Int32))) q7 .unset rfl .unset rfl .unset rfl .unset rfl .unset rfl .unset rfl .unset rfl .unset rfl .unset rfl .unset rfl .unset rfl _ hr
theorem fin_len (sn : Nat) (sf : Nat → Int32) (w : St) : (KL sn sf w).length - (H0 sn sf).length ≤ 24 := by
  have q : al.length = 4 := rfl
  unfold KL; rw [KH_len]; simp only [List.length_nil]; omega
theorem fin_hsl (sn : Nat) (sf : Nat → Int32) (w : St) : hsl 7 (KL sn sf w) - hsl 7 (H0 sn sf) ≤ 704 := by
  have q : (al.map fun q => Ln q.1).sum = 304 := by decide +kernel
  have z : hsl 7 [] = 0 := rfl
  unfold KL; rw [hsl_KH, q, z]; omega
set_option maxRecDepth 100000 in
theorem comes_1 (plain : ∀ (sn : Nat) (sf : Nat → Int32), sn ≤ 260 → ∃ n w, f_law n sn sf = some (1, w)) {Post : Tables → Env → Array Value → State → Outcome → State → Prop} (hpost : ∀ tb e args s v u, (limb_1_1.after args s (.returned v) u = true ∧ limb_1_2.after args s (.returned v) u = true ∧ True) → FrameEnd s (.returned v) u (Jvm.fieldLocs frame_1_writes args s ++ Jvm.arrayLocs frame_1_arrays args s ++ Jvm.staticLocs frame_1_statics s) 24 704 → Post tb e args s (.returned v) u) :
    ArmFor flags0 classFile x code maxLocals ret World_1 tables_1 room_1 Calls_1 rest_1 Pre_1 Post := by
  intro l hfl _ _ p e ha hc hk s m args below hf hA hF happ hP
  obtain ⟨hcalls, hrest, hpre⟩ := hP
  obtain ⟨-, -, -, hnamed, -, -, -, hat⟩ := (Spec.applies_iff hf).mp happ
  obtain ⟨hg, hn⟩ := and_e (Cond.before_iff.mp (show (Jvm.Cond.and given_1 narrow_1).before args s = true from hpre))
  obtain ⟨g0, hg⟩ := and_e hg
  obtain ⟨w0, rfl⟩ : ∃ w0 : Value, args = #[w0] := by
    have hs : args.size = 1 := by simpa [Cond.value, given_1] using g0
    obtain ⟨L⟩ := args
    match L, hs with
    | [w0], _ => exact ⟨w0, rfl⟩
  have hw := fun d (hd : d ∈ tables_1) => atoms_spec (ws := Jvm.Cond.code x code maxLocals ret :: tables_1) hat d (List.mem_cons_of_mem _ hd)
  have hfit : Fit s := fun {y c} hc i hi => by
    obtain ⟨ha, rfl⟩ := Array.getElem?_eq_some_iff.mp hc
    have q := List.all_eq_true.mp ((Array.all_eq_true_iff_forall_mem.mp hF) _ (Array.getElem_mem ha)) i (List.mem_range.mpr hi)
    simpa [Array.getElem?_eq_getElem hi] using q
  obtain ⟨n0, n1⟩ := and_e hn
  obtain ⟨a, ea⟩ := arr_v n0
  obtain rfl : w0 = .ref a := Option.some.inj ea
  obtain ⟨cl, A⟩ := Arr.start ea n0
  obtain ⟨r0, -⟩ := and_e (Cond.before_iff.mp (show rest_1_c.before _ s = true from hrest))
  have hle := script_len A ea r0 n1
  obtain ⟨xs, hxl, hrel⟩ := script_rel (l := l) (args := #[.ref a]) (C := "MeshAllocatorX") (F := flds) (k := 7) hfit A
  obtain ⟨n, w, hr⟩ := plain xs.length (fun i => xs.getD i 0) (by rw [hxl]; exact hle)
  have hE := e_law (g := (s, #[.ref a], l, some a, s.heap.size)) hw (Nat.le_refl _) hr
  obtain ⟨n, o, h1, h2, h3, _, L, rfl, ⟨rfl, N, -⟩, hq⟩ := hE.2 tables_1 room_1 s.heap (by decide) (by decide) (fin_len _ _ w) (fin_hsl _ _ w) hrel p e ha hc hk s m _ below hf ((Spec.applies_iff_loose hf).mp happ).1 ⟨rfl, State.Warmed39.refl s, rfl⟩ trivial
  exact ⟨n, _, h1, h2, h3, hpost _ _ _ _ _ _ ⟨Cond.after_iff.mpr rfl, Cond.after_iff.mpr (eq_i res_at (Term.int_eval (1)) rfl), trivial⟩ ⟨hq.1, hq.2.1, (hq.2.2.sift fun y hy => Or.inr (N y hy)).mono (fin_len _ _ w) (fin_hsl _ _ w)⟩⟩
theorem u_ctor_76 (n : Nat) (k : Nat) (x4 : Int32) (s : St) : f_ctor_76 n (k + 1) x4 s =
    (if x4 < (16 : Int32) then
      grd (inb x4 16) <|
      bnd (setA s 0 (ix x4) (-1 : Int32)) fun s3 =>
      bnd (setA s3 1 (ix x4) (-1 : Int32)) fun s4 =>
      bnd (setA s4 2 (ix x4) (0 : Int32)) fun s5 =>
      f_ctor_76 n k (x4 + (1 : Int32)) s5
    else
      some s) := rfl
theorem u_pagesInUse_4 (n : Nat) (s : St) (k : Nat) (x1 : Int32) (x2 : Int32) : f_pagesInUse_4 n s (k + 1) x1 x2 =
    (if x2 < (s.1 4) then
      grd (inb x2 16) <|
      if (s.2 0 (ix x2)) = (-1 : Int32) then
        f_pagesInUse_4 n s k x1 (x2 + (1 : Int32))
      else
        f_pagesInUse_4 n s k (x1 + (1 : Int32)) (x2 + (1 : Int32))
    else
      some x1) := rfl
theorem u_unionOf_4 (n : Nat) (s : St) (k : Nat) (x1 : Int32) (x2 : Int32) (x3 : Int32) : f_unionOf_4 n s (k + 1) x1 x2 x3 =
    (if x3 < (s.1 4) then
      grd (inb x3 16) <|
      if (s.2 0 (ix x3)) = (-1 : Int32) then
        f_unionOf_4 n s k x1 x2 (x3 + (1 : Int32))
      else
        if (s.2 1 (ix x3)) = x1 then
          f_unionOf_4 n s k x1 (x2 ||| (s.2 2 (ix x3))) (x3 + (1 : Int32))
        else
          f_unionOf_4 n s k x1 x2 (x3 + (1 : Int32))
    else
      some x2) := rfl
theorem u_frameClass_2 (n : Nat) (s : St) (k : Nat) (x1 : Int32) (x2 : Int32) : f_frameClass_2 n s (k + 1) x1 x2 =
    (if x2 < (s.1 4) then
      grd (inb x2 16) <|
      if (s.2 0 (ix x2)) = (-1 : Int32) then
        f_frameClass_2 n s k x1 (x2 + (1 : Int32))
      else
        if (s.2 1 (ix x2)) = x1 then
          some (s.2 0 (ix x2))
        else
          f_frameClass_2 n s k x1 (x2 + (1 : Int32))
    else
      some (-1 : Int32)) := rfl
theorem u_framesInUse_4 (n : Nat) (s : St) (k : Nat) (x1 : Int32) (x2 : Int32) : f_framesInUse_4 n s (k + 1) x1 x2 =
    (if x2 < (s.1 5) then
      (f_frameClass n s x2).bind fun q2 =>
      if q2 = (-1 : Int32) then
        f_framesInUse_4 n s k x1 (x2 + (1 : Int32))
      else
        f_framesInUse_4 n s k (x1 + (1 : Int32)) (x2 + (1 : Int32))
    else
      some x1) := rfl
theorem u_popCount_4 (n : Nat) (s : St) (k : Nat) (x1 : Int32) (x2 : Int32) (x3 : Int32) : f_popCount_4 n s (k + 1) x1 x2 x3 =
    (if x3 < (32 : Int32) then
      if ((XT.ushr x1 x3) &&& (1 : Int32)) = 0 then
        f_popCount_4 n s k x1 x2 (x3 + (1 : Int32))
      else
        f_popCount_4 n s k x1 (x2 + (1 : Int32)) (x3 + (1 : Int32))
    else
      some x2) := rfl
theorem u_hpop_4 (n : Nat) (k : Nat) (x0 : Int32) (x1 : Int32) (x2 : Int32) : f_hpop_4 n (k + 1) x0 x1 x2 =
    (if x2 < (32 : Int32) then
      if ((XT.ushr x0 x2) &&& (1 : Int32)) = 0 then
        f_hpop_4 n k x0 x1 (x2 + (1 : Int32))
      else
        f_hpop_4 n k x0 (x1 + (1 : Int32)) (x2 + (1 : Int32))
    else
      some x1) := rfl
theorem u_liveObjects_4 (n : Nat) (s : St) (k : Nat) (x1 : Int32) (x2 : Int32) : f_liveObjects_4 n s (k + 1) x1 x2 =
    (if x2 < (s.1 4) then
      grd (inb x2 16) <|
      if (s.2 0 (ix x2)) = (-1 : Int32) then
        f_liveObjects_4 n s k x1 (x2 + (1 : Int32))
      else
        (f_popCount n s (s.2 2 (ix x2))).bind fun q4 =>
        f_liveObjects_4 n s k (x1 + q4) (x2 + (1 : Int32))
    else
      some x1) := rfl
theorem u_hconsistent_130 (n : Nat) (s : St) (k19 : Int32 → Int32 → Int32 → Int32 → Int32 → Int32 → Option (Int32)) (k : Nat) (x1 : Int32) (x2 : Int32) (x3 : Int32) (x4 : Int32) (x5 : Int32) (x6 : Int32) (x7 : Int32) (x8 : Int32) (x9 : Int32) (x10 : Int32) : f_hconsistent_130 n s k19 (k + 1) x1 x2 x3 x4 x5 x6 x7 x8 x9 x10 =
    (if x10 < x1 then
      (f_frameOf s x10).bind fun q2 =>
      if q2 = x8 then
        (f_pageClass s x10).bind fun q5 =>
        if q5 = x7 then
          (f_pageBits s x10).bind fun q8 =>
          if (x9 &&& q8) = 0 then
            f_hconsistent_130 n s k19 k x1 x2 x3 x4 x5 x6 x7 x8 x9 (x10 + (1 : Int32))
          else
            some (0 : Int32)
        else
          some (0 : Int32)
      else
        f_hconsistent_130 n s k19 k x1 x2 x3 x4 x5 x6 x7 x8 x9 (x10 + (1 : Int32))
    else
      k19 x1 x2 x3 x4 x5 (x6 + (1 : Int32))) := rfl
theorem u_hconsistent_219 (n : Nat) (s : St) (k207 : Int32 → Int32 → Int32 → Int32 → Option (Int32)) (k : Nat) (x1 : Int32) (x2 : Int32) (x6 : Int32) (x7 : Int32) (x8 : Int32) (x9 : Int32) : f_hconsistent_219 n s k207 (k + 1) x1 x2 x6 x7 x8 x9 =
    (if x9 < x1 then
      (f_frameOf s x9).bind fun q2 =>
      if q2 = x7 then
        (f_pageBits s x9).bind fun q5 =>
        f_hconsistent_219 n s k207 k x1 x2 x6 x7 (x8 ||| q5) (x9 + (1 : Int32))
      else
        f_hconsistent_219 n s k207 k x1 x2 x6 x7 x8 (x9 + (1 : Int32))
    else
      (f_frameBits n s x7).bind fun q7 =>
      if q7 = x8 then
        if x8 = 0 then
          k207 x1 x2 x6 (x7 + (1 : Int32))
        else
          k207 x1 x2 (x6 + (1 : Int32)) (x7 + (1 : Int32))
      else
        some (0 : Int32)) := rfl
theorem u_hconsistent_294 (n : Nat) (s : St) (k : Nat) (x1 : Int32) (x7 : Int32) : f_hconsistent_294 n s (k + 1) x1 x7 =
    (if x7 < (x1 * (16 : Int32)) then
      (f_pageClass s (x7 / (16 : Int32))).bind fun q2 =>
      if q2 < 0 then
        f_hconsistent_351 n s (f_hconsistent_294 n s k) x1 x7 (0 : Int32)
      else
        (f_pageBits s (x7 / (16 : Int32))).bind fun q5 =>
        (f_hsize q2).bind fun q7 =>
        grd (q7 ≠ 0) <|
        if ((XT.ushr q5 ((x7 % (16 : Int32)) / q7)) &&& (1 : Int32)) = 0 then
          f_hconsistent_351 n s (f_hconsistent_294 n s k) x1 x7 (0 : Int32)
        else
          f_hconsistent_351 n s (f_hconsistent_294 n s k) x1 x7 (1 : Int32)
    else
      some (1 : Int32)) := rfl
theorem u_hconsistent_207 (n : Nat) (s : St) (k : Nat) (x1 : Int32) (x2 : Int32) (x6 : Int32) (x7 : Int32) : f_hconsistent_207 n s (k + 1) x1 x2 x6 x7 =
    (if x7 < x2 then
      f_hconsistent_219 n s (f_hconsistent_207 n s k) n x1 x2 x6 x7 (0 : Int32) (0 : Int32)
    else
      (f_framesInUse n s).bind fun q2 =>
      if x6 = q2 then
        f_hconsistent_294 n s n x1 (0 : Int32)
      else
        some (0 : Int32)) := rfl
theorem u_hconsistent_19 (n : Nat) (s : St) (k : Nat) (x1 : Int32) (x2 : Int32) (x3 : Int32) (x4 : Int32) (x5 : Int32) (x6 : Int32) : f_hconsistent_19 n s (k + 1) x1 x2 x3 x4 x5 x6 =
    (if x6 < x1 then
      (f_pageClass s x6).bind fun q2 =>
      (f_frameOf s x6).bind fun q4 =>
      (f_pageBits s x6).bind fun q6 =>
      if q2 = (-1 : Int32) then
        if q4 = (-1 : Int32) then
          if q6 = 0 then
            f_hconsistent_19 n s k x1 x2 x3 x4 x5 (x6 + (1 : Int32))
          else
            some (0 : Int32)
        else
          some (0 : Int32)
      else
        if q2 < 0 then
          some (0 : Int32)
        else
          if (2 : Int32) < q2 then
            some (0 : Int32)
          else
            if q4 < 0 then
              some (0 : Int32)
            else
              if q4 < x2 then
                if q6 = 0 then
                  some (0 : Int32)
                else
                  (f_hsize q2).bind fun q16 =>
                  grd (q16 ≠ 0) <|
                  if (XT.ushr q6 ((16 : Int32) / q16)) = 0 then
                    (f_hpop n q6).bind fun q20 =>
                    f_hconsistent_130 n s (f_hconsistent_19 n s k) n x1 x2 x3 (x4 + q20) (x5 + (1 : Int32)) x6 q2 q4 q6 (x6 + (1 : Int32))
                  else
                    some (0 : Int32)
              else
                some (0 : Int32)
    else
      (f_pagesInUse n s).bind fun q22 =>
      if x5 = q22 then
        if x4 = x3 then
          f_hconsistent_207 n s n x1 x2 (0 : Int32) (0 : Int32)
        else
          some (0 : Int32)
      else
        some (0 : Int32)) := rfl
theorem u_countClear_5 (n : Nat) (s : St) (k : Nat) (x1 : Int32) (x2 : Int32) (x3 : Int32) (x4 : Int32) : f_countClear_5 n s (k + 1) x1 x2 x3 x4 =
    (if x4 < x2 then
      if ((XT.ushr x1 x4) &&& (1 : Int32)) = 0 then
        f_countClear_5 n s k x1 x2 (x3 + (1 : Int32)) (x4 + (1 : Int32))
      else
        f_countClear_5 n s k x1 x2 x3 (x4 + (1 : Int32))
    else
      some x3) := rfl
theorem u_nthClear_6 (n : Nat) (s : St) (k : Nat) (x1 : Int32) (x2 : Int32) (x4 : Int32) (x5 : Int32) : f_nthClear_6 n s (k + 1) x1 x2 x4 x5 =
    (if x5 < x2 then
      if ((XT.ushr x1 x5) &&& (1 : Int32)) = 0 then
        if x4 = 0 then
          some x5
        else
          f_nthClear_6 n s k x1 x2 (x4 + (-1 : Int32)) (x5 + (1 : Int32))
      else
        f_nthClear_6 n s k x1 x2 x4 (x5 + (1 : Int32))
    else
      some (0 : Int32)) := rfl
theorem u_placeObject_96 (n : Nat) (k : Nat) (x1 : Int32) (x4 : Int32) (x9 : Int32) (x10 : Int32) (x11 : Int32) (s : St) : f_placeObject_96 n (k + 1) x1 x4 x9 x10 x11 s =
    (if x11 < x4 then
      if (x10 + x11) < 0 then
        f_placeObject_96 n k x1 x4 x9 x10 (x11 + (1 : Int32)) s
      else
        if (x10 + x11) < (256 : Int32) then
          grd (inb (x10 + x11) 256) <|
          bnd (setA s 3 (ix (x10 + x11)) (0 : Int32)) fun s5 =>
          f_placeObject_96 n k x1 x4 x9 x10 (x11 + (1 : Int32)) s5
        else
          f_placeObject_96 n k x1 x4 x9 x10 (x11 + (1 : Int32)) s
    else
      some (((x1 * (16 : Int32)) + (x9 * x4)), s)) := rfl
theorem u_findEligible_8 (n : Nat) (s : St) (k : Nat) (x1 : Int32) (x2 : Int32) (x3 : Int32) : f_findEligible_8 n s (k + 1) x1 x2 x3 =
    (if x3 < (s.1 4) then
      grd (inb x3 16) <|
      if (s.2 0 (ix x3)) = x1 then
        (f_unionOf n s (s.2 1 (ix x3))).bind fun q4 =>
        (f_countClear n s q4 x2).bind fun q6 =>
        if 0 < q6 then
          some x3
        else
          f_findEligible_8 n s k x1 x2 (x3 + (1 : Int32))
      else
        f_findEligible_8 n s k x1 x2 (x3 + (1 : Int32))
    else
      some (-1 : Int32)) := rfl
theorem u_lowestUnusedPage_2 (n : Nat) (s : St) (k : Nat) (x1 : Int32) : f_lowestUnusedPage_2 n s (k + 1) x1 =
    (if x1 < (s.1 4) then
      grd (inb x1 16) <|
      if (s.2 0 (ix x1)) = (-1 : Int32) then
        some x1
      else
        f_lowestUnusedPage_2 n s k (x1 + (1 : Int32))
    else
      some (-1 : Int32)) := rfl
theorem u_lowestFreeFrame_2 (n : Nat) (s : St) (k : Nat) (x1 : Int32) : f_lowestFreeFrame_2 n s (k + 1) x1 =
    (if x1 < (s.1 5) then
      (f_frameClass n s x1).bind fun q2 =>
      if q2 = (-1 : Int32) then
        some x1
      else
        f_lowestFreeFrame_2 n s k (x1 + (1 : Int32))
    else
      some (-1 : Int32)) := rfl
theorem u_mergeFrames_37 (n : Nat) (k17 : Int32 → Int32 → Int32 → Int32 → Int32 → Int32 → St → Option (St)) (k : Nat) (x1 : Int32) (x2 : Int32) (x4 : Int32) (x5 : Int32) (x6 : Int32) (x7 : Int32) (x8 : Int32) (s : St) : f_mergeFrames_37 n k17 (k + 1) x1 x2 x4 x5 x6 x7 x8 s =
    (if x8 < x6 then
      grd (inb ((x2 * (16 : Int32)) + ((x7 * x6) + x8)) 256) <|
      grd (inb ((x1 * (16 : Int32)) + ((x7 * x6) + x8)) 256) <|
      bnd (setA s 3 (ix ((x1 * (16 : Int32)) + ((x7 * x6) + x8))) (s.2 3 (ix ((x2 * (16 : Int32)) + ((x7 * x6) + x8))))) fun s4 =>
      f_mergeFrames_37 n k17 k x1 x2 x4 x5 x6 x7 (x8 + (1 : Int32)) s4
    else
      k17 x1 x2 x4 x5 x6 (x7 + (1 : Int32)) s) := rfl
theorem u_mergeFrames_17 (n : Nat) (k : Nat) (x1 : Int32) (x2 : Int32) (x4 : Int32) (x5 : Int32) (x6 : Int32) (x7 : Int32) (s : St) : f_mergeFrames_17 n (k + 1) x1 x2 x4 x5 x6 x7 s =
    (if x7 < x5 then
      if ((XT.ushr x4 x7) &&& (1 : Int32)) = 0 then
        f_mergeFrames_17 n k x1 x2 x4 x5 x6 (x7 + (1 : Int32)) s
      else
        f_mergeFrames_37 n (f_mergeFrames_17 n k) n x1 x2 x4 x5 x6 x7 (0 : Int32) s
    else
      f_mergeFrames_93 n n x1 x2 (0 : Int32) s) := rfl
theorem u_mergeFrames_93 (n : Nat) (k : Nat) (x1 : Int32) (x2 : Int32) (x7 : Int32) (s : St) : f_mergeFrames_93 n (k + 1) x1 x2 x7 s =
    (if x7 < (s.1 4) then
      grd (inb x7 16) <|
      if (s.2 0 (ix x7)) = (-1 : Int32) then
        f_mergeFrames_93 n k x1 x2 (x7 + (1 : Int32)) s
      else
        if (s.2 1 (ix x7)) = x2 then
          bnd (setA s 1 (ix x7) x1) fun s5 =>
          f_mergeFrames_93 n k x1 x2 (x7 + (1 : Int32)) s5
        else
          f_mergeFrames_93 n k x1 x2 (x7 + (1 : Int32)) s
    else
      some s) := rfl
theorem u_meshInto_7 (n : Nat) (k : Nat) (x1 : Int32) (x2 : Int32) (x3 : Int32) (x4 : Int32) (s : St) : f_meshInto_7 n (k + 1) x1 x2 x3 x4 s =
    (if x4 < (s.1 5) then
      (f_frameClass n s x4).bind fun q2 =>
      if q2 = x2 then
        (f_unionOf n s x1).bind fun q5 =>
        (f_unionOf n s x4).bind fun q7 =>
        if (q5 &&& q7) = 0 then
          (f_mergeFrames n x1 x4 x2 q7 s).bind fun q10 =>
          f_meshInto_7 n k x1 x2 (x3 + (1 : Int32)) (x4 + (1 : Int32)) q10
        else
          f_meshInto_7 n k x1 x2 x3 (x4 + (1 : Int32)) s
      else
        f_meshInto_7 n k x1 x2 x3 (x4 + (1 : Int32)) s
    else
      some (x3, s)) := rfl
theorem u_mesh_11 (n : Nat) (k4 : Int32 → Int32 → St → Option (Int32 × St)) (k : Nat) (x1 : Int32) (x2 : Int32) (x3 : Int32) (s : St) : f_mesh_11 n k4 (k + 1) x1 x2 x3 s =
    (if x3 < (s.1 5) then
      (f_frameClass n s x3).bind fun q2 =>
      if q2 = x2 then
        (f_meshInto n x3 x2 s).bind fun q5 =>
        f_mesh_11 n k4 k (x1 + q5.1) x2 (x3 + (1 : Int32)) q5.2
      else
        f_mesh_11 n k4 k x1 x2 (x3 + (1 : Int32)) s
    else
      k4 x1 (x2 + (1 : Int32)) s) := rfl
theorem u_mesh_4 (n : Nat) (k : Nat) (x1 : Int32) (x2 : Int32) (s : St) : f_mesh_4 n (k + 1) x1 x2 s =
    (if (2 : Int32) < x2 then
      some (x1, s)
    else
      f_mesh_11 n (f_mesh_4 n k) n x1 x2 (0 : Int32) s) := rfl
theorem u_law_186 (n : Nat) (sn : Nat) (sf : Nat → Int32) (k65 : Int32 → Int32 → Int32 → Int32 → Int32 → St → Option (Int32 × St)) (k : Nat) (x1 : Int32) (x2 : Int32) (x4 : Int32) (x5 : Int32) (x6 : Int32) (x11 : Int32) (x12 : Int32) (x13 : Int32) (s : St) : f_law_186 n sn sf k65 (k + 1) x1 x2 x4 x5 x6 x11 x12 x13 s =
    (if x13 < x12 then
      (f_isLive s (x11 + x13)).bind fun q2 =>
      if q2 = 0 then
        some ((0 : Int32), s)
      else
        (f_read s (x11 + x13)).bind fun q5 =>
        if q5 = 0 then
          (f_htag (x11 + x13)).bind fun q8 =>
          (f_write (x11 + x13) q8 s).bind fun q10 =>
          if q10.1 = 0 then
            some ((0 : Int32), q10.2)
          else
            f_law_186 n sn sf k65 k x1 x2 x4 x5 x6 x11 x12 (x13 + (1 : Int32)) q10.2
        else
          some ((0 : Int32), s)
    else
      f_law_642 n sn sf k65 x1 x2 x4 (x5 + (1 : Int32)) x6 s) := rfl
theorem u_law_346 (n : Nat) (sn : Nat) (sf : Nat → Int32) (k65 : Int32 → Int32 → Int32 → Int32 → Int32 → St → Option (Int32 × St)) (k : Nat) (x1 : Int32) (x2 : Int32) (x4 : Int32) (x5 : Int32) (x6 : Int32) (x9 : Int32) (x10 : Int32) (x11 : Int32) (x12 : Int32) (s : St) : f_law_346 n sn sf k65 (k + 1) x1 x2 x4 x5 x6 x9 x10 x11 x12 s =
    (if x12 < x4 then
      if x10 < 0 then
        (f_pageClass s (x12 / (16 : Int32))).bind fun q3 =>
        if q3 < 0 then
          f_law_346 n sn sf k65 k x1 x2 x4 x5 x6 x9 x10 x11 (x12 + (1 : Int32)) s
        else
          (f_hsize q3).bind fun q6 =>
          grd (q6 ≠ 0) <|
          if ((x12 % (16 : Int32)) % q6) = 0 then
            (f_isLive s x12).bind fun q10 =>
            if q10 = 0 then
              f_law_346 n sn sf k65 k x1 x2 x4 x5 x6 x9 x10 x11 (x12 + (1 : Int32)) s
            else
              if x11 = x9 then
                f_law_346 n sn sf k65 k x1 x2 x4 x5 x6 x9 x12 (x11 + (1 : Int32)) (x12 + (1 : Int32)) s
              else
                f_law_346 n sn sf k65 k x1 x2 x4 x5 x6 x9 x10 (x11 + (1 : Int32)) (x12 + (1 : Int32)) s
          else
            f_law_346 n sn sf k65 k x1 x2 x4 x5 x6 x9 x10 x11 (x12 + (1 : Int32)) s
      else
        f_law_417 n sn sf k65 x1 x2 x4 x5 x6 x10 s
    else
      f_law_417 n sn sf k65 x1 x2 x4 x5 x6 x10 s) := rfl
theorem u_law_65 (n : Nat) (sn : Nat) (sf : Nat → Int32) (k : Nat) (x1 : Int32) (x2 : Int32) (x4 : Int32) (x5 : Int32) (x6 : Int32) (s : St) : f_law_65 n sn sf (k + 1) x1 x2 x4 x5 x6 s =
    (if x6 < sn.toInt32 then
      grd (inb x6 sn) <|
      (f_hcell sn sf (x6 + (1 : Int32))).bind fun q3 =>
      if (3 : Int32) < ((sf (ix x6)) &&& (7 : Int32)) then
        if ((sf (ix x6)) &&& (7 : Int32)) = (4 : Int32) then
          if 0 < x5 then
            (f_hmod q3 x5).bind fun q8 =>
            f_law_346 n sn sf (f_law_65 n sn sf k) n x1 x2 x4 x5 x6 q8 (-1 : Int32) (0 : Int32) (0 : Int32) s
          else
            f_law_642 n sn sf (f_law_65 n sn sf k) x1 x2 x4 x5 x6 s
        else
          if ((sf (ix x6)) &&& (7 : Int32)) = (5 : Int32) then
            (f_hmod q3 x4).bind fun q11 =>
            (f_isLive s q11).bind fun q13 =>
            (f_pageClass s (q11 / (16 : Int32))).bind fun q15 =>
            if q13 = 0 then
              f_law_510 n sn sf (f_law_65 n sn sf k) x1 x2 x4 x5 x6 q11 (0 : Int32) s
            else
              (f_hsize q15).bind fun q18 =>
              grd (q18 ≠ 0) <|
              if ((q11 % (16 : Int32)) % q18) = 0 then
                f_law_510 n sn sf (f_law_65 n sn sf k) x1 x2 x4 x5 x6 q11 (1 : Int32) s
              else
                f_law_510 n sn sf (f_law_65 n sn sf k) x1 x2 x4 x5 x6 q11 (0 : Int32) s
          else
            if ((sf (ix x6)) &&& (7 : Int32)) = (6 : Int32) then
              (f_framesInUse n s).bind fun q23 =>
              (f_rngState s).bind fun q25 =>
              (f_mesh n s).bind fun q27 =>
              if q27.1 < 0 then
                some ((0 : Int32), q27.2)
              else
                (f_framesInUse n q27.2).bind fun q30 =>
                if q30 = (q23 - q27.1) then
                  (f_rngState q27.2).bind fun q33 =>
                  if q33 = q25 then
                    f_law_642 n sn sf (f_law_65 n sn sf k) x1 x2 x4 x5 x6 q27.2
                  else
                    some ((0 : Int32), q27.2)
                else
                  some ((0 : Int32), q27.2)
            else
              (f_hmod q3 x4).bind fun q36 =>
              (f_isLive s q36).bind fun q38 =>
              (f_htag q36).bind fun q40 =>
              (f_write q36 q40 s).bind fun q42 =>
              if q42.1 = q38 then
                f_law_642 n sn sf (f_law_65 n sn sf k) x1 x2 x4 x5 x6 q42.2
              else
                some ((0 : Int32), q42.2)
      else
        (f_hmod q3 (3 : Int32)).bind fun q45 =>
        (f_rngState s).bind fun q47 =>
        (f_alloc n q45 s).bind fun q49 =>
        if q49.1 < 0 then
          if q49.1 = (-2 : Int32) then
            f_law_269 n sn sf (f_law_65 n sn sf k) x1 x2 x4 x5 x6 q47 q49.1 q49.2
          else
            if q49.1 = (-3 : Int32) then
              f_law_269 n sn sf (f_law_65 n sn sf k) x1 x2 x4 x5 x6 q47 q49.1 q49.2
            else
              some ((0 : Int32), q49.2)
        else
          (f_hsize q45).bind fun q54 =>
          if q49.1 < x4 then
            grd (q54 ≠ 0) <|
            if ((q49.1 % (16 : Int32)) % q54) = 0 then
              (f_pageClass q49.2 (q49.1 / (16 : Int32))).bind fun q59 =>
              if q59 = q45 then
                (f_rngState q49.2).bind fun q62 =>
                if q62 = ((q47 * (1103515245 : Int32)) + (12345 : Int32)) then
                  f_law_186 n sn sf (f_law_65 n sn sf k) n x1 x2 x4 x5 x6 q49.1 q54 (0 : Int32) q49.2
                else
                  some ((0 : Int32), q49.2)
              else
                some ((0 : Int32), q49.2)
            else
              some ((0 : Int32), q49.2)
          else
            some ((0 : Int32), q49.2)
    else
      some ((1 : Int32), s)) := rfl
/-! ### the plain law -/
theorem own_clamp (s : St) (a lo hi : Int32) : f_clamp s a lo hi = some (own_cl a lo hi) := by
  unfold f_clamp own_cl
  split
  · rfl
  · split <;> rfl
theorem own_fill (n : Nat) : ∀ (m k : Nat) (s : St), m ≤ 16 → m < k → f_ctor_76 n k (Int32.ofNat (16 - m)) s = some (s.1, fun j x => if (j = 0 ∨ j = 1) ∧ 16 - m ≤ x ∧ x < 16 then -1 else if j = 2 ∧ 16 - m ≤ x ∧ x < 16 then 0 else s.2 j x) := by
  intro m
  induction m with
  | zero =>
    intro k s _ hk
    obtain ⟨k, rfl⟩ : ∃ k', k = k' + 1 := ⟨k - 1, by omega⟩
    rw [u_ctor_76]
    have h : ¬ (Int32.ofNat (16 - 0) < (16 : Int32)) := by decide
    rw [if_neg h]
    congr 1
    refine Prod.ext rfl ?_
    funext j x
    have q1 : ¬ ((j = 0 ∨ j = 1) ∧ 16 - 0 ≤ x ∧ x < 16) := by omega
    have q2 : ¬ (j = 2 ∧ 16 - 0 ≤ x ∧ x < 16) := by omega
    simp only [q1, q2, if_false]
  | succ m ih =>
    intro k s hm hk
    obtain ⟨k, rfl⟩ : ∃ k', k = k' + 1 := ⟨k - 1, by omega⟩
    rw [u_ctor_76]
    have h : Int32.ofNat (16 - (m + 1)) < (16 : Int32) := (N_lt (j := 16) (by omega) (by omega)).mpr (by omega)
    have hb : inb (Int32.ofNat (16 - (m + 1))) 16 := (inb_N (by omega)).mpr (by omega)
    have e : Int32.ofNat (16 - (m + 1)) + (1 : Int32) = Int32.ofNat (16 - m) := by rw [N_succ]; congr 1; omega
    rw [if_pos h, grd_pos hb, bnd_eq, bnd_eq, bnd_eq, e, ih _ _ (by omega) (by omega), ix_N (by omega)]
    congr 1
    refine Prod.ext rfl ?_
    funext j x
    simp only [setA_2]
    by_cases q : x = 16 - (m + 1)
    · have a1 : ¬ 16 - m ≤ x := by omega
      have a2 : 16 - (m + 1) ≤ x := by omega
      have a3 : x < 16 := by omega
      by_cases q0 : j = 0
      · simp [q, q0] ; omega
      · by_cases q1 : j = 1
        · simp [q, q1]; omega
        · by_cases q2 : j = 2
          · simp [q, q2]; omega
          · simp [q0, q1, q2]
    · have : (16 - m ≤ x ↔ 16 - (m + 1) ≤ x) := by omega
      simp only [q, this, and_false, if_false]
/-- a fresh allocator: its pages, frames and seed within their bounds, no page in use -/
theorem own_ctor (n : Nat) (a b c : Int32) (hn : 17 ≤ n) : ∃ s, f_ctor n a b c = some s ∧ s.1 4 = own_cl a 2 16 ∧ s.1 5 = own_cl b 1 16 ∧ s.1 6 = own_cl c 0 65535 ∧ ∀ i, i < 16 → s.2 0 i = -1 := by
  unfold f_ctor f_ctor_37
  simp only [own_clamp, Option.bind_some, bnd_eq]
  rw [show (0 : Int32) = Int32.ofNat (16 - 16) from rfl, own_fill n 16 n _ (Nat.le_refl _) (by omega)]
  refine ⟨_, rfl, rfl, rfl, rfl, fun i hi => ?_⟩
  simp [hi]
theorem own_pages (s : St) (a : Int32) (h : s.1 4 = own_cl a 2 16) : ∃ N : Nat, s.1 4 = Int32.ofNat N ∧ 2 ≤ N ∧ N ≤ 16 := by
  have q := own_cl_rng (a := a) (lo := 2) (hi := 16) (by decide)
  have e2 : (2 : Int32).toInt = 2 := rfl
  have e16 : (16 : Int32).toInt = 16 := rfl
  refine ⟨(s.1 4).toInt.toNat, ?_, ?_, ?_⟩
  · rw [← Int32.toInt_inj, N_toInt (by rw [h]; omega), h]; omega
  · rw [h]; omega
  · rw [h]; omega
theorem div16 {a : Int32} {N : Nat} (hN : N ≤ 16) (h0 : ¬ a < 0) (h1 : a < Int32.ofNat N * 16) : ix (a / 16) < N ∧ ¬ (a / 16) < 0 ∧ (a / 16).toInt = a.toInt / 16 := by
  have e16 : (16 : Int32).toInt = 16 := rfl
  have e0 : (0 : Int32).toInt = 0 := rfl
  rw [lt_I] at h0 h1
  have em : (Int32.ofNat N * 16).toInt = N * 16 := by
    rw [mul_I] <;> rw [N_toInt (by omega), e16] <;> omega
  rw [em] at h1
  have ed : (a / 16).toInt = a.toInt / 16 := by
    rw [Int32.toInt_div, e16, Int.tdiv_eq_ediv_of_nonneg (by omega)]
    exact bmod_eq (by omega) (by omega)
  have hq : ¬ (a / 16) < 0 := by rw [lt_I, ed]; omega
  refine ⟨?_, hq, ed⟩
  have := ix_toInt hq
  omega
theorem own_page (a : Int32) (s : St) (hN : ∃ N : Nat, s.1 4 = Int32.ofNat N ∧ 2 ≤ N ∧ N ≤ 16) (h0 : ¬ a < 0) (h1 : a < s.1 4 * 16) : inb (a / 16) 16 ∧ ix (a / 16) < 16 := by
  obtain ⟨N, e, l1, l2⟩ := hN
  rw [e] at h1
  obtain ⟨q1, q2, -⟩ := div16 l2 h0 h1
  exact ⟨⟨q2, by omega⟩, by omega⟩
theorem own_liveIndex (s : St) (a : Int32) (hN : ∃ N : Nat, s.1 4 = Int32.ofNat N ∧ 2 ≤ N ∧ N ≤ 16) (h4 : ∀ i, i < 16 → s.2 0 i = -1) : f_liveIndex s a = some (-1) := by
  unfold f_liveIndex
  by_cases q : a < 0
  · simp [q]
  · by_cases q2 : a < s.1 4 * 16
    · obtain ⟨hb, hlt⟩ := own_page a s hN q q2
      simp [q, q2, grd_pos hb, h4 _ hlt]
    · simp [q, q2]
theorem own_noPages (s : St) (N n : Nat) (k : Nat) (e : s.1 4 = Int32.ofNat N) (hN : N ≤ 16) (hk : N < k) (h4 : ∀ i, i < 16 → s.2 0 i = -1) : f_pagesInUse_4 n s k 0 0 = some 0 := by
  have : ∀ (m k : Nat), m ≤ N → m < k → f_pagesInUse_4 n s k 0 (Int32.ofNat (N - m)) = some 0 := by
    intro m
    induction m with
    | zero =>
      intro k _ hk
      obtain ⟨k, rfl⟩ : ∃ k', k = k' + 1 := ⟨k - 1, by omega⟩
      rw [u_pagesInUse_4, e, if_neg (fun q => by rw [N_lt (by omega) (by omega)] at q; omega)]
    | succ m ih =>
      intro k hm hk
      obtain ⟨k, rfl⟩ : ∃ k', k = k' + 1 := ⟨k - 1, by omega⟩
      rw [u_pagesInUse_4, e, if_pos ((N_lt (by omega) (by omega)).mpr (by omega)), grd_pos ((inb_N (by omega)).mpr (by omega)), ix_N (by omega), h4 _ (by omega), if_pos rfl, N_succ, show N - (m + 1) + 1 = N - m by omega]
      exact ih k (by omega) (by omega)
  have := this N k (Nat.le_refl _) hk
  rwa [Nat.sub_self] at this

/-! ### bits -/
theorem own_or {a b : Nat} (ha : a < 65536) (hb : b < 65536) : Int32.ofNat a ||| Int32.ofNat b = Int32.ofNat (a ||| b) := by
  have h : a ||| b < 2 ^ 16 := Nat.or_lt_two_pow ha hb
  apply Int32.toBitVec_inj.mp
  apply BitVec.eq_of_toNat_eq
  rw [Int32.toBitVec_or, BitVec.toNat_or]
  show (BitVec.ofNat 32 a).toNat ||| (BitVec.ofNat 32 b).toNat = (BitVec.ofNat 32 (a ||| b)).toNat
  rw [BitVec.toNat_ofNat, BitVec.toNat_ofNat, BitVec.toNat_ofNat, Nat.mod_eq_of_lt (by omega : a < 2 ^ 32), Nat.mod_eq_of_lt (by omega : b < 2 ^ 32), Nat.mod_eq_of_lt (by omega : a ||| b < 2 ^ 32)]
theorem own_an {a b : Nat} (ha : a < 65536) (hb : b < 4294967296) : Int32.ofNat a &&& Int32.ofNat b = Int32.ofNat (a &&& b) := by
  have h : a &&& b ≤ a := Nat.and_le_left
  apply Int32.toBitVec_inj.mp
  apply BitVec.eq_of_toNat_eq
  rw [Int32.toBitVec_and, BitVec.toNat_and]
  show (BitVec.ofNat 32 a).toNat &&& (BitVec.ofNat 32 b).toNat = (BitVec.ofNat 32 (a &&& b)).toNat
  rw [BitVec.toNat_ofNat, BitVec.toNat_ofNat, BitVec.toNat_ofNat, Nat.mod_eq_of_lt (by omega : a < 2 ^ 32), Nat.mod_eq_of_lt (by omega : b < 2 ^ 32), Nat.mod_eq_of_lt (by omega : a &&& b < 2 ^ 32)]
theorem own_sh16 : ∀ i : Fin 16, (1 : Int32) <<< (Int32.ofNat i.val &&& 31) = Int32.ofNat (2 ^ i.val) := by decide
theorem own_shl {i : Nat} (h : i < 16) : (1 : Int32) <<< (Int32.ofNat i &&& 31) = Int32.ofNat (2 ^ i) := own_sh16 ⟨i, h⟩
theorem own_cl16 : ∀ i : Fin 16, Int32.ofNat (2 ^ i.val) ^^^ (-1) = Int32.ofNat (4294967295 ^^^ 2 ^ i.val) := by decide
theorem own_us0 (x y : Int32) : (XT.ushr x y).toBitVec.toNat = x.toBitVec.toNat >>> ((y &&& 31).toBitVec.toNat % 32) := rfl
theorem own_us {a i : Nat} (ha : a < 65536) (hi : i < 32) : XT.ushr (Int32.ofNat a) (Int32.ofNat i) = Int32.ofNat (a / 2 ^ i) := by
  have h2 : a / 2 ^ i ≤ a := Nat.div_le_self _ _
  apply Int32.toBitVec_inj.mp
  apply BitVec.eq_of_toNat_eq
  rw [own_us0, Int32.toBitVec_and, BitVec.toNat_and]
  show (BitVec.ofNat 32 a).toNat >>> (((BitVec.ofNat 32 i).toNat &&& 31) % 32) = (BitVec.ofNat 32 (a / 2 ^ i)).toNat
  generalize hq : a / 2 ^ i = q at h2 ⊢
  rw [BitVec.toNat_ofNat, BitVec.toNat_ofNat, BitVec.toNat_ofNat, Nat.mod_eq_of_lt (by omega : a < 2 ^ 32), Nat.mod_eq_of_lt (by omega : i < 2 ^ 32), Nat.mod_eq_of_lt (by omega : q < 2 ^ 32), show i &&& 31 = i % 32 from Nat.and_two_pow_sub_one_eq_mod i 5, Nat.mod_mod, Nat.mod_eq_of_lt hi, Nat.shiftRight_eq_div_pow, hq]
theorem own_tb {a i : Nat} (ha : a < 65536) (hi : i < 32) : (XT.ushr (Int32.ofNat a) (Int32.ofNat i) &&& 1 = 0) ↔ a.testBit i = false := by
  have h2 : a / 2 ^ i ≤ a := Nat.div_le_self _ _
  rw [own_us ha hi, show (1 : Int32) = Int32.ofNat 1 from rfl, own_an (by omega) (by omega), show (0 : Int32) = Int32.ofNat 0 from rfl]
  have e : a / 2 ^ i &&& 1 = a / 2 ^ i % 2 := Nat.and_two_pow_sub_one_eq_mod _ 1
  rw [e, N_inj (by omega) (by omega), Nat.testBit_eq_decide_div_mod_eq, decide_eq_false_iff_not]
  omega
theorem own_hi {a i j : Nat} (ha : a < 2 ^ i) (h : i ≤ j) : a.testBit j = false := Nat.testBit_lt_two_pow (Nat.lt_of_lt_of_le ha (Nat.pow_le_pow_right (by omega) h))
theorem own_zero {a : Nat} (h : ∀ i, a.testBit i = false) : a = 0 := Nat.eq_of_testBit_eq (fun i => by rw [h i, Nat.zero_testBit])
/-- the bits below m -/
def own_pc (a : Nat) : Nat → Nat
  | 0 => 0
  | m + 1 => own_pc a m + (if a.testBit m = true then 1 else 0)
theorem own_pcle (a : Nat) : ∀ m, own_pc a m ≤ m := by
  intro m
  induction m with
  | zero => exact Nat.le_refl 0
  | succ m ih => unfold own_pc; split <;> omega
theorem own_pcE {a b : Nat} : ∀ m, (∀ i, i < m → a.testBit i = b.testBit i) → own_pc a m = own_pc b m := by
  intro m
  induction m with
  | zero => intro _; rfl
  | succ m ih => intro h; unfold own_pc; rw [ih (fun i hi => h i (by omega)), h m (by omega)]
/-- one bit more -/
theorem own_pc1 {a b s : Nat} (hs : a.testBit s = false) (hb : ∀ i, b.testBit i = (a.testBit i || decide (i = s))) : ∀ m, own_pc b m = own_pc a m + (if s < m then 1 else 0) := by
  intro m
  induction m with
  | zero => rfl
  | succ m ih =>
    unfold own_pc
    rw [ih, hb m]
    by_cases q : m = s
    · subst q
      rw [hs, decide_eq_true rfl, Bool.or_true, if_neg (by omega), if_pos rfl, if_neg (by decide), if_pos (by omega)]
    · rw [decide_eq_false q, Bool.or_false]
      have : (s < m + 1) ↔ (s < m) := by omega
      simp only [this]
      omega
/-! ### what holds between the calls -/
def own_sl (c : Nat) : Nat := 16 / 2 ^ c
def own_k (c : Nat) : Int32 := if c = 3 then -1 else Int32.ofNat c
def own_J (P F : Nat) (c f B : Nat → Nat) (s : St) : Prop :=
  (s.1 4 = Int32.ofNat P ∧ s.1 5 = Int32.ofNat F ∧ 2 ≤ P ∧ P ≤ 9 ∧ 1 ≤ F ∧ F ≤ 8) ∧
  (∀ p, p < P → s.2 0 p = own_k (c p) ∧ s.2 2 p = Int32.ofNat (B p) ∧ c p ≤ 3 ∧ (c p = 3 → B p = 0 ∧ s.2 1 p = -1) ∧ (c p < 3 → s.2 1 p = Int32.ofNat (f p) ∧ f p < F ∧ 0 < B p ∧ B p < 2 ^ own_sl (c p))) ∧
  (∀ p q, p < P → q < P → p ≠ q → c p < 3 → c q < 3 → f p = f q → c p = c q ∧ ∀ i, ¬ ((B p).testBit i = true ∧ (B q).testBit i = true))
theorem own_sl3 {c : Nat} (h : c < 3) : (c = 0 ∧ own_sl c = 16) ∨ (c = 1 ∧ own_sl c = 8) ∨ (c = 2 ∧ own_sl c = 4) := by
  have : c = 0 ∨ c = 1 ∨ c = 2 := by omega
  rcases this with rfl | rfl | rfl <;> simp [own_sl]
theorem own_Bb {P F : Nat} {c f B : Nat → Nat} {s : St} (J : own_J P F c f B s) {p : Nat} (hp : p < P) : B p < 65536 := by
  obtain ⟨-, -, c3, h3, h⟩ := J.2.1 p hp
  by_cases q : c p = 3
  · rw [(h3 q).1]; omega
  · have h := (h (by omega)).2.2.2
    rcases own_sl3 (c := c p) (by omega) with ⟨-, e⟩ | ⟨-, e⟩ | ⟨-, e⟩ <;> rw [e] at h <;> omega
theorem own_k3 {c : Nat} (h : c ≤ 3) : own_k c = -1 ↔ c = 3 := by
  have : c = 0 ∨ c = 1 ∨ c = 2 ∨ c = 3 := by omega
  rcases this with rfl | rfl | rfl | rfl <;> decide
/-- the union of the pages below m on frame z -/
def own_un (c f B : Nat → Nat) (z : Nat) : Nat → Nat
  | 0 => 0
  | m + 1 => if c m < 3 ∧ f m = z then own_un c f B z m ||| B m else own_un c f B z m
theorem own_unT (c f B : Nat → Nat) (z i : Nat) : ∀ m, (own_un c f B z m).testBit i = true ↔ ∃ p, p < m ∧ c p < 3 ∧ f p = z ∧ (B p).testBit i = true := by
  intro m
  induction m with
  | zero => exact ⟨fun h => (by unfold own_un at h; rw [Nat.zero_testBit] at h; cases h), fun ⟨p, h, _⟩ => (by omega)⟩
  | succ m ih =>
    unfold own_un
    by_cases q : c m < 3 ∧ f m = z
    · rw [if_pos q, Nat.testBit_or, Bool.or_eq_true, ih]
      constructor
      · intro h
        rcases h with ⟨p, h1, h2⟩ | h
        · exact ⟨p, by omega, h2⟩
        · exact ⟨m, by omega, q.1, q.2, h⟩
      · intro ⟨p, h1, h2, h3, h4⟩
        by_cases e : p = m
        · subst e; exact Or.inr h4
        · exact Or.inl ⟨p, by omega, h2, h3, h4⟩
    · rw [if_neg q, ih]
      constructor
      · intro ⟨p, h1, h2⟩; exact ⟨p, by omega, h2⟩
      · intro ⟨p, h1, h2, h3, h4⟩
        have : p ≠ m := fun e => q (by rw [← e]; exact ⟨h2, h3⟩)
        exact ⟨p, by omega, h2, h3, h4⟩
theorem own_unB {P F : Nat} {c f B : Nat → Nat} {s : St} (J : own_J P F c f B s) (z : Nat) : ∀ m, m ≤ P → own_un c f B z m < 65536 := by
  intro m
  induction m with
  | zero => intro _; show 0 < 65536; omega
  | succ m ih =>
    intro h
    unfold own_un
    split
    · exact Nat.or_lt_two_pow (n := 16) (ih (by omega)) (own_Bb J (by omega))
    · exact ih (by omega)
theorem own_union {n P F : Nat} (hn : 100 ≤ n) {c f B : Nat → Nat} {s : St} (J : own_J P F c f B s) {z : Nat} (hz : z < 16) : f_unionOf n s (Int32.ofNat z) = some (Int32.ofNat (own_un c f B z P)) := by
  have J' := J
  obtain ⟨⟨h4, h5, P2, P9, F1, F8⟩, hp, -⟩ := J'
  have lp : ∀ (m i k : Nat), i + m = P → m < k → f_unionOf_4 n s k (Int32.ofNat z) (Int32.ofNat (own_un c f B z i)) (Int32.ofNat i) = some (Int32.ofNat (own_un c f B z P)) := by
    intro m
    induction m with
    | zero =>
      intro i k hi hk
      obtain ⟨k, rfl⟩ : ∃ k', k = k' + 1 := ⟨k - 1, by omega⟩
      have : i = P := by omega
      subst this
      rw [u_unionOf_4, h4, if_neg (nltN (by omega))]
    | succ m ih =>
      intro i k hi hk
      obtain ⟨k, rfl⟩ : ∃ k', k = k' + 1 := ⟨k - 1, by omega⟩
      obtain ⟨a1, a2, a3, a4, a5⟩ := hp i (by omega)
      have ub := own_unB J z i (by omega)
      have bb := own_Bb J (p := i) (by omega)
      have un : own_un c f B z (i + 1) = if c i < 3 ∧ f i = z then own_un c f B z i ||| B i else own_un c f B z i := rfl
      rw [u_unionOf_4, h4, if_pos (ltN (by omega) (by omega)), grd_pos (inbN (by omega) (by omega)), ix_N (by omega), a1, N_succ]
      have go := ih (i + 1) k (by omega) (by omega)
      by_cases q : c i = 3
      · rw [if_pos ((own_k3 a3).mpr q)]
        rw [un, if_neg (fun w => by omega)] at go; exact go
      · rw [if_neg (fun w => q ((own_k3 a3).mp w)), (a5 (by omega)).1]
        have fl := (a5 (by omega)).2.1
        by_cases r : f i = z
        · rw [if_pos (by rw [r]), a2, own_or ub bb]
          rw [un, if_pos ⟨by omega, r⟩] at go; exact go
        · rw [if_neg (fun w => r ((N_inj (by omega) (by omega)).mp w))]
          rw [un, if_neg (fun w => r w.2)] at go; exact go
  exact lp P 0 n (by omega) (by omega)

theorem own_divN {a b : Nat} (ha : a < 2147483648) (hb : b < 2147483648) : Int32.ofNat a / Int32.ofNat b = Int32.ofNat (a / b) := by
  apply eq_I.mpr
  have := Nat.div_le_self a b
  rw [Int32.toInt_div, N_toInt ha, N_toInt hb, N_toInt (by omega)]
  rw [show ((a : Int).tdiv (b : Nat)) = ((a / b : Nat) : Int) from (Int.ofNat_tdiv a b).symm]
  generalize a / b = q at this ⊢
  exact bmod_eq (by omega) (by omega)
theorem own_kN {c : Nat} (h : c < 3) : own_k c = Int32.ofNat c := by unfold own_k; rw [if_neg (by omega)]
theorem own_kn3 {c : Nat} (h : c < 3) : ¬ own_k c = -1 := fun z => by have := (own_k3 (by omega)).mp z; omega
theorem own_k33 {c : Nat} (h : c = 3) : own_k c = -1 := (own_k3 (by omega)).mpr h
/-- is there a page below m on frame z -/
def own_on (c f : Nat → Nat) (z : Nat) : Nat → Bool
  | 0 => false
  | m + 1 => own_on c f z m || decide (c m < 3 ∧ f m = z)
theorem own_onT (c f : Nat → Nat) (z : Nat) : ∀ m, own_on c f z m = true ↔ ∃ p, p < m ∧ c p < 3 ∧ f p = z := by
  intro m
  induction m with
  | zero => exact ⟨fun h => (by cases h), fun ⟨p, h, _⟩ => (by omega)⟩
  | succ m ih =>
    unfold own_on
    rw [Bool.or_eq_true, ih, decide_eq_true_iff]
    constructor
    · intro h
      rcases h with ⟨p, h1, h2⟩ | h
      · exact ⟨p, by omega, h2⟩
      · exact ⟨m, by omega, h⟩
    · intro ⟨p, h1, h2⟩
      by_cases e : p = m
      · subst e; exact Or.inr h2
      · exact Or.inl ⟨p, by omega, h2⟩
def own_ct (g : Nat → Bool) : Nat → Nat
  | 0 => 0
  | m + 1 => own_ct g m + (if g m = true then 1 else 0)
theorem own_ctle (g : Nat → Bool) : ∀ m, own_ct g m ≤ m := by
  intro m
  induction m with
  | zero => exact Nat.le_refl 0
  | succ m ih => unfold own_ct; split <;> omega
theorem own_ctE {g h : Nat → Bool} : ∀ m, (∀ i, i < m → g i = h i) → own_ct g m = own_ct h m := by
  intro m
  induction m with
  | zero => intro _; rfl
  | succ m ih => intro e; unfold own_ct; rw [ih (fun i hi => e i (by omega)), e m (by omega)]
theorem own_ctall {g : Nat → Bool} : ∀ m, (∀ i, i < m → g i = true) → own_ct g m = m := by
  intro m
  induction m with
  | zero => intro _; rfl
  | succ m ih => intro e; unfold own_ct; rw [ih (fun i hi => e i (by omega)), e m (by omega), if_pos rfl]
def own_sm (g : Nat → Nat) : Nat → Nat
  | 0 => 0
  | m + 1 => own_sm g m + g m
theorem own_smE {g h : Nat → Nat} : ∀ m, (∀ i, i < m → g i = h i) → own_sm g m = own_sm h m := by
  intro m
  induction m with
  | zero => intro _; rfl
  | succ m ih => intro e; unfold own_sm; rw [ih (fun i hi => e i (by omega)), e m (by omega)]
/-- one summand changed -/
theorem own_sm1 {g h : Nat → Nat} {p : Nat} (e : ∀ i, i ≠ p → g i = h i) : ∀ m, p < m → own_sm g m + h p = own_sm h m + g p := by
  intro m
  induction m with
  | zero => intro h; omega
  | succ m ih =>
    intro hm
    unfold own_sm
    by_cases q : m = p
    · subst q
      have := own_smE m (fun i hi => e i (by omega) : ∀ i, i < m → g i = h i)
      omega
    · have := ih (by omega)
      have := e m q
      omega
theorem own_smle {g : Nat → Nat} {K : Nat} : ∀ m, (∀ i, i < m → g i ≤ K) → own_sm g m ≤ m * K := by
  intro m
  induction m with
  | zero => intro _; exact Nat.zero_le _
  | succ m ih =>
    intro h
    unfold own_sm
    have := ih (fun i hi => h i (by omega))
    have := h m (by omega)
    rw [Nat.succ_mul]; omega
section
variable {n P F : Nat} {c f B : Nat → Nat} {s : St}
theorem own_fcls (hn : 100 ≤ n) (J : own_J P F c f B s) {z : Nat} (hz : z < 16) : ∃ v, f_frameClass n s (Int32.ofNat z) = some v ∧ ((v = -1 ∧ own_on c f z P = false) ∨ (∃ p, p < P ∧ c p < 3 ∧ f p = z ∧ v = Int32.ofNat (c p) ∧ own_on c f z P = true)) := by
  have J' := J
  obtain ⟨⟨h4, h5, P2, P9, F1, F8⟩, hp, -⟩ := J'
  have lp : ∀ (m i k : Nat), i + m = P → m < k → (∀ p, p < i → ¬ (c p < 3 ∧ f p = z)) → ∃ v, f_frameClass_2 n s k (Int32.ofNat z) (Int32.ofNat i) = some v ∧ ((v = -1 ∧ own_on c f z P = false) ∨ (∃ p, p < P ∧ c p < 3 ∧ f p = z ∧ v = Int32.ofNat (c p) ∧ own_on c f z P = true)) := by
    intro m
    induction m with
    | zero =>
      intro i k hi hk hno
      obtain ⟨k, rfl⟩ : ∃ k', k = k' + 1 := ⟨k - 1, by omega⟩
      rw [u_frameClass_2, h4, if_neg (by rw [show i = P by omega]; exact nltN (by omega))]
      refine ⟨-1, rfl, Or.inl ⟨rfl, ?_⟩⟩
      rw [Bool.eq_false_iff]
      intro h
      obtain ⟨p, h1, h2⟩ := (own_onT c f z P).mp h
      exact hno p (by omega) h2
    | succ m ih =>
      intro i k hi hk hno
      obtain ⟨k, rfl⟩ : ∃ k', k = k' + 1 := ⟨k - 1, by omega⟩
      obtain ⟨a1, a2, a3, a4, a5⟩ := hp i (by omega)
      rw [u_frameClass_2, h4, if_pos (ltN (by omega) (by omega)), grd_pos (inbN (by omega) (by omega)), ix_N (by omega), a1, N_succ]
      by_cases q : c i = 3
      · rw [if_pos (own_k33 q)]
        exact ih (i + 1) k (by omega) (by omega) (fun p h1 => by
          by_cases e : p = i
          · rw [e]; intro w; omega
          · exact hno p (by omega))
      · rw [if_neg (own_kn3 (by omega)), (a5 (by omega)).1]
        have fl := (a5 (by omega)).2.1
        by_cases r : f i = z
        · rw [if_pos (by rw [r]), own_kN (by omega)]
          exact ⟨_, rfl, Or.inr ⟨i, by omega, by omega, r, rfl, (own_onT c f z P).mpr ⟨i, by omega, by omega, r⟩⟩⟩
        · rw [if_neg (fun w => r ((N_inj (by omega) (by omega)).mp w))]
          exact ih (i + 1) k (by omega) (by omega) (fun p h1 => by
            by_cases e : p = i
            · rw [e]; intro w; exact r w.2
            · exact hno p (by omega))
  exact lp P 0 n (by omega) (by omega) (fun p h => by omega)
theorem own_fiu (hn : 100 ≤ n) (J : own_J P F c f B s) : f_framesInUse n s = some (Int32.ofNat (own_ct (fun z => own_on c f z P) F)) := by
  have lp : ∀ (m i k : Nat), i + m = F → m < k → f_framesInUse_4 n s k (Int32.ofNat (own_ct (fun z => own_on c f z P) i)) (Int32.ofNat i) = some (Int32.ofNat (own_ct (fun z => own_on c f z P) F)) := by
    have F8 := J.1.2.2.2.2.2
    intro m
    induction m with
    | zero =>
      intro i k hi hk
      obtain ⟨k, rfl⟩ : ∃ k', k = k' + 1 := ⟨k - 1, by omega⟩
      have : i = F := by omega
      subst this
      rw [u_framesInUse_4, J.1.2.1, if_neg (nltN (by omega))]
    | succ m ih =>
      intro i k hi hk
      obtain ⟨k, rfl⟩ : ∃ k', k = k' + 1 := ⟨k - 1, by omega⟩
      have go := ih (i + 1) k (by omega) (by omega)
      have ct : own_ct (fun z => own_on c f z P) (i + 1) = own_ct (fun z => own_on c f z P) i + (if own_on c f i P = true then 1 else 0) := rfl
      obtain ⟨v, v1, v2⟩ := own_fcls hn J (z := i) (by omega)
      rw [u_framesInUse_4, J.1.2.1, if_pos (ltN (by omega) (by omega)), v1, Option.bind_some, N_succ]
      rcases v2 with ⟨e1, e2⟩ | ⟨p, e1, e2, e3, e4, e5⟩
      · rw [if_pos e1]
        rw [ct, e2, if_neg (by decide)] at go; exact go
      · rw [if_neg (by rw [e4, ← own_kN e2]; exact own_kn3 e2), N_succ]
        rw [ct, e5, if_pos rfl] at go; exact go
  exact lp F 0 n (by omega) (by have := J.1.2.2.2.2.2; omega)
theorem own_piu (hn : 100 ≤ n) (J : own_J P F c f B s) : f_pagesInUse n s = some (Int32.ofNat (own_ct (fun p => decide (c p < 3)) P)) := by
  obtain ⟨⟨h4, h5, P2, P9, F1, F8⟩, hp, -⟩ := J
  have lp : ∀ (m i k : Nat), i + m = P → m < k → f_pagesInUse_4 n s k (Int32.ofNat (own_ct (fun p => decide (c p < 3)) i)) (Int32.ofNat i) = some (Int32.ofNat (own_ct (fun p => decide (c p < 3)) P)) := by
    intro m
    induction m with
    | zero =>
      intro i k hi hk
      obtain ⟨k, rfl⟩ : ∃ k', k = k' + 1 := ⟨k - 1, by omega⟩
      have : i = P := by omega
      subst this
      rw [u_pagesInUse_4, h4, if_neg (nltN (by omega))]
    | succ m ih =>
      intro i k hi hk
      obtain ⟨k, rfl⟩ : ∃ k', k = k' + 1 := ⟨k - 1, by omega⟩
      obtain ⟨a1, a2, a3, a4, a5⟩ := hp i (by omega)
      have go := ih (i + 1) k (by omega) (by omega)
      have ct : own_ct (fun p => decide (c p < 3)) (i + 1) = own_ct (fun p => decide (c p < 3)) i + (if decide (c i < 3) = true then 1 else 0) := rfl
      rw [u_pagesInUse_4, h4, if_pos (ltN (by omega) (by omega)), grd_pos (inbN (by omega) (by omega)), ix_N (by omega), a1, N_succ]
      by_cases q : c i = 3
      · rw [if_pos (own_k33 q)]
        rw [ct, if_neg (fun w => by have := of_decide_eq_true w; omega)] at go; exact go
      · rw [if_neg (own_kn3 (by omega)), N_succ]
        rw [ct, if_pos (decide_eq_true (by omega))] at go; exact go
  exact lp P 0 n (by omega) (by omega)
theorem own_pop (hn : 100 ≤ n) {a : Nat} (ha : a < 65536) : f_popCount n s (Int32.ofNat a) = some (Int32.ofNat (own_pc a 32)) := by
  have lp : ∀ (m i k : Nat), i + m = 32 → m < k → f_popCount_4 n s k (Int32.ofNat a) (Int32.ofNat (own_pc a i)) (Int32.ofNat i) = some (Int32.ofNat (own_pc a 32)) := by
    intro m
    induction m with
    | zero =>
      intro i k hi hk
      obtain ⟨k, rfl⟩ : ∃ k', k = k' + 1 := ⟨k - 1, by omega⟩
      have : i = 32 := by omega
      subst this
      rw [u_popCount_4, if_neg (by decide)]
    | succ m ih =>
      intro i k hi hk
      obtain ⟨k, rfl⟩ : ∃ k', k = k' + 1 := ⟨k - 1, by omega⟩
      have go := ih (i + 1) k (by omega) (by omega)
      have ct : own_pc a (i + 1) = own_pc a i + (if a.testBit i = true then 1 else 0) := rfl
      rw [u_popCount_4, if_pos (ltZ (z := 32) 32 rfl (by omega) (by omega)), N_succ]
      by_cases q : a.testBit i = true
      · rw [if_neg (fun w => by rw [own_tb ha (by omega), q] at w; cases w), N_succ]
        rw [ct, if_pos q] at go; exact go
      · rw [if_pos ((own_tb ha (by omega)).mpr (Bool.eq_false_iff.mpr q))]
        rw [ct, if_neg q] at go; exact go
  exact lp 32 0 n (by omega) (by omega)
theorem own_hpop (hn : 100 ≤ n) {a : Nat} (ha : a < 65536) : f_hpop n (Int32.ofNat a) = some (Int32.ofNat (own_pc a 32)) := by
  have lp : ∀ (m i k : Nat), i + m = 32 → m < k → f_hpop_4 n k (Int32.ofNat a) (Int32.ofNat (own_pc a i)) (Int32.ofNat i) = some (Int32.ofNat (own_pc a 32)) := by
    intro m
    induction m with
    | zero =>
      intro i k hi hk
      obtain ⟨k, rfl⟩ : ∃ k', k = k' + 1 := ⟨k - 1, by omega⟩
      have : i = 32 := by omega
      subst this
      rw [u_hpop_4, if_neg (by decide)]
    | succ m ih =>
      intro i k hi hk
      obtain ⟨k, rfl⟩ : ∃ k', k = k' + 1 := ⟨k - 1, by omega⟩
      have go := ih (i + 1) k (by omega) (by omega)
      have ct : own_pc a (i + 1) = own_pc a i + (if a.testBit i = true then 1 else 0) := rfl
      rw [u_hpop_4, if_pos (ltZ (z := 32) 32 rfl (by omega) (by omega)), N_succ]
      by_cases q : a.testBit i = true
      · rw [if_neg (fun w => by rw [own_tb ha (by omega), q] at w; cases w), N_succ]
        rw [ct, if_pos q] at go; exact go
      · rw [if_pos ((own_tb ha (by omega)).mpr (Bool.eq_false_iff.mpr q))]
        rw [ct, if_neg q] at go; exact go
  exact lp 32 0 n (by omega) (by omega)
/-- the live objects -/
def own_lo (B : Nat → Nat) (P : Nat) : Nat := own_sm (fun p => own_pc (B p) 32) P
theorem own_pc0 : ∀ m, own_pc 0 m = 0 := by
  intro m
  induction m with
  | zero => rfl
  | succ m ih => unfold own_pc; rw [ih, Nat.zero_testBit]; rfl
theorem own_live (hn : 100 ≤ n) (J : own_J P F c f B s) : f_liveObjects n s = some (Int32.ofNat (own_lo B P)) := by
  have J' := J
  obtain ⟨⟨h4, h5, P2, P9, F1, F8⟩, hp, -⟩ := J'
  have lp : ∀ (m i k : Nat), i + m = P → m < k → f_liveObjects_4 n s k (Int32.ofNat (own_lo B i)) (Int32.ofNat i) = some (Int32.ofNat (own_lo B P)) := by
    intro m
    induction m with
    | zero =>
      intro i k hi hk
      obtain ⟨k, rfl⟩ : ∃ k', k = k' + 1 := ⟨k - 1, by omega⟩
      have : i = P := by omega
      subst this
      rw [u_liveObjects_4, h4, if_neg (nltN (by omega))]
    | succ m ih =>
      intro i k hi hk
      obtain ⟨k, rfl⟩ : ∃ k', k = k' + 1 := ⟨k - 1, by omega⟩
      obtain ⟨a1, a2, a3, a4, a5⟩ := hp i (by omega)
      have go := ih (i + 1) k (by omega) (by omega)
      have ct : own_lo B (i + 1) = own_lo B i + own_pc (B i) 32 := rfl
      rw [u_liveObjects_4, h4, if_pos (ltN (by omega) (by omega)), grd_pos (inbN (by omega) (by omega)), ix_N (by omega), a1, N_succ]
      by_cases q : c i = 3
      · rw [if_pos (own_k33 q)]
        rw [ct, (a4 q).1, own_pc0] at go; exact go
      · rw [if_neg (own_kn3 (by omega)), a2, own_pop hn (own_Bb J (by omega)), Option.bind_some, N_add]
        rw [ct] at go; exact go
  exact lp P 0 n (by omega) (by omega)
theorem own_pgC (J : own_J P F c f B s) {p : Nat} (hp : p < P) : f_pageClass s (Int32.ofNat p) = some (own_k (c p)) := by
  obtain ⟨⟨h4, h5, P2, P9, F1, F8⟩, h, -⟩ := J
  unfold f_pageClass
  rw [if_neg (N_neg (by omega)), h4, if_pos (ltN hp (by omega)), grd_pos (inbN (by omega) (by omega)), ix_N (by omega), (h p hp).1]
theorem own_pgF (J : own_J P F c f B s) {p : Nat} (hp : p < P) : f_frameOf s (Int32.ofNat p) = some (if c p = 3 then -1 else Int32.ofNat (f p)) := by
  obtain ⟨⟨h4, h5, P2, P9, F1, F8⟩, h, -⟩ := J
  obtain ⟨a1, a2, a3, a4, a5⟩ := h p hp
  unfold f_frameOf
  rw [if_neg (N_neg (by omega)), h4, if_pos (ltN hp (by omega)), grd_pos (inbN (by omega) (by omega)), ix_N (by omega), a1]
  by_cases q : c p = 3
  · rw [if_pos (own_k33 q), if_pos q]
  · rw [if_neg (own_kn3 (by omega)), if_neg q, (a5 (by omega)).1]
theorem own_pgB (J : own_J P F c f B s) {p : Nat} (hp : p < P) : f_pageBits s (Int32.ofNat p) = some (Int32.ofNat (B p)) := by
  obtain ⟨⟨h4, h5, P2, P9, F1, F8⟩, h, -⟩ := J
  obtain ⟨a1, a2, a3, a4, a5⟩ := h p hp
  unfold f_pageBits
  rw [if_neg (N_neg (by omega)), h4, if_pos (ltN hp (by omega)), grd_pos (inbN (by omega) (by omega)), ix_N (by omega), a1]
  by_cases q : c p = 3
  · rw [if_pos (own_k33 q), (a4 q).1]; rfl
  · rw [if_neg (own_kn3 (by omega)), a2]
/-- the word off of page p lies in a live object -/
def own_lv (c B : Nat → Nat) (p off : Nat) : Bool := decide (c p < 3) && (B p).testBit (off / 2 ^ c p)
theorem own_szN {c : Nat} (h : c < 3) (s : St) : f_sizeOf s (own_k c) = some (Int32.ofNat (2 ^ c)) := by
  unfold f_sizeOf
  rw [own_kN h, own_shl (by omega)]
theorem own_p2 {c : Nat} (h : c < 3) : (c = 0 ∧ 2 ^ c = 1) ∨ (c = 1 ∧ 2 ^ c = 2) ∨ (c = 2 ∧ 2 ^ c = 4) := by
  have : c = 0 ∨ c = 1 ∨ c = 2 := by omega
  rcases this with rfl | rfl | rfl <;> simp
theorem own_nz {a : Nat} (h : 0 < a) (h2 : a < 2147483648) : Int32.ofNat a ≠ 0 := fun w => by
  rw [show (0 : Int32) = Int32.ofNat 0 from rfl, N_inj (by omega) (by omega)] at w; omega
theorem own_li (J : own_J P F c f B s) {A : Nat} (hA : A < 16 * P) : f_liveIndex s (Int32.ofNat A) = some (if own_lv c B (A / 16) (A % 16) = true then Int32.ofNat (f (A / 16) * 16 + A % 16) else -1) := by
  have J' := J
  obtain ⟨⟨h4, h5, P2, P9, F1, F8⟩, h, -⟩ := J'
  obtain ⟨a1, a2, a3, a4, a5⟩ := h (A / 16) (by omega)
  unfold f_liveIndex own_lv
  rw [if_neg (N_neg (by omega)), h4, show (16 : Int32) = Int32.ofNat 16 from rfl, N_mul, if_pos (ltN (by omega) (by omega)), own_divN (by omega) (by omega), rem_N (by omega) (by omega) (by omega), grd_pos (inbN (by omega) (by omega)), ix_N (by omega), a1]
  by_cases q : c (A / 16) = 3
  · rw [if_pos (own_k33 q), if_neg (fun w => by rw [Bool.and_eq_true, decide_eq_true_iff] at w; omega)]
  · obtain ⟨b1, b2, b3, b4⟩ := a5 (by omega)
    have p2 := own_p2 (c := c (A / 16)) (by omega)
    have bb := own_Bb J (p := A / 16) (by omega)
    have dl : A % 16 / 2 ^ c (A / 16) < 32 := by have := Nat.div_le_self (A % 16) (2 ^ c (A / 16)); omega
    rw [if_neg (own_kn3 (by omega)), own_szN (by omega), Option.bind_some, grd_pos (own_nz (by omega) (by omega)), a2, own_divN (by omega) (by omega)]
    by_cases r : (B (A / 16)).testBit (A % 16 / 2 ^ c (A / 16)) = true
    · rw [if_neg (fun w => by rw [own_tb bb dl, r] at w; cases w), b1, if_neg (N_neg (by omega)), h5, if_pos (ltN b2 (by omega)), N_mul, N_add, if_pos (by rw [Bool.and_eq_true, decide_eq_true_iff]; exact ⟨by omega, r⟩)]
    · rw [if_pos ((own_tb bb dl).mpr (Bool.eq_false_iff.mpr r)), if_neg (fun w => by rw [Bool.and_eq_true] at w; exact r w.2)]
theorem own_lvF (J : own_J P F c f B s) {p off : Nat} (hp : p < P) (h : own_lv c B p off = true) : c p < 3 ∧ f p < F ∧ (B p).testBit (off / 2 ^ c p) = true := by
  unfold own_lv at h
  rw [Bool.and_eq_true, decide_eq_true_iff] at h
  exact ⟨h.1, ((J.2.1 p hp).2.2.2.2 h.1).2.1, h.2⟩
def own_b (x : Bool) : Int32 := if x = true then 1 else 0
theorem own_il (J : own_J P F c f B s) {A : Nat} (hA : A < 16 * P) : f_isLive s (Int32.ofNat A) = some (own_b (own_lv c B (A / 16) (A % 16))) := by
  have P9 := J.1.2.2.2.1
  have F8 := J.1.2.2.2.2.2
  unfold f_isLive own_b
  rw [own_li J hA, Option.bind_some]
  by_cases q : own_lv c B (A / 16) (A % 16) = true
  · have := (own_lvF J (by omega) q).2.1
    rw [if_pos q, if_neg (N_neg (by omega)), if_pos q]
  · rw [if_neg q, if_pos (by decide), if_neg q]
theorem own_rd (J : own_J P F c f B s) {A : Nat} (hA : A < 16 * P) : f_read s (Int32.ofNat A) = some (if own_lv c B (A / 16) (A % 16) = true then s.2 3 (f (A / 16) * 16 + A % 16) else 0) := by
  have P9 := J.1.2.2.2.1
  have F8 := J.1.2.2.2.2.2
  unfold f_read
  rw [own_li J hA, Option.bind_some]
  by_cases q : own_lv c B (A / 16) (A % 16) = true
  · have := (own_lvF J (by omega) q).2.1
    rw [if_pos q, if_neg (N_neg (by omega)), grd_pos (inbN (by omega) (by omega)), ix_N (by omega), if_pos q]
  · rw [if_neg q, if_pos (by decide), if_neg q]
end

def own_tag (a : Nat) : Int32 := Int32.ofNat a * 131 + 7
def own_Tg (P : Nat) (c f B : Nat → Nat) (s : St) : Prop := ∀ p off, p < P → off < 16 → own_lv c B p off = true → s.2 3 (f p * 16 + off) = own_tag (16 * p + off)
theorem own_hsz {c : Nat} (h : c < 3) : f_hsize (Int32.ofNat c) = some (Int32.ofNat (2 ^ c)) := by
  have : c = 0 ∨ c = 1 ∨ c = 2 := by omega
  rcases this with rfl | rfl | rfl <;> rfl
theorem own_bit {a : Nat} (h : 0 < a) : ∃ i, a.testBit i = true := Classical.byContradiction fun z => by
  have : a = 0 := own_zero (fun i => Bool.eq_false_iff.mpr (fun w => z ⟨i, w⟩))
  omega
section
variable {n P F : Nat} {c f B : Nat → Nat} {s : St}
theorem own_unon (J : own_J P F c f B s) (z : Nat) : own_un c f B z P = 0 ↔ own_on c f z P = false := by
  constructor
  · intro h
    rw [Bool.eq_false_iff]
    intro w
    obtain ⟨p, h1, h2, h3⟩ := (own_onT c f z P).mp w
    obtain ⟨i, hi⟩ := own_bit ((J.2.1 p h1).2.2.2.2 h2).2.2.1
    have := (own_unT c f B z i P).mpr ⟨p, h1, h2, h3, hi⟩
    rw [h, Nat.zero_testBit] at this
    cases this
  · intro h
    refine own_zero (fun i => Bool.eq_false_iff.mpr (fun w => ?_))
    obtain ⟨p, h1, h2, h3, -⟩ := (own_unT c f B z i P).mp w
    have := (own_onT c f z P).mpr ⟨p, h1, h2, h3⟩
    rw [h] at this
    cases this
theorem own_c130 (J : own_J P F c f B s) {p : Nat} (hp : p < P) (hc : c p < 3) {k19 : Int32 → Int32 → Int32 → Int32 → Int32 → Int32 → Option Int32} {x2 x3 x4 x5 : Int32} :
    ∀ (m q k : Nat), q + m = P → m < k → p < q → f_hconsistent_130 n s k19 k (Int32.ofNat P) x2 x3 x4 x5 (Int32.ofNat p) (Int32.ofNat (c p)) (Int32.ofNat (f p)) (Int32.ofNat (B p)) (Int32.ofNat q) = k19 (Int32.ofNat P) x2 x3 x4 x5 (Int32.ofNat (p + 1)) := by
  have P9 := J.1.2.2.2.1
  have F8 := J.1.2.2.2.2.2
  have fp := ((J.2.1 p hp).2.2.2.2 hc).2.1
  intro m
  induction m with
  | zero =>
    intro q k hq hk hpq
    obtain ⟨k, rfl⟩ : ∃ k', k = k' + 1 := ⟨k - 1, by omega⟩
    rw [u_hconsistent_130, if_neg (by rw [show q = P by omega]; exact nltN (by omega)), N_succ]
  | succ m ih =>
    intro q k hq hk hpq
    obtain ⟨k, rfl⟩ : ∃ k', k = k' + 1 := ⟨k - 1, by omega⟩
    have go := ih (q + 1) k (by omega) (by omega) (by omega)
    rw [u_hconsistent_130, if_pos (ltN (by omega) (by omega)), own_pgF J (by omega), Option.bind_some, N_succ]
    by_cases e : c q = 3
    · rw [if_pos e, if_neg (fun w => N_neg (i := f p) (by omega) (by rw [← w]; decide))]
      exact go
    · rw [if_neg e]
      have c3 := (J.2.1 q (by omega)).2.2.1
      have fq := ((J.2.1 q (by omega)).2.2.2.2 (by omega)).2.1
      by_cases r : f q = f p
      · obtain ⟨k1, k2⟩ := J.2.2 q p (by omega) hp (by omega) (by omega) hc r
        have z : B p &&& B q = 0 := own_zero (fun i => by
          rw [Nat.testBit_and, Bool.eq_false_iff]
          intro w
          rw [Bool.and_eq_true] at w
          exact k2 i ⟨w.2, w.1⟩)
        have bp := own_Bb J hp
        have bq := own_Bb J (p := q) (by omega)
        rw [if_pos (by rw [r]), own_pgC J (by omega), Option.bind_some, own_kN (by omega), if_pos (by rw [k1]), own_pgB J (by omega), Option.bind_some, own_an bp (by omega), z, if_pos (by rfl : Int32.ofNat 0 = 0)]
        exact go
      · rw [if_neg (fun w => r ((N_inj (by omega) (by omega)).mp w))]
        exact go
theorem own_c219 (hn : 100 ≤ n) (J : own_J P F c f B s) {z : Nat} (hz : z < F) {k207 : Int32 → Int32 → Int32 → Int32 → Option Int32} {x6 : Nat} :
    ∀ (m i k : Nat), i + m = P → m < k → f_hconsistent_219 n s k207 k (Int32.ofNat P) (Int32.ofNat F) (Int32.ofNat x6) (Int32.ofNat z) (Int32.ofNat (own_un c f B z i)) (Int32.ofNat i) = k207 (Int32.ofNat P) (Int32.ofNat F) (Int32.ofNat (x6 + if own_on c f z P = true then 1 else 0)) (Int32.ofNat (z + 1)) := by
  have P9 := J.1.2.2.2.1
  have F8 := J.1.2.2.2.2.2
  intro m
  induction m with
  | zero =>
    intro i k hi hk
    obtain ⟨k, rfl⟩ : ∃ k', k = k' + 1 := ⟨k - 1, by omega⟩
    have : i = P := by omega
    subst this
    have fb : f_frameBits n s (Int32.ofNat z) = some (Int32.ofNat (own_un c f B z i)) := by
      unfold f_frameBits
      rw [if_neg (N_neg (by omega)), J.1.2.1, if_pos (ltN hz (by omega)), own_union hn J (by omega), Option.bind_some]
    have ub := own_unB J z i (by omega)
    have uo := own_unon J z
    rw [u_hconsistent_219, if_neg (nltN (by omega)), fb, Option.bind_some, if_pos rfl, N_succ, N_succ]
    by_cases q : own_on c f z i = true
    · rw [if_neg (own_nz (Nat.pos_of_ne_zero (fun w => by rw [uo.mp w] at q; cases q)) (by omega)), if_pos q]
    · rw [if_pos (by rw [uo.mpr (Bool.eq_false_iff.mpr q)]; rfl), if_neg q]; rfl
  | succ m ih =>
    intro i k hi hk
    obtain ⟨k, rfl⟩ : ∃ k', k = k' + 1 := ⟨k - 1, by omega⟩
    have go := ih (i + 1) k (by omega) (by omega)
    have un : own_un c f B z (i + 1) = if c i < 3 ∧ f i = z then own_un c f B z i ||| B i else own_un c f B z i := rfl
    obtain ⟨a1, a2, a3, a4, a5⟩ := J.2.1 i (by omega)
    rw [u_hconsistent_219, if_pos (ltN (by omega) (by omega)), own_pgF J (by omega), Option.bind_some, N_succ]
    by_cases e : c i = 3
    · rw [if_pos e, if_neg (fun w => N_neg (i := z) (by omega) (by rw [← w]; decide))]
      rw [un, if_neg (fun w => by omega)] at go; exact go
    · rw [if_neg e]
      have fl := (a5 (by omega)).2.1
      by_cases r : f i = z
      · rw [if_pos (by rw [r]), own_pgB J (by omega), Option.bind_some, own_or (own_unB J z i (by omega)) (own_Bb J (by omega))]
        rw [un, if_pos ⟨by omega, r⟩] at go; exact go
      · rw [if_neg (fun w => r ((N_inj (by omega) (by omega)).mp w))]
        rw [un, if_neg (fun w => r w.2)] at go; exact go
theorem own_c294 (J : own_J P F c f B s) (T : own_Tg P c f B s) : ∀ (m A k : Nat), A + m = 16 * P → m < k → f_hconsistent_294 n s k (Int32.ofNat P) (Int32.ofNat A) = some 1 := by
  have P9 := J.1.2.2.2.1
  intro m
  induction m with
  | zero =>
    intro A k hA hk
    obtain ⟨k, rfl⟩ : ∃ k', k = k' + 1 := ⟨k - 1, by omega⟩
    rw [u_hconsistent_294, show (16 : Int32) = Int32.ofNat 16 from rfl, N_mul, if_neg (by rw [show A = P * 16 by omega]; exact nltN (by omega))]
  | succ m ih =>
    intro A k hA hk
    obtain ⟨k, rfl⟩ : ∃ k', k = k' + 1 := ⟨k - 1, by omega⟩
    have go := ih (A + 1) k (by omega) (by omega)
    obtain ⟨a1, a2, a3, a4, a5⟩ := J.2.1 (A / 16) (by omega)
    have st : f_hconsistent_351 n s (f_hconsistent_294 n s k) (Int32.ofNat P) (Int32.ofNat A) (own_b (own_lv c B (A / 16) (A % 16))) = some 1 := by
      unfold f_hconsistent_351
      rw [own_il J (by omega), Option.bind_some, if_pos rfl, own_rd J (by omega), Option.bind_some]
      have fin : ∀ v : Int32, f_hconsistent_386 n s (f_hconsistent_294 n s k) (Int32.ofNat P) (Int32.ofNat A) v v = some 1 := fun v => by
        unfold f_hconsistent_386
        rw [if_pos rfl, N_succ]; exact go
      by_cases q : own_lv c B (A / 16) (A % 16) = true
      · rw [q, if_neg (show ¬ own_b true = 0 by decide), if_pos rfl, T (A / 16) (A % 16) (by omega) (by omega) q, show 16 * (A / 16) + A % 16 = A by omega]
        exact fin _
      · rw [Bool.eq_false_iff.mpr q, if_pos (show own_b false = 0 from rfl), if_neg (by decide)]
        exact fin 0
    rw [u_hconsistent_294, show (16 : Int32) = Int32.ofNat 16 from rfl, N_mul, if_pos (ltN (by omega) (by omega)), own_divN (by omega) (by omega), rem_N (by omega) (by omega) (by omega), own_pgC J (by omega), Option.bind_some]
    by_cases e : c (A / 16) = 3
    · rw [own_k33 e, if_pos (by decide)]
      rw [show own_lv c B (A / 16) (A % 16) = false by unfold own_lv; rw [decide_eq_false (by omega), Bool.false_and]] at st
      exact st
    · have p2 := own_p2 (c := c (A / 16)) (by omega)
      have bb := own_Bb J (p := A / 16) (by omega)
      have dl : A % 16 / 2 ^ c (A / 16) < 32 := by have := Nat.div_le_self (A % 16) (2 ^ c (A / 16)); omega
      rw [own_kN (by omega), if_neg (N_neg (by omega)), own_pgB J (by omega), Option.bind_some, own_hsz (by omega), Option.bind_some, grd_pos (own_nz (by omega) (by omega)), own_divN (by omega) (by omega)]
      have lvE : own_lv c B (A / 16) (A % 16) = (B (A / 16)).testBit (A % 16 / 2 ^ c (A / 16)) := by unfold own_lv; rw [decide_eq_true (by omega), Bool.true_and]
      by_cases r : (B (A / 16)).testBit (A % 16 / 2 ^ c (A / 16)) = true
      · rw [if_neg (fun w => by rw [own_tb bb dl, r] at w; cases w)]
        rw [lvE, r] at st; exact st
      · rw [if_pos ((own_tb bb dl).mpr (Bool.eq_false_iff.mpr r))]
        rw [lvE, Bool.eq_false_iff.mpr r] at st; exact st
theorem own_cons (hn : 200 ≤ n) (J : own_J P F c f B s) (T : own_Tg P c f B s) {K : Nat} (hK : K = own_lo B P) : f_hconsistent n s (Int32.ofNat P) (Int32.ofNat F) (Int32.ofNat K) = some 1 := by
  have P9 := J.1.2.2.2.1
  have F8 := J.1.2.2.2.2.2
  have l207 : ∀ (m z k : Nat), z + m = F → m < k → f_hconsistent_207 n s k (Int32.ofNat P) (Int32.ofNat F) (Int32.ofNat (own_ct (fun z => own_on c f z P) z)) (Int32.ofNat z) = some 1 := by
    intro m
    induction m with
    | zero =>
      intro z k hz hk
      obtain ⟨k, rfl⟩ : ∃ k', k = k' + 1 := ⟨k - 1, by omega⟩
      have : z = F := by omega
      subst this
      rw [u_hconsistent_207, if_neg (nltN (by omega)), own_fiu (by omega) J, Option.bind_some, if_pos rfl]
      exact own_c294 J T (16 * P) 0 n (by omega) (by omega)
    | succ m ih =>
      intro z k hz hk
      obtain ⟨k, rfl⟩ : ∃ k', k = k' + 1 := ⟨k - 1, by omega⟩
      rw [u_hconsistent_207, if_pos (ltN (by omega) (by omega))]
      refine (own_c219 (by omega) J (by omega) P 0 n (by omega) (by omega)).trans ?_
      exact ih (z + 1) k (by omega) (by omega)
  have l19 : ∀ (m p k : Nat), p + m = P → m < k → f_hconsistent_19 n s k (Int32.ofNat P) (Int32.ofNat F) (Int32.ofNat K) (Int32.ofNat (own_lo B p)) (Int32.ofNat (own_ct (fun p => decide (c p < 3)) p)) (Int32.ofNat p) = some 1 := by
    intro m
    induction m with
    | zero =>
      intro p k hp hk
      obtain ⟨k, rfl⟩ : ∃ k', k = k' + 1 := ⟨k - 1, by omega⟩
      have : p = P := by omega
      subst this
      rw [u_hconsistent_19, if_neg (nltN (by omega)), own_piu (by omega) J, Option.bind_some, if_pos rfl, if_pos (by rw [hK])]
      exact l207 F 0 n (by omega) (by omega)
    | succ m ih =>
      intro p k hp hk
      obtain ⟨k, rfl⟩ : ∃ k', k = k' + 1 := ⟨k - 1, by omega⟩
      have go := ih (p + 1) k (by omega) (by omega)
      have lo : own_lo B (p + 1) = own_lo B p + own_pc (B p) 32 := rfl
      have ct : own_ct (fun p => decide (c p < 3)) (p + 1) = own_ct (fun p => decide (c p < 3)) p + (if decide (c p < 3) = true then 1 else 0) := rfl
      obtain ⟨a1, a2, a3, a4, a5⟩ := J.2.1 p (by omega)
      rw [u_hconsistent_19, if_pos (ltN (by omega) (by omega)), own_pgC J (by omega), Option.bind_some, own_pgF J (by omega), Option.bind_some, own_pgB J (by omega), Option.bind_some]
      by_cases e : c p = 3
      · rw [if_pos (own_k33 e), if_pos e, if_pos rfl, (a4 e).1, if_pos (by rfl : Int32.ofNat 0 = 0), N_succ]
        rw [lo, ct, (a4 e).1, own_pc0, if_neg (fun w => by have := of_decide_eq_true w; omega)] at go
        exact go
      · obtain ⟨b1, b2, b3, b4⟩ := a5 (by omega)
        have bb := own_Bb J (p := p) (by omega)
        rw [if_neg (own_kn3 (by omega)), own_kN (by omega), if_neg (N_neg (by omega)), if_neg (fun w => by rw [show (2 : Int32) = Int32.ofNat 2 from rfl, N_lt (by omega) (by omega)] at w; omega), if_neg e, if_neg (N_neg (by omega)), if_pos (ltN b2 (by omega)), if_neg (own_nz b3 (by omega)), own_hsz (by omega), Option.bind_some]
        have p2 := own_p2 (c := c p) (by omega)
        have sl := own_sl3 (c := c p) (by omega)
        have us : XT.ushr (Int32.ofNat (B p)) ((16 : Int32) / Int32.ofNat (2 ^ c p)) = 0 := by
          rw [show (16 : Int32) = Int32.ofNat 16 from rfl, own_divN (by omega) (by omega)]
          have : 16 / 2 ^ c p = own_sl (c p) := rfl
          rw [this, own_us bb (by omega), Nat.div_eq_of_lt b4]; rfl
        rw [grd_pos (own_nz (by omega) (by omega)), if_pos us, own_hpop (by omega) bb, Option.bind_some, N_add, N_succ, N_succ]
        refine (own_c130 J (by omega) (by omega) (P - (p + 1)) (p + 1) n (by omega) (by omega) (by omega)).trans ?_
        rw [lo, ct, if_pos (decide_eq_true (by omega))] at go
        exact go
  unfold f_hconsistent
  rw [own_live (by omega) J, Option.bind_some, if_pos (by rw [hK])]
  exact l19 P 0 n (by omega) (by omega)
end

/-! ### write, free -/
/-- tags stand in every live word but the excepted ones -/
def own_Tx (ex : Nat → Nat → Prop) (P : Nat) (c f B : Nat → Nat) (s : St) : Prop := ∀ p off, p < P → off < 16 → own_lv c B p off = true → ¬ ex p off → s.2 3 (f p * 16 + off) = own_tag (16 * p + off)
theorem own_JE {P F : Nat} {c f B : Nat → Nat} {s t : St} (h1 : ∀ j, j = 4 ∨ j = 5 → t.1 j = s.1 j) (h2 : ∀ j, j < 3 → t.2 j = s.2 j) (J : own_J P F c f B s) : own_J P F c f B t := by
  unfold own_J
  rw [h1 4 (by omega), h1 5 (by omega), h2 0 (by omega), h2 1 (by omega), h2 2 (by omega)]; exact J
section
variable {n P F : Nat} {c f B : Nat → Nat} {s : St}
theorem own_alone (J : own_J P F c f B s) {p q off : Nat} (hp : p < P) (hq : q < P) (l1 : own_lv c B p off = true) (l2 : own_lv c B q off = true) (hf : f p = f q) : p = q := Classical.byContradiction fun ne => by
  obtain ⟨a1, a2, a3⟩ := own_lvF J hp l1
  obtain ⟨b1, b2, b3⟩ := own_lvF J hq l2
  obtain ⟨k1, k2⟩ := J.2.2 p q hp hq ne a1 b1 hf
  rw [← k1] at b3
  exact k2 _ ⟨a3, b3⟩
theorem own_write (J : own_J P F c f B s) {ex : Nat → Nat → Prop} (T : own_Tx ex P c f B s) {A : Nat} (hA : A < 16 * P) :
    ∃ t, f_write (Int32.ofNat A) (own_tag A) s = some (own_b (own_lv c B (A / 16) (A % 16)), t) ∧ own_J P F c f B t ∧ own_Tx (fun p off => ex p off ∧ ¬ (own_lv c B (A / 16) (A % 16) = true ∧ p = A / 16 ∧ off = A % 16)) P c f B t ∧ t.1 = s.1 ∧ (∀ x, x ≠ f (A / 16) * 16 + A % 16 → t.2 3 x = s.2 3 x) := by
  have P9 := J.1.2.2.2.1
  have F8 := J.1.2.2.2.2.2
  unfold f_write own_b
  rw [own_li J hA, Option.bind_some]
  by_cases q : own_lv c B (A / 16) (A % 16) = true
  · have fl := (own_lvF J (by omega) q).2.1
    rw [if_pos q, if_neg (N_neg (by omega)), grd_pos (inbN (by omega) (by omega)), ix_N (by omega), bnd_eq, if_pos q]
    refine ⟨_, rfl, own_JE (fun _ _ => rfl) (fun j hj => by funext x; rw [setA_2, if_neg (fun z => by omega)]) J, fun p off hp ho hl hx => ?_, rfl, fun x hx => by rw [setA_2, if_neg (fun z => hx z.2)]⟩
    rw [setA_2]
    by_cases e : f p * 16 + off = f (A / 16) * 16 + A % 16
    · have e1 : f p = f (A / 16) := by omega
      have e2 : off = A % 16 := by omega
      rw [e2] at hl
      have e3 : p = A / 16 := own_alone J hp (by omega) hl q e1
      rw [if_pos ⟨by trivial, e⟩, e3, e2, show 16 * (A / 16) + A % 16 = A by omega]
    · rw [if_neg (fun z => e z.2)]
      refine T p off hp ho hl (fun w => hx ⟨w, fun z => e ?_⟩)
      rw [z.2.1, z.2.2]
  · rw [if_neg q, if_pos (by decide), if_neg q]
    exact ⟨s, rfl, J, fun p off hp ho hl hx => T p off hp ho hl (fun w => hx ⟨w, fun z => q z.1⟩), rfl, fun _ _ => rfl⟩
/-- a bit taken away -/
def own_clr (a i : Nat) : Nat := a &&& (4294967295 ^^^ 2 ^ i)
theorem own_clrT {a i : Nat} (ha : a < 65536) (j : Nat) : (own_clr a i).testBit j = (a.testBit j && !decide (j = i)) := by
  unfold own_clr
  rw [Nat.testBit_and, Nat.testBit_xor, Nat.testBit_two_pow]
  by_cases h : j < 32
  · have : (4294967295 : Nat).testBit j = true := by
      rw [show (4294967295 : Nat) = 2 ^ 32 - 1 from rfl, Nat.testBit_two_pow_sub_one, decide_eq_true h]
    rw [this]
    by_cases e : i = j
    · rw [decide_eq_true e, decide_eq_true e.symm]; rfl
    · rw [decide_eq_false e, decide_eq_false (fun z => e z.symm)]; rfl
  · rw [own_hi (i := 16) ha (by omega), Bool.false_and, Bool.false_and]
theorem own_clrE {a i : Nat} (ha : a < 65536) (hi : i < 16) : Int32.ofNat a &&& ((1 : Int32) <<< (Int32.ofNat i &&& 31) ^^^ (-1)) = Int32.ofNat (own_clr a i) := by
  rw [own_shl hi, own_cl16 ⟨i, hi⟩, own_an ha (by
    have h1 : 2 ^ i < 2 ^ 32 := Nat.pow_lt_pow_right (by omega) (by omega)
    exact Nat.xor_lt_two_pow (n := 32) (by omega) h1)]
  rfl
def own_upd (g : Nat → Nat) (p v : Nat) : Nat → Nat := fun q => if q = p then v else g q
theorem own_upd1 (g : Nat → Nat) (p v : Nat) : own_upd g p v p = v := if_pos rfl
theorem own_upd2 (g : Nat → Nat) {p q : Nat} (v : Nat) (h : q ≠ p) : own_upd g p v q = g q := if_neg h
theorem own_free (J : own_J P F c f B s) {ex : Nat → Nat → Prop} (T : own_Tx ex P c f B s) {A : Nat} (hA : A < 16 * P) :
    (¬ (own_lv c B (A / 16) (A % 16) = true ∧ A % 16 % 2 ^ c (A / 16) = 0) → f_free (Int32.ofNat A) s = some (0, s)) ∧
    (own_lv c B (A / 16) (A % 16) = true → A % 16 % 2 ^ c (A / 16) = 0 → ∃ t c' B', f_free (Int32.ofNat A) s = some (1, t) ∧ own_J P F c' f B' t ∧ own_Tx ex P c' f B' t ∧ own_lo B P = own_lo B' P + 1 ∧ own_lv c' B' (A / 16) (A % 16) = false ∧ t.1 = s.1) := by
  have P9 := J.1.2.2.2.1
  have F8 := J.1.2.2.2.2.2
  have J' := J
  obtain ⟨⟨h4, h5, -⟩, h, hs⟩ := J'
  obtain ⟨p, ep⟩ : ∃ p, p = A / 16 := ⟨_, rfl⟩
  obtain ⟨off, eo⟩ : ∃ off, off = A % 16 := ⟨_, rfl⟩
  obtain ⟨a1, a2, a3, a4, a5⟩ := h p (by omega)
  have o16 : off < 16 := by omega
  have hp : p < P := by omega
  have bb := own_Bb J hp
  unfold f_free
  rw [if_neg (N_neg (by omega)), h4, show (16 : Int32) = Int32.ofNat 16 from rfl, N_mul, if_pos (ltN (by omega) (by omega)), own_divN (by omega) (by omega), rem_N (by omega) (by omega) (by omega), grd_pos (inbN (by omega) (by omega)), ix_N (by omega), ← ep, ← eo, a1]
  by_cases q : c p = 3
  · rw [if_pos (own_k33 q)]
    have nl : own_lv c B p off = false := by unfold own_lv; rw [decide_eq_false (by omega), Bool.false_and]
    exact ⟨fun _ => rfl, fun w => by rw [nl] at w; cases w⟩
  · obtain ⟨b1, b2, b3, b4⟩ := a5 (by omega)
    have p2 := own_p2 (c := c p) (by omega)
    obtain ⟨z, ez⟩ : ∃ z, z = off / 2 ^ c p := ⟨_, rfl⟩
    have z16 : z < 16 := by have := Nat.div_le_self off (2 ^ c p); omega
    have lvE : own_lv c B p off = (B p).testBit z := by unfold own_lv; rw [decide_eq_true (by omega), Bool.true_and, ez]
    have ml : off % 2 ^ c p < 2147483648 := by have := Nat.mod_le off (2 ^ c p); omega
    rw [if_neg (own_kn3 (by omega)), own_szN (by omega), Option.bind_some, grd_pos (own_nz (by omega) (by omega)), rem_N (by omega) (by omega) (by omega), grd_pos (own_nz (by omega) (by omega)), own_divN (by omega) (by omega), ← ez, lvE]
    by_cases r : off % 2 ^ c p = 0
    · rw [r, if_pos (by rfl : Int32.ofNat 0 = 0), a2]
      by_cases v : (B p).testBit z = true
      · rw [if_neg (fun w => by rw [own_tb bb (by omega), v] at w; cases w), bnd_eq, own_clrE bb z16]
        refine ⟨fun w => absurd ⟨v, rfl⟩ w, fun _ _ => ?_⟩
        have cT := own_clrT (i := z) bb
        have cle : own_clr (B p) z ≤ B p := Nat.and_le_left
        -- what is left
        have pcE : own_pc (B p) 32 = own_pc (own_clr (B p) z) 32 + 1 := by
          have := own_pc1 (a := own_clr (B p) z) (b := B p) (s := z) (by rw [cT, decide_eq_true rfl]; simp) (fun i => by
            rw [cT]
            by_cases e : i = z
            · rw [e, v, decide_eq_true rfl]; rfl
            · rw [decide_eq_false e]; simp) 32
          rw [if_pos (by omega)] at this
          exact this
        have loE : own_lo B P = own_lo (own_upd B p (own_clr (B p) z)) P + 1 := by
          have := own_sm1 (g := fun i => own_pc (B i) 32) (h := fun i => own_pc (own_upd B p (own_clr (B p) z) i) 32) (p := p) (fun i hi => by show own_pc (B i) 32 = own_pc (own_upd B p (own_clr (B p) z) i) 32; rw [own_upd2 B _ hi]) P hp
          have e1 : own_pc (own_upd B p (own_clr (B p) z) p) 32 = own_pc (own_clr (B p) z) 32 := by rw [own_upd1]
          unfold own_lo
          show own_sm (fun i => own_pc (B i) 32) P = own_sm (fun i => own_pc (own_upd B p (own_clr (B p) z) i) 32) P + 1
          have this : own_sm (fun i => own_pc (B i) 32) P + own_pc (own_upd B p (own_clr (B p) z) p) 32 = own_sm (fun i => own_pc (own_upd B p (own_clr (B p) z) i) 32) P + own_pc (B p) 32 := this
          omega
        have sub : ∀ (c' : Nat → Nat), (∀ x, x ≠ p → c' x = c x) → (c' p = c p ∨ c' p = 3) → ∀ x y, own_lv c' (own_upd B p (own_clr (B p) z)) x y = true → own_lv c B x y = true := fun c' h1 h2 x y hl => by
          unfold own_lv at hl ⊢
          rw [Bool.and_eq_true, decide_eq_true_iff] at hl ⊢
          by_cases e : x = p
          · subst e
            rw [own_upd1] at hl
            rcases h2 with h2 | h2
            · rw [h2, cT, Bool.and_eq_true] at hl; exact ⟨hl.1, hl.2.1⟩
            · omega
          · rw [h1 x e, own_upd2 B _ e] at hl; exact hl
        rw [show (setA s 2 p (Int32.ofNat (own_clr (B p) z))).2 2 p = Int32.ofNat (own_clr (B p) z) from by rw [setA_2, if_pos ⟨by trivial, by trivial⟩]]
        by_cases w : own_clr (B p) z = 0
        · rw [w, if_pos (by rfl : Int32.ofNat 0 = 0)]
          rw [bnd_eq, bnd_eq]
          refine ⟨_, own_upd c p 3, own_upd B p (own_clr (B p) z), rfl, ⟨⟨h4, h5, J.1.2.2.1, P9, J.1.2.2.2.2.1, F8⟩, fun x hx => ?_, fun x y hx hy hne hcx hcy hfe => ?_⟩, fun x y hx hy hl hxx => ?_, loE, ?_, rfl⟩
          · rw [w]
            by_cases e : x = p
            · subst e
              rw [own_upd1, own_upd1]
              simp only [setA_2]
              simp
              exact (own_k33 rfl).symm
            · rw [own_upd2 c _ e, own_upd2 B _ e]
              simp only [setA_2]
              simp only [e, and_false, if_false]
              exact h x hx
          · have ex' : x ≠ p := fun e => by rw [e, own_upd1] at hcx; omega
            have ey' : y ≠ p := fun e => by rw [e, own_upd1] at hcy; omega
            rw [own_upd2 c _ ex'] at hcx ⊢
            rw [own_upd2 c _ ey'] at hcy ⊢
            rw [own_upd2 B _ ex', own_upd2 B _ ey']
            exact hs x y hx hy hne hcx hcy hfe
          · have := T x y hx hy (sub _ (fun x e => own_upd2 c _ e) (Or.inr (own_upd1 _ _ _)) x y hl) hxx
            simp only [setA_2]
            simpa using this
          · unfold own_lv; rw [own_upd1, decide_eq_false (by omega), Bool.false_and]
        · rw [if_neg (own_nz (Nat.pos_of_ne_zero w) (by omega))]
          refine ⟨_, c, own_upd B p (own_clr (B p) z), rfl, ⟨⟨h4, h5, J.1.2.2.1, P9, J.1.2.2.2.2.1, F8⟩, fun x hx => ?_, fun x y hx hy hne hcx hcy hfe => ?_⟩, fun x y hx hy hl hxx => ?_, loE, ?_, rfl⟩
          · by_cases e : x = p
            · subst e
              rw [own_upd1]
              simp only [setA_2]
              refine ⟨by simpa using a1, by simp, a3, fun y => by omega, fun _ => ⟨by simpa using b1, b2, Nat.pos_of_ne_zero w, by omega⟩⟩
            · rw [own_upd2 B _ e]
              simp only [setA_2]
              simp only [e, and_false, if_false]
              exact h x hx
          · obtain ⟨k1, k2⟩ := hs x y hx hy hne hcx hcy hfe
            refine ⟨k1, fun i hi => ?_⟩
            by_cases e1 : x = p
            · have e2 : y ≠ p := fun e => hne (by rw [e1, e])
              rw [e1, own_upd1, own_upd2 B _ e2, cT, Bool.and_eq_true] at hi
              exact k2 i ⟨by rw [e1]; exact hi.1.1, hi.2⟩
            · by_cases e2 : y = p
              · rw [e2, own_upd1, own_upd2 B _ e1, cT, Bool.and_eq_true] at hi
                exact k2 i ⟨hi.1, by rw [e2]; exact hi.2.1⟩
              · rw [own_upd2 B _ e1, own_upd2 B _ e2] at hi; exact k2 i hi
          · have := T x y hx hy (sub _ (fun x e => rfl) (Or.inl rfl) x y hl) hxx
            simp only [setA_2]
            simpa using this
          · unfold own_lv; rw [own_upd1, ← ez, cT, decide_eq_true (rfl : z = z)]; simp
      · rw [if_pos ((own_tb bb (by omega)).mpr (Bool.eq_false_iff.mpr v))]
        exact ⟨fun _ => rfl, fun w => absurd w v⟩
    · rw [if_neg (fun w => r (by rw [show (0 : Int32) = Int32.ofNat 0 from rfl, N_inj ml (by omega)] at w; exact w))]
      exact ⟨fun _ => rfl, fun _ w => absurd w r⟩
end

/-! ### alloc -/
/-- as own_J, but a page may be in use without a live object -/
def own_J0 (P F : Nat) (c f B : Nat → Nat) (s : St) : Prop :=
  (s.1 4 = Int32.ofNat P ∧ s.1 5 = Int32.ofNat F ∧ 2 ≤ P ∧ P ≤ 9 ∧ 1 ≤ F ∧ F ≤ 8) ∧
  (∀ p, p < P → s.2 0 p = own_k (c p) ∧ s.2 2 p = Int32.ofNat (B p) ∧ c p ≤ 3 ∧ (c p = 3 → B p = 0 ∧ s.2 1 p = -1) ∧ (c p < 3 → s.2 1 p = Int32.ofNat (f p) ∧ f p < F ∧ B p < 2 ^ own_sl (c p))) ∧
  (∀ p q, p < P → q < P → p ≠ q → c p < 3 → c q < 3 → f p = f q → c p = c q ∧ ∀ i, ¬ ((B p).testBit i = true ∧ (B q).testBit i = true))
def own_cc (u : Nat) : Nat → Nat
  | 0 => 0
  | m + 1 => own_cc u m + (if u.testBit m = true then 0 else 1)
theorem own_ccle (u : Nat) : ∀ m, own_cc u m ≤ m := by
  intro m
  induction m with
  | zero => exact Nat.le_refl 0
  | succ m ih => unfold own_cc; split <;> omega
theorem own_cc0 : ∀ m, own_cc 0 m = m := by
  intro m
  induction m with
  | zero => rfl
  | succ m ih => unfold own_cc; rw [ih, Nat.zero_testBit]; rfl
theorem own_pred (l : Nat) : Int32.ofNat (l + 1) + (-1) = Int32.ofNat l := by
  rw [← N_succ, Int32.add_assoc, show (1 : Int32) + -1 = 0 from rfl, Int32.add_zero]
section
variable {n P F : Nat} {c f B : Nat → Nat} {s : St}
theorem own_J0of (J : own_J P F c f B s) : own_J0 P F c f B s :=
  ⟨J.1, fun p hp => ⟨(J.2.1 p hp).1, (J.2.1 p hp).2.1, (J.2.1 p hp).2.2.1, (J.2.1 p hp).2.2.2.1, fun h => ⟨((J.2.1 p hp).2.2.2.2 h).1, ((J.2.1 p hp).2.2.2.2 h).2.1, ((J.2.1 p hp).2.2.2.2 h).2.2.2⟩⟩, J.2.2⟩
theorem own_Bb0 (J : own_J0 P F c f B s) {p : Nat} (hp : p < P) : B p < 65536 := by
  obtain ⟨-, -, c3, h3, h⟩ := J.2.1 p hp
  by_cases q : c p = 3
  · rw [(h3 q).1]; omega
  · have h := (h (by omega)).2.2
    rcases own_sl3 (c := c p) (by omega) with ⟨-, e⟩ | ⟨-, e⟩ | ⟨-, e⟩ <;> rw [e] at h <;> omega
theorem own_unB0 (J : own_J0 P F c f B s) (z : Nat) : ∀ m, m ≤ P → own_un c f B z m < 65536 := by
  intro m
  induction m with
  | zero => intro _; show 0 < 65536; omega
  | succ m ih =>
    intro h
    unfold own_un
    split
    · exact Nat.or_lt_two_pow (n := 16) (ih (by omega)) (own_Bb0 J (by omega))
    · exact ih (by omega)
theorem own_union0 (hn : 100 ≤ n) (J : own_J0 P F c f B s) {z : Nat} (hz : z < 16) : f_unionOf n s (Int32.ofNat z) = some (Int32.ofNat (own_un c f B z P)) := by
  have J' := J
  obtain ⟨⟨h4, h5, P2, P9, F1, F8⟩, hp, -⟩ := J'
  have lp : ∀ (m i k : Nat), i + m = P → m < k → f_unionOf_4 n s k (Int32.ofNat z) (Int32.ofNat (own_un c f B z i)) (Int32.ofNat i) = some (Int32.ofNat (own_un c f B z P)) := by
    intro m
    induction m with
    | zero =>
      intro i k hi hk
      obtain ⟨k, rfl⟩ : ∃ k', k = k' + 1 := ⟨k - 1, by omega⟩
      have : i = P := by omega
      subst this
      rw [u_unionOf_4, h4, if_neg (nltN (by omega))]
    | succ m ih =>
      intro i k hi hk
      obtain ⟨k, rfl⟩ : ∃ k', k = k' + 1 := ⟨k - 1, by omega⟩
      obtain ⟨a1, a2, a3, a4, a5⟩ := hp i (by omega)
      have ub := own_unB0 J z i (by omega)
      have bb := own_Bb0 J (p := i) (by omega)
      have un : own_un c f B z (i + 1) = if c i < 3 ∧ f i = z then own_un c f B z i ||| B i else own_un c f B z i := rfl
      rw [u_unionOf_4, h4, if_pos (ltN (by omega) (by omega)), grd_pos (inbN (by omega) (by omega)), ix_N (by omega), a1, N_succ]
      have go := ih (i + 1) k (by omega) (by omega)
      by_cases q : c i = 3
      · rw [if_pos ((own_k3 a3).mpr q)]
        rw [un, if_neg (fun w => by omega)] at go; exact go
      · rw [if_neg (fun w => q ((own_k3 a3).mp w)), (a5 (by omega)).1]
        have fl := (a5 (by omega)).2.1
        by_cases r : f i = z
        · rw [if_pos (by rw [r]), a2, own_or ub bb]
          rw [un, if_pos ⟨by omega, r⟩] at go; exact go
        · rw [if_neg (fun w => r ((N_inj (by omega) (by omega)).mp w))]
          rw [un, if_neg (fun w => r w.2)] at go; exact go
  exact lp P 0 n (by omega) (by omega)
theorem own_slN {c : Nat} (h : c < 3) (s : St) : f_slotsOf s (Int32.ofNat c) = some (Int32.ofNat (own_sl c)) := by
  have : c = 0 ∨ c = 1 ∨ c = 2 := by omega
  rcases this with rfl | rfl | rfl <;> rfl
theorem own_szN' {c : Nat} (h : c < 3) (s : St) : f_sizeOf s (Int32.ofNat c) = some (Int32.ofNat (2 ^ c)) := by
  rw [← own_kN h]; exact own_szN h s
theorem own_clear (hn : 100 ≤ n) {u m : Nat} (hu : u < 65536) (hm : m ≤ 16) : f_countClear n s (Int32.ofNat u) (Int32.ofNat m) = some (Int32.ofNat (own_cc u m)) := by
  have lp : ∀ (d i k : Nat), i + d = m → d < k → f_countClear_5 n s k (Int32.ofNat u) (Int32.ofNat m) (Int32.ofNat (own_cc u i)) (Int32.ofNat i) = some (Int32.ofNat (own_cc u m)) := by
    intro d
    induction d with
    | zero =>
      intro i k hi hk
      obtain ⟨k, rfl⟩ : ∃ k', k = k' + 1 := ⟨k - 1, by omega⟩
      have : i = m := by omega
      subst this
      rw [u_countClear_5, if_neg (nltN (by omega))]
    | succ d ih =>
      intro i k hi hk
      obtain ⟨k, rfl⟩ : ∃ k', k = k' + 1 := ⟨k - 1, by omega⟩
      have go := ih (i + 1) k (by omega) (by omega)
      have cc : own_cc u (i + 1) = own_cc u i + (if u.testBit i = true then 0 else 1) := rfl
      rw [u_countClear_5, if_pos (ltN (by omega) (by omega)), N_succ, N_succ]
      by_cases q : u.testBit i = true
      · rw [if_neg (fun w => by rw [own_tb hu (by omega), q] at w; cases w)]
        rw [cc, if_pos q] at go; exact go
      · rw [if_pos ((own_tb hu (by omega)).mpr (Bool.eq_false_iff.mpr q))]
        rw [cc, if_neg q] at go; exact go
  exact lp m 0 n (by omega) (by omega)
theorem own_nth (hn : 100 ≤ n) {u m k : Nat} (hu : u < 65536) (hm : m ≤ 16) (hk : k < own_cc u m) : ∃ z, z < m ∧ u.testBit z = false ∧ f_nthClear n s (Int32.ofNat u) (Int32.ofNat m) (Int32.ofNat k) = some (Int32.ofNat z) := by
  have lp : ∀ (d i k l : Nat), i + d = m → d < k → own_cc u i + l < own_cc u m → ∃ z, z < m ∧ u.testBit z = false ∧ f_nthClear_6 n s k (Int32.ofNat u) (Int32.ofNat m) (Int32.ofNat l) (Int32.ofNat i) = some (Int32.ofNat z) := by
    intro d
    induction d with
    | zero => intro i k l hi hk hl; rw [show i = m by omega] at hl; omega
    | succ d ih =>
      intro i k l hi hk hl
      obtain ⟨k, rfl⟩ : ∃ k', k = k' + 1 := ⟨k - 1, by omega⟩
      have cc : own_cc u (i + 1) = own_cc u i + (if u.testBit i = true then 0 else 1) := rfl
      have cm := own_ccle u m
      rw [u_nthClear_6, if_pos (ltN (by omega) (by omega)), N_succ]
      by_cases q : u.testBit i = true
      · rw [if_neg (fun w => by rw [own_tb hu (by omega), q] at w; cases w)]
        exact ih (i + 1) k l (by omega) (by omega) (by rw [cc, if_pos q]; omega)
      · rw [if_pos ((own_tb hu (by omega)).mpr (Bool.eq_false_iff.mpr q))]
        cases l with
        | zero => rw [if_pos (by rfl : Int32.ofNat 0 = 0)]; exact ⟨i, by omega, Bool.eq_false_iff.mpr q, rfl⟩
        | succ l =>
          rw [if_neg (own_nz (by omega) (by omega)), own_pred]
          exact ih (i + 1) k l (by omega) (by omega) (by rw [cc, if_neg q]; omega)
  have cm := own_ccle u m
  exact lp m 0 n k (by omega) (by omega) (by show 0 + k < _; omega)
/-- zeroing -/
theorem own_pl96 {p sz z b : Nat} (hsz : sz ≤ 4) (hb : b + sz ≤ 256) (hp : p < 16) (hz : z < 16) : ∀ (m w k : Nat) (s : St), w + m = sz → m < k → ∃ t, f_placeObject_96 n k (Int32.ofNat p) (Int32.ofNat sz) (Int32.ofNat z) (Int32.ofNat b) (Int32.ofNat w) s = some (Int32.ofNat (16 * p + z * sz), t) ∧ t.1 = s.1 ∧ (∀ j, j ≠ 3 → t.2 j = s.2 j) ∧ (∀ x, t.2 3 x = if b + w ≤ x ∧ x < b + sz then 0 else s.2 3 x) := by
  intro m
  induction m with
  | zero =>
    intro w k s hw hk
    obtain ⟨k, rfl⟩ : ∃ k', k = k' + 1 := ⟨k - 1, by omega⟩
    rw [u_placeObject_96, if_neg (by rw [show w = sz by omega]; exact nltN (by omega)), show (16 : Int32) = Int32.ofNat 16 from rfl, N_mul, N_mul, N_add, Nat.mul_comm p 16]
    exact ⟨s, rfl, rfl, fun _ _ => rfl, fun x => by rw [if_neg (by omega)]⟩
  | succ m ih =>
    intro w k s hw hk
    obtain ⟨k, rfl⟩ : ∃ k', k = k' + 1 := ⟨k - 1, by omega⟩
    rw [u_placeObject_96, if_pos (ltN (by omega) (by omega)), N_add, if_neg (N_neg (by omega)), if_pos (ltZ (z := 256) 256 rfl (by omega) (by omega)), grd_pos (inbN (by omega) (by omega)), ix_N (by omega), bnd_eq, N_succ]
    obtain ⟨t, t1, t2, t3, t4⟩ := ih (w + 1) k (setA s 3 (b + w) 0) (by omega) (by omega)
    refine ⟨t, t1, t2, fun j hj => ?_, fun x => ?_⟩
    · rw [t3 j hj]; funext x; rw [setA_2, if_neg (fun z => hj z.1)]
    · rw [t4, setA_2]
      by_cases e : x = b + w
      · rw [if_neg (by omega), if_pos ⟨by trivial, e⟩, if_pos (by omega)]
      · rw [if_neg (fun z : 3 = 3 ∧ x = b + w => e z.2)]
        by_cases r : b + (w + 1) ≤ x ∧ x < b + sz
        · rw [if_pos r, if_pos (by omega)]
        · rw [if_neg r, if_neg (by omega)]
theorem own_place (hn : 100 ≤ n) (J : own_J0 P F c f B s) {p : Nat} (hp : p < P) (hc : c p < 3) (hcl : 0 < own_cc (own_un c f B (f p) P) (own_sl (c p))) :
    ∃ z t, z < own_sl (c p) ∧ (own_un c f B (f p) P).testBit z = false ∧ f_placeObject n (Int32.ofNat p) (Int32.ofNat (c p)) s = some (Int32.ofNat (16 * p + z * 2 ^ c p), t) ∧ (∀ j, j ≠ 6 → t.1 j = s.1 j) ∧ t.1 6 = s.1 6 * 1103515245 + 12345 ∧ (∀ j, j < 2 → t.2 j = s.2 j) ∧ (∀ x, t.2 2 x = if x = p then Int32.ofNat (B p ||| 2 ^ z) else s.2 2 x) ∧ (∀ x, t.2 3 x = if f p * 16 + z * 2 ^ c p ≤ x ∧ x < f p * 16 + z * 2 ^ c p + 2 ^ c p then 0 else s.2 3 x) := by
  have J' := J
  obtain ⟨⟨h4, h5, P2, P9, F1, F8⟩, h, -⟩ := J'
  obtain ⟨a1, a2, a3, a4, a5⟩ := h p hp
  obtain ⟨b1, b2, b3⟩ := a5 hc
  have ub := own_unB0 J (f p) P (Nat.le_refl _)
  have sl := own_sl3 hc
  have p2 := own_p2 hc
  have bb := own_Bb0 J hp
  have cm := own_ccle (own_un c f B (f p) P) (own_sl (c p))
  obtain ⟨v, hv⟩ : ∃ v : Int32, f_step s = some (v &&& 32767, setI s 6 (s.1 6 * 1103515245 + 12345)) := ⟨_, rfl⟩
  have r := and_rng v (m := 32767) (by omega)
  rw [show Int32.ofNat 32767 = (32767 : Int32) from rfl] at r
  obtain ⟨R, eR, -, hR⟩ := own_nat (x := v &&& 32767) (lo := 0) (hi := 32767) (by omega) (by omega)
  rw [eR] at hv
  obtain ⟨cl, ecl⟩ : ∃ cl, cl = own_cc (own_un c f B (f p) P) (own_sl (c p)) := ⟨_, rfl⟩
  rw [← ecl] at hcl cm
  have ml := Nat.mod_lt R hcl
  obtain ⟨z, z1, z2, z3⟩ := own_nth (n := n) (s := setI s 6 (s.1 6 * 1103515245 + 12345)) hn ub (m := own_sl (c p)) (k := R % cl) (by omega) (by rw [← ecl]; exact ml)
  unfold f_placeObject
  rw [own_slN hc, Option.bind_some, own_szN' hc, Option.bind_some, grd_pos (inbN (by omega) (by omega)), ix_N (by omega), b1, own_union0 hn J (by omega), Option.bind_some, own_clear hn ub (by omega), Option.bind_some, ← ecl, if_neg (fun w => by rw [show (1 : Int32) = Int32.ofNat 1 from rfl, N_lt (by omega) (by omega)] at w; omega)]
  unfold f_placeObject_47
  rw [hv, Option.bind_some, grd_pos (own_nz hcl (by omega))]
  show ∃ z t, z < own_sl (c p) ∧ (own_un c f B (f p) P).testBit z = false ∧ ((f_nthClear n (setI s 6 (s.1 6 * 1103515245 + 12345)) (Int32.ofNat (own_un c f B (f p) P)) (Int32.ofNat (own_sl (c p))) (Int32.ofNat R % Int32.ofNat cl)).bind fun q4 => grd (inb (Int32.ofNat p) 16) <| bnd (setA (setI s 6 (s.1 6 * 1103515245 + 12345)) 2 (ix (Int32.ofNat p)) (s.2 2 (ix (Int32.ofNat p)) ||| ((1 : Int32) <<< (q4 &&& 31)))) fun s7 => bnd ((Int32.ofNat (f p) * (16 : Int32)) + (q4 * Int32.ofNat (2 ^ c p))) fun v8 => f_placeObject_96 n n (Int32.ofNat p) (Int32.ofNat (2 ^ c p)) q4 v8 (0 : Int32) s7) = _ ∧ _
  have zz : z * 2 ^ c p < 2147483648 := by
    rcases p2 with ⟨-, e⟩ | ⟨-, e⟩ | ⟨-, e⟩ <;> rw [e] <;> omega
  have bnd' : f p * 16 + z * 2 ^ c p + 2 ^ c p ≤ 256 := by
    rcases p2 with ⟨d, e⟩ | ⟨d, e⟩ | ⟨d, e⟩ <;> rw [e] <;> rcases sl with ⟨d', e'⟩ | ⟨d', e'⟩ | ⟨d', e'⟩ <;> omega
  have p16 : 2 ^ z < 65536 := Nat.pow_lt_pow_right (m := z) (n := 16) (by omega) (by omega)
  rw [rem_N (by omega) (by omega) hcl, z3, Option.bind_some, grd_pos (inbN (by omega) (by omega)), ix_N (by omega), a2, own_shl (by omega), own_or bb p16, bnd_eq, bnd_eq, show (16 : Int32) = Int32.ofNat 16 from rfl, N_mul, N_mul, N_add]
  obtain ⟨t, t1, t2, t3, t4⟩ := own_pl96 (n := n) (p := p) (sz := 2 ^ c p) (z := z) (b := f p * 16 + z * 2 ^ c p) (by omega) bnd' (by omega) (by omega) (2 ^ c p) 0 n (setA (setI s 6 (s.1 6 * 1103515245 + 12345)) 2 p (Int32.ofNat (B p ||| 2 ^ z))) (by omega) (by omega)
  refine ⟨z, t, z1, z2, t1, fun j hj => ?_, ?_, fun j hj => ?_, fun x => ?_, fun x => ?_⟩
  · rw [t2, setA_1, setI_1, if_neg hj]
  · rw [t2, setA_1, setI_1, if_pos (by trivial)]
  · rw [t3 j (by omega)]; funext x; rw [setA_2, if_neg (fun z => by omega), setI_2]
  · rw [t3 2 (by decide), setA_2, setI_2]
    by_cases e : x = p
    · rw [if_pos ⟨by trivial, e⟩, if_pos e]
    · rw [if_neg (fun z => e z.2), if_neg e]
  · have e3 : (setA (setI s 6 (s.1 6 * 1103515245 + 12345)) 2 p (Int32.ofNat (B p ||| 2 ^ z))).2 3 x = s.2 3 x := by rw [setA_2, if_neg (fun z => by omega)]; rfl
    rw [t4, e3, Nat.add_zero]
theorem own_find (hn : 100 ≤ n) (J : own_J P F c f B s) {cls : Nat} (hcls : cls < 3) : ∃ v, f_findEligible n s (Int32.ofNat cls) = some v ∧ (v = -1 ∨ ∃ p, p < P ∧ c p = cls ∧ v = Int32.ofNat p ∧ 0 < own_cc (own_un c f B (f p) P) (own_sl (c p))) := by
  have J' := J
  obtain ⟨⟨h4, h5, P2, P9, F1, F8⟩, hp, -⟩ := J'
  have sl := own_sl3 hcls
  have lp : ∀ (m i k : Nat), i + m = P → m < k → ∃ v, f_findEligible_8 n s k (Int32.ofNat cls) (Int32.ofNat (own_sl cls)) (Int32.ofNat i) = some v ∧ (v = -1 ∨ ∃ p, p < P ∧ c p = cls ∧ v = Int32.ofNat p ∧ 0 < own_cc (own_un c f B (f p) P) (own_sl (c p))) := by
    intro m
    induction m with
    | zero =>
      intro i k hi hk
      obtain ⟨k, rfl⟩ : ∃ k', k = k' + 1 := ⟨k - 1, by omega⟩
      rw [u_findEligible_8, h4, if_neg (by rw [show i = P by omega]; exact nltN (by omega))]
      exact ⟨-1, rfl, Or.inl rfl⟩
    | succ m ih =>
      intro i k hi hk
      obtain ⟨k, rfl⟩ : ∃ k', k = k' + 1 := ⟨k - 1, by omega⟩
      obtain ⟨a1, a2, a3, a4, a5⟩ := hp i (by omega)
      have go := ih (i + 1) k (by omega) (by omega)
      rw [u_findEligible_8, h4, if_pos (ltN (by omega) (by omega)), grd_pos (inbN (by omega) (by omega)), ix_N (by omega), a1, N_succ]
      by_cases q : c i = cls
      · obtain ⟨b1, b2, b3, b4⟩ := a5 (by omega)
        have ub := own_unB J (f i) P (Nat.le_refl _)
        have cm := own_ccle (own_un c f B (f i) P) (own_sl cls)
        rw [own_kN (by omega), if_pos (by rw [q]), b1, own_union hn J (by omega), Option.bind_some, own_clear hn ub (by omega), Option.bind_some]
        by_cases r : 0 < own_cc (own_un c f B (f i) P) (own_sl cls)
        · rw [if_pos (by rw [show (0 : Int32) = Int32.ofNat 0 from rfl]; exact ltN r (by omega))]
          exact ⟨_, rfl, Or.inr ⟨i, by omega, q, rfl, by rw [q]; exact r⟩⟩
        · rw [if_neg (fun w => by rw [show (0 : Int32) = Int32.ofNat 0 from rfl, N_lt (by omega) (by omega)] at w; exact r w)]
          exact go
      · rw [if_neg (fun w => q ?_)]
        · exact go
        · by_cases e : c i = 3
          · rw [own_k33 e] at w
            exact absurd (by rw [← w]; decide) (N_neg (i := cls) (by omega))
          · rw [own_kN (by omega), N_inj (by omega) (by omega)] at w; exact w
  unfold f_findEligible
  rw [own_slN hcls, Option.bind_some]
  exact lp P 0 n (by omega) (by omega)
theorem own_lup (hn : 100 ≤ n) (J : own_J P F c f B s) : ∃ v, f_lowestUnusedPage n s = some v ∧ ((v = -1 ∧ own_ct (fun p => decide (c p < 3)) P = P) ∨ ∃ p, p < P ∧ c p = 3 ∧ v = Int32.ofNat p) := by
  obtain ⟨⟨h4, h5, P2, P9, F1, F8⟩, hp, -⟩ := J
  have lp : ∀ (m i k : Nat), i + m = P → m < k → (∀ p, p < i → c p < 3) → ∃ v, f_lowestUnusedPage_2 n s k (Int32.ofNat i) = some v ∧ ((v = -1 ∧ own_ct (fun p => decide (c p < 3)) P = P) ∨ ∃ p, p < P ∧ c p = 3 ∧ v = Int32.ofNat p) := by
    intro m
    induction m with
    | zero =>
      intro i k hi hk hu
      obtain ⟨k, rfl⟩ : ∃ k', k = k' + 1 := ⟨k - 1, by omega⟩
      rw [u_lowestUnusedPage_2, h4, if_neg (by rw [show i = P by omega]; exact nltN (by omega))]
      exact ⟨-1, rfl, Or.inl ⟨rfl, own_ctall P (fun p h => decide_eq_true (hu p (by omega)))⟩⟩
    | succ m ih =>
      intro i k hi hk hu
      obtain ⟨k, rfl⟩ : ∃ k', k = k' + 1 := ⟨k - 1, by omega⟩
      obtain ⟨a1, a2, a3, a4, a5⟩ := hp i (by omega)
      rw [u_lowestUnusedPage_2, h4, if_pos (ltN (by omega) (by omega)), grd_pos (inbN (by omega) (by omega)), ix_N (by omega), a1, N_succ]
      by_cases q : c i = 3
      · rw [if_pos (own_k33 q)]; exact ⟨_, rfl, Or.inr ⟨i, by omega, q, rfl⟩⟩
      · rw [if_neg (own_kn3 (by omega))]
        exact ih (i + 1) k (by omega) (by omega) (fun p h => by
          by_cases e : p = i
          · rw [e]; omega
          · exact hu p (by omega))
  exact lp P 0 n (by omega) (by omega) (fun p h => by omega)
theorem own_lff (hn : 100 ≤ n) (J : own_J P F c f B s) : ∃ v, f_lowestFreeFrame n s = some v ∧ ((v = -1 ∧ own_ct (fun z => own_on c f z P) F = F) ∨ ∃ z, z < F ∧ own_on c f z P = false ∧ v = Int32.ofNat z) := by
  have F8 := J.1.2.2.2.2.2
  have lp : ∀ (m i k : Nat), i + m = F → m < k → (∀ z, z < i → own_on c f z P = true) → ∃ v, f_lowestFreeFrame_2 n s k (Int32.ofNat i) = some v ∧ ((v = -1 ∧ own_ct (fun z => own_on c f z P) F = F) ∨ ∃ z, z < F ∧ own_on c f z P = false ∧ v = Int32.ofNat z) := by
    intro m
    induction m with
    | zero =>
      intro i k hi hk hu
      obtain ⟨k, rfl⟩ : ∃ k', k = k' + 1 := ⟨k - 1, by omega⟩
      rw [u_lowestFreeFrame_2, J.1.2.1, if_neg (by rw [show i = F by omega]; exact nltN (by omega))]
      exact ⟨-1, rfl, Or.inl ⟨rfl, own_ctall F (fun p h => hu p (by omega))⟩⟩
    | succ m ih =>
      intro i k hi hk hu
      obtain ⟨k, rfl⟩ : ∃ k', k = k' + 1 := ⟨k - 1, by omega⟩
      obtain ⟨v, v1, v2⟩ := own_fcls hn J (z := i) (by omega)
      rw [u_lowestFreeFrame_2, J.1.2.1, if_pos (ltN (by omega) (by omega)), v1, Option.bind_some, N_succ]
      rcases v2 with ⟨e1, e2⟩ | ⟨p, e1, e2, e3, e4, e5⟩
      · rw [if_pos e1]; exact ⟨_, rfl, Or.inr ⟨i, by omega, e2, rfl⟩⟩
      · rw [if_neg (by rw [e4, ← own_kN e2]; exact own_kn3 e2)]
        exact ih (i + 1) k (by omega) (by omega) (fun z h => by
          by_cases e : z = i
          · rw [e]; exact e5
          · exact hu z (by omega))
  exact lp F 0 n (by omega) (by omega) (fun p h => by omega)
/-- what an allocation leaves -/
def own_New (P F cls K : Nat) (s t : St) (A : Nat) : Prop := ∃ c f B, own_J P F c f B t ∧ A < 16 * P ∧ c (A / 16) = cls ∧ A % 16 % 2 ^ cls = 0 ∧ A % 16 + 2 ^ cls ≤ 16 ∧ own_lo B P = K + 1 ∧ t.1 6 = s.1 6 * 1103515245 + 12345 ∧
  (∀ i, i < 2 ^ cls → own_lv c B (A / 16) (A % 16 + i) = true ∧ t.2 3 (f (A / 16) * 16 + (A % 16 + i)) = 0) ∧ own_Tx (fun p off => p = A / 16 ∧ A % 16 ≤ off ∧ off < A % 16 + 2 ^ cls) P c f B t
theorem own_placed (hn : 100 ≤ n) (J : own_J0 P F c f B s) (T : own_Tg P c f B s) {p : Nat} (hp : p < P) (hc : c p < 3) (hB : ∀ q, q < P → q ≠ p → c q < 3 → 0 < B q) (hcl : 0 < own_cc (own_un c f B (f p) P) (own_sl (c p))) :
    ∃ A t, f_placeObject n (Int32.ofNat p) (Int32.ofNat (c p)) s = some (Int32.ofNat A, t) ∧ own_New P F (c p) (own_lo B P) s t A := by
  obtain ⟨z, t, z1, z2, t1, t2, t3, t4, t5, t6⟩ := own_place hn J hp hc hcl
  have J' := J
  obtain ⟨⟨h4, h5, P2, P9, F1, F8⟩, h, hs⟩ := J'
  have sl := own_sl3 hc
  have p2 := own_p2 hc
  have bb := own_Bb0 J hp
  have fp := ((h p hp).2.2.2.2 hc).2.1
  -- the slot is free on every page of the frame
  have free : ∀ q, q < P → c q < 3 → f q = f p → (B q).testBit z = false := fun q hq hcq hf => by
    rw [Bool.eq_false_iff]
    intro w
    have := (own_unT c f B (f p) z P).mpr ⟨q, hq, hcq, hf, w⟩
    rw [z2] at this; cases this
  obtain ⟨B', eB⟩ : ∃ B', B' = own_upd B p (B p ||| 2 ^ z) := ⟨_, rfl⟩
  have B1 : B' p = B p ||| 2 ^ z := by rw [eB, own_upd1]
  have B2 : ∀ q, q ≠ p → B' q = B q := fun q hq => by rw [eB, own_upd2 B _ hq]
  have bT : ∀ i, (B' p).testBit i = ((B p).testBit i || decide (i = z)) := fun i => by
    rw [B1, Nat.testBit_or, Nat.testBit_two_pow]
    by_cases e : z = i
    · rw [decide_eq_true e, decide_eq_true e.symm]
    · rw [decide_eq_false e, decide_eq_false (fun w => e w.symm)]
  clear eB
  have bpos : 0 < B' p := Nat.pos_of_ne_zero (fun w => by
    have := bT z
    rw [w, Nat.zero_testBit, decide_eq_true rfl, Bool.or_true] at this
    cases this)
  have blt : B' p < 2 ^ own_sl (c p) := by rw [B1]; exact Nat.or_lt_two_pow ((h p hp).2.2.2.2 hc).2.2 (Nat.pow_lt_pow_right (by omega) z1)
  have J1 : own_J P F c f B' t := by
    refine ⟨⟨by rw [t2 4 (by decide)]; exact h4, by rw [t2 5 (by decide)]; exact h5, P2, P9, F1, F8⟩, fun q hq => ?_, fun q r hq hr hne hcq hcr hf => ?_⟩
    · rw [t4 0 (by omega), t4 1 (by omega), t5]
      obtain ⟨a1, a2, a3, a4, a5⟩ := h q hq
      by_cases e : q = p
      · subst e
        rw [if_pos rfl, B1]
        exact ⟨a1, rfl, a3, fun w => by omega, fun w => ⟨(a5 w).1, (a5 w).2.1, by rw [← B1]; exact bpos, by rw [← B1]; exact blt⟩⟩
      · rw [if_neg e, B2 q e]
        exact ⟨a1, a2, a3, a4, fun w => ⟨(a5 w).1, (a5 w).2.1, hB q hq e w, (a5 w).2.2⟩⟩
    · obtain ⟨k1, k2⟩ := hs q r hq hr hne hcq hcr hf
      refine ⟨k1, fun i hi => ?_⟩
      by_cases e1 : q = p
      · have e2 : r ≠ p := fun e => hne (by rw [e1, e])
        rw [e1, bT, B2 r e2, Bool.or_eq_true, decide_eq_true_iff] at hi
        obtain ⟨h1 | h1, h2⟩ := hi
        · exact k2 i ⟨by rw [e1]; exact h1, h2⟩
        · rw [h1, free r hr hcr (by rw [← hf, e1])] at h2; cases h2
      · by_cases e2 : r = p
        · rw [e2, bT, B2 q e1, Bool.or_eq_true, decide_eq_true_iff] at hi
          obtain ⟨h1, h2 | h2⟩ := hi
          · exact k2 i ⟨h1, by rw [e2]; exact h2⟩
          · rw [h2, free q hq hcq (by rw [hf, e2])] at h1; cases h1
        · rw [B2 q e1, B2 r e2] at hi; exact k2 i hi
  obtain ⟨o, eo⟩ : ∃ o, o = z * 2 ^ c p := ⟨_, rfl⟩
  have ob : o + 2 ^ c p ≤ 16 := by rw [eo]; rcases p2 with ⟨d, e⟩ | ⟨d, e⟩ | ⟨d, e⟩ <;> rw [e] <;> rcases sl with ⟨d', e'⟩ | ⟨d', e'⟩ | ⟨d', e'⟩ <;> omega
  rw [← eo] at t1 t6
  have A1 : (16 * p + o) / 16 = p := by omega
  have A2 : (16 * p + o) % 16 = o := by omega
  have om : o % 2 ^ c p = 0 := by rw [eo]; exact Nat.mul_mod_left _ _
  have od : ∀ y, (o ≤ y ∧ y < o + 2 ^ c p) ↔ y / 2 ^ c p = z := fun y => by
    rw [eo]
    rcases p2 with ⟨d, e⟩ | ⟨d, e⟩ | ⟨d, e⟩ <;> rw [e] <;> omega
  have lvp : ∀ y, own_lv c B' p y = (own_lv c B p y || decide (y / 2 ^ c p = z)) := fun y => by
    unfold own_lv
    rw [bT, decide_eq_true hc, Bool.true_and, Bool.true_and]
  refine ⟨16 * p + o, t, t1, c, f, B', J1, by omega, by rw [A1], by rw [A2]; exact om, by rw [A2]; exact ob, ?_, t3, fun i hi => ?_, fun q off hq ho hl hx => ?_⟩
  · have s1 := own_sm1 (g := fun i => own_pc (B' i) 32) (h := fun i => own_pc (B i) 32) (p := p) (fun i hi => by show own_pc (B' i) 32 = own_pc (B i) 32; rw [B2 i hi]) P hp
    have s2 := own_pc1 (a := B p) (b := B' p) (s := z) (free p hp hc rfl) bT 32
    rw [if_pos (by omega)] at s2
    have s1 : own_lo B' P + own_pc (B p) 32 = own_lo B P + own_pc (B' p) 32 := s1
    omega
  · rw [A1, A2, lvp, (od (o + i)).mp ⟨by omega, by omega⟩, decide_eq_true rfl, Bool.or_true, t6, if_pos ⟨by omega, by omega⟩]
    exact ⟨rfl, rfl⟩
  · rw [A1, A2] at hx
    rw [t6]
    by_cases e : q = p
    · subst e
      rw [lvp] at hl
      have nd : ¬ (off / 2 ^ c q = z) := fun w => hx ⟨rfl, (od off).mpr w⟩
      rw [decide_eq_false nd, Bool.or_false] at hl
      rw [if_neg (fun w => nd ((od off).mp ⟨by omega, by omega⟩))]
      exact T q off hq ho hl
    · have hl' : own_lv c B q off = true := by unfold own_lv at hl ⊢; rw [B2 q e] at hl; exact hl
      obtain ⟨g1, g2, g3⟩ := own_lvF J1 hq hl
      rw [B2 q e] at g3
      rw [if_neg (fun w => ?_)]
      · exact T q off hq ho hl'
      · have ff : f q = f p := by omega
        have dz := (od off).mp ⟨by omega, by omega⟩
        obtain ⟨k1, -⟩ := hs q p hq hp e g1 hc ff
        rw [k1, dz, free q hq g1 ff] at g3; cases g3
theorem own_alloc (hn : 100 ≤ n) (J : own_J P F c f B s) (T : own_Tg P c f B s) {cls : Nat} (hcls : cls < 3) :
    (f_alloc n (Int32.ofNat cls) s = some (-2, s) ∧ own_ct (fun p => decide (c p < 3)) P = P) ∨ (f_alloc n (Int32.ofNat cls) s = some (-3, s) ∧ own_ct (fun z => own_on c f z P) F = F) ∨
    (∃ A t, f_alloc n (Int32.ofNat cls) s = some (Int32.ofNat A, t) ∧ own_New P F cls (own_lo B P) s t A) := by
  have J' := J
  obtain ⟨⟨h4, h5, P2, P9, F1, F8⟩, h, hs⟩ := J'
  unfold f_alloc f_alloc_66
  rw [if_neg (N_neg (by omega)), if_neg (fun w => by rw [show (2 : Int32) = Int32.ofNat 2 from rfl, N_lt (by omega) (by omega)] at w; omega)]
  obtain ⟨v, v1, v2⟩ := own_find hn J hcls
  rw [v1, Option.bind_some]
  rcases v2 with rfl | ⟨p, p1, p2, rfl, p4⟩
  · rw [if_pos (by decide)]
    obtain ⟨v, v1, v2⟩ := own_lup hn J
    rw [v1, Option.bind_some]
    rcases v2 with ⟨rfl, e⟩ | ⟨p, p1, p2, rfl⟩
    · rw [if_pos (by decide)]; exact Or.inl ⟨rfl, e⟩
    · rw [if_neg (N_neg (by omega))]
      obtain ⟨v, v1, v2⟩ := own_lff hn J
      rw [v1, Option.bind_some]
      rcases v2 with ⟨rfl, e⟩ | ⟨z, z1, z2, rfl⟩
      · rw [if_pos (by decide)]; exact Or.inr (Or.inl ⟨rfl, e⟩)
      · rw [if_neg (N_neg (by omega)), grd_pos (inbN (by omega) (by omega)), bnd_eq, bnd_eq, bnd_eq, ix_N (by omega)]
        obtain ⟨t, et⟩ : ∃ t, t = setA (setA (setA s 0 p (Int32.ofNat cls)) 1 p (Int32.ofNat z)) 2 p 0 := ⟨_, rfl⟩
        rw [← et]
        have o0 : ∀ x, t.2 0 x = if x = p then Int32.ofNat cls else s.2 0 x := fun x => by rw [et]; simp [setA_2]
        have o1 : ∀ x, t.2 1 x = if x = p then Int32.ofNat z else s.2 1 x := fun x => by rw [et]; simp [setA_2]
        have o2 : ∀ x, t.2 2 x = if x = p then 0 else s.2 2 x := fun x => by rw [et]; simp [setA_2]
        have o3 : t.2 3 = s.2 3 := by rw [et]; funext x; simp [setA_2]
        have ot : t.1 = s.1 := by rw [et]; rfl
        clear et
        have Bp := ((h p p1).2.2.2.1 p2).1
        have off : ∀ q, q < P → c q < 3 → f q ≠ z := fun q hq hcq hf => by
          have := (own_onT c f z P).mpr ⟨q, hq, hcq, hf⟩
          rw [z2] at this; cases this
        have ne : ∀ q, c q < 3 → q ≠ p := fun q hq e => by rw [e] at hq; omega
        have J0 : own_J0 P F (own_upd c p cls) (own_upd f p z) B t := by
          refine ⟨⟨by rw [ot]; exact h4, by rw [ot]; exact h5, P2, P9, F1, F8⟩, fun q hq => ?_, fun q r hq hr hne hcq hcr hf => ?_⟩
          · rw [o0, o1, o2]
            by_cases e : q = p
            · subst e
              rw [own_upd1, own_upd1, if_pos rfl, if_pos rfl, if_pos rfl, Bp]
              exact ⟨(own_kN hcls).symm, rfl, by omega, fun w => by omega, fun _ => ⟨rfl, z1, Nat.pow_pos (by omega)⟩⟩
            · rw [own_upd2 c _ e, own_upd2 f _ e, if_neg e, if_neg e, if_neg e]
              obtain ⟨a1, a2, a3, a4, a5⟩ := h q hq
              exact ⟨a1, a2, a3, a4, fun w => ⟨(a5 w).1, (a5 w).2.1, (a5 w).2.2.2⟩⟩
          · by_cases e1 : q = p
            · have e2 : r ≠ p := fun e => hne (by rw [e1, e])
              rw [e1, own_upd1, own_upd2 f _ e2] at hf
              rw [own_upd2 c _ e2] at hcr
              exact absurd hf.symm (off r hr hcr)
            · by_cases e2 : r = p
              · rw [e2, own_upd1, own_upd2 f _ e1] at hf
                rw [own_upd2 c _ e1] at hcq
                exact absurd hf (off q hq hcq)
              · rw [own_upd2 c _ e1] at hcq ⊢
                rw [own_upd2 c _ e2] at hcr ⊢
                rw [own_upd2 f _ e1, own_upd2 f _ e2] at hf
                exact hs q r hq hr hne hcq hcr hf
        have T0 : own_Tg P (own_upd c p cls) (own_upd f p z) B t := fun q y hq hy hl => by
          by_cases e : q = p
          · unfold own_lv at hl
            rw [e, Bp, Nat.zero_testBit, Bool.and_false] at hl; cases hl
          · rw [own_upd2 f _ e, o3]
            refine T q y hq hy ?_
            unfold own_lv at hl ⊢
            rw [own_upd2 c _ e] at hl; exact hl
        have un0 : own_un (own_upd c p cls) (own_upd f p z) B z P = 0 := own_zero (fun i => Bool.eq_false_iff.mpr (fun w => by
          obtain ⟨q, g1, g2, g3, g4⟩ := (own_unT _ _ _ _ _ _).mp w
          by_cases e : q = p
          · rw [e, Bp, Nat.zero_testBit] at g4; cases g4
          · rw [own_upd2 c _ e] at g2
            rw [own_upd2 f _ e] at g3
            exact off q g1 g2 g3))
        have sl := own_sl3 hcls
        obtain ⟨A, u, u1, u2⟩ := own_placed hn J0 T0 p1 (by rw [own_upd1]; exact hcls) (fun q hq e w => by rw [own_upd2 c _ e] at w; exact ((h q hq).2.2.2.2 w).2.2.1) (by rw [own_upd1, own_upd1, un0, own_cc0]; omega)
        rw [own_upd1] at u1 u2
        rw [u1, Option.bind_some]
        refine Or.inr (Or.inr ⟨A, u, rfl, ?_⟩)
        obtain ⟨c1, f1, B1, w1, w2, w3, w4, w5, w6, w7, w8⟩ := u2
        exact ⟨c1, f1, B1, w1, w2, w3, w4, w5, w6, by rw [w7, ot], w8⟩
  · rw [if_neg (N_neg (by omega))]
    obtain ⟨A, u, u1, u2⟩ := own_placed hn (own_J0of J) T p1 (by omega) (fun q hq _ w => ((h q hq).2.2.2.2 w).2.2.1) p4
    rw [p2] at u1 u2
    rw [u1, Option.bind_some]
    exact Or.inr (Or.inr ⟨A, u, rfl, u2⟩)
end

/-! ### mesh -/
/-- the slots below z of frame y, where u has a bit, copied to frame x -/
def own_mv (x y sz u z : Nat) (m : Nat → Int32) (i : Nat) : Int32 := if x * 16 ≤ i ∧ i < x * 16 + 16 ∧ (i - x * 16) / sz < z ∧ u.testBit ((i - x * 16) / sz) = true then m (i - x * 16 + y * 16) else m i
theorem own_ct1 {g h : Nat → Bool} {y : Nat} (e : ∀ i, i ≠ y → g i = h i) (h1 : g y = true) (h2 : h y = false) : ∀ m, y < m → own_ct g m = own_ct h m + 1 := by
  intro m
  induction m with
  | zero => intro h; omega
  | succ m ih =>
    intro hm
    unfold own_ct
    by_cases q : m = y
    · subst q
      rw [own_ctE m (fun i hi => e i (by omega) : ∀ i, i < m → g i = h i), h1, h2]; rfl
    · rw [ih (by omega), e m q]; omega
section
variable {n P F : Nat} {c f B : Nat → Nat} {s : St}
theorem own_m37 {x y sz z : Nat} (hx : x < 8) (hy : y < 8) (hxy : x ≠ y) (hs4 : sz ≤ 4) (hz : z * sz + sz ≤ 16) {k17 : Int32 → Int32 → Int32 → Int32 → Int32 → Int32 → St → Option St} {x4 x5 : Int32} :
    ∀ (m w k : Nat) (s : St), w + m = sz → m < k → ∃ t, f_mergeFrames_37 n k17 k (Int32.ofNat x) (Int32.ofNat y) x4 x5 (Int32.ofNat sz) (Int32.ofNat z) (Int32.ofNat w) s = k17 (Int32.ofNat x) (Int32.ofNat y) x4 x5 (Int32.ofNat sz) (Int32.ofNat (z + 1)) t ∧ t.1 = s.1 ∧ (∀ j, j ≠ 3 → t.2 j = s.2 j) ∧ (∀ i, t.2 3 i = if x * 16 + z * sz + w ≤ i ∧ i < x * 16 + z * sz + sz then s.2 3 (i - x * 16 + y * 16) else s.2 3 i) := by
  obtain ⟨o, eo⟩ : ∃ o, o = z * sz := ⟨_, rfl⟩
  rw [← eo] at hz ⊢
  intro m
  induction m with
  | zero =>
    intro w k s hw hk
    obtain ⟨k, rfl⟩ : ∃ k', k = k' + 1 := ⟨k - 1, by omega⟩
    rw [u_mergeFrames_37, if_neg (by rw [show w = sz by omega]; exact nltN (by omega)), N_succ]
    exact ⟨s, rfl, rfl, fun _ _ => rfl, fun i => by rw [if_neg (by omega)]⟩
  | succ m ih =>
    intro w k s hw hk
    obtain ⟨k, rfl⟩ : ∃ k', k = k' + 1 := ⟨k - 1, by omega⟩
    rw [u_mergeFrames_37, if_pos (ltN (by omega) (by omega)), show (16 : Int32) = Int32.ofNat 16 from rfl, N_mul, N_mul, N_mul, ← eo, N_add, N_add, N_add, grd_pos (inbN (by omega) (by omega)), grd_pos (inbN (by omega) (by omega)), ix_N (by omega), ix_N (by omega), bnd_eq, N_succ]
    obtain ⟨t, t1, t2, t3, t4⟩ := ih (w + 1) k (setA s 3 (x * 16 + (o + w)) (s.2 3 (y * 16 + (o + w)))) (by omega) (by omega)
    refine ⟨t, t1, t2, fun j hj => ?_, fun i => ?_⟩
    · rw [t3 j hj]; funext i; rw [setA_2, if_neg (fun z => hj z.1)]
    · rw [t4, setA_2, setA_2]
      by_cases r : x * 16 + o + (w + 1) ≤ i ∧ i < x * 16 + o + sz
      · rw [if_pos r, if_neg (fun q : 3 = 3 ∧ i - x * 16 + y * 16 = x * 16 + (o + w) => by omega), if_pos (by omega)]
      · rw [if_neg r]
        by_cases e : i = x * 16 + (o + w)
        · rw [if_pos ⟨by trivial, e⟩, if_pos (by omega), show i - x * 16 + y * 16 = y * 16 + (o + w) by omega]
        · rw [if_neg (fun q => e q.2), if_neg (by omega)]
theorem own_m17 {x y cls u : Nat} (hx : x < 8) (hy : y < 8) (hxy : x ≠ y) (hcls : cls < 3) (hu : u < 65536) :
    ∀ (m z k : Nat) (s : St), z + m = own_sl cls → m < k → 100 ≤ n → ∃ t, f_mergeFrames_17 n k (Int32.ofNat x) (Int32.ofNat y) (Int32.ofNat u) (Int32.ofNat (own_sl cls)) (Int32.ofNat (2 ^ cls)) (Int32.ofNat z) s = f_mergeFrames_93 n n (Int32.ofNat x) (Int32.ofNat y) 0 t ∧ t.1 = s.1 ∧ (∀ j, j ≠ 3 → t.2 j = s.2 j) ∧
      (∀ i, t.2 3 i = if x * 16 ≤ i ∧ i < x * 16 + 16 ∧ z ≤ (i - x * 16) / 2 ^ cls ∧ u.testBit ((i - x * 16) / 2 ^ cls) = true then s.2 3 (i - x * 16 + y * 16) else s.2 3 i) := by
  have sl := own_sl3 hcls
  have p2 := own_p2 hcls
  intro m
  induction m with
  | zero =>
    intro z k s hz hk hn
    obtain ⟨k, rfl⟩ : ∃ k', k = k' + 1 := ⟨k - 1, by omega⟩
    rw [u_mergeFrames_17, if_neg (by rw [show z = own_sl cls by omega]; exact nltN (by omega))]
    refine ⟨s, rfl, rfl, fun _ _ => rfl, fun i => ?_⟩
    rw [if_neg (fun w => ?_)]
    have h3 := w.2.2.1
    rcases p2 with ⟨d, e⟩ | ⟨d, e⟩ | ⟨d, e⟩ <;> rw [e] at h3 <;> rcases sl with ⟨d', e'⟩ | ⟨d', e'⟩ | ⟨d', e'⟩ <;> omega
  | succ m ih =>
    intro z k s hz hk hn
    obtain ⟨k, rfl⟩ : ∃ k', k = k' + 1 := ⟨k - 1, by omega⟩
    rw [u_mergeFrames_17, if_pos (ltN (by omega) (by omega))]
    by_cases q : u.testBit z = true
    · rw [if_neg (fun w => by rw [own_tb hu (by omega), q] at w; cases w)]
      have zb : z * 2 ^ cls + 2 ^ cls ≤ 16 := by rcases p2 with ⟨d, e⟩ | ⟨d, e⟩ | ⟨d, e⟩ <;> rw [e] <;> rcases sl with ⟨d', e'⟩ | ⟨d', e'⟩ | ⟨d', e'⟩ <;> omega
      obtain ⟨t, t1, t2, t3, t4⟩ := own_m37 (n := n) (k17 := f_mergeFrames_17 n k) (x4 := Int32.ofNat u) (x5 := Int32.ofNat (own_sl cls)) hx hy hxy (by omega) zb (2 ^ cls) 0 n s (by omega) (by omega)
      rw [show (0 : Int32) = Int32.ofNat 0 from rfl, t1]
      obtain ⟨r, r1, r2, r3, r4⟩ := ih (z + 1) k t (by omega) (by omega) hn
      refine ⟨r, r1, r2.trans t2, fun j hj => (r3 j hj).trans (t3 j hj), fun i => ?_⟩
      have od : ∀ i, x * 16 ≤ i → ((x * 16 + z * 2 ^ cls + 0 ≤ i ∧ i < x * 16 + z * 2 ^ cls + 2 ^ cls) ↔ (i - x * 16) / 2 ^ cls = z) := fun i hi => by
        rcases p2 with ⟨d, e⟩ | ⟨d, e⟩ | ⟨d, e⟩ <;> rw [e] <;> omega
      rw [r4, t4, t4]
      by_cases g : x * 16 ≤ i ∧ i < x * 16 + 16
      · by_cases e : (i - x * 16) / 2 ^ cls = z
        · rw [if_neg (fun w => by have := w.2.2.1; omega), if_pos ((od i g.1).mpr e), if_pos ⟨g.1, g.2, by omega, by rw [e]; exact q⟩]
        · rw [if_neg (fun w => e ((od i g.1).mp w))]
          by_cases b : x * 16 ≤ i ∧ i < x * 16 + 16 ∧ z + 1 ≤ (i - x * 16) / 2 ^ cls ∧ u.testBit ((i - x * 16) / 2 ^ cls) = true
          · rw [if_pos b, if_neg (by omega), if_pos ⟨b.1, b.2.1, by omega, b.2.2.2⟩]
          · rw [if_neg b, if_neg (fun w => b ⟨w.1, w.2.1, by omega, w.2.2.2⟩)]
      · rw [if_neg (fun w => g ⟨w.1, w.2.1⟩), if_neg (by omega), if_neg (fun w => g ⟨w.1, w.2.1⟩)]
    · rw [if_pos ((own_tb hu (by omega)).mpr (Bool.eq_false_iff.mpr q)), N_succ]
      obtain ⟨r, r1, r2, r3, r4⟩ := ih (z + 1) k s (by omega) (by omega) hn
      refine ⟨r, r1, r2, r3, fun i => ?_⟩
      rw [r4]
      by_cases e : (i - x * 16) / 2 ^ cls = z
      · rw [if_neg (fun w => by have := w.2.2.1; omega), if_neg (fun w => q (by rw [← e]; exact w.2.2.2))]
      · by_cases b : x * 16 ≤ i ∧ i < x * 16 + 16 ∧ z + 1 ≤ (i - x * 16) / 2 ^ cls ∧ u.testBit ((i - x * 16) / 2 ^ cls) = true
        · rw [if_pos b, if_pos ⟨b.1, b.2.1, by omega, b.2.2.2⟩]
        · rw [if_neg b, if_neg (fun w => b ⟨w.1, w.2.1, by omega, w.2.2.2⟩)]
theorem own_m93 {x y : Nat} (hx : x < 8) (hy : y < 8) (hxy : x ≠ y) {s0 : St} (J : own_J P F c f B s0) : ∀ (m p k : Nat) (s : St), p + m = P → m < k → s.1 = s0.1 → s.2 0 = s0.2 0 → (∀ q, p ≤ q → q < P → s.2 1 q = s0.2 1 q) →
    ∃ t, f_mergeFrames_93 n k (Int32.ofNat x) (Int32.ofNat y) (Int32.ofNat p) s = some t ∧ t.1 = s0.1 ∧ (∀ j, j ≠ 1 → t.2 j = s.2 j) ∧ (∀ q, t.2 1 q = if p ≤ q ∧ q < P ∧ c q < 3 ∧ f q = y then Int32.ofNat x else s.2 1 q) := by
  have P9 := J.1.2.2.2.1
  have F8 := J.1.2.2.2.2.2
  intro m
  induction m with
  | zero =>
    intro p k s hp hk e1 e2 e3
    obtain ⟨k, rfl⟩ : ∃ k', k = k' + 1 := ⟨k - 1, by omega⟩
    rw [u_mergeFrames_93, e1, J.1.1, if_neg (by rw [show p = P by omega]; exact nltN (by omega))]
    exact ⟨s, rfl, e1, fun _ _ => rfl, fun q => by rw [if_neg (by omega)]⟩
  | succ m ih =>
    intro p k s hp hk e1 e2 e3
    obtain ⟨k, rfl⟩ : ∃ k', k = k' + 1 := ⟨k - 1, by omega⟩
    obtain ⟨a1, a2, a3, a4, a5⟩ := J.2.1 p (by omega)
    have same : (¬ (c p < 3 ∧ f p = y)) → (∃ t, f_mergeFrames_93 n k (Int32.ofNat x) (Int32.ofNat y) (Int32.ofNat (p + 1)) s = some t ∧ t.1 = s0.1 ∧ (∀ j, j ≠ 1 → t.2 j = s.2 j) ∧ (∀ q, t.2 1 q = if p ≤ q ∧ q < P ∧ c q < 3 ∧ f q = y then Int32.ofNat x else s.2 1 q)) := fun no => by
      obtain ⟨t, t1, t2, t3, t4⟩ := ih (p + 1) k s (by omega) (by omega) e1 e2 (fun q h1 h2 => e3 q (by omega) h2)
      refine ⟨t, t1, t2, t3, fun q => ?_⟩
      rw [t4]
      by_cases b : p + 1 ≤ q ∧ q < P ∧ c q < 3 ∧ f q = y
      · rw [if_pos b, if_pos ⟨by omega, b.2⟩]
      · rw [if_neg b, if_neg (fun w => b ⟨by
          by_cases e : q = p
          · rw [e] at w; exact absurd w.2.2 no
          · omega, w.2⟩)]
    rw [u_mergeFrames_93, e1, J.1.1, if_pos (ltN (by omega) (by omega)), grd_pos (inbN (by omega) (by omega)), ix_N (by omega), e2, a1, N_succ]
    by_cases q : c p = 3
    · rw [if_pos (own_k33 q)]; exact same (fun w => by omega)
    · rw [if_neg (own_kn3 (by omega)), e3 p (by omega) (by omega), (a5 (by omega)).1]
      have fl := (a5 (by omega)).2.1
      by_cases r : f p = y
      · rw [if_pos (by rw [r]), bnd_eq]
        obtain ⟨t, t1, t2, t3, t4⟩ := ih (p + 1) k (setA s 1 p (Int32.ofNat x)) (by omega) (by omega) e1 (by rw [← e2]; funext i; rw [setA_2, if_neg (fun z => by omega)]) (fun q h1 h2 => by rw [setA_2, if_neg (fun z => by omega)]; exact e3 q (by omega) h2)
        refine ⟨t, t1, t2, fun j hj => ?_, fun q => ?_⟩
        · rw [t3 j hj]; funext i; rw [setA_2, if_neg (fun z => hj z.1)]
        · rw [t4, setA_2]
          by_cases b : p + 1 ≤ q ∧ q < P ∧ c q < 3 ∧ f q = y
          · rw [if_pos b, if_pos ⟨by omega, b.2⟩]
          · rw [if_neg b]
            by_cases e : q = p
            · subst e; rw [if_pos ⟨by trivial, by trivial⟩, if_pos ⟨by omega, by omega, by omega, r⟩]
            · rw [if_neg (fun z => e z.2), if_neg (fun w => b ⟨by omega, w.2⟩)]
      · rw [if_neg (fun w => r ((N_inj (by omega) (by omega)).mp w))]; exact same (fun w => r w.2)
theorem own_merge (hn : 100 ≤ n) (J : own_J P F c f B s) (T : own_Tg P c f B s) {x y cls : Nat} (hx : x < F) (hy : y < F) (hxy : x ≠ y) (hcls : cls < 3) (cx : ∀ p, p < P → c p < 3 → f p = x → c p = cls) (cy : ∀ p, p < P → c p < 3 → f p = y → c p = cls) (ox : own_on c f x P = true) (oy : own_on c f y P = true) (dj : own_un c f B x P &&& own_un c f B y P = 0) :
    ∃ t f', f_mergeFrames n (Int32.ofNat x) (Int32.ofNat y) (Int32.ofNat cls) (Int32.ofNat (own_un c f B y P)) s = some t ∧ own_J P F c f' B t ∧ own_Tg P c f' B t ∧ own_ct (fun z => own_on c f z P) F = own_ct (fun z => own_on c f' z P) F + 1 ∧ t.1 = s.1 ∧ (∀ p, f' p = if f p = y then x else f p) := by
  have P9 := J.1.2.2.2.1
  have F8 := J.1.2.2.2.2.2
  have J' := J
  obtain ⟨⟨h4, h5, P2, -, F1, -⟩, h, hs⟩ := J'
  have sl := own_sl3 hcls
  have p2 := own_p2 hcls
  have ub := own_unB J y P (Nat.le_refl _)
  obtain ⟨t, t1, t2, t3, t4⟩ := own_m17 (n := n) (x := x) (y := y) (cls := cls) (u := own_un c f B y P) (by omega) (by omega) hxy hcls ub (own_sl cls) 0 n s (by omega) (by omega) hn
  obtain ⟨r, r1, r2, r3, r4⟩ := own_m93 (n := n) (x := x) (y := y) (by omega) (by omega) hxy J P 0 n t (by omega) (by omega) t2 (t3 0 (by decide)) (fun q _ _ => by rw [t3 1 (by decide)])
  obtain ⟨f', ef⟩ : ∃ f' : Nat → Nat, ∀ p, f' p = if f p = y then x else f p := ⟨_, fun _ => rfl⟩
  have fy : ∀ p, f p = y → f' p = x := fun p hp => by rw [ef, if_pos hp]
  have fn : ∀ p, f p ≠ y → f' p = f p := fun p hp => by rw [ef, if_neg hp]
  have em : f_mergeFrames n (Int32.ofNat x) (Int32.ofNat y) (Int32.ofNat cls) (Int32.ofNat (own_un c f B y P)) s = some r := by
    unfold f_mergeFrames
    rw [own_slN hcls, Option.bind_some, own_szN' hcls, Option.bind_some, show (0 : Int32) = Int32.ofNat 0 from rfl, t1]
    exact r1
  -- no bit of y is a bit of x
  have nx : ∀ p q i, p < P → q < P → c p < 3 → c q < 3 → f p = x → f q = y → ¬ ((B p).testBit i = true ∧ (B q).testBit i = true) := fun p q i hp hq hcp hcq e1 e2 w => by
    have a := (own_unT c f B x i P).mpr ⟨p, hp, hcp, e1, w.1⟩
    have b := (own_unT c f B y i P).mpr ⟨q, hq, hcq, e2, w.2⟩
    have := congrArg (fun v => v.testBit i) dj
    simp only [Nat.testBit_and, a, b, Nat.zero_testBit, Bool.and_self] at this
    cases this
  have J1 : own_J P F c f' B r := by
    refine ⟨⟨by rw [r2]; exact h4, by rw [r2]; exact h5, P2, P9, F1, F8⟩, fun p hp => ?_, fun p q hp hq hne hcp hcq hf => ?_⟩
    · obtain ⟨a1, a2, a3, a4, a5⟩ := h p hp
      rw [r3 0 (by decide), r3 2 (by decide), t3 0 (by decide), t3 2 (by decide), r4, t3 1 (by decide)]
      refine ⟨a1, a2, a3, fun w => ⟨(a4 w).1, by rw [if_neg (by omega)]; exact (a4 w).2⟩, fun w => ?_⟩
      obtain ⟨b1, b2, b3, b4⟩ := a5 w
      by_cases e : f p = y
      · rw [if_pos ⟨by omega, hp, w, e⟩, fy p e]; exact ⟨rfl, hx, b3, b4⟩
      · rw [if_neg (fun z => e z.2.2.2), fn p e]; exact ⟨b1, b2, b3, b4⟩
    · by_cases e1 : f p = y
      · by_cases e2 : f q = y
        · exact hs p q hp hq hne hcp hcq (e1.trans e2.symm)
        · rw [fy p e1, fn q e2] at hf
          exact ⟨by rw [cy p hp hcp e1, cx q hq hcq hf.symm], fun i w => nx q p i hq hp hcq hcp hf.symm e1 ⟨w.2, w.1⟩⟩
      · by_cases e2 : f q = y
        · rw [fn p e1, fy q e2] at hf
          exact ⟨by rw [cx p hp hcp hf, cy q hq hcq e2], fun i w => nx p q i hp hq hcp hcq hf e2 w⟩
        · rw [fn p e1, fn q e2] at hf
          exact hs p q hp hq hne hcp hcq hf
  refine ⟨r, f', em, J1, fun p off hp ho hl => ?_, ?_, r2, ef⟩
  · obtain ⟨g1, g2, g3⟩ := own_lvF J hp hl
    have tg := T p off hp ho hl
    rw [r3 3 (by decide), t4]
    by_cases e1 : f p = y
    · have cp := cy p hp g1 e1
      rw [cp] at g3
      rw [fy p e1, if_pos ⟨by omega, by omega, Nat.zero_le _, by
        rw [show x * 16 + off - x * 16 = off by omega]
        exact (own_unT c f B y _ P).mpr ⟨p, hp, g1, e1, g3⟩⟩, show x * 16 + off - x * 16 + y * 16 = y * 16 + off by omega, ← e1]
      exact tg
    · rw [fn p e1]
      by_cases e2 : f p = x
      · have cp := cx p hp g1 e2
        rw [cp] at g3
        rw [if_neg (fun w => ?_)]
        · exact tg
        · have h4 := w.2.2.2
          rw [show f p * 16 + off - x * 16 = off by omega] at h4
          obtain ⟨q, q1, q2, q3, q4⟩ := (own_unT c f B y _ P).mp h4
          exact nx p q _ hp q1 g1 q2 e2 q3 ⟨g3, q4⟩
      · rw [if_neg (fun w => by omega)]; exact tg
  · refine own_ct1 (y := y) (fun z hz => ?_) oy ?_ F hy
    · show own_on c f z P = own_on c f' z P
      rw [Bool.eq_iff_iff, own_onT, own_onT]
      constructor
      · intro ⟨p, h1, h2, h3⟩
        by_cases e : z = x
        · exact ⟨p, h1, h2, by rw [fn p (by omega)]; exact h3⟩
        · exact ⟨p, h1, h2, by rw [fn p (by omega)]; exact h3⟩
      · intro ⟨p, h1, h2, h3⟩
        by_cases e : f p = y
        · rw [fy p e] at h3
          rw [← h3]
          exact (own_onT c f x P).mp ox
        · rw [fn p e] at h3; exact ⟨p, h1, h2, h3⟩
    · show own_on c f' y P = false
      rw [Bool.eq_false_iff]
      intro w
      obtain ⟨p, h1, h2, h3⟩ := (own_onT c f' y P).mp w
      by_cases e : f p = y
      · rw [fy p e] at h3; exact hxy h3
      · rw [fn p e] at h3; exact e h3
/-- the class of a frame -/
theorem own_cls (J : own_J P F c f B s) {z p : Nat} (hp : p < P) (hc : c p < 3) (hf : f p = z) : ∀ q, q < P → c q < 3 → f q = z → c q = c p := fun q hq hcq hfq => by
  by_cases e : q = p
  · rw [e]
  · exact (J.2.2 q p hq hp e hcq hc (hfq.trans hf.symm)).1
theorem own_into (hn : 100 ≤ n) {x cls : Nat} (hcls : cls < 3) : ∀ (m g k acc : Nat) (f : Nat → Nat) (s : St), g + m = F → m < k → x < g → own_J P F c f B s → own_Tg P c f B s → (∃ p, p < P ∧ c p = cls ∧ f p = x) → acc + m ≤ 1000 →
    ∃ f' t acc', f_meshInto_7 n k (Int32.ofNat x) (Int32.ofNat cls) (Int32.ofNat acc) (Int32.ofNat g) s = some (Int32.ofNat acc', t) ∧ own_J P F c f' B t ∧ own_Tg P c f' B t ∧ own_ct (fun z => own_on c f' z P) F + acc' = own_ct (fun z => own_on c f z P) F + acc ∧ t.1 = s.1 ∧ acc' ≤ acc + m := by
  intro m
  induction m with
  | zero =>
    intro g k acc f s hg hk hxg J T hx ha
    obtain ⟨k, rfl⟩ : ∃ k', k = k' + 1 := ⟨k - 1, by omega⟩
    rw [u_meshInto_7, J.1.2.1, if_neg (by rw [show g = F by omega]; exact nltN (by have := J.1.2.2.2.2.2; omega))]
    exact ⟨f, s, acc, rfl, J, T, rfl, rfl, by omega⟩
  | succ m ih =>
    intro g k acc f s hg hk hxg J T hx ha
    obtain ⟨k, rfl⟩ : ∃ k', k = k' + 1 := ⟨k - 1, by omega⟩
    have F8 := J.1.2.2.2.2.2
    have next : ∃ f' t acc', f_meshInto_7 n k (Int32.ofNat x) (Int32.ofNat cls) (Int32.ofNat acc) (Int32.ofNat (g + 1)) s = some (Int32.ofNat acc', t) ∧ own_J P F c f' B t ∧ own_Tg P c f' B t ∧ own_ct (fun z => own_on c f' z P) F + acc' = own_ct (fun z => own_on c f z P) F + acc ∧ t.1 = s.1 ∧ acc' ≤ acc + (m + 1) := by
      obtain ⟨f', t, acc', q1, q2, q3, q4, q5, q6⟩ := ih (g + 1) k acc f s (by omega) (by omega) (by omega) J T hx (by omega)
      exact ⟨f', t, acc', q1, q2, q3, q4, q5, by omega⟩
    obtain ⟨v, v1, v2⟩ := own_fcls hn J (z := g) (by omega)
    rw [u_meshInto_7, J.1.2.1, if_pos (ltN (by omega) (by omega)), v1, Option.bind_some, N_succ, N_succ]
    rcases v2 with ⟨e1, e2⟩ | ⟨p, e1, e2, e3, e4, e5⟩
    · rw [if_neg (fun w => by rw [e1] at w; exact N_neg (i := cls) (by omega) (by rw [← w]; decide))]
      exact next
    · by_cases q : c p = cls
      · rw [if_pos (by rw [e4, q]), own_union hn J (by omega), Option.bind_some, own_union hn J (by omega), Option.bind_some, own_an (own_unB J x P (Nat.le_refl _)) (by have := own_unB J g P (Nat.le_refl _); omega)]
        by_cases d : own_un c f B x P &&& own_un c f B g P = 0
        · rw [d, if_pos (by rfl : Int32.ofNat 0 = 0)]
          obtain ⟨p', y1, y2, y3⟩ := hx
          have c1 := own_cls J y1 (by omega) y3
          have c2 := own_cls J e1 e2 e3
          obtain ⟨t, f', m1, m2, m3, m4, m5, m6⟩ := own_merge hn J T (x := x) (y := g) (by omega) (by omega) (by omega) hcls (fun r h1 h2 h3 => by rw [c1 r h1 h2 h3, y2]) (fun r h1 h2 h3 => by rw [c2 r h1 h2 h3, q]) ((own_onT c f x P).mpr ⟨p', y1, by omega, y3⟩) e5 d
          rw [m1, Option.bind_some]
          obtain ⟨f2, t2, acc2, q1, q2, q3, q4, q5, q6⟩ := ih (g + 1) k (acc + 1) f' t (by omega) (by omega) (by omega) m2 m3 ⟨p', y1, y2, by rw [m6, if_neg (by omega)]; exact y3⟩ (by omega)
          exact ⟨f2, t2, acc2, q1, q2, q3, by omega, q5.trans m5, by omega⟩
        · rw [if_neg (own_nz (Nat.pos_of_ne_zero d) (by have := Nat.and_le_left (n := own_un c f B x P) (m := own_un c f B g P); have := own_unB J x P (Nat.le_refl _); omega))]
          exact next
      · rw [if_neg (fun w => q (by rw [e4, N_inj (by omega) (by omega)] at w; exact w))]
        exact next
theorem own_m11 (hn : 100 ≤ n) {cls : Nat} (hcls : cls < 3) {k4 : Int32 → Int32 → St → Option (Int32 × St)} : ∀ (m g k acc : Nat) (f : Nat → Nat) (s : St), g + m = F → m < k → own_J P F c f B s → own_Tg P c f B s → acc + 8 * m ≤ 900 →
    ∃ f' t acc', f_mesh_11 n k4 k (Int32.ofNat acc) (Int32.ofNat cls) (Int32.ofNat g) s = k4 (Int32.ofNat acc') (Int32.ofNat (cls + 1)) t ∧ own_J P F c f' B t ∧ own_Tg P c f' B t ∧ own_ct (fun z => own_on c f' z P) F + acc' = own_ct (fun z => own_on c f z P) F + acc ∧ t.1 = s.1 ∧ acc' ≤ acc + 8 * m := by
  intro m
  induction m with
  | zero =>
    intro g k acc f s hg hk J T ha
    obtain ⟨k, rfl⟩ : ∃ k', k = k' + 1 := ⟨k - 1, by omega⟩
    rw [u_mesh_11, J.1.2.1, if_neg (by rw [show g = F by omega]; exact nltN (by have := J.1.2.2.2.2.2; omega)), N_succ]
    exact ⟨f, s, acc, rfl, J, T, rfl, rfl, by omega⟩
  | succ m ih =>
    intro g k acc f s hg hk J T ha
    obtain ⟨k, rfl⟩ : ∃ k', k = k' + 1 := ⟨k - 1, by omega⟩
    have F8 := J.1.2.2.2.2.2
    have next : ∃ f' t acc', f_mesh_11 n k4 k (Int32.ofNat acc) (Int32.ofNat cls) (Int32.ofNat (g + 1)) s = k4 (Int32.ofNat acc') (Int32.ofNat (cls + 1)) t ∧ own_J P F c f' B t ∧ own_Tg P c f' B t ∧ own_ct (fun z => own_on c f' z P) F + acc' = own_ct (fun z => own_on c f z P) F + acc ∧ t.1 = s.1 ∧ acc' ≤ acc + 8 * (m + 1) := by
      obtain ⟨f', t, acc', q1, q2, q3, q4, q5, q6⟩ := ih (g + 1) k acc f s (by omega) (by omega) J T (by omega)
      exact ⟨f', t, acc', q1, q2, q3, q4, q5, by omega⟩
    obtain ⟨v, v1, v2⟩ := own_fcls hn J (z := g) (by omega)
    rw [u_mesh_11, J.1.2.1, if_pos (ltN (by omega) (by omega)), v1, Option.bind_some, N_succ]
    rcases v2 with ⟨e1, e2⟩ | ⟨p, e1, e2, e3, e4, e5⟩
    · rw [if_neg (fun w => by rw [e1] at w; exact N_neg (i := cls) (by omega) (by rw [← w]; decide))]
      exact next
    · by_cases q : c p = cls
      · rw [if_pos (by rw [e4, q])]
        obtain ⟨f1, t1, a1, r1, r2, r3, r4, r5, r6⟩ := own_into hn hcls (F - (g + 1)) (g + 1) n 0 f s (x := g) (by omega) (by omega) (by omega) J T ⟨p, e1, q, e3⟩ (by omega)
        have im : f_meshInto n (Int32.ofNat g) (Int32.ofNat cls) s = some (Int32.ofNat a1, t1) := by
          unfold f_meshInto
          rw [N_succ]; exact r1
        rw [im, Option.bind_some, N_add]
        obtain ⟨f2, t2, acc2, q1, q2, q3, q4, q5, q6⟩ := ih (g + 1) k (acc + a1) f1 t1 (by omega) (by omega) r2 r3 (by omega)
        exact ⟨f2, t2, acc2, q1, q2, q3, by omega, q5.trans r5, by omega⟩
      · rw [if_neg (fun w => q (by rw [e4, N_inj (by omega) (by omega)] at w; exact w))]
        exact next
theorem own_mesh (hn : 100 ≤ n) (J : own_J P F c f B s) (T : own_Tg P c f B s) : ∃ f' t M, f_mesh n s = some (Int32.ofNat M, t) ∧ own_J P F c f' B t ∧ own_Tg P c f' B t ∧ own_ct (fun z => own_on c f' z P) F + M = own_ct (fun z => own_on c f z P) F ∧ t.1 = s.1 := by
  have F8 := J.1.2.2.2.2.2
  obtain ⟨m, rfl⟩ : ∃ m, n = m + 10 := ⟨n - 10, by omega⟩
  unfold f_mesh
  rw [u_mesh_4, if_neg (by decide), show (0 : Int32) = Int32.ofNat 0 from rfl]
  obtain ⟨f1, t1, a1, r1, r2, r3, r4, r5, r6⟩ := own_m11 (n := m + 10) (F := F) hn (cls := 0) (by omega) (k4 := f_mesh_4 (m + 10) (m + 9)) F 0 (m + 10) 0 f s (by omega) (by omega) J T (by omega)
  rw [r1, u_mesh_4, if_neg (by decide), show (0 : Int32) = Int32.ofNat 0 from rfl]
  obtain ⟨f2, t2, a2, u1, u2, u3, u4, u5, u6⟩ := own_m11 (n := m + 10) (F := F) hn (cls := 1) (by omega) (k4 := f_mesh_4 (m + 10) (m + 8)) F 0 (m + 10) a1 f1 t1 (by omega) (by omega) r2 r3 (by omega)
  rw [show 0 + 1 = 1 from rfl, u1, u_mesh_4, if_neg (by decide), show (0 : Int32) = Int32.ofNat 0 from rfl]
  obtain ⟨f3, t3, a3, w1, w2, w3, w4, w5, w6⟩ := own_m11 (n := m + 10) (F := F) hn (cls := 2) (by omega) (k4 := f_mesh_4 (m + 10) (m + 7)) F 0 (m + 10) a2 f2 t2 (by omega) (by omega) u2 u3 (by omega)
  rw [show 1 + 1 = 2 from rfl, w1, u_mesh_4, if_pos (by decide)]
  exact ⟨f3, t3, a3, rfl, w2, w3, by omega, w5.trans (u5.trans r5)⟩
end

/-! ### the law -/
theorem own_ctadd (h : Nat → Bool) (a : Nat) : ∀ m, own_ct h (a + m) = own_ct h a + own_ct (fun i => h (a + i)) m := by
  intro m
  induction m with
  | zero => rfl
  | succ m ih =>
    show own_ct h (a + m) + _ = _
    rw [ih]
    show _ = own_ct h a + (own_ct (fun i => h (a + i)) m + _)
    rw [Nat.add_assoc]
    rfl
theorem own_pchi {a m : Nat} (ha : a < 2 ^ m) : ∀ k, own_pc a (m + k) = own_pc a m := by
  intro k
  induction k with
  | zero => rfl
  | succ k ih =>
    show own_pc a (m + k) + (if a.testBit (m + k) = true then 1 else 0) = _
    rw [ih, own_hi ha (by omega)]; rfl
/-- the word a is the first one of a live object -/
def own_st (c B : Nat → Nat) (a : Nat) : Bool := own_lv c B (a / 16) (a % 16) && decide (a % 16 % 2 ^ c (a / 16) = 0)
section
variable {n P F : Nat} {c f B : Nat → Nat} {s : St}
theorem own_stp (J : own_J P F c f B s) {p : Nat} (hp : p < P) : own_ct (fun i => own_st c B (16 * p + i)) 16 = own_pc (B p) 32 := by
  have e : ∀ i, i < 16 → own_st c B (16 * p + i) = (decide (c p < 3) && (B p).testBit (i / 2 ^ c p) && decide (i % 2 ^ c p = 0)) := fun i hi => by
    unfold own_st own_lv
    rw [show (16 * p + i) / 16 = p by omega, show (16 * p + i) % 16 = i by omega]
  rw [own_ctE 16 e]
  obtain ⟨a1, a2, a3, a4, a5⟩ := J.2.1 p hp
  by_cases q : c p = 3
  · rw [(a4 q).1, own_pc0, decide_eq_false (by omega)]
    simp only [Bool.false_and]
    decide
  · obtain ⟨b1, b2, b3, b4⟩ := a5 (by omega)
    rw [decide_eq_true (by omega : c p < 3)]
    generalize B p = b at b4 ⊢
    have : c p = 0 ∨ c p = 1 ∨ c p = 2 := by omega
    rcases this with z | z | z
    · rw [z] at b4 ⊢
      have := own_pchi (a := b) (m := 16) b4 16
      rw [show 16 + 16 = 32 from rfl] at this
      rw [this]
      simp [own_ct, own_pc, Nat.mod_one]
    · rw [z] at b4 ⊢
      have := own_pchi (a := b) (m := 8) b4 24
      rw [show 8 + 24 = 32 from rfl] at this
      rw [this]
      simp [own_ct, own_pc]
    · rw [z] at b4 ⊢
      have := own_pchi (a := b) (m := 4) b4 28
      rw [show 4 + 28 = 32 from rfl] at this
      rw [this]
      simp [own_ct, own_pc]
theorem own_stN (J : own_J P F c f B s) : ∀ p, p ≤ P → own_ct (own_st c B) (16 * p) = own_lo B p := by
  intro p
  induction p with
  | zero => intro _; rfl
  | succ p ih =>
    intro hp
    rw [show 16 * (p + 1) = 16 * p + 16 by omega, own_ctadd, ih (by omega), own_stp J (by omega)]; rfl
theorem own_hmod (a : Int32) {m : Nat} (h : 0 < m) (hm : m < 1000000) : ∃ r, r < m ∧ f_hmod a (Int32.ofNat m) = some (Int32.ofNat r) := by
  have e : (a % Int32.ofNat m).toInt = a.toInt.tmod m := by rw [Int32.toInt_mod, N_toInt (by omega)]
  have l1 : a.toInt.tmod m < m := Int.tmod_lt_of_pos _ (by omega)
  have l2 : -(m : Int) < a.toInt.tmod m := by
    have := Int.lt_tmod_of_pos a.toInt (b := (m : Int)) (by omega)
    omega
  unfold f_hmod
  rw [grd_pos (own_nz h (by omega))]
  by_cases q : a % Int32.ofNat m < 0
  · rw [if_pos q]
    rw [lt_I, show (0 : Int32).toInt = 0 from rfl, e] at q
    have e2 : (a % Int32.ofNat m + Int32.ofNat m).toInt = (a % Int32.ofNat m).toInt + (Int32.ofNat m).toInt := add_I (by rw [e, N_toInt (by omega)]; omega) (by rw [e, N_toInt (by omega)]; omega)
    rw [e, N_toInt (by omega)] at e2
    obtain ⟨r, r1, -, r2⟩ := own_nat (x := a % Int32.ofNat m + Int32.ofNat m) (lo := 0) (hi := m - 1) (by omega) (by omega)
    exact ⟨r, by omega, by rw [r1]⟩
  · rw [if_neg q]
    rw [lt_I, show (0 : Int32).toInt = 0 from rfl, e] at q
    obtain ⟨r, r1, -, r2⟩ := own_nat (x := a % Int32.ofNat m) (lo := 0) (hi := m - 1) (by omega) (by omega)
    exact ⟨r, by omega, by rw [r1]⟩
end
/-- between the turns: K live objects, all in order -/
def own_G (P F K : Nat) (s : St) : Prop := ∃ c f B, own_J P F c f B s ∧ own_Tg P c f B s ∧ K = own_lo B P
theorem own_Gle {P F K : Nat} {s : St} (G : own_G P F K s) : K ≤ 300 := by
  obtain ⟨c, f, B, J, -, e⟩ := G
  have := own_smle (g := fun p => own_pc (B p) 32) (K := 32) P (fun i _ => own_pcle _ _)
  have P9 := J.1.2.2.2.1
  have : own_lo B P ≤ P * 32 := this
  omega
section
variable {n P F sn : Nat} {sf : Nat → Int32} {k65 : Int32 → Int32 → Int32 → Int32 → Int32 → St → Option (Int32 × St)}
theorem own_642 (hn : 200 ≤ n) {K j : Nat} {s : St} (G : own_G P F K s) : f_law_642 n sn sf k65 (Int32.ofNat P) (Int32.ofNat F) (Int32.ofNat (16 * P)) (Int32.ofNat K) (Int32.ofNat j) s = k65 (Int32.ofNat P) (Int32.ofNat F) (Int32.ofNat (16 * P)) (Int32.ofNat K) (Int32.ofNat (j + 2)) s := by
  obtain ⟨c, f, B, J, T, e⟩ := G
  unfold f_law_642
  rw [own_cons hn J T e, Option.bind_some, if_neg (by decide), show (2 : Int32) = Int32.ofNat 2 from rfl, N_add]
/-- what a turn leads to -/
def own_To (P F j : Nat) (k65 : Int32 → Int32 → Int32 → Int32 → Int32 → St → Option (Int32 × St)) (x : Option (Int32 × St)) : Prop := ∃ K t, own_G P F K t ∧ x = k65 (Int32.ofNat P) (Int32.ofNat F) (Int32.ofNat (16 * P)) (Int32.ofNat K) (Int32.ofNat (j + 2)) t
theorem own_to (hn : 200 ≤ n) {K j : Nat} {s : St} (G : own_G P F K s) : own_To P F j k65 (f_law_642 n sn sf k65 (Int32.ofNat P) (Int32.ofNat F) (Int32.ofNat (16 * P)) (Int32.ofNat K) (Int32.ofNat j) s) := ⟨K, s, G, own_642 hn G⟩
theorem own_186 (hn : 200 ≤ n) {j K cls A : Nat} {s0 : St} (hcls : cls < 3) : ∀ (m i k : Nat) (c f B : Nat → Nat) (s : St), i + m = 2 ^ cls → m < k → own_J P F c f B s → A < 16 * P → A % 16 + 2 ^ cls ≤ 16 → own_lo B P = K + 1 →
    (∀ i', i ≤ i' → i' < 2 ^ cls → own_lv c B (A / 16) (A % 16 + i') = true ∧ s.2 3 (f (A / 16) * 16 + (A % 16 + i')) = 0) → own_Tx (fun p off => p = A / 16 ∧ A % 16 + i ≤ off ∧ off < A % 16 + 2 ^ cls) P c f B s →
    own_To P F j k65 (f_law_186 n sn sf k65 k (Int32.ofNat P) (Int32.ofNat F) (Int32.ofNat (16 * P)) (Int32.ofNat K) (Int32.ofNat j) (Int32.ofNat A) (Int32.ofNat (2 ^ cls)) (Int32.ofNat i) s) := by
  have p2 := own_p2 hcls
  intro m
  induction m with
  | zero =>
    intro i k c f B s hi hk J hA h16 hl hw T
    obtain ⟨k, rfl⟩ : ∃ k', k = k' + 1 := ⟨k - 1, by omega⟩
    rw [u_law_186, if_neg (by rw [show i = 2 ^ cls by omega]; exact nltN (by omega)), N_succ]
    exact own_to hn ⟨c, f, B, J, fun p off hp ho hl' => T p off hp ho hl' (fun w => by omega), hl.symm⟩
  | succ m ih =>
    intro i k c f B s hi hk J hA h16 hl hw T
    obtain ⟨k, rfl⟩ : ∃ k', k = k' + 1 := ⟨k - 1, by omega⟩
    have P9 := J.1.2.2.2.1
    obtain ⟨w1, w2⟩ := hw i (by omega) (by omega)
    have a1 : (A + i) / 16 = A / 16 := by omega
    have a2 : (A + i) % 16 = A % 16 + i := by omega
    obtain ⟨t, t1, t2, t3, t4, t5⟩ := own_write J T (A := A + i) (by omega)
    rw [a1, a2] at t1 t3 t5
    rw [u_law_186, if_pos (ltN (by omega) (by omega)), N_add, own_il J (by omega), Option.bind_some, a1, a2, w1, if_neg (by decide), own_rd J (by omega), Option.bind_some, a1, a2, if_pos w1, w2, if_pos rfl]
    rw [show f_htag (Int32.ofNat (A + i)) = some (own_tag (A + i)) from rfl, Option.bind_some, t1, Option.bind_some, w1]
    show own_To P F j k65 (if own_b true = 0 then _ else _)
    rw [if_neg (by decide), N_succ]
    refine ih (i + 1) k c f B t (by omega) (by omega) t2 hA h16 hl (fun i' h1 h2 => ⟨(hw i' (by omega) h2).1, ?_⟩) (fun p off hp ho hl' hx => t3 p off hp ho hl' (fun w => hx ?_))
    · rw [t5 _ (by omega)]; exact (hw i' (by omega) h2).2
    · refine ⟨w.1.1, ?_, w.1.2.2⟩
      have := w.2
      by_cases e : off = A % 16 + i
      · exact absurd ⟨w1, w.1.1, e⟩ this
      · have := w.1.2.1; omega
theorem own_t3 (hn : 200 ≤ n) {K j cls : Nat} {s : St} (G : own_G P F K s) (hcls : cls < 3) :
    own_To P F j k65 ((f_rngState s).bind fun q47 => (f_alloc n (Int32.ofNat cls) s).bind fun q49 =>
        if q49.1 < 0 then
          if q49.1 = (-2 : Int32) then
            f_law_269 n sn sf k65 (Int32.ofNat P) (Int32.ofNat F) (Int32.ofNat (16 * P)) (Int32.ofNat K) (Int32.ofNat j) q47 q49.1 q49.2
          else
            if q49.1 = (-3 : Int32) then
              f_law_269 n sn sf k65 (Int32.ofNat P) (Int32.ofNat F) (Int32.ofNat (16 * P)) (Int32.ofNat K) (Int32.ofNat j) q47 q49.1 q49.2
            else
              some ((0 : Int32), q49.2)
        else
          (f_hsize (Int32.ofNat cls)).bind fun q54 =>
          if q49.1 < (Int32.ofNat (16 * P)) then
            grd (q54 ≠ 0) <|
            if ((q49.1 % (16 : Int32)) % q54) = 0 then
              (f_pageClass q49.2 (q49.1 / (16 : Int32))).bind fun q59 =>
              if q59 = (Int32.ofNat cls) then
                (f_rngState q49.2).bind fun q62 =>
                if q62 = ((q47 * (1103515245 : Int32)) + (12345 : Int32)) then
                  f_law_186 n sn sf k65 n (Int32.ofNat P) (Int32.ofNat F) (Int32.ofNat (16 * P)) (Int32.ofNat K) (Int32.ofNat j) q49.1 q54 (0 : Int32) q49.2
                else
                  some ((0 : Int32), q49.2)
              else
                some ((0 : Int32), q49.2)
            else
              some ((0 : Int32), q49.2)
          else
            some ((0 : Int32), q49.2)) := by
  have G' := G
  obtain ⟨c, f, B, J, T, e⟩ := G'
  have P9 := J.1.2.2.2.1
  rw [show f_rngState s = some (s.1 6) from rfl, Option.bind_some]
  rcases own_alloc (n := n) (by omega) J T hcls with ⟨a1, a2⟩ | ⟨a1, a2⟩ | ⟨A, t, a1, c1, f1, B1, w1, w2, w3, w4, w5, w6, w7, w8, w9⟩
  · rw [a1, Option.bind_some]
    show own_To P F j k65 (if (-2 : Int32) < 0 then _ else _)
    rw [if_pos (by decide), if_pos rfl]
    unfold f_law_269 f_law_297
    rw [show f_rngState s = some (s.1 6) from rfl, Option.bind_some, if_pos rfl, if_pos rfl, own_piu (by omega) J, Option.bind_some, a2, if_pos rfl, if_neg (show ¬ ((-2 : Int32), s).1 = -3 from (by decide : ¬ (-2 : Int32) = -3))]
    exact own_to hn G
  · rw [a1, Option.bind_some]
    show own_To P F j k65 (if (-3 : Int32) < 0 then _ else _)
    rw [if_pos (by decide), if_neg (show ¬ ((-3 : Int32), s).1 = -2 from (by decide : ¬ (-3 : Int32) = -2)), if_pos (show ((-3 : Int32), s).1 = -3 from rfl)]
    unfold f_law_269 f_law_297
    rw [show f_rngState ((-3 : Int32), s).2 = some (s.1 6) from rfl, Option.bind_some, if_pos rfl, if_neg (show ¬ ((-3 : Int32), s).1 = -2 from (by decide : ¬ (-3 : Int32) = -2)), if_pos (show ((-3 : Int32), s).1 = -3 from rfl), own_fiu (by omega) J, Option.bind_some, a2, if_pos rfl]
    exact own_to hn G
  · rw [a1, Option.bind_some]
    have p2 := own_p2 hcls
    have ml : A % 16 % 2 ^ cls < 2147483648 := by have := Nat.mod_le (A % 16) (2 ^ cls); omega
    show own_To P F j k65 (if Int32.ofNat A < 0 then _ else _)
    rw [if_neg (N_neg (by omega)), own_hsz hcls, Option.bind_some, if_pos (ltN w2 (by omega)), grd_pos (own_nz (by omega) (by omega)), show (16 : Int32) = Int32.ofNat 16 from rfl, rem_N (by omega) (by omega) (by omega), rem_N (by omega) (by omega) (by omega), own_divN (by omega) (by omega), w4, if_pos (by rfl : Int32.ofNat 0 = 0), own_pgC w1 (by omega), Option.bind_some, w3, own_kN hcls, if_pos rfl]
    show own_To P F j k65 ((f_rngState t).bind _)
    rw [show f_rngState t = some (t.1 6) from rfl, Option.bind_some, w7, if_pos rfl]
    refine own_186 hn hcls (2 ^ cls) 0 n c1 f1 B1 t (by omega) (by omega) w1 w2 w5 (by rw [w6, e]) (fun i' _ h2 => w8 i' h2) (fun p off hp ho hl hx => w9 p off hp ho hl (fun w => hx ⟨w.1, by omega, w.2.2⟩)) (s0 := s)
theorem own_t4 (hn : 200 ≤ n) {K j idx : Nat} {s : St} (G : own_G P F K s) (hidx : idx < K) (q3 : Int32) :
    own_To P F j k65 (f_law_346 n sn sf k65 n (Int32.ofNat P) (Int32.ofNat F) (Int32.ofNat (16 * P)) (Int32.ofNat K) (Int32.ofNat j) (Int32.ofNat idx) (-1) 0 0 s) := by
  have K3 := own_Gle G
  obtain ⟨c, f, B, J, T, e⟩ := G
  have P9 := J.1.2.2.2.1
  have f417 : ∀ A, A < 16 * P → own_st c B A = true → own_To P F j k65 (f_law_417 n sn sf k65 (Int32.ofNat P) (Int32.ofNat F) (Int32.ofNat (16 * P)) (Int32.ofNat K) (Int32.ofNat j) (Int32.ofNat A) s) := fun A hA hs => by
    unfold own_st at hs
    rw [Bool.and_eq_true, decide_eq_true_iff] at hs
    obtain ⟨t, c', B', t1, t2, t3, t4, t5, t6⟩ := (own_free J (ex := fun _ _ => False) (fun p off hp ho hl _ => T p off hp ho hl) hA).2 hs.1 hs.2
    unfold f_law_417
    rw [if_neg (N_neg (by omega)), t1, Option.bind_some]
    show own_To P F j k65 (if (1 : Int32) = 0 then _ else _)
    rw [if_neg (by decide)]
    show own_To P F j k65 ((f_isLive t (Int32.ofNat A)).bind _)
    rw [own_il t2 hA, Option.bind_some, t5, if_pos (show own_b false = 0 from rfl), show K = own_lo B' P + 1 by omega, own_pred]
    exact own_to hn ⟨c', f, B', t2, fun p off hp ho hl => t3 p off hp ho hl (fun w => w), rfl⟩
  have lp : ∀ (m A k : Nat), A + m = 16 * P → m < k → own_ct (own_st c B) A ≤ idx → own_To P F j k65 (f_law_346 n sn sf k65 k (Int32.ofNat P) (Int32.ofNat F) (Int32.ofNat (16 * P)) (Int32.ofNat K) (Int32.ofNat j) (Int32.ofNat idx) (-1) (Int32.ofNat (own_ct (own_st c B) A)) (Int32.ofNat A) s) := by
    intro m
    induction m with
    | zero =>
      intro A k hA hk hc
      have := own_stN J P (Nat.le_refl _)
      rw [show A = 16 * P by omega, this] at hc
      omega
    | succ m ih =>
      intro A k hA hk hc
      obtain ⟨k, rfl⟩ : ∃ k', k = k' + 1 := ⟨k - 1, by omega⟩
      have ct : own_ct (own_st c B) (A + 1) = own_ct (own_st c B) A + (if own_st c B A = true then 1 else 0) := rfl
      obtain ⟨a1, a2, a3, a4, a5⟩ := J.2.1 (A / 16) (by omega)
      have skip : own_st c B A = false → own_To P F j k65 (f_law_346 n sn sf k65 k (Int32.ofNat P) (Int32.ofNat F) (Int32.ofNat (16 * P)) (Int32.ofNat K) (Int32.ofNat j) (Int32.ofNat idx) (-1) (Int32.ofNat (own_ct (own_st c B) A)) (Int32.ofNat (A + 1)) s) := fun h => by
        rw [h, if_neg (by decide), Nat.add_zero] at ct
        have := ih (A + 1) k (by omega) (by omega) (by omega)
        rw [ct] at this; exact this
      rw [u_law_346, if_pos (ltN (by omega) (by omega)), if_pos (by decide), show (16 : Int32) = Int32.ofNat 16 from rfl, own_divN (by omega) (by omega), rem_N (by omega) (by omega) (by omega), own_pgC J (by omega), Option.bind_some, N_succ]
      by_cases q : c (A / 16) = 3
      · rw [own_k33 q, if_pos (by decide)]
        exact skip (by unfold own_st own_lv; rw [decide_eq_false (by omega), Bool.false_and, Bool.false_and])
      · have p2 := own_p2 (c := c (A / 16)) (by omega)
        have ml : A % 16 % 2 ^ c (A / 16) < 2147483648 := by have := Nat.mod_le (A % 16) (2 ^ c (A / 16)); omega
        rw [own_kN (by omega), if_neg (N_neg (by omega)), own_hsz (by omega), Option.bind_some, grd_pos (own_nz (by omega) (by omega)), rem_N (by omega) (by omega) (by omega)]
        by_cases r : A % 16 % 2 ^ c (A / 16) = 0
        · rw [r, if_pos (by rfl : Int32.ofNat 0 = 0), own_il J (by omega), Option.bind_some]
          by_cases l : own_lv c B (A / 16) (A % 16) = true
          · have st : own_st c B A = true := by unfold own_st; rw [l, decide_eq_true r]; rfl
            rw [l, if_neg (by decide), N_succ]
            by_cases g : own_ct (own_st c B) A = idx
            · rw [if_pos (by rw [g])]
              -- found
              obtain ⟨k, rfl⟩ : ∃ k', k = k' + 1 := ⟨k - 1, by
                by_cases z : k = 0
                · omega
                · omega⟩
              rw [u_law_346]
              by_cases z : A + 1 < 16 * P
              · rw [if_pos (ltN z (by omega)), if_neg (N_neg (by omega))]; exact f417 A (by omega) st
              · rw [if_neg (fun w => z ((N_lt (by omega) (by omega)).mp w))]; exact f417 A (by omega) st
            · rw [if_neg (fun w => g ((N_inj (by omega) (by omega)).mp w))]
              rw [st, if_pos rfl] at ct
              have := ih (A + 1) k (by omega) (by omega) (by omega)
              rw [ct] at this; exact this
          · rw [Bool.eq_false_iff.mpr l, if_pos (show own_b false = 0 from rfl)]
            exact skip (by unfold own_st; rw [Bool.eq_false_iff.mpr l, Bool.false_and])
        · rw [if_neg (fun w => r (by rw [show (0 : Int32) = Int32.ofNat 0 from rfl, N_inj ml (by omega)] at w; exact w))]
          exact skip (by unfold own_st; rw [decide_eq_false r, Bool.and_false])
  exact lp (16 * P) 0 n (by omega) (by omega) (Nat.zero_le _)
theorem own_510 (hn : 200 ≤ n) {K j A : Nat} {s : St} (G : own_G P F K s) {c f B : Nat → Nat} (J : own_J P F c f B s) (T : own_Tg P c f B s) (e : K = own_lo B P) (hA : A < 16 * P) :
    own_To P F j k65 (f_law_510 n sn sf k65 (Int32.ofNat P) (Int32.ofNat F) (Int32.ofNat (16 * P)) (Int32.ofNat K) (Int32.ofNat j) (Int32.ofNat A) (own_b (own_st c B A)) s) := by
  have fr := own_free J (ex := fun _ _ => False) (fun p off hp ho hl _ => T p off hp ho hl) hA
  unfold f_law_510
  by_cases q : own_st c B A = true
  · have hs := q
    unfold own_st at hs
    rw [Bool.and_eq_true, decide_eq_true_iff] at hs
    obtain ⟨t, c', B', t1, t2, t3, t4, t5, t6⟩ := fr.2 hs.1 hs.2
    rw [t1, Option.bind_some, q]
    show own_To P F j k65 (if (1 : Int32) = own_b true then _ else _)
    rw [if_pos (show (1 : Int32) = own_b true from rfl)]
    show own_To P F j k65 (if (1 : Int32) = 0 then _ else _)
    rw [if_neg (by decide)]
    show own_To P F j k65 ((f_isLive t (Int32.ofNat A)).bind _)
    rw [own_il t2 hA, Option.bind_some, t5, if_pos (show own_b false = 0 from rfl), show K = own_lo B' P + 1 by omega, own_pred]
    exact own_to hn ⟨c', f, B', t2, fun p off hp ho hl => t3 p off hp ho hl (fun w => w), rfl⟩
  · rw [fr.1 (fun w => q (by unfold own_st; rw [w.1, decide_eq_true w.2]; rfl)), Option.bind_some, Bool.eq_false_iff.mpr q]
    show own_To P F j k65 (if (0 : Int32) = own_b false then _ else _)
    rw [if_pos (show (0 : Int32) = own_b false from rfl)]
    show own_To P F j k65 (if (0 : Int32) = 0 then _ else _)
    rw [if_pos rfl]
    exact own_to hn G
end
theorem own_and7 (x : Int32) : ∃ v : Nat, v ≤ 7 ∧ x &&& 7 = Int32.ofNat v := by
  have r := and_rng x (m := 7) (by omega)
  rw [show Int32.ofNat 7 = (7 : Int32) from rfl] at r
  obtain ⟨v, h1, -, h2⟩ := own_nat (x := x &&& 7) (lo := 0) (hi := 7) (by omega) (by omega)
  exact ⟨v, h2, h1⟩
theorem own_cell (sn : Nat) (sf : Nat → Int32) (h : sn ≤ 260) {j : Nat} (hj : j ≤ 300) : ∃ v, f_hcell sn sf (Int32.ofNat j) = some v := by
  unfold f_hcell
  by_cases q : j < sn
  · rw [if_pos (show Int32.ofNat j < sn.toInt32 from ltN q (by omega)), grd_pos (inbN q (by omega))]; exact ⟨_, rfl⟩
  · rw [if_neg (show ¬ Int32.ofNat j < sn.toInt32 from fun w => q ((N_lt (by omega) (by omega)).mp w))]; exact ⟨_, rfl⟩
theorem own_loop {n P F sn : Nat} {sf : Nat → Int32} (hn : 400 ≤ n) (hsn : sn ≤ 260) : ∀ (m j k K : Nat) (s : St), sn ≤ j + m → j ≤ 270 → m < k → own_G P F K s → ∃ w, f_law_65 n sn sf k (Int32.ofNat P) (Int32.ofNat F) (Int32.ofNat (16 * P)) (Int32.ofNat K) (Int32.ofNat j) s = some (1, w) := by
  intro m
  induction m with
  | zero =>
    intro j k K s hj hj2 hk G
    obtain ⟨k, rfl⟩ : ∃ k', k = k' + 1 := ⟨k - 1, by omega⟩
    rw [u_law_65, if_neg (show ¬ Int32.ofNat j < sn.toInt32 from fun w => by have := (N_lt (by omega) (by omega)).mp w; omega)]
    exact ⟨s, rfl⟩
  | succ m ih =>
    intro j k K s hj hj2 hk G
    obtain ⟨k, rfl⟩ : ∃ k', k = k' + 1 := ⟨k - 1, by omega⟩
    rw [u_law_65]
    by_cases q : j < sn
    · have fin : ∀ x, own_To P F j (f_law_65 n sn sf k) x → ∃ w, x = some (1, w) := fun x ⟨K', t, g1, g2⟩ => by
        obtain ⟨w, ew⟩ := ih (j + 2) k K' t (by omega) (by omega) (by omega) g1
        exact ⟨w, by rw [g2, ew]⟩
      rw [if_pos (show Int32.ofNat j < sn.toInt32 from ltN q (by omega)), grd_pos (inbN q (by omega)), N_succ]
      obtain ⟨q3, e3⟩ := own_cell sn sf hsn (j := j + 1) (by omega)
      rw [e3, Option.bind_some, ix_N (by omega)]
      obtain ⟨v, v7, ev⟩ := own_and7 (sf j)
      rw [ev]
      have G' := G
      have K3 := own_Gle G
      obtain ⟨c, f, B, J, T, e⟩ := G'
      have P2 := J.1.2.2.1
      have P9 := J.1.2.2.2.1
      have n16 : 0 < 16 * P := by omega
      by_cases v3 : 3 < v
      · rw [if_pos (by rw [show (3 : Int32) = Int32.ofNat 3 from rfl]; exact ltN v3 (by omega))]
        have nv : ∀ w : Nat, w ≤ 7 → v ≠ w → ¬ Int32.ofNat v = Int32.ofNat w := fun w hw h z => h ((N_inj (by omega) (by omega)).mp z)
        by_cases v4 : v = 4
        · rw [if_pos (by rw [v4]; rfl)]
          by_cases k0 : 0 < K
          · rw [if_pos (by rw [show (0 : Int32) = Int32.ofNat 0 from rfl]; exact ltN k0 (by omega))]
            obtain ⟨idx, i1, i2⟩ := own_hmod q3 k0 (by omega)
            rw [i2, Option.bind_some]
            exact fin _ (own_t4 (by omega) G i1 q3)
          · rw [if_neg (fun w => k0 (by rw [show (0 : Int32) = Int32.ofNat 0 from rfl, N_lt (by omega) (by omega)] at w; exact w))]
            exact fin _ (own_to (by omega) G)
        · rw [if_neg (show ¬ Int32.ofNat v = 4 from nv 4 (by omega) v4)]
          by_cases v5 : v = 5
          · rw [if_pos (by rw [v5]; rfl)]
            obtain ⟨A, i1, i2⟩ := own_hmod q3 n16 (by omega)
            have a5 := (J.2.1 (A / 16) (by omega)).2.2.1
            rw [i2, Option.bind_some, own_il J i1, Option.bind_some, show (16 : Int32) = Int32.ofNat 16 from rfl, own_divN (by omega) (by omega), rem_N (by omega) (by omega) (by omega), own_pgC J (by omega), Option.bind_some]
            have f5 := own_510 (n := n) (sn := sn) (sf := sf) (k65 := f_law_65 n sn sf k) (j := j) (by omega) G J T e i1
            by_cases l : own_lv c B (A / 16) (A % 16) = true
            · have c3 := (own_lvF J (by omega) l).1
              have p2 := own_p2 c3
              have ml : A % 16 % 2 ^ c (A / 16) < 2147483648 := by have := Nat.mod_le (A % 16) (2 ^ c (A / 16)); omega
              rw [l, if_neg (by decide), own_kN c3, own_hsz c3, Option.bind_some, grd_pos (own_nz (by omega) (by omega)), rem_N (by omega) (by omega) (by omega)]
              by_cases r : A % 16 % 2 ^ c (A / 16) = 0
              · rw [show own_st c B A = true by unfold own_st; rw [l, decide_eq_true r]; rfl] at f5
                rw [r, if_pos (by rfl : Int32.ofNat 0 = 0)]; exact fin _ f5
              · rw [show own_st c B A = false by unfold own_st; rw [decide_eq_false r, Bool.and_false]] at f5
                rw [if_neg (fun w => r (by rw [show (0 : Int32) = Int32.ofNat 0 from rfl, N_inj ml (by omega)] at w; exact w))]; exact fin _ f5
            · rw [show own_st c B A = false by unfold own_st; rw [Bool.eq_false_iff.mpr l, Bool.false_and]] at f5
              rw [Bool.eq_false_iff.mpr l, if_pos (show own_b false = 0 from rfl)]; exact fin _ f5
          · rw [if_neg (show ¬ Int32.ofNat v = 5 from nv 5 (by omega) v5)]
            by_cases v6 : v = 6
            · rw [if_pos (by rw [v6]; rfl)]
              obtain ⟨f', t, M, m1, m2, m3, m4, m5⟩ := own_mesh (n := n) (by omega) J T
              have cl := own_ctle (fun z => own_on c f z P) F
              have F8 := J.1.2.2.2.2.2
              rw [own_fiu (by omega) J, Option.bind_some, show f_rngState s = some (s.1 6) from rfl, Option.bind_some, m1, Option.bind_some]
              refine fin _ ?_
              show own_To P F j _ (if Int32.ofNat M < 0 then _ else _)
              rw [if_neg (N_neg (by omega))]
              show own_To P F j _ ((f_framesInUse n t).bind _)
              rw [own_fiu (by omega) m2, Option.bind_some]
              show own_To P F j _ (if _ = Int32.ofNat (own_ct (fun z => own_on c f z P) F) - Int32.ofNat M then _ else _)
              rw [if_pos (by rw [← m4, ← N_add, Int32.add_sub_cancel])]
              show own_To P F j _ ((f_rngState t).bind _)
              rw [show f_rngState t = some (t.1 6) from rfl, Option.bind_some, m5, if_pos rfl]
              exact own_to (by omega) ⟨c, f', B, m2, m3, e⟩
            · rw [if_neg (show ¬ Int32.ofNat v = 6 from nv 6 (by omega) v6)]
              obtain ⟨A, i1, i2⟩ := own_hmod q3 n16 (by omega)
              obtain ⟨t, t1, t2, t3, t4, t5⟩ := own_write J (ex := fun _ _ => False) (fun p off hp ho hl _ => T p off hp ho hl) i1
              rw [i2, Option.bind_some, own_il J i1, Option.bind_some, show f_htag (Int32.ofNat A) = some (own_tag A) from rfl, Option.bind_some, t1, Option.bind_some]
              refine fin _ ?_
              show own_To P F j _ (if own_b (own_lv c B (A / 16) (A % 16)) = own_b (own_lv c B (A / 16) (A % 16)) then _ else _)
              rw [if_pos rfl]
              exact own_to (by omega) ⟨c, f, B, t2, fun p off hp ho hl => t3 p off hp ho hl (fun w => w.1), e⟩
      · rw [if_neg (fun w => v3 (by rw [show (3 : Int32) = Int32.ofNat 3 from rfl, N_lt (by omega) (by omega)] at w; exact w))]
        obtain ⟨cls, i1, i2⟩ := own_hmod q3 (m := 3) (by omega) (by omega)
        rw [show f_hmod q3 3 = some (Int32.ofNat cls) from i2, Option.bind_some]
        exact fin _ (own_t3 (by omega) G i1)
    · rw [if_neg (show ¬ Int32.ofNat j < sn.toInt32 from fun w => q ((N_lt (by omega) (by omega)).mp w))]
      exact ⟨s, rfl⟩
theorem own_ctor2 {n P F : Nat} (hn : 100 ≤ n) (hP : 2 ≤ P) (hP9 : P ≤ 9) (hF : 1 ≤ F) (hF8 : F ≤ 8) (x : Int32) : ∃ s, f_ctor n (Int32.ofNat P) (Int32.ofNat F) x = some s ∧ own_G P F 0 s := by
  unfold f_ctor f_ctor_37
  have c1 : own_cl (Int32.ofNat P) 2 16 = Int32.ofNat P := by
    unfold own_cl
    rw [if_neg (fun w => by rw [show (2 : Int32) = Int32.ofNat 2 from rfl, N_lt (by omega) (by omega)] at w; omega), if_neg (fun w => by rw [show (16 : Int32) = Int32.ofNat 16 from rfl, N_lt (by omega) (by omega)] at w; omega)]
  have c2 : own_cl (Int32.ofNat F) 1 16 = Int32.ofNat F := by
    unfold own_cl
    rw [if_neg (fun w => by rw [show (1 : Int32) = Int32.ofNat 1 from rfl, N_lt (by omega) (by omega)] at w; omega), if_neg (fun w => by rw [show (16 : Int32) = Int32.ofNat 16 from rfl, N_lt (by omega) (by omega)] at w; omega)]
  simp only [own_clamp, Option.bind_some, bnd_eq, c1, c2]
  rw [show (0 : Int32) = Int32.ofNat (16 - 16) from rfl, own_fill n 16 n _ (Nat.le_refl _) (by omega)]
  refine ⟨_, rfl, fun _ => 3, fun _ => 0, fun _ => 0, ⟨⟨rfl, rfl, hP, hP9, hF, hF8⟩, fun p hp => ?_, fun p q _ _ _ h => absurd h (Nat.lt_irrefl 3)⟩, fun p off _ _ hl => ?_, ?_⟩
  · have h16 : p < 16 := by omega
    refine ⟨?_, ?_, Nat.le_refl 3, fun _ => ⟨rfl, ?_⟩, fun h => absurd h (Nat.lt_irrefl 3)⟩
    · show (if (0 = 0 ∨ 0 = 1) ∧ 16 - 16 ≤ p ∧ p < 16 then (-1 : Int32) else _) = _
      rw [if_pos ⟨Or.inl rfl, by omega, h16⟩]; rfl
    · show (if (2 = 0 ∨ 2 = 1) ∧ 16 - 16 ≤ p ∧ p < 16 then (-1 : Int32) else if 2 = 2 ∧ 16 - 16 ≤ p ∧ p < 16 then 0 else _) = _
      rw [if_neg (fun w => by omega), if_pos ⟨rfl, by omega, h16⟩]; rfl
    · show (if (1 = 0 ∨ 1 = 1) ∧ 16 - 16 ≤ p ∧ p < 16 then (-1 : Int32) else _) = _
      rw [if_pos ⟨Or.inr rfl, by omega, h16⟩]
  · unfold own_lv at hl
    rw [Nat.zero_testBit, Bool.and_false] at hl; cases hl
  · have : ∀ m, own_lo (fun _ => 0) m = 0 := fun m => by
      induction m with
      | zero => rfl
      | succ m ih =>
        show own_lo (fun _ => 0) m + own_pc 0 32 = 0
        rw [ih, own_pc0]
    exact (this P).symm
theorem plain : ∀ (sn : Nat) (sf : Nat → Int32), sn ≤ 260 → ∃ n w, f_law n sn sf = some (1, w) := by
  intro sn sf hsn
  obtain ⟨n, hn⟩ : ∃ n : Nat, 1000 ≤ n := ⟨1000, Nat.le_refl _⟩
  refine ⟨n, ?_⟩
  obtain ⟨v0, e0⟩ := own_cell sn sf hsn (j := 0) (by omega)
  obtain ⟨v1, e1⟩ := own_cell sn sf hsn (j := 1) (by omega)
  obtain ⟨v2, e2⟩ := own_cell sn sf hsn (j := 2) (by omega)
  unfold f_law
  rw [show f_hcell sn sf 0 = some v0 from e0, Option.bind_some, show f_hcell sn sf 1 = some v1 from e1, Option.bind_some, show f_hcell sn sf 2 = some v2 from e2, Option.bind_some]
  obtain ⟨a, a7, ea⟩ := own_and7 v0
  obtain ⟨b, b7, eb⟩ := own_and7 v1
  rw [ea, eb, show (2 : Int32) = Int32.ofNat 2 from rfl, show (1 : Int32) = Int32.ofNat 1 from rfl, N_add, N_add]
  obtain ⟨s, es, G⟩ := own_ctor2 (n := n) (P := 2 + a) (F := 1 + b) (by omega) (by omega) (by omega) (by omega) (by omega) (v2 &&& 65535)
  rw [es, Option.bind_some]
  unfold f_law_39
  have G' := G
  obtain ⟨c, f, B, J, T, e⟩ := G'
  rw [show f_hconsistent n s (Int32.ofNat (2 + a)) (Int32.ofNat (1 + b)) 0 = some 1 from own_cons (by omega) J T e, Option.bind_some, if_neg (by decide), show (16 : Int32) = Int32.ofNat 16 from rfl, N_mul, Nat.mul_comm]
  exact own_loop (by omega) hsn 260 3 n 0 s (by omega) (by omega) (by omega) G
theorem main_1_1 : Claimed_1_1 := comes_1 plain fun _ _ _ _ _ _ h hF => ⟨h.1, hF⟩
theorem main_1_2 : Claimed_1_2 := comes_1 plain fun _ _ _ _ _ _ h hF => ⟨h.2.1, hF⟩


end Jvm.Pilot.@@N@@
namespace Jvm.Pilot.@@N@@
open Jvm Jvm.ClassFile Sem Op Lib Jvm.Free Jvm.Stand Jvm.Pilot.@@N@@.Jvm.D
/-! MADE BY PROGRAM (witnessworld.py) out of the Statement's table words and the real class files: 9 classes; the members and pool entries that the words name. The judged class is class 1, her method 7. -/
namespace start1
open Jvm.ClassFile
def u (s : String) : CpInfo := .utf8 (stringToUtf16 s)
/-- a pool by its gaps: so many unusable entries, then the entry; so many at the end -/
def gap : Nat → List CpInfo → List CpInfo
  | 0, r => r
  | n + 1, r => .unusable :: gap n r
def poolList (es : List (Nat × CpInfo)) (last : Nat) : List CpInfo := es.foldr (fun e r => gap e.1 (e.2 :: r)) (gap last [])
def pool (es : List (Nat × CpInfo)) (last : Nat) : Array CpInfo := ⟨poolList es last⟩
def fileOf (pool : Array CpInfo) (this : Nat) (attrs : Array Attribute := #[]) (ms : Array MethodInfo := #[]) (fl : Nat := 33) (sup : Nat := 0) (ifs : Array Nat := #[]) (fds : Array FieldInfo := #[]) : ClassFile where
  minorVersion := 0
  majorVersion := 65
  constantPool := pool
  accessFlags := fl
  thisClass := this
  superClass := sup
  interfaces := ifs
  fields := fds
  methods := ms
  attributes := attrs
def plain (name : String) (sup : Option ClassId) : Class where
  name := name
  kind := .ordinary
  loader := none
  accessFlags := 33
  super := sup
  interfaces := #[]
  cf := none
  fields := #[]
  methods := #[]
  instanceTypes := #[]
  staticTypes := #[]
  resolved := #[]
  callSites := []
  init := .initialized
  statics := none
  mirror := none

def pool0 : Array CpInfo := pool [(5, u "<init>"), (0, u "()V"), (1, .class_ 10), (1, u "java/lang/Object")] 113

def k0c0 : Code := { maxStack := 0, maxLocals := 1, code := object_method_1_code, exceptionTable := #[], attributes := #[] }
def k0m0 : Method := { name := "<init>", desc := "()V", sig := { parameters := [], returnType := none }, accessFlags := 1, code := some k0c0 }
/-- java/lang/Object -/
def k0 : Class := { plain "java/lang/Object" none with
  accessFlags := 33
  interfaces := #[]
  cf := some (fileOf pool0 8 #[] #[{ accessFlags := 1, nameIndex := 5, descriptorIndex := 6, attributes := #[] }] 33 0 #[] #[])
  fields := #[]
  methods := #[k0m0]
  instanceTypes := #[]
  staticTypes := #[]
  resolved := Array.replicate 124 none
  statics := none }

def pool1 : Array CpInfo := pool [(2, .class_ 4), (1, u "java/lang/Object"), (0, u "<init>"), (0, u "()V"), (0, .methodref 8 9), (0, .class_ 10), (0, .nameAndType 11 12), (0, u "MeshAllocatorX"), (0, u "liveObjects"), (0, u "()I"), (0, .methodref 8 14), (0, .nameAndType 15 16), (0, u "pageClass"), (0, u "(I)I"), (0, .methodref 8 18), (0, .nameAndType 19 16), (0, u "frameOf"), (0, .methodref 8 21), (0, .nameAndType 22 16), (0, u "pageBits"), (0, .methodref 24 25), (0, .class_ 26), (0, .nameAndType 27 16), (0, u "MeshAllocatorXOwnLaw"), (0, u "size"), (0, .methodref 24 29), (0, .nameAndType 30 16), (0, u "pop"), (0, .methodref 8 32), (0, .nameAndType 33 12), (0, u "pagesInUse"), (0, .methodref 8 35), (0, .nameAndType 36 16), (0, u "frameBits"), (0, .methodref 8 38), (0, .nameAndType 39 12), (0, u "framesInUse"), (0, .methodref 8 41), (0, .nameAndType 42 43), (0, u "isLive"), (0, u "(I)Z"), (0, .methodref 8 45), (0, .nameAndType 46 16), (0, u "read"), (0, .methodref 24 48), (0, .nameAndType 49 16), (0, u "tag"), (0, .methodref 24 51), (0, .nameAndType 52 53), (0, u "cell"), (0, u "([II)I"), (0, .integer 65535), (0, .methodref 8 56), (0, .nameAndType 5 57), (0, u "(III)V"), (0, .methodref 24 59), (0, .nameAndType 60 61), (0, u "consistent"), (0, u "(LMeshAllocatorX;III)Z"), (0, .methodref 24 63), (0, .nameAndType 64 65), (0, u "mod"), (0, u "(II)I"), (0, .methodref 8 67), (0, .nameAndType 68 12), (0, u "rngState"), (0, .methodref 8 70), (0, .nameAndType 71 16), (0, u "alloc"), (0, .integer 1103515245), (0, .methodref 8 74), (0, .nameAndType 75 76), (0, u "write"), (0, u "(II)Z"), (0, .methodref 8 78), (0, .nameAndType 79 43), (0, u "free"), (0, .methodref 8 81), (0, .nameAndType 82 12), (0, u "mesh"), (3, u "law"), (0, u "([I)Z")] 4

def k1m0 : Method := { name := "<init>", desc := "()V", sig := { parameters := [], returnType := none }, accessFlags := 1, code := none }
def k1c1 : Code := { maxStack := 2, maxLocals := 2, code := method_2_code, exceptionTable := #[], attributes := #[] }
def k1m1 : Method := { name := "cell", desc := "([II)I", sig := { parameters := [(.array .int), .int], returnType := some .int }, accessFlags := 10, code := some k1c1 }
def k1c2 : Code := { maxStack := 2, maxLocals := 3, code := method_3_code, exceptionTable := #[], attributes := #[] }
def k1m2 : Method := { name := "mod", desc := "(II)I", sig := { parameters := [.int, .int], returnType := some .int }, accessFlags := 10, code := some k1c2 }
def k1c3 : Code := { maxStack := 2, maxLocals := 1, code := method_4_code, exceptionTable := #[], attributes := #[] }
def k1m3 : Method := { name := "tag", desc := "(I)I", sig := { parameters := [.int], returnType := some .int }, accessFlags := 10, code := some k1c3 }
def k1c4 : Code := { maxStack := 2, maxLocals := 1, code := method_5_code, exceptionTable := #[], attributes := #[] }
def k1m4 : Method := { name := "size", desc := "(I)I", sig := { parameters := [.int], returnType := some .int }, accessFlags := 10, code := some k1c4 }
def k1c5 : Code := { maxStack := 2, maxLocals := 3, code := method_6_code, exceptionTable := #[], attributes := #[] }
def k1m5 : Method := { name := "pop", desc := "(I)I", sig := { parameters := [.int], returnType := some .int }, accessFlags := 10, code := some k1c5 }
def k1c6 : Code := { maxStack := 3, maxLocals := 11, code := method_7_code, exceptionTable := #[], attributes := #[] }
def k1m6 : Method := { name := "consistent", desc := "(LMeshAllocatorX;III)Z", sig := { parameters := [(.object "MeshAllocatorX"), .int, .int, .int], returnType := some .boolean }, accessFlags := 10, code := some k1c6 }
def k1c7 : Code := { maxStack := 6, maxLocals := 14, code := code, exceptionTable := #[], attributes := #[] }
def k1m7 : Method := { name := "law", desc := "([I)Z", sig := { parameters := [(.array .int)], returnType := some .boolean }, accessFlags := 9, code := some k1c7 }
/-- MeshAllocatorXOwnLaw -/
def k1 : Class := { plain "MeshAllocatorXOwnLaw" (some 0) with
  accessFlags := 49
  interfaces := #[]
  cf := some (fileOf pool1 24 #[] #[{ accessFlags := 1, nameIndex := 5, descriptorIndex := 6, attributes := #[] }, { accessFlags := 10, nameIndex := 52, descriptorIndex := 53, attributes := #[] }, { accessFlags := 10, nameIndex := 64, descriptorIndex := 65, attributes := #[] }, { accessFlags := 10, nameIndex := 49, descriptorIndex := 16, attributes := #[] }, { accessFlags := 10, nameIndex := 27, descriptorIndex := 16, attributes := #[] }, { accessFlags := 10, nameIndex := 30, descriptorIndex := 16, attributes := #[] }, { accessFlags := 10, nameIndex := 60, descriptorIndex := 61, attributes := #[] }, { accessFlags := 9, nameIndex := 86, descriptorIndex := 87, attributes := #[] }] 49 2 #[] #[])
  fields := #[]
  methods := #[k1m0, k1m1, k1m2, k1m3, k1m4, k1m5, k1m6, k1m7]
  instanceTypes := #[]
  staticTypes := #[]
  resolved := Array.replicate 92 none
  statics := none }

def pool2 : Array CpInfo := pool [(1, .methodref 2 3), (0, .class_ 4), (0, .nameAndType 5 6), (0, u "java/lang/Object"), (0, u "<init>"), (0, u "()V"), (0, .fieldref 8 9), (0, .class_ 10), (0, .nameAndType 11 12), (0, u "MeshAllocatorX"), (0, u "pcls"), (0, u "[I"), (0, .fieldref 8 14), (0, .nameAndType 15 12), (0, u "pframe"), (0, .fieldref 8 17), (0, .nameAndType 18 12), (0, u "pbits"), (0, .fieldref 8 20), (0, .nameAndType 21 12), (0, u "mem"), (0, .methodref 8 23), (0, .nameAndType 24 25), (0, u "clamp"), (0, u "(III)I"), (0, .fieldref 8 27), (0, .nameAndType 28 29), (0, u "numPages"), (0, u "I"), (0, .fieldref 8 31), (0, .nameAndType 32 29), (0, u "numFrames"), (0, .integer 65535), (0, .fieldref 8 35), (0, .nameAndType 36 29), (0, u "rng"), (0, .integer 1103515245), (0, .methodref 8 39), (0, .nameAndType 40 41), (0, u "slotsOf"), (0, u "(I)I"), (0, .methodref 8 43), (0, .nameAndType 44 41), (0, u "unionOf"), (0, .methodref 8 46), (0, .nameAndType 47 48), (0, u "countClear"), (0, u "(II)I"), (0, .methodref 8 50), (0, .nameAndType 51 41), (0, u "frameClass"), (0, .methodref 8 53), (0, .nameAndType 54 41), (0, u "findEligible"), (0, .methodref 8 56), (0, .nameAndType 57 58), (0, u "lowestUnusedPage"), (0, u "()I"), (0, .methodref 8 60), (0, .nameAndType 61 58), (0, u "lowestFreeFrame"), (0, .methodref 8 63), (0, .nameAndType 64 48), (0, u "placeObject"), (0, .methodref 8 66), (0, .nameAndType 67 41), (0, u "sizeOf"), (0, .methodref 8 69), (0, .nameAndType 70 58), (0, u "step"), (0, .methodref 8 72), (0, .nameAndType 73 25), (0, u "nthClear"), (0, .methodref 8 75), (0, .nameAndType 76 41), (0, u "liveIndex"), (0, .methodref 8 78), (0, .nameAndType 79 48), (0, u "meshInto"), (0, .methodref 8 81), (0, .nameAndType 82 83), (0, u "mergeFrames"), (0, u "(IIII)V"), (0, .methodref 8 85), (0, .nameAndType 86 41), (0, u "popCount"), (0, u "WORDS_PER_PAGE"), (2, u "NO_CLASS"), (1, u "NO_FRAME"), (0, u "ERR_CLASS"), (0, u "ERR_NO_PAGE"), (1, u "ERR_NO_FRAME"), (1, u "(III)V"), (3, u "alloc"), (0, u "free"), (0, u "(I)Z"), (0, u "write"), (0, u "(II)Z"), (0, u "read"), (0, u "isLive"), (0, u "mesh"), (0, u "pageClass"), (0, u "frameOf"), (0, u "pageBits"), (0, u "frameBits"), (0, u "framesInUse"), (0, u "pagesInUse"), (0, u "liveObjects"), (0, u "rngState")] 2

def k2c0 : Code := { maxStack := 5, maxLocals := 5, code := prog_1_method_1_code, exceptionTable := #[], attributes := #[] }
def k2m0 : Method := { name := "<init>", desc := "(III)V", sig := { parameters := [.int, .int, .int], returnType := none }, accessFlags := 1, code := some k2c0 }
def k2c1 : Code := { maxStack := 2, maxLocals := 4, code := prog_1_method_2_code, exceptionTable := #[], attributes := #[] }
def k2m1 : Method := { name := "clamp", desc := "(III)I", sig := { parameters := [.int, .int, .int], returnType := some .int }, accessFlags := 2, code := some k2c1 }
def k2c2 : Code := { maxStack := 2, maxLocals := 2, code := prog_1_method_3_code, exceptionTable := #[], attributes := #[] }
def k2m2 : Method := { name := "slotsOf", desc := "(I)I", sig := { parameters := [.int], returnType := some .int }, accessFlags := 2, code := some k2c2 }
def k2c3 : Code := { maxStack := 2, maxLocals := 2, code := prog_1_method_4_code, exceptionTable := #[], attributes := #[] }
def k2m3 : Method := { name := "sizeOf", desc := "(I)I", sig := { parameters := [.int], returnType := some .int }, accessFlags := 2, code := some k2c3 }
def k2c4 : Code := { maxStack := 3, maxLocals := 1, code := prog_1_method_5_code, exceptionTable := #[], attributes := #[] }
def k2m4 : Method := { name := "step", desc := "()I", sig := { parameters := [], returnType := some .int }, accessFlags := 2, code := some k2c4 }
def k2c5 : Code := { maxStack := 3, maxLocals := 4, code := prog_1_method_6_code, exceptionTable := #[], attributes := #[] }
def k2m5 : Method := { name := "unionOf", desc := "(I)I", sig := { parameters := [.int], returnType := some .int }, accessFlags := 2, code := some k2c5 }
def k2c6 : Code := { maxStack := 2, maxLocals := 3, code := prog_1_method_7_code, exceptionTable := #[], attributes := #[] }
def k2m6 : Method := { name := "frameClass", desc := "(I)I", sig := { parameters := [.int], returnType := some .int }, accessFlags := 2, code := some k2c6 }
def k2c7 : Code := { maxStack := 2, maxLocals := 5, code := prog_1_method_8_code, exceptionTable := #[], attributes := #[] }
def k2m7 : Method := { name := "countClear", desc := "(II)I", sig := { parameters := [.int, .int], returnType := some .int }, accessFlags := 2, code := some k2c7 }
def k2c8 : Code := { maxStack := 2, maxLocals := 6, code := prog_1_method_9_code, exceptionTable := #[], attributes := #[] }
def k2m8 : Method := { name := "nthClear", desc := "(III)I", sig := { parameters := [.int, .int, .int], returnType := some .int }, accessFlags := 2, code := some k2c8 }
def k2c9 : Code := { maxStack := 2, maxLocals := 4, code := prog_1_method_10_code, exceptionTable := #[], attributes := #[] }
def k2m9 : Method := { name := "popCount", desc := "(I)I", sig := { parameters := [.int], returnType := some .int }, accessFlags := 2, code := some k2c9 }
def k2c10 : Code := { maxStack := 3, maxLocals := 5, code := prog_1_method_11_code, exceptionTable := #[], attributes := #[] }
def k2m10 : Method := { name := "findEligible", desc := "(I)I", sig := { parameters := [.int], returnType := some .int }, accessFlags := 2, code := some k2c10 }
def k2c11 : Code := { maxStack := 2, maxLocals := 2, code := prog_1_method_12_code, exceptionTable := #[], attributes := #[] }
def k2m11 : Method := { name := "lowestUnusedPage", desc := "()I", sig := { parameters := [], returnType := some .int }, accessFlags := 2, code := some k2c11 }
def k2c12 : Code := { maxStack := 2, maxLocals := 2, code := prog_1_method_13_code, exceptionTable := #[], attributes := #[] }
def k2m12 : Method := { name := "lowestFreeFrame", desc := "()I", sig := { parameters := [], returnType := some .int }, accessFlags := 2, code := some k2c12 }
def k2c13 : Code := { maxStack := 3, maxLocals := 4, code := prog_1_method_14_code, exceptionTable := #[], attributes := #[] }
def k2m13 : Method := { name := "alloc", desc := "(I)I", sig := { parameters := [.int], returnType := some .int }, accessFlags := 1, code := some k2c13 }
def k2c14 : Code := { maxStack := 5, maxLocals := 13, code := prog_1_method_15_code, exceptionTable := #[], attributes := #[] }
def k2m14 : Method := { name := "placeObject", desc := "(II)I", sig := { parameters := [.int, .int], returnType := some .int }, accessFlags := 2, code := some k2c14 }
def k2c15 : Code := { maxStack := 5, maxLocals := 7, code := prog_1_method_16_code, exceptionTable := #[], attributes := #[] }
def k2m15 : Method := { name := "free", desc := "(I)Z", sig := { parameters := [.int], returnType := some .boolean }, accessFlags := 1, code := some k2c15 }
def k2c16 : Code := { maxStack := 3, maxLocals := 7, code := prog_1_method_17_code, exceptionTable := #[], attributes := #[] }
def k2m16 : Method := { name := "liveIndex", desc := "(I)I", sig := { parameters := [.int], returnType := some .int }, accessFlags := 2, code := some k2c16 }
def k2c17 : Code := { maxStack := 3, maxLocals := 4, code := prog_1_method_18_code, exceptionTable := #[], attributes := #[] }
def k2m17 : Method := { name := "write", desc := "(II)Z", sig := { parameters := [.int, .int], returnType := some .boolean }, accessFlags := 1, code := some k2c17 }
def k2c18 : Code := { maxStack := 2, maxLocals := 3, code := prog_1_method_19_code, exceptionTable := #[], attributes := #[] }
def k2m18 : Method := { name := "read", desc := "(I)I", sig := { parameters := [.int], returnType := some .int }, accessFlags := 1, code := some k2c18 }
def k2c19 : Code := { maxStack := 2, maxLocals := 2, code := prog_1_method_20_code, exceptionTable := #[], attributes := #[] }
def k2m19 : Method := { name := "isLive", desc := "(I)Z", sig := { parameters := [.int], returnType := some .boolean }, accessFlags := 1, code := some k2c19 }
def k2c20 : Code := { maxStack := 4, maxLocals := 4, code := prog_1_method_21_code, exceptionTable := #[], attributes := #[] }
def k2m20 : Method := { name := "mesh", desc := "()I", sig := { parameters := [], returnType := some .int }, accessFlags := 1, code := some k2c20 }
def k2c21 : Code := { maxStack := 5, maxLocals := 7, code := prog_1_method_22_code, exceptionTable := #[], attributes := #[] }
def k2m21 : Method := { name := "meshInto", desc := "(II)I", sig := { parameters := [.int, .int], returnType := some .int }, accessFlags := 2, code := some k2c21 }
def k2c22 : Code := { maxStack := 5, maxLocals := 10, code := prog_1_method_23_code, exceptionTable := #[], attributes := #[] }
def k2m22 : Method := { name := "mergeFrames", desc := "(IIII)V", sig := { parameters := [.int, .int, .int, .int], returnType := none }, accessFlags := 2, code := some k2c22 }
def k2c23 : Code := { maxStack := 2, maxLocals := 2, code := prog_1_method_24_code, exceptionTable := #[], attributes := #[] }
def k2m23 : Method := { name := "pageClass", desc := "(I)I", sig := { parameters := [.int], returnType := some .int }, accessFlags := 1, code := some k2c23 }
def k2c24 : Code := { maxStack := 2, maxLocals := 2, code := prog_1_method_25_code, exceptionTable := #[], attributes := #[] }
def k2m24 : Method := { name := "frameOf", desc := "(I)I", sig := { parameters := [.int], returnType := some .int }, accessFlags := 1, code := some k2c24 }
def k2c25 : Code := { maxStack := 2, maxLocals := 2, code := prog_1_method_26_code, exceptionTable := #[], attributes := #[] }
def k2m25 : Method := { name := "pageBits", desc := "(I)I", sig := { parameters := [.int], returnType := some .int }, accessFlags := 1, code := some k2c25 }
def k2c26 : Code := { maxStack := 2, maxLocals := 2, code := prog_1_method_27_code, exceptionTable := #[], attributes := #[] }
def k2m26 : Method := { name := "frameBits", desc := "(I)I", sig := { parameters := [.int], returnType := some .int }, accessFlags := 1, code := some k2c26 }
def k2c27 : Code := { maxStack := 2, maxLocals := 3, code := prog_1_method_28_code, exceptionTable := #[], attributes := #[] }
def k2m27 : Method := { name := "framesInUse", desc := "()I", sig := { parameters := [], returnType := some .int }, accessFlags := 1, code := some k2c27 }
def k2c28 : Code := { maxStack := 2, maxLocals := 3, code := prog_1_method_29_code, exceptionTable := #[], attributes := #[] }
def k2m28 : Method := { name := "pagesInUse", desc := "()I", sig := { parameters := [], returnType := some .int }, accessFlags := 1, code := some k2c28 }
def k2c29 : Code := { maxStack := 4, maxLocals := 3, code := prog_1_method_30_code, exceptionTable := #[], attributes := #[] }
def k2m29 : Method := { name := "liveObjects", desc := "()I", sig := { parameters := [], returnType := some .int }, accessFlags := 1, code := some k2c29 }
def k2c30 : Code := { maxStack := 1, maxLocals := 1, code := prog_1_method_31_code, exceptionTable := #[], attributes := #[] }
def k2m30 : Method := { name := "rngState", desc := "()I", sig := { parameters := [], returnType := some .int }, accessFlags := 1, code := some k2c30 }
/-- MeshAllocatorX -/
def k2 : Class := { plain "MeshAllocatorX" (some 0) with
  accessFlags := 49
  interfaces := #[]
  cf := some (fileOf pool2 8 #[] #[{ accessFlags := 1, nameIndex := 5, descriptorIndex := 98, attributes := #[] }, { accessFlags := 2, nameIndex := 24, descriptorIndex := 25, attributes := #[] }, { accessFlags := 2, nameIndex := 40, descriptorIndex := 41, attributes := #[] }, { accessFlags := 2, nameIndex := 67, descriptorIndex := 41, attributes := #[] }, { accessFlags := 2, nameIndex := 70, descriptorIndex := 58, attributes := #[] }, { accessFlags := 2, nameIndex := 44, descriptorIndex := 41, attributes := #[] }, { accessFlags := 2, nameIndex := 51, descriptorIndex := 41, attributes := #[] }, { accessFlags := 2, nameIndex := 47, descriptorIndex := 48, attributes := #[] }, { accessFlags := 2, nameIndex := 73, descriptorIndex := 25, attributes := #[] }, { accessFlags := 2, nameIndex := 86, descriptorIndex := 41, attributes := #[] }, { accessFlags := 2, nameIndex := 54, descriptorIndex := 41, attributes := #[] }, { accessFlags := 2, nameIndex := 57, descriptorIndex := 58, attributes := #[] }, { accessFlags := 2, nameIndex := 61, descriptorIndex := 58, attributes := #[] }, { accessFlags := 1, nameIndex := 102, descriptorIndex := 41, attributes := #[] }, { accessFlags := 2, nameIndex := 64, descriptorIndex := 48, attributes := #[] }, { accessFlags := 1, nameIndex := 103, descriptorIndex := 104, attributes := #[] }, { accessFlags := 2, nameIndex := 76, descriptorIndex := 41, attributes := #[] }, { accessFlags := 1, nameIndex := 105, descriptorIndex := 106, attributes := #[] }, { accessFlags := 1, nameIndex := 107, descriptorIndex := 41, attributes := #[] }, { accessFlags := 1, nameIndex := 108, descriptorIndex := 104, attributes := #[] }, { accessFlags := 1, nameIndex := 109, descriptorIndex := 58, attributes := #[] }, { accessFlags := 2, nameIndex := 79, descriptorIndex := 48, attributes := #[] }, { accessFlags := 2, nameIndex := 82, descriptorIndex := 83, attributes := #[] }, { accessFlags := 1, nameIndex := 110, descriptorIndex := 41, attributes := #[] }, { accessFlags := 1, nameIndex := 111, descriptorIndex := 41, attributes := #[] }, { accessFlags := 1, nameIndex := 112, descriptorIndex := 41, attributes := #[] }, { accessFlags := 1, nameIndex := 113, descriptorIndex := 41, attributes := #[] }, { accessFlags := 1, nameIndex := 114, descriptorIndex := 58, attributes := #[] }, { accessFlags := 1, nameIndex := 115, descriptorIndex := 58, attributes := #[] }, { accessFlags := 1, nameIndex := 116, descriptorIndex := 58, attributes := #[] }, { accessFlags := 1, nameIndex := 117, descriptorIndex := 58, attributes := #[] }] 49 2 #[] #[{ accessFlags := 25, nameIndex := 87, descriptorIndex := 29, attributes := #[] }, { accessFlags := 25, nameIndex := 90, descriptorIndex := 29, attributes := #[] }, { accessFlags := 25, nameIndex := 92, descriptorIndex := 29, attributes := #[] }, { accessFlags := 25, nameIndex := 93, descriptorIndex := 29, attributes := #[] }, { accessFlags := 25, nameIndex := 94, descriptorIndex := 29, attributes := #[] }, { accessFlags := 25, nameIndex := 96, descriptorIndex := 29, attributes := #[] }, { accessFlags := 2, nameIndex := 28, descriptorIndex := 29, attributes := #[] }, { accessFlags := 2, nameIndex := 32, descriptorIndex := 29, attributes := #[] }, { accessFlags := 2, nameIndex := 36, descriptorIndex := 29, attributes := #[] }, { accessFlags := 2, nameIndex := 11, descriptorIndex := 12, attributes := #[] }, { accessFlags := 2, nameIndex := 15, descriptorIndex := 12, attributes := #[] }, { accessFlags := 2, nameIndex := 18, descriptorIndex := 12, attributes := #[] }, { accessFlags := 2, nameIndex := 21, descriptorIndex := 12, attributes := #[] }])
  fields := #[{ name := "WORDS_PER_PAGE", type := .int, accessFlags := 25, slot := 0, constantValue := 0 }, { name := "NO_CLASS", type := .int, accessFlags := 25, slot := 1, constantValue := 0 }, { name := "NO_FRAME", type := .int, accessFlags := 25, slot := 2, constantValue := 0 }, { name := "ERR_CLASS", type := .int, accessFlags := 25, slot := 3, constantValue := 0 }, { name := "ERR_NO_PAGE", type := .int, accessFlags := 25, slot := 4, constantValue := 0 }, { name := "ERR_NO_FRAME", type := .int, accessFlags := 25, slot := 5, constantValue := 0 }, { name := "numPages", type := .int, accessFlags := 2, slot := 0, constantValue := 0 }, { name := "numFrames", type := .int, accessFlags := 2, slot := 1, constantValue := 0 }, { name := "rng", type := .int, accessFlags := 2, slot := 2, constantValue := 0 }, { name := "pcls", type := (.array .int), accessFlags := 2, slot := 3, constantValue := 0 }, { name := "pframe", type := (.array .int), accessFlags := 2, slot := 4, constantValue := 0 }, { name := "pbits", type := (.array .int), accessFlags := 2, slot := 5, constantValue := 0 }, { name := "mem", type := (.array .int), accessFlags := 2, slot := 6, constantValue := 0 }]
  methods := #[k2m0, k2m1, k2m2, k2m3, k2m4, k2m5, k2m6, k2m7, k2m8, k2m9, k2m10, k2m11, k2m12, k2m13, k2m14, k2m15, k2m16, k2m17, k2m18, k2m19, k2m20, k2m21, k2m22, k2m23, k2m24, k2m25, k2m26, k2m27, k2m28, k2m29, k2m30]
  instanceTypes := #[.int, .int, .int, (.array .int), (.array .int), (.array .int), (.array .int)]
  staticTypes := #[.int, .int, .int, .int, .int, .int]
  resolved := Array.replicate 120 none
  statics := none }

def pool3 : Array CpInfo := pool [(1, u "java/lang/Cloneable"), (0, .class_ 1), (0, u "java/lang/Object"), (0, .class_ 3)] 3

/-- java/lang/Cloneable -/
def k3 : Class := { plain "java/lang/Cloneable" (some 0) with
  accessFlags := 1537
  interfaces := #[]
  cf := some (fileOf pool3 2 #[] #[] 1537 4 #[] #[])
  fields := #[]
  methods := #[]
  instanceTypes := #[]
  staticTypes := #[]
  resolved := Array.replicate 8 none
  statics := none }

def pool4 : Array CpInfo := pool [(1, u "java/io/Serializable"), (0, .class_ 1), (0, u "java/lang/Object"), (0, .class_ 3)] 3

/-- java/io/Serializable -/
def k4 : Class := { plain "java/io/Serializable" (some 0) with
  accessFlags := 1537
  interfaces := #[]
  cf := some (fileOf pool4 2 #[] #[] 1537 4 #[] #[])
  fields := #[]
  methods := #[]
  instanceTypes := #[]
  staticTypes := #[]
  resolved := Array.replicate 8 none
  statics := none }

/-- the primitive byte -/
def k5 : Class := { plain "byte" none with kind := .primitive 'B', accessFlags := 0x411 }
/-- [B -/
def k6 : Class := { plain "[B" (some 0) with kind := .array 5 .byte, interfaces := #[3, 4], accessFlags := 1041 }

/-- the primitive int -/
def k7 : Class := { plain "int" none with kind := .primitive 'I', accessFlags := 0x411 }
/-- [I -/
def k8 : Class := { plain "[I" (some 0) with kind := .array 7 .int, interfaces := #[3, 4], accessFlags := 1041 }

def heap : Heap := #[{ cls := 8, slots := #[.int 1, .int 2, .int 3], vm := .none }]
def classes : Array Class := #[k0, k1, k2, k3, k4, k5, k6, k7, k8]
def interned : List (Array UInt16 × Addr) := []
def slotsUsed : Nat := 3
def theMethod : MethodId := ⟨1, 7⟩
def args0 : Array Value := #[.ref 0]
def aboutOver (below : List Frame) : State where
  vm := { classes := classes, interned := interned.toArray }
  heap := heap
  slotsUsed := slotsUsed
  threads := #[{ frames := .invoking theMethod args0 :: below }]
def below0 : List Frame := [.native { method := ⟨0, 0⟩, args := #[] }]
def about1 : State := aboutOver below0
def p0 : Program := .bare "" "" ""
def e0 : Env := launch0.env 0 0 0
theorem w_frames : about1.frames = Frame.invoking theMethod args0 :: below0 := rfl
set_option maxRecDepth 65536 in
theorem w_args : argsFit about1.vm theMethod args0 = true := by decide +kernel
set_option maxRecDepth 65536 in
theorem w_heap : heapFits about1 = true := by decide +kernel
set_option maxRecDepth 65536 in
theorem w_runnable : about1.curStatus? = some .runnable := by decide +kernel
set_option maxRecDepth 65536 in
theorem w_alone : about1.alone = true := by decide +kernel
set_option maxRecDepth 65536 in
theorem w_named : about1.methodNamed? x = some theMethod := by decide +kernel
set_option maxRecDepth 65536 in
theorem w_hears : about1.hears theMethod below0 = true := by decide +kernel
set_option maxRecDepth 65536 in
theorem w_ripe : about1.ripe theMethod args0 below0 = true := by decide +kernel
theorem w_running : about1.status = .running := rfl
set_option maxRecDepth 65536 in
theorem w_room : about1.hasRoom e0.platform room_1 = true :=
  launch0.hasRoom_least _ room_1 (by decide +kernel) (by decide +kernel) (by decide +kernel) (by decide +kernel) (by decide +kernel) (by decide +kernel)
theorem allAtoms_all (ts : List Jvm.Cond) (a : Array Jvm.Value) (st : Jvm.State) : (allAtoms ts).before a st = ts.all (fun c => c.before a st) := by
  induction ts with
  | nil => rfl
  | cons c t ih =>
    show (Jvm.Cond.and c (allAtoms t)).before a st = _
    rw [Jvm.Cond.before_and, ih, List.all_cons]
def words1 : List Jvm.Cond := Jvm.Cond.code x code maxLocals ret :: tables_1
/-- a 'code' word, met by the world's own term for the bytes: nothing is compared byte by byte -/
theorem code_word {y : MethodName} {bytes : ByteArray} {mx : Nat} {rt : Option FieldType} {a : Array Value} {s : State} {m : MethodId} {meth : Method} {c : Code} (h1 : s.methodNamed? y = some m) (h2 : s.vm.method? m = some meth) (h3 : meth.code = some c) (h4 : c.code = bytes)
    (h5 : (c.maxLocals == mx && c.exceptionTable.isEmpty && decide (c.maxStack ≤ mostOperands) && decide (meth.sig.returnType = rt) && !meth.locks && decide (parseMethodDescriptor y.desc = some meth.sig)) = true) : (Jvm.Cond.code y bytes mx rt).before a s = true := by
  simp only [Bool.and_eq_true, beq_iff_eq, Bool.not_eq_true', decide_eq_true_eq] at h5
  obtain ⟨⟨⟨⟨⟨g1, g2⟩, g3⟩, g4⟩, g5⟩, g6⟩ := h5
  simp [Cond.before, Cond.holds, Cond.value, h1, h2, h3, h4, g1, g2, g3, g4, g5, g6]
def isCode : Jvm.Cond → Bool
  | .code _ _ _ _ => true
  | _ => false
theorem all_split {L : List Jvm.Cond} {P : Jvm.Cond → Bool} (h1 : L.all (fun c => isCode c || P c) = true) (h2 : ∀ c ∈ L.filter isCode, P c = true) : L.all P = true := by
  refine List.all_eq_true.mpr fun c hc => ?_
  have h := List.all_eq_true.mp h1 c hc
  rcases Bool.eq_false_or_eq_true (isCode c) with hi | hi
  · exact h2 c (List.mem_filter.mpr ⟨hc, hi⟩)
  · simpa [hi] using h
set_option maxRecDepth 65536 in
theorem w_c0 : (Jvm.Cond.code x code maxLocals ret).before args0 about1 = true := code_word (m := ⟨1, 7⟩) (meth := k1m7) (c := k1c7) (by decide +kernel) rfl rfl rfl (by decide +kernel)
set_option maxRecDepth 65536 in
theorem w_c1 : (Jvm.Cond.code ({ cls := "MeshAllocatorXOwnLaw", name := "cell", desc := "([II)I" } : Jvm.MethodName) method_2_code (2 : Nat) (Option.some Jvm.ClassFile.FieldType.int)).before args0 about1 = true := code_word (m := ⟨1, 1⟩) (meth := k1m1) (c := k1c1) (by decide +kernel) rfl rfl rfl (by decide +kernel)
set_option maxRecDepth 65536 in
theorem w_c2 : (Jvm.Cond.code ({ cls := "MeshAllocatorX", name := "<init>", desc := "(III)V" } : Jvm.MethodName) prog_1_method_1_code (5 : Nat) (Option.none : Option Jvm.ClassFile.FieldType)).before args0 about1 = true := code_word (m := ⟨2, 0⟩) (meth := k2m0) (c := k2c0) (by decide +kernel) rfl rfl rfl (by decide +kernel)
set_option maxRecDepth 65536 in
theorem w_c3 : (Jvm.Cond.code ({ cls := "java/lang/Object", name := "<init>", desc := "()V" } : Jvm.MethodName) object_method_1_code (1 : Nat) (Option.none : Option Jvm.ClassFile.FieldType)).before args0 about1 = true := code_word (m := ⟨0, 0⟩) (meth := k0m0) (c := k0c0) (by decide +kernel) rfl rfl rfl (by decide +kernel)
set_option maxRecDepth 65536 in
theorem w_c4 : (Jvm.Cond.code ({ cls := "MeshAllocatorX", name := "clamp", desc := "(III)I" } : Jvm.MethodName) prog_1_method_2_code (4 : Nat) (Option.some Jvm.ClassFile.FieldType.int)).before args0 about1 = true := code_word (m := ⟨2, 1⟩) (meth := k2m1) (c := k2c1) (by decide +kernel) rfl rfl rfl (by decide +kernel)
set_option maxRecDepth 65536 in
theorem w_c5 : (Jvm.Cond.code ({ cls := "MeshAllocatorXOwnLaw", name := "consistent", desc := "(LMeshAllocatorX;III)Z" } : Jvm.MethodName) method_7_code (11 : Nat) (Option.some Jvm.ClassFile.FieldType.boolean)).before args0 about1 = true := code_word (m := ⟨1, 6⟩) (meth := k1m6) (c := k1c6) (by decide +kernel) rfl rfl rfl (by decide +kernel)
set_option maxRecDepth 65536 in
theorem w_c6 : (Jvm.Cond.code ({ cls := "MeshAllocatorX", name := "liveObjects", desc := "()I" } : Jvm.MethodName) prog_1_method_30_code (3 : Nat) (Option.some Jvm.ClassFile.FieldType.int)).before args0 about1 = true := code_word (m := ⟨2, 29⟩) (meth := k2m29) (c := k2c29) (by decide +kernel) rfl rfl rfl (by decide +kernel)
set_option maxRecDepth 65536 in
theorem w_c7 : (Jvm.Cond.code ({ cls := "MeshAllocatorX", name := "pageClass", desc := "(I)I" } : Jvm.MethodName) prog_1_method_24_code (2 : Nat) (Option.some Jvm.ClassFile.FieldType.int)).before args0 about1 = true := code_word (m := ⟨2, 23⟩) (meth := k2m23) (c := k2c23) (by decide +kernel) rfl rfl rfl (by decide +kernel)
set_option maxRecDepth 65536 in
theorem w_c8 : (Jvm.Cond.code ({ cls := "MeshAllocatorX", name := "frameOf", desc := "(I)I" } : Jvm.MethodName) prog_1_method_25_code (2 : Nat) (Option.some Jvm.ClassFile.FieldType.int)).before args0 about1 = true := code_word (m := ⟨2, 24⟩) (meth := k2m24) (c := k2c24) (by decide +kernel) rfl rfl rfl (by decide +kernel)
set_option maxRecDepth 65536 in
theorem w_c9 : (Jvm.Cond.code ({ cls := "MeshAllocatorX", name := "pageBits", desc := "(I)I" } : Jvm.MethodName) prog_1_method_26_code (2 : Nat) (Option.some Jvm.ClassFile.FieldType.int)).before args0 about1 = true := code_word (m := ⟨2, 25⟩) (meth := k2m25) (c := k2c25) (by decide +kernel) rfl rfl rfl (by decide +kernel)
set_option maxRecDepth 65536 in
theorem w_c10 : (Jvm.Cond.code ({ cls := "MeshAllocatorX", name := "pagesInUse", desc := "()I" } : Jvm.MethodName) prog_1_method_29_code (3 : Nat) (Option.some Jvm.ClassFile.FieldType.int)).before args0 about1 = true := code_word (m := ⟨2, 28⟩) (meth := k2m28) (c := k2c28) (by decide +kernel) rfl rfl rfl (by decide +kernel)
set_option maxRecDepth 65536 in
theorem w_c11 : (Jvm.Cond.code ({ cls := "MeshAllocatorX", name := "frameBits", desc := "(I)I" } : Jvm.MethodName) prog_1_method_27_code (2 : Nat) (Option.some Jvm.ClassFile.FieldType.int)).before args0 about1 = true := code_word (m := ⟨2, 26⟩) (meth := k2m26) (c := k2c26) (by decide +kernel) rfl rfl rfl (by decide +kernel)
set_option maxRecDepth 65536 in
theorem w_c12 : (Jvm.Cond.code ({ cls := "MeshAllocatorX", name := "unionOf", desc := "(I)I" } : Jvm.MethodName) prog_1_method_6_code (4 : Nat) (Option.some Jvm.ClassFile.FieldType.int)).before args0 about1 = true := code_word (m := ⟨2, 5⟩) (meth := k2m5) (c := k2c5) (by decide +kernel) rfl rfl rfl (by decide +kernel)
set_option maxRecDepth 65536 in
theorem w_c13 : (Jvm.Cond.code ({ cls := "MeshAllocatorX", name := "framesInUse", desc := "()I" } : Jvm.MethodName) prog_1_method_28_code (3 : Nat) (Option.some Jvm.ClassFile.FieldType.int)).before args0 about1 = true := code_word (m := ⟨2, 27⟩) (meth := k2m27) (c := k2c27) (by decide +kernel) rfl rfl rfl (by decide +kernel)
set_option maxRecDepth 65536 in
theorem w_c14 : (Jvm.Cond.code ({ cls := "MeshAllocatorX", name := "frameClass", desc := "(I)I" } : Jvm.MethodName) prog_1_method_7_code (3 : Nat) (Option.some Jvm.ClassFile.FieldType.int)).before args0 about1 = true := code_word (m := ⟨2, 6⟩) (meth := k2m6) (c := k2c6) (by decide +kernel) rfl rfl rfl (by decide +kernel)
set_option maxRecDepth 65536 in
theorem w_c15 : (Jvm.Cond.code ({ cls := "MeshAllocatorX", name := "isLive", desc := "(I)Z" } : Jvm.MethodName) prog_1_method_20_code (2 : Nat) (Option.some Jvm.ClassFile.FieldType.boolean)).before args0 about1 = true := code_word (m := ⟨2, 19⟩) (meth := k2m19) (c := k2c19) (by decide +kernel) rfl rfl rfl (by decide +kernel)
set_option maxRecDepth 65536 in
theorem w_c16 : (Jvm.Cond.code ({ cls := "MeshAllocatorX", name := "liveIndex", desc := "(I)I" } : Jvm.MethodName) prog_1_method_17_code (7 : Nat) (Option.some Jvm.ClassFile.FieldType.int)).before args0 about1 = true := code_word (m := ⟨2, 16⟩) (meth := k2m16) (c := k2c16) (by decide +kernel) rfl rfl rfl (by decide +kernel)
set_option maxRecDepth 65536 in
theorem w_c17 : (Jvm.Cond.code ({ cls := "MeshAllocatorX", name := "read", desc := "(I)I" } : Jvm.MethodName) prog_1_method_19_code (3 : Nat) (Option.some Jvm.ClassFile.FieldType.int)).before args0 about1 = true := code_word (m := ⟨2, 18⟩) (meth := k2m18) (c := k2c18) (by decide +kernel) rfl rfl rfl (by decide +kernel)
set_option maxRecDepth 65536 in
theorem w_c18 : (Jvm.Cond.code ({ cls := "MeshAllocatorXOwnLaw", name := "mod", desc := "(II)I" } : Jvm.MethodName) method_3_code (3 : Nat) (Option.some Jvm.ClassFile.FieldType.int)).before args0 about1 = true := code_word (m := ⟨1, 2⟩) (meth := k1m2) (c := k1c2) (by decide +kernel) rfl rfl rfl (by decide +kernel)
set_option maxRecDepth 65536 in
theorem w_c19 : (Jvm.Cond.code ({ cls := "MeshAllocatorX", name := "rngState", desc := "()I" } : Jvm.MethodName) prog_1_method_31_code (1 : Nat) (Option.some Jvm.ClassFile.FieldType.int)).before args0 about1 = true := code_word (m := ⟨2, 30⟩) (meth := k2m30) (c := k2c30) (by decide +kernel) rfl rfl rfl (by decide +kernel)
set_option maxRecDepth 65536 in
theorem w_c20 : (Jvm.Cond.code ({ cls := "MeshAllocatorX", name := "alloc", desc := "(I)I" } : Jvm.MethodName) prog_1_method_14_code (4 : Nat) (Option.some Jvm.ClassFile.FieldType.int)).before args0 about1 = true := code_word (m := ⟨2, 13⟩) (meth := k2m13) (c := k2c13) (by decide +kernel) rfl rfl rfl (by decide +kernel)
set_option maxRecDepth 65536 in
theorem w_c21 : (Jvm.Cond.code ({ cls := "MeshAllocatorX", name := "findEligible", desc := "(I)I" } : Jvm.MethodName) prog_1_method_11_code (5 : Nat) (Option.some Jvm.ClassFile.FieldType.int)).before args0 about1 = true := code_word (m := ⟨2, 10⟩) (meth := k2m10) (c := k2c10) (by decide +kernel) rfl rfl rfl (by decide +kernel)
set_option maxRecDepth 65536 in
theorem w_c22 : (Jvm.Cond.code ({ cls := "MeshAllocatorX", name := "slotsOf", desc := "(I)I" } : Jvm.MethodName) prog_1_method_3_code (2 : Nat) (Option.some Jvm.ClassFile.FieldType.int)).before args0 about1 = true := code_word (m := ⟨2, 2⟩) (meth := k2m2) (c := k2c2) (by decide +kernel) rfl rfl rfl (by decide +kernel)
set_option maxRecDepth 65536 in
theorem w_c23 : (Jvm.Cond.code ({ cls := "MeshAllocatorX", name := "lowestUnusedPage", desc := "()I" } : Jvm.MethodName) prog_1_method_12_code (2 : Nat) (Option.some Jvm.ClassFile.FieldType.int)).before args0 about1 = true := code_word (m := ⟨2, 11⟩) (meth := k2m11) (c := k2c11) (by decide +kernel) rfl rfl rfl (by decide +kernel)
set_option maxRecDepth 65536 in
theorem w_c24 : (Jvm.Cond.code ({ cls := "MeshAllocatorX", name := "lowestFreeFrame", desc := "()I" } : Jvm.MethodName) prog_1_method_13_code (2 : Nat) (Option.some Jvm.ClassFile.FieldType.int)).before args0 about1 = true := code_word (m := ⟨2, 12⟩) (meth := k2m12) (c := k2c12) (by decide +kernel) rfl rfl rfl (by decide +kernel)
set_option maxRecDepth 65536 in
theorem w_c25 : (Jvm.Cond.code ({ cls := "MeshAllocatorX", name := "placeObject", desc := "(II)I" } : Jvm.MethodName) prog_1_method_15_code (13 : Nat) (Option.some Jvm.ClassFile.FieldType.int)).before args0 about1 = true := code_word (m := ⟨2, 14⟩) (meth := k2m14) (c := k2c14) (by decide +kernel) rfl rfl rfl (by decide +kernel)
set_option maxRecDepth 65536 in
theorem w_c26 : (Jvm.Cond.code ({ cls := "MeshAllocatorX", name := "sizeOf", desc := "(I)I" } : Jvm.MethodName) prog_1_method_4_code (2 : Nat) (Option.some Jvm.ClassFile.FieldType.int)).before args0 about1 = true := code_word (m := ⟨2, 3⟩) (meth := k2m3) (c := k2c3) (by decide +kernel) rfl rfl rfl (by decide +kernel)
set_option maxRecDepth 65536 in
theorem w_c27 : (Jvm.Cond.code ({ cls := "MeshAllocatorX", name := "countClear", desc := "(II)I" } : Jvm.MethodName) prog_1_method_8_code (5 : Nat) (Option.some Jvm.ClassFile.FieldType.int)).before args0 about1 = true := code_word (m := ⟨2, 7⟩) (meth := k2m7) (c := k2c7) (by decide +kernel) rfl rfl rfl (by decide +kernel)
set_option maxRecDepth 65536 in
theorem w_c28 : (Jvm.Cond.code ({ cls := "MeshAllocatorX", name := "step", desc := "()I" } : Jvm.MethodName) prog_1_method_5_code (1 : Nat) (Option.some Jvm.ClassFile.FieldType.int)).before args0 about1 = true := code_word (m := ⟨2, 4⟩) (meth := k2m4) (c := k2c4) (by decide +kernel) rfl rfl rfl (by decide +kernel)
set_option maxRecDepth 65536 in
theorem w_c29 : (Jvm.Cond.code ({ cls := "MeshAllocatorX", name := "nthClear", desc := "(III)I" } : Jvm.MethodName) prog_1_method_9_code (6 : Nat) (Option.some Jvm.ClassFile.FieldType.int)).before args0 about1 = true := code_word (m := ⟨2, 8⟩) (meth := k2m8) (c := k2c8) (by decide +kernel) rfl rfl rfl (by decide +kernel)
set_option maxRecDepth 65536 in
theorem w_c30 : (Jvm.Cond.code ({ cls := "MeshAllocatorXOwnLaw", name := "size", desc := "(I)I" } : Jvm.MethodName) method_5_code (1 : Nat) (Option.some Jvm.ClassFile.FieldType.int)).before args0 about1 = true := code_word (m := ⟨1, 4⟩) (meth := k1m4) (c := k1c4) (by decide +kernel) rfl rfl rfl (by decide +kernel)
set_option maxRecDepth 65536 in
theorem w_c31 : (Jvm.Cond.code ({ cls := "MeshAllocatorXOwnLaw", name := "tag", desc := "(I)I" } : Jvm.MethodName) method_4_code (1 : Nat) (Option.some Jvm.ClassFile.FieldType.int)).before args0 about1 = true := code_word (m := ⟨1, 3⟩) (meth := k1m3) (c := k1c3) (by decide +kernel) rfl rfl rfl (by decide +kernel)
set_option maxRecDepth 65536 in
theorem w_c32 : (Jvm.Cond.code ({ cls := "MeshAllocatorX", name := "write", desc := "(II)Z" } : Jvm.MethodName) prog_1_method_18_code (4 : Nat) (Option.some Jvm.ClassFile.FieldType.boolean)).before args0 about1 = true := code_word (m := ⟨2, 17⟩) (meth := k2m17) (c := k2c17) (by decide +kernel) rfl rfl rfl (by decide +kernel)
set_option maxRecDepth 65536 in
theorem w_c33 : (Jvm.Cond.code ({ cls := "MeshAllocatorX", name := "popCount", desc := "(I)I" } : Jvm.MethodName) prog_1_method_10_code (4 : Nat) (Option.some Jvm.ClassFile.FieldType.int)).before args0 about1 = true := code_word (m := ⟨2, 9⟩) (meth := k2m9) (c := k2c9) (by decide +kernel) rfl rfl rfl (by decide +kernel)
set_option maxRecDepth 65536 in
theorem w_c34 : (Jvm.Cond.code ({ cls := "MeshAllocatorXOwnLaw", name := "pop", desc := "(I)I" } : Jvm.MethodName) method_6_code (3 : Nat) (Option.some Jvm.ClassFile.FieldType.int)).before args0 about1 = true := code_word (m := ⟨1, 5⟩) (meth := k1m5) (c := k1c5) (by decide +kernel) rfl rfl rfl (by decide +kernel)
set_option maxRecDepth 65536 in
theorem w_c35 : (Jvm.Cond.code ({ cls := "MeshAllocatorX", name := "free", desc := "(I)Z" } : Jvm.MethodName) prog_1_method_16_code (7 : Nat) (Option.some Jvm.ClassFile.FieldType.boolean)).before args0 about1 = true := code_word (m := ⟨2, 15⟩) (meth := k2m15) (c := k2c15) (by decide +kernel) rfl rfl rfl (by decide +kernel)
set_option maxRecDepth 65536 in
theorem w_c36 : (Jvm.Cond.code ({ cls := "MeshAllocatorX", name := "mesh", desc := "()I" } : Jvm.MethodName) prog_1_method_21_code (4 : Nat) (Option.some Jvm.ClassFile.FieldType.int)).before args0 about1 = true := code_word (m := ⟨2, 20⟩) (meth := k2m20) (c := k2c20) (by decide +kernel) rfl rfl rfl (by decide +kernel)
set_option maxRecDepth 65536 in
theorem w_c37 : (Jvm.Cond.code ({ cls := "MeshAllocatorX", name := "meshInto", desc := "(II)I" } : Jvm.MethodName) prog_1_method_22_code (7 : Nat) (Option.some Jvm.ClassFile.FieldType.int)).before args0 about1 = true := code_word (m := ⟨2, 21⟩) (meth := k2m21) (c := k2c21) (by decide +kernel) rfl rfl rfl (by decide +kernel)
set_option maxRecDepth 65536 in
theorem w_c38 : (Jvm.Cond.code ({ cls := "MeshAllocatorX", name := "mergeFrames", desc := "(IIII)V" } : Jvm.MethodName) prog_1_method_23_code (10 : Nat) (Option.none : Option Jvm.ClassFile.FieldType)).before args0 about1 = true := code_word (m := ⟨2, 22⟩) (meth := k2m22) (c := k2c22) (by decide +kernel) rfl rfl rfl (by decide +kernel)
def codes1 : List Jvm.Cond := [Jvm.Cond.code x code maxLocals ret, Jvm.Cond.code ({ cls := "MeshAllocatorXOwnLaw", name := "cell", desc := "([II)I" } : Jvm.MethodName) method_2_code (2 : Nat) (Option.some Jvm.ClassFile.FieldType.int), Jvm.Cond.code ({ cls := "MeshAllocatorX", name := "<init>", desc := "(III)V" } : Jvm.MethodName) prog_1_method_1_code (5 : Nat) (Option.none : Option Jvm.ClassFile.FieldType), Jvm.Cond.code ({ cls := "java/lang/Object", name := "<init>", desc := "()V" } : Jvm.MethodName) object_method_1_code (1 : Nat) (Option.none : Option Jvm.ClassFile.FieldType), Jvm.Cond.code ({ cls := "MeshAllocatorX", name := "clamp", desc := "(III)I" } : Jvm.MethodName) prog_1_method_2_code (4 : Nat) (Option.some Jvm.ClassFile.FieldType.int), Jvm.Cond.code ({ cls := "MeshAllocatorXOwnLaw", name := "consistent", desc := "(LMeshAllocatorX;III)Z" } : Jvm.MethodName) method_7_code (11 : Nat) (Option.some Jvm.ClassFile.FieldType.boolean), Jvm.Cond.code ({ cls := "MeshAllocatorX", name := "liveObjects", desc := "()I" } : Jvm.MethodName) prog_1_method_30_code (3 : Nat) (Option.some Jvm.ClassFile.FieldType.int), Jvm.Cond.code ({ cls := "MeshAllocatorX", name := "pageClass", desc := "(I)I" } : Jvm.MethodName) prog_1_method_24_code (2 : Nat) (Option.some Jvm.ClassFile.FieldType.int), Jvm.Cond.code ({ cls := "MeshAllocatorX", name := "frameOf", desc := "(I)I" } : Jvm.MethodName) prog_1_method_25_code (2 : Nat) (Option.some Jvm.ClassFile.FieldType.int), Jvm.Cond.code ({ cls := "MeshAllocatorX", name := "pageBits", desc := "(I)I" } : Jvm.MethodName) prog_1_method_26_code (2 : Nat) (Option.some Jvm.ClassFile.FieldType.int), Jvm.Cond.code ({ cls := "MeshAllocatorX", name := "pagesInUse", desc := "()I" } : Jvm.MethodName) prog_1_method_29_code (3 : Nat) (Option.some Jvm.ClassFile.FieldType.int), Jvm.Cond.code ({ cls := "MeshAllocatorX", name := "frameBits", desc := "(I)I" } : Jvm.MethodName) prog_1_method_27_code (2 : Nat) (Option.some Jvm.ClassFile.FieldType.int), Jvm.Cond.code ({ cls := "MeshAllocatorX", name := "unionOf", desc := "(I)I" } : Jvm.MethodName) prog_1_method_6_code (4 : Nat) (Option.some Jvm.ClassFile.FieldType.int), Jvm.Cond.code ({ cls := "MeshAllocatorX", name := "framesInUse", desc := "()I" } : Jvm.MethodName) prog_1_method_28_code (3 : Nat) (Option.some Jvm.ClassFile.FieldType.int), Jvm.Cond.code ({ cls := "MeshAllocatorX", name := "frameClass", desc := "(I)I" } : Jvm.MethodName) prog_1_method_7_code (3 : Nat) (Option.some Jvm.ClassFile.FieldType.int), Jvm.Cond.code ({ cls := "MeshAllocatorX", name := "isLive", desc := "(I)Z" } : Jvm.MethodName) prog_1_method_20_code (2 : Nat) (Option.some Jvm.ClassFile.FieldType.boolean), Jvm.Cond.code ({ cls := "MeshAllocatorX", name := "liveIndex", desc := "(I)I" } : Jvm.MethodName) prog_1_method_17_code (7 : Nat) (Option.some Jvm.ClassFile.FieldType.int), Jvm.Cond.code ({ cls := "MeshAllocatorX", name := "read", desc := "(I)I" } : Jvm.MethodName) prog_1_method_19_code (3 : Nat) (Option.some Jvm.ClassFile.FieldType.int), Jvm.Cond.code ({ cls := "MeshAllocatorXOwnLaw", name := "mod", desc := "(II)I" } : Jvm.MethodName) method_3_code (3 : Nat) (Option.some Jvm.ClassFile.FieldType.int), Jvm.Cond.code ({ cls := "MeshAllocatorX", name := "rngState", desc := "()I" } : Jvm.MethodName) prog_1_method_31_code (1 : Nat) (Option.some Jvm.ClassFile.FieldType.int), Jvm.Cond.code ({ cls := "MeshAllocatorX", name := "alloc", desc := "(I)I" } : Jvm.MethodName) prog_1_method_14_code (4 : Nat) (Option.some Jvm.ClassFile.FieldType.int), Jvm.Cond.code ({ cls := "MeshAllocatorX", name := "findEligible", desc := "(I)I" } : Jvm.MethodName) prog_1_method_11_code (5 : Nat) (Option.some Jvm.ClassFile.FieldType.int), Jvm.Cond.code ({ cls := "MeshAllocatorX", name := "slotsOf", desc := "(I)I" } : Jvm.MethodName) prog_1_method_3_code (2 : Nat) (Option.some Jvm.ClassFile.FieldType.int), Jvm.Cond.code ({ cls := "MeshAllocatorX", name := "lowestUnusedPage", desc := "()I" } : Jvm.MethodName) prog_1_method_12_code (2 : Nat) (Option.some Jvm.ClassFile.FieldType.int), Jvm.Cond.code ({ cls := "MeshAllocatorX", name := "lowestFreeFrame", desc := "()I" } : Jvm.MethodName) prog_1_method_13_code (2 : Nat) (Option.some Jvm.ClassFile.FieldType.int), Jvm.Cond.code ({ cls := "MeshAllocatorX", name := "placeObject", desc := "(II)I" } : Jvm.MethodName) prog_1_method_15_code (13 : Nat) (Option.some Jvm.ClassFile.FieldType.int), Jvm.Cond.code ({ cls := "MeshAllocatorX", name := "sizeOf", desc := "(I)I" } : Jvm.MethodName) prog_1_method_4_code (2 : Nat) (Option.some Jvm.ClassFile.FieldType.int), Jvm.Cond.code ({ cls := "MeshAllocatorX", name := "countClear", desc := "(II)I" } : Jvm.MethodName) prog_1_method_8_code (5 : Nat) (Option.some Jvm.ClassFile.FieldType.int), Jvm.Cond.code ({ cls := "MeshAllocatorX", name := "step", desc := "()I" } : Jvm.MethodName) prog_1_method_5_code (1 : Nat) (Option.some Jvm.ClassFile.FieldType.int), Jvm.Cond.code ({ cls := "MeshAllocatorX", name := "nthClear", desc := "(III)I" } : Jvm.MethodName) prog_1_method_9_code (6 : Nat) (Option.some Jvm.ClassFile.FieldType.int), Jvm.Cond.code ({ cls := "MeshAllocatorXOwnLaw", name := "size", desc := "(I)I" } : Jvm.MethodName) method_5_code (1 : Nat) (Option.some Jvm.ClassFile.FieldType.int), Jvm.Cond.code ({ cls := "MeshAllocatorXOwnLaw", name := "tag", desc := "(I)I" } : Jvm.MethodName) method_4_code (1 : Nat) (Option.some Jvm.ClassFile.FieldType.int), Jvm.Cond.code ({ cls := "MeshAllocatorX", name := "write", desc := "(II)Z" } : Jvm.MethodName) prog_1_method_18_code (4 : Nat) (Option.some Jvm.ClassFile.FieldType.boolean), Jvm.Cond.code ({ cls := "MeshAllocatorX", name := "popCount", desc := "(I)I" } : Jvm.MethodName) prog_1_method_10_code (4 : Nat) (Option.some Jvm.ClassFile.FieldType.int), Jvm.Cond.code ({ cls := "MeshAllocatorXOwnLaw", name := "pop", desc := "(I)I" } : Jvm.MethodName) method_6_code (3 : Nat) (Option.some Jvm.ClassFile.FieldType.int), Jvm.Cond.code ({ cls := "MeshAllocatorX", name := "free", desc := "(I)Z" } : Jvm.MethodName) prog_1_method_16_code (7 : Nat) (Option.some Jvm.ClassFile.FieldType.boolean), Jvm.Cond.code ({ cls := "MeshAllocatorX", name := "mesh", desc := "()I" } : Jvm.MethodName) prog_1_method_21_code (4 : Nat) (Option.some Jvm.ClassFile.FieldType.int), Jvm.Cond.code ({ cls := "MeshAllocatorX", name := "meshInto", desc := "(II)I" } : Jvm.MethodName) prog_1_method_22_code (7 : Nat) (Option.some Jvm.ClassFile.FieldType.int), Jvm.Cond.code ({ cls := "MeshAllocatorX", name := "mergeFrames", desc := "(IIII)V" } : Jvm.MethodName) prog_1_method_23_code (10 : Nat) (Option.none : Option Jvm.ClassFile.FieldType)]
set_option maxRecDepth 65536 in
theorem codes_eq : words1.filter isCode = codes1 := rfl
theorem w_codes : ∀ c ∈ words1.filter isCode, c.before args0 about1 = true := by
  rw [codes_eq]
  intro c hc
  simp only [codes1, List.mem_cons, List.not_mem_nil, or_false] at hc
  rcases hc with rfl | rfl | rfl | rfl | rfl | rfl | rfl | rfl | rfl | rfl | rfl | rfl | rfl | rfl | rfl | rfl | rfl | rfl | rfl | rfl | rfl | rfl | rfl | rfl | rfl | rfl | rfl | rfl | rfl | rfl | rfl | rfl | rfl | rfl | rfl | rfl | rfl | rfl | rfl
  · exact w_c0
  · exact w_c1
  · exact w_c2
  · exact w_c3
  · exact w_c4
  · exact w_c5
  · exact w_c6
  · exact w_c7
  · exact w_c8
  · exact w_c9
  · exact w_c10
  · exact w_c11
  · exact w_c12
  · exact w_c13
  · exact w_c14
  · exact w_c15
  · exact w_c16
  · exact w_c17
  · exact w_c18
  · exact w_c19
  · exact w_c20
  · exact w_c21
  · exact w_c22
  · exact w_c23
  · exact w_c24
  · exact w_c25
  · exact w_c26
  · exact w_c27
  · exact w_c28
  · exact w_c29
  · exact w_c30
  · exact w_c31
  · exact w_c32
  · exact w_c33
  · exact w_c34
  · exact w_c35
  · exact w_c36
  · exact w_c37
  · exact w_c38
set_option maxRecDepth 65536 in
theorem w_t1 : (words1.take 24).all (fun c => isCode c || c.before args0 about1) = true := by decide +kernel
set_option maxRecDepth 65536 in
theorem w_t2 : ((words1.drop 24).take 24).all (fun c => isCode c || c.before args0 about1) = true := by decide +kernel
set_option maxRecDepth 65536 in
theorem w_t3 : (((words1.drop 24).drop 24).take 24).all (fun c => isCode c || c.before args0 about1) = true := by decide +kernel
set_option maxRecDepth 65536 in
theorem w_t4 : ((((words1.drop 24).drop 24).drop 24).take 24).all (fun c => isCode c || c.before args0 about1) = true := by decide +kernel
set_option maxRecDepth 65536 in
theorem w_t5 : (((((words1.drop 24).drop 24).drop 24).drop 24).take 24).all (fun c => isCode c || c.before args0 about1) = true := by decide +kernel
set_option maxRecDepth 65536 in
theorem w_t6 : ((((((words1.drop 24).drop 24).drop 24).drop 24).drop 24).take 24).all (fun c => isCode c || c.before args0 about1) = true := by decide +kernel
set_option maxRecDepth 65536 in
theorem w_t7 : (((((((words1.drop 24).drop 24).drop 24).drop 24).drop 24).drop 24).take 24).all (fun c => isCode c || c.before args0 about1) = true := by decide +kernel
set_option maxRecDepth 65536 in
theorem w_t8 : (((((((words1.drop 24).drop 24).drop 24).drop 24).drop 24).drop 24).drop 24).all (fun c => isCode c || c.before args0 about1) = true := by decide +kernel
theorem w_tables : (allAtoms (Jvm.Cond.code x code maxLocals ret :: tables_1)).before args0 about1 = true := by
  rw [allAtoms_all]
  show words1.all (fun c => c.before args0 about1) = true
  refine all_split ?_ w_codes
  rw [← List.take_append_drop 24 words1, List.all_append, w_t1, ← List.take_append_drop 24 (words1.drop 24), List.all_append, w_t2, ← List.take_append_drop 24 ((words1.drop 24).drop 24), List.all_append, w_t3, ← List.take_append_drop 24 (((words1.drop 24).drop 24).drop 24), List.all_append, w_t4, ← List.take_append_drop 24 ((((words1.drop 24).drop 24).drop 24).drop 24), List.all_append, w_t5, ← List.take_append_drop 24 (((((words1.drop 24).drop 24).drop 24).drop 24).drop 24), List.all_append, w_t6, ← List.take_append_drop 24 ((((((words1.drop 24).drop 24).drop 24).drop 24).drop 24).drop 24), List.all_append, w_t7, w_t8]
  rfl
set_option maxRecDepth 65536 in
theorem w_rest : rest_1_c.before args0 about1 = true := by decide +kernel
set_option maxRecDepth 65536 in
theorem w_case : (Jvm.Cond.and given_1 narrow_1).before args0 about1 = true := by decide +kernel
theorem w_applies : (headSpec (Jvm.Cond.code x code maxLocals ret :: tables_1) room_1).applies x e0.platform about1 = true :=
  (Spec.applies_iff w_frames).mpr ⟨w_running, w_runnable, w_alone, w_named, w_hears, w_ripe, w_room, w_tables⟩
theorem atStart : AtStart classFile x code maxLocals ret World_1 tables_1 room_1 Calls_1 rest_1 Pre_1 launch0 p0 e0 about1 theMethod args0 below0 :=
  ⟨lists_1, trivial, launch0.admits_env _ _ _, launch0.least_env, fairChoices_fair.cas, fairChoices_fair.clock, w_frames, w_args, w_heap, w_applies, trivial, w_rest, w_case⟩
end start1
theorem witness_1 : WitnessClaimed_1 := ⟨start1.p0, start1.e0, start1.about1, start1.theMethod, start1.args0, start1.below0, start1.atStart⟩
end Jvm.Pilot.@@N@@
