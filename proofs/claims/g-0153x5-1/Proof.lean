import JvmDerived
import JvmDerived.Pilot.@@N@@Statement
import JvmDerived.Pilot.@@N@@Code
set_option linter.unusedVariables false
set_option linter.unusedSimpArgs false
namespace Jvm.Own
open Sem ClassFile Op Lib Jvm.Stand Jvm.Free Jvm.LawKit Jvm.RoadKit
/-! ## 1. Small heaps: a list of cells: an object of the one class (its fields in order), or an array (of booleans, of ints) -/
abbrev MCell := List Value ⊕ (Bool × List Int32)
abbrev MHeap := List MCell
abbrev Fd := String × String × FieldType
/-- start, its arguments, launch, the script's place, the heap's first length, the class, its fields, its slots -/
abbrev Ctx := State × Array Value × Launch × Option Nat × Nat × String × List Fd × Nat
abbrev gZ (G : Ctx) : State := G.1
abbrev gA (G : Ctx) : Array Value := G.2.1
abbrev gL (G : Ctx) : Launch := G.2.2.1
abbrev gS (G : Ctx) : Option Nat := G.2.2.2.1
abbrev gN (G : Ctx) : Nat := G.2.2.2.2.1
abbrev gC (G : Ctx) : String := G.2.2.2.2.2.1
abbrev gF (G : Ctx) : List Fd := G.2.2.2.2.2.2.1
abbrev gK (G : Ctx) : Nat := G.2.2.2.2.2.2.2
/-- a method: name, bytes, locals, result, frames and words that it needs -/
abbrev Mi := MethodName × ByteArray × Nat × Option FieldType × Nat × Nat
abbrev mN (M : Mi) : MethodName := M.1
abbrev mB (M : Mi) : ByteArray := M.2.1
abbrev mL (M : Mi) : Nat := M.2.2.1
abbrev mR (M : Mi) : Option FieldType := M.2.2.2.1
abbrev mF (M : Mi) : Nat := M.2.2.2.2.1
abbrev mW (M : Mi) : Nat := M.2.2.2.2.2
def rhoA (sa : Option Nat) (n0 i : Nat) : Nat := match sa with
  | none => n0 + i
  | some a => match i with
    | 0 => a
    | j + 1 => n0 + j
def k0A (sa : Option Nat) : Nat := match sa with
  | none => 0
  | some _ => 1
def rho (G : Ctx) (i : Nat) : Nat := rhoA (gS G) (gN G) i
def k0 (G : Ctx) : Nat := k0A (gS G)
def tr (G : Ctx) : Value → Value
  | .ref i => .ref (rho G i)
  | v => v
def trS (G : Ctx) : Slot → Slot
  | .val v => .val (tr G v)
  | s => s
theorem tr_cat (G : Ctx) (v : Value) : (tr G v).category = v.category := by cases v <;> rfl
theorem tr_cats (G : Ctx) (S : List Value) : ((S.map (tr G)).map fun v => v.category).sum = (S.map fun v => v.category).sum := by
  rw [List.map_map]
  congr 1
  exact List.map_congr_left fun v _ => tr_cat G v
def kd : Bool → FieldType
  | true => .boolean
  | false => .int
def CellAt (G : Ctx) (hr : Heap) (a : Nat) : MCell → Prop
  | .inl fs => Exa (gZ G) hr a (gC G) ∧ fs.length = (gF G).length ∧ ∀ (j : Nat) (n d : String) (ty : FieldType) (v : Value), (gF G)[j]? = some (n, d, ty) → fs[j]? = some v → Fld (gZ G) hr a (gC G) n d (tr G v)
  | .inr bx => ∃ c : Cell, Arr (gZ G) hr a c (kd bx.1) ∧ c.slots = (bx.2.map Value.int).toArray
def Rel (G : Ctx) (hr : Heap) (h : MHeap) : Prop :=
  hr.size + k0 G = gN G + h.length ∧ k0 G ≤ h.length ∧ (∀ a, gS G = some a → a < gN G) ∧ ∀ i c, h[i]? = some c → CellAt G hr (rho G i) c
/-- what the sheet says of the class -/
def GOk (G : Ctx) : Prop :=
  (∀ (j : Nat) (n d : String) (ty : FieldType), (gF G)[j]? = some (n, d, ty) → Laid (gZ G) (gA G) (gC G) (gC G) n d ∧ parseFieldDescriptor d = some ty) ∧
  (∀ (j j' : Nat) (f f' : Fd), (gF G)[j]? = some f → (gF G)[j']? = some f' → j ≠ j' → f.1 ≠ f'.1) ∧
  (Cond.instantiable (gC G) (gK G)).before (gA G) (gZ G) = true ∧ (Cond.initialized (gC G)).before (gA G) (gZ G) = true
theorem rhoA_inj {sa : Option Nat} {n0 i j : Nat} (h : ∀ a, sa = some a → a < n0) (e : rhoA sa n0 i = rhoA sa n0 j) : i = j := by
  cases sa with
  | none => simp only [rhoA] at e; omega
  | some a =>
    have := h a rfl
    cases i <;> cases j <;> simp only [rhoA] at e <;> omega
theorem rho_inj {G : Ctx} {i j : Nat} (h : ∀ a, gS G = some a → a < gN G) (e : rho G i = rho G j) : i = j := rhoA_inj h e
theorem rhoA_new {sa : Option Nat} {n0 i : Nat} (h : k0A sa ≤ i) : rhoA sa n0 i = n0 + (i - k0A sa) := by
  cases sa with
  | none => simp only [rhoA, k0A]; omega
  | some a =>
    cases i with
    | zero => simp only [k0A] at h; omega
    | succ j => simp only [rhoA, k0A]; omega
theorem rho_new {G : Ctx} {i : Nat} (h : k0 G ≤ i) : rho G i = gN G + (i - k0 G) := rhoA_new h
theorem rho_ge {G : Ctx} {i : Nat} (h : k0 G ≤ i) : gN G ≤ rho G i := by rw [rho_new h]; omega
theorem CellAt.other {G : Ctx} {hr hr' : Heap} {a b : Nat} {sl : Nat} {v : Value} (W : Wr hr hr' a sl v) (hne : b ≠ a) : ∀ {c : MCell}, CellAt G hr b c → CellAt G hr' b c
  | .inl _, ⟨h1, h2, h3⟩ => ⟨h1.wr W, h2, fun j n d ty v hf hv => Fld.other W (h3 j n d ty v hf hv) (Or.inl hne)⟩
  | .inr _, ⟨c, h1, h2⟩ => ⟨c, h1.other W hne, h2⟩
theorem CellAt.ext {G : Ctx} {hr hr' : Heap} {b : Nat} (E : Ext hr hr') : ∀ {c : MCell}, CellAt G hr b c → CellAt G hr' b c
  | .inl _, ⟨h1, h2, h3⟩ => ⟨h1.ext E, h2, fun j n d ty v hf hv => Fld.ext E (h3 j n d ty v hf hv)⟩
  | .inr _, ⟨c, h1, h2⟩ => ⟨c, h1.ext E, h2⟩
theorem Rel.push {G : Ctx} {hr hr' : Heap} {h : MHeap} {c : MCell} (R : Rel G hr h) (E : Ext hr hr') (hs : hr'.size = hr.size + 1) (hc : CellAt G hr' hr.size c) : Rel G hr' (h ++ [c]) := by
  obtain ⟨h1, h2, h3, h4⟩ := R
  refine ⟨by rw [List.length_append, List.length_singleton]; omega, by rw [List.length_append]; omega, h3, fun i c' hi => ?_⟩
  rcases Nat.lt_or_ge i h.length with q | q
  · rw [List.getElem?_append_left q] at hi
    exact (h4 i c' hi).ext E
  · have hi2 := hi
    rw [List.getElem?_append_right q] at hi2
    have : i - h.length = 0 := by
      rcases Nat.eq_zero_or_pos (i - h.length) with z | z
      · exact z
      · rw [List.getElem?_eq_none (by simp; omega)] at hi2; cases hi2
    have e : i = h.length := by omega
    subst e
    rw [Nat.sub_self] at hi2
    cases hi2
    have : rho G h.length = hr.size := by rw [rho_new h2]; omega
    rw [this]; exact hc
theorem Rel.wrArr {G : Ctx} {hr hr' : Heap} {h : MHeap} {i j : Nat} {b : Bool} {xs : List Int32} {x : Int32} (R : Rel G hr h) (hi : h[i]? = some (.inr (b, xs))) (W : Wr hr hr' (rho G i) j (.int x)) : Rel G hr' (h.set i (.inr (b, xs.set j x))) := by
  obtain ⟨h1, h2, h3, h4⟩ := R
  refine ⟨by rw [W.size, List.length_set]; exact h1, by rw [List.length_set]; exact h2, h3, fun k c' hk => ?_⟩
  by_cases e : i = k
  · subst e
    rw [List.getElem?_set_self (List.getElem?_eq_some_iff.mp hi).1] at hk
    cases hk
    obtain ⟨c, A, hs⟩ := h4 i _ hi
    refine ⟨c.setSlot j (.int x), A.same W, ?_⟩
    show c.slots.setIfInBounds j (.int x) = _
    rw [hs]
    simp [List.map_set]
  · rw [List.getElem?_set_ne e] at hk
    exact (h4 k c' hk).other W fun q => e (rho_inj h3 q).symm
theorem Rel.wrFld {G : Ctx} {hr hr' : Heap} {h : MHeap} {i j : Nat} {fs : List Value} {n d : String} {ty : FieldType} {v : Value} (R : Rel G hr h) (K : GOk G) (hi : h[i]? = some (.inl fs)) (hF : (gF G)[j]? = some (n, d, ty)) (W : Wr hr hr' (rho G i) (Jvm.RoadKit.slotOf (gZ G) (gC G) n d) (tr G v)) : Rel G hr' (h.set i (.inl (fs.set j v))) := by
  obtain ⟨h1, h2, h3, h4⟩ := R
  refine ⟨by rw [W.size, List.length_set]; exact h1, by rw [List.length_set]; exact h2, h3, fun k c' hk => ?_⟩
  by_cases e : i = k
  · subst e
    rw [List.getElem?_set_self (List.getElem?_eq_some_iff.mp hi).1] at hk
    cases hk
    obtain ⟨e1, e2, e3⟩ := h4 i _ hi
    refine ⟨e1.wr W, by rw [List.length_set]; exact e2, fun j' n' d' ty' v' hf' hv' => ?_⟩
    by_cases q : j = j'
    · subst q
      cases hF.symm.trans hf'
      have hlt : j < fs.length := by rw [e2]; exact (List.getElem?_eq_some_iff.mp hF).1
      rw [List.getElem?_set_self hlt] at hv'
      cases hv'
      obtain ⟨w, hw⟩ : ∃ w, fs[j]? = some w := ⟨_, List.getElem?_eq_getElem hlt⟩
      exact Fld.same W (e3 j n d ty w hF hw)
    · rw [List.getElem?_set_ne q] at hv'
      refine Fld.other W (e3 j' n' d' ty' v' hf' hv') (Or.inr ?_)
      exact slot_ne (K.1 j' n' d' ty' hf').1 (K.1 j n d ty hF).1 (K.2.1 j' j _ _ hf' hF (Ne.symm q)) (K.1 j' n' d' ty' hf').2 (K.1 j n d ty hF).2
  · rw [List.getElem?_set_ne e] at hk
    exact (h4 k c' hk).other W fun q => e (rho_inj h3 q).symm
def csl (k : Nat) : MCell → Nat
  | .inl _ => k
  | .inr bx => bx.2.length
def hsl (k : Nat) (h : MHeap) : Nat := (h.map (csl k)).sum
theorem hsl_push (k : Nat) (h : MHeap) (c : MCell) : hsl k (h ++ [c]) = hsl k h + csl k c := by simp [hsl]
theorem hsl_set (k : Nat) : ∀ (h : MHeap) (i : Nat) (c c' : MCell), h[i]? = some c → csl k c' = csl k c → hsl k (h.set i c') = hsl k h
  | [], _, _, _, h, _ => by simp at h
  | a :: t, 0, c, c', h, e => by simp at h; subst h; simp [hsl, e]
  | a :: t, i + 1, c, c', h, e => by
    have := hsl_set k t i c c' (by simpa using h) e
    simp only [hsl, List.set_cons_succ, List.map_cons, List.sum_cons] at this ⊢
    omega
/-! ## 2. Storing a local variable, on lists -/
def lsetAt (l : List Slot) (i : Nat) (x : Slot) : Option (List Slot) := if i < l.length then some (l.set i x) else none
def lstoreSelf (l : List Slot) (i : Nat) (v : Value) : Option (List Slot) :=
  match lsetAt l i (.val v) with
  | none => none
  | some l => if v.category = 2 then
      (match l[i + 1]? with
      | none => none
      | some (.val old) => if old.category = 2 then (match lsetAt l (i + 2) .unset with | none => none | some l2 => lsetAt l2 (i + 1) .second) else lsetAt l (i + 1) .second
      | some _ => lsetAt l (i + 1) .second)
    else some l
def mst (l : List Slot) (i : Nat) (v : Value) : Option (List Slot) :=
  match l[i]? with
  | none => none
  | some .second => (match lsetAt l (i - 1) .unset with | none => none | some l2 => lstoreSelf l2 i v)
  | some (.val old) => if old.category = 2 then (match lsetAt l (i + 1) .unset with | none => none | some l2 => lstoreSelf l2 i v) else lstoreSelf l i v
  | some .unset => lstoreSelf l i v
def arL (G : Ctx) (l : List Slot) : Array Slot := (l.map (trS G)).toArray
theorem setAt_map (G : Ctx) (l : List Slot) (i : Nat) (x : Slot) : setAt (arL G l) i (trS G x) = (lsetAt l i x).map (arL G) := by
  unfold setAt lsetAt arL
  by_cases h : i < l.length <;> simp [h, List.map_set]
theorem arL_get (G : Ctx) (l : List Slot) (i : Nat) : (arL G l)[i]? = (l[i]?).map (trS G) := by simp [arL]
theorem storeSelf_map (G : Ctx) (l : List Slot) (i : Nat) (v : Value) : storeSelf (arL G l) i (tr G v) = (lstoreSelf l i v).map (arL G) := by
  unfold storeSelf lstoreSelf
  have e := setAt_map G l i (.val v)
  simp only [trS] at e
  rw [e]
  cases h1 : lsetAt l i (.val v) with
  | none => rfl
  | some l1 =>
    simp only [Option.map_some, Option.bind_eq_bind, Option.bind_some, tr_cat]
    by_cases hc : v.category = 2
    · simp only [hc, if_true, arL_get]
      cases h2 : l1[i + 1]? with
      | none => rfl
      | some sl =>
        simp only [Option.map_some, Option.bind_some]
        have u2 := setAt_map G l1 (i + 2) .unset
        have s1 := setAt_map G l1 (i + 1) .second
        simp only [trS] at u2 s1
        cases sl with
        | unset => exact s1
        | second => exact s1
        | val old =>
          simp only [trS, tr_cat]
          by_cases hq : old.category = 2
          · simp only [hq, if_true, u2]
            cases h3 : lsetAt l1 (i + 2) .unset with
            | none => rfl
            | some l2 =>
              have s2 := setAt_map G l2 (i + 1) .second
              simp only [trS] at s2
              exact s2
          · simp only [hq, if_false]
            exact s1
    · simp only [hc, if_false]
      rfl
theorem mst_map (G : Ctx) (l : List Slot) (i : Nat) (v : Value) : storeLocals (arL G l) i (tr G v) = (mst l i v).map (arL G) := by
  unfold storeLocals mst
  simp only [arL_get]
  cases h1 : l[i]? with
  | none => rfl
  | some sl =>
    simp only [Option.map_some, Option.bind_eq_bind, Option.bind_some]
    have u1 := setAt_map G l (i - 1) .unset
    have u2 := setAt_map G l (i + 1) .unset
    simp only [trS] at u1 u2
    cases sl with
    | unset => exact storeSelf_map G l i v
    | second =>
      simp only [trS, u1]
      cases h3 : lsetAt l (i - 1) .unset with
      | none => rfl
      | some l2 => exact storeSelf_map G l2 i v
    | val old =>
      simp only [trS, tr_cat]
      by_cases hq : old.category = 2
      · simp only [hq, if_true, u2]
        cases h3 : lsetAt l (i + 1) .unset with
        | none => rfl
        | some l2 => exact storeSelf_map G l2 i v
      · simp only [hq, if_false]
        exact storeSelf_map G l i v
theorem lsetAt_len {l l' : List Slot} {i : Nat} {x : Slot} (h : lsetAt l i x = some l') : l'.length = l.length := by
  unfold lsetAt at h; split at h
  · cases h; simp
  · cases h
theorem lstoreSelf_len {l l' : List Slot} {i : Nat} {v : Value} (h : lstoreSelf l i v = some l') : l'.length = l.length := by
  unfold lstoreSelf at h
  split at h
  · cases h
  · rename_i l1 h1
    have e1 := lsetAt_len h1
    split at h
    · split at h
      · cases h
      · split at h
        · split at h
          · cases h
          · rename_i h2; rw [lsetAt_len h, lsetAt_len h2, e1]
        · rw [lsetAt_len h, e1]
      · rw [lsetAt_len h, e1]
    · cases h; exact e1
theorem mst_len {l l' : List Slot} {i : Nat} {v : Value} (h : mst l i v = some l') : l'.length = l.length := by
  unfold mst at h
  split at h
  · cases h
  · split at h
    · cases h
    · rename_i h2; rw [lstoreSelf_len h, lsetAt_len h2]
  · split at h
    · split at h
      · cases h
      · rename_i h2; rw [lstoreSelf_len h, lsetAt_len h2]
    · exact lstoreSelf_len h
  · exact lstoreSelf_len h
theorem st_of {G : Ctx} {l l' : List Slot} {i : Nat} {v : Value} (h : mst l i v = some l') : storeLocals (arL G l) i (tr G v) = some (arL G l') := by rw [mst_map, h]; rfl
theorem ld_of {G : Ctx} {l : List Slot} {i : Nat} {s : Slot} (h : l[i]? = some s) : (arL G l)[i]? = some (trS G s) := by rw [arL_get, h]; rfl
/-! ## 3. What a run of a body from a point does -/
def Ev (G : Ctx) (M : Mi) (pc : Nat) (L : List Slot) (S : List Value) (h : MHeap) (r : Option Value × MHeap) : Prop :=
  (h.length ≤ r.2.length ∧ hsl (gK G) h ≤ hsl (gK G) r.2) ∧
  ∀ (p : Program) (e : Env) (R : Room) (s : State) (m : MethodId) (args : Array Value) (below : List Frame) (meth : Method) (c : Code) (T : State) (locs : List Loc) (cells slots : Nat),
    Stand p (gL G) e R s m args below meth c T locs cells slots → p.tables.exec = Jvm.exec → (gZ G).Warmed39 s.vm → s.vm.findClass (mN M).cls = some m.cls →
    c.code = mB M → c.maxLocals = mL M → meth.sig.returnType = mR M → meth.name = (mN M).name → L.length = mL M → mF M ≤ R.frames → mW M ≤ R.locals →
    s.heap.size + cells = T.heap.size → Rel G T.heap h → Fr (gN G) locs → cells + (r.2.length - h.length) ≤ R.cells → slots + (hsl (gK G) r.2 - hsl (gK G) h) ≤ R.slots →
    ∃ T' locs', Stand p (gL G) e R s m args below meth c T' locs' (cells + (r.2.length - h.length)) (slots + (hsl (gK G) r.2 - hsl (gK G) h)) ∧ Rel G T'.heap r.2 ∧ Fr (gN G) locs' ∧
      ∀ fs, (∀ (f : JFrame) (acts : List Action), f.method = m → f.locked = none → f.entered = [] → (doReturn e (T'.setTop f) acts (r.1.map (tr G))).1 = T'.setFrames fs) →
        Steps p.tables e below (T.setTop (mkF m pc (arL G L) (S.map (tr G)))) (T'.setFrames fs)
/-- a whole call -/
def EvC (G : Ctx) (y : Mi) (args : List Value) (h : MHeap) (r : Option Value × MHeap) : Prop :=
  (h.length ≤ r.2.length ∧ hsl (gK G) h ≤ hsl (gK G) r.2) ∧
  ∀ (ws : List Jvm.Cond) (R : Room) (hr : Heap), mF y ≤ R.frames → mW y ≤ R.locals → r.2.length - h.length ≤ R.cells → hsl (gK G) r.2 - hsl (gK G) h ≤ R.slots → Rel G hr h →
    MetFree (gL G) (mN y) (head1 (Jvm.Cond.code (mN y) (mB y) (mL y) (mR y) :: ws) R) (fun a U => a = (args.map (tr G)).toArray ∧ (gZ G).Warmed39 U.vm ∧ U.heap = hr) (fun _ _ _ _ _ => True)
      (fun _ U o U' => ∃ v L, o = .returned v ∧ (v = r.1.map (tr G) ∧ Fr (gN G) L ∧ Rel G U'.heap r.2) ∧ FrameEnd U o U' L (r.2.length - h.length) (hsl (gK G) r.2 - hsl (gK G) h))
section Rules
variable {G : Ctx} {M : Mi} {pc : Nat} {L : List Slot} {S : List Value} {h : MHeap} {r : Option Value × MHeap}
theorem Ev.gen {pc' : Nat} {L' : List Slot} {S' : List Value} {h' : MHeap} (hm1 : h.length ≤ h'.length) (hm2 : hsl (gK G) h ≤ hsl (gK G) h') (hL : L'.length = L.length) (hn : Ev G M pc' L' S' h' r)
    (st : ∀ {p : Program} {e : Env} {R : Room} {s : State} {m : MethodId} {args : Array Value} {below : List Frame} {meth : Method} {c : Code} {T : State} {locs : List Loc} {cells slots : Nat},
      Stand p (gL G) e R s m args below meth c T locs cells slots → p.tables.exec = Jvm.exec → (gZ G).Warmed39 s.vm → s.vm.findClass (mN M).cls = some m.cls →
      c.code = mB M → c.maxLocals = mL M → meth.name = (mN M).name → L.length = mL M → mF M ≤ R.frames → mW M ≤ R.locals →
      s.heap.size + cells = T.heap.size → Rel G T.heap h → Fr (gN G) locs → cells + (h'.length - h.length) ≤ R.cells → slots + (hsl (gK G) h' - hsl (gK G) h) ≤ R.slots →
      ∃ T' locs', Stand p (gL G) e R s m args below meth c T' locs' (cells + (h'.length - h.length)) (slots + (hsl (gK G) h' - hsl (gK G) h)) ∧ Rel G T'.heap h' ∧ Fr (gN G) locs' ∧
        ∀ target, Steps p.tables e below (T'.setTop (mkF m pc' (arL G L') (S'.map (tr G)))) target → Steps p.tables e below (T.setTop (mkF m pc (arL G L) (S.map (tr G)))) target) :
    Ev G M pc L S h r := by
  obtain ⟨⟨g1, g2⟩, hn⟩ := hn
  refine ⟨⟨Nat.le_trans hm1 g1, Nat.le_trans hm2 g2⟩, ?_⟩
  intro p e R s m args below meth c T locs cells slots X hx hZ hown hby hml hret hnm hLm hfr hlo hsz hR hF hc hs
  obtain ⟨T1, locs1, X1, R1, F1, st1⟩ := st X hx hZ hown hby hml hnm hLm hfr hlo hsz hR hF (by omega) (by omega)
  have hsz1 : s.heap.size + (cells + (h'.length - h.length)) = T1.heap.size := by
    have a1 := hR.1
    have a2 := R1.1
    omega
  obtain ⟨T2, locs2, X2, R2, F2, st2⟩ := hn p e R s m args below meth c T1 locs1 _ _ X1 hx hZ hown hby hml hret hnm (hL.trans hLm) hfr hlo hsz1 R1 F1 (by omega) (by omega)
  refine ⟨T2, locs2, ?_, R2, F2, fun fs hl => st1 _ (st2 fs hl)⟩
  have e1 : cells + (h'.length - h.length) + (r.2.length - h'.length) = cells + (r.2.length - h.length) := by omega
  have e2 : slots + (hsl (gK G) h' - hsl (gK G) h) + (hsl (gK G) r.2 - hsl (gK G) h') = slots + (hsl (gK G) r.2 - hsl (gK G) h) := by omega
  rw [e1, e2] at X2
  exact X2
/-- a step that leaves the heap -/
theorem Ev.same {pc' : Nat} {L' : List Slot} {S' : List Value} (hL : L'.length = L.length) (hn : Ev G M pc' L' S' h r)
    (st : ∀ {p : Program} {e : Env} {R : Room} {s : State} {m : MethodId} {args : Array Value} {below : List Frame} {meth : Method} {c : Code} {T : State} {locs : List Loc} {cells slots : Nat},
      Stand p (gL G) e R s m args below meth c T locs cells slots → p.tables.exec = Jvm.exec → (gZ G).Warmed39 s.vm → s.vm.findClass (mN M).cls = some m.cls →
      c.code = mB M → c.maxLocals = mL M → L.length = mL M → mF M ≤ R.frames → mW M ≤ R.locals → Rel G T.heap h →
      ∃ T', Stand p (gL G) e R s m args below meth c T' locs cells slots ∧ T'.heap = T.heap ∧
        ∀ target, Steps p.tables e below (T'.setTop (mkF m pc' (arL G L') (S'.map (tr G)))) target → Steps p.tables e below (T.setTop (mkF m pc (arL G L) (S.map (tr G)))) target) :
    Ev G M pc L S h r := by
  refine Ev.gen (Nat.le_refl _) (Nat.le_refl _) hL hn ?_
  intro p e R s m args below meth c T locs cells slots X hx hZ hown hby hml hnm hLm hfr hlo hsz hR hF hc hs
  obtain ⟨T', X', e', st'⟩ := st X hx hZ hown hby hml hLm hfr hlo hR
  refine ⟨T', locs, ?_, by rw [e']; exact hR, hF, st'⟩
  rw [Nat.sub_self, Nat.sub_self, Nat.add_zero, Nat.add_zero]
  exact X'
/-- a step that leaves all but the frame -/
theorem Ev.pure {pc' : Nat} {L' : List Slot} {S' : List Value} (hL : L'.length = L.length) (hn : Ev G M pc' L' S' h r)
    (st : ∀ {p : Program} {e : Env} {R : Room} {s : State} {m : MethodId} {args : Array Value} {below : List Frame} {meth : Method} {c : Code} {T : State} {locs : List Loc} {cells slots : Nat},
      Stand p (gL G) e R s m args below meth c T locs cells slots → p.tables.exec = Jvm.exec → (gZ G).Warmed39 s.vm → s.vm.findClass (mN M).cls = some m.cls →
      c.code = mB M → ∀ target, Steps p.tables e below (T.setTop (mkF m pc' (arL G L') (S'.map (tr G)))) target → Steps p.tables e below (T.setTop (mkF m pc (arL G L) (S.map (tr G)))) target) :
    Ev G M pc L S h r :=
  Ev.same hL hn fun {p e R s m args below meth c T locs cells slots} X hx hZ hown hby hml hLm hfr hlo hR => ⟨T, X, rfl, st X hx hZ hown hby⟩
/-! ### loads, stores, constants -/
theorem Ev.iload {k : Nat} {v : Int32} (hd : decode (mB M) pc = .ok (.iload k, 2)) (hl : L[k]? = some (.val (.int v))) (hn : Ev G M (pc + 2) L (.int v :: S) h r) : Ev G M pc L S h r :=
  Ev.pure rfl hn fun {_ _ _ _ m _ _ _ _ _ _ _ _} X hx hZ hown hby target q => XS.iload (g := mkF m pc (arL G L) (List.map (tr G) S)) X.here hx rfl (hb hby hd) (ld_of hl) q
theorem Ev.iloadN {k : Fin 4} {v : Int32} (hd : decode (mB M) pc = .ok (.iload_n k, 1)) (hl : L[k.val]? = some (.val (.int v))) (hn : Ev G M (pc + 1) L (.int v :: S) h r) : Ev G M pc L S h r :=
  Ev.pure rfl hn fun {_ _ _ _ m _ _ _ _ _ _ _ _} X hx hZ hown hby target q => XS.iloadN (g := mkF m pc (arL G L) (List.map (tr G) S)) X.here hx rfl (hb hby hd) (ld_of hl) q
theorem Ev.aload {k : Nat} {v : Nat} (hd : decode (mB M) pc = .ok (.aload k, 2)) (hl : L[k]? = some (.val (.ref v))) (hn : Ev G M (pc + 2) L (.ref v :: S) h r) : Ev G M pc L S h r :=
  Ev.pure rfl hn fun {_ _ _ _ m _ _ _ _ _ _ _ _} X hx hZ hown hby target q => XS.aload (g := mkF m pc (arL G L) (List.map (tr G) S)) X.here hx rfl (hb hby hd) (ld_of hl) rfl q
theorem Ev.aloadN {k : Fin 4} {v : Nat} (hd : decode (mB M) pc = .ok (.aload_n k, 1)) (hl : L[k.val]? = some (.val (.ref v))) (hn : Ev G M (pc + 1) L (.ref v :: S) h r) : Ev G M pc L S h r :=
  Ev.pure rfl hn fun {_ _ _ _ m _ _ _ _ _ _ _ _} X hx hZ hown hby target q => XS.aloadN (g := mkF m pc (arL G L) (List.map (tr G) S)) X.here hx rfl (hb hby hd) (ld_of hl) rfl q
theorem Ev.lload {k : Nat} {v : Int64} (hd : decode (mB M) pc = .ok (.lload k, 2)) (hl : L[k]? = some (.val (.long v))) (hn : Ev G M (pc + 2) L (.long v :: S) h r) : Ev G M pc L S h r :=
  Ev.pure rfl hn fun {_ _ _ _ m _ _ _ _ _ _ _ _} X hx hZ hown hby target q => XT.lload (g := mkF m pc (arL G L) (List.map (tr G) S)) X.here hx rfl (hb hby hd) (ld_of hl) q
theorem Ev.lloadN {k : Fin 4} {v : Int64} (hd : decode (mB M) pc = .ok (.lload_n k, 1)) (hl : L[k.val]? = some (.val (.long v))) (hn : Ev G M (pc + 1) L (.long v :: S) h r) : Ev G M pc L S h r :=
  Ev.pure rfl hn fun {_ _ _ _ m _ _ _ _ _ _ _ _} X hx hZ hown hby target q => XT.lloadN (g := mkF m pc (arL G L) (List.map (tr G) S)) X.here hx rfl (hb hby hd) (ld_of hl) q
theorem Ev.istore {k : Nat} {v : Int32} {L' : List Slot} (hd : decode (mB M) pc = .ok (.istore k, 2)) (hl : mst L k (.int v) = some L') (hn : Ev G M (pc + 2) L' S h r) : Ev G M pc L (.int v :: S) h r :=
  Ev.pure (mst_len hl) hn fun {_ _ _ _ m _ _ _ _ _ _ _ _} X hx hZ hown hby target q => XS.istore (g := mkF m pc (arL G L) (List.map (tr G) (Value.int v :: S))) X.here hx rfl (hb hby hd) rfl (st_of hl) q
theorem Ev.istoreN {k : Fin 4} {v : Int32} {L' : List Slot} (hd : decode (mB M) pc = .ok (.istore_n k, 1)) (hl : mst L k.val (.int v) = some L') (hn : Ev G M (pc + 1) L' S h r) : Ev G M pc L (.int v :: S) h r :=
  Ev.pure (mst_len hl) hn fun {_ _ _ _ m _ _ _ _ _ _ _ _} X hx hZ hown hby target q => XS.istoreN (g := mkF m pc (arL G L) (List.map (tr G) (Value.int v :: S))) X.here hx rfl (hb hby hd) rfl (st_of hl) q
theorem Ev.astore {k v : Nat} {L' : List Slot} (hd : decode (mB M) pc = .ok (.astore k, 2)) (hl : mst L k (.ref v) = some L') (hn : Ev G M (pc + 2) L' S h r) : Ev G M pc L (.ref v :: S) h r :=
  Ev.pure (mst_len hl) hn fun {_ _ _ _ m _ _ _ _ _ _ _ _} X hx hZ hown hby target q => XS.astore (g := mkF m pc (arL G L) (List.map (tr G) (Value.ref v :: S))) X.here hx rfl (hb hby hd) rfl rfl (st_of hl) q
theorem Ev.astoreN {k : Fin 4} {v : Nat} {L' : List Slot} (hd : decode (mB M) pc = .ok (.astore_n k, 1)) (hl : mst L k.val (.ref v) = some L') (hn : Ev G M (pc + 1) L' S h r) : Ev G M pc L (.ref v :: S) h r :=
  Ev.pure (mst_len hl) hn fun {_ _ _ _ m _ _ _ _ _ _ _ _} X hx hZ hown hby target q => XS.astoreN (g := mkF m pc (arL G L) (List.map (tr G) (Value.ref v :: S))) X.here hx rfl (hb hby hd) rfl rfl (st_of hl) q
theorem Ev.lstore {k : Nat} {v : Int64} {L' : List Slot} (hd : decode (mB M) pc = .ok (.lstore k, 2)) (hl : mst L k (.long v) = some L') (hn : Ev G M (pc + 2) L' S h r) : Ev G M pc L (.long v :: S) h r :=
  Ev.pure (mst_len hl) hn fun {_ _ _ _ m _ _ _ _ _ _ _ _} X hx hZ hown hby target q => XT.lstore (g := mkF m pc (arL G L) (List.map (tr G) (Value.long v :: S))) X.here hx rfl (hb hby hd) rfl (st_of hl) q
theorem Ev.lstoreN {k : Fin 4} {v : Int64} {L' : List Slot} (hd : decode (mB M) pc = .ok (.lstore_n k, 1)) (hl : mst L k.val (.long v) = some L') (hn : Ev G M (pc + 1) L' S h r) : Ev G M pc L (.long v :: S) h r :=
  Ev.pure (mst_len hl) hn fun {_ _ _ _ m _ _ _ _ _ _ _ _} X hx hZ hown hby target q => XT.lstoreN (g := mkF m pc (arL G L) (List.map (tr G) (Value.long v :: S))) X.here hx rfl (hb hby hd) rfl (st_of hl) q
theorem Ev.iconst {i : Int} {z : Int32} (hd : decode (mB M) pc = .ok (.iconst i, 1)) (hz : Int32.ofInt i = z) (hn : Ev G M (pc + 1) L (.int z :: S) h r) : Ev G M pc L S h r :=
  Ev.pure rfl (hz ▸ hn) fun {_ _ _ _ m _ _ _ _ _ _ _ _} X hx hZ hown hby target q => XS.iconst (g := mkF m pc (arL G L) (List.map (tr G) S)) X.here hx rfl (hb hby hd) q
theorem Ev.bipush {i : Int} {z : Int32} (hd : decode (mB M) pc = .ok (.bipush i, 2)) (hz : (Int8.ofInt i).toInt32 = z) (hn : Ev G M (pc + 2) L (.int z :: S) h r) : Ev G M pc L S h r :=
  Ev.pure rfl (hz ▸ hn) fun {_ _ _ _ m _ _ _ _ _ _ _ _} X hx hZ hown hby target q => XS.bipush (g := mkF m pc (arL G L) (List.map (tr G) S)) X.here hx rfl (hb hby hd) q
theorem Ev.sipush {i : Int} {z : Int32} (hd : decode (mB M) pc = .ok (.sipush i, 3)) (hz : (Int16.ofInt i).toInt32 = z) (hn : Ev G M (pc + 3) L (.int z :: S) h r) : Ev G M pc L S h r :=
  Ev.pure rfl (hz ▸ hn) fun {_ _ _ _ m _ _ _ _ _ _ _ _} X hx hZ hown hby target q => XS.sipush (g := mkF m pc (arL G L) (List.map (tr G) S)) X.here hx rfl (hb hby hd) q
theorem Ev.lconst {k : Fin 2} {z : Int64} (hd : decode (mB M) pc = .ok (.lconst k, 1)) (hz : Int64.ofNat k = z) (hn : Ev G M (pc + 1) L (.long z :: S) h r) : Ev G M pc L S h r :=
  Ev.pure rfl (hz ▸ hn) fun {_ _ _ _ m _ _ _ _ _ _ _ _} X hx hZ hown hby target q => XT.lconst (g := mkF m pc (arL G L) (List.map (tr G) S)) X.here hx rfl (hb hby hd) q
theorem Ev.ldc {k : Nat} {v : Int32} (w : (Jvm.Cond.constant (mN M).cls k v).before (gA G) (gZ G) = true) (hd : decode (mB M) pc = .ok (.ldc k, 2)) (hn : Ev G M (pc + 2) L (.int v :: S) h r) : Ev G M pc L S h r :=
  Ev.pure rfl hn fun {_ _ _ _ m _ _ _ _ _ _ _ _} X hx hZ hown hby target q => X.ldcInt hx hown (mvT hZ w) (g := mkF m pc (arL G L) (List.map (tr G) S)) rfl (hb hby hd) target q
theorem Ev.ldcW {k : Nat} {v : Int32} (w : (Jvm.Cond.constant (mN M).cls k v).before (gA G) (gZ G) = true) (hd : decode (mB M) pc = .ok (.ldc_w k, 3)) (hn : Ev G M (pc + 3) L (.int v :: S) h r) : Ev G M pc L S h r :=
  Ev.pure rfl hn fun {_ _ _ _ m _ _ _ _ _ _ _ _} X hx hZ hown hby target q => X.ldcwInt hx hown (mvT hZ w) (g := mkF m pc (arL G L) (List.map (tr G) S)) rfl (hb hby hd) target q
theorem Ev.ldcL {k : Nat} {v : Int64} (w : (Jvm.Cond.constantLong (mN M).cls k v).before (gA G) (gZ G) = true) (hd : decode (mB M) pc = .ok (.ldc2_w k, 3)) (hn : Ev G M (pc + 3) L (.long v :: S) h r) : Ev G M pc L S h r :=
  Ev.pure rfl hn fun {_ _ _ _ m _ _ _ _ _ _ _ _} X hx hZ hown hby target q => X.ldc2Long hx hown (mvT hZ w) (g := mkF m pc (arL G L) (List.map (tr G) S)) rfl (hb hby hd) target q
/-! ### reckoning -/
theorem Ev.iadd {x y : Int32} (hd : decode (mB M) pc = .ok (.iadd, 1)) (hn : Ev G M (pc + 1) L (.int (x + y) :: S) h r) : Ev G M pc L (.int y :: .int x :: S) h r :=
  Ev.pure rfl hn fun {_ _ _ _ m _ _ _ _ _ _ _ _} X hx hZ hown hby target q => XS.iadd (g := mkF m pc (arL G L) (List.map (tr G) (Value.int y :: Value.int x :: S))) X.here hx rfl (hb hby hd) rfl q
theorem Ev.isub {x y : Int32} (hd : decode (mB M) pc = .ok (.isub, 1)) (hn : Ev G M (pc + 1) L (.int (x - y) :: S) h r) : Ev G M pc L (.int y :: .int x :: S) h r :=
  Ev.pure rfl hn fun {_ _ _ _ m _ _ _ _ _ _ _ _} X hx hZ hown hby target q => XS.isub (g := mkF m pc (arL G L) (List.map (tr G) (Value.int y :: Value.int x :: S))) X.here hx rfl (hb hby hd) rfl q
theorem Ev.imul {x y : Int32} (hd : decode (mB M) pc = .ok (.imul, 1)) (hn : Ev G M (pc + 1) L (.int (x * y) :: S) h r) : Ev G M pc L (.int y :: .int x :: S) h r :=
  Ev.pure rfl hn fun {_ _ _ _ m _ _ _ _ _ _ _ _} X hx hZ hown hby target q => XS.imul (g := mkF m pc (arL G L) (List.map (tr G) (Value.int y :: Value.int x :: S))) X.here hx rfl (hb hby hd) rfl q
theorem Ev.idiv {x y : Int32} (hd : decode (mB M) pc = .ok (.idiv, 1)) (hy : y ≠ 0) (hn : Ev G M (pc + 1) L (.int (x / y) :: S) h r) : Ev G M pc L (.int y :: .int x :: S) h r :=
  Ev.pure rfl hn fun {_ _ _ _ m _ _ _ _ _ _ _ _} X hx hZ hown hby target q => XS.idiv (g := mkF m pc (arL G L) (List.map (tr G) (Value.int y :: Value.int x :: S))) X.here hx rfl (hb hby hd) rfl hy q
theorem Ev.irem {x y : Int32} (hd : decode (mB M) pc = .ok (.irem, 1)) (hy : y ≠ 0) (hn : Ev G M (pc + 1) L (.int (x % y) :: S) h r) : Ev G M pc L (.int y :: .int x :: S) h r :=
  Ev.pure rfl hn fun {_ _ _ _ m _ _ _ _ _ _ _ _} X hx hZ hown hby target q => iremM (g := mkF m pc (arL G L) (List.map (tr G) (Value.int y :: Value.int x :: S))) X hx rfl (hb hby hd) rfl hy q
theorem Ev.ineg {x : Int32} (hd : decode (mB M) pc = .ok (.ineg, 1)) (hn : Ev G M (pc + 1) L (.int (-x) :: S) h r) : Ev G M pc L (.int x :: S) h r :=
  Ev.pure rfl hn fun {_ _ _ _ m _ _ _ _ _ _ _ _} X hx hZ hown hby target q => XS.ineg (g := mkF m pc (arL G L) (List.map (tr G) (Value.int x :: S))) X.here hx rfl (hb hby hd) rfl q
theorem Ev.iand {x y : Int32} (hd : decode (mB M) pc = .ok (.iand, 1)) (hn : Ev G M (pc + 1) L (.int (x &&& y) :: S) h r) : Ev G M pc L (.int y :: .int x :: S) h r :=
  Ev.pure rfl hn fun {_ _ _ _ m _ _ _ _ _ _ _ _} X hx hZ hown hby target q => XS.iand (g := mkF m pc (arL G L) (List.map (tr G) (Value.int y :: Value.int x :: S))) X.here hx rfl (hb hby hd) rfl q
theorem Ev.ior {x y : Int32} (hd : decode (mB M) pc = .ok (.ior, 1)) (hn : Ev G M (pc + 1) L (.int (x ||| y) :: S) h r) : Ev G M pc L (.int y :: .int x :: S) h r :=
  Ev.pure rfl hn fun {_ _ _ _ m _ _ _ _ _ _ _ _} X hx hZ hown hby target q => XT.ior (g := mkF m pc (arL G L) (List.map (tr G) (Value.int y :: Value.int x :: S))) X.here hx rfl (hb hby hd) rfl q
theorem Ev.ixor {x y : Int32} (hd : decode (mB M) pc = .ok (.ixor, 1)) (hn : Ev G M (pc + 1) L (.int (x ^^^ y) :: S) h r) : Ev G M pc L (.int y :: .int x :: S) h r :=
  Ev.pure rfl hn fun {_ _ _ _ m _ _ _ _ _ _ _ _} X hx hZ hown hby target q => XT.ixor (g := mkF m pc (arL G L) (List.map (tr G) (Value.int y :: Value.int x :: S))) X.here hx rfl (hb hby hd) rfl q
theorem Ev.ishl {x y : Int32} (hd : decode (mB M) pc = .ok (.ishl, 1)) (hn : Ev G M (pc + 1) L (.int (x <<< (y &&& 31)) :: S) h r) : Ev G M pc L (.int y :: .int x :: S) h r :=
  Ev.pure rfl hn fun {_ _ _ _ m _ _ _ _ _ _ _ _} X hx hZ hown hby target q => XT.ishl (g := mkF m pc (arL G L) (List.map (tr G) (Value.int y :: Value.int x :: S))) X.here hx rfl (hb hby hd) rfl q
theorem Ev.ishr {x y : Int32} (hd : decode (mB M) pc = .ok (.ishr, 1)) (hn : Ev G M (pc + 1) L (.int (x >>> (y &&& 31)) :: S) h r) : Ev G M pc L (.int y :: .int x :: S) h r :=
  Ev.pure rfl hn fun {_ _ _ _ m _ _ _ _ _ _ _ _} X hx hZ hown hby target q => XT.ishr (g := mkF m pc (arL G L) (List.map (tr G) (Value.int y :: Value.int x :: S))) X.here hx rfl (hb hby hd) rfl q
theorem Ev.iushr {x y : Int32} (hd : decode (mB M) pc = .ok (.iushr, 1)) (hn : Ev G M (pc + 1) L (.int (XT.ushr x y) :: S) h r) : Ev G M pc L (.int y :: .int x :: S) h r :=
  Ev.pure rfl hn fun {_ _ _ _ m _ _ _ _ _ _ _ _} X hx hZ hown hby target q => XT.iushr (g := mkF m pc (arL G L) (List.map (tr G) (Value.int y :: Value.int x :: S))) X.here hx rfl (hb hby hd) rfl q
theorem Ev.ladd {x y : Int64} (hd : decode (mB M) pc = .ok (.ladd, 1)) (hn : Ev G M (pc + 1) L (.long (x + y) :: S) h r) : Ev G M pc L (.long y :: .long x :: S) h r :=
  Ev.pure rfl hn fun {_ _ _ _ m _ _ _ _ _ _ _ _} X hx hZ hown hby target q => XT.ladd (g := mkF m pc (arL G L) (List.map (tr G) (Value.long y :: Value.long x :: S))) X.here hx rfl (hb hby hd) rfl q
theorem Ev.lsub {x y : Int64} (hd : decode (mB M) pc = .ok (.lsub, 1)) (hn : Ev G M (pc + 1) L (.long (x - y) :: S) h r) : Ev G M pc L (.long y :: .long x :: S) h r :=
  Ev.pure rfl hn fun {_ _ _ _ m _ _ _ _ _ _ _ _} X hx hZ hown hby target q => XT.lsub (g := mkF m pc (arL G L) (List.map (tr G) (Value.long y :: Value.long x :: S))) X.here hx rfl (hb hby hd) rfl q
theorem Ev.lmul {x y : Int64} (hd : decode (mB M) pc = .ok (.lmul, 1)) (hn : Ev G M (pc + 1) L (.long (x * y) :: S) h r) : Ev G M pc L (.long y :: .long x :: S) h r :=
  Ev.pure rfl hn fun {_ _ _ _ m _ _ _ _ _ _ _ _} X hx hZ hown hby target q => XT.lmul (g := mkF m pc (arL G L) (List.map (tr G) (Value.long y :: Value.long x :: S))) X.here hx rfl (hb hby hd) rfl q
theorem Ev.ldiv {x y : Int64} (hd : decode (mB M) pc = .ok (.ldiv, 1)) (hy : y ≠ 0) (hn : Ev G M (pc + 1) L (.long (x / y) :: S) h r) : Ev G M pc L (.long y :: .long x :: S) h r :=
  Ev.pure rfl hn fun {_ _ _ _ m _ _ _ _ _ _ _ _} X hx hZ hown hby target q => XT.ldiv (g := mkF m pc (arL G L) (List.map (tr G) (Value.long y :: Value.long x :: S))) X.here hx rfl (hb hby hd) rfl hy q
theorem Ev.lneg {x : Int64} (hd : decode (mB M) pc = .ok (.lneg, 1)) (hn : Ev G M (pc + 1) L (.long (-x) :: S) h r) : Ev G M pc L (.long x :: S) h r :=
  Ev.pure rfl hn fun {_ _ _ _ m _ _ _ _ _ _ _ _} X hx hZ hown hby target q => XT.lneg (g := mkF m pc (arL G L) (List.map (tr G) (Value.long x :: S))) X.here hx rfl (hb hby hd) rfl q
theorem Ev.land {x y : Int64} (hd : decode (mB M) pc = .ok (.land, 1)) (hn : Ev G M (pc + 1) L (.long (x &&& y) :: S) h r) : Ev G M pc L (.long y :: .long x :: S) h r :=
  Ev.pure rfl hn fun {_ _ _ _ m _ _ _ _ _ _ _ _} X hx hZ hown hby target q => XT.land (g := mkF m pc (arL G L) (List.map (tr G) (Value.long y :: Value.long x :: S))) X.here hx rfl (hb hby hd) rfl q
theorem Ev.lor {x y : Int64} (hd : decode (mB M) pc = .ok (.lor, 1)) (hn : Ev G M (pc + 1) L (.long (x ||| y) :: S) h r) : Ev G M pc L (.long y :: .long x :: S) h r :=
  Ev.pure rfl hn fun {_ _ _ _ m _ _ _ _ _ _ _ _} X hx hZ hown hby target q => XT.lor (g := mkF m pc (arL G L) (List.map (tr G) (Value.long y :: Value.long x :: S))) X.here hx rfl (hb hby hd) rfl q
theorem Ev.lxor {x y : Int64} (hd : decode (mB M) pc = .ok (.lxor, 1)) (hn : Ev G M (pc + 1) L (.long (x ^^^ y) :: S) h r) : Ev G M pc L (.long y :: .long x :: S) h r :=
  Ev.pure rfl hn fun {_ _ _ _ m _ _ _ _ _ _ _ _} X hx hZ hown hby target q => XT.lxor (g := mkF m pc (arL G L) (List.map (tr G) (Value.long y :: Value.long x :: S))) X.here hx rfl (hb hby hd) rfl q
theorem Ev.lshl {x : Int64} {y : Int32} (hd : decode (mB M) pc = .ok (.lshl, 1)) (hn : Ev G M (pc + 1) L (.long (x <<< (y.toInt64 &&& 63)) :: S) h r) : Ev G M pc L (.int y :: .long x :: S) h r :=
  Ev.pure rfl hn fun {_ _ _ _ m _ _ _ _ _ _ _ _} X hx hZ hown hby target q => XT.lshl (g := mkF m pc (arL G L) (List.map (tr G) (Value.int y :: Value.long x :: S))) X.here hx rfl (hb hby hd) rfl q
theorem Ev.lushr {x : Int64} {y : Int32} (hd : decode (mB M) pc = .ok (.lushr, 1)) (hn : Ev G M (pc + 1) L (.long (XT.ushrL x y) :: S) h r) : Ev G M pc L (.int y :: .long x :: S) h r :=
  Ev.pure rfl hn fun {_ _ _ _ m _ _ _ _ _ _ _ _} X hx hZ hown hby target q => XT.lushr (g := mkF m pc (arL G L) (List.map (tr G) (Value.int y :: Value.long x :: S))) X.here hx rfl (hb hby hd) rfl q
theorem Ev.lcmp {x y : Int64} (hd : decode (mB M) pc = .ok (.lcmp, 1)) (hn : Ev G M (pc + 1) L (.int (XT.cmpL x y) :: S) h r) : Ev G M pc L (.long y :: .long x :: S) h r :=
  Ev.pure rfl hn fun {_ _ _ _ m _ _ _ _ _ _ _ _} X hx hZ hown hby target q => XT.lcmp (g := mkF m pc (arL G L) (List.map (tr G) (Value.long y :: Value.long x :: S))) X.here hx rfl (hb hby hd) rfl q
theorem Ev.i2l {x : Int32} (hd : decode (mB M) pc = .ok (.i2l, 1)) (hn : Ev G M (pc + 1) L (.long x.toInt64 :: S) h r) : Ev G M pc L (.int x :: S) h r :=
  Ev.pure rfl hn fun {_ _ _ _ m _ _ _ _ _ _ _ _} X hx hZ hown hby target q => XT.i2l (g := mkF m pc (arL G L) (List.map (tr G) (Value.int x :: S))) X.here hx rfl (hb hby hd) rfl q
theorem Ev.l2i {x : Int64} (hd : decode (mB M) pc = .ok (.l2i, 1)) (hn : Ev G M (pc + 1) L (.int x.toInt32 :: S) h r) : Ev G M pc L (.long x :: S) h r :=
  Ev.pure rfl hn fun {_ _ _ _ m _ _ _ _ _ _ _ _} X hx hZ hown hby target q => XT.l2i (g := mkF m pc (arL G L) (List.map (tr G) (Value.long x :: S))) X.here hx rfl (hb hby hd) rfl q
theorem Ev.i2b {x : Int32} (hd : decode (mB M) pc = .ok (.i2b, 1)) (hn : Ev G M (pc + 1) L (.int x.toInt8.toInt32 :: S) h r) : Ev G M pc L (.int x :: S) h r :=
  Ev.pure rfl hn fun {_ _ _ _ m _ _ _ _ _ _ _ _} X hx hZ hown hby target q => XT.i2b (g := mkF m pc (arL G L) (List.map (tr G) (Value.int x :: S))) X.here hx rfl (hb hby hd) rfl q
theorem Ev.iinc {k : Nat} {i : Int} {x z : Int32} {L' : List Slot} (hd : decode (mB M) pc = .ok (.iinc k i, 3)) (hl : L[k]? = some (.val (.int x))) (hz : Int32.ofInt i = z) (hl' : mst L k (.int (x + z)) = some L') (hn : Ev G M (pc + 3) L' S h r) : Ev G M pc L S h r :=
  Ev.pure (mst_len hl') hn fun {_ _ _ _ m _ _ _ _ _ _ _ _} X hx hZ hown hby target q => XS.iinc (g := mkF m pc (arL G L) (List.map (tr G) S)) X.here hx rfl (hb hby hd) (ld_of hl) (by rw [hz]; exact st_of hl') q
theorem iincW {tb : Tables} [Ours tb] {e : Env} {below : List Frame} {T target : State} {m : MethodId} {c : Code} {g : JFrame} (h : At T m c below) (hx : tb.exec = Jvm.exec) (hg : g.method = m) {k : Nat} {cst : Int} {x : Int32} {l' : Array Slot} (hd : decode c.code g.pc = .ok (.iinc k cst, 6)) (hl : g.locals[k]? = some (.val (.int x))) (hl' : storeLocals g.locals k (.int (x + Int32.ofInt cst)) = some l')
    (hr : Steps tb e below (T.setTop { g with pc := g.pc + 6, locals := l' }) target) : Steps tb e below (T.setTop g) target := by
  subst hg
  jvm_step h [h.top, hx, hd, hl, hl']
  exact hr
theorem Ev.iincW {k : Nat} {i : Int} {x z : Int32} {L' : List Slot} (hd : decode (mB M) pc = .ok (.iinc k i, 6)) (hl : L[k]? = some (.val (.int x))) (hz : Int32.ofInt i = z) (hl' : mst L k (.int (x + z)) = some L') (hn : Ev G M (pc + 6) L' S h r) : Ev G M pc L S h r :=
  Ev.pure (mst_len hl') hn fun {_ _ _ _ m _ _ _ _ _ _ _ _} X hx hZ hown hby target q => Own.iincW (g := mkF m pc (arL G L) (List.map (tr G) S)) X.here hx rfl (hb hby hd) (ld_of hl) (by rw [hz]; exact st_of hl') q
theorem Ev.dup {x : Value} (hd : decode (mB M) pc = .ok (.dup, 1)) (hc : x.category = 1) (hn : Ev G M (pc + 1) L (x :: x :: S) h r) : Ev G M pc L (x :: S) h r :=
  Ev.pure rfl hn fun {_ _ _ _ m _ _ _ _ _ _ _ _} X hx hZ hown hby target q => XS.dup (g := mkF m pc (arL G L) (List.map (tr G) (x :: S))) X.here hx rfl (hb hby hd) rfl ((tr_cat G x).trans hc) q
theorem Ev.dup2 {x y : Value} (hd : decode (mB M) pc = .ok (.dup2, 1)) (hc : x.category = 1) (hc' : y.category = 1) (hn : Ev G M (pc + 1) L (x :: y :: x :: y :: S) h r) : Ev G M pc L (x :: y :: S) h r :=
  Ev.pure rfl hn fun {_ _ _ _ m _ _ _ _ _ _ _ _} X hx hZ hown hby target q => XT.dup2 (g := mkF m pc (arL G L) (List.map (tr G) (x :: y :: S))) X.here hx rfl (hb hby hd) rfl ((tr_cat G x).trans hc) ((tr_cat G y).trans hc') q
theorem Ev.pop {x : Value} (hd : decode (mB M) pc = .ok (.pop, 1)) (hc : x.category = 1) (hn : Ev G M (pc + 1) L S h r) : Ev G M pc L (x :: S) h r :=
  Ev.pure rfl hn fun {_ _ _ _ m _ _ _ _ _ _ _ _} X hx hZ hown hby target q => XT.pop (g := mkF m pc (arL G L) (List.map (tr G) (x :: S))) X.here hx rfl (hb hby hd) rfl ((tr_cat G x).trans hc) q
/-! ### branches -/
theorem Ev.goto {o : Int} {t : Nat} (hd : decode (mB M) pc = .ok (.goto o, 3)) (hp : (pc : Int) + o = (t : Int)) (hn : Ev G M t L S h r) : Ev G M pc L S h r :=
  Ev.pure rfl hn fun {_ _ _ _ m _ _ _ _ _ _ _ _} X hx hZ hown hby target q => XS.goto (g := mkF m pc (arL G L) (List.map (tr G) S)) X.here hx rfl rfl (hb hby hd) (by rw [hp]; exact Int.natCast_nonneg t) (by rw [hp]; rfl) q
theorem Ev.ifc {cd : ClassFile.Cond} {x : Int32} {o : Int} {t : Nat} (hd : decode (mB M) pc = .ok (.ifCond cd o, 3)) (hp : (pc : Int) + o = (t : Int)) (h1 : ifCond.holds cd x = true → Ev G M t L S h r) (h2 : ifCond.holds cd x = false → Ev G M (pc + 3) L S h r) : Ev G M pc L (.int x :: S) h r := by
  cases hc : ifCond.holds cd x with
  | true => exact Ev.pure rfl (h1 hc) fun {_ _ _ _ m _ _ _ _ _ _ _ _} X hx hZ hown hby target q => XS.ifYes (g := mkF m pc (arL G L) (List.map (tr G) (Value.int x :: S))) X.here hx rfl rfl (hb hby hd) rfl hc (by rw [hp]; exact Int.natCast_nonneg t) (by rw [hp]; rfl) q
  | false => exact Ev.pure rfl (h2 hc) fun {_ _ _ _ m _ _ _ _ _ _ _ _} X hx hZ hown hby target q => XS.ifNo (g := mkF m pc (arL G L) (List.map (tr G) (Value.int x :: S))) X.here hx rfl (hb hby hd) rfl hc q
theorem Ev.icc {cd : ClassFile.Cond} {x y : Int32} {o : Int} {t : Nat} (hd : decode (mB M) pc = .ok (.if_icmp cd o, 3)) (hp : (pc : Int) + o = (t : Int)) (h1 : if_icmp.holds cd x y = true → Ev G M t L S h r) (h2 : if_icmp.holds cd x y = false → Ev G M (pc + 3) L S h r) : Ev G M pc L (.int y :: .int x :: S) h r := by
  cases hc : if_icmp.holds cd x y with
  | true => exact Ev.pure rfl (h1 hc) fun {_ _ _ _ m _ _ _ _ _ _ _ _} X hx hZ hown hby target q => XS.icmpYes (g := mkF m pc (arL G L) (List.map (tr G) (Value.int y :: Value.int x :: S))) X.here hx rfl rfl (hb hby hd) rfl hc (by rw [hp]; exact Int.natCast_nonneg t) (by rw [hp]; rfl) q
  | false => exact Ev.pure rfl (h2 hc) fun {_ _ _ _ m _ _ _ _ _ _ _ _} X hx hZ hown hby target q => XS.icmpNo (g := mkF m pc (arL G L) (List.map (tr G) (Value.int y :: Value.int x :: S))) X.here hx rfl (hb hby hd) rfl hc q
theorem Ev.iclt {x y : Int32} {o : Int} {t : Nat} (hd : decode (mB M) pc = .ok (.if_icmp .lt o, 3)) (hp : (pc : Int) + o = (t : Int)) (h1 : x < y → Ev G M t L S h r) (h2 : ¬ x < y → Ev G M (pc + 3) L S h r) : Ev G M pc L (.int y :: .int x :: S) h r :=
  Ev.icc hd hp (fun q => h1 (by simpa [if_icmp.holds] using q)) (fun q => h2 (by simpa [if_icmp.holds] using q))
theorem Ev.icge {x y : Int32} {o : Int} {t : Nat} (hd : decode (mB M) pc = .ok (.if_icmp .ge o, 3)) (hp : (pc : Int) + o = (t : Int)) (h1 : x < y → Ev G M (pc + 3) L S h r) (h2 : ¬ x < y → Ev G M t L S h r) : Ev G M pc L (.int y :: .int x :: S) h r :=
  Ev.icc hd hp (fun q => h2 (by simpa [if_icmp.holds] using q)) (fun q => h1 (by simpa [if_icmp.holds] using q))
theorem Ev.icgt {x y : Int32} {o : Int} {t : Nat} (hd : decode (mB M) pc = .ok (.if_icmp .gt o, 3)) (hp : (pc : Int) + o = (t : Int)) (h1 : y < x → Ev G M t L S h r) (h2 : ¬ y < x → Ev G M (pc + 3) L S h r) : Ev G M pc L (.int y :: .int x :: S) h r :=
  Ev.icc hd hp (fun q => h1 (by simpa [if_icmp.holds] using q)) (fun q => h2 (by simpa [if_icmp.holds] using q))
theorem Ev.icle {x y : Int32} {o : Int} {t : Nat} (hd : decode (mB M) pc = .ok (.if_icmp .le o, 3)) (hp : (pc : Int) + o = (t : Int)) (h1 : y < x → Ev G M (pc + 3) L S h r) (h2 : ¬ y < x → Ev G M t L S h r) : Ev G M pc L (.int y :: .int x :: S) h r :=
  Ev.icc hd hp (fun q => h2 (by simpa [if_icmp.holds] using q)) (fun q => h1 (by simpa [if_icmp.holds] using q))
theorem Ev.iceq {x y : Int32} {o : Int} {t : Nat} (hd : decode (mB M) pc = .ok (.if_icmp .eq o, 3)) (hp : (pc : Int) + o = (t : Int)) (h1 : x = y → Ev G M t L S h r) (h2 : ¬ x = y → Ev G M (pc + 3) L S h r) : Ev G M pc L (.int y :: .int x :: S) h r :=
  Ev.icc hd hp (fun q => h1 (by simpa [if_icmp.holds] using q)) (fun q => h2 (by simpa [if_icmp.holds] using q))
theorem Ev.icne {x y : Int32} {o : Int} {t : Nat} (hd : decode (mB M) pc = .ok (.if_icmp .ne o, 3)) (hp : (pc : Int) + o = (t : Int)) (h1 : x = y → Ev G M (pc + 3) L S h r) (h2 : ¬ x = y → Ev G M t L S h r) : Ev G M pc L (.int y :: .int x :: S) h r :=
  Ev.icc hd hp (fun q => h2 (by simpa [if_icmp.holds] using q)) (fun q => h1 (by simpa [if_icmp.holds] using q))
theorem Ev.iflt {x : Int32} {o : Int} {t : Nat} (hd : decode (mB M) pc = .ok (.ifCond .lt o, 3)) (hp : (pc : Int) + o = (t : Int)) (h1 : x < 0 → Ev G M t L S h r) (h2 : ¬ x < 0 → Ev G M (pc + 3) L S h r) : Ev G M pc L (.int x :: S) h r :=
  Ev.ifc hd hp (fun q => h1 (by simpa [ifCond.holds] using q)) (fun q => h2 (by simpa [ifCond.holds] using q))
theorem Ev.ifge {x : Int32} {o : Int} {t : Nat} (hd : decode (mB M) pc = .ok (.ifCond .ge o, 3)) (hp : (pc : Int) + o = (t : Int)) (h1 : x < 0 → Ev G M (pc + 3) L S h r) (h2 : ¬ x < 0 → Ev G M t L S h r) : Ev G M pc L (.int x :: S) h r :=
  Ev.ifc hd hp (fun q => h2 (by simpa [ifCond.holds] using q)) (fun q => h1 (by simpa [ifCond.holds] using q))
theorem Ev.ifgt {x : Int32} {o : Int} {t : Nat} (hd : decode (mB M) pc = .ok (.ifCond .gt o, 3)) (hp : (pc : Int) + o = (t : Int)) (h1 : 0 < x → Ev G M t L S h r) (h2 : ¬ 0 < x → Ev G M (pc + 3) L S h r) : Ev G M pc L (.int x :: S) h r :=
  Ev.ifc hd hp (fun q => h1 (by simpa [ifCond.holds] using q)) (fun q => h2 (by simpa [ifCond.holds] using q))
theorem Ev.ifle {x : Int32} {o : Int} {t : Nat} (hd : decode (mB M) pc = .ok (.ifCond .le o, 3)) (hp : (pc : Int) + o = (t : Int)) (h1 : 0 < x → Ev G M (pc + 3) L S h r) (h2 : ¬ 0 < x → Ev G M t L S h r) : Ev G M pc L (.int x :: S) h r :=
  Ev.ifc hd hp (fun q => h2 (by simpa [ifCond.holds] using q)) (fun q => h1 (by simpa [ifCond.holds] using q))
theorem Ev.ifeq {x : Int32} {o : Int} {t : Nat} (hd : decode (mB M) pc = .ok (.ifCond .eq o, 3)) (hp : (pc : Int) + o = (t : Int)) (h1 : x = 0 → Ev G M t L S h r) (h2 : ¬ x = 0 → Ev G M (pc + 3) L S h r) : Ev G M pc L (.int x :: S) h r :=
  Ev.ifc hd hp (fun q => h1 (by simpa [ifCond.holds] using q)) (fun q => h2 (by simpa [ifCond.holds] using q))
theorem Ev.ifne {x : Int32} {o : Int} {t : Nat} (hd : decode (mB M) pc = .ok (.ifCond .ne o, 3)) (hp : (pc : Int) + o = (t : Int)) (h1 : x = 0 → Ev G M (pc + 3) L S h r) (h2 : ¬ x = 0 → Ev G M t L S h r) : Ev G M pc L (.int x :: S) h r :=
  Ev.ifc hd hp (fun q => h2 (by simpa [ifCond.holds] using q)) (fun q => h1 (by simpa [ifCond.holds] using q))
theorem Ev.tswIn {x : Int32} {dflt low high : Int} {offs : Array Int} {len t : Nat} {o : Int} (hd : decode (mB M) pc = .ok (.tableswitch dflt low high offs, len)) (hin : ¬ (x.toInt < low ∨ x.toInt > high)) (ho : offs[(x.toInt - low).toNat]? = some o) (hp : (pc : Int) + o = (t : Int)) (hn : Ev G M t L S h r) : Ev G M pc L (.int x :: S) h r :=
  Ev.pure rfl hn fun {_ _ _ _ m _ _ _ _ _ _ _ _} X hx hZ hown hby target q => XS.tswIn (g := mkF m pc (arL G L) (List.map (tr G) (Value.int x :: S))) X.here hx rfl rfl (hb hby hd) rfl hin ho (by rw [hp]; exact Int.natCast_nonneg t) (by rw [hp]; rfl) q
theorem Ev.tswOut {x : Int32} {dflt low high : Int} {offs : Array Int} {len t : Nat} (hd : decode (mB M) pc = .ok (.tableswitch dflt low high offs, len)) (hout : x.toInt < low ∨ x.toInt > high) (hp : (pc : Int) + dflt = (t : Int)) (hn : Ev G M t L S h r) : Ev G M pc L (.int x :: S) h r :=
  Ev.pure rfl hn fun {_ _ _ _ m _ _ _ _ _ _ _ _} X hx hZ hown hby target q => XS.tswOut (g := mkF m pc (arL G L) (List.map (tr G) (Value.int x :: S))) X.here hx rfl rfl (hb hby hd) rfl hout (by rw [hp]; exact Int.natCast_nonneg t) (by rw [hp]; rfl) q
/-! ### fields -/
theorem Ev.getfield {idx j i : Nat} {n d : String} {ty : FieldType} {fs : List Value} {v : Value} (w : (Jvm.Cond.fieldLink (mN M).cls idx (gC G) n d).before (gA G) (gZ G) = true) (hd : decode (mB M) pc = .ok (.getfield idx, 3))
    (hF : (gF G)[j]? = some (n, d, ty)) (hi : h[i]? = some (.inl fs)) (hv : fs[j]? = some v) (hn : Ev G M (pc + 3) L (v :: S) h r) : Ev G M pc L (.ref i :: S) h r := by
  refine Ev.same rfl hn ?_
  intro p e R s m args below meth c T locs cells slots X hx hZ hown hby hml hLm hfr hlo hR
  obtain ⟨-, -, h3⟩ := hR.2.2.2 i _ hi
  obtain ⟨T', X', e', st⟩ := getF X hx hZ hown (host := "") (Or.inl w) Via.refl rfl (h3 j n d ty v hF hv) (g := mkF m pc (arL G L) ((Value.ref i :: S).map (tr G))) rfl rfl (hb hby hd)
  exact ⟨T', X', e', st⟩
def mput : FieldType → Value → Option Value
  | .int, .int z => some (.int z)
  | .boolean, .int z => some (.int (z &&& 1))
  | .array _, .ref a => some (.ref a)
  | _, _ => none
theorem mput_spec {G : Ctx} {ty : FieldType} {v v' : Value} (h : mput ty v = some v') : narrow ty (tr G v) = tr G v' ∧ fits ty (tr G v') = true := by
  unfold mput at h
  split at h
  · cases h; exact ⟨rfl, rfl⟩
  · cases h; exact ⟨rfl, fits_nar_bool _⟩
  · cases h; exact ⟨rfl, rfl⟩
  · cases h
theorem Ev.putfield {idx j i : Nat} {n d : String} {ty : FieldType} {fs : List Value} {v v' : Value} (K : GOk G) (w : (Jvm.Cond.fieldLink (mN M).cls idx (gC G) n d).before (gA G) (gZ G) = true)
    (wl : (Jvm.Cond.lays (gC G) (gC G) n d).before (gA G) (gZ G) = true ∨ ((Jvm.Cond.laysFinal (gC G) (gC G) n d).before (gA G) (gZ G) = true ∧ (mN M).cls = gC G ∧ (mN M).name = "<init>"))
    (hd : decode (mB M) pc = .ok (.putfield idx, 3)) (hF : (gF G)[j]? = some (n, d, ty)) (hk : k0 G ≤ i) (hi : h[i]? = some (.inl fs)) (hp : mput ty v = some v') (hn : Ev G M (pc + 3) L S (h.set i (.inl (fs.set j v'))) r) : Ev G M pc L (v :: .ref i :: S) h r := by
  have hs := hsl_set (gK G) h i (.inl fs) (.inl (fs.set j v')) hi rfl
  refine Ev.gen (by rw [List.length_set]; exact Nat.le_refl _) (by rw [hs]; exact Nat.le_refl _) rfl hn ?_
  intro p e R s m args below meth c T locs cells slots X hx hZ hown hby hml hnm hLm hfr hlo hsz hR hFr hc hsq
  obtain ⟨e1, e2, e3⟩ := hR.2.2.2 i _ hi
  obtain ⟨q1, q2⟩ := mput_spec (G := G) hp
  have hlt : j < fs.length := by rw [e2]; exact (List.getElem?_eq_some_iff.mp hF).1
  have F := e3 j n d ty _ hF (List.getElem?_eq_getElem hlt)
  obtain ⟨T', h', X', eT', W, st⟩ := putFN X hx hZ hown w Via.refl rfl F e1 (wl.imp id fun ⟨a, b, c⟩ => ⟨a, b, by rw [hnm]; exact c⟩) K.2.2.1 (K.1 j n d ty hF).2 q1 q2 (g := mkF m pc (arL G L) ((v :: Value.ref i :: S).map (tr G))) rfl rfl (hb hby hd)
  refine ⟨T', _, ?_, ?_, Fr.snoc X' hFr (rho_ge hk), st⟩
  · rw [hs, List.length_set, Nat.sub_self, Nat.sub_self, Nat.add_zero, Nat.add_zero]; exact X'
  · rw [eT']; exact hR.wrFld K hi hF W
/-! ### arrays -/
theorem get_arr {xs : List Int32} {c : Cell} (hs : c.slots = (xs.map Value.int).toArray) (k : Nat) : c.slots[k]? = (xs[k]?).map Value.int := by rw [hs]; simp
theorem arr_size {xs : List Int32} {c : Cell} (hs : c.slots = (xs.map Value.int).toArray) : c.slots.size = xs.length := by rw [hs]; simp
theorem Ev.arraylength {i : Nat} {b : Bool} {xs : List Int32} (hd : decode (mB M) pc = .ok (.arraylength, 1)) (hi : h[i]? = some (.inr (b, xs))) (hn : Ev G M (pc + 1) L (.int xs.length.toInt32 :: S) h r) : Ev G M pc L (.ref i :: S) h r := by
  refine Ev.same rfl hn ?_
  intro p e R s m args below meth c T locs cells slots X hx hZ hown hby hml hLm hfr hlo hR
  obtain ⟨cl, A, hs⟩ := hR.2.2.2 i _ hi
  refine ⟨T, X, rfl, fun target k => X.arraylength hx A.1 (State.isArrayOf_alike hZ.alike A.2.1) (g := mkF m pc (arL G L) ((Value.ref i :: S).map (tr G))) rfl rfl (hb hby hd) target ?_⟩
  rw [arr_size hs]; exact k
theorem Ev.iaload {i : Nat} {xs : List Int32} {j v : Int32} (hd : decode (mB M) pc = .ok (.iaload, 1)) (hi : h[i]? = some (.inr (false, xs))) (hj : ¬ j < 0) (hv : xs[j.toNatClampNeg]? = some v) (hn : Ev G M (pc + 1) L (.int v :: S) h r) : Ev G M pc L (.int j :: .ref i :: S) h r := by
  refine Ev.same rfl hn ?_
  intro p e R s m args below meth c T locs cells slots X hx hZ hown hby hml hLm hfr hlo hR
  obtain ⟨cl, A, hs⟩ := hR.2.2.2 i _ hi
  have hlt := (List.getElem?_eq_some_iff.mp hv).1
  exact ⟨T, X, rfl, fun target k => X.iaload hx A.1 (State.isArrayOf_alike hZ.alike A.2.1) A.2.2 (fun q => q.elim hj fun q => absurd (arr_size hs ▸ q) (Nat.not_le.mpr hlt)) (by rw [get_arr hs, hv]; rfl) (g := mkF m pc (arL G L) ((Value.int j :: Value.ref i :: S).map (tr G))) rfl rfl (hb hby hd) target k⟩
theorem Ev.baload {i : Nat} {xs : List Int32} {j v : Int32} (hd : decode (mB M) pc = .ok (.baload, 1)) (hi : h[i]? = some (.inr (true, xs))) (hj : ¬ j < 0) (hv : xs[j.toNatClampNeg]? = some v) (hn : Ev G M (pc + 1) L (.int v :: S) h r) : Ev G M pc L (.int j :: .ref i :: S) h r := by
  refine Ev.same rfl hn ?_
  intro p e R s m args below meth c T locs cells slots X hx hZ hown hby hml hLm hfr hlo hR
  obtain ⟨cl, A, hs⟩ := hR.2.2.2 i _ hi
  have hlt := (List.getElem?_eq_some_iff.mp hv).1
  exact ⟨T, X, rfl, fun target k => X.baloadBooleans hx A.1 (State.isArrayOf_alike hZ.alike A.2.1) A.2.2 (fun q => q.elim hj fun q => absurd (arr_size hs ▸ q) (Nat.not_le.mpr hlt)) (by rw [get_arr hs, hv]; rfl) (g := mkF m pc (arL G L) ((Value.int j :: Value.ref i :: S).map (tr G))) rfl rfl (hb hby hd) target k⟩
theorem Ev.iastore {i : Nat} {xs : List Int32} {j v : Int32} (hd : decode (mB M) pc = .ok (.iastore, 1)) (hk : k0 G ≤ i) (hi : h[i]? = some (.inr (false, xs))) (hj : ¬ j < 0) (hlt : j.toNatClampNeg < xs.length) (hn : Ev G M (pc + 1) L S (h.set i (.inr (false, xs.set j.toNatClampNeg v))) r) : Ev G M pc L (.int v :: .int j :: .ref i :: S) h r := by
  have hs := hsl_set (gK G) h i (.inr (false, xs)) (.inr (false, xs.set j.toNatClampNeg v)) hi (by simp [csl])
  refine Ev.gen (by rw [List.length_set]; exact Nat.le_refl _) (by rw [hs]; exact Nat.le_refl _) rfl hn ?_
  intro p e R s m args below meth c T locs cells slots X hx hZ hown hby hml hnm hLm hfr hlo hsz hR hFr hc hsq
  obtain ⟨cl, A, hsz'⟩ := hR.2.2.2 i _ hi
  obtain ⟨T', h', X', eT', W, st⟩ := stI X hx hZ rfl A (j := j) (x := v) (fun q => q.elim hj fun q => absurd (arr_size hsz' ▸ q) (Nat.not_le.mpr hlt)) (g := mkF m pc (arL G L) ((Value.int v :: Value.int j :: Value.ref i :: S).map (tr G))) rfl rfl (hb hby hd)
  refine ⟨T', _, ?_, ?_, Fr.snoc X' hFr (rho_ge hk), st⟩
  · rw [hs, List.length_set, Nat.sub_self, Nat.sub_self, Nat.add_zero, Nat.add_zero]; exact X'
  · rw [eT']; exact hR.wrArr hi W
theorem Ev.bastore {i : Nat} {xs : List Int32} {j v : Int32} (hd : decode (mB M) pc = .ok (.bastore, 1)) (hk : k0 G ≤ i) (hi : h[i]? = some (.inr (true, xs))) (hj : ¬ j < 0) (hlt : j.toNatClampNeg < xs.length) (hn : Ev G M (pc + 1) L S (h.set i (.inr (true, xs.set j.toNatClampNeg (v &&& 1)))) r) : Ev G M pc L (.int v :: .int j :: .ref i :: S) h r := by
  have hs := hsl_set (gK G) h i (.inr (true, xs)) (.inr (true, xs.set j.toNatClampNeg (v &&& 1))) hi (by simp [csl])
  refine Ev.gen (by rw [List.length_set]; exact Nat.le_refl _) (by rw [hs]; exact Nat.le_refl _) rfl hn ?_
  intro p e R s m args below meth c T locs cells slots X hx hZ hown hby hml hnm hLm hfr hlo hsz hR hFr hc hsq
  obtain ⟨cl, A, hsz'⟩ := hR.2.2.2 i _ hi
  obtain ⟨T', h', X', eT', W, st⟩ := stZ X hx hZ rfl A (j := j) (x := v) (fun q => q.elim hj fun q => absurd (arr_size hsz' ▸ q) (Nat.not_le.mpr hlt)) (g := mkF m pc (arL G L) ((Value.int v :: Value.int j :: Value.ref i :: S).map (tr G))) rfl rfl (hb hby hd)
  refine ⟨T', _, ?_, ?_, Fr.snoc X' hFr (rho_ge hk), st⟩
  · rw [hs, List.length_set, Nat.sub_self, Nat.sub_self, Nat.add_zero, Nat.add_zero]; exact X'
  · rw [eT']; exact hR.wrArr hi W
/-! ### making -/
theorem Ev.new {idx : Nat} {fs : List Value} (K : GOk G) (w : (Jvm.Cond.classLink (mN M).cls idx (gC G)).before (gA G) (gZ G) = true) (hd : decode (mB M) pc = .ok (.new idx, 3)) (hf : fs = (gF G).map fun f => defaultValue f.2.2)
    (hn : Ev G M (pc + 3) L (.ref h.length :: S) (h ++ [.inl fs]) r) : Ev G M pc L S h r := by
  subst hf
  have hs := hsl_push (gK G) h (.inl ((gF G).map fun f => defaultValue f.2.2))
  refine Ev.gen (by simp) (by rw [hs]; exact Nat.le_add_right _ _) rfl hn ?_
  intro p e R s m args below meth c T locs cells slots X hx hZ hown hby hml hnm hLm hfr hlo hsz hR hFr hc hsq
  have el : (h ++ [(.inl ((gF G).map fun f => defaultValue f.2.2) : MCell)]).length - h.length = 1 := by simp
  have es : hsl (gK G) (h ++ [.inl ((gF G).map fun f => defaultValue f.2.2)]) - hsl (gK G) h = gK G := by rw [hs]; simp [csl]
  rw [el] at hc
  rw [es] at hsq
  obtain ⟨T', h', X', eT', E, A, D, -, st⟩ := newO X hx hZ hown w K.2.2.1 K.2.2.2 rfl (g := mkF m pc (arL G L) (S.map (tr G))) rfl (hb hby hd) hc hsq
  rw [el, es]
  have hrho : rho G h.length = T.heap.size := by rw [rho_new hR.2.1]; have := hR.1; have := hR.2.1; omega
  refine ⟨T', _, X', ?_, hFr, fun target k => st target ?_⟩
  · rw [eT']
    refine hR.push E ?_ ⟨A, by simp, fun j n d ty v hf hv => ?_⟩
    · have h1 := X'.heapSize
      have h2 : T.heap.size < h'.size := A.lt
      rw [eT'] at h1
      omega
    · rw [List.getElem?_map, hf] at hv
      cases hv
      have := D (K.1 j n d ty hf).1 (K.1 j n d ty hf).2
      have e : tr G (defaultValue ty) = defaultValue ty := by cases ty <;> rfl
      rw [e]; exact this
  · rw [← hrho]; exact k
theorem Ev.newarray {aty : ArrayType} {b : Bool} {n : Int32} {k : Nat} (w : (Jvm.Cond.arrayClass (newarray.typeOf aty)).before (gA G) (gZ G) = true) (hb' : newarray.typeOf aty = kd b) (hd : decode (mB M) pc = .ok (.newarray aty, 2)) (hn0 : ¬ n < 0) (hk : n.toNatClampNeg = k) (hcap : k ≤ 67108864)
    (hn : Ev G M (pc + 2) L (.ref h.length :: S) (h ++ [.inr (b, List.replicate k 0)]) r) : Ev G M pc L (.int n :: S) h r := by
  subst hk
  have hs := hsl_push (gK G) h (.inr (b, List.replicate n.toNatClampNeg 0))
  refine Ev.gen (by simp) (by rw [hs]; exact Nat.le_add_right _ _) rfl hn ?_
  intro p e R s m args below meth c T locs cells slots X hx hZ hown hby hml hnm hLm hfr hlo hsz hR hFr hc hsq
  have el : (h ++ [(.inr (b, List.replicate n.toNatClampNeg 0) : MCell)]).length - h.length = 1 := by simp
  have es : hsl (gK G) (h ++ [.inr (b, List.replicate n.toNatClampNeg 0)]) - hsl (gK G) h = n.toNatClampNeg := by rw [hs]; simp [csl]
  rw [el] at hc
  rw [es] at hsq
  obtain ⟨T', h', cA, X', eT', E, A, st⟩ := newP X hx hZ w rfl (g := mkF m pc (arL G L) ((Value.int n :: S).map (tr G))) rfl (hb hby hd) rfl hn0 (cap := n.toNatClampNeg) (Nat.le_refl _) (by omega) hc hsq
  rw [el, es]
  have hrho : rho G h.length = T.heap.size := by rw [rho_new hR.2.1]; have := hR.1; have := hR.2.1; omega
  refine ⟨T', _, X', ?_, hFr, fun target k => st target ?_⟩
  · rw [eT']
    refine hR.push E ?_ ⟨_, hb' ▸ A, ?_⟩
    · have h1 := X'.heapSize
      have h2 : T.heap.size < h'.size := A.lt
      rw [eT'] at h1
      omega
    · have e0 : defaultValue (kd b) = .int 0 := by cases b <;> rfl
      show Array.replicate n.toNatClampNeg (defaultValue (kd b)) = _
      rw [e0]
      simp
  · rw [← hrho]; exact k
theorem Ev.initO {idx i : Nat} (w1 : (Jvm.Cond.methodLink (mN M).cls idx Lib.objectInit).before (gA G) (gZ G) = true) (w2 : (Jvm.Cond.instanceMethod Lib.objectInit).before (gA G) (gZ G) = true) (w3 : (Jvm.Cond.code Lib.objectInit ⟨#[0xb1]⟩ 1 none).before (gA G) (gZ G) = true)
    (hd : decode (mB M) pc = .ok (.invokespecial idx, 3)) (hf : 1 ≤ mF M) (hl : (S.map fun v => v.category).sum + 12 ≤ mW M) (hn : Ev G M (pc + 3) L S h r) : Ev G M pc L (.ref i :: S) h r := by
  refine Ev.same rfl hn ?_
  intro p e R s m args below meth c T locs cells slots X hx hZ hown hby hml hLm hfr hlo hR
  obtain ⟨T', X', e', st⟩ := RoadKit.initO X hx hZ hown w1 w2 w3 rfl (g := mkF m pc (arL G L) ((Value.ref i :: S).map (tr G))) rfl (by rw [hml, ← hLm]; simp [arL]) (a := rho G i) (rest := S.map (tr G)) rfl (hb hby hd) (Nat.le_trans hf hfr) (W := (S.map fun v => v.category).sum) (by rw [tr_cats]; show 2 * 0 + _ ≤ _; omega) (by omega)
  exact ⟨T', X', e', st⟩
/-! ### calls -/
def notMH (y : Mi) : Prop := (mN y).cls ≠ "java/lang/invoke/MethodHandle" ∧ (mN y).cls ≠ "java/lang/invoke/VarHandle"
theorem mapRev (G : Ctx) (args : List Value) : (args.reverse).map (tr G) = (args.map (tr G)).reverse := by simp
theorem vList (G : Ctx) (v : Option Value) (S : List Value) : (v.map (tr G)).toList ++ S.map (tr G) = (v.toList ++ S).map (tr G) := by cases v <;> simp
theorem back_of_evc {p : Program} {e : Env} {R : Room} {s : State} {args0 : Array Value} {below : List Frame} {y : Mi} {args : List Value} {r1 : Option Value × MHeap} {hr : Heap} {W : Nat} (hC : EvC G y args h r1) (hR : Rel G hr h) (hZ : (gZ G).Warmed39 s.vm)
    (wc : (Jvm.Cond.code (mN y) (mB y) (mL y) (mR y)).before (gA G) (gZ G) = true) (wz : (Jvm.Cond.initialized (mN y).cls).before (gA G) (gZ G) = true) (hf : mF y + 1 ≤ R.frames) (hl : W + (mL y + 11) + mW y ≤ R.locals) :
    Back (gL G) R p e below s args0 (mN y) 3 W (fun A a => a = (args.map (tr G)).toArray ∧ A.U.heap = hr ∧ A.cells + (r1.2.length - h.length) ≤ R.cells ∧ A.slots + (hsl (gK G) r1.2 - hsl (gK G) h) ≤ R.slots)
      (fun A _ v B => ∃ L, (v = r1.1.map (tr G) ∧ Fr (gN G) L ∧ Rel G B.U.heap r1.2) ∧ B.locs = A.locs ++ L ∧ B.cells = A.cells + (r1.2.length - h.length) ∧ B.slots = A.slots + (hsl (gK G) r1.2 - hsl (gK G) h)) :=
  backOf (Q := fun v hp L => v = r1.1.map (tr G) ∧ Fr (gN G) L ∧ Rel G hp r1.2) (rm := { frames := mF y, cells := r1.2.length - h.length, slots := hsl (gK G) r1.2 - hsl (gK G) h, locals := mW y })
    (hC.2 [] { frames := mF y, cells := r1.2.length - h.length, slots := hsl (gK G) r1.2 - hsl (gK G) h, locals := mW y } hr (Nat.le_refl _) (Nat.le_refl _) (Nat.le_refl _) (Nat.le_refl _) hR) hZ wc wz hf hl
/-- a private method of the class -/
theorem Ev.priv {y : Mi} {idx i : Nat} {args rest : List Value} {v : Option Value} {h1 : MHeap} {fs : List Value} (K : GOk G) (hcls : (mN y).cls = gC G) (hy : notMH y)
    (wl : (Jvm.Cond.methodLink (mN M).cls idx (mN y)).before (gA G) (gZ G) = true) (wi : (Jvm.Cond.instanceMethod (mN y)).before (gA G) (gZ G) = true) (wp : (Jvm.Cond.privateMethod (mN y)).before (gA G) (gZ G) = true)
    (wc : (Jvm.Cond.code (mN y) (mB y) (mL y) (mR y)).before (gA G) (gZ G) = true) (hlen : ∀ sig, parseMethodDescriptor (mN y).desc = some sig → args.length = sig.parameters.length)
    (hd : decode (mB M) pc = .ok (.invokevirtual idx, 3)) (hi : h[i]? = some (.inl fs)) (hC : EvC G y (.ref i :: args) h (v, h1)) (hfr : mF y + 1 ≤ mF M) (hlo : (rest.map fun v => v.category).sum + (mL y + 11) + mW y ≤ mW M)
    (hS : S = args.reverse ++ .ref i :: rest) (hn : Ev G M (pc + 3) L (v.toList ++ rest) h1 r) : Ev G M pc L S h r := by
  subst hS
  refine Ev.gen hC.1.1 hC.1.2 rfl hn ?_
  intro p e R s m args0 below meth c T locs cells slots X hx hZ hown hby hml hnm hLm hfr' hlo' hsz hR hFr hc hsq
  obtain ⟨e1, -, -⟩ := hR.2.2.2 i _ hi
  obtain ⟨cell, hcell, hobj⟩ := e1.cell
  have hwi : (Jvm.Cond.instanceMethod (mN y)).before args0 s = true := mvT hZ wi
  have hpr := Jvm.Cond.privateMethod_at (mvP hZ wp (args := #[]))
  have hsel : (Jvm.Cond.selects (mN y).cls (mN y) (mN y)).before args0 s = true := by
    obtain ⟨c0, k0', q1, q2, -, q4, -⟩ := Jvm.Cond.instantiable_spec (mvT hZ K.2.2.1 (args := #[]) (s := s))
    refine selects_self_of_private (c := c0) (k := k0') (by rw [hcls]; exact q1) q2 ?_ hpr hwi hy
    simp only [Bool.or_eq_false_iff] at q4
    exact q4.1
  obtain ⟨v', vm1, ⟨T', L', k', n'⟩, -, X', ⟨Lc, ⟨rfl, hF', hR'⟩, l1, l2, l3⟩, st⟩ := X.privateBack hx (y := mN y) hown (mvT hZ wl) hwi hsel hpr (mvT hZ wc) hy
    (back_of_evc (W := (rest.map fun v => v.category).sum) hC hR hZ wc (hcls ▸ K.2.2.2) (Nat.le_trans hfr hfr') (Nat.le_trans hlo hlo')) (g := mkF m pc (arL G L) ((args.reverse ++ Value.ref i :: rest).map (tr G))) rfl (by rw [hml, ← hLm]; simp [arL]) (Steps.refl _) hcell hobj
    (argsL := args.map (tr G)) (rest := rest.map (tr G)) (fun sig hsig => by rw [List.length_map]; exact hlen sig hsig) (by simp [tr]) (by rw [tr_cats]; show 2 * 0 + _ ≤ _; omega) (hb hby hd) (fun vm1 hW1 => ⟨rfl, rfl, hc, hsq⟩)
  dsimp only [Pt.U, Pt.locs, Pt.cells, Pt.slots] at X' l1 l2 l3 st hR'
  subst l1 l2 l3
  refine ⟨T', _, X', hR', hFr.app hF', fun target k => st.trans ?_⟩
  rw [vList]
  exact k
/-- a method of the class that no one overrides -/
theorem Ev.virt {y : Mi} {idx i : Nat} {args rest : List Value} {v : Option Value} {h1 : MHeap} {fs : List Value} (K : GOk G) (hcls : (mN y).cls = gC G) (hy : notMH y)
    (wl : (Jvm.Cond.methodLink (mN M).cls idx (mN y)).before (gA G) (gZ G) = true) (wd : (Jvm.Cond.declares (mN y)).before (gA G) (gZ G) = true) (wi : (Jvm.Cond.instanceMethod (mN y)).before (gA G) (gZ G) = true) (ws : (Jvm.Cond.selects (gC G) (mN y) (mN y)).before (gA G) (gZ G) = true)
    (wc : (Jvm.Cond.code (mN y) (mB y) (mL y) (mR y)).before (gA G) (gZ G) = true) (hlen : ∀ sig, parseMethodDescriptor (mN y).desc = some sig → args.length = sig.parameters.length)
    (hd : decode (mB M) pc = .ok (.invokevirtual idx, 3)) (hi : h[i]? = some (.inl fs)) (hC : EvC G y (.ref i :: args) h (v, h1)) (hfr : mF y + 1 ≤ mF M) (hlo : (rest.map fun v => v.category).sum + (mL y + 11) + mW y ≤ mW M)
    (hS : S = args.reverse ++ .ref i :: rest) (hn : Ev G M (pc + 3) L (v.toList ++ rest) h1 r) : Ev G M pc L S h r := by
  subst hS
  refine Ev.gen hC.1.1 hC.1.2 rfl hn ?_
  intro p e R s m args0 below meth c T locs cells slots X hx hZ hown hby hml hnm hLm hfr' hlo' hsz hR hFr hc hsq
  obtain ⟨e1, -, -⟩ := hR.2.2.2 i _ hi
  obtain ⟨cq, kq, qa, qb, qc⟩ := isOf (T := T) hZ rfl e1
  obtain ⟨v', vm1, ⟨T', L', k', n'⟩, -, X', ⟨Lc, ⟨rfl, hF', hR'⟩, l1, l2, l3⟩, st⟩ := X.virtualBack hx (y := mN y) (z := mN y) hown (mvT hZ wl) (mvT hZ wd) (notFace_of_selects (args := #[]) (mvT hZ ws)) (mvT hZ ws) (mvT hZ wi) hy
    (back_of_evc (W := (rest.map fun v => v.category).sum) hC hR hZ wc (hcls ▸ K.2.2.2) (Nat.le_trans hfr hfr') (Nat.le_trans hlo hlo')) qa qc (g := mkF m pc (arL G L) ((args.reverse ++ Value.ref i :: rest).map (tr G))) rfl (by rw [hml, ← hLm]; simp [arL]) (Steps.refl _)
    (argsL := args.map (tr G)) (rest := rest.map (tr G)) (fun sig hsig => by rw [List.length_map]; exact hlen sig hsig) (by simp [tr]) (by rw [tr_cats]; show 2 * 0 + _ ≤ _; omega) (hb hby hd) (fun vm1 hW1 => ⟨rfl, rfl, hc, hsq⟩)
  dsimp only [Pt.U, Pt.locs, Pt.cells, Pt.slots] at X' l1 l2 l3 st hR'
  subst l1 l2 l3
  refine ⟨T', _, X', hR', hFr.app hF', fun target k => st.trans ?_⟩
  rw [vList]
  exact k
/-- a constructor -/
theorem Ev.ctor {y : Mi} {idx i : Nat} {args rest : List Value} {v : Option Value} {h1 : MHeap} (hy1 : (mN y).name = "<init>") (hret : mR y = none) (hy : notMH y)
    (wl : (Jvm.Cond.methodLink (mN M).cls idx (mN y)).before (gA G) (gZ G) = true) (wi : (Jvm.Cond.instanceMethod (mN y)).before (gA G) (gZ G) = true)
    (wc : (Jvm.Cond.code (mN y) (mB y) (mL y) (mR y)).before (gA G) (gZ G) = true) (wz : (Jvm.Cond.initialized (mN y).cls).before (gA G) (gZ G) = true) (hlen : ∀ sig, parseMethodDescriptor (mN y).desc = some sig → args.length = sig.parameters.length)
    (hd : decode (mB M) pc = .ok (.invokespecial idx, 3)) (hC : EvC G y (.ref i :: args) h (v, h1)) (hfr : mF y + 1 ≤ mF M) (hlo : (rest.map fun v => v.category).sum + (mL y + 11) + mW y ≤ mW M)
    (hS : S = args.reverse ++ .ref i :: rest) (hn : Ev G M (pc + 3) L (v.toList ++ rest) h1 r) : Ev G M pc L S h r := by
  subst hS
  refine Ev.gen hC.1.1 hC.1.2 rfl hn ?_
  intro p e R s m args0 below meth c T locs cells slots X hx hZ hown hby hml hnm hLm hfr' hlo' hsz hR hFr hc hsq
  obtain ⟨v', vm1, ⟨T', L', k', n'⟩, -, X', ⟨Lc, ⟨rfl, hF', hR'⟩, l1, l2, l3⟩, st⟩ := X.specialBack hx (y := mN y) hy1 hown (mvT hZ wl) (mvT hZ wi) (mvT hZ (hret ▸ wc)) hy
    (back_of_evc (W := (rest.map fun v => v.category).sum) hC hR hZ wc wz (Nat.le_trans hfr hfr') (Nat.le_trans hlo hlo')) (g := mkF m pc (arL G L) ((args.reverse ++ Value.ref i :: rest).map (tr G))) rfl (by rw [hml, ← hLm]; simp [arL]) (Steps.refl _)
    (a := rho G i) (argsL := args.map (tr G)) (rest := rest.map (tr G)) (fun sig hsig => by rw [List.length_map]; exact hlen sig hsig) (by simp [tr]) (by rw [tr_cats]; show 2 * 0 + _ ≤ _; omega) (hb hby hd) (fun vm1 hW1 => ⟨rfl, rfl, hc, hsq⟩)
  dsimp only [Pt.U, Pt.locs, Pt.cells, Pt.slots] at X' l1 l2 l3 st hR'
  subst l1 l2 l3
  refine ⟨T', _, X', hR', hFr.app hF', fun target k => st.trans ?_⟩
  rw [vList]
  exact k
/-- a static method -/
theorem Ev.stat {y : Mi} {idx : Nat} {args rest : List Value} {v : Option Value} {h1 : MHeap} (hy : notMH y)
    (wl : (Jvm.Cond.methodLink (mN M).cls idx (mN y)).before (gA G) (gZ G) = true) (wst : (Jvm.Cond.static (mN y)).before (gA G) (gZ G) = true) (wz : (Jvm.Cond.initialized (mN y).cls).before (gA G) (gZ G) = true)
    (wc : (Jvm.Cond.code (mN y) (mB y) (mL y) (mR y)).before (gA G) (gZ G) = true) (hlen : ∀ sig, parseMethodDescriptor (mN y).desc = some sig → args.length = sig.parameters.length)
    (hd : decode (mB M) pc = .ok (.invokestatic idx, 3)) (hC : EvC G y args h (v, h1)) (hfr : mF y + 1 ≤ mF M) (hlo : (rest.map fun v => v.category).sum + (mL y + 11) + mW y ≤ mW M)
    (hS : S = args.reverse ++ rest) (hn : Ev G M (pc + 3) L (v.toList ++ rest) h1 r) : Ev G M pc L S h r := by
  subst hS
  refine Ev.gen hC.1.1 hC.1.2 rfl hn ?_
  intro p e R s m args0 below meth c T locs cells slots X hx hZ hown hby hml hnm hLm hfr' hlo' hsz hR hFr hc hsq
  obtain ⟨v', vm1, ⟨T', L', k', n'⟩, -, X', ⟨Lc, ⟨rfl, hF', hR'⟩, l1, l2, l3⟩, st⟩ := Jvm.LawKit.callS X hx (y := mN y) hown (mvT hZ wl) (mvT hZ wst) (mvT hZ wz) (mvT hZ wc) hy
    (back_of_evc (W := (rest.map fun v => v.category).sum) hC hR hZ wc wz (Nat.le_trans hfr hfr') (Nat.le_trans hlo hlo')) (g := mkF m pc (arL G L) ((args.reverse ++ rest).map (tr G))) rfl (by rw [hml, ← hLm]; simp [arL])
    (argsL := args.map (tr G)) (rest := rest.map (tr G)) (fun sig hsig => by rw [List.length_map]; exact hlen sig hsig) (by simp) (by rw [tr_cats]; show 2 * 0 + _ ≤ _; omega) (hb hby hd) (fun vm1 hW1 => ⟨rfl, rfl, hc, hsq⟩)
  dsimp only [Pt.U, Pt.locs, Pt.cells, Pt.slots] at X' l1 l2 l3 st hR'
  subst l1 l2 l3
  refine ⟨T', _, X', hR', hFr.app hF', fun target k => st target ?_⟩
  rw [vList]
  exact k
/-! ### returns -/
theorem Ev.ret {v : Option Value} (st : ∀ {p : Program} {e : Env} {R : Room} {s : State} {m : MethodId} {args : Array Value} {below : List Frame} {meth : Method} {c : Code} {T : State} {locs : List Loc} {cells slots : Nat},
      Stand p (gL G) e R s m args below meth c T locs cells slots → p.tables.exec = Jvm.exec → c.code = mB M → meth.sig.returnType = mR M → ∀ fs,
      (∀ (f : JFrame) (acts : List Action), f.method = m → f.locked = none → f.entered = [] → (doReturn e (T.setTop f) acts (v.map (tr G))).1 = T.setFrames fs) → Steps p.tables e below (T.setTop (mkF m pc (arL G L) (S.map (tr G)))) (T.setFrames fs)) :
    Ev G M pc L S h (v, h) := by
  refine ⟨⟨Nat.le_refl _, Nat.le_refl _⟩, ?_⟩
  intro p e R s m args below meth c T locs cells slots X hx hZ hown hby hml hret hnm hLm hfr hlo hsz hR hF hc hs
  refine ⟨T, locs, ?_, hR, hF, st X hx hby hret⟩
  rw [Nat.sub_self, Nat.sub_self, Nat.add_zero, Nat.add_zero]
  exact X
theorem Ev.ireturn {z : Int32} (hret : mR M = some .int) (hd : decode (mB M) pc = .ok (.ireturn, 1)) : Ev G M pc L (.int z :: S) h (some (.int z), h) :=
  Ev.ret fun X hx hby hr fs hl => retOut X hx (hr.trans hret) rfl (Or.inl ⟨rfl, Or.inl rfl, z, rfl⟩) (hb hby hd) hl
theorem Ev.zreturn {z : Int32} (hret : mR M = some .boolean) (hd : decode (mB M) pc = .ok (.ireturn, 1)) : Ev G M pc L (.int z :: S) h (some (.int (z &&& 1)), h) :=
  Ev.ret fun X hx hby hr fs hl => retN X hx (t := .boolean) (hr.trans hret) (Or.inl rfl) (hb hby hd) hl
theorem Ev.lreturn {z : Int64} (hret : mR M = some .long) (hd : decode (mB M) pc = .ok (.lreturn, 1)) : Ev G M pc L (.long z :: S) h (some (.long z), h) :=
  Ev.ret fun X hx hby hr fs hl => retOut X hx (hr.trans hret) rfl (Or.inr (Or.inl ⟨rfl, rfl, z, rfl⟩)) (hb hby hd) hl
theorem Ev.vreturn (hret : mR M = none) (hd : decode (mB M) pc = .ok (.return_, 1)) : Ev G M pc L [] h (none, h) :=
  Ev.ret fun X hx hby hr fs hl => X.returnOut hx (hr.trans hret) (hb hby hd) hl
/-! ### entering -/
def margs : List Value → List Slot
  | [] => []
  | v :: vs => if v.category = 2 then .val v :: .second :: margs vs else .val v :: margs vs
theorem margs_fold (vs : List Value) : ∀ acc : Array Slot, vs.foldl (init := acc) (fun acc v => if v.category = 2 then (acc.push (.val v)).push .second else acc.push (.val v)) = acc ++ (margs vs).toArray := by
  induction vs with
  | nil => intro acc; simp [margs]
  | cons v vs ih =>
    intro acc
    rw [List.foldl_cons, ih]
    by_cases h : v.category = 2
    · simp [margs, h]
    · simp [margs, h]
theorem margs_map (G : Ctx) : ∀ vs : List Value, margs (vs.map (tr G)) = (margs vs).map (trS G)
  | [] => rfl
  | v :: vs => by
    have ih := margs_map G vs
    by_cases h : v.category = 2
    · simp only [List.map_cons, margs, tr_cat, h, if_true, ih]; rfl
    · simp only [List.map_cons, margs, tr_cat, h, if_false, ih]; rfl
def ment (args : List Value) (k : Nat) : List Slot := margs args ++ List.replicate (k - (margs args).length) .unset
theorem entry_eq (G : Ctx) (m : MethodId) (args : List Value) (k : Nat) : entryFrame m (args.map (tr G)).toArray k = mkF m 0 (arL G (ment args k)) [] := by
  have e : argsToLocals (args.map (tr G)).toArray k = arL G (ment args k) := by
    unfold argsToLocals arL ment
    have q := margs_fold (args.map (tr G)) #[]
    rw [List.foldl_toArray']
    · rw [q, margs_map]
      simp [trS]
    · simp
  unfold entryFrame
  rw [e]
theorem EvC.enter {y : Mi} {args : List Value} {L0 : List Slot} (hp : plainFor (mN y) = true) (hv : mR y = none → r.1 = none) (hL : ment args (mL y) = L0) (hlen : L0.length = mL y) (hn : Ev G y 0 L0 [] h r) : EvC G y args h r := by
  subst hL
  refine ⟨hn.1, fun ws R hr hf hl hc hs hR => ?_⟩
  refine MetFree.of_bodySF hp hisR ?_
  intro p e s m args' below meth c s₁ Bd hml0 hP hK
  obtain ⟨rfl, hZ, hh⟩ := hP
  have X0 : Stand p (gL G) e R s m _ below meth c s₁ [] 0 0 := Stand.of_body Bd
  have e0 : s₁.heap = hr := by rw [← hh, Bd.state]; rfl
  obtain ⟨T', locs', X', R', F', st⟩ := hn.2 p e R s m _ below meth c s₁ [] 0 0 X0 Bd.exec hZ (findClass_of_methodNamed Bd.named) Bd.bytes hml0 Bd.returns (name_of_methodNamed Bd.named Bd.method).1 hlen hf hl (by rw [e0, hh]; rfl) (by rw [e0]; exact hR) (Fr.nil _) (by omega) (by omega)
  rw [Nat.zero_add, Nat.zero_add] at X'
  obtain ⟨fs, hret, hrun, hended, hW, hsame⟩ := X'.leave (v := r.1.map (tr G)) (fun q => by rw [hv (Bd.returns.symm.trans q)]; rfl)
  refine ⟨_, _, castTop (entry_eq G m args (mL y)) (st fs hret), hrun, hended, _, _, rfl, ⟨rfl, F', ?_⟩, ⟨_, rfl⟩, hW, hsame⟩
  exact R'
end Rules
end Jvm.Own
namespace Jvm.Own
open Sem ClassFile Op Lib Jvm.Stand Jvm.Free Jvm.LawKit Jvm.RoadKit
/-! ## 4. An object as two functions: its ints by the field's number, its arrays by the field's number and the place -/
abbrev St := (Nat → Int32) × (Nat → Nat → Int32)
def setI (s : St) (j : Nat) (z : Int32) : St := (fun k => if k = j then z else s.1 k, s.2)
def setA (s : St) (j i : Nat) (z : Int32) : St := (s.1, fun k x => if k = j ∧ x = i then z else s.2 k x)
def zeroS : St := (fun _ => 0, fun _ _ => 0)
theorem setI_1 (s : St) (j : Nat) (z : Int32) (k : Nat) : (setI s j z).1 k = if k = j then z else s.1 k := rfl
theorem setI_2 (s : St) (j : Nat) (z : Int32) : (setI s j z).2 = s.2 := rfl
theorem setA_1 (s : St) (j i : Nat) (z : Int32) : (setA s j i z).1 = s.1 := rfl
theorem setA_2 (s : St) (j i : Nat) (z : Int32) (k x : Nat) : (setA s j i z).2 k x = if k = j ∧ x = i then z else s.2 k x := rfl
def ix (j : Int32) : Nat := j.toNatClampNeg
/-- the place j lies in an array of n -/
def inb (j : Int32) (n : Nat) : Prop := ¬ j < 0 ∧ ix j < n
instance (j : Int32) (n : Nat) : Decidable (inb j n) := inferInstanceAs (Decidable (_ ∧ _))
def bnd {α β : Type} (x : α) (f : α → β) : β := f x
theorem bnd_eq {α β : Type} (x : α) (f : α → β) : bnd x f = f x := rfl
def tab (n : Nat) (f : Nat → Int32) : List Int32 := (List.range n).map f
theorem tab_len (n : Nat) (f : Nat → Int32) : (tab n f).length = n := by simp [tab]
theorem tab_get {n : Nat} {f : Nat → Int32} {i : Nat} (h : i < n) : (tab n f)[i]? = some (f i) := by simp [tab, h]
theorem tab_set {n : Nat} {f : Nat → Int32} {i : Nat} {z : Int32} : (tab n f).set i z = tab n (fun x => if x = i then z else f x) := by
  apply List.ext_getElem?
  intro k
  rw [List.getElem?_set]
  by_cases h : i = k
  · subst h
    by_cases q : i < n
    · simp [tab, q]
    · simp [tab, q]
  · by_cases q : k < n
    · simp [tab, q, h, Ne.symm h]
    · simp [tab, q, h]
theorem tab_zero (n : Nat) : tab n (fun _ => 0) = List.replicate n 0 := by
  apply List.ext_getElem?
  intro k
  by_cases q : k < n <;> simp [tab, q]
theorem tab_of (xs : List Int32) : xs = tab xs.length (fun i => xs.getD i 0) := by
  apply List.ext_getElem?
  intro k
  by_cases q : k < xs.length
  · simp [tab, q]
  · simp [tab, q]
def isA : FieldType → Bool
  | .array _ => true
  | _ => false
def isB : FieldType → Bool
  | .boolean => true
  | _ => false
def fv1 (r : Nat → Nat) (s : St) (j : Nat) (f : Fd) : Value := match f.2.2 with
  | .array _ => .ref (r j)
  | _ => .int (s.1 j)
def fvA (r : Nat → Nat) (s : St) : Nat → List Fd → List Value
  | _, [] => []
  | j, f :: fs => fv1 r s j f :: fvA r s (j + 1) fs
theorem fvA_get (r : Nat → Nat) (s : St) : ∀ (F : List Fd) (k j : Nat), (fvA r s k F)[j]? = (F[j]?).map (fv1 r s (k + j))
  | [], _, _ => by simp [fvA]
  | f :: fs, k, 0 => by simp [fvA]
  | f :: fs, k, j + 1 => by
    have := fvA_get r s fs (k + 1) j
    simp only [fvA, List.getElem?_cons_succ, this]
    rw [show k + 1 + j = k + (j + 1) by omega]
theorem fvA_len (r : Nat → Nat) (s : St) : ∀ (F : List Fd) (k : Nat), (fvA r s k F).length = F.length
  | [], _ => rfl
  | f :: fs, k => by simp [fvA, fvA_len r s fs (k + 1)]
theorem fvA_set {r : Nat → Nat} {s : St} {F : List Fd} {j : Nat} {f : Fd} {z : Int32} (hF : F[j]? = some f) (ht : isA f.2.2 = false) : (fvA r s 0 F).set j (.int z) = fvA r (setI s j z) 0 F := by
  apply List.ext_getElem?
  intro k
  rw [List.getElem?_set, fvA_get, fvA_get, Nat.zero_add]
  by_cases h : j = k
  · subst h
    simp only [if_true, fvA_len, (List.getElem?_eq_some_iff.mp hF).1, hF, Option.map_some]
    congr 1
    unfold fv1
    split
    · rename_i t e; rw [e] at ht; cases ht
    · simp [setI_1]
  · simp only [h, if_false]
    cases F[k]? with
    | none => rfl
    | some g =>
      simp only [Option.map_some]
      congr 1
      unfold fv1
      split
      · rfl
      · rw [setI_1, if_neg (Ne.symm h)]
theorem fvA_same (r : Nat → Nat) {s s' : St} (h : s.1 = s'.1) : ∀ (F : List Fd) (k : Nat), fvA r s k F = fvA r s' k F
  | [], _ => rfl
  | f :: fs, k => by
    simp only [fvA, fvA_same r h fs (k + 1)]
    congr 1
    unfold fv1
    split
    · rfl
    · rw [h]
/-- the heap K s shows the object at o, its arrays at r, as s tells -/
def View (G : Ctx) (Ln : Nat → Nat) (K : St → MHeap) (o : Nat) (r : Nat → Nat) : Prop :=
  k0 G ≤ o ∧ (∀ s, (K s)[o]? = some (.inl (fvA r s 0 (gF G)))) ∧
  (∀ s j f z, (gF G)[j]? = some f → isA f.2.2 = false → (K s).set o (.inl ((fvA r s 0 (gF G)).set j (.int z))) = K (setI s j z)) ∧
  (∀ j n d t, (gF G)[j]? = some (n, d, .array t) → k0 G ≤ r j ∧ (∀ s, (K s)[r j]? = some (.inr (isB t, tab (Ln j) (s.2 j)))) ∧ ∀ s i z, i < Ln j → (K s).set (r j) (.inr (isB t, (tab (Ln j) (s.2 j)).set i z)) = K (setA s j i z))
section ViewRules
variable {G : Ctx} {M : Mi} {pc : Nat} {L : List Slot} {S : List Value} {rr : Option Value × MHeap} {Ln : Nat → Nat} {K : St → MHeap} {o : Nat} {r : Nat → Nat} {s : St}
theorem Ev.gI {idx j : Nat} {n d : String} {ty : FieldType} (V : View G Ln K o r) (w : (Jvm.Cond.fieldLink (mN M).cls idx (gC G) n d).before (gA G) (gZ G) = true) (hd : decode (mB M) pc = .ok (.getfield idx, 3)) (hF : (gF G)[j]? = some (n, d, ty)) (ht : isA ty = false)
    (hn : Ev G M (pc + 3) L (.int (s.1 j) :: S) (K s) rr) : Ev G M pc L (.ref o :: S) (K s) rr :=
  Ev.getfield w hd hF (V.2.1 s) (v := .int (s.1 j)) (by rw [fvA_get, hF, Nat.zero_add]; simp only [Option.map_some, fv1]; cases ty <;> first | rfl | cases ht) hn
theorem Ev.gAr {idx j : Nat} {n d : String} {t : FieldType} (V : View G Ln K o r) (w : (Jvm.Cond.fieldLink (mN M).cls idx (gC G) n d).before (gA G) (gZ G) = true) (hd : decode (mB M) pc = .ok (.getfield idx, 3)) (hF : (gF G)[j]? = some (n, d, .array t))
    (hn : Ev G M (pc + 3) L (.ref (r j) :: S) (K s) rr) : Ev G M pc L (.ref o :: S) (K s) rr :=
  Ev.getfield w hd hF (V.2.1 s) (v := .ref (r j)) (by rw [fvA_get, hF, Nat.zero_add]; rfl) hn
theorem Ev.pI {idx j : Nat} {n d : String} {z : Int32} (V : View G Ln K o r) (Kk : GOk G) (w : (Jvm.Cond.fieldLink (mN M).cls idx (gC G) n d).before (gA G) (gZ G) = true)
    (wl : (Jvm.Cond.lays (gC G) (gC G) n d).before (gA G) (gZ G) = true ∨ ((Jvm.Cond.laysFinal (gC G) (gC G) n d).before (gA G) (gZ G) = true ∧ (mN M).cls = gC G ∧ (mN M).name = "<init>"))
    (hd : decode (mB M) pc = .ok (.putfield idx, 3)) (hF : (gF G)[j]? = some (n, d, .int)) (hn : Ev G M (pc + 3) L S (K (setI s j z)) rr) : Ev G M pc L (.int z :: .ref o :: S) (K s) rr := by
  refine Ev.putfield Kk w wl hd hF V.1 (V.2.1 s) (v' := .int z) rfl ?_
  rw [V.2.2.1 s j _ z hF rfl]; exact hn
theorem Ev.pZ {idx j : Nat} {n d : String} {z : Int32} (V : View G Ln K o r) (Kk : GOk G) (w : (Jvm.Cond.fieldLink (mN M).cls idx (gC G) n d).before (gA G) (gZ G) = true)
    (wl : (Jvm.Cond.lays (gC G) (gC G) n d).before (gA G) (gZ G) = true ∨ ((Jvm.Cond.laysFinal (gC G) (gC G) n d).before (gA G) (gZ G) = true ∧ (mN M).cls = gC G ∧ (mN M).name = "<init>"))
    (hd : decode (mB M) pc = .ok (.putfield idx, 3)) (hF : (gF G)[j]? = some (n, d, .boolean)) (hn : Ev G M (pc + 3) L S (K (setI s j (z &&& 1))) rr) : Ev G M pc L (.int z :: .ref o :: S) (K s) rr := by
  refine Ev.putfield Kk w wl hd hF V.1 (V.2.1 s) (v' := .int (z &&& 1)) rfl ?_
  rw [V.2.2.1 s j _ _ hF rfl]; exact hn
theorem Ev.ial {j : Nat} {n d : String} {i : Int32} {N : Nat} (V : View G Ln K o r) (hF : (gF G)[j]? = some (n, d, .array .int)) (hN : Ln j = N) (hd : decode (mB M) pc = .ok (.iaload, 1)) (hb : inb i N) (hn : Ev G M (pc + 1) L (.int (s.2 j (ix i)) :: S) (K s) rr) : Ev G M pc L (.int i :: .ref (r j) :: S) (K s) rr :=
  Ev.iaload hd ((V.2.2.2 j n d _ hF).2.1 s) hb.1 (tab_get (hN ▸ hb.2)) hn
theorem Ev.bal {j : Nat} {n d : String} {i : Int32} {N : Nat} (V : View G Ln K o r) (hF : (gF G)[j]? = some (n, d, .array .boolean)) (hN : Ln j = N) (hd : decode (mB M) pc = .ok (.baload, 1)) (hb : inb i N) (hn : Ev G M (pc + 1) L (.int (s.2 j (ix i)) :: S) (K s) rr) : Ev G M pc L (.int i :: .ref (r j) :: S) (K s) rr :=
  Ev.baload hd ((V.2.2.2 j n d _ hF).2.1 s) hb.1 (tab_get (hN ▸ hb.2)) hn
theorem Ev.ias {j : Nat} {n d : String} {i z : Int32} {N : Nat} (V : View G Ln K o r) (hF : (gF G)[j]? = some (n, d, .array .int)) (hN : Ln j = N) (hd : decode (mB M) pc = .ok (.iastore, 1)) (hb : inb i N) (hn : Ev G M (pc + 1) L S (K (setA s j (ix i) z)) rr) : Ev G M pc L (.int z :: .int i :: .ref (r j) :: S) (K s) rr := by
  obtain ⟨q1, q2, q3⟩ := V.2.2.2 j n d _ hF
  refine Ev.iastore hd q1 (q2 s) hb.1 (by rw [tab_len, hN]; exact hb.2) ?_
  have := q3 s (ix i) z (hN ▸ hb.2)
  exact this ▸ hn
theorem Ev.bas {j : Nat} {n d : String} {i z : Int32} {N : Nat} (V : View G Ln K o r) (hF : (gF G)[j]? = some (n, d, .array .boolean)) (hN : Ln j = N) (hd : decode (mB M) pc = .ok (.bastore, 1)) (hb : inb i N) (hn : Ev G M (pc + 1) L S (K (setA s j (ix i) (z &&& 1))) rr) : Ev G M pc L (.int z :: .int i :: .ref (r j) :: S) (K s) rr := by
  obtain ⟨q1, q2, q3⟩ := V.2.2.2 j n d _ hF
  refine Ev.bastore hd q1 (q2 s) hb.1 (by rw [tab_len, hN]; exact hb.2) ?_
  have := q3 s (ix i) (z &&& 1) (hN ▸ hb.2)
  exact this ▸ hn
theorem Ev.sal {h : MHeap} {i : Int32} {N k : Nat} {f : Nat → Int32} (hs : h[k]? = some (.inr (false, tab N f))) (hd : decode (mB M) pc = .ok (.iaload, 1)) (hb : inb i N) (hn : Ev G M (pc + 1) L (.int (f (ix i)) :: S) h rr) : Ev G M pc L (.int i :: .ref k :: S) h rr :=
  Ev.iaload hd hs hb.1 (tab_get hb.2) hn
theorem Ev.sln {h : MHeap} {N k : Nat} {f : Nat → Int32} (hs : h[k]? = some (.inr (false, tab N f))) (hd : decode (mB M) pc = .ok (.arraylength, 1)) (hn : Ev G M (pc + 1) L (.int N.toInt32 :: S) h rr) : Ev G M pc L (.ref k :: S) h rr :=
  Ev.arraylength hd hs (by rw [tab_len]; exact hn)
theorem Ev.zret1 {h : MHeap} (hret : mR M = some .boolean) (hd : decode (mB M) pc = .ok (.ireturn, 1)) : Ev G M pc L (.int 1 :: S) h (some (.int 1), h) := Ev.zreturn hret hd
theorem Ev.zret0 {h : MHeap} (hret : mR M = some .boolean) (hd : decode (mB M) pc = .ok (.ireturn, 1)) : Ev G M pc L (.int 0 :: S) h (some (.int 0), h) := Ev.zreturn hret hd
/-- a slot over which an int may be stored at once -/
def one1 : Slot → Bool
  | .unset => true
  | .val v => v.category == 1
  | .second => false
theorem mst_one {l : List Slot} {i : Nat} {v : Value} {o : Slot} (ho : l[i]? = some o) (h1 : one1 o = true) (hv : v.category = 1) : mst l i v = some (l.set i (.val v)) := by
  have hlt := (List.getElem?_eq_some_iff.mp ho).1
  have e : lstoreSelf l i v = some (l.set i (.val v)) := by simp [lstoreSelf, lsetAt, hlt, hv]
  unfold mst
  rw [ho]
  cases o with
  | unset => exact e
  | second => cases h1
  | val w =>
    have : w.category = 1 := by simpa [one1] using h1
    simp only [this]
    exact e
theorem Ev.istD {k : Nat} {v : Int32} {L' : List Slot} {o : Slot} {h : MHeap} (hd : decode (mB M) pc = .ok (.istore k, 2)) (ho : L[k]? = some o) (h1 : one1 o = true) (hl : L.set k (.val (.int v)) = L') (hn : Ev G M (pc + 2) L' S h rr) : Ev G M pc L (.int v :: S) h rr :=
  Ev.istore hd (by rw [mst_one ho h1 rfl, hl]) hn
theorem Ev.istDN {k : Fin 4} {v : Int32} {L' : List Slot} {o : Slot} {h : MHeap} (hd : decode (mB M) pc = .ok (.istore_n k, 1)) (ho : L[k.val]? = some o) (h1 : one1 o = true) (hl : L.set k.val (.val (.int v)) = L') (hn : Ev G M (pc + 1) L' S h rr) : Ev G M pc L (.int v :: S) h rr :=
  Ev.istoreN hd (by rw [mst_one ho h1 rfl, hl]) hn
/-- a pair of slots over which a long may be stored at once -/
def two2 (a b : Slot) : Prop := (one1 a = true ∧ one1 b = true) ∨ (∃ x, a = .val (.long x) ∧ b = .second)
theorem set_set2 {l : List Slot} {i : Nat} {a b c : Slot} : ((l.set (i + 1) a).set i b).set (i + 1) c = (l.set i b).set (i + 1) c := by
  rw [List.set_comm _ _ (by omega : i + 1 ≠ i), List.set_set]
theorem mst_two {l : List Slot} {i : Nat} {v : Int64} {o o' : Slot} (ho : l[i]? = some o) (ho' : l[i + 1]? = some o') (h2 : two2 o o') : mst l i (.long v) = some ((l.set i (.val (.long v))).set (i + 1) .second) := by
  have hlt := (List.getElem?_eq_some_iff.mp ho).1
  have hlt' := (List.getElem?_eq_some_iff.mp ho').1
  rcases h2 with ⟨h1, h1'⟩ | ⟨x, rfl, rfl⟩
  · have e : lstoreSelf l i (.long v) = some ((l.set i (.val (.long v))).set (i + 1) .second) := by
      have q : (l.set i (.val (.long v)))[i + 1]? = some o' := by rw [List.getElem?_set_ne (by omega)]; exact ho'
      have hcat : (Value.long v).category = 2 := rfl
      simp only [lstoreSelf, lsetAt, hlt, if_true, hcat, q]
      cases o' with
      | unset => simp [hlt']
      | second => cases h1'
      | val w =>
        have : w.category = 1 := by simpa [one1] using h1'
        simp [this, hlt']
    unfold mst
    rw [ho]
    cases o with
    | unset => exact e
    | second => cases h1
    | val w =>
      have : w.category = 1 := by simpa [one1] using h1
      simp only [this]
      exact e
  · unfold mst
    rw [ho]
    have q : ((l.set (i + 1) Slot.unset).set i (.val (.long v)))[i + 1]? = some .unset := by
      rw [List.getElem?_set_ne (by omega), List.getElem?_set_self hlt']
    simp only [Value.category, if_true, lsetAt, hlt', lstoreSelf, List.length_set, hlt, q, set_set2]
theorem Ev.lstD {k : Nat} {v : Int64} {L' : List Slot} {o o' : Slot} {h : MHeap} (hd : decode (mB M) pc = .ok (.lstore k, 2)) (ho : L[k]? = some o) (ho' : L[k + 1]? = some o') (h2 : two2 o o') (hl : (L.set k (.val (.long v))).set (k + 1) .second = L') (hn : Ev G M (pc + 2) L' S h rr) : Ev G M pc L (.long v :: S) h rr :=
  Ev.lstore hd (by rw [mst_two ho ho' h2, hl]) hn
theorem Ev.lstDN {k : Fin 4} {v : Int64} {L' : List Slot} {o o' : Slot} {h : MHeap} (hd : decode (mB M) pc = .ok (.lstore_n k, 1)) (ho : L[k.val]? = some o) (ho' : L[k.val + 1]? = some o') (h2 : two2 o o') (hl : (L.set k.val (.val (.long v))).set (k.val + 1) .second = L') (hn : Ev G M (pc + 1) L' S h rr) : Ev G M pc L (.long v :: S) h rr :=
  Ev.lstoreN hd (by rw [mst_two ho ho' h2, hl]) hn
end ViewRules
/-! ## 5. One object among others -/
/-- al: the array fields in the order in which the constructor makes them, each with 'of booleans' -/
def rA (o : Nat) (al : List (Nat × Bool)) (j : Nat) : Nat := o + 1 + al.findIdx (fun q => q.1 == j)
def arr1 (Ln : Nat → Nat) (s : St) (q : Nat × Bool) : MCell := .inr (q.2, tab (Ln q.1) (s.2 q.1))
def KO (F : List Fd) (al : List (Nat × Bool)) (Ln : Nat → Nat) (o : Nat) (s : St) : MHeap := .inl (fvA (rA o al) s 0 F) :: al.map (arr1 Ln s)
def KH (F : List Fd) (al : List (Nat × Bool)) (Ln : Nat → Nat) (pre post : MHeap) (s : St) : MHeap := pre ++ (KO F al Ln pre.length s ++ post)
def alOk (F : List Fd) (al : List (Nat × Bool)) : Bool := (List.range F.length).all (fun j => match F[j]? with
  | some (_, _, .array t) => al[al.findIdx (fun q => q.1 == j)]? == some (j, isB t)
  | _ => true)
theorem KO_len {F : List Fd} {al : List (Nat × Bool)} {Ln : Nat → Nat} {o : Nat} {s : St} : (KO F al Ln o s).length = al.length + 1 := by simp [KO]
theorem app_get (pre post l : MHeap) (k : Nat) (h : k < l.length) : (pre ++ (l ++ post))[pre.length + k]? = l[k]? := by
  rw [List.getElem?_append_right (by omega), Nat.add_sub_cancel_left, List.getElem?_append_left h]
theorem app_set (pre post l : MHeap) (k : Nat) (c : MCell) (h : k < l.length) : (pre ++ (l ++ post)).set (pre.length + k) c = pre ++ (l.set k c ++ post) := by
  rw [List.set_append_right _ _ (by omega), Nat.add_sub_cancel_left, List.set_append_left _ _ h]
theorem view_of {G : Ctx} {al : List (Nat × Bool)} {Ln : Nat → Nat} {pre post : MHeap} (hk : k0 G ≤ pre.length) (h1 : alOk (gF G) al = true) (h2 : (al.map (·.1)).Nodup) :
    View G Ln (KH (gF G) al Ln pre post) pre.length (rA pre.length al) := by
  refine ⟨hk, fun s => ?_, fun s j f z hF ht => ?_, fun j n d t hF => ?_⟩
  · have := app_get pre post (KO (gF G) al Ln pre.length s) 0 (by rw [KO_len]; omega)
    exact this
  · have := app_set pre post (KO (gF G) al Ln pre.length s) 0 (.inl ((fvA (rA pre.length al) s 0 (gF G)).set j (.int z))) (by rw [KO_len]; omega)
    refine Eq.trans this ?_
    show pre ++ ((.inl _ :: al.map (arr1 Ln s)) ++ post) = pre ++ ((.inl _ :: al.map (arr1 Ln (setI s j z))) ++ post)
    rw [fvA_set hF ht]
    rfl
  · have hj : j < (gF G).length := (List.getElem?_eq_some_iff.mp hF).1
    have hq := List.all_eq_true.mp h1 j (List.mem_range.mpr hj)
    simp only [hF, beq_iff_eq] at hq
    have hlt := (List.getElem?_eq_some_iff.mp hq).1
    have hlen : ∀ s, al.findIdx (fun q => q.1 == j) + 1 < (KO (gF G) al Ln pre.length s).length := fun s => by rw [KO_len]; omega
    have hr : rA pre.length al j = pre.length + (al.findIdx (fun q => q.1 == j) + 1) := by unfold rA; omega
    refine ⟨by rw [hr]; omega, fun s => ?_, fun s i z hi => ?_⟩
    · rw [hr]
      refine (app_get pre post _ _ (hlen s)).trans ?_
      show (al.map (arr1 Ln s))[al.findIdx fun q => q.1 == j]? = _
      rw [List.getElem?_map, hq]
      rfl
    · rw [hr]
      refine (app_set pre post _ _ _ (hlen s)).trans ?_
      show pre ++ ((.inl (fvA (rA pre.length al) s 0 (gF G)) :: (al.map (arr1 Ln s)).set (al.findIdx fun q => q.1 == j) (.inr (isB t, (tab (Ln j) (s.2 j)).set i z))) ++ post) = pre ++ ((.inl (fvA (rA pre.length al) (setA s j i z) 0 (gF G)) :: al.map (arr1 Ln (setA s j i z))) ++ post)
      rw [fvA_same (s := s) (s' := setA s j i z) _ rfl]
      congr 3
      apply List.ext_getElem?
      intro k
      rw [List.getElem?_set, List.getElem?_map, List.getElem?_map, List.length_map]
      by_cases e : al.findIdx (fun q => q.1 == j) = k
      · subst e
        simp only [if_true, hlt, hq, Option.map_some, arr1, tab_set]
        congr 4
        funext x
        rw [setA_2]
        simp
      · simp only [e, if_false]
        cases hk2 : al[k]? with
        | none => rfl
        | some q =>
          simp only [Option.map_some, arr1]
          have ne : q.1 ≠ j := fun hqj => by
            have a1 : (al.map (·.1))[al.findIdx (fun q => q.1 == j)]? = some j := by rw [List.getElem?_map, hq]; rfl
            have a2 : (al.map (·.1))[k]? = some j := by rw [List.getElem?_map, hk2]; simp [hqj]
            have := (List.getElem?_inj (by rw [List.length_map]; exact hlt) h2).mp (a1.trans a2.symm)
            exact e this
          congr 4
          funext x
          rw [setA_2]
          simp [ne]
/-! ### while the constructor makes the arrays -/
def cons (pre : MHeap) (fs : List Value) (as : List (Bool × List Int32)) : MHeap := pre ++ (.inl fs :: as.map .inr)
section ConsRules
variable {G : Ctx} {M : Mi} {pc : Nat} {L : List Slot} {S : List Value} {rr : Option Value × MHeap} {pre : MHeap} {fs fs' : List Value} {as : List (Bool × List Int32)}
theorem cons_get : (cons pre fs as)[pre.length]? = some (.inl fs) := by unfold cons; rw [List.getElem?_append_right (Nat.le_refl _), Nat.sub_self]; rfl
theorem cons_set (c : List Value) : (cons pre fs as).set pre.length (.inl c) = cons pre c as := by unfold cons; rw [List.set_append_right _ _ (Nat.le_refl _), Nat.sub_self]; rfl
theorem cons_len : (cons pre fs as).length = pre.length + 1 + as.length := by simp [cons]; omega
theorem cons_push (b : Bool) (xs : List Int32) : cons pre fs as ++ [.inr (b, xs)] = cons pre fs (as ++ [(b, xs)]) := by simp [cons]
theorem Ev.cput {idx j : Nat} {n d : String} {ty : FieldType} {v v' : Value} (K : GOk G) (hk : k0 G ≤ pre.length) (w : (Jvm.Cond.fieldLink (mN M).cls idx (gC G) n d).before (gA G) (gZ G) = true)
    (wl : (Jvm.Cond.lays (gC G) (gC G) n d).before (gA G) (gZ G) = true ∨ ((Jvm.Cond.laysFinal (gC G) (gC G) n d).before (gA G) (gZ G) = true ∧ (mN M).cls = gC G ∧ (mN M).name = "<init>"))
    (hd : decode (mB M) pc = .ok (.putfield idx, 3)) (hF : (gF G)[j]? = some (n, d, ty)) (hp : mput ty v = some v') (hs : fs.set j v' = fs') (hn : Ev G M (pc + 3) L S (cons pre fs' as) rr) : Ev G M pc L (v :: .ref pre.length :: S) (cons pre fs as) rr := by
  subst hs
  refine Ev.putfield K w wl hd hF hk cons_get hp ?_
  rw [cons_set]; exact hn
theorem Ev.cget {idx j : Nat} {n d : String} {ty : FieldType} {v : Value} (w : (Jvm.Cond.fieldLink (mN M).cls idx (gC G) n d).before (gA G) (gZ G) = true) (hd : decode (mB M) pc = .ok (.getfield idx, 3)) (hF : (gF G)[j]? = some (n, d, ty)) (hv : fs[j]? = some v)
    (hn : Ev G M (pc + 3) L (v :: S) (cons pre fs as) rr) : Ev G M pc L (.ref pre.length :: S) (cons pre fs as) rr := Ev.getfield w hd hF cons_get hv hn
theorem Ev.cnew {aty : ArrayType} {b : Bool} {n : Int32} {k q : Nat} {as' : List (Bool × List Int32)} (w : (Jvm.Cond.arrayClass (newarray.typeOf aty)).before (gA G) (gZ G) = true) (hb' : newarray.typeOf aty = kd b) (hd : decode (mB M) pc = .ok (.newarray aty, 2)) (hn0 : ¬ n < 0) (hk : n.toNatClampNeg = k) (hcap : k ≤ 67108864)
    (hq : as.length = q) (has : as ++ [(b, tab k (fun _ => 0))] = as') (hn : Ev G M (pc + 2) L (.ref (pre.length + 1 + q) :: S) (cons pre fs as') rr) : Ev G M pc L (.int n :: S) (cons pre fs as) rr := by
  subst hq has
  refine Ev.newarray w hb' hd hn0 hk hcap ?_
  rw [cons_push, cons_len, ← tab_zero]; exact hn
end ConsRules
theorem forall_get {P : Nat → Fd → Prop} : ∀ (F : List Fd) (k : Nat), (∀ j f, F[j]? = some f → P (k + j) f) → True := fun _ _ _ => trivial
def AllF (P : Fd → Prop) : List Fd → Prop
  | [] => True
  | f :: fs => P f ∧ AllF P fs
theorem AllF.mem {P : Fd → Prop} : ∀ {F : List Fd}, AllF P F → ∀ f ∈ F, P f
  | _ :: _, ⟨h1, h2⟩, f, hf => (List.mem_cons.mp hf).elim (fun e => e ▸ h1) (AllF.mem h2 f)
theorem gok_of {G : Ctx} (h1 : AllF (fun f => Laid (gZ G) (gA G) (gC G) (gC G) f.1 f.2.1 ∧ parseFieldDescriptor f.2.1 = some f.2.2) (gF G)) (h2 : ((gF G).map (·.1)).Nodup)
    (h3 : (Jvm.Cond.instantiable (gC G) (gK G)).before (gA G) (gZ G) = true) (h4 : (Jvm.Cond.initialized (gC G)).before (gA G) (gZ G) = true) : GOk G := by
  refine ⟨fun j n d ty hF => h1.mem _ (List.mem_of_getElem? hF), fun j j' f f' hF hF' ne e => ne ?_, h3, h4⟩
  have a1 : ((gF G).map (·.1))[j]? = some f.1 := by rw [List.getElem?_map, hF]; rfl
  have a2 : ((gF G).map (·.1))[j']? = some f.1 := by rw [List.getElem?_map, hF', e]; rfl
  exact (List.getElem?_inj (by rw [List.length_map]; exact (List.getElem?_eq_some_iff.mp hF).1) h2).mp (a1.trans a2.symm)
end Jvm.Own
namespace Jvm.Own
open Sem ClassFile Op Lib Jvm.Stand Jvm.Free Jvm.LawKit Jvm.RoadKit
def grd {α : Type} (c : Prop) [Decidable c] (x : Option α) : Option α := if c then x else none
theorem grd_some {α : Type} {c : Prop} [Decidable c] {x : Option α} {w : α} (h : grd c x = some w) : c ∧ x = some w := by
  unfold grd at h; split at h
  · exact ⟨by assumption, h⟩
  · cases h
theorem grd_pos {α : Type} {c : Prop} [Decidable c] {x : Option α} (h : c) : grd c x = x := if_pos h
theorem KH_len (F : List Fd) (al : List (Nat × Bool)) (Ln : Nat → Nat) (pre post : MHeap) (s : St) : (KH F al Ln pre post s).length = pre.length + (al.length + 1 + post.length) := by simp [KH, KO]; omega
theorem hsl_app (k : Nat) (a b : MHeap) : hsl k (a ++ b) = hsl k a + hsl k b := by simp [hsl]
theorem hsl_arr (k : Nat) (Ln : Nat → Nat) (s : St) : ∀ al : List (Nat × Bool), hsl k (al.map (arr1 Ln s)) = (al.map fun q => Ln q.1).sum
  | [] => rfl
  | q :: al => by
    have := hsl_arr k Ln s al
    simp only [hsl, List.map_cons, List.sum_cons] at this ⊢
    rw [this]
    simp [arr1, csl, tab_len]
theorem hsl_KH (k : Nat) (F : List Fd) (al : List (Nat × Bool)) (Ln : Nat → Nat) (pre post : MHeap) (s : St) : hsl k (KH F al Ln pre post s) = hsl k pre + (k + (al.map fun q => Ln q.1).sum + hsl k post) := by
  unfold KH
  rw [hsl_app, hsl_app]
  have : hsl k (KO F al Ln pre.length s) = k + (al.map fun q => Ln q.1).sum := by
    have := hsl_arr k Ln s al
    simp only [KO, hsl, List.map_cons, List.sum_cons, csl] at this ⊢
    rw [this]
  rw [this]
theorem ne_lit {x z : Int32} {k : Int} (h : ¬ x = z) (e : z.toInt = k) : x.toInt ≠ k := fun q => h (Int32.toInt_inj.mp (q.trans e.symm))
section
variable {G : Ctx} {M : Mi} {pc : Nat} {L : List Slot} {S : List Value} {rr : Option Value × MHeap}
theorem Ev.astD {k v : Nat} {L' : List Slot} {o : Slot} {h : MHeap} (hd : decode (mB M) pc = .ok (.astore k, 2)) (ho : L[k]? = some o) (h1 : one1 o = true) (hl : L.set k (.val (.ref v)) = L') (hn : Ev G M (pc + 2) L' S h rr) : Ev G M pc L (.ref v :: S) h rr :=
  Ev.astore hd (by rw [mst_one ho h1 rfl, hl]) hn
theorem Ev.astDN {k : Fin 4} {v : Nat} {L' : List Slot} {o : Slot} {h : MHeap} (hd : decode (mB M) pc = .ok (.astore_n k, 1)) (ho : L[k.val]? = some o) (h1 : one1 o = true) (hl : L.set k.val (.val (.ref v)) = L') (hn : Ev G M (pc + 1) L' S h rr) : Ev G M pc L (.ref v :: S) h rr :=
  Ev.astoreN hd (by rw [mst_one ho h1 rfl, hl]) hn
end
end Jvm.Own
namespace Jvm.Own
open Sem ClassFile Op Lib Jvm.Stand Jvm.Free Jvm.LawKit Jvm.RoadKit
section
variable {G : Ctx} {M : Mi} {pc : Nat} {L : List Slot} {S : List Value} {rr : Option Value × MHeap}
theorem mst_T {l : List Slot} {i : Nat} {v : Value} {o o' : Slot} (ho : l[i]? = some o) (ho' : l[i + 1]? = some o') (h2 : two2 o o') (hv : v.category = 1) : ∃ b, one1 b = true ∧ mst l i v = some ((l.set i (.val v)).set (i + 1) b) := by
  have hlt := (List.getElem?_eq_some_iff.mp ho).1
  have hlt' := (List.getElem?_eq_some_iff.mp ho').1
  rcases h2 with ⟨h1, h1'⟩ | ⟨x, rfl, rfl⟩
  · refine ⟨o', h1', ?_⟩
    rw [mst_one ho h1 hv]
    congr 1
    apply List.ext_getElem?
    intro k
    by_cases e : i + 1 = k
    · subst e
      rw [List.getElem?_set_self (by simpa using hlt'), List.getElem?_set_ne (by omega), ho']
    · rw [List.getElem?_set_ne e]
  · refine ⟨.unset, rfl, ?_⟩
    unfold mst
    rw [ho]
    have c2 : (Value.long x).category = 2 := rfl
    simp only [c2, if_true, lsetAt, hlt', lstoreSelf, List.length_set, hlt, hv]
    rw [List.set_comm _ _ (by omega : i + 1 ≠ i)]
    simp
theorem Ev.istT {k : Nat} {v : Int32} {L' : Slot → List Slot} {o o' : Slot} {h : MHeap} (hd : decode (mB M) pc = .ok (.istore k, 2)) (ho : L[k]? = some o) (ho' : L[k + 1]? = some o') (h2 : two2 o o') (hl : ∀ b, (L.set k (.val (.int v))).set (k + 1) b = L' b) (hn : ∀ b, one1 b = true → Ev G M (pc + 2) (L' b) S h rr) : Ev G M pc L (.int v :: S) h rr := by
  obtain ⟨b, h1, e⟩ := mst_T (v := .int v) ho ho' h2 rfl
  exact Ev.istore hd e (by rw [hl]; exact hn b h1)
theorem Ev.istTN {k : Fin 4} {v : Int32} {L' : Slot → List Slot} {o o' : Slot} {h : MHeap} (hd : decode (mB M) pc = .ok (.istore_n k, 1)) (ho : L[k.val]? = some o) (ho' : L[k.val + 1]? = some o') (h2 : two2 o o') (hl : ∀ b, (L.set k.val (.val (.int v))).set (k.val + 1) b = L' b) (hn : ∀ b, one1 b = true → Ev G M (pc + 1) (L' b) S h rr) : Ev G M pc L (.int v :: S) h rr := by
  obtain ⟨b, h1, e⟩ := mst_T (v := .int v) ho ho' h2 rfl
  exact Ev.istoreN hd e (by rw [hl]; exact hn b h1)
end
section
variable {G : Ctx} {Ln : Nat → Nat} {K : St → MHeap} {o len : Nat} {r : Nat → Nat} {F : List Fd} {al : List (Nat × Bool)}
theorem View.le (V : View G Ln K o r) (s : St) : k0 G ≤ (K s).length := Nat.le_trans V.1 (Nat.le_of_lt (List.getElem?_eq_some_iff.mp (V.2.1 s)).1)
theorem View.app (V : View G Ln K o r) (X : MHeap) : View G Ln (fun s => K s ++ X) o r := by
  refine ⟨V.1, fun s => ?_, fun s j f z hF ht => ?_, fun j n d t hF => ?_⟩
  · show (K s ++ X)[o]? = _
    rw [List.getElem?_append_left (List.getElem?_eq_some_iff.mp (V.2.1 s)).1]; exact V.2.1 s
  · show (K s ++ X).set o _ = _
    rw [List.set_append_left _ _ (List.getElem?_eq_some_iff.mp (V.2.1 s)).1, V.2.2.1 s j f z hF ht]
  · obtain ⟨q1, q2, q3⟩ := V.2.2.2 j n d t hF
    refine ⟨q1, fun s => ?_, fun s i z hi => ?_⟩
    · show (K s ++ X)[r j]? = _
      rw [List.getElem?_append_left (List.getElem?_eq_some_iff.mp (q2 s)).1]; exact q2 s
    · show (K s ++ X).set (r j) _ = _
      rw [List.set_append_left _ _ (List.getElem?_eq_some_iff.mp (q2 s)).1, q3 s i z hi]
theorem View.app2 (V : View G Ln K o r) (hl : ∀ s, (K s).length = len) (t : St) : View G Ln (fun s => KH F al Ln (K s) [] t) o r := by
  have e : (fun s => KH F al Ln (K s) [] t) = fun s => K s ++ (KO F al Ln len t ++ []) := by
    funext s; unfold KH; rw [hl]
  rw [e]
  exact V.app _
theorem app2_get (V : View G Ln K o r) {s t : St} {c : MCell} (h : (K s)[0]? = some c) : (KH F al Ln (K s) [] t)[0]? = some c := by
  unfold KH
  rw [List.getElem?_append_left (List.getElem?_eq_some_iff.mp h).1]; exact h
end
end Jvm.Own
namespace Jvm.Own
open Sem ClassFile Op Lib Jvm.Stand Jvm.Free Jvm.LawKit Jvm.RoadKit
def toI : Value → Int32
  | .int z => z
  | _ => 0
theorem script_rel {s : State} {a : Nat} {cl : Cell} {args : Array Value} {l : Launch} {C : String} {F : List Fd} {k : Nat} (hf : Fit s) (A : Arr s s.heap a cl .int) :
    ∃ xs : List Int32, xs.length = cl.slots.size ∧ Rel (s, args, l, some a, s.heap.size, C, F, k) s.heap [.inr (false, tab xs.length (fun i => xs.getD i 0))] := by
  have hl : (cl.slots.toList.map toI).length = cl.slots.size := by simp
  refine ⟨cl.slots.toList.map toI, hl, rfl, Nat.le_refl _, fun a' q => by cases q; exact A.lt, fun i c q => ?_⟩
  match i, q with
  | 0, q =>
    cases q
    refine ⟨cl, A, ?_⟩
    rw [← tab_of]
    apply Array.ext'
    apply List.ext_getElem?
    intro j
    simp only [List.map_map, List.getElem?_map]
    cases hj : cl.slots.toList[j]? with
    | none => rfl
    | some v =>
      have hj' : cl.slots[j]? = some v := by simpa using hj
      obtain ⟨hlt, hv⟩ := Array.getElem?_eq_some_iff.mp hj'
      have q := hf A.1 hlt
      obtain ⟨hs, kk, hk, comp, hkind⟩ := A.2.1
      have e : s.slotType? cl.cls cl.vm j = some .int := by
        cases hq : cl.vm <;> first | exact absurd hq (hs _) | simp [State.slotType?, hk, hkind]
      have q2 : fits .int v = true := by rw [hv] at q; simpa [State.fitsSlot, e] using q
      obtain ⟨z, rfl⟩ := fit_I q2 (Or.inl rfl)
      rfl
theorem script_len {s : State} {args : Array Value} {t : Term} {a : Nat} {cl : Cell} (A : Arr s s.heap a cl .int) (ea : t.eval args s none [] s = some (.ref a)) (h1 : (Jvm.Cond.isInt (.length t)).value args s none s [] = some true) (h2 : (Jvm.Cond.le (.length t) (.int 260)).value args s none s [] = some true) : cl.slots.size ≤ 260 := by
  obtain ⟨z, ez⟩ := is_v h1
  have ha := A.fin (Vm.Alike.refl s.vm)
  have hlen : cl.slots.size < 2 ^ 31 := by
    rcases Nat.lt_or_ge cl.slots.size (2 ^ 31) with q | q
    · exact q
    · simp [Term.eval, ea, ha, Nat.not_lt.mpr q] at ez
  have e1 := len_f ea ha hlen
  have q : cl.slots.size.toInt32 ≤ 260 := by
    have := Cond.le_ints e1 (Term.int_eval (260 : Int32)) (args := args) (first := s) (o := none) (s := s) (idx := [])
    exact gotT this h2
  have q2 := Int32.le_iff_toInt_le.mp q
  rw [len_toInt hlen] at q2
  have : (260 : Int32).toInt = 260 := by decide
  omega
end Jvm.Own
namespace Jvm.Own
open Sem ClassFile Op Lib Jvm.Stand Jvm.Free Jvm.LawKit Jvm.RoadKit
def decs (b : ByteArray) : List (Nat × Instr × Nat) → Bool
  | [] => true
  | q :: t => decide (decode b q.1 = .ok (q.2.1, q.2.2)) && decs b t
theorem dget {b : ByteArray} : ∀ {l : List (Nat × Instr × Nat)}, decs b l = true → ∀ {k p : Nat} {i : Instr} {n : Nat}, l[k]? = some (p, i, n) → decode b p = .ok (i, n)
  | [], _, k, _, _, _, hk => by simp at hk
  | q :: t, h, 0, p, i, n, hk => by
    simp only [decs, Bool.and_eq_true, decide_eq_true_eq] at h
    simp only [List.getElem?_cons_zero, Option.some.injEq] at hk
    subst hk
    exact h.1
  | q :: t, h, k + 1, p, i, n, hk => by
    simp only [decs, Bool.and_eq_true] at h
    exact dget h.2 (by simpa using hk)
end Jvm.Own
namespace Jvm.Own
/-! ## 6. Ints of 32 bits and naturals -/
theorem N_toInt {i : Nat} (h : i < 2147483648) : (Int32.ofNat i).toInt = i := Int32.toInt_ofNat_of_lt h
theorem N_lt {i j : Nat} (hi : i < 2147483648) (hj : j < 2147483648) : Int32.ofNat i < Int32.ofNat j ↔ i < j := by
  rw [Int32.lt_iff_toInt_lt, N_toInt hi, N_toInt hj]; omega
theorem N_inj {i j : Nat} (hi : i < 2147483648) (hj : j < 2147483648) : Int32.ofNat i = Int32.ofNat j ↔ i = j := by
  rw [← Int32.toInt_inj, N_toInt hi, N_toInt hj]; omega
theorem N_succ (i : Nat) : Int32.ofNat i + 1 = Int32.ofNat (i + 1) := (Int32.ofNat_add i 1).symm
theorem N_add (i j : Nat) : Int32.ofNat i + Int32.ofNat j = Int32.ofNat (i + j) := (Int32.ofNat_add i j).symm
theorem N_mul (i j : Nat) : Int32.ofNat i * Int32.ofNat j = Int32.ofNat (i * j) := (Int32.ofNat_mul i j).symm
theorem N_neg {i : Nat} (h : i < 2147483648) : ¬ Int32.ofNat i < 0 := by
  rw [Int32.lt_iff_toInt_lt, N_toInt h]; simp
theorem ix_N {i : Nat} (h : i < 2147483648) : ix (Int32.ofNat i) = i := by
  unfold ix Int32.toNatClampNeg; rw [N_toInt h]; simp
theorem inb_N {i n : Nat} (h : i < 2147483648) : inb (Int32.ofNat i) n ↔ i < n := by
  unfold inb; rw [ix_N h]; exact ⟨fun q => q.2, fun q => ⟨N_neg h, q⟩⟩
theorem ix_toInt {x : Int32} (h : ¬ x < 0) : (ix x : Int) = x.toInt := by
  unfold ix Int32.toNatClampNeg
  rw [Int32.lt_iff_toInt_lt] at h
  have : (0 : Int32).toInt = 0 := rfl
  omega
theorem ix_lt (x : Int32) : ix x < 2147483648 := by
  unfold ix Int32.toNatClampNeg
  have := Int32.toInt_lt x
  omega
theorem N_ix {x : Int32} (h : ¬ x < 0) : Int32.ofNat (ix x) = x := by
  rw [← Int32.toInt_inj, N_toInt (ix_lt x), ix_toInt h]
theorem ix_eq {x y : Int32} (hx : ¬ x < 0) (hy : ¬ y < 0) : ix x = ix y ↔ x = y := by
  refine ⟨fun e => ?_, fun e => e ▸ rfl⟩
  rw [← N_ix hx, ← N_ix hy, e]
theorem rng (x : Int32) : -2147483648 ≤ x.toInt ∧ x.toInt < 2147483648 := ⟨Int32.le_toInt x, Int32.toInt_lt x⟩
theorem lt_I {x y : Int32} : x < y ↔ x.toInt < y.toInt := Int32.lt_iff_toInt_lt
theorem le_I {x y : Int32} : x ≤ y ↔ x.toInt ≤ y.toInt := Int32.le_iff_toInt_le
theorem eq_I {x y : Int32} : x = y ↔ x.toInt = y.toInt := Int32.toInt_inj.symm
theorem bmod_eq {x : Int} (h1 : -2147483648 ≤ x) (h2 : x < 2147483648) : x.bmod (2 ^ 32) = x := by
  apply Int.bmod_eq_of_le <;> omega
theorem add_I {x y : Int32} (h1 : -2147483648 ≤ x.toInt + y.toInt) (h2 : x.toInt + y.toInt < 2147483648) : (x + y).toInt = x.toInt + y.toInt := by
  rw [Int32.toInt_add]; exact bmod_eq h1 h2
theorem sub_I {x y : Int32} (h1 : -2147483648 ≤ x.toInt - y.toInt) (h2 : x.toInt - y.toInt < 2147483648) : (x - y).toInt = x.toInt - y.toInt := by
  rw [Int32.toInt_sub]; exact bmod_eq h1 h2
theorem mul_I {x y : Int32} (h1 : -2147483648 ≤ x.toInt * y.toInt) (h2 : x.toInt * y.toInt < 2147483648) : (x * y).toInt = x.toInt * y.toInt := by
  rw [Int32.toInt_mul]; exact bmod_eq h1 h2
theorem inb_I {x : Int32} {n : Nat} (h1 : 0 ≤ x.toInt) (h2 : x.toInt < n) : inb x n := by
  have h : ¬ x < 0 := by rw [lt_I]; have : (0 : Int32).toInt = 0 := rfl; omega
  refine ⟨h, ?_⟩
  have := ix_toInt h
  omega
/-- an int between 0 and n is one of them -/
theorem cases_N {x : Int32} {n : Nat} (hn : n < 2147483648) (h0 : ¬ x < 0) (h1 : x < Int32.ofNat n) : ∃ i, i < n ∧ x = Int32.ofNat i := by
  refine ⟨ix x, ?_, (N_ix h0).symm⟩
  have a := ix_toInt h0
  rw [lt_I, N_toInt hn] at h1
  omega
/-! ## 7. Loops that count from i to N -/
def itr {α : Type} (f : Nat → α → α) : Nat → Nat → α → α
  | _, 0, s => s
  | i, m + 1, s => itr f (i + 1) m (f i s)
theorem loopN {α β : Type} {F : Nat → Int32 → α → Option β} {N : Nat} {f : Nat → α → α} {fin : α → Option β}
    (hF : ∀ k i s, i < N → F (k + 1) (Int32.ofNat i) s = F k (Int32.ofNat i + 1) (f i s)) (hE : ∀ k s, F (k + 1) (Int32.ofNat N) s = fin s) :
    ∀ m i k s, i + m = N → m < k → F k (Int32.ofNat i) s = fin (itr f i m s) := by
  intro m
  induction m with
  | zero =>
    intro i k s hi hk
    obtain ⟨k, rfl⟩ : ∃ k', k = k' + 1 := ⟨k - 1, by omega⟩
    have : i = N := by omega
    subst this
    exact hE k s
  | succ m ih =>
    intro i k s hi hk
    obtain ⟨k, rfl⟩ : ∃ k', k = k' + 1 := ⟨k - 1, by omega⟩
    rw [hF k i s (by omega), N_succ]
    exact ih (i + 1) k _ (by omega) (by omega)
theorem itr_ind {α : Type} {f : Nat → α → α} {P : Nat → α → Prop} {N : Nat} (h : ∀ i s, i < N → P i s → P (i + 1) (f i s)) : ∀ m i s, i + m = N → P i s → P N (itr f i m s) := by
  intro m
  induction m with
  | zero => intro i s hi hp; have : i = N := by omega
            subst this; exact hp
  | succ m ih => intro i s hi hp; exact ih (i + 1) _ (by omega) (h i s (by omega) hp)
theorem itr_pt {f : Nat → St → St} {u : Nat → Int32 → Int32} (h1 : ∀ i s, (f i s).1 = s.1) (h2 : ∀ i s k x, (f i s).2 k x = if x = i then u k (s.2 k x) else s.2 k x) :
    ∀ m i s, itr f i m s = (s.1, fun k x => if i ≤ x ∧ x < i + m then u k (s.2 k x) else s.2 k x) := by
  intro m
  induction m with
  | zero =>
    intro i s
    refine Prod.ext rfl ?_
    funext k x
    have : ¬ (i ≤ x ∧ x < i + 0) := by omega
    simp only [this, if_false]
    rfl
  | succ m ih =>
    intro i s
    show itr f (i + 1) m (f i s) = _
    rw [ih]
    refine Prod.ext (h1 i s) ?_
    funext k x
    simp only [h2]
    by_cases e : x = i
    · subst e
      have a : ¬ (x + 1 ≤ x ∧ x < x + 1 + m) := by omega
      have b : x ≤ x ∧ x < x + (m + 1) := by omega
      simp only [a, b, if_false, if_true, and_self]
    · have : (i + 1 ≤ x ∧ x < i + 1 + m) ↔ (i ≤ x ∧ x < i + (m + 1)) := by omega
      simp only [this, e, if_false]
theorem itr_fill (K : Nat) (z : Int32) (m : Nat) (s : St) : itr (fun i s => setA s K i z) 0 m s = (s.1, fun k x => if k = K ∧ x < m then z else s.2 k x) := by
  rw [itr_pt (f := fun i s => setA s K i z) (u := fun k v => if k = K then z else v) (fun _ _ => rfl) (fun i s j x => by
    simp only [setA_2]
    by_cases e : x = i <;> by_cases e1 : j = K <;> simp [e, e1])]
  refine Prod.ext rfl ?_
  funext k x
  have : (0 ≤ x ∧ x < 0 + m) ↔ x < m := by omega
  simp only [this]
  by_cases e : x < m <;> by_cases e1 : k = K <;> simp [e, e1]
theorem and_rng (x : Int32) {m : Nat} (hm : m < 2147483648) : 0 ≤ (x &&& Int32.ofNat m).toInt ∧ (x &&& Int32.ofNat m).toInt ≤ m := by
  have h1 : (x &&& Int32.ofNat m).toBitVec.toNat ≤ m := by
    rw [Int32.toBitVec_and, BitVec.toNat_and]
    refine Nat.le_trans Nat.and_le_right ?_
    show (BitVec.ofNat 32 m).toNat ≤ m
    rw [BitVec.toNat_ofNat]
    exact Nat.mod_le _ _
  have h2 : (x &&& Int32.ofNat m).toInt = ((x &&& Int32.ofNat m).toBitVec.toNat : Int) := by
    show (x &&& Int32.ofNat m).toBitVec.toInt = _
    exact BitVec.toInt_eq_toNat_of_lt (by omega)
  omega
theorem idx8 {o p : Int32} (h0 : ¬ o < 0) (h3 : ¬ 3 < o) : inb (o * 8 + (p &&& 7)) 32 := by
  have a := and_rng p (m := 7) (by omega)
  rw [show Int32.ofNat 7 = (7 : Int32) from rfl] at a
  rw [lt_I] at h0 h3
  have e0 : (0 : Int32).toInt = 0 := rfl
  have e3 : (3 : Int32).toInt = 3 := rfl
  have e8 : (8 : Int32).toInt = 8 := rfl
  have em : (o * 8).toInt = o.toInt * 8 := by rw [mul_I] <;> rw [e8] <;> omega
  have ea : (o * 8 + (p &&& 7)).toInt = o.toInt * 8 + (p &&& 7).toInt := by rw [add_I] <;> rw [em] <;> omega
  exact inb_I (by omega) (by omega)
theorem idx8' {o p : Int32} (h0 : ¬ o < 0) (h3 : ¬ 3 < o) (g0 : ¬ p < 0) (g7 : ¬ 7 < p) : inb (o * 8 + p) 32 ∧ (o * 8 + p).toInt = o.toInt * 8 + p.toInt := by
  rw [lt_I] at h0 h3 g0 g7
  have e0 : (0 : Int32).toInt = 0 := rfl
  have e3 : (3 : Int32).toInt = 3 := rfl
  have e7 : (7 : Int32).toInt = 7 := rfl
  have e8 : (8 : Int32).toInt = 8 := rfl
  have em : (o * 8).toInt = o.toInt * 8 := by rw [mul_I] <;> rw [e8] <;> omega
  have ea : (o * 8 + p).toInt = o.toInt * 8 + p.toInt := by rw [add_I] <;> rw [em] <;> omega
  exact ⟨inb_I (by omega) (by omega), ea⟩
theorem inb_le {x : Int32} {m : Int32} {n : Nat} (h0 : ¬ x < 0) (h1 : ¬ m < x) (hm : m.toInt < n) : inb x n := by
  rw [lt_I] at h0 h1
  have e0 : (0 : Int32).toInt = 0 := rfl
  exact inb_I (by omega) (by omega)
theorem inb_lt {x : Int32} {m : Int32} {n : Nat} (h0 : ¬ x < 0) (h1 : x < m) (hm : m.toInt ≤ n) : inb x n := by
  rw [lt_I] at h0 h1
  have e0 : (0 : Int32).toInt = 0 := rfl
  exact inb_I (by omega) (by omega)
theorem rem_N {a N : Nat} (ha : a < 2147483648) (hN : N < 2147483648) (h0 : 0 < N) : Int32.ofNat a % Int32.ofNat N = Int32.ofNat (a % N) := by
  have h1 : a % N < N := Nat.mod_lt _ h0
  rw [← Int32.toInt_inj, Int32.toInt_mod, N_toInt ha, N_toInt hN, N_toInt (by omega)]
  rw [Int.tmod_eq_emod_of_nonneg (by omega)]
  rfl
/-- the rule of a loop that counts from i to N: P before each turn; Q of what it gives -/
theorem loopP {α β : Type} {F : Nat → Int32 → α → Option β} {N : Nat} {P : Nat → α → Prop} {Q : β → Prop}
    (hF : ∀ k i s, i < N → P i s → (∃ s', F (k + 1) (Int32.ofNat i) s = F k (Int32.ofNat i + 1) s' ∧ P (i + 1) s') ∨ ∃ r, F (k + 1) (Int32.ofNat i) s = some r ∧ Q r)
    (hE : ∀ k s, P N s → ∃ r, F (k + 1) (Int32.ofNat N) s = some r ∧ Q r) :
    ∀ m i k s, i + m = N → m < k → P i s → ∃ r, F k (Int32.ofNat i) s = some r ∧ Q r := by
  intro m
  induction m with
  | zero =>
    intro i k s hi hk hp
    obtain ⟨k, rfl⟩ : ∃ k', k = k' + 1 := ⟨k - 1, by omega⟩
    have : i = N := by omega
    subst this
    exact hE k s hp
  | succ m ih =>
    intro i k s hi hk hp
    obtain ⟨k, rfl⟩ : ∃ k', k = k' + 1 := ⟨k - 1, by omega⟩
    rcases hF k i s (by omega) hp with ⟨s', e, hp'⟩ | h
    · rw [e, N_succ]
      exact ih (i + 1) k s' (by omega) (by omega) hp'
    · exact h
theorem ltN {i j : Nat} (h : i < j) (hj : j < 2147483648) : Int32.ofNat i < Int32.ofNat j := (N_lt (by omega) hj).mpr h
theorem ltZ {i : Nat} {z : Int32} (N : Nat) (hz : Int32.ofNat N = z) (h : i < N) (hN : N < 2147483648) : Int32.ofNat i < z := hz ▸ ltN h hN
theorem nltN {i : Nat} (hi : i < 2147483648) : ¬ Int32.ofNat i < Int32.ofNat i := fun q => by rw [N_lt hi hi] at q; omega
theorem inbN {i n : Nat} (h : i < n) (hi : i < 2147483648) : inb (Int32.ofNat i) n := (inb_N hi).mpr h
def own_cl (a lo hi : Int32) : Int32 := if a < lo then lo else if hi < a then hi else a
theorem own_cl_rng {a lo hi : Int32} (h : ¬ hi < lo) : lo.toInt ≤ (own_cl a lo hi).toInt ∧ (own_cl a lo hi).toInt ≤ hi.toInt := by
  unfold own_cl
  rw [lt_I] at h
  split
  · omega
  · rename_i q; rw [lt_I] at q
    split
    · omega
    · rename_i q2; rw [lt_I] at q2; omega
theorem own_nat {x : Int32} {lo hi : Nat} (h1 : (lo : Int) ≤ x.toInt) (h2 : x.toInt ≤ hi) : ∃ N : Nat, x = Int32.ofNat N ∧ lo ≤ N ∧ N ≤ hi := by
  have := rng x
  refine ⟨x.toInt.toNat, ?_, by omega, by omega⟩
  rw [← Int32.toInt_inj, N_toInt (by omega)]; omega
theorem own_clN (a : Int32) {lo hi : Nat} (h : lo ≤ hi) (hi' : hi < 2147483648) : ∃ N : Nat, own_cl a (Int32.ofNat lo) (Int32.ofNat hi) = Int32.ofNat N ∧ lo ≤ N ∧ N ≤ hi := by
  have q := own_cl_rng (a := a) (lo := Int32.ofNat lo) (hi := Int32.ofNat hi) (fun q => by rw [N_lt (by omega) (by omega)] at q; omega)
  rw [N_toInt (by omega), N_toInt (by omega)] at q
  exact own_nat q.1 q.2
end Jvm.Own
namespace Jvm.Pilot.@@N@@
open Jvm Jvm.ClassFile Sem Op Lib Jvm.Free Jvm.Stand Jvm.LawKit Jvm.RoadKit Bundle Jvm.Pilot.@@N@@.Jvm.D Jvm.Own
/-! ### the class and its words (printed by a program of this repo) -/
abbrev GT := State × Array Value × Launch × Option Addr × Nat
def flds : List Fd := [("pcls", "[I", FieldType.array FieldType.int), ("pframe", "[I", FieldType.array FieldType.int), ("pbits", "[I", FieldType.array FieldType.int), ("mem", "[I", FieldType.array FieldType.int), ("numPages", "I", FieldType.int), ("numFrames", "I", FieldType.int), ("rng", "I", FieldType.int)]
def GG (g : GT) : Ctx := (g.1, g.2.1, g.2.2.1, g.2.2.2.1, g.2.2.2.2, "MeshAllocatorX", flds, 7)
def HW (g : GT) : Prop := ∀ d ∈ tables_1, d.before g.2.1 g.1 = true
def al : List (Nat × Bool) := [(0, false), (1, false), (2, false), (3, false)]
def Ln (j : Nat) : Nat := [16, 16, 16, 256, 0, 0, 0].getD j 0
def dfl : List Value := [.null, .null, .null, .null, .int 0, .int 0, .int 0]
theorem ww {g : GT} (hw : HW g) (k : Nat) {d : Jvm.Cond} (h : tables_1[k]? = some d) : d.before (gA (GG g)) (gZ (GG g)) = true := hw _ (List.mem_of_getElem? h)
theorem fld_nd : (flds.map (·.1)).Nodup := by decide +kernel
theorem al_ok : alOk flds al = true := by decide +kernel
theorem al_nd : (al.map (·.1)).Nodup := by decide +kernel
theorem gok {g : GT} (hw : HW g) : GOk (GG g) := gok_of ⟨⟨Or.inl (ww hw 11 rfl), by decide⟩, ⟨Or.inl (ww hw 13 rfl), by decide⟩, ⟨Or.inl (ww hw 15 rfl), by decide⟩, ⟨Or.inl (ww hw 17 rfl), by decide⟩, ⟨Or.inl (ww hw 23 rfl), by decide⟩, ⟨Or.inl (ww hw 25 rfl), by decide⟩, ⟨Or.inl (ww hw 28 rfl), by decide⟩, trivial⟩ fld_nd (ww hw 1 rfl) (ww hw 2 rfl)
theorem pcls : plainName "MeshAllocatorX" = true := by first | (simp [plainName, overriddenIn]; done) | decide +kernel
theorem pclsL : plainName "MeshAllocatorXL3" = true := by first | (simp [plainName, overriddenIn]; done) | decide +kernel
theorem nmh : "MeshAllocatorX" ≠ "java/lang/invoke/MethodHandle" ∧ "MeshAllocatorX" ≠ "java/lang/invoke/VarHandle" := by decide
theorem nmhL : "MeshAllocatorXL3" ≠ "java/lang/invoke/MethodHandle" ∧ "MeshAllocatorXL3" ≠ "java/lang/invoke/VarHandle" := by decide
def M_clamp : Mi := ((⟨"MeshAllocatorX", "clamp", "(III)I"⟩ : MethodName), prog_1_method_2_code, 4, (some .int), 0, 0)
theorem pl_clamp : plainFor (mN M_clamp) = true := plainFor_of_name pcls
theorem nm_clamp : notMH M_clamp := nmh
theorem pd_clamp : parseMethodDescriptor (mN M_clamp).desc = some ⟨[.int, .int, .int], some .int⟩ := by decide +kernel
def M_ctor : Mi := ((⟨"MeshAllocatorX", "<init>", "(III)V"⟩ : MethodName), prog_1_method_1_code, 5, none, 1, 16)
theorem pl_ctor : plainFor (mN M_ctor) = true := plainFor_of_name pcls
theorem nm_ctor : notMH M_ctor := nmh
theorem pd_ctor : parseMethodDescriptor (mN M_ctor).desc = some ⟨[.int, .int, .int], none⟩ := by decide +kernel
def M_slotsOf : Mi := ((⟨"MeshAllocatorX", "slotsOf", "(I)I"⟩ : MethodName), prog_1_method_3_code, 2, (some .int), 0, 0)
theorem pl_slotsOf : plainFor (mN M_slotsOf) = true := plainFor_of_name pcls
theorem nm_slotsOf : notMH M_slotsOf := nmh
theorem pd_slotsOf : parseMethodDescriptor (mN M_slotsOf).desc = some ⟨[.int], some .int⟩ := by decide +kernel
def M_unionOf : Mi := ((⟨"MeshAllocatorX", "unionOf", "(I)I"⟩ : MethodName), prog_1_method_6_code, 4, (some .int), 0, 0)
theorem pl_unionOf : plainFor (mN M_unionOf) = true := plainFor_of_name pcls
theorem nm_unionOf : notMH M_unionOf := nmh
theorem pd_unionOf : parseMethodDescriptor (mN M_unionOf).desc = some ⟨[.int], some .int⟩ := by decide +kernel
def M_countClear : Mi := ((⟨"MeshAllocatorX", "countClear", "(II)I"⟩ : MethodName), prog_1_method_8_code, 5, (some .int), 0, 0)
theorem pl_countClear : plainFor (mN M_countClear) = true := plainFor_of_name pcls
theorem nm_countClear : notMH M_countClear := nmh
theorem pd_countClear : parseMethodDescriptor (mN M_countClear).desc = some ⟨[.int, .int], some .int⟩ := by decide +kernel
def M_findEligible : Mi := ((⟨"MeshAllocatorX", "findEligible", "(I)I"⟩ : MethodName), prog_1_method_11_code, 5, (some .int), 1, 16)
theorem pl_findEligible : plainFor (mN M_findEligible) = true := plainFor_of_name pcls
theorem nm_findEligible : notMH M_findEligible := nmh
theorem pd_findEligible : parseMethodDescriptor (mN M_findEligible).desc = some ⟨[.int], some .int⟩ := by decide +kernel
def M_lowestUnusedPage : Mi := ((⟨"MeshAllocatorX", "lowestUnusedPage", "()I"⟩ : MethodName), prog_1_method_12_code, 2, (some .int), 0, 0)
theorem pl_lowestUnusedPage : plainFor (mN M_lowestUnusedPage) = true := plainFor_of_name pcls
theorem nm_lowestUnusedPage : notMH M_lowestUnusedPage := nmh
theorem pd_lowestUnusedPage : parseMethodDescriptor (mN M_lowestUnusedPage).desc = some ⟨[], some .int⟩ := by decide +kernel
def M_frameClass : Mi := ((⟨"MeshAllocatorX", "frameClass", "(I)I"⟩ : MethodName), prog_1_method_7_code, 3, (some .int), 0, 0)
theorem pl_frameClass : plainFor (mN M_frameClass) = true := plainFor_of_name pcls
theorem nm_frameClass : notMH M_frameClass := nmh
theorem pd_frameClass : parseMethodDescriptor (mN M_frameClass).desc = some ⟨[.int], some .int⟩ := by decide +kernel
def M_lowestFreeFrame : Mi := ((⟨"MeshAllocatorX", "lowestFreeFrame", "()I"⟩ : MethodName), prog_1_method_13_code, 2, (some .int), 1, 14)
theorem pl_lowestFreeFrame : plainFor (mN M_lowestFreeFrame) = true := plainFor_of_name pcls
theorem nm_lowestFreeFrame : notMH M_lowestFreeFrame := nmh
theorem pd_lowestFreeFrame : parseMethodDescriptor (mN M_lowestFreeFrame).desc = some ⟨[], some .int⟩ := by decide +kernel
def M_sizeOf : Mi := ((⟨"MeshAllocatorX", "sizeOf", "(I)I"⟩ : MethodName), prog_1_method_4_code, 2, (some .int), 0, 0)
theorem pl_sizeOf : plainFor (mN M_sizeOf) = true := plainFor_of_name pcls
theorem nm_sizeOf : notMH M_sizeOf := nmh
theorem pd_sizeOf : parseMethodDescriptor (mN M_sizeOf).desc = some ⟨[.int], some .int⟩ := by decide +kernel
def M_step : Mi := ((⟨"MeshAllocatorX", "step", "()I"⟩ : MethodName), prog_1_method_5_code, 1, (some .int), 0, 0)
theorem pl_step : plainFor (mN M_step) = true := plainFor_of_name pcls
theorem nm_step : notMH M_step := nmh
theorem pd_step : parseMethodDescriptor (mN M_step).desc = some ⟨[], some .int⟩ := by decide +kernel
def M_nthClear : Mi := ((⟨"MeshAllocatorX", "nthClear", "(III)I"⟩ : MethodName), prog_1_method_9_code, 6, (some .int), 0, 0)
theorem pl_nthClear : plainFor (mN M_nthClear) = true := plainFor_of_name pcls
theorem nm_nthClear : notMH M_nthClear := nmh
theorem pd_nthClear : parseMethodDescriptor (mN M_nthClear).desc = some ⟨[.int, .int, .int], some .int⟩ := by decide +kernel
def M_placeObject : Mi := ((⟨"MeshAllocatorX", "placeObject", "(II)I"⟩ : MethodName), prog_1_method_15_code, 13, (some .int), 1, 17)
theorem pl_placeObject : plainFor (mN M_placeObject) = true := plainFor_of_name pcls
theorem nm_placeObject : notMH M_placeObject := nmh
theorem pd_placeObject : parseMethodDescriptor (mN M_placeObject).desc = some ⟨[.int, .int], some .int⟩ := by decide +kernel
def M_alloc : Mi := ((⟨"MeshAllocatorX", "alloc", "(I)I"⟩ : MethodName), prog_1_method_14_code, 4, (some .int), 2, 41)
theorem pl_alloc : plainFor (mN M_alloc) = true := plainFor_of_name pcls
theorem nm_alloc : notMH M_alloc := nmh
theorem pd_alloc : parseMethodDescriptor (mN M_alloc).desc = some ⟨[.int], some .int⟩ := by decide +kernel
def M_hstep : Mi := ((⟨"MeshAllocatorXL3", "step", "(I)I"⟩ : MethodName), method_2_code, 1, (some .int), 0, 0)
theorem pl_hstep : plainFor (mN M_hstep) = true := plainFor_of_name pclsL
theorem nm_hstep : notMH M_hstep := nmhL
theorem pd_hstep : parseMethodDescriptor (mN M_hstep).desc = some ⟨[.int], some .int⟩ := by decide +kernel
def M_rngState : Mi := ((⟨"MeshAllocatorX", "rngState", "()I"⟩ : MethodName), prog_1_method_31_code, 1, (some .int), 0, 0)
theorem pl_rngState : plainFor (mN M_rngState) = true := plainFor_of_name pcls
theorem nm_rngState : notMH M_rngState := nmh
theorem pd_rngState : parseMethodDescriptor (mN M_rngState).desc = some ⟨[], some .int⟩ := by decide +kernel
def M_free : Mi := ((⟨"MeshAllocatorX", "free", "(I)Z"⟩ : MethodName), prog_1_method_16_code, 7, (some .boolean), 1, 13)
theorem pl_free : plainFor (mN M_free) = true := plainFor_of_name pcls
theorem nm_free : notMH M_free := nmh
theorem pd_free : parseMethodDescriptor (mN M_free).desc = some ⟨[.int], some .boolean⟩ := by decide +kernel
def M_liveIndex : Mi := ((⟨"MeshAllocatorX", "liveIndex", "(I)I"⟩ : MethodName), prog_1_method_17_code, 7, (some .int), 1, 14)
theorem pl_liveIndex : plainFor (mN M_liveIndex) = true := plainFor_of_name pcls
theorem nm_liveIndex : notMH M_liveIndex := nmh
theorem pd_liveIndex : parseMethodDescriptor (mN M_liveIndex).desc = some ⟨[.int], some .int⟩ := by decide +kernel
def M_write : Mi := ((⟨"MeshAllocatorX", "write", "(II)Z"⟩ : MethodName), prog_1_method_18_code, 4, (some .boolean), 2, 32)
theorem pl_write : plainFor (mN M_write) = true := plainFor_of_name pcls
theorem nm_write : notMH M_write := nmh
theorem pd_write : parseMethodDescriptor (mN M_write).desc = some ⟨[.int, .int], some .boolean⟩ := by decide +kernel
def M_mergeFrames : Mi := ((⟨"MeshAllocatorX", "mergeFrames", "(IIII)V"⟩ : MethodName), prog_1_method_23_code, 10, none, 1, 13)
theorem pl_mergeFrames : plainFor (mN M_mergeFrames) = true := plainFor_of_name pcls
theorem nm_mergeFrames : notMH M_mergeFrames := nmh
theorem pd_mergeFrames : parseMethodDescriptor (mN M_mergeFrames).desc = some ⟨[.int, .int, .int, .int], none⟩ := by decide +kernel
def M_meshInto : Mi := ((⟨"MeshAllocatorX", "meshInto", "(II)I"⟩ : MethodName), prog_1_method_22_code, 7, (some .int), 2, 34)
theorem pl_meshInto : plainFor (mN M_meshInto) = true := plainFor_of_name pcls
theorem nm_meshInto : notMH M_meshInto := nmh
theorem pd_meshInto : parseMethodDescriptor (mN M_meshInto).desc = some ⟨[.int, .int], some .int⟩ := by decide +kernel
def M_mesh : Mi := ((⟨"MeshAllocatorX", "mesh", "()I"⟩ : MethodName), prog_1_method_21_code, 4, (some .int), 3, 53)
theorem pl_mesh : plainFor (mN M_mesh) = true := plainFor_of_name pcls
theorem nm_mesh : notMH M_mesh := nmh
theorem pd_mesh : parseMethodDescriptor (mN M_mesh).desc = some ⟨[], some .int⟩ := by decide +kernel
def M_frameOf : Mi := ((⟨"MeshAllocatorX", "frameOf", "(I)I"⟩ : MethodName), prog_1_method_25_code, 2, (some .int), 0, 0)
theorem pl_frameOf : plainFor (mN M_frameOf) = true := plainFor_of_name pcls
theorem nm_frameOf : notMH M_frameOf := nmh
theorem pd_frameOf : parseMethodDescriptor (mN M_frameOf).desc = some ⟨[.int], some .int⟩ := by decide +kernel
def M_framesInUse : Mi := ((⟨"MeshAllocatorX", "framesInUse", "()I"⟩ : MethodName), prog_1_method_28_code, 3, (some .int), 1, 14)
theorem pl_framesInUse : plainFor (mN M_framesInUse) = true := plainFor_of_name pcls
theorem nm_framesInUse : notMH M_framesInUse := nmh
theorem pd_framesInUse : parseMethodDescriptor (mN M_framesInUse).desc = some ⟨[], some .int⟩ := by decide +kernel
def M_frameBits : Mi := ((⟨"MeshAllocatorX", "frameBits", "(I)I"⟩ : MethodName), prog_1_method_27_code, 2, (some .int), 1, 15)
theorem pl_frameBits : plainFor (mN M_frameBits) = true := plainFor_of_name pcls
theorem nm_frameBits : notMH M_frameBits := nmh
theorem pd_frameBits : parseMethodDescriptor (mN M_frameBits).desc = some ⟨[.int], some .int⟩ := by decide +kernel
def M_pageBits : Mi := ((⟨"MeshAllocatorX", "pageBits", "(I)I"⟩ : MethodName), prog_1_method_26_code, 2, (some .int), 0, 0)
theorem pl_pageBits : plainFor (mN M_pageBits) = true := plainFor_of_name pcls
theorem nm_pageBits : notMH M_pageBits := nmh
theorem pd_pageBits : parseMethodDescriptor (mN M_pageBits).desc = some ⟨[.int], some .int⟩ := by decide +kernel
def M_read : Mi := ((⟨"MeshAllocatorX", "read", "(I)I"⟩ : MethodName), prog_1_method_19_code, 3, (some .int), 2, 32)
theorem pl_read : plainFor (mN M_read) = true := plainFor_of_name pcls
theorem nm_read : notMH M_read := nmh
theorem pd_read : parseMethodDescriptor (mN M_read).desc = some ⟨[.int], some .int⟩ := by decide +kernel
def M_popCount : Mi := ((⟨"MeshAllocatorX", "popCount", "(I)I"⟩ : MethodName), prog_1_method_10_code, 4, (some .int), 0, 0)
theorem pl_popCount : plainFor (mN M_popCount) = true := plainFor_of_name pcls
theorem nm_popCount : notMH M_popCount := nmh
theorem pd_popCount : parseMethodDescriptor (mN M_popCount).desc = some ⟨[.int], some .int⟩ := by decide +kernel
def M_liveObjects : Mi := ((⟨"MeshAllocatorX", "liveObjects", "()I"⟩ : MethodName), prog_1_method_30_code, 3, (some .int), 1, 16)
theorem pl_liveObjects : plainFor (mN M_liveObjects) = true := plainFor_of_name pcls
theorem nm_liveObjects : notMH M_liveObjects := nmh
theorem pd_liveObjects : parseMethodDescriptor (mN M_liveObjects).desc = some ⟨[], some .int⟩ := by decide +kernel
def M_pagesInUse : Mi := ((⟨"MeshAllocatorX", "pagesInUse", "()I"⟩ : MethodName), prog_1_method_29_code, 3, (some .int), 0, 0)
theorem pl_pagesInUse : plainFor (mN M_pagesInUse) = true := plainFor_of_name pcls
theorem nm_pagesInUse : notMH M_pagesInUse := nmh
theorem pd_pagesInUse : parseMethodDescriptor (mN M_pagesInUse).desc = some ⟨[], some .int⟩ := by decide +kernel
def M_law : Mi := (x, code, maxLocals, ret, 4, 68)
theorem pl_law : plainFor (mN M_law) = true := plainFor_of_name (by first | (simp [plainName, overriddenIn, x]; done) | decide +kernel)
def c2 : List (Nat × Instr × Nat) := [(0, .iload_n 1, 1), (1, .iload_n 2, 1), (2, .if_icmp .ge 5, 3), (5, .iload_n 2, 1), (6, .ireturn, 1), (7, .iload_n 1, 1), (8, .iload_n 3, 1), (9, .if_icmp .le 5, 3), (12, .iload_n 3, 1), (13, .ireturn, 1), (14, .iload_n 1, 1), (15, .ireturn, 1)]
theorem D2 : decs prog_1_method_2_code c2 = true := by decide +kernel
theorem d2 (k : Nat) {p : Nat} {i : Instr} {n : Nat} (h : c2[k]? = some (p, i, n)) : decode prog_1_method_2_code p = .ok (i, n) := dget D2 h
def c0 : List (Nat × Instr × Nat) := [(0, .aload_n 0, 1), (1, .invokespecial 1, 3), (4, .aload_n 0, 1), (5, .bipush 16, 2), (7, .newarray .int, 2), (9, .putfield 7, 3), (12, .aload_n 0, 1), (13, .bipush 16, 2), (15, .newarray .int, 2), (17, .putfield 13, 3), (20, .aload_n 0, 1), (21, .bipush 16, 2), (23, .newarray .int, 2), (25, .putfield 16, 3), (28, .aload_n 0, 1), (29, .sipush 256, 3), (32, .newarray .int, 2), (34, .putfield 19, 3), (37, .aload_n 0, 1), (38, .aload_n 0, 1), (39, .iload_n 1, 1), (40, .iconst 2, 1), (41, .bipush 16, 2), (43, .invokevirtual 22, 3), (46, .putfield 26, 3), (49, .aload_n 0, 1), (50, .aload_n 0, 1), (51, .iload_n 2, 1), (52, .iconst 1, 1), (53, .bipush 16, 2), (55, .invokevirtual 22, 3), (58, .putfield 30, 3), (61, .aload_n 0, 1), (62, .aload_n 0, 1), (63, .iload_n 3, 1), (64, .iconst 0, 1), (65, .ldc 33, 2), (67, .invokevirtual 22, 3), (70, .putfield 34, 3), (73, .iconst 0, 1), (74, .istore 4, 2), (76, .iload 4, 2), (78, .bipush 16, 2), (80, .if_icmp .ge 33, 3), (83, .aload_n 0, 1), (84, .getfield 7, 3), (87, .iload 4, 2), (89, .iconst (-1), 1), (90, .iastore, 1), (91, .aload_n 0, 1), (92, .getfield 13, 3), (95, .iload 4, 2), (97, .iconst (-1), 1), (98, .iastore, 1), (99, .aload_n 0, 1), (100, .getfield 16, 3), (103, .iload 4, 2), (105, .iconst 0, 1), (106, .iastore, 1), (107, .iinc 4 1, 3), (110, .goto (-34), 3), (113, .return_, 1)]
theorem D0 : decs prog_1_method_1_code c0 = true := by decide +kernel
theorem d0 (k : Nat) {p : Nat} {i : Instr} {n : Nat} (h : c0[k]? = some (p, i, n)) : decode prog_1_method_1_code p = .ok (i, n) := dget D0 h
def c5 : List (Nat × Instr × Nat) := [(0, .bipush 16, 2), (2, .iload_n 1, 1), (3, .ishr, 1), (4, .ireturn, 1)]
theorem D5 : decs prog_1_method_3_code c5 = true := by decide +kernel
theorem d5 (k : Nat) {p : Nat} {i : Instr} {n : Nat} (h : c5[k]? = some (p, i, n)) : decode prog_1_method_3_code p = .ok (i, n) := dget D5 h
def c11 : List (Nat × Instr × Nat) := [(0, .iconst 0, 1), (1, .istore_n 2, 1), (2, .iconst 0, 1), (3, .istore_n 3, 1), (4, .iload_n 3, 1), (5, .aload_n 0, 1), (6, .getfield 26, 3), (9, .if_icmp .ge 38, 3), (12, .aload_n 0, 1), (13, .getfield 7, 3), (16, .iload_n 3, 1), (17, .iaload, 1), (18, .iconst (-1), 1), (19, .if_icmp .eq 22, 3), (22, .aload_n 0, 1), (23, .getfield 13, 3), (26, .iload_n 3, 1), (27, .iaload, 1), (28, .iload_n 1, 1), (29, .if_icmp .ne 12, 3), (32, .iload_n 2, 1), (33, .aload_n 0, 1), (34, .getfield 16, 3), (37, .iload_n 3, 1), (38, .iaload, 1), (39, .ior, 1), (40, .istore_n 2, 1), (41, .iinc 3 1, 3), (44, .goto (-40), 3), (47, .iload_n 2, 1), (48, .ireturn, 1)]
theorem D11 : decs prog_1_method_6_code c11 = true := by decide +kernel
theorem d11 (k : Nat) {p : Nat} {i : Instr} {n : Nat} (h : c11[k]? = some (p, i, n)) : decode prog_1_method_6_code p = .ok (i, n) := dget D11 h
def c12 : List (Nat × Instr × Nat) := [(0, .iconst 0, 1), (1, .istore_n 3, 1), (2, .iconst 0, 1), (3, .istore 4, 2), (5, .iload 4, 2), (7, .iload_n 2, 1), (8, .if_icmp .ge 21, 3), (11, .iload_n 1, 1), (12, .iload 4, 2), (14, .iushr, 1), (15, .iconst 1, 1), (16, .iand, 1), (17, .ifCond .ne 6, 3), (20, .iinc 3 1, 3), (23, .iinc 4 1, 3), (26, .goto (-21), 3), (29, .iload_n 3, 1), (30, .ireturn, 1)]
theorem D12 : decs prog_1_method_8_code c12 = true := by decide +kernel
theorem d12 (k : Nat) {p : Nat} {i : Instr} {n : Nat} (h : c12[k]? = some (p, i, n)) : decode prog_1_method_8_code p = .ok (i, n) := dget D12 h
def c4 : List (Nat × Instr × Nat) := [(0, .aload_n 0, 1), (1, .iload_n 1, 1), (2, .invokevirtual 38, 3), (5, .istore_n 2, 1), (6, .iconst 0, 1), (7, .istore_n 3, 1), (8, .iload_n 3, 1), (9, .aload_n 0, 1), (10, .getfield 26, 3), (13, .if_icmp .ge 43, 3), (16, .aload_n 0, 1), (17, .getfield 7, 3), (20, .iload_n 3, 1), (21, .iaload, 1), (22, .iload_n 1, 1), (23, .if_icmp .ne 27, 3), (26, .aload_n 0, 1), (27, .aload_n 0, 1), (28, .getfield 13, 3), (31, .iload_n 3, 1), (32, .iaload, 1), (33, .invokevirtual 42, 3), (36, .istore 4, 2), (38, .aload_n 0, 1), (39, .iload 4, 2), (41, .iload_n 2, 1), (42, .invokevirtual 45, 3), (45, .ifCond .le 5, 3), (48, .iload_n 3, 1), (49, .ireturn, 1), (50, .iinc 3 1, 3), (53, .goto (-45), 3), (56, .iconst (-1), 1), (57, .ireturn, 1)]
theorem D4 : decs prog_1_method_11_code c4 = true := by decide +kernel
theorem d4 (k : Nat) {p : Nat} {i : Instr} {n : Nat} (h : c4[k]? = some (p, i, n)) : decode prog_1_method_11_code p = .ok (i, n) := dget D4 h
def c6 : List (Nat × Instr × Nat) := [(0, .iconst 0, 1), (1, .istore_n 1, 1), (2, .iload_n 1, 1), (3, .aload_n 0, 1), (4, .getfield 26, 3), (7, .if_icmp .ge 21, 3), (10, .aload_n 0, 1), (11, .getfield 7, 3), (14, .iload_n 1, 1), (15, .iaload, 1), (16, .iconst (-1), 1), (17, .if_icmp .ne 5, 3), (20, .iload_n 1, 1), (21, .ireturn, 1), (22, .iinc 1 1, 3), (25, .goto (-23), 3), (28, .iconst (-1), 1), (29, .ireturn, 1)]
theorem D6 : decs prog_1_method_12_code c6 = true := by decide +kernel
theorem d6 (k : Nat) {p : Nat} {i : Instr} {n : Nat} (h : c6[k]? = some (p, i, n)) : decode prog_1_method_12_code p = .ok (i, n) := dget D6 h
def c8 : List (Nat × Instr × Nat) := [(0, .iconst 0, 1), (1, .istore_n 2, 1), (2, .iload_n 2, 1), (3, .aload_n 0, 1), (4, .getfield 26, 3), (7, .if_icmp .ge 36, 3), (10, .aload_n 0, 1), (11, .getfield 7, 3), (14, .iload_n 2, 1), (15, .iaload, 1), (16, .iconst (-1), 1), (17, .if_icmp .eq 20, 3), (20, .aload_n 0, 1), (21, .getfield 13, 3), (24, .iload_n 2, 1), (25, .iaload, 1), (26, .iload_n 1, 1), (27, .if_icmp .ne 10, 3), (30, .aload_n 0, 1), (31, .getfield 7, 3), (34, .iload_n 2, 1), (35, .iaload, 1), (36, .ireturn, 1), (37, .iinc 2 1, 3), (40, .goto (-38), 3), (43, .iconst (-1), 1), (44, .ireturn, 1)]
theorem D8 : decs prog_1_method_7_code c8 = true := by decide +kernel
theorem d8 (k : Nat) {p : Nat} {i : Instr} {n : Nat} (h : c8[k]? = some (p, i, n)) : decode prog_1_method_7_code p = .ok (i, n) := dget D8 h
def c7 : List (Nat × Instr × Nat) := [(0, .iconst 0, 1), (1, .istore_n 1, 1), (2, .iload_n 1, 1), (3, .aload_n 0, 1), (4, .getfield 30, 3), (7, .if_icmp .ge 20, 3), (10, .aload_n 0, 1), (11, .iload_n 1, 1), (12, .invokevirtual 49, 3), (15, .iconst (-1), 1), (16, .if_icmp .ne 5, 3), (19, .iload_n 1, 1), (20, .ireturn, 1), (21, .iinc 1 1, 3), (24, .goto (-22), 3), (27, .iconst (-1), 1), (28, .ireturn, 1)]
theorem D7 : decs prog_1_method_13_code c7 = true := by decide +kernel
theorem d7 (k : Nat) {p : Nat} {i : Instr} {n : Nat} (h : c7[k]? = some (p, i, n)) : decode prog_1_method_13_code p = .ok (i, n) := dget D7 h
def c10 : List (Nat × Instr × Nat) := [(0, .iconst 1, 1), (1, .iload_n 1, 1), (2, .ishl, 1), (3, .ireturn, 1)]
theorem D10 : decs prog_1_method_4_code c10 = true := by decide +kernel
theorem d10 (k : Nat) {p : Nat} {i : Instr} {n : Nat} (h : c10[k]? = some (p, i, n)) : decode prog_1_method_4_code p = .ok (i, n) := dget D10 h
def c13 : List (Nat × Instr × Nat) := [(0, .aload_n 0, 1), (1, .aload_n 0, 1), (2, .getfield 34, 3), (5, .ldc 37, 2), (7, .imul, 1), (8, .sipush 12345, 3), (11, .iadd, 1), (12, .putfield 34, 3), (15, .aload_n 0, 1), (16, .getfield 34, 3), (19, .bipush 16, 2), (21, .iushr, 1), (22, .sipush 32767, 3), (25, .iand, 1), (26, .ireturn, 1)]
theorem D13 : decs prog_1_method_5_code c13 = true := by decide +kernel
theorem d13 (k : Nat) {p : Nat} {i : Instr} {n : Nat} (h : c13[k]? = some (p, i, n)) : decode prog_1_method_5_code p = .ok (i, n) := dget D13 h
def c14 : List (Nat × Instr × Nat) := [(0, .iload_n 3, 1), (1, .istore 4, 2), (3, .iconst 0, 1), (4, .istore 5, 2), (6, .iload 5, 2), (8, .iload_n 2, 1), (9, .if_icmp .ge 29, 3), (12, .iload_n 1, 1), (13, .iload 5, 2), (15, .iushr, 1), (16, .iconst 1, 1), (17, .iand, 1), (18, .ifCond .ne 14, 3), (21, .iload 4, 2), (23, .ifCond .ne 6, 3), (26, .iload 5, 2), (28, .ireturn, 1), (29, .iinc 4 (-1), 3), (32, .iinc 5 1, 3), (35, .goto (-29), 3), (38, .iconst 0, 1), (39, .ireturn, 1)]
theorem D14 : decs prog_1_method_9_code c14 = true := by decide +kernel
theorem d14 (k : Nat) {p : Nat} {i : Instr} {n : Nat} (h : c14[k]? = some (p, i, n)) : decode prog_1_method_9_code p = .ok (i, n) := dget D14 h
def c9 : List (Nat × Instr × Nat) := [(0, .aload_n 0, 1), (1, .iload_n 2, 1), (2, .invokevirtual 38, 3), (5, .istore_n 3, 1), (6, .aload_n 0, 1), (7, .iload_n 2, 1), (8, .invokevirtual 65, 3), (11, .istore 4, 2), (13, .aload_n 0, 1), (14, .getfield 13, 3), (17, .iload_n 1, 1), (18, .iaload, 1), (19, .istore 5, 2), (21, .aload_n 0, 1), (22, .iload 5, 2), (24, .invokevirtual 42, 3), (27, .istore 6, 2), (29, .aload_n 0, 1), (30, .iload 6, 2), (32, .iload_n 3, 1), (33, .invokevirtual 45, 3), (36, .istore 7, 2), (38, .iload 7, 2), (40, .iconst 1, 1), (41, .if_icmp .ge 6, 3), (44, .iconst 1, 1), (45, .istore 7, 2), (47, .aload_n 0, 1), (48, .invokevirtual 68, 3), (51, .istore 8, 2), (53, .aload_n 0, 1), (54, .iload 6, 2), (56, .iload_n 3, 1), (57, .iload 8, 2), (59, .iload 7, 2), (61, .irem, 1), (62, .invokevirtual 71, 3), (65, .istore 9, 2), (67, .aload_n 0, 1), (68, .getfield 16, 3), (71, .iload_n 1, 1), (72, .dup2, 1), (73, .iaload, 1), (74, .iconst 1, 1), (75, .iload 9, 2), (77, .ishl, 1), (78, .ior, 1), (79, .iastore, 1), (80, .iload 5, 2), (82, .bipush 16, 2), (84, .imul, 1), (85, .iload 9, 2), (87, .iload 4, 2), (89, .imul, 1), (90, .iadd, 1), (91, .istore 10, 2), (93, .iconst 0, 1), (94, .istore 11, 2), (96, .iload 11, 2), (98, .iload 4, 2), (100, .if_icmp .ge 37, 3), (103, .iload 10, 2), (105, .iload 11, 2), (107, .iadd, 1), (108, .istore 12, 2), (110, .iload 12, 2), (112, .ifCond .lt 19, 3), (115, .iload 12, 2), (117, .sipush 256, 3), (120, .if_icmp .ge 11, 3), (123, .aload_n 0, 1), (124, .getfield 19, 3), (127, .iload 12, 2), (129, .iconst 0, 1), (130, .iastore, 1), (131, .iinc 11 1, 3), (134, .goto (-38), 3), (137, .iload_n 1, 1), (138, .bipush 16, 2), (140, .imul, 1), (141, .iload 9, 2), (143, .iload 4, 2), (145, .imul, 1), (146, .iadd, 1), (147, .ireturn, 1)]
theorem D9 : decs prog_1_method_15_code c9 = true := by decide +kernel
theorem d9 (k : Nat) {p : Nat} {i : Instr} {n : Nat} (h : c9[k]? = some (p, i, n)) : decode prog_1_method_15_code p = .ok (i, n) := dget D9 h
def c3 : List (Nat × Instr × Nat) := [(0, .iload_n 1, 1), (1, .ifCond .lt 8, 3), (4, .iload_n 1, 1), (5, .iconst 2, 1), (6, .if_icmp .le 5, 3), (9, .iconst (-1), 1), (10, .ireturn, 1), (11, .aload_n 0, 1), (12, .iload_n 1, 1), (13, .invokevirtual 52, 3), (16, .istore_n 2, 1), (17, .iload_n 2, 1), (18, .ifCond .ge 48, 3), (21, .aload_n 0, 1), (22, .invokevirtual 55, 3), (25, .istore_n 2, 1), (26, .iload_n 2, 1), (27, .ifCond .ge 6, 3), (30, .bipush (-2), 2), (32, .ireturn, 1), (33, .aload_n 0, 1), (34, .invokevirtual 59, 3), (37, .istore_n 3, 1), (38, .iload_n 3, 1), (39, .ifCond .ge 6, 3), (42, .bipush (-3), 2), (44, .ireturn, 1), (45, .aload_n 0, 1), (46, .getfield 7, 3), (49, .iload_n 2, 1), (50, .iload_n 1, 1), (51, .iastore, 1), (52, .aload_n 0, 1), (53, .getfield 13, 3), (56, .iload_n 2, 1), (57, .iload_n 3, 1), (58, .iastore, 1), (59, .aload_n 0, 1), (60, .getfield 16, 3), (63, .iload_n 2, 1), (64, .iconst 0, 1), (65, .iastore, 1), (66, .aload_n 0, 1), (67, .iload_n 2, 1), (68, .iload_n 1, 1), (69, .invokevirtual 62, 3), (72, .ireturn, 1)]
theorem D3 : decs prog_1_method_14_code c3 = true := by decide +kernel
theorem d3 (k : Nat) {p : Nat} {i : Instr} {n : Nat} (h : c3[k]? = some (p, i, n)) : decode prog_1_method_14_code p = .ok (i, n) := dget D3 h
def c15 : List (Nat × Instr × Nat) := [(0, .iload_n 0, 1), (1, .ldc 7, 2), (3, .imul, 1), (4, .sipush 12345, 3), (7, .iadd, 1), (8, .ireturn, 1)]
theorem D15 : decs method_2_code c15 = true := by decide +kernel
theorem d15 (k : Nat) {p : Nat} {i : Instr} {n : Nat} (h : c15[k]? = some (p, i, n)) : decode method_2_code p = .ok (i, n) := dget D15 h
def c16 : List (Nat × Instr × Nat) := [(0, .aload_n 0, 1), (1, .getfield 34, 3), (4, .ireturn, 1)]
theorem D16 : decs prog_1_method_31_code c16 = true := by decide +kernel
theorem d16 (k : Nat) {p : Nat} {i : Instr} {n : Nat} (h : c16[k]? = some (p, i, n)) : decode prog_1_method_31_code p = .ok (i, n) := dget D16 h
def c17 : List (Nat × Instr × Nat) := [(0, .iload_n 1, 1), (1, .ifCond .lt 14, 3), (4, .iload_n 1, 1), (5, .aload_n 0, 1), (6, .getfield 26, 3), (9, .bipush 16, 2), (11, .imul, 1), (12, .if_icmp .lt 5, 3), (15, .iconst 0, 1), (16, .ireturn, 1), (17, .iload_n 1, 1), (18, .bipush 16, 2), (20, .idiv, 1), (21, .istore_n 2, 1), (22, .aload_n 0, 1), (23, .getfield 7, 3), (26, .iload_n 2, 1), (27, .iaload, 1), (28, .istore_n 3, 1), (29, .iload_n 3, 1), (30, .iconst (-1), 1), (31, .if_icmp .ne 5, 3), (34, .iconst 0, 1), (35, .ireturn, 1), (36, .iload_n 1, 1), (37, .bipush 16, 2), (39, .irem, 1), (40, .istore 4, 2), (42, .aload_n 0, 1), (43, .iload_n 3, 1), (44, .invokevirtual 65, 3), (47, .istore 5, 2), (49, .iload 4, 2), (51, .iload 5, 2), (53, .irem, 1), (54, .ifCond .eq 5, 3), (57, .iconst 0, 1), (58, .ireturn, 1), (59, .iload 4, 2), (61, .iload 5, 2), (63, .idiv, 1), (64, .istore 6, 2), (66, .aload_n 0, 1), (67, .getfield 16, 3), (70, .iload_n 2, 1), (71, .iaload, 1), (72, .iload 6, 2), (74, .iushr, 1), (75, .iconst 1, 1), (76, .iand, 1), (77, .ifCond .ne 5, 3), (80, .iconst 0, 1), (81, .ireturn, 1), (82, .aload_n 0, 1), (83, .getfield 16, 3), (86, .iload_n 2, 1), (87, .dup2, 1), (88, .iaload, 1), (89, .iconst 1, 1), (90, .iload 6, 2), (92, .ishl, 1), (93, .iconst (-1), 1), (94, .ixor, 1), (95, .iand, 1), (96, .iastore, 1), (97, .aload_n 0, 1), (98, .getfield 16, 3), (101, .iload_n 2, 1), (102, .iaload, 1), (103, .ifCond .ne 17, 3), (106, .aload_n 0, 1), (107, .getfield 7, 3), (110, .iload_n 2, 1), (111, .iconst (-1), 1), (112, .iastore, 1), (113, .aload_n 0, 1), (114, .getfield 13, 3), (117, .iload_n 2, 1), (118, .iconst (-1), 1), (119, .iastore, 1), (120, .iconst 1, 1), (121, .ireturn, 1)]
theorem D17 : decs prog_1_method_16_code c17 = true := by decide +kernel
theorem d17 (k : Nat) {p : Nat} {i : Instr} {n : Nat} (h : c17[k]? = some (p, i, n)) : decode prog_1_method_16_code p = .ok (i, n) := dget D17 h
def c19 : List (Nat × Instr × Nat) := [(0, .iload_n 1, 1), (1, .ifCond .lt 14, 3), (4, .iload_n 1, 1), (5, .aload_n 0, 1), (6, .getfield 26, 3), (9, .bipush 16, 2), (11, .imul, 1), (12, .if_icmp .lt 5, 3), (15, .iconst (-1), 1), (16, .ireturn, 1), (17, .iload_n 1, 1), (18, .bipush 16, 2), (20, .idiv, 1), (21, .istore_n 2, 1), (22, .aload_n 0, 1), (23, .getfield 7, 3), (26, .iload_n 2, 1), (27, .iaload, 1), (28, .istore_n 3, 1), (29, .iload_n 3, 1), (30, .iconst (-1), 1), (31, .if_icmp .ne 5, 3), (34, .iconst (-1), 1), (35, .ireturn, 1), (36, .iload_n 1, 1), (37, .bipush 16, 2), (39, .irem, 1), (40, .istore 4, 2), (42, .iload 4, 2), (44, .aload_n 0, 1), (45, .iload_n 3, 1), (46, .invokevirtual 65, 3), (49, .idiv, 1), (50, .istore 5, 2), (52, .aload_n 0, 1), (53, .getfield 16, 3), (56, .iload_n 2, 1), (57, .iaload, 1), (58, .iload 5, 2), (60, .iushr, 1), (61, .iconst 1, 1), (62, .iand, 1), (63, .ifCond .ne 5, 3), (66, .iconst (-1), 1), (67, .ireturn, 1), (68, .aload_n 0, 1), (69, .getfield 13, 3), (72, .iload_n 2, 1), (73, .iaload, 1), (74, .istore 6, 2), (76, .iload 6, 2), (78, .ifCond .lt 12, 3), (81, .iload 6, 2), (83, .aload_n 0, 1), (84, .getfield 30, 3), (87, .if_icmp .lt 5, 3), (90, .iconst (-1), 1), (91, .ireturn, 1), (92, .iload 6, 2), (94, .bipush 16, 2), (96, .imul, 1), (97, .iload 4, 2), (99, .iadd, 1), (100, .ireturn, 1)]
theorem D19 : decs prog_1_method_17_code c19 = true := by decide +kernel
theorem d19 (k : Nat) {p : Nat} {i : Instr} {n : Nat} (h : c19[k]? = some (p, i, n)) : decode prog_1_method_17_code p = .ok (i, n) := dget D19 h
def c18 : List (Nat × Instr × Nat) := [(0, .aload_n 0, 1), (1, .iload_n 1, 1), (2, .invokevirtual 74, 3), (5, .istore_n 3, 1), (6, .iload_n 3, 1), (7, .ifCond .ge 5, 3), (10, .iconst 0, 1), (11, .ireturn, 1), (12, .aload_n 0, 1), (13, .getfield 19, 3), (16, .iload_n 3, 1), (17, .iload_n 2, 1), (18, .iastore, 1), (19, .iconst 1, 1), (20, .ireturn, 1)]
theorem D18 : decs prog_1_method_18_code c18 = true := by decide +kernel
theorem d18 (k : Nat) {p : Nat} {i : Instr} {n : Nat} (h : c18[k]? = some (p, i, n)) : decode prog_1_method_18_code p = .ok (i, n) := dget D18 h
def c22 : List (Nat × Instr × Nat) := [(0, .aload_n 0, 1), (1, .iload_n 3, 1), (2, .invokevirtual 38, 3), (5, .istore 5, 2), (7, .aload_n 0, 1), (8, .iload_n 3, 1), (9, .invokevirtual 65, 3), (12, .istore 6, 2), (14, .iconst 0, 1), (15, .istore 7, 2), (17, .iload 7, 2), (19, .iload 5, 2), (21, .if_icmp .ge 69, 3), (24, .iload 4, 2), (26, .iload 7, 2), (28, .iushr, 1), (29, .iconst 1, 1), (30, .iand, 1), (31, .ifCond .eq 53, 3), (34, .iconst 0, 1), (35, .istore 8, 2), (37, .iload 8, 2), (39, .iload 6, 2), (41, .if_icmp .ge 43, 3), (44, .iload 7, 2), (46, .iload 6, 2), (48, .imul, 1), (49, .iload 8, 2), (51, .iadd, 1), (52, .istore 9, 2), (54, .aload_n 0, 1), (55, .getfield 19, 3), (58, .iload_n 1, 1), (59, .bipush 16, 2), (61, .imul, 1), (62, .iload 9, 2), (64, .iadd, 1), (65, .aload_n 0, 1), (66, .getfield 19, 3), (69, .iload_n 2, 1), (70, .bipush 16, 2), (72, .imul, 1), (73, .iload 9, 2), (75, .iadd, 1), (76, .iaload, 1), (77, .iastore, 1), (78, .iinc 8 1, 3), (81, .goto (-44), 3), (84, .iinc 7 1, 3), (87, .goto (-70), 3), (90, .iconst 0, 1), (91, .istore 7, 2), (93, .iload 7, 2), (95, .aload_n 0, 1), (96, .getfield 26, 3), (99, .if_icmp .ge 39, 3), (102, .aload_n 0, 1), (103, .getfield 7, 3), (106, .iload 7, 2), (108, .iaload, 1), (109, .iconst (-1), 1), (110, .if_icmp .eq 22, 3), (113, .aload_n 0, 1), (114, .getfield 13, 3), (117, .iload 7, 2), (119, .iaload, 1), (120, .iload_n 2, 1), (121, .if_icmp .ne 11, 3), (124, .aload_n 0, 1), (125, .getfield 13, 3), (128, .iload 7, 2), (130, .iload_n 1, 1), (131, .iastore, 1), (132, .iinc 7 1, 3), (135, .goto (-42), 3), (138, .return_, 1)]
theorem D22 : decs prog_1_method_23_code c22 = true := by decide +kernel
theorem d22 (k : Nat) {p : Nat} {i : Instr} {n : Nat} (h : c22[k]? = some (p, i, n)) : decode prog_1_method_23_code p = .ok (i, n) := dget D22 h
def c21 : List (Nat × Instr × Nat) := [(0, .iconst 0, 1), (1, .istore_n 3, 1), (2, .iload_n 1, 1), (3, .iconst 1, 1), (4, .iadd, 1), (5, .istore 4, 2), (7, .iload 4, 2), (9, .aload_n 0, 1), (10, .getfield 30, 3), (13, .if_icmp .ge 55, 3), (16, .aload_n 0, 1), (17, .iload 4, 2), (19, .invokevirtual 49, 3), (22, .iload_n 2, 1), (23, .if_icmp .ne 39, 3), (26, .aload_n 0, 1), (27, .iload_n 1, 1), (28, .invokevirtual 42, 3), (31, .istore 5, 2), (33, .aload_n 0, 1), (34, .iload 4, 2), (36, .invokevirtual 42, 3), (39, .istore 6, 2), (41, .iload 5, 2), (43, .iload 6, 2), (45, .iand, 1), (46, .ifCond .ne 16, 3), (49, .aload_n 0, 1), (50, .iload_n 1, 1), (51, .iload 4, 2), (53, .iload_n 2, 1), (54, .iload 6, 2), (56, .invokevirtual 80, 3), (59, .iinc 3 1, 3), (62, .iinc 4 1, 3), (65, .goto (-58), 3), (68, .iload_n 3, 1), (69, .ireturn, 1)]
theorem D21 : decs prog_1_method_22_code c21 = true := by decide +kernel
theorem d21 (k : Nat) {p : Nat} {i : Instr} {n : Nat} (h : c21[k]? = some (p, i, n)) : decode prog_1_method_22_code p = .ok (i, n) := dget D21 h
def c20 : List (Nat × Instr × Nat) := [(0, .iconst 0, 1), (1, .istore_n 1, 1), (2, .iconst 0, 1), (3, .istore_n 2, 1), (4, .iload_n 2, 1), (5, .iconst 2, 1), (6, .if_icmp .gt 43, 3), (9, .iconst 0, 1), (10, .istore_n 3, 1), (11, .iload_n 3, 1), (12, .aload_n 0, 1), (13, .getfield 30, 3), (16, .if_icmp .ge 27, 3), (19, .aload_n 0, 1), (20, .iload_n 3, 1), (21, .invokevirtual 49, 3), (24, .iload_n 2, 1), (25, .if_icmp .ne 12, 3), (28, .iload_n 1, 1), (29, .aload_n 0, 1), (30, .iload_n 3, 1), (31, .iload_n 2, 1), (32, .invokevirtual 77, 3), (35, .iadd, 1), (36, .istore_n 1, 1), (37, .iinc 3 1, 3), (40, .goto (-29), 3), (43, .iinc 2 1, 3), (46, .goto (-42), 3), (49, .iload_n 1, 1), (50, .ireturn, 1)]
theorem D20 : decs prog_1_method_21_code c20 = true := by decide +kernel
theorem d20 (k : Nat) {p : Nat} {i : Instr} {n : Nat} (h : c20[k]? = some (p, i, n)) : decode prog_1_method_21_code p = .ok (i, n) := dget D20 h
def c23 : List (Nat × Instr × Nat) := [(0, .iload_n 1, 1), (1, .ifCond .lt 21, 3), (4, .iload_n 1, 1), (5, .aload_n 0, 1), (6, .getfield 26, 3), (9, .if_icmp .ge 13, 3), (12, .aload_n 0, 1), (13, .getfield 7, 3), (16, .iload_n 1, 1), (17, .iaload, 1), (18, .iconst (-1), 1), (19, .if_icmp .ne 5, 3), (22, .iconst (-1), 1), (23, .ireturn, 1), (24, .aload_n 0, 1), (25, .getfield 13, 3), (28, .iload_n 1, 1), (29, .iaload, 1), (30, .ireturn, 1)]
theorem D23 : decs prog_1_method_25_code c23 = true := by decide +kernel
theorem d23 (k : Nat) {p : Nat} {i : Instr} {n : Nat} (h : c23[k]? = some (p, i, n)) : decode prog_1_method_25_code p = .ok (i, n) := dget D23 h
def c24 : List (Nat × Instr × Nat) := [(0, .iconst 0, 1), (1, .istore_n 1, 1), (2, .iconst 0, 1), (3, .istore_n 2, 1), (4, .iload_n 2, 1), (5, .aload_n 0, 1), (6, .getfield 30, 3), (9, .if_icmp .ge 21, 3), (12, .aload_n 0, 1), (13, .iload_n 2, 1), (14, .invokevirtual 49, 3), (17, .iconst (-1), 1), (18, .if_icmp .eq 6, 3), (21, .iinc 1 1, 3), (24, .iinc 2 1, 3), (27, .goto (-23), 3), (30, .iload_n 1, 1), (31, .ireturn, 1)]
theorem D24 : decs prog_1_method_28_code c24 = true := by decide +kernel
theorem d24 (k : Nat) {p : Nat} {i : Instr} {n : Nat} (h : c24[k]? = some (p, i, n)) : decode prog_1_method_28_code p = .ok (i, n) := dget D24 h
def c25 : List (Nat × Instr × Nat) := [(0, .iload_n 1, 1), (1, .ifCond .lt 11, 3), (4, .iload_n 1, 1), (5, .aload_n 0, 1), (6, .getfield 30, 3), (9, .if_icmp .lt 5, 3), (12, .iconst 0, 1), (13, .ireturn, 1), (14, .aload_n 0, 1), (15, .iload_n 1, 1), (16, .invokevirtual 42, 3), (19, .ireturn, 1)]
theorem D25 : decs prog_1_method_27_code c25 = true := by decide +kernel
theorem d25 (k : Nat) {p : Nat} {i : Instr} {n : Nat} (h : c25[k]? = some (p, i, n)) : decode prog_1_method_27_code p = .ok (i, n) := dget D25 h
def c26 : List (Nat × Instr × Nat) := [(0, .iload_n 1, 1), (1, .ifCond .lt 21, 3), (4, .iload_n 1, 1), (5, .aload_n 0, 1), (6, .getfield 26, 3), (9, .if_icmp .ge 13, 3), (12, .aload_n 0, 1), (13, .getfield 7, 3), (16, .iload_n 1, 1), (17, .iaload, 1), (18, .iconst (-1), 1), (19, .if_icmp .ne 5, 3), (22, .iconst 0, 1), (23, .ireturn, 1), (24, .aload_n 0, 1), (25, .getfield 16, 3), (28, .iload_n 1, 1), (29, .iaload, 1), (30, .ireturn, 1)]
theorem D26 : decs prog_1_method_26_code c26 = true := by decide +kernel
theorem d26 (k : Nat) {p : Nat} {i : Instr} {n : Nat} (h : c26[k]? = some (p, i, n)) : decode prog_1_method_26_code p = .ok (i, n) := dget D26 h
def c27 : List (Nat × Instr × Nat) := [(0, .aload_n 0, 1), (1, .iload_n 1, 1), (2, .invokevirtual 74, 3), (5, .istore_n 2, 1), (6, .iload_n 2, 1), (7, .ifCond .ge 5, 3), (10, .iconst 0, 1), (11, .ireturn, 1), (12, .aload_n 0, 1), (13, .getfield 19, 3), (16, .iload_n 2, 1), (17, .iaload, 1), (18, .ireturn, 1)]
theorem D27 : decs prog_1_method_19_code c27 = true := by decide +kernel
theorem d27 (k : Nat) {p : Nat} {i : Instr} {n : Nat} (h : c27[k]? = some (p, i, n)) : decode prog_1_method_19_code p = .ok (i, n) := dget D27 h
def c29 : List (Nat × Instr × Nat) := [(0, .iconst 0, 1), (1, .istore_n 2, 1), (2, .iconst 0, 1), (3, .istore_n 3, 1), (4, .iload_n 3, 1), (5, .bipush 32, 2), (7, .if_icmp .ge 20, 3), (10, .iload_n 1, 1), (11, .iload_n 3, 1), (12, .iushr, 1), (13, .iconst 1, 1), (14, .iand, 1), (15, .ifCond .eq 6, 3), (18, .iinc 2 1, 3), (21, .iinc 3 1, 3), (24, .goto (-20), 3), (27, .iload_n 2, 1), (28, .ireturn, 1)]
theorem D29 : decs prog_1_method_10_code c29 = true := by decide +kernel
theorem d29 (k : Nat) {p : Nat} {i : Instr} {n : Nat} (h : c29[k]? = some (p, i, n)) : decode prog_1_method_10_code p = .ok (i, n) := dget D29 h
def c28 : List (Nat × Instr × Nat) := [(0, .iconst 0, 1), (1, .istore_n 1, 1), (2, .iconst 0, 1), (3, .istore_n 2, 1), (4, .iload_n 2, 1), (5, .aload_n 0, 1), (6, .getfield 26, 3), (9, .if_icmp .ge 32, 3), (12, .aload_n 0, 1), (13, .getfield 7, 3), (16, .iload_n 2, 1), (17, .iaload, 1), (18, .iconst (-1), 1), (19, .if_icmp .eq 16, 3), (22, .iload_n 1, 1), (23, .aload_n 0, 1), (24, .aload_n 0, 1), (25, .getfield 16, 3), (28, .iload_n 2, 1), (29, .iaload, 1), (30, .invokevirtual 84, 3), (33, .iadd, 1), (34, .istore_n 1, 1), (35, .iinc 2 1, 3), (38, .goto (-34), 3), (41, .iload_n 1, 1), (42, .ireturn, 1)]
theorem D28 : decs prog_1_method_30_code c28 = true := by decide +kernel
theorem d28 (k : Nat) {p : Nat} {i : Instr} {n : Nat} (h : c28[k]? = some (p, i, n)) : decode prog_1_method_30_code p = .ok (i, n) := dget D28 h
def c30 : List (Nat × Instr × Nat) := [(0, .iconst 0, 1), (1, .istore_n 1, 1), (2, .iconst 0, 1), (3, .istore_n 2, 1), (4, .iload_n 2, 1), (5, .aload_n 0, 1), (6, .getfield 26, 3), (9, .if_icmp .ge 22, 3), (12, .aload_n 0, 1), (13, .getfield 7, 3), (16, .iload_n 2, 1), (17, .iaload, 1), (18, .iconst (-1), 1), (19, .if_icmp .eq 6, 3), (22, .iinc 1 1, 3), (25, .iinc 2 1, 3), (28, .goto (-24), 3), (31, .iload_n 1, 1), (32, .ireturn, 1)]
theorem D30 : decs prog_1_method_29_code c30 = true := by decide +kernel
theorem d30 (k : Nat) {p : Nat} {i : Instr} {n : Nat} (h : c30[k]? = some (p, i, n)) : decode prog_1_method_29_code p = .ok (i, n) := dget D30 h
def H0 : MHeap := []
def KL (s : St) : MHeap := KH flds al Ln H0 [] s
def f_clamp (s : St) (a0 : Int32) (a1 : Int32) (a2 : Int32) : Option (Int32) :=
  if a0 < a1 then
    some a1
  else
    if a2 < a0 then
      some a2
    else
      some a0
set_option maxRecDepth 100000 in
theorem e_clamp {g : GT} {s : St} {a0 : Int32} {a1 : Int32} {a2 : Int32} {w : Int32} (hw : HW g) {K : St → MHeap} {o : Nat} {r : Nat → Nat} (V : View (GG g) Ln K o r) (hr : f_clamp s a0 a1 a2 = some w) : EvC (GG g) M_clamp [.ref o, .int a0, .int a1, .int a2] (K s) ((some (.int w)), (K s)) := by
  refine EvC.enter (L0 := [.val (.ref o), .val (.int a0), .val (.int a1), .val (.int a2)]) pl_clamp (fun h => nomatch h) rfl rfl ?_
  unfold f_clamp at hr
  refine Ev.iloadN (d2 0 rfl) rfl ?_
  refine Ev.iloadN (d2 1 rfl) rfl ?_
  refine Ev.icge (t := 7) (d2 2 rfl) rfl (fun c1 => ?_) (fun c1 => ?_)
  · replace hr := (if_pos c1).symm.trans hr
    refine Ev.iloadN (d2 3 rfl) rfl ?_
    cases hr
    exact Ev.ireturn rfl (d2 4 rfl)
  · replace hr := (if_neg c1).symm.trans hr
    refine Ev.iloadN (d2 5 rfl) rfl ?_
    refine Ev.iloadN (d2 6 rfl) rfl ?_
    refine Ev.icle (t := 14) (d2 7 rfl) rfl (fun c2 => ?_) (fun c2 => ?_)
    · replace hr := (if_pos c2).symm.trans hr
      refine Ev.iloadN (d2 8 rfl) rfl ?_
      cases hr
      exact Ev.ireturn rfl (d2 9 rfl)
    · replace hr := (if_neg c2).symm.trans hr
      refine Ev.iloadN (d2 10 rfl) rfl ?_
      cases hr
      exact Ev.ireturn rfl (d2 11 rfl)
def f_ctor_76 (n : Nat) : Nat → Int32 → St → Option (St)
  | 0 => fun _ _ => none
  | k + 1 => fun x4 s =>
    if x4 < (16 : Int32) then
      grd (inb x4 16) <|
      bnd (setA s 0 (ix x4) (-1 : Int32)) fun s3 =>
      bnd (setA s3 1 (ix x4) (-1 : Int32)) fun s4 =>
      bnd (setA s4 2 (ix x4) (0 : Int32)) fun s5 =>
      f_ctor_76 n k (x4 + (1 : Int32)) s5
    else
      some s
set_option maxRecDepth 100000 in
theorem e_ctor_76 {g : GT} {n : Nat} (hw : HW g) {K : St → MHeap} {o : Nat} {r : Nat → Nat} (V : View (GG g) Ln K o r) (k : Nat) : ∀ (x4 : Int32) (s : St) (y1 : Slot) (hy1 : one1 y1 = true) (y2 : Slot) (hy2 : one1 y2 = true) (y3 : Slot) (hy3 : one1 y3 = true) (w : St), f_ctor_76 n k x4 s = some w → Ev (GG g) M_ctor 76 [.val (.ref o), y1, y2, y3, .val (.int x4)] [] (K s) (none, (K w)) := by
  induction k with
  | zero => intro x4 s y1 hy1 y2 hy2 y3 hy3 w hr; rw [f_ctor_76] at hr; cases hr
  | succ k ih =>
    intro x4 s y1 hy1 y2 hy2 y3 hy3 w hr
    rw [f_ctor_76] at hr
    refine Ev.iload (d0 41 rfl) rfl ?_
    refine Ev.bipush (z := 16) (d0 42 rfl) rfl ?_
    refine Ev.icge (t := 113) (d0 43 rfl) rfl (fun c1 => ?_) (fun c1 => ?_)
    · replace hr := (if_pos c1).symm.trans hr
      refine Ev.aloadN (d0 44 rfl) rfl ?_
      refine Ev.gAr V (ww hw 10 rfl) (d0 45 rfl) (j := 0) rfl ?_
      refine Ev.iload (d0 46 rfl) rfl ?_
      refine Ev.iconst (z := -1) (d0 47 rfl) rfl ?_
      obtain ⟨b2, hr⟩ := grd_some hr
      refine Ev.ias V (j := 0) rfl rfl (d0 48 rfl) b2 ?_
      revert hr
      generalize setA s 0 (ix x4) (-1 : Int32) = s3
      intro hr
      replace hr := (bnd_eq _ _).symm.trans hr
      refine Ev.aloadN (d0 49 rfl) rfl ?_
      refine Ev.gAr V (ww hw 12 rfl) (d0 50 rfl) (j := 1) rfl ?_
      refine Ev.iload (d0 51 rfl) rfl ?_
      refine Ev.iconst (z := -1) (d0 52 rfl) rfl ?_
      refine Ev.ias V (j := 1) rfl rfl (d0 53 rfl) b2 ?_
      revert hr
      generalize setA s3 1 (ix x4) (-1 : Int32) = s4
      intro hr
      replace hr := (bnd_eq _ _).symm.trans hr
      refine Ev.aloadN (d0 54 rfl) rfl ?_
      refine Ev.gAr V (ww hw 14 rfl) (d0 55 rfl) (j := 2) rfl ?_
      refine Ev.iload (d0 56 rfl) rfl ?_
      refine Ev.iconst (z := 0) (d0 57 rfl) rfl ?_
      refine Ev.ias V (j := 2) rfl rfl (d0 58 rfl) b2 ?_
      revert hr
      generalize setA s4 2 (ix x4) (0 : Int32) = s5
      intro hr
      replace hr := (bnd_eq _ _).symm.trans hr
      refine Ev.iinc (z := 1) (L' := [.val (.ref o), y1, y2, y3, .val (.int (x4 + (1 : Int32)))]) (d0 59 rfl) rfl rfl rfl ?_
      refine Ev.goto (t := 76) (d0 60 rfl) rfl ?_
      exact ih (x4 + (1 : Int32)) s5 y1 hy1 y2 hy2 y3 hy3 _ hr
    · replace hr := (if_neg c1).symm.trans hr
      cases hr
      exact Ev.vreturn rfl (d0 61 rfl)
def f_ctor_37 (n : Nat) (x1 : Int32) (x2 : Int32) (x3 : Int32) (s : St) : Option (St) :=
  (f_clamp s x1 (2 : Int32) (16 : Int32)).bind fun q1 =>
  bnd (setI s 4 q1) fun s3 =>
  (f_clamp s3 x2 (1 : Int32) (16 : Int32)).bind fun q4 =>
  bnd (setI s3 5 q4) fun s6 =>
  (f_clamp s6 x3 (0 : Int32) (65535 : Int32)).bind fun q7 =>
  bnd (setI s6 6 q7) fun s9 =>
  f_ctor_76 n n (0 : Int32) s9
set_option maxRecDepth 100000 in
theorem e_ctor_37 {g : GT} {n : Nat} (hw : HW g) {K : St → MHeap} {o : Nat} {r : Nat → Nat} (V : View (GG g) Ln K o r) (x1 : Int32) (x2 : Int32) (x3 : Int32) (s : St) (y4 : Slot) (hy4 : one1 y4 = true) (w : St) (hr : f_ctor_37 n x1 x2 x3 s = some w) : Ev (GG g) M_ctor 37 [.val (.ref o), .val (.int x1), .val (.int x2), .val (.int x3), y4] [] (K s) (none, (K w)) := by
  unfold f_ctor_37 at hr
  refine Ev.aloadN (d0 18 rfl) rfl ?_
  refine Ev.aloadN (d0 19 rfl) rfl ?_
  refine Ev.iloadN (d0 20 rfl) rfl ?_
  refine Ev.iconst (z := 2) (d0 21 rfl) rfl ?_
  refine Ev.bipush (z := 16) (d0 22 rfl) rfl ?_
  obtain ⟨q1, hq2, hr⟩ := Option.bind_eq_some_iff.mp hr
  refine Ev.priv (y := M_clamp) (args := [.int x1, .int (2 : Int32), .int (16 : Int32)]) (rest := [.ref o]) (gok hw) rfl nm_clamp (ww hw 18 rfl) (ww hw 19 rfl) (ww hw 20 rfl) (ww hw 21 rfl) (lenOf pd_clamp rfl) (d0 23 rfl) (V.2.1 s) (e_clamp hw V hq2) (by decide) (Nat.le_of_ble_eq_true rfl) rfl ?_
  refine Ev.pI V (gok hw) (ww hw 22 rfl) (Or.inl (ww hw 23 rfl)) (d0 24 rfl) (j := 4) rfl ?_
  revert hr
  generalize setI s 4 q1 = s3
  intro hr
  replace hr := (bnd_eq _ _).symm.trans hr
  refine Ev.aloadN (d0 25 rfl) rfl ?_
  refine Ev.aloadN (d0 26 rfl) rfl ?_
  refine Ev.iloadN (d0 27 rfl) rfl ?_
  refine Ev.iconst (z := 1) (d0 28 rfl) rfl ?_
  refine Ev.bipush (z := 16) (d0 29 rfl) rfl ?_
  obtain ⟨q4, hq5, hr⟩ := Option.bind_eq_some_iff.mp hr
  refine Ev.priv (y := M_clamp) (args := [.int x2, .int (1 : Int32), .int (16 : Int32)]) (rest := [.ref o]) (gok hw) rfl nm_clamp (ww hw 18 rfl) (ww hw 19 rfl) (ww hw 20 rfl) (ww hw 21 rfl) (lenOf pd_clamp rfl) (d0 30 rfl) (V.2.1 s3) (e_clamp hw V hq5) (by decide) (Nat.le_of_ble_eq_true rfl) rfl ?_
  refine Ev.pI V (gok hw) (ww hw 24 rfl) (Or.inl (ww hw 25 rfl)) (d0 31 rfl) (j := 5) rfl ?_
  revert hr
  generalize setI s3 5 q4 = s6
  intro hr
  replace hr := (bnd_eq _ _).symm.trans hr
  refine Ev.aloadN (d0 32 rfl) rfl ?_
  refine Ev.aloadN (d0 33 rfl) rfl ?_
  refine Ev.iloadN (d0 34 rfl) rfl ?_
  refine Ev.iconst (z := 0) (d0 35 rfl) rfl ?_
  refine Ev.ldc (ww hw 26 rfl) (d0 36 rfl) ?_
  obtain ⟨q7, hq8, hr⟩ := Option.bind_eq_some_iff.mp hr
  refine Ev.priv (y := M_clamp) (args := [.int x3, .int (0 : Int32), .int (65535 : Int32)]) (rest := [.ref o]) (gok hw) rfl nm_clamp (ww hw 18 rfl) (ww hw 19 rfl) (ww hw 20 rfl) (ww hw 21 rfl) (lenOf pd_clamp rfl) (d0 37 rfl) (V.2.1 s6) (e_clamp hw V hq8) (by decide) (Nat.le_of_ble_eq_true rfl) rfl ?_
  refine Ev.pI V (gok hw) (ww hw 27 rfl) (Or.inl (ww hw 28 rfl)) (d0 38 rfl) (j := 6) rfl ?_
  revert hr
  generalize setI s6 6 q7 = s9
  intro hr
  replace hr := (bnd_eq _ _).symm.trans hr
  refine Ev.iconst (z := 0) (d0 39 rfl) rfl ?_
  refine Ev.istD (L' := [.val (.ref o), .val (.int x1), .val (.int x2), .val (.int x3), .val (.int (0 : Int32))]) (d0 40 rfl) rfl hy4 rfl ?_
  exact e_ctor_76 hw V  n (0 : Int32) s9 (.val (.int x1)) rfl (.val (.int x2)) rfl (.val (.int x3)) rfl _ hr
def f_ctor (n : Nat) (a0 : Int32) (a1 : Int32) (a2 : Int32) : Option (St) :=
  f_ctor_37 n a0 a1 a2 zeroS
set_option maxRecDepth 100000 in
theorem e_ctor {g : GT} {n : Nat} {a0 : Int32} {a1 : Int32} {a2 : Int32} {w : St} (hw : HW g) {pre : MHeap} (hk : k0 (GG g) ≤ pre.length) (hr : f_ctor n a0 a1 a2 = some w) : EvC (GG g) M_ctor [.ref pre.length, .int a0, .int a1, .int a2] (pre ++ [.inl dfl]) (none, KH flds al Ln pre [] w) := by
  refine EvC.enter (L0 := [.val (.ref pre.length), .val (.int a0), .val (.int a1), .val (.int a2), .unset]) pl_ctor (fun _ => rfl) rfl rfl ?_
  unfold f_ctor at hr
  refine Ev.aloadN (d0 0 rfl) rfl ?_
  refine Ev.initO (ww hw 6 rfl) (ww hw 7 rfl) (ww hw 8 rfl) (d0 1 rfl) (by decide) (Nat.le_of_ble_eq_true rfl) ?_
  show Ev (GG g) M_ctor 4 _ _ (cons pre dfl []) _
  refine Ev.aloadN (d0 2 rfl) rfl ?_
  refine Ev.bipush (z := 16) (d0 3 rfl) rfl ?_
  refine Ev.cnew (aty := .int) (b := false) (k := 16) (q := 0) (as' := [(false, tab 16 (fun _ => 0))]) (ww hw 9 rfl) rfl (d0 4 rfl) (by decide) rfl (by decide) rfl rfl ?_
  refine Ev.cput (v' := .ref (pre.length + 1 + 0)) (fs' := [.ref (pre.length + 1 + 0), .null, .null, .null, .int 0, .int 0, .int 0]) (gok hw) hk (ww hw 10 rfl) (Or.inl (ww hw 11 rfl)) (d0 5 rfl) (j := 0) rfl rfl rfl ?_
  refine Ev.aloadN (d0 6 rfl) rfl ?_
  refine Ev.bipush (z := 16) (d0 7 rfl) rfl ?_
  refine Ev.cnew (aty := .int) (b := false) (k := 16) (q := 1) (as' := [(false, tab 16 (fun _ => 0)), (false, tab 16 (fun _ => 0))]) (ww hw 9 rfl) rfl (d0 8 rfl) (by decide) rfl (by decide) rfl rfl ?_
  refine Ev.cput (v' := .ref (pre.length + 1 + 1)) (fs' := [.ref (pre.length + 1 + 0), .ref (pre.length + 1 + 1), .null, .null, .int 0, .int 0, .int 0]) (gok hw) hk (ww hw 12 rfl) (Or.inl (ww hw 13 rfl)) (d0 9 rfl) (j := 1) rfl rfl rfl ?_
  refine Ev.aloadN (d0 10 rfl) rfl ?_
  refine Ev.bipush (z := 16) (d0 11 rfl) rfl ?_
  refine Ev.cnew (aty := .int) (b := false) (k := 16) (q := 2) (as' := [(false, tab 16 (fun _ => 0)), (false, tab 16 (fun _ => 0)), (false, tab 16 (fun _ => 0))]) (ww hw 9 rfl) rfl (d0 12 rfl) (by decide) rfl (by decide) rfl rfl ?_
  refine Ev.cput (v' := .ref (pre.length + 1 + 2)) (fs' := [.ref (pre.length + 1 + 0), .ref (pre.length + 1 + 1), .ref (pre.length + 1 + 2), .null, .int 0, .int 0, .int 0]) (gok hw) hk (ww hw 14 rfl) (Or.inl (ww hw 15 rfl)) (d0 13 rfl) (j := 2) rfl rfl rfl ?_
  refine Ev.aloadN (d0 14 rfl) rfl ?_
  refine Ev.sipush (z := 256) (d0 15 rfl) rfl ?_
  refine Ev.cnew (aty := .int) (b := false) (k := 256) (q := 3) (as' := [(false, tab 16 (fun _ => 0)), (false, tab 16 (fun _ => 0)), (false, tab 16 (fun _ => 0)), (false, tab 256 (fun _ => 0))]) (ww hw 9 rfl) rfl (d0 16 rfl) (by decide) rfl (by decide) rfl rfl ?_
  refine Ev.cput (v' := .ref (pre.length + 1 + 3)) (fs' := [.ref (pre.length + 1 + 0), .ref (pre.length + 1 + 1), .ref (pre.length + 1 + 2), .ref (pre.length + 1 + 3), .int 0, .int 0, .int 0]) (gok hw) hk (ww hw 16 rfl) (Or.inl (ww hw 17 rfl)) (d0 17 rfl) (j := 3) rfl rfl rfl ?_
  show Ev (GG g) M_ctor 37 [.val (.ref pre.length), .val (.int a0), .val (.int a1), .val (.int a2), .unset] [] (KH flds al Ln pre [] zeroS) _
  exact e_ctor_37 hw (K := KH flds al Ln pre []) (o := pre.length) (r := rA pre.length al) (view_of hk al_ok al_nd) a0 a1 a2 zeroS .unset rfl _ hr
def f_slotsOf (s : St) (a0 : Int32) : Option (Int32) :=
  some ((16 : Int32) >>> (a0 &&& 31))
set_option maxRecDepth 100000 in
theorem e_slotsOf {g : GT} {s : St} {a0 : Int32} {w : Int32} (hw : HW g) {K : St → MHeap} {o : Nat} {r : Nat → Nat} (V : View (GG g) Ln K o r) (hr : f_slotsOf s a0 = some w) : EvC (GG g) M_slotsOf [.ref o, .int a0] (K s) ((some (.int w)), (K s)) := by
  refine EvC.enter (L0 := [.val (.ref o), .val (.int a0)]) pl_slotsOf (fun h => nomatch h) rfl rfl ?_
  unfold f_slotsOf at hr
  refine Ev.bipush (z := 16) (d5 0 rfl) rfl ?_
  refine Ev.iloadN (d5 1 rfl) rfl ?_
  refine Ev.ishr (d5 2 rfl) ?_
  cases hr
  exact Ev.ireturn rfl (d5 3 rfl)
def f_unionOf_4 (n : Nat) (s : St) : Nat → Int32 → Int32 → Int32 → Option (Int32)
  | 0 => fun _ _ _ => none
  | k + 1 => fun x1 x2 x3 =>
    if x3 < (s.1 4) then
      grd (inb x3 16) <|
      if (s.2 0 (ix x3)) = (-1 : Int32) then
        f_unionOf_4 n s k x1 x2 (x3 + (1 : Int32))
      else
        if (s.2 1 (ix x3)) = x1 then
          f_unionOf_4 n s k x1 (x2 ||| (s.2 2 (ix x3))) (x3 + (1 : Int32))
        else
          f_unionOf_4 n s k x1 x2 (x3 + (1 : Int32))
    else
      some x2
set_option maxRecDepth 100000 in
theorem e_unionOf_4 {g : GT} {n : Nat} {s : St} (hw : HW g) {K : St → MHeap} {o : Nat} {r : Nat → Nat} (V : View (GG g) Ln K o r) (k : Nat) : ∀ (x1 : Int32) (x2 : Int32) (x3 : Int32) (w : Int32), f_unionOf_4 n s k x1 x2 x3 = some w → Ev (GG g) M_unionOf 4 [.val (.ref o), .val (.int x1), .val (.int x2), .val (.int x3)] [] (K s) ((some (.int w)), (K s)) := by
  induction k with
  | zero => intro x1 x2 x3 w hr; rw [f_unionOf_4] at hr; cases hr
  | succ k ih =>
    intro x1 x2 x3 w hr
    rw [f_unionOf_4] at hr
    refine Ev.iloadN (d11 4 rfl) rfl ?_
    refine Ev.aloadN (d11 5 rfl) rfl ?_
    refine Ev.gI V (ww hw 22 rfl) (d11 6 rfl) (j := 4) rfl rfl ?_
    refine Ev.icge (t := 47) (d11 7 rfl) rfl (fun c1 => ?_) (fun c1 => ?_)
    · replace hr := (if_pos c1).symm.trans hr
      refine Ev.aloadN (d11 8 rfl) rfl ?_
      refine Ev.gAr V (ww hw 10 rfl) (d11 9 rfl) (j := 0) rfl ?_
      refine Ev.iloadN (d11 10 rfl) rfl ?_
      obtain ⟨b2, hr⟩ := grd_some hr
      refine Ev.ial V (j := 0) rfl rfl (d11 11 rfl) b2 ?_
      refine Ev.iconst (z := -1) (d11 12 rfl) rfl ?_
      refine Ev.iceq (t := 41) (d11 13 rfl) rfl (fun c3 => ?_) (fun c3 => ?_)
      · replace hr := (if_pos c3).symm.trans hr
        refine Ev.iinc (z := 1) (L' := [.val (.ref o), .val (.int x1), .val (.int x2), .val (.int (x3 + (1 : Int32)))]) (d11 27 rfl) rfl rfl rfl ?_
        refine Ev.goto (t := 4) (d11 28 rfl) rfl ?_
        exact ih x1 x2 (x3 + (1 : Int32))  _ hr
      · replace hr := (if_neg c3).symm.trans hr
        refine Ev.aloadN (d11 14 rfl) rfl ?_
        refine Ev.gAr V (ww hw 12 rfl) (d11 15 rfl) (j := 1) rfl ?_
        refine Ev.iloadN (d11 16 rfl) rfl ?_
        refine Ev.ial V (j := 1) rfl rfl (d11 17 rfl) b2 ?_
        refine Ev.iloadN (d11 18 rfl) rfl ?_
        refine Ev.icne (t := 41) (d11 19 rfl) rfl (fun c4 => ?_) (fun c4 => ?_)
        · replace hr := (if_pos c4).symm.trans hr
          refine Ev.iloadN (d11 20 rfl) rfl ?_
          refine Ev.aloadN (d11 21 rfl) rfl ?_
          refine Ev.gAr V (ww hw 14 rfl) (d11 22 rfl) (j := 2) rfl ?_
          refine Ev.iloadN (d11 23 rfl) rfl ?_
          refine Ev.ial V (j := 2) rfl rfl (d11 24 rfl) b2 ?_
          refine Ev.ior (d11 25 rfl) ?_
          refine Ev.istDN (L' := [.val (.ref o), .val (.int x1), .val (.int (x2 ||| (s.2 2 (ix x3)))), .val (.int x3)]) (d11 26 rfl) rfl rfl rfl ?_
          refine Ev.iinc (z := 1) (L' := [.val (.ref o), .val (.int x1), .val (.int (x2 ||| (s.2 2 (ix x3)))), .val (.int (x3 + (1 : Int32)))]) (d11 27 rfl) rfl rfl rfl ?_
          refine Ev.goto (t := 4) (d11 28 rfl) rfl ?_
          exact ih x1 (x2 ||| (s.2 2 (ix x3))) (x3 + (1 : Int32))  _ hr
        · replace hr := (if_neg c4).symm.trans hr
          refine Ev.iinc (z := 1) (L' := [.val (.ref o), .val (.int x1), .val (.int x2), .val (.int (x3 + (1 : Int32)))]) (d11 27 rfl) rfl rfl rfl ?_
          refine Ev.goto (t := 4) (d11 28 rfl) rfl ?_
          exact ih x1 x2 (x3 + (1 : Int32))  _ hr
    · replace hr := (if_neg c1).symm.trans hr
      refine Ev.iloadN (d11 29 rfl) rfl ?_
      cases hr
      exact Ev.ireturn rfl (d11 30 rfl)
def f_unionOf (n : Nat) (s : St) (a0 : Int32) : Option (Int32) :=
  f_unionOf_4 n s n a0 (0 : Int32) (0 : Int32)
set_option maxRecDepth 100000 in
theorem e_unionOf {g : GT} {n : Nat} {s : St} {a0 : Int32} {w : Int32} (hw : HW g) {K : St → MHeap} {o : Nat} {r : Nat → Nat} (V : View (GG g) Ln K o r) (hr : f_unionOf n s a0 = some w) : EvC (GG g) M_unionOf [.ref o, .int a0] (K s) ((some (.int w)), (K s)) := by
  refine EvC.enter (L0 := [.val (.ref o), .val (.int a0), .unset, .unset]) pl_unionOf (fun h => nomatch h) rfl rfl ?_
  unfold f_unionOf at hr
  refine Ev.iconst (z := 0) (d11 0 rfl) rfl ?_
  refine Ev.istDN (L' := [.val (.ref o), .val (.int a0), .val (.int (0 : Int32)), .unset]) (d11 1 rfl) rfl rfl rfl ?_
  refine Ev.iconst (z := 0) (d11 2 rfl) rfl ?_
  refine Ev.istDN (L' := [.val (.ref o), .val (.int a0), .val (.int (0 : Int32)), .val (.int (0 : Int32))]) (d11 3 rfl) rfl rfl rfl ?_
  exact e_unionOf_4 hw V  n a0 (0 : Int32) (0 : Int32)  _ hr
def f_countClear_5 (n : Nat) (s : St) : Nat → Int32 → Int32 → Int32 → Int32 → Option (Int32)
  | 0 => fun _ _ _ _ => none
  | k + 1 => fun x1 x2 x3 x4 =>
    if x4 < x2 then
      if ((XT.ushr x1 x4) &&& (1 : Int32)) = 0 then
        f_countClear_5 n s k x1 x2 (x3 + (1 : Int32)) (x4 + (1 : Int32))
      else
        f_countClear_5 n s k x1 x2 x3 (x4 + (1 : Int32))
    else
      some x3
set_option maxRecDepth 100000 in
theorem e_countClear_5 {g : GT} {n : Nat} {s : St} (hw : HW g) {K : St → MHeap} {o : Nat} {r : Nat → Nat} (V : View (GG g) Ln K o r) (k : Nat) : ∀ (x1 : Int32) (x2 : Int32) (x3 : Int32) (x4 : Int32) (y0 : Slot) (hy0 : one1 y0 = true) (w : Int32), f_countClear_5 n s k x1 x2 x3 x4 = some w → Ev (GG g) M_countClear 5 [y0, .val (.int x1), .val (.int x2), .val (.int x3), .val (.int x4)] [] (K s) ((some (.int w)), (K s)) := by
  induction k with
  | zero => intro x1 x2 x3 x4 y0 hy0 w hr; rw [f_countClear_5] at hr; cases hr
  | succ k ih =>
    intro x1 x2 x3 x4 y0 hy0 w hr
    rw [f_countClear_5] at hr
    refine Ev.iload (d12 4 rfl) rfl ?_
    refine Ev.iloadN (d12 5 rfl) rfl ?_
    refine Ev.icge (t := 29) (d12 6 rfl) rfl (fun c1 => ?_) (fun c1 => ?_)
    · replace hr := (if_pos c1).symm.trans hr
      refine Ev.iloadN (d12 7 rfl) rfl ?_
      refine Ev.iload (d12 8 rfl) rfl ?_
      refine Ev.iushr (d12 9 rfl) ?_
      refine Ev.iconst (z := 1) (d12 10 rfl) rfl ?_
      refine Ev.iand (d12 11 rfl) ?_
      refine Ev.ifne (t := 23) (d12 12 rfl) rfl (fun c2 => ?_) (fun c2 => ?_)
      · replace hr := (if_pos c2).symm.trans hr
        refine Ev.iinc (z := 1) (L' := [y0, .val (.int x1), .val (.int x2), .val (.int (x3 + (1 : Int32))), .val (.int x4)]) (d12 13 rfl) rfl rfl rfl ?_
        refine Ev.iinc (z := 1) (L' := [y0, .val (.int x1), .val (.int x2), .val (.int (x3 + (1 : Int32))), .val (.int (x4 + (1 : Int32)))]) (d12 14 rfl) rfl rfl rfl ?_
        refine Ev.goto (t := 5) (d12 15 rfl) rfl ?_
        exact ih x1 x2 (x3 + (1 : Int32)) (x4 + (1 : Int32)) y0 hy0 _ hr
      · replace hr := (if_neg c2).symm.trans hr
        refine Ev.iinc (z := 1) (L' := [y0, .val (.int x1), .val (.int x2), .val (.int x3), .val (.int (x4 + (1 : Int32)))]) (d12 14 rfl) rfl rfl rfl ?_
        refine Ev.goto (t := 5) (d12 15 rfl) rfl ?_
        exact ih x1 x2 x3 (x4 + (1 : Int32)) y0 hy0 _ hr
    · replace hr := (if_neg c1).symm.trans hr
      refine Ev.iloadN (d12 16 rfl) rfl ?_
      cases hr
      exact Ev.ireturn rfl (d12 17 rfl)
def f_countClear (n : Nat) (s : St) (a0 : Int32) (a1 : Int32) : Option (Int32) :=
  f_countClear_5 n s n a0 a1 (0 : Int32) (0 : Int32)
set_option maxRecDepth 100000 in
theorem e_countClear {g : GT} {n : Nat} {s : St} {a0 : Int32} {a1 : Int32} {w : Int32} (hw : HW g) {K : St → MHeap} {o : Nat} {r : Nat → Nat} (V : View (GG g) Ln K o r) (hr : f_countClear n s a0 a1 = some w) : EvC (GG g) M_countClear [.ref o, .int a0, .int a1] (K s) ((some (.int w)), (K s)) := by
  refine EvC.enter (L0 := [.val (.ref o), .val (.int a0), .val (.int a1), .unset, .unset]) pl_countClear (fun h => nomatch h) rfl rfl ?_
  unfold f_countClear at hr
  refine Ev.iconst (z := 0) (d12 0 rfl) rfl ?_
  refine Ev.istDN (L' := [.val (.ref o), .val (.int a0), .val (.int a1), .val (.int (0 : Int32)), .unset]) (d12 1 rfl) rfl rfl rfl ?_
  refine Ev.iconst (z := 0) (d12 2 rfl) rfl ?_
  refine Ev.istD (L' := [.val (.ref o), .val (.int a0), .val (.int a1), .val (.int (0 : Int32)), .val (.int (0 : Int32))]) (d12 3 rfl) rfl rfl rfl ?_
  exact e_countClear_5 hw V  n a0 a1 (0 : Int32) (0 : Int32) (.val (.ref o)) rfl _ hr
def f_findEligible_8 (n : Nat) (s : St) : Nat → Int32 → Int32 → Int32 → Option (Int32)
  | 0 => fun _ _ _ => none
  | k + 1 => fun x1 x2 x3 =>
    if x3 < (s.1 4) then
      grd (inb x3 16) <|
      if (s.2 0 (ix x3)) = x1 then
        (f_unionOf n s (s.2 1 (ix x3))).bind fun q4 =>
        (f_countClear n s q4 x2).bind fun q6 =>
        if 0 < q6 then
          some x3
        else
          f_findEligible_8 n s k x1 x2 (x3 + (1 : Int32))
      else
        f_findEligible_8 n s k x1 x2 (x3 + (1 : Int32))
    else
      some (-1 : Int32)
set_option maxRecDepth 100000 in
theorem e_findEligible_8 {g : GT} {n : Nat} {s : St} (hw : HW g) {K : St → MHeap} {o : Nat} {r : Nat → Nat} (V : View (GG g) Ln K o r) (k : Nat) : ∀ (x1 : Int32) (x2 : Int32) (x3 : Int32) (y4 : Slot) (hy4 : one1 y4 = true) (w : Int32), f_findEligible_8 n s k x1 x2 x3 = some w → Ev (GG g) M_findEligible 8 [.val (.ref o), .val (.int x1), .val (.int x2), .val (.int x3), y4] [] (K s) ((some (.int w)), (K s)) := by
  induction k with
  | zero => intro x1 x2 x3 y4 hy4 w hr; rw [f_findEligible_8] at hr; cases hr
  | succ k ih =>
    intro x1 x2 x3 y4 hy4 w hr
    rw [f_findEligible_8] at hr
    refine Ev.iloadN (d4 6 rfl) rfl ?_
    refine Ev.aloadN (d4 7 rfl) rfl ?_
    refine Ev.gI V (ww hw 22 rfl) (d4 8 rfl) (j := 4) rfl rfl ?_
    refine Ev.icge (t := 56) (d4 9 rfl) rfl (fun c1 => ?_) (fun c1 => ?_)
    · replace hr := (if_pos c1).symm.trans hr
      refine Ev.aloadN (d4 10 rfl) rfl ?_
      refine Ev.gAr V (ww hw 10 rfl) (d4 11 rfl) (j := 0) rfl ?_
      refine Ev.iloadN (d4 12 rfl) rfl ?_
      obtain ⟨b2, hr⟩ := grd_some hr
      refine Ev.ial V (j := 0) rfl rfl (d4 13 rfl) b2 ?_
      refine Ev.iloadN (d4 14 rfl) rfl ?_
      refine Ev.icne (t := 50) (d4 15 rfl) rfl (fun c3 => ?_) (fun c3 => ?_)
      · replace hr := (if_pos c3).symm.trans hr
        refine Ev.aloadN (d4 16 rfl) rfl ?_
        refine Ev.aloadN (d4 17 rfl) rfl ?_
        refine Ev.gAr V (ww hw 12 rfl) (d4 18 rfl) (j := 1) rfl ?_
        refine Ev.iloadN (d4 19 rfl) rfl ?_
        refine Ev.ial V (j := 1) rfl rfl (d4 20 rfl) b2 ?_
        obtain ⟨q4, hq5, hr⟩ := Option.bind_eq_some_iff.mp hr
        refine Ev.priv (y := M_unionOf) (args := [.int (s.2 1 (ix x3))]) (rest := []) (gok hw) rfl nm_unionOf (ww hw 63 rfl) (ww hw 64 rfl) (ww hw 65 rfl) (ww hw 66 rfl) (lenOf pd_unionOf rfl) (d4 21 rfl) (V.2.1 s) (e_unionOf hw V hq5) (by decide) (Nat.le_of_ble_eq_true rfl) rfl ?_
        refine Ev.istD (L' := [.val (.ref o), .val (.int x1), .val (.int x2), .val (.int x3), .val (.int q4)]) (d4 22 rfl) rfl hy4 rfl ?_
        refine Ev.aloadN (d4 23 rfl) rfl ?_
        refine Ev.iload (d4 24 rfl) rfl ?_
        refine Ev.iloadN (d4 25 rfl) rfl ?_
        obtain ⟨q6, hq7, hr⟩ := Option.bind_eq_some_iff.mp hr
        refine Ev.priv (y := M_countClear) (args := [.int q4, .int x2]) (rest := []) (gok hw) rfl nm_countClear (ww hw 67 rfl) (ww hw 68 rfl) (ww hw 69 rfl) (ww hw 70 rfl) (lenOf pd_countClear rfl) (d4 26 rfl) (V.2.1 s) (e_countClear hw V hq7) (by decide) (Nat.le_of_ble_eq_true rfl) rfl ?_
        refine Ev.ifle (t := 50) (d4 27 rfl) rfl (fun c8 => ?_) (fun c8 => ?_)
        · replace hr := (if_pos c8).symm.trans hr
          refine Ev.iloadN (d4 28 rfl) rfl ?_
          cases hr
          exact Ev.ireturn rfl (d4 29 rfl)
        · replace hr := (if_neg c8).symm.trans hr
          refine Ev.iinc (z := 1) (L' := [.val (.ref o), .val (.int x1), .val (.int x2), .val (.int (x3 + (1 : Int32))), .val (.int q4)]) (d4 30 rfl) rfl rfl rfl ?_
          refine Ev.goto (t := 8) (d4 31 rfl) rfl ?_
          exact ih x1 x2 (x3 + (1 : Int32)) (.val (.int q4)) rfl _ hr
      · replace hr := (if_neg c3).symm.trans hr
        refine Ev.iinc (z := 1) (L' := [.val (.ref o), .val (.int x1), .val (.int x2), .val (.int (x3 + (1 : Int32))), y4]) (d4 30 rfl) rfl rfl rfl ?_
        refine Ev.goto (t := 8) (d4 31 rfl) rfl ?_
        exact ih x1 x2 (x3 + (1 : Int32)) y4 hy4 _ hr
    · replace hr := (if_neg c1).symm.trans hr
      refine Ev.iconst (z := -1) (d4 32 rfl) rfl ?_
      cases hr
      exact Ev.ireturn rfl (d4 33 rfl)
def f_findEligible (n : Nat) (s : St) (a0 : Int32) : Option (Int32) :=
  (f_slotsOf s a0).bind fun q1 =>
  f_findEligible_8 n s n a0 q1 (0 : Int32)
set_option maxRecDepth 100000 in
theorem e_findEligible {g : GT} {n : Nat} {s : St} {a0 : Int32} {w : Int32} (hw : HW g) {K : St → MHeap} {o : Nat} {r : Nat → Nat} (V : View (GG g) Ln K o r) (hr : f_findEligible n s a0 = some w) : EvC (GG g) M_findEligible [.ref o, .int a0] (K s) ((some (.int w)), (K s)) := by
  refine EvC.enter (L0 := [.val (.ref o), .val (.int a0), .unset, .unset, .unset]) pl_findEligible (fun h => nomatch h) rfl rfl ?_
  unfold f_findEligible at hr
  refine Ev.aloadN (d4 0 rfl) rfl ?_
  refine Ev.iloadN (d4 1 rfl) rfl ?_
  obtain ⟨q1, hq2, hr⟩ := Option.bind_eq_some_iff.mp hr
  refine Ev.priv (y := M_slotsOf) (args := [.int a0]) (rest := []) (gok hw) rfl nm_slotsOf (ww hw 39 rfl) (ww hw 40 rfl) (ww hw 41 rfl) (ww hw 42 rfl) (lenOf pd_slotsOf rfl) (d4 2 rfl) (V.2.1 s) (e_slotsOf hw V hq2) (by decide) (Nat.le_of_ble_eq_true rfl) rfl ?_
  refine Ev.istDN (L' := [.val (.ref o), .val (.int a0), .val (.int q1), .unset, .unset]) (d4 3 rfl) rfl rfl rfl ?_
  refine Ev.iconst (z := 0) (d4 4 rfl) rfl ?_
  refine Ev.istDN (L' := [.val (.ref o), .val (.int a0), .val (.int q1), .val (.int (0 : Int32)), .unset]) (d4 5 rfl) rfl rfl rfl ?_
  exact e_findEligible_8 hw V  n a0 q1 (0 : Int32) .unset rfl _ hr
def f_lowestUnusedPage_2 (n : Nat) (s : St) : Nat → Int32 → Option (Int32)
  | 0 => fun _ => none
  | k + 1 => fun x1 =>
    if x1 < (s.1 4) then
      grd (inb x1 16) <|
      if (s.2 0 (ix x1)) = (-1 : Int32) then
        some x1
      else
        f_lowestUnusedPage_2 n s k (x1 + (1 : Int32))
    else
      some (-1 : Int32)
set_option maxRecDepth 100000 in
theorem e_lowestUnusedPage_2 {g : GT} {n : Nat} {s : St} (hw : HW g) {K : St → MHeap} {o : Nat} {r : Nat → Nat} (V : View (GG g) Ln K o r) (k : Nat) : ∀ (x1 : Int32) (w : Int32), f_lowestUnusedPage_2 n s k x1 = some w → Ev (GG g) M_lowestUnusedPage 2 [.val (.ref o), .val (.int x1)] [] (K s) ((some (.int w)), (K s)) := by
  induction k with
  | zero => intro x1 w hr; rw [f_lowestUnusedPage_2] at hr; cases hr
  | succ k ih =>
    intro x1 w hr
    rw [f_lowestUnusedPage_2] at hr
    refine Ev.iloadN (d6 2 rfl) rfl ?_
    refine Ev.aloadN (d6 3 rfl) rfl ?_
    refine Ev.gI V (ww hw 22 rfl) (d6 4 rfl) (j := 4) rfl rfl ?_
    refine Ev.icge (t := 28) (d6 5 rfl) rfl (fun c1 => ?_) (fun c1 => ?_)
    · replace hr := (if_pos c1).symm.trans hr
      refine Ev.aloadN (d6 6 rfl) rfl ?_
      refine Ev.gAr V (ww hw 10 rfl) (d6 7 rfl) (j := 0) rfl ?_
      refine Ev.iloadN (d6 8 rfl) rfl ?_
      obtain ⟨b2, hr⟩ := grd_some hr
      refine Ev.ial V (j := 0) rfl rfl (d6 9 rfl) b2 ?_
      refine Ev.iconst (z := -1) (d6 10 rfl) rfl ?_
      refine Ev.icne (t := 22) (d6 11 rfl) rfl (fun c3 => ?_) (fun c3 => ?_)
      · replace hr := (if_pos c3).symm.trans hr
        refine Ev.iloadN (d6 12 rfl) rfl ?_
        cases hr
        exact Ev.ireturn rfl (d6 13 rfl)
      · replace hr := (if_neg c3).symm.trans hr
        refine Ev.iinc (z := 1) (L' := [.val (.ref o), .val (.int (x1 + (1 : Int32)))]) (d6 14 rfl) rfl rfl rfl ?_
        refine Ev.goto (t := 2) (d6 15 rfl) rfl ?_
        exact ih (x1 + (1 : Int32))  _ hr
    · replace hr := (if_neg c1).symm.trans hr
      refine Ev.iconst (z := -1) (d6 16 rfl) rfl ?_
      cases hr
      exact Ev.ireturn rfl (d6 17 rfl)
def f_lowestUnusedPage (n : Nat) (s : St) : Option (Int32) :=
  f_lowestUnusedPage_2 n s n (0 : Int32)
set_option maxRecDepth 100000 in
theorem e_lowestUnusedPage {g : GT} {n : Nat} {s : St} {w : Int32} (hw : HW g) {K : St → MHeap} {o : Nat} {r : Nat → Nat} (V : View (GG g) Ln K o r) (hr : f_lowestUnusedPage n s = some w) : EvC (GG g) M_lowestUnusedPage [.ref o] (K s) ((some (.int w)), (K s)) := by
  refine EvC.enter (L0 := [.val (.ref o), .unset]) pl_lowestUnusedPage (fun h => nomatch h) rfl rfl ?_
  unfold f_lowestUnusedPage at hr
  refine Ev.iconst (z := 0) (d6 0 rfl) rfl ?_
  refine Ev.istDN (L' := [.val (.ref o), .val (.int (0 : Int32))]) (d6 1 rfl) rfl rfl rfl ?_
  exact e_lowestUnusedPage_2 hw V  n (0 : Int32)  _ hr
def f_frameClass_2 (n : Nat) (s : St) : Nat → Int32 → Int32 → Option (Int32)
  | 0 => fun _ _ => none
  | k + 1 => fun x1 x2 =>
    if x2 < (s.1 4) then
      grd (inb x2 16) <|
      if (s.2 0 (ix x2)) = (-1 : Int32) then
        f_frameClass_2 n s k x1 (x2 + (1 : Int32))
      else
        if (s.2 1 (ix x2)) = x1 then
          some (s.2 0 (ix x2))
        else
          f_frameClass_2 n s k x1 (x2 + (1 : Int32))
    else
      some (-1 : Int32)
set_option maxRecDepth 100000 in
theorem e_frameClass_2 {g : GT} {n : Nat} {s : St} (hw : HW g) {K : St → MHeap} {o : Nat} {r : Nat → Nat} (V : View (GG g) Ln K o r) (k : Nat) : ∀ (x1 : Int32) (x2 : Int32) (w : Int32), f_frameClass_2 n s k x1 x2 = some w → Ev (GG g) M_frameClass 2 [.val (.ref o), .val (.int x1), .val (.int x2)] [] (K s) ((some (.int w)), (K s)) := by
  induction k with
  | zero => intro x1 x2 w hr; rw [f_frameClass_2] at hr; cases hr
  | succ k ih =>
    intro x1 x2 w hr
    rw [f_frameClass_2] at hr
    refine Ev.iloadN (d8 2 rfl) rfl ?_
    refine Ev.aloadN (d8 3 rfl) rfl ?_
    refine Ev.gI V (ww hw 22 rfl) (d8 4 rfl) (j := 4) rfl rfl ?_
    refine Ev.icge (t := 43) (d8 5 rfl) rfl (fun c1 => ?_) (fun c1 => ?_)
    · replace hr := (if_pos c1).symm.trans hr
      refine Ev.aloadN (d8 6 rfl) rfl ?_
      refine Ev.gAr V (ww hw 10 rfl) (d8 7 rfl) (j := 0) rfl ?_
      refine Ev.iloadN (d8 8 rfl) rfl ?_
      obtain ⟨b2, hr⟩ := grd_some hr
      refine Ev.ial V (j := 0) rfl rfl (d8 9 rfl) b2 ?_
      refine Ev.iconst (z := -1) (d8 10 rfl) rfl ?_
      refine Ev.iceq (t := 37) (d8 11 rfl) rfl (fun c3 => ?_) (fun c3 => ?_)
      · replace hr := (if_pos c3).symm.trans hr
        refine Ev.iinc (z := 1) (L' := [.val (.ref o), .val (.int x1), .val (.int (x2 + (1 : Int32)))]) (d8 23 rfl) rfl rfl rfl ?_
        refine Ev.goto (t := 2) (d8 24 rfl) rfl ?_
        exact ih x1 (x2 + (1 : Int32))  _ hr
      · replace hr := (if_neg c3).symm.trans hr
        refine Ev.aloadN (d8 12 rfl) rfl ?_
        refine Ev.gAr V (ww hw 12 rfl) (d8 13 rfl) (j := 1) rfl ?_
        refine Ev.iloadN (d8 14 rfl) rfl ?_
        refine Ev.ial V (j := 1) rfl rfl (d8 15 rfl) b2 ?_
        refine Ev.iloadN (d8 16 rfl) rfl ?_
        refine Ev.icne (t := 37) (d8 17 rfl) rfl (fun c4 => ?_) (fun c4 => ?_)
        · replace hr := (if_pos c4).symm.trans hr
          refine Ev.aloadN (d8 18 rfl) rfl ?_
          refine Ev.gAr V (ww hw 10 rfl) (d8 19 rfl) (j := 0) rfl ?_
          refine Ev.iloadN (d8 20 rfl) rfl ?_
          refine Ev.ial V (j := 0) rfl rfl (d8 21 rfl) b2 ?_
          cases hr
          exact Ev.ireturn rfl (d8 22 rfl)
        · replace hr := (if_neg c4).symm.trans hr
          refine Ev.iinc (z := 1) (L' := [.val (.ref o), .val (.int x1), .val (.int (x2 + (1 : Int32)))]) (d8 23 rfl) rfl rfl rfl ?_
          refine Ev.goto (t := 2) (d8 24 rfl) rfl ?_
          exact ih x1 (x2 + (1 : Int32))  _ hr
    · replace hr := (if_neg c1).symm.trans hr
      refine Ev.iconst (z := -1) (d8 25 rfl) rfl ?_
      cases hr
      exact Ev.ireturn rfl (d8 26 rfl)
def f_frameClass (n : Nat) (s : St) (a0 : Int32) : Option (Int32) :=
  f_frameClass_2 n s n a0 (0 : Int32)
set_option maxRecDepth 100000 in
theorem e_frameClass {g : GT} {n : Nat} {s : St} {a0 : Int32} {w : Int32} (hw : HW g) {K : St → MHeap} {o : Nat} {r : Nat → Nat} (V : View (GG g) Ln K o r) (hr : f_frameClass n s a0 = some w) : EvC (GG g) M_frameClass [.ref o, .int a0] (K s) ((some (.int w)), (K s)) := by
  refine EvC.enter (L0 := [.val (.ref o), .val (.int a0), .unset]) pl_frameClass (fun h => nomatch h) rfl rfl ?_
  unfold f_frameClass at hr
  refine Ev.iconst (z := 0) (d8 0 rfl) rfl ?_
  refine Ev.istDN (L' := [.val (.ref o), .val (.int a0), .val (.int (0 : Int32))]) (d8 1 rfl) rfl rfl rfl ?_
  exact e_frameClass_2 hw V  n a0 (0 : Int32)  _ hr
def f_lowestFreeFrame_2 (n : Nat) (s : St) : Nat → Int32 → Option (Int32)
  | 0 => fun _ => none
  | k + 1 => fun x1 =>
    if x1 < (s.1 5) then
      (f_frameClass n s x1).bind fun q2 =>
      if q2 = (-1 : Int32) then
        some x1
      else
        f_lowestFreeFrame_2 n s k (x1 + (1 : Int32))
    else
      some (-1 : Int32)
set_option maxRecDepth 100000 in
theorem e_lowestFreeFrame_2 {g : GT} {n : Nat} {s : St} (hw : HW g) {K : St → MHeap} {o : Nat} {r : Nat → Nat} (V : View (GG g) Ln K o r) (k : Nat) : ∀ (x1 : Int32) (w : Int32), f_lowestFreeFrame_2 n s k x1 = some w → Ev (GG g) M_lowestFreeFrame 2 [.val (.ref o), .val (.int x1)] [] (K s) ((some (.int w)), (K s)) := by
  induction k with
  | zero => intro x1 w hr; rw [f_lowestFreeFrame_2] at hr; cases hr
  | succ k ih =>
    intro x1 w hr
    rw [f_lowestFreeFrame_2] at hr
    refine Ev.iloadN (d7 2 rfl) rfl ?_
    refine Ev.aloadN (d7 3 rfl) rfl ?_
    refine Ev.gI V (ww hw 24 rfl) (d7 4 rfl) (j := 5) rfl rfl ?_
    refine Ev.icge (t := 27) (d7 5 rfl) rfl (fun c1 => ?_) (fun c1 => ?_)
    · replace hr := (if_pos c1).symm.trans hr
      refine Ev.aloadN (d7 6 rfl) rfl ?_
      refine Ev.iloadN (d7 7 rfl) rfl ?_
      obtain ⟨q2, hq3, hr⟩ := Option.bind_eq_some_iff.mp hr
      refine Ev.priv (y := M_frameClass) (args := [.int x1]) (rest := []) (gok hw) rfl nm_frameClass (ww hw 51 rfl) (ww hw 52 rfl) (ww hw 53 rfl) (ww hw 54 rfl) (lenOf pd_frameClass rfl) (d7 8 rfl) (V.2.1 s) (e_frameClass hw V hq3) (by decide) (Nat.le_of_ble_eq_true rfl) rfl ?_
      refine Ev.iconst (z := -1) (d7 9 rfl) rfl ?_
      refine Ev.icne (t := 21) (d7 10 rfl) rfl (fun c4 => ?_) (fun c4 => ?_)
      · replace hr := (if_pos c4).symm.trans hr
        refine Ev.iloadN (d7 11 rfl) rfl ?_
        cases hr
        exact Ev.ireturn rfl (d7 12 rfl)
      · replace hr := (if_neg c4).symm.trans hr
        refine Ev.iinc (z := 1) (L' := [.val (.ref o), .val (.int (x1 + (1 : Int32)))]) (d7 13 rfl) rfl rfl rfl ?_
        refine Ev.goto (t := 2) (d7 14 rfl) rfl ?_
        exact ih (x1 + (1 : Int32))  _ hr
    · replace hr := (if_neg c1).symm.trans hr
      refine Ev.iconst (z := -1) (d7 15 rfl) rfl ?_
      cases hr
      exact Ev.ireturn rfl (d7 16 rfl)
def f_lowestFreeFrame (n : Nat) (s : St) : Option (Int32) :=
  f_lowestFreeFrame_2 n s n (0 : Int32)
set_option maxRecDepth 100000 in
theorem e_lowestFreeFrame {g : GT} {n : Nat} {s : St} {w : Int32} (hw : HW g) {K : St → MHeap} {o : Nat} {r : Nat → Nat} (V : View (GG g) Ln K o r) (hr : f_lowestFreeFrame n s = some w) : EvC (GG g) M_lowestFreeFrame [.ref o] (K s) ((some (.int w)), (K s)) := by
  refine EvC.enter (L0 := [.val (.ref o), .unset]) pl_lowestFreeFrame (fun h => nomatch h) rfl rfl ?_
  unfold f_lowestFreeFrame at hr
  refine Ev.iconst (z := 0) (d7 0 rfl) rfl ?_
  refine Ev.istDN (L' := [.val (.ref o), .val (.int (0 : Int32))]) (d7 1 rfl) rfl rfl rfl ?_
  exact e_lowestFreeFrame_2 hw V  n (0 : Int32)  _ hr
def f_sizeOf (s : St) (a0 : Int32) : Option (Int32) :=
  some ((1 : Int32) <<< (a0 &&& 31))
set_option maxRecDepth 100000 in
theorem e_sizeOf {g : GT} {s : St} {a0 : Int32} {w : Int32} (hw : HW g) {K : St → MHeap} {o : Nat} {r : Nat → Nat} (V : View (GG g) Ln K o r) (hr : f_sizeOf s a0 = some w) : EvC (GG g) M_sizeOf [.ref o, .int a0] (K s) ((some (.int w)), (K s)) := by
  refine EvC.enter (L0 := [.val (.ref o), .val (.int a0)]) pl_sizeOf (fun h => nomatch h) rfl rfl ?_
  unfold f_sizeOf at hr
  refine Ev.iconst (z := 1) (d10 0 rfl) rfl ?_
  refine Ev.iloadN (d10 1 rfl) rfl ?_
  refine Ev.ishl (d10 2 rfl) ?_
  cases hr
  exact Ev.ireturn rfl (d10 3 rfl)
def f_step (s : St) : Option (Int32 × St) :=
  bnd (setI s 6 (((s.1 6) * (1103515245 : Int32)) + (12345 : Int32))) fun s1 =>
  some (((XT.ushr (s1.1 6) (16 : Int32)) &&& (32767 : Int32)), s1)
set_option maxRecDepth 100000 in
theorem e_step {g : GT} {s : St} {w : Int32 × St} (hw : HW g) {K : St → MHeap} {o : Nat} {r : Nat → Nat} (V : View (GG g) Ln K o r) (hr : f_step s = some w) : EvC (GG g) M_step [.ref o] (K s) ((some (.int w.1)), (K w.2)) := by
  refine EvC.enter (L0 := [.val (.ref o)]) pl_step (fun h => nomatch h) rfl rfl ?_
  unfold f_step at hr
  refine Ev.aloadN (d13 0 rfl) rfl ?_
  refine Ev.aloadN (d13 1 rfl) rfl ?_
  refine Ev.gI V (ww hw 27 rfl) (d13 2 rfl) (j := 6) rfl rfl ?_
  refine Ev.ldc (ww hw 75 rfl) (d13 3 rfl) ?_
  refine Ev.imul (d13 4 rfl) ?_
  refine Ev.sipush (z := 12345) (d13 5 rfl) rfl ?_
  refine Ev.iadd (d13 6 rfl) ?_
  refine Ev.pI V (gok hw) (ww hw 27 rfl) (Or.inl (ww hw 28 rfl)) (d13 7 rfl) (j := 6) rfl ?_
  revert hr
  generalize setI s 6 (((s.1 6) * (1103515245 : Int32)) + (12345 : Int32)) = s1
  intro hr
  replace hr := (bnd_eq _ _).symm.trans hr
  refine Ev.aloadN (d13 8 rfl) rfl ?_
  refine Ev.gI V (ww hw 27 rfl) (d13 9 rfl) (j := 6) rfl rfl ?_
  refine Ev.bipush (z := 16) (d13 10 rfl) rfl ?_
  refine Ev.iushr (d13 11 rfl) ?_
  refine Ev.sipush (z := 32767) (d13 12 rfl) rfl ?_
  refine Ev.iand (d13 13 rfl) ?_
  cases hr
  exact Ev.ireturn rfl (d13 14 rfl)
def f_nthClear_6 (n : Nat) (s : St) : Nat → Int32 → Int32 → Int32 → Int32 → Option (Int32)
  | 0 => fun _ _ _ _ => none
  | k + 1 => fun x1 x2 x4 x5 =>
    if x5 < x2 then
      if ((XT.ushr x1 x5) &&& (1 : Int32)) = 0 then
        if x4 = 0 then
          some x5
        else
          f_nthClear_6 n s k x1 x2 (x4 + (-1 : Int32)) (x5 + (1 : Int32))
      else
        f_nthClear_6 n s k x1 x2 x4 (x5 + (1 : Int32))
    else
      some (0 : Int32)
set_option maxRecDepth 100000 in
theorem e_nthClear_6 {g : GT} {n : Nat} {s : St} (hw : HW g) {K : St → MHeap} {o : Nat} {r : Nat → Nat} (V : View (GG g) Ln K o r) (k : Nat) : ∀ (x1 : Int32) (x2 : Int32) (x4 : Int32) (x5 : Int32) (y0 : Slot) (hy0 : one1 y0 = true) (y3 : Slot) (hy3 : one1 y3 = true) (w : Int32), f_nthClear_6 n s k x1 x2 x4 x5 = some w → Ev (GG g) M_nthClear 6 [y0, .val (.int x1), .val (.int x2), y3, .val (.int x4), .val (.int x5)] [] (K s) ((some (.int w)), (K s)) := by
  induction k with
  | zero => intro x1 x2 x4 x5 y0 hy0 y3 hy3 w hr; rw [f_nthClear_6] at hr; cases hr
  | succ k ih =>
    intro x1 x2 x4 x5 y0 hy0 y3 hy3 w hr
    rw [f_nthClear_6] at hr
    refine Ev.iload (d14 4 rfl) rfl ?_
    refine Ev.iloadN (d14 5 rfl) rfl ?_
    refine Ev.icge (t := 38) (d14 6 rfl) rfl (fun c1 => ?_) (fun c1 => ?_)
    · replace hr := (if_pos c1).symm.trans hr
      refine Ev.iloadN (d14 7 rfl) rfl ?_
      refine Ev.iload (d14 8 rfl) rfl ?_
      refine Ev.iushr (d14 9 rfl) ?_
      refine Ev.iconst (z := 1) (d14 10 rfl) rfl ?_
      refine Ev.iand (d14 11 rfl) ?_
      refine Ev.ifne (t := 32) (d14 12 rfl) rfl (fun c2 => ?_) (fun c2 => ?_)
      · replace hr := (if_pos c2).symm.trans hr
        refine Ev.iload (d14 13 rfl) rfl ?_
        refine Ev.ifne (t := 29) (d14 14 rfl) rfl (fun c3 => ?_) (fun c3 => ?_)
        · replace hr := (if_pos c3).symm.trans hr
          refine Ev.iload (d14 15 rfl) rfl ?_
          cases hr
          exact Ev.ireturn rfl (d14 16 rfl)
        · replace hr := (if_neg c3).symm.trans hr
          refine Ev.iinc (z := -1) (L' := [y0, .val (.int x1), .val (.int x2), y3, .val (.int (x4 + (-1 : Int32))), .val (.int x5)]) (d14 17 rfl) rfl rfl rfl ?_
          refine Ev.iinc (z := 1) (L' := [y0, .val (.int x1), .val (.int x2), y3, .val (.int (x4 + (-1 : Int32))), .val (.int (x5 + (1 : Int32)))]) (d14 18 rfl) rfl rfl rfl ?_
          refine Ev.goto (t := 6) (d14 19 rfl) rfl ?_
          exact ih x1 x2 (x4 + (-1 : Int32)) (x5 + (1 : Int32)) y0 hy0 y3 hy3 _ hr
      · replace hr := (if_neg c2).symm.trans hr
        refine Ev.iinc (z := 1) (L' := [y0, .val (.int x1), .val (.int x2), y3, .val (.int x4), .val (.int (x5 + (1 : Int32)))]) (d14 18 rfl) rfl rfl rfl ?_
        refine Ev.goto (t := 6) (d14 19 rfl) rfl ?_
        exact ih x1 x2 x4 (x5 + (1 : Int32)) y0 hy0 y3 hy3 _ hr
    · replace hr := (if_neg c1).symm.trans hr
      refine Ev.iconst (z := 0) (d14 20 rfl) rfl ?_
      cases hr
      exact Ev.ireturn rfl (d14 21 rfl)
def f_nthClear (n : Nat) (s : St) (a0 : Int32) (a1 : Int32) (a2 : Int32) : Option (Int32) :=
  f_nthClear_6 n s n a0 a1 a2 (0 : Int32)
set_option maxRecDepth 100000 in
theorem e_nthClear {g : GT} {n : Nat} {s : St} {a0 : Int32} {a1 : Int32} {a2 : Int32} {w : Int32} (hw : HW g) {K : St → MHeap} {o : Nat} {r : Nat → Nat} (V : View (GG g) Ln K o r) (hr : f_nthClear n s a0 a1 a2 = some w) : EvC (GG g) M_nthClear [.ref o, .int a0, .int a1, .int a2] (K s) ((some (.int w)), (K s)) := by
  refine EvC.enter (L0 := [.val (.ref o), .val (.int a0), .val (.int a1), .val (.int a2), .unset, .unset]) pl_nthClear (fun h => nomatch h) rfl rfl ?_
  unfold f_nthClear at hr
  refine Ev.iloadN (d14 0 rfl) rfl ?_
  refine Ev.istD (L' := [.val (.ref o), .val (.int a0), .val (.int a1), .val (.int a2), .val (.int a2), .unset]) (d14 1 rfl) rfl rfl rfl ?_
  refine Ev.iconst (z := 0) (d14 2 rfl) rfl ?_
  refine Ev.istD (L' := [.val (.ref o), .val (.int a0), .val (.int a1), .val (.int a2), .val (.int a2), .val (.int (0 : Int32))]) (d14 3 rfl) rfl rfl rfl ?_
  exact e_nthClear_6 hw V  n a0 a1 a2 (0 : Int32) (.val (.ref o)) rfl (.val (.int a2)) rfl _ hr
def f_placeObject_96 (n : Nat) : Nat → Int32 → Int32 → Int32 → Int32 → Int32 → St → Option (Int32 × St)
  | 0 => fun _ _ _ _ _ _ => none
  | k + 1 => fun x1 x4 x9 x10 x11 s =>
    if x11 < x4 then
      if (x10 + x11) < 0 then
        f_placeObject_96 n k x1 x4 x9 x10 (x11 + (1 : Int32)) s
      else
        if (x10 + x11) < (256 : Int32) then
          grd (inb (x10 + x11) 256) <|
          bnd (setA s 3 (ix (x10 + x11)) (0 : Int32)) fun s5 =>
          f_placeObject_96 n k x1 x4 x9 x10 (x11 + (1 : Int32)) s5
        else
          f_placeObject_96 n k x1 x4 x9 x10 (x11 + (1 : Int32)) s
    else
      some (((x1 * (16 : Int32)) + (x9 * x4)), s)
set_option maxRecDepth 100000 in
theorem e_placeObject_96 {g : GT} {n : Nat} (hw : HW g) {K : St → MHeap} {o : Nat} {r : Nat → Nat} (V : View (GG g) Ln K o r) (k : Nat) : ∀ (x1 : Int32) (x4 : Int32) (x9 : Int32) (x10 : Int32) (x11 : Int32) (s : St) (y2 : Slot) (hy2 : one1 y2 = true) (y3 : Slot) (hy3 : one1 y3 = true) (y5 : Slot) (hy5 : one1 y5 = true) (y6 : Slot) (hy6 : one1 y6 = true) (y7 : Slot) (hy7 : one1 y7 = true) (y8 : Slot) (hy8 : one1 y8 = true) (y12 : Slot) (hy12 : one1 y12 = true) (w : Int32 × St), f_placeObject_96 n k x1 x4 x9 x10 x11 s = some w → Ev (GG g) M_placeObject 96 [.val (.ref o), .val (.int x1), y2, y3, .val (.int x4), y5, y6, y7, y8, .val (.int x9), .val (.int x10), .val (.int x11), y12] [] (K s) ((some (.int w.1)), (K w.2)) := by
  induction k with
  | zero => intro x1 x4 x9 x10 x11 s y2 hy2 y3 hy3 y5 hy5 y6 hy6 y7 hy7 y8 hy8 y12 hy12 w hr; rw [f_placeObject_96] at hr; cases hr
  | succ k ih =>
    intro x1 x4 x9 x10 x11 s y2 hy2 y3 hy3 y5 hy5 y6 hy6 y7 hy7 y8 hy8 y12 hy12 w hr
    rw [f_placeObject_96] at hr
    refine Ev.iload (d9 58 rfl) rfl ?_
    refine Ev.iload (d9 59 rfl) rfl ?_
    refine Ev.icge (t := 137) (d9 60 rfl) rfl (fun c1 => ?_) (fun c1 => ?_)
    · replace hr := (if_pos c1).symm.trans hr
      refine Ev.iload (d9 61 rfl) rfl ?_
      refine Ev.iload (d9 62 rfl) rfl ?_
      refine Ev.iadd (d9 63 rfl) ?_
      refine Ev.istD (L' := [.val (.ref o), .val (.int x1), y2, y3, .val (.int x4), y5, y6, y7, y8, .val (.int x9), .val (.int x10), .val (.int x11), .val (.int (x10 + x11))]) (d9 64 rfl) rfl hy12 rfl ?_
      refine Ev.iload (d9 65 rfl) rfl ?_
      refine Ev.iflt (t := 131) (d9 66 rfl) rfl (fun c2 => ?_) (fun c2 => ?_)
      · replace hr := (if_pos c2).symm.trans hr
        refine Ev.iinc (z := 1) (L' := [.val (.ref o), .val (.int x1), y2, y3, .val (.int x4), y5, y6, y7, y8, .val (.int x9), .val (.int x10), .val (.int (x11 + (1 : Int32))), .val (.int (x10 + x11))]) (d9 75 rfl) rfl rfl rfl ?_
        refine Ev.goto (t := 96) (d9 76 rfl) rfl ?_
        exact ih x1 x4 x9 x10 (x11 + (1 : Int32)) s y2 hy2 y3 hy3 y5 hy5 y6 hy6 y7 hy7 y8 hy8 (.val (.int (x10 + x11))) rfl _ hr
      · replace hr := (if_neg c2).symm.trans hr
        refine Ev.iload (d9 67 rfl) rfl ?_
        refine Ev.sipush (z := 256) (d9 68 rfl) rfl ?_
        refine Ev.icge (t := 131) (d9 69 rfl) rfl (fun c3 => ?_) (fun c3 => ?_)
        · replace hr := (if_pos c3).symm.trans hr
          refine Ev.aloadN (d9 70 rfl) rfl ?_
          refine Ev.gAr V (ww hw 16 rfl) (d9 71 rfl) (j := 3) rfl ?_
          refine Ev.iload (d9 72 rfl) rfl ?_
          refine Ev.iconst (z := 0) (d9 73 rfl) rfl ?_
          obtain ⟨b4, hr⟩ := grd_some hr
          refine Ev.ias V (j := 3) rfl rfl (d9 74 rfl) b4 ?_
          revert hr
          generalize setA s 3 (ix (x10 + x11)) (0 : Int32) = s5
          intro hr
          replace hr := (bnd_eq _ _).symm.trans hr
          refine Ev.iinc (z := 1) (L' := [.val (.ref o), .val (.int x1), y2, y3, .val (.int x4), y5, y6, y7, y8, .val (.int x9), .val (.int x10), .val (.int (x11 + (1 : Int32))), .val (.int (x10 + x11))]) (d9 75 rfl) rfl rfl rfl ?_
          refine Ev.goto (t := 96) (d9 76 rfl) rfl ?_
          exact ih x1 x4 x9 x10 (x11 + (1 : Int32)) s5 y2 hy2 y3 hy3 y5 hy5 y6 hy6 y7 hy7 y8 hy8 (.val (.int (x10 + x11))) rfl _ hr
        · replace hr := (if_neg c3).symm.trans hr
          refine Ev.iinc (z := 1) (L' := [.val (.ref o), .val (.int x1), y2, y3, .val (.int x4), y5, y6, y7, y8, .val (.int x9), .val (.int x10), .val (.int (x11 + (1 : Int32))), .val (.int (x10 + x11))]) (d9 75 rfl) rfl rfl rfl ?_
          refine Ev.goto (t := 96) (d9 76 rfl) rfl ?_
          exact ih x1 x4 x9 x10 (x11 + (1 : Int32)) s y2 hy2 y3 hy3 y5 hy5 y6 hy6 y7 hy7 y8 hy8 (.val (.int (x10 + x11))) rfl _ hr
    · replace hr := (if_neg c1).symm.trans hr
      refine Ev.iloadN (d9 77 rfl) rfl ?_
      refine Ev.bipush (z := 16) (d9 78 rfl) rfl ?_
      refine Ev.imul (d9 79 rfl) ?_
      refine Ev.iload (d9 80 rfl) rfl ?_
      refine Ev.iload (d9 81 rfl) rfl ?_
      refine Ev.imul (d9 82 rfl) ?_
      refine Ev.iadd (d9 83 rfl) ?_
      cases hr
      exact Ev.ireturn rfl (d9 84 rfl)
def f_placeObject_47 (n : Nat) (x1 : Int32) (x3 : Int32) (x4 : Int32) (x5 : Int32) (x6 : Int32) (x7 : Int32) (s : St) : Option (Int32 × St) :=
  (f_step s).bind fun q1 =>
  grd (x7 ≠ 0) <|
  (f_nthClear n q1.2 x6 x3 (q1.1 % x7)).bind fun q4 =>
  grd (inb x1 16) <|
  bnd (setA q1.2 2 (ix x1) ((q1.2.2 2 (ix x1)) ||| ((1 : Int32) <<< (q4 &&& 31)))) fun s7 =>
  bnd ((x5 * (16 : Int32)) + (q4 * x4)) fun v8 =>
  f_placeObject_96 n n x1 x4 q4 v8 (0 : Int32) s7
set_option maxRecDepth 100000 in
theorem e_placeObject_47 {g : GT} {n : Nat} (hw : HW g) {K : St → MHeap} {o : Nat} {r : Nat → Nat} (V : View (GG g) Ln K o r) (x1 : Int32) (x3 : Int32) (x4 : Int32) (x5 : Int32) (x6 : Int32) (x7 : Int32) (s : St) (y2 : Slot) (hy2 : one1 y2 = true) (y8 : Slot) (hy8 : one1 y8 = true) (y9 : Slot) (hy9 : one1 y9 = true) (y10 : Slot) (hy10 : one1 y10 = true) (y11 : Slot) (hy11 : one1 y11 = true) (y12 : Slot) (hy12 : one1 y12 = true) (w : Int32 × St) (hr : f_placeObject_47 n x1 x3 x4 x5 x6 x7 s = some w) : Ev (GG g) M_placeObject 47 [.val (.ref o), .val (.int x1), y2, .val (.int x3), .val (.int x4), .val (.int x5), .val (.int x6), .val (.int x7), y8, y9, y10, y11, y12] [] (K s) ((some (.int w.1)), (K w.2)) := by
  unfold f_placeObject_47 at hr
  refine Ev.aloadN (d9 27 rfl) rfl ?_
  obtain ⟨q1, hq2, hr⟩ := Option.bind_eq_some_iff.mp hr
  refine Ev.priv (y := M_step) (args := []) (rest := []) (gok hw) rfl nm_step (ww hw 71 rfl) (ww hw 72 rfl) (ww hw 73 rfl) (ww hw 74 rfl) (lenOf pd_step rfl) (d9 28 rfl) (V.2.1 s) (e_step hw V hq2) (by decide) (Nat.le_of_ble_eq_true rfl) rfl ?_
  refine Ev.istD (L' := [.val (.ref o), .val (.int x1), y2, .val (.int x3), .val (.int x4), .val (.int x5), .val (.int x6), .val (.int x7), .val (.int q1.1), y9, y10, y11, y12]) (d9 29 rfl) rfl hy8 rfl ?_
  refine Ev.aloadN (d9 30 rfl) rfl ?_
  refine Ev.iload (d9 31 rfl) rfl ?_
  refine Ev.iloadN (d9 32 rfl) rfl ?_
  refine Ev.iload (d9 33 rfl) rfl ?_
  refine Ev.iload (d9 34 rfl) rfl ?_
  obtain ⟨c3, hr⟩ := grd_some hr
  refine Ev.irem (d9 35 rfl) c3 ?_
  obtain ⟨q4, hq5, hr⟩ := Option.bind_eq_some_iff.mp hr
  refine Ev.priv (y := M_nthClear) (args := [.int x6, .int x3, .int (q1.1 % x7)]) (rest := []) (gok hw) rfl nm_nthClear (ww hw 76 rfl) (ww hw 77 rfl) (ww hw 78 rfl) (ww hw 79 rfl) (lenOf pd_nthClear rfl) (d9 36 rfl) (V.2.1 q1.2) (e_nthClear hw V hq5) (by decide) (Nat.le_of_ble_eq_true rfl) rfl ?_
  refine Ev.istD (L' := [.val (.ref o), .val (.int x1), y2, .val (.int x3), .val (.int x4), .val (.int x5), .val (.int x6), .val (.int x7), .val (.int q1.1), .val (.int q4), y10, y11, y12]) (d9 37 rfl) rfl hy9 rfl ?_
  refine Ev.aloadN (d9 38 rfl) rfl ?_
  refine Ev.gAr V (ww hw 14 rfl) (d9 39 rfl) (j := 2) rfl ?_
  refine Ev.iloadN (d9 40 rfl) rfl ?_
  refine Ev.dup2 (d9 41 rfl) rfl rfl ?_
  obtain ⟨b6, hr⟩ := grd_some hr
  refine Ev.ial V (j := 2) rfl rfl (d9 42 rfl) b6 ?_
  refine Ev.iconst (z := 1) (d9 43 rfl) rfl ?_
  refine Ev.iload (d9 44 rfl) rfl ?_
  refine Ev.ishl (d9 45 rfl) ?_
  refine Ev.ior (d9 46 rfl) ?_
  refine Ev.ias V (j := 2) rfl rfl (d9 47 rfl) b6 ?_
  revert hr
  generalize setA q1.2 2 (ix x1) ((q1.2.2 2 (ix x1)) ||| ((1 : Int32) <<< (q4 &&& 31))) = s7
  intro hr
  replace hr := (bnd_eq _ _).symm.trans hr
  refine Ev.iload (d9 48 rfl) rfl ?_
  refine Ev.bipush (z := 16) (d9 49 rfl) rfl ?_
  refine Ev.imul (d9 50 rfl) ?_
  refine Ev.iload (d9 51 rfl) rfl ?_
  refine Ev.iload (d9 52 rfl) rfl ?_
  refine Ev.imul (d9 53 rfl) ?_
  refine Ev.iadd (d9 54 rfl) ?_
  revert hr
  generalize ((x5 * (16 : Int32)) + (q4 * x4)) = v8
  intro hr
  replace hr := (bnd_eq _ _).symm.trans hr
  refine Ev.istD (L' := [.val (.ref o), .val (.int x1), y2, .val (.int x3), .val (.int x4), .val (.int x5), .val (.int x6), .val (.int x7), .val (.int q1.1), .val (.int q4), .val (.int v8), y11, y12]) (d9 55 rfl) rfl hy10 rfl ?_
  refine Ev.iconst (z := 0) (d9 56 rfl) rfl ?_
  refine Ev.istD (L' := [.val (.ref o), .val (.int x1), y2, .val (.int x3), .val (.int x4), .val (.int x5), .val (.int x6), .val (.int x7), .val (.int q1.1), .val (.int q4), .val (.int v8), .val (.int (0 : Int32)), y12]) (d9 57 rfl) rfl hy11 rfl ?_
  exact e_placeObject_96 hw V  n x1 x4 q4 v8 (0 : Int32) s7 y2 hy2 (.val (.int x3)) rfl (.val (.int x5)) rfl (.val (.int x6)) rfl (.val (.int x7)) rfl (.val (.int q1.1)) rfl y12 hy12 _ hr
def f_placeObject (n : Nat) (a0 : Int32) (a1 : Int32) (s : St) : Option (Int32 × St) :=
  (f_slotsOf s a1).bind fun q1 =>
  (f_sizeOf s a1).bind fun q3 =>
  grd (inb a0 16) <|
  (f_unionOf n s (s.2 1 (ix a0))).bind fun q6 =>
  (f_countClear n s q6 q1).bind fun q8 =>
  if q8 < (1 : Int32) then
    f_placeObject_47 n a0 q1 q3 (s.2 1 (ix a0)) q6 (1 : Int32) s
  else
    f_placeObject_47 n a0 q1 q3 (s.2 1 (ix a0)) q6 q8 s
set_option maxRecDepth 100000 in
theorem e_placeObject {g : GT} {n : Nat} {a0 : Int32} {a1 : Int32} {s : St} {w : Int32 × St} (hw : HW g) {K : St → MHeap} {o : Nat} {r : Nat → Nat} (V : View (GG g) Ln K o r) (hr : f_placeObject n a0 a1 s = some w) : EvC (GG g) M_placeObject [.ref o, .int a0, .int a1] (K s) ((some (.int w.1)), (K w.2)) := by
  refine EvC.enter (L0 := [.val (.ref o), .val (.int a0), .val (.int a1), .unset, .unset, .unset, .unset, .unset, .unset, .unset, .unset, .unset, .unset]) pl_placeObject (fun h => nomatch h) rfl rfl ?_
  unfold f_placeObject at hr
  refine Ev.aloadN (d9 0 rfl) rfl ?_
  refine Ev.iloadN (d9 1 rfl) rfl ?_
  obtain ⟨q1, hq2, hr⟩ := Option.bind_eq_some_iff.mp hr
  refine Ev.priv (y := M_slotsOf) (args := [.int a1]) (rest := []) (gok hw) rfl nm_slotsOf (ww hw 39 rfl) (ww hw 40 rfl) (ww hw 41 rfl) (ww hw 42 rfl) (lenOf pd_slotsOf rfl) (d9 2 rfl) (V.2.1 s) (e_slotsOf hw V hq2) (by decide) (Nat.le_of_ble_eq_true rfl) rfl ?_
  refine Ev.istDN (L' := [.val (.ref o), .val (.int a0), .val (.int a1), .val (.int q1), .unset, .unset, .unset, .unset, .unset, .unset, .unset, .unset, .unset]) (d9 3 rfl) rfl rfl rfl ?_
  refine Ev.aloadN (d9 4 rfl) rfl ?_
  refine Ev.iloadN (d9 5 rfl) rfl ?_
  obtain ⟨q3, hq4, hr⟩ := Option.bind_eq_some_iff.mp hr
  refine Ev.priv (y := M_sizeOf) (args := [.int a1]) (rest := []) (gok hw) rfl nm_sizeOf (ww hw 59 rfl) (ww hw 60 rfl) (ww hw 61 rfl) (ww hw 62 rfl) (lenOf pd_sizeOf rfl) (d9 6 rfl) (V.2.1 s) (e_sizeOf hw V hq4) (by decide) (Nat.le_of_ble_eq_true rfl) rfl ?_
  refine Ev.istD (L' := [.val (.ref o), .val (.int a0), .val (.int a1), .val (.int q1), .val (.int q3), .unset, .unset, .unset, .unset, .unset, .unset, .unset, .unset]) (d9 7 rfl) rfl rfl rfl ?_
  refine Ev.aloadN (d9 8 rfl) rfl ?_
  refine Ev.gAr V (ww hw 12 rfl) (d9 9 rfl) (j := 1) rfl ?_
  refine Ev.iloadN (d9 10 rfl) rfl ?_
  obtain ⟨b5, hr⟩ := grd_some hr
  refine Ev.ial V (j := 1) rfl rfl (d9 11 rfl) b5 ?_
  refine Ev.istD (L' := [.val (.ref o), .val (.int a0), .val (.int a1), .val (.int q1), .val (.int q3), .val (.int (s.2 1 (ix a0))), .unset, .unset, .unset, .unset, .unset, .unset, .unset]) (d9 12 rfl) rfl rfl rfl ?_
  refine Ev.aloadN (d9 13 rfl) rfl ?_
  refine Ev.iload (d9 14 rfl) rfl ?_
  obtain ⟨q6, hq7, hr⟩ := Option.bind_eq_some_iff.mp hr
  refine Ev.priv (y := M_unionOf) (args := [.int (s.2 1 (ix a0))]) (rest := []) (gok hw) rfl nm_unionOf (ww hw 63 rfl) (ww hw 64 rfl) (ww hw 65 rfl) (ww hw 66 rfl) (lenOf pd_unionOf rfl) (d9 15 rfl) (V.2.1 s) (e_unionOf hw V hq7) (by decide) (Nat.le_of_ble_eq_true rfl) rfl ?_
  refine Ev.istD (L' := [.val (.ref o), .val (.int a0), .val (.int a1), .val (.int q1), .val (.int q3), .val (.int (s.2 1 (ix a0))), .val (.int q6), .unset, .unset, .unset, .unset, .unset, .unset]) (d9 16 rfl) rfl rfl rfl ?_
  refine Ev.aloadN (d9 17 rfl) rfl ?_
  refine Ev.iload (d9 18 rfl) rfl ?_
  refine Ev.iloadN (d9 19 rfl) rfl ?_
  obtain ⟨q8, hq9, hr⟩ := Option.bind_eq_some_iff.mp hr
  refine Ev.priv (y := M_countClear) (args := [.int q6, .int q1]) (rest := []) (gok hw) rfl nm_countClear (ww hw 67 rfl) (ww hw 68 rfl) (ww hw 69 rfl) (ww hw 70 rfl) (lenOf pd_countClear rfl) (d9 20 rfl) (V.2.1 s) (e_countClear hw V hq9) (by decide) (Nat.le_of_ble_eq_true rfl) rfl ?_
  refine Ev.istD (L' := [.val (.ref o), .val (.int a0), .val (.int a1), .val (.int q1), .val (.int q3), .val (.int (s.2 1 (ix a0))), .val (.int q6), .val (.int q8), .unset, .unset, .unset, .unset, .unset]) (d9 21 rfl) rfl rfl rfl ?_
  refine Ev.iload (d9 22 rfl) rfl ?_
  refine Ev.iconst (z := 1) (d9 23 rfl) rfl ?_
  refine Ev.icge (t := 47) (d9 24 rfl) rfl (fun c10 => ?_) (fun c10 => ?_)
  · replace hr := (if_pos c10).symm.trans hr
    refine Ev.iconst (z := 1) (d9 25 rfl) rfl ?_
    refine Ev.istD (L' := [.val (.ref o), .val (.int a0), .val (.int a1), .val (.int q1), .val (.int q3), .val (.int (s.2 1 (ix a0))), .val (.int q6), .val (.int (1 : Int32)), .unset, .unset, .unset, .unset, .unset]) (d9 26 rfl) rfl rfl rfl ?_
    exact e_placeObject_47 hw V  a0 q1 q3 (s.2 1 (ix a0)) q6 (1 : Int32) s (.val (.int a1)) rfl .unset rfl .unset rfl .unset rfl .unset rfl .unset rfl _ hr
  · replace hr := (if_neg c10).symm.trans hr
    exact e_placeObject_47 hw V  a0 q1 q3 (s.2 1 (ix a0)) q6 q8 s (.val (.int a1)) rfl .unset rfl .unset rfl .unset rfl .unset rfl .unset rfl _ hr
def f_alloc_66 (n : Nat) (x1 : Int32) (x2 : Int32) (s : St) : Option (Int32 × St) :=
  (f_placeObject n x2 x1 s).bind fun q1 =>
  some (q1.1, q1.2)
set_option maxRecDepth 100000 in
theorem e_alloc_66 {g : GT} {n : Nat} (hw : HW g) {K : St → MHeap} {o : Nat} {r : Nat → Nat} (V : View (GG g) Ln K o r) (x1 : Int32) (x2 : Int32) (s : St) (y3 : Slot) (hy3 : one1 y3 = true) (w : Int32 × St) (hr : f_alloc_66 n x1 x2 s = some w) : Ev (GG g) M_alloc 66 [.val (.ref o), .val (.int x1), .val (.int x2), y3] [] (K s) ((some (.int w.1)), (K w.2)) := by
  unfold f_alloc_66 at hr
  refine Ev.aloadN (d3 42 rfl) rfl ?_
  refine Ev.iloadN (d3 43 rfl) rfl ?_
  refine Ev.iloadN (d3 44 rfl) rfl ?_
  obtain ⟨q1, hq2, hr⟩ := Option.bind_eq_some_iff.mp hr
  refine Ev.priv (y := M_placeObject) (args := [.int x2, .int x1]) (rest := []) (gok hw) rfl nm_placeObject (ww hw 55 rfl) (ww hw 56 rfl) (ww hw 57 rfl) (ww hw 58 rfl) (lenOf pd_placeObject rfl) (d3 45 rfl) (V.2.1 s) (e_placeObject hw V hq2) (by decide) (Nat.le_of_ble_eq_true rfl) rfl ?_
  cases hr
  exact Ev.ireturn rfl (d3 46 rfl)
def f_alloc (n : Nat) (a0 : Int32) (s : St) : Option (Int32 × St) :=
  if a0 < 0 then
    some ((-1 : Int32), s)
  else
    if (2 : Int32) < a0 then
      some ((-1 : Int32), s)
    else
      (f_findEligible n s a0).bind fun q3 =>
      if q3 < 0 then
        (f_lowestUnusedPage n s).bind fun q6 =>
        if q6 < 0 then
          some ((-2 : Int32), s)
        else
          (f_lowestFreeFrame n s).bind fun q9 =>
          if q9 < 0 then
            some ((-3 : Int32), s)
          else
            grd (inb q6 16) <|
            bnd (setA s 0 (ix q6) a0) fun s13 =>
            bnd (setA s13 1 (ix q6) q9) fun s14 =>
            bnd (setA s14 2 (ix q6) (0 : Int32)) fun s15 =>
            f_alloc_66 n a0 q6 s15
      else
        f_alloc_66 n a0 q3 s
set_option maxRecDepth 100000 in
theorem e_alloc {g : GT} {n : Nat} {a0 : Int32} {s : St} {w : Int32 × St} (hw : HW g) {K : St → MHeap} {o : Nat} {r : Nat → Nat} (V : View (GG g) Ln K o r) (hr : f_alloc n a0 s = some w) : EvC (GG g) M_alloc [.ref o, .int a0] (K s) ((some (.int w.1)), (K w.2)) := by
  refine EvC.enter (L0 := [.val (.ref o), .val (.int a0), .unset, .unset]) pl_alloc (fun h => nomatch h) rfl rfl ?_
  unfold f_alloc at hr
  refine Ev.iloadN (d3 0 rfl) rfl ?_
  refine Ev.iflt (t := 9) (d3 1 rfl) rfl (fun c1 => ?_) (fun c1 => ?_)
  · replace hr := (if_pos c1).symm.trans hr
    refine Ev.iconst (z := -1) (d3 5 rfl) rfl ?_
    cases hr
    exact Ev.ireturn rfl (d3 6 rfl)
  · replace hr := (if_neg c1).symm.trans hr
    refine Ev.iloadN (d3 2 rfl) rfl ?_
    refine Ev.iconst (z := 2) (d3 3 rfl) rfl ?_
    refine Ev.icle (t := 11) (d3 4 rfl) rfl (fun c2 => ?_) (fun c2 => ?_)
    · replace hr := (if_pos c2).symm.trans hr
      refine Ev.iconst (z := -1) (d3 5 rfl) rfl ?_
      cases hr
      exact Ev.ireturn rfl (d3 6 rfl)
    · replace hr := (if_neg c2).symm.trans hr
      refine Ev.aloadN (d3 7 rfl) rfl ?_
      refine Ev.iloadN (d3 8 rfl) rfl ?_
      obtain ⟨q3, hq4, hr⟩ := Option.bind_eq_some_iff.mp hr
      refine Ev.priv (y := M_findEligible) (args := [.int a0]) (rest := []) (gok hw) rfl nm_findEligible (ww hw 35 rfl) (ww hw 36 rfl) (ww hw 37 rfl) (ww hw 38 rfl) (lenOf pd_findEligible rfl) (d3 9 rfl) (V.2.1 s) (e_findEligible hw V hq4) (by decide) (Nat.le_of_ble_eq_true rfl) rfl ?_
      refine Ev.istDN (L' := [.val (.ref o), .val (.int a0), .val (.int q3), .unset]) (d3 10 rfl) rfl rfl rfl ?_
      refine Ev.iloadN (d3 11 rfl) rfl ?_
      refine Ev.ifge (t := 66) (d3 12 rfl) rfl (fun c5 => ?_) (fun c5 => ?_)
      · replace hr := (if_pos c5).symm.trans hr
        refine Ev.aloadN (d3 13 rfl) rfl ?_
        obtain ⟨q6, hq7, hr⟩ := Option.bind_eq_some_iff.mp hr
        refine Ev.priv (y := M_lowestUnusedPage) (args := []) (rest := []) (gok hw) rfl nm_lowestUnusedPage (ww hw 43 rfl) (ww hw 44 rfl) (ww hw 45 rfl) (ww hw 46 rfl) (lenOf pd_lowestUnusedPage rfl) (d3 14 rfl) (V.2.1 s) (e_lowestUnusedPage hw V hq7) (by decide) (Nat.le_of_ble_eq_true rfl) rfl ?_
        refine Ev.istDN (L' := [.val (.ref o), .val (.int a0), .val (.int q6), .unset]) (d3 15 rfl) rfl rfl rfl ?_
        refine Ev.iloadN (d3 16 rfl) rfl ?_
        refine Ev.ifge (t := 33) (d3 17 rfl) rfl (fun c8 => ?_) (fun c8 => ?_)
        · replace hr := (if_pos c8).symm.trans hr
          refine Ev.bipush (z := -2) (d3 18 rfl) rfl ?_
          cases hr
          exact Ev.ireturn rfl (d3 19 rfl)
        · replace hr := (if_neg c8).symm.trans hr
          refine Ev.aloadN (d3 20 rfl) rfl ?_
          obtain ⟨q9, hq10, hr⟩ := Option.bind_eq_some_iff.mp hr
          refine Ev.priv (y := M_lowestFreeFrame) (args := []) (rest := []) (gok hw) rfl nm_lowestFreeFrame (ww hw 47 rfl) (ww hw 48 rfl) (ww hw 49 rfl) (ww hw 50 rfl) (lenOf pd_lowestFreeFrame rfl) (d3 21 rfl) (V.2.1 s) (e_lowestFreeFrame hw V hq10) (by decide) (Nat.le_of_ble_eq_true rfl) rfl ?_
          refine Ev.istDN (L' := [.val (.ref o), .val (.int a0), .val (.int q6), .val (.int q9)]) (d3 22 rfl) rfl rfl rfl ?_
          refine Ev.iloadN (d3 23 rfl) rfl ?_
          refine Ev.ifge (t := 45) (d3 24 rfl) rfl (fun c11 => ?_) (fun c11 => ?_)
          · replace hr := (if_pos c11).symm.trans hr
            refine Ev.bipush (z := -3) (d3 25 rfl) rfl ?_
            cases hr
            exact Ev.ireturn rfl (d3 26 rfl)
          · replace hr := (if_neg c11).symm.trans hr
            refine Ev.aloadN (d3 27 rfl) rfl ?_
            refine Ev.gAr V (ww hw 10 rfl) (d3 28 rfl) (j := 0) rfl ?_
            refine Ev.iloadN (d3 29 rfl) rfl ?_
            refine Ev.iloadN (d3 30 rfl) rfl ?_
            obtain ⟨b12, hr⟩ := grd_some hr
            refine Ev.ias V (j := 0) rfl rfl (d3 31 rfl) b12 ?_
            revert hr
            generalize setA s 0 (ix q6) a0 = s13
            intro hr
            replace hr := (bnd_eq _ _).symm.trans hr
            refine Ev.aloadN (d3 32 rfl) rfl ?_
            refine Ev.gAr V (ww hw 12 rfl) (d3 33 rfl) (j := 1) rfl ?_
            refine Ev.iloadN (d3 34 rfl) rfl ?_
            refine Ev.iloadN (d3 35 rfl) rfl ?_
            refine Ev.ias V (j := 1) rfl rfl (d3 36 rfl) b12 ?_
            revert hr
            generalize setA s13 1 (ix q6) q9 = s14
            intro hr
            replace hr := (bnd_eq _ _).symm.trans hr
            refine Ev.aloadN (d3 37 rfl) rfl ?_
            refine Ev.gAr V (ww hw 14 rfl) (d3 38 rfl) (j := 2) rfl ?_
            refine Ev.iloadN (d3 39 rfl) rfl ?_
            refine Ev.iconst (z := 0) (d3 40 rfl) rfl ?_
            refine Ev.ias V (j := 2) rfl rfl (d3 41 rfl) b12 ?_
            revert hr
            generalize setA s14 2 (ix q6) (0 : Int32) = s15
            intro hr
            replace hr := (bnd_eq _ _).symm.trans hr
            exact e_alloc_66 hw V  a0 q6 s15 (.val (.int q9)) rfl _ hr
      · replace hr := (if_neg c5).symm.trans hr
        exact e_alloc_66 hw V  a0 q3 s .unset rfl _ hr
def f_hstep (a0 : Int32) : Option (Int32) :=
  some ((a0 * (1103515245 : Int32)) + (12345 : Int32))
set_option maxRecDepth 100000 in
theorem e_hstep {g : GT} {a0 : Int32} {w : Int32} (hw : HW g) {h : MHeap} (hr : f_hstep a0 = some w) : EvC (GG g) M_hstep [.int a0] h ((some (.int w)), h) := by
  refine EvC.enter (L0 := [.val (.int a0)]) pl_hstep (fun h => nomatch h) rfl rfl ?_
  unfold f_hstep at hr
  refine Ev.iloadN (d15 0 rfl) rfl ?_
  refine Ev.ldc (ww hw 84 rfl) (d15 1 rfl) ?_
  refine Ev.imul (d15 2 rfl) ?_
  refine Ev.sipush (z := 12345) (d15 3 rfl) rfl ?_
  refine Ev.iadd (d15 4 rfl) ?_
  cases hr
  exact Ev.ireturn rfl (d15 5 rfl)
def f_rngState (s : St) : Option (Int32) :=
  some (s.1 6)
set_option maxRecDepth 100000 in
theorem e_rngState {g : GT} {s : St} {w : Int32} (hw : HW g) {K : St → MHeap} {o : Nat} {r : Nat → Nat} (V : View (GG g) Ln K o r) (hr : f_rngState s = some w) : EvC (GG g) M_rngState [.ref o] (K s) ((some (.int w)), (K s)) := by
  refine EvC.enter (L0 := [.val (.ref o)]) pl_rngState (fun h => nomatch h) rfl rfl ?_
  unfold f_rngState at hr
  refine Ev.aloadN (d16 0 rfl) rfl ?_
  refine Ev.gI V (ww hw 27 rfl) (d16 1 rfl) (j := 6) rfl rfl ?_
  cases hr
  exact Ev.ireturn rfl (d16 2 rfl)
def f_free (a0 : Int32) (s : St) : Option (Int32 × St) :=
  if a0 < 0 then
    some ((0 : Int32), s)
  else
    if a0 < ((s.1 4) * (16 : Int32)) then
      grd (inb (a0 / (16 : Int32)) 16) <|
      if (s.2 0 (ix (a0 / (16 : Int32)))) = (-1 : Int32) then
        some ((0 : Int32), s)
      else
        (f_sizeOf s (s.2 0 (ix (a0 / (16 : Int32))))).bind fun q5 =>
        grd (q5 ≠ 0) <|
        if ((a0 % (16 : Int32)) % q5) = 0 then
          grd (q5 ≠ 0) <|
          if ((XT.ushr (s.2 2 (ix (a0 / (16 : Int32)))) ((a0 % (16 : Int32)) / q5)) &&& (1 : Int32)) = 0 then
            some ((0 : Int32), s)
          else
            bnd (setA s 2 (ix (a0 / (16 : Int32))) ((s.2 2 (ix (a0 / (16 : Int32)))) &&& (((1 : Int32) <<< (((a0 % (16 : Int32)) / q5) &&& 31)) ^^^ (-1 : Int32)))) fun s11 =>
            if (s11.2 2 (ix (a0 / (16 : Int32)))) = 0 then
              bnd (setA s11 0 (ix (a0 / (16 : Int32))) (-1 : Int32)) fun s13 =>
              bnd (setA s13 1 (ix (a0 / (16 : Int32))) (-1 : Int32)) fun s14 =>
              some ((1 : Int32), s14)
            else
              some ((1 : Int32), s11)
        else
          some ((0 : Int32), s)
    else
      some ((0 : Int32), s)
set_option maxRecDepth 100000 in
theorem e_free {g : GT} {a0 : Int32} {s : St} {w : Int32 × St} (hw : HW g) {K : St → MHeap} {o : Nat} {r : Nat → Nat} (V : View (GG g) Ln K o r) (hr : f_free a0 s = some w) : EvC (GG g) M_free [.ref o, .int a0] (K s) ((some (.int w.1)), (K w.2)) := by
  refine EvC.enter (L0 := [.val (.ref o), .val (.int a0), .unset, .unset, .unset, .unset, .unset]) pl_free (fun h => nomatch h) rfl rfl ?_
  unfold f_free at hr
  refine Ev.iloadN (d17 0 rfl) rfl ?_
  refine Ev.iflt (t := 15) (d17 1 rfl) rfl (fun c1 => ?_) (fun c1 => ?_)
  · replace hr := (if_pos c1).symm.trans hr
    refine Ev.iconst (z := 0) (d17 8 rfl) rfl ?_
    cases hr
    exact Ev.zret0 rfl (d17 9 rfl)
  · replace hr := (if_neg c1).symm.trans hr
    refine Ev.iloadN (d17 2 rfl) rfl ?_
    refine Ev.aloadN (d17 3 rfl) rfl ?_
    refine Ev.gI V (ww hw 22 rfl) (d17 4 rfl) (j := 4) rfl rfl ?_
    refine Ev.bipush (z := 16) (d17 5 rfl) rfl ?_
    refine Ev.imul (d17 6 rfl) ?_
    refine Ev.iclt (t := 17) (d17 7 rfl) rfl (fun c2 => ?_) (fun c2 => ?_)
    · replace hr := (if_pos c2).symm.trans hr
      refine Ev.iloadN (d17 10 rfl) rfl ?_
      refine Ev.bipush (z := 16) (d17 11 rfl) rfl ?_
      refine Ev.idiv (d17 12 rfl) (by decide) ?_
      refine Ev.istDN (L' := [.val (.ref o), .val (.int a0), .val (.int (a0 / (16 : Int32))), .unset, .unset, .unset, .unset]) (d17 13 rfl) rfl rfl rfl ?_
      refine Ev.aloadN (d17 14 rfl) rfl ?_
      refine Ev.gAr V (ww hw 10 rfl) (d17 15 rfl) (j := 0) rfl ?_
      refine Ev.iloadN (d17 16 rfl) rfl ?_
      obtain ⟨b3, hr⟩ := grd_some hr
      refine Ev.ial V (j := 0) rfl rfl (d17 17 rfl) b3 ?_
      refine Ev.istDN (L' := [.val (.ref o), .val (.int a0), .val (.int (a0 / (16 : Int32))), .val (.int (s.2 0 (ix (a0 / (16 : Int32))))), .unset, .unset, .unset]) (d17 18 rfl) rfl rfl rfl ?_
      refine Ev.iloadN (d17 19 rfl) rfl ?_
      refine Ev.iconst (z := -1) (d17 20 rfl) rfl ?_
      refine Ev.icne (t := 36) (d17 21 rfl) rfl (fun c4 => ?_) (fun c4 => ?_)
      · replace hr := (if_pos c4).symm.trans hr
        refine Ev.iconst (z := 0) (d17 22 rfl) rfl ?_
        cases hr
        exact Ev.zret0 rfl (d17 23 rfl)
      · replace hr := (if_neg c4).symm.trans hr
        refine Ev.iloadN (d17 24 rfl) rfl ?_
        refine Ev.bipush (z := 16) (d17 25 rfl) rfl ?_
        refine Ev.irem (d17 26 rfl) (by decide) ?_
        refine Ev.istD (L' := [.val (.ref o), .val (.int a0), .val (.int (a0 / (16 : Int32))), .val (.int (s.2 0 (ix (a0 / (16 : Int32))))), .val (.int (a0 % (16 : Int32))), .unset, .unset]) (d17 27 rfl) rfl rfl rfl ?_
        refine Ev.aloadN (d17 28 rfl) rfl ?_
        refine Ev.iloadN (d17 29 rfl) rfl ?_
        obtain ⟨q5, hq6, hr⟩ := Option.bind_eq_some_iff.mp hr
        refine Ev.priv (y := M_sizeOf) (args := [.int (s.2 0 (ix (a0 / (16 : Int32))))]) (rest := []) (gok hw) rfl nm_sizeOf (ww hw 59 rfl) (ww hw 60 rfl) (ww hw 61 rfl) (ww hw 62 rfl) (lenOf pd_sizeOf rfl) (d17 30 rfl) (V.2.1 s) (e_sizeOf hw V hq6) (by decide) (Nat.le_of_ble_eq_true rfl) rfl ?_
        refine Ev.istD (L' := [.val (.ref o), .val (.int a0), .val (.int (a0 / (16 : Int32))), .val (.int (s.2 0 (ix (a0 / (16 : Int32))))), .val (.int (a0 % (16 : Int32))), .val (.int q5), .unset]) (d17 31 rfl) rfl rfl rfl ?_
        refine Ev.iload (d17 32 rfl) rfl ?_
        refine Ev.iload (d17 33 rfl) rfl ?_
        obtain ⟨c7, hr⟩ := grd_some hr
        refine Ev.irem (d17 34 rfl) c7 ?_
        refine Ev.ifeq (t := 59) (d17 35 rfl) rfl (fun c8 => ?_) (fun c8 => ?_)
        · replace hr := (if_pos c8).symm.trans hr
          refine Ev.iload (d17 38 rfl) rfl ?_
          refine Ev.iload (d17 39 rfl) rfl ?_
          obtain ⟨c9, hr⟩ := grd_some hr
          refine Ev.idiv (d17 40 rfl) c9 ?_
          refine Ev.istD (L' := [.val (.ref o), .val (.int a0), .val (.int (a0 / (16 : Int32))), .val (.int (s.2 0 (ix (a0 / (16 : Int32))))), .val (.int (a0 % (16 : Int32))), .val (.int q5), .val (.int ((a0 % (16 : Int32)) / q5))]) (d17 41 rfl) rfl rfl rfl ?_
          refine Ev.aloadN (d17 42 rfl) rfl ?_
          refine Ev.gAr V (ww hw 14 rfl) (d17 43 rfl) (j := 2) rfl ?_
          refine Ev.iloadN (d17 44 rfl) rfl ?_
          refine Ev.ial V (j := 2) rfl rfl (d17 45 rfl) b3 ?_
          refine Ev.iload (d17 46 rfl) rfl ?_
          refine Ev.iushr (d17 47 rfl) ?_
          refine Ev.iconst (z := 1) (d17 48 rfl) rfl ?_
          refine Ev.iand (d17 49 rfl) ?_
          refine Ev.ifne (t := 82) (d17 50 rfl) rfl (fun c10 => ?_) (fun c10 => ?_)
          · replace hr := (if_pos c10).symm.trans hr
            refine Ev.iconst (z := 0) (d17 51 rfl) rfl ?_
            cases hr
            exact Ev.zret0 rfl (d17 52 rfl)
          · replace hr := (if_neg c10).symm.trans hr
            refine Ev.aloadN (d17 53 rfl) rfl ?_
            refine Ev.gAr V (ww hw 14 rfl) (d17 54 rfl) (j := 2) rfl ?_
            refine Ev.iloadN (d17 55 rfl) rfl ?_
            refine Ev.dup2 (d17 56 rfl) rfl rfl ?_
            refine Ev.ial V (j := 2) rfl rfl (d17 57 rfl) b3 ?_
            refine Ev.iconst (z := 1) (d17 58 rfl) rfl ?_
            refine Ev.iload (d17 59 rfl) rfl ?_
            refine Ev.ishl (d17 60 rfl) ?_
            refine Ev.iconst (z := -1) (d17 61 rfl) rfl ?_
            refine Ev.ixor (d17 62 rfl) ?_
            refine Ev.iand (d17 63 rfl) ?_
            refine Ev.ias V (j := 2) rfl rfl (d17 64 rfl) b3 ?_
            revert hr
            generalize setA s 2 (ix (a0 / (16 : Int32))) ((s.2 2 (ix (a0 / (16 : Int32)))) &&& (((1 : Int32) <<< (((a0 % (16 : Int32)) / q5) &&& 31)) ^^^ (-1 : Int32))) = s11
            intro hr
            replace hr := (bnd_eq _ _).symm.trans hr
            refine Ev.aloadN (d17 65 rfl) rfl ?_
            refine Ev.gAr V (ww hw 14 rfl) (d17 66 rfl) (j := 2) rfl ?_
            refine Ev.iloadN (d17 67 rfl) rfl ?_
            refine Ev.ial V (j := 2) rfl rfl (d17 68 rfl) b3 ?_
            refine Ev.ifne (t := 120) (d17 69 rfl) rfl (fun c12 => ?_) (fun c12 => ?_)
            · replace hr := (if_pos c12).symm.trans hr
              refine Ev.aloadN (d17 70 rfl) rfl ?_
              refine Ev.gAr V (ww hw 10 rfl) (d17 71 rfl) (j := 0) rfl ?_
              refine Ev.iloadN (d17 72 rfl) rfl ?_
              refine Ev.iconst (z := -1) (d17 73 rfl) rfl ?_
              refine Ev.ias V (j := 0) rfl rfl (d17 74 rfl) b3 ?_
              revert hr
              generalize setA s11 0 (ix (a0 / (16 : Int32))) (-1 : Int32) = s13
              intro hr
              replace hr := (bnd_eq _ _).symm.trans hr
              refine Ev.aloadN (d17 75 rfl) rfl ?_
              refine Ev.gAr V (ww hw 12 rfl) (d17 76 rfl) (j := 1) rfl ?_
              refine Ev.iloadN (d17 77 rfl) rfl ?_
              refine Ev.iconst (z := -1) (d17 78 rfl) rfl ?_
              refine Ev.ias V (j := 1) rfl rfl (d17 79 rfl) b3 ?_
              revert hr
              generalize setA s13 1 (ix (a0 / (16 : Int32))) (-1 : Int32) = s14
              intro hr
              replace hr := (bnd_eq _ _).symm.trans hr
              refine Ev.iconst (z := 1) (d17 80 rfl) rfl ?_
              cases hr
              exact Ev.zret1 rfl (d17 81 rfl)
            · replace hr := (if_neg c12).symm.trans hr
              refine Ev.iconst (z := 1) (d17 80 rfl) rfl ?_
              cases hr
              exact Ev.zret1 rfl (d17 81 rfl)
        · replace hr := (if_neg c8).symm.trans hr
          refine Ev.iconst (z := 0) (d17 36 rfl) rfl ?_
          cases hr
          exact Ev.zret0 rfl (d17 37 rfl)
    · replace hr := (if_neg c2).symm.trans hr
      refine Ev.iconst (z := 0) (d17 8 rfl) rfl ?_
      cases hr
      exact Ev.zret0 rfl (d17 9 rfl)
def f_liveIndex (s : St) (a0 : Int32) : Option (Int32) :=
  if a0 < 0 then
    some (-1 : Int32)
  else
    if a0 < ((s.1 4) * (16 : Int32)) then
      grd (inb (a0 / (16 : Int32)) 16) <|
      if (s.2 0 (ix (a0 / (16 : Int32)))) = (-1 : Int32) then
        some (-1 : Int32)
      else
        (f_sizeOf s (s.2 0 (ix (a0 / (16 : Int32))))).bind fun q5 =>
        grd (q5 ≠ 0) <|
        if ((XT.ushr (s.2 2 (ix (a0 / (16 : Int32)))) ((a0 % (16 : Int32)) / q5)) &&& (1 : Int32)) = 0 then
          some (-1 : Int32)
        else
          if (s.2 1 (ix (a0 / (16 : Int32)))) < 0 then
            some (-1 : Int32)
          else
            if (s.2 1 (ix (a0 / (16 : Int32)))) < (s.1 5) then
              some (((s.2 1 (ix (a0 / (16 : Int32)))) * (16 : Int32)) + (a0 % (16 : Int32)))
            else
              some (-1 : Int32)
    else
      some (-1 : Int32)
set_option maxRecDepth 100000 in
theorem e_liveIndex {g : GT} {s : St} {a0 : Int32} {w : Int32} (hw : HW g) {K : St → MHeap} {o : Nat} {r : Nat → Nat} (V : View (GG g) Ln K o r) (hr : f_liveIndex s a0 = some w) : EvC (GG g) M_liveIndex [.ref o, .int a0] (K s) ((some (.int w)), (K s)) := by
  refine EvC.enter (L0 := [.val (.ref o), .val (.int a0), .unset, .unset, .unset, .unset, .unset]) pl_liveIndex (fun h => nomatch h) rfl rfl ?_
  unfold f_liveIndex at hr
  refine Ev.iloadN (d19 0 rfl) rfl ?_
  refine Ev.iflt (t := 15) (d19 1 rfl) rfl (fun c1 => ?_) (fun c1 => ?_)
  · replace hr := (if_pos c1).symm.trans hr
    refine Ev.iconst (z := -1) (d19 8 rfl) rfl ?_
    cases hr
    exact Ev.ireturn rfl (d19 9 rfl)
  · replace hr := (if_neg c1).symm.trans hr
    refine Ev.iloadN (d19 2 rfl) rfl ?_
    refine Ev.aloadN (d19 3 rfl) rfl ?_
    refine Ev.gI V (ww hw 22 rfl) (d19 4 rfl) (j := 4) rfl rfl ?_
    refine Ev.bipush (z := 16) (d19 5 rfl) rfl ?_
    refine Ev.imul (d19 6 rfl) ?_
    refine Ev.iclt (t := 17) (d19 7 rfl) rfl (fun c2 => ?_) (fun c2 => ?_)
    · replace hr := (if_pos c2).symm.trans hr
      refine Ev.iloadN (d19 10 rfl) rfl ?_
      refine Ev.bipush (z := 16) (d19 11 rfl) rfl ?_
      refine Ev.idiv (d19 12 rfl) (by decide) ?_
      refine Ev.istDN (L' := [.val (.ref o), .val (.int a0), .val (.int (a0 / (16 : Int32))), .unset, .unset, .unset, .unset]) (d19 13 rfl) rfl rfl rfl ?_
      refine Ev.aloadN (d19 14 rfl) rfl ?_
      refine Ev.gAr V (ww hw 10 rfl) (d19 15 rfl) (j := 0) rfl ?_
      refine Ev.iloadN (d19 16 rfl) rfl ?_
      obtain ⟨b3, hr⟩ := grd_some hr
      refine Ev.ial V (j := 0) rfl rfl (d19 17 rfl) b3 ?_
      refine Ev.istDN (L' := [.val (.ref o), .val (.int a0), .val (.int (a0 / (16 : Int32))), .val (.int (s.2 0 (ix (a0 / (16 : Int32))))), .unset, .unset, .unset]) (d19 18 rfl) rfl rfl rfl ?_
      refine Ev.iloadN (d19 19 rfl) rfl ?_
      refine Ev.iconst (z := -1) (d19 20 rfl) rfl ?_
      refine Ev.icne (t := 36) (d19 21 rfl) rfl (fun c4 => ?_) (fun c4 => ?_)
      · replace hr := (if_pos c4).symm.trans hr
        refine Ev.iconst (z := -1) (d19 22 rfl) rfl ?_
        cases hr
        exact Ev.ireturn rfl (d19 23 rfl)
      · replace hr := (if_neg c4).symm.trans hr
        refine Ev.iloadN (d19 24 rfl) rfl ?_
        refine Ev.bipush (z := 16) (d19 25 rfl) rfl ?_
        refine Ev.irem (d19 26 rfl) (by decide) ?_
        refine Ev.istD (L' := [.val (.ref o), .val (.int a0), .val (.int (a0 / (16 : Int32))), .val (.int (s.2 0 (ix (a0 / (16 : Int32))))), .val (.int (a0 % (16 : Int32))), .unset, .unset]) (d19 27 rfl) rfl rfl rfl ?_
        refine Ev.iload (d19 28 rfl) rfl ?_
        refine Ev.aloadN (d19 29 rfl) rfl ?_
        refine Ev.iloadN (d19 30 rfl) rfl ?_
        obtain ⟨q5, hq6, hr⟩ := Option.bind_eq_some_iff.mp hr
        refine Ev.priv (y := M_sizeOf) (args := [.int (s.2 0 (ix (a0 / (16 : Int32))))]) (rest := [.int (a0 % (16 : Int32))]) (gok hw) rfl nm_sizeOf (ww hw 59 rfl) (ww hw 60 rfl) (ww hw 61 rfl) (ww hw 62 rfl) (lenOf pd_sizeOf rfl) (d19 31 rfl) (V.2.1 s) (e_sizeOf hw V hq6) (by decide) (Nat.le_of_ble_eq_true rfl) rfl ?_
        obtain ⟨c7, hr⟩ := grd_some hr
        refine Ev.idiv (d19 32 rfl) c7 ?_
        refine Ev.istD (L' := [.val (.ref o), .val (.int a0), .val (.int (a0 / (16 : Int32))), .val (.int (s.2 0 (ix (a0 / (16 : Int32))))), .val (.int (a0 % (16 : Int32))), .val (.int ((a0 % (16 : Int32)) / q5)), .unset]) (d19 33 rfl) rfl rfl rfl ?_
        refine Ev.aloadN (d19 34 rfl) rfl ?_
        refine Ev.gAr V (ww hw 14 rfl) (d19 35 rfl) (j := 2) rfl ?_
        refine Ev.iloadN (d19 36 rfl) rfl ?_
        refine Ev.ial V (j := 2) rfl rfl (d19 37 rfl) b3 ?_
        refine Ev.iload (d19 38 rfl) rfl ?_
        refine Ev.iushr (d19 39 rfl) ?_
        refine Ev.iconst (z := 1) (d19 40 rfl) rfl ?_
        refine Ev.iand (d19 41 rfl) ?_
        refine Ev.ifne (t := 68) (d19 42 rfl) rfl (fun c8 => ?_) (fun c8 => ?_)
        · replace hr := (if_pos c8).symm.trans hr
          refine Ev.iconst (z := -1) (d19 43 rfl) rfl ?_
          cases hr
          exact Ev.ireturn rfl (d19 44 rfl)
        · replace hr := (if_neg c8).symm.trans hr
          refine Ev.aloadN (d19 45 rfl) rfl ?_
          refine Ev.gAr V (ww hw 12 rfl) (d19 46 rfl) (j := 1) rfl ?_
          refine Ev.iloadN (d19 47 rfl) rfl ?_
          refine Ev.ial V (j := 1) rfl rfl (d19 48 rfl) b3 ?_
          refine Ev.istD (L' := [.val (.ref o), .val (.int a0), .val (.int (a0 / (16 : Int32))), .val (.int (s.2 0 (ix (a0 / (16 : Int32))))), .val (.int (a0 % (16 : Int32))), .val (.int ((a0 % (16 : Int32)) / q5)), .val (.int (s.2 1 (ix (a0 / (16 : Int32)))))]) (d19 49 rfl) rfl rfl rfl ?_
          refine Ev.iload (d19 50 rfl) rfl ?_
          refine Ev.iflt (t := 90) (d19 51 rfl) rfl (fun c9 => ?_) (fun c9 => ?_)
          · replace hr := (if_pos c9).symm.trans hr
            refine Ev.iconst (z := -1) (d19 56 rfl) rfl ?_
            cases hr
            exact Ev.ireturn rfl (d19 57 rfl)
          · replace hr := (if_neg c9).symm.trans hr
            refine Ev.iload (d19 52 rfl) rfl ?_
            refine Ev.aloadN (d19 53 rfl) rfl ?_
            refine Ev.gI V (ww hw 24 rfl) (d19 54 rfl) (j := 5) rfl rfl ?_
            refine Ev.iclt (t := 92) (d19 55 rfl) rfl (fun c10 => ?_) (fun c10 => ?_)
            · replace hr := (if_pos c10).symm.trans hr
              refine Ev.iload (d19 58 rfl) rfl ?_
              refine Ev.bipush (z := 16) (d19 59 rfl) rfl ?_
              refine Ev.imul (d19 60 rfl) ?_
              refine Ev.iload (d19 61 rfl) rfl ?_
              refine Ev.iadd (d19 62 rfl) ?_
              cases hr
              exact Ev.ireturn rfl (d19 63 rfl)
            · replace hr := (if_neg c10).symm.trans hr
              refine Ev.iconst (z := -1) (d19 56 rfl) rfl ?_
              cases hr
              exact Ev.ireturn rfl (d19 57 rfl)
    · replace hr := (if_neg c2).symm.trans hr
      refine Ev.iconst (z := -1) (d19 8 rfl) rfl ?_
      cases hr
      exact Ev.ireturn rfl (d19 9 rfl)
def f_write (a0 : Int32) (a1 : Int32) (s : St) : Option (Int32 × St) :=
  (f_liveIndex s a0).bind fun q1 =>
  if q1 < 0 then
    some ((0 : Int32), s)
  else
    grd (inb q1 256) <|
    bnd (setA s 3 (ix q1) a1) fun s5 =>
    some ((1 : Int32), s5)
set_option maxRecDepth 100000 in
theorem e_write {g : GT} {a0 : Int32} {a1 : Int32} {s : St} {w : Int32 × St} (hw : HW g) {K : St → MHeap} {o : Nat} {r : Nat → Nat} (V : View (GG g) Ln K o r) (hr : f_write a0 a1 s = some w) : EvC (GG g) M_write [.ref o, .int a0, .int a1] (K s) ((some (.int w.1)), (K w.2)) := by
  refine EvC.enter (L0 := [.val (.ref o), .val (.int a0), .val (.int a1), .unset]) pl_write (fun h => nomatch h) rfl rfl ?_
  unfold f_write at hr
  refine Ev.aloadN (d18 0 rfl) rfl ?_
  refine Ev.iloadN (d18 1 rfl) rfl ?_
  obtain ⟨q1, hq2, hr⟩ := Option.bind_eq_some_iff.mp hr
  refine Ev.priv (y := M_liveIndex) (args := [.int a0]) (rest := []) (gok hw) rfl nm_liveIndex (ww hw 100 rfl) (ww hw 101 rfl) (ww hw 102 rfl) (ww hw 103 rfl) (lenOf pd_liveIndex rfl) (d18 2 rfl) (V.2.1 s) (e_liveIndex hw V hq2) (by decide) (Nat.le_of_ble_eq_true rfl) rfl ?_
  refine Ev.istDN (L' := [.val (.ref o), .val (.int a0), .val (.int a1), .val (.int q1)]) (d18 3 rfl) rfl rfl rfl ?_
  refine Ev.iloadN (d18 4 rfl) rfl ?_
  refine Ev.ifge (t := 12) (d18 5 rfl) rfl (fun c3 => ?_) (fun c3 => ?_)
  · replace hr := (if_pos c3).symm.trans hr
    refine Ev.iconst (z := 0) (d18 6 rfl) rfl ?_
    cases hr
    exact Ev.zret0 rfl (d18 7 rfl)
  · replace hr := (if_neg c3).symm.trans hr
    refine Ev.aloadN (d18 8 rfl) rfl ?_
    refine Ev.gAr V (ww hw 16 rfl) (d18 9 rfl) (j := 3) rfl ?_
    refine Ev.iloadN (d18 10 rfl) rfl ?_
    refine Ev.iloadN (d18 11 rfl) rfl ?_
    obtain ⟨b4, hr⟩ := grd_some hr
    refine Ev.ias V (j := 3) rfl rfl (d18 12 rfl) b4 ?_
    revert hr
    generalize setA s 3 (ix q1) a1 = s5
    intro hr
    replace hr := (bnd_eq _ _).symm.trans hr
    refine Ev.iconst (z := 1) (d18 13 rfl) rfl ?_
    cases hr
    exact Ev.zret1 rfl (d18 14 rfl)
def f_mergeFrames_37 (n : Nat) (k17 : Int32 → Int32 → Int32 → Int32 → Int32 → Int32 → St → Option (St)) : Nat → Int32 → Int32 → Int32 → Int32 → Int32 → Int32 → Int32 → St → Option (St)
  | 0 => fun _ _ _ _ _ _ _ _ => none
  | k + 1 => fun x1 x2 x4 x5 x6 x7 x8 s =>
    if x8 < x6 then
      grd (inb ((x2 * (16 : Int32)) + ((x7 * x6) + x8)) 256) <|
      grd (inb ((x1 * (16 : Int32)) + ((x7 * x6) + x8)) 256) <|
      bnd (setA s 3 (ix ((x1 * (16 : Int32)) + ((x7 * x6) + x8))) (s.2 3 (ix ((x2 * (16 : Int32)) + ((x7 * x6) + x8))))) fun s4 =>
      f_mergeFrames_37 n k17 k x1 x2 x4 x5 x6 x7 (x8 + (1 : Int32)) s4
    else
      k17 x1 x2 x4 x5 x6 (x7 + (1 : Int32)) s
set_option maxRecDepth 100000 in
theorem e_mergeFrames_37 {g : GT} {n : Nat} (hw : HW g) {K : St → MHeap} {o : Nat} {r : Nat → Nat} (V : View (GG g) Ln K o r) {k17 : Int32 → Int32 → Int32 → Int32 → Int32 → Int32 → St → Option (St)} (hk17 : ∀ (x1 : Int32) (x2 : Int32) (x4 : Int32) (x5 : Int32) (x6 : Int32) (x7 : Int32) (s : St) (y3 : Slot) (hy3 : one1 y3 = true) (y8 : Slot) (hy8 : one1 y8 = true) (y9 : Slot) (hy9 : one1 y9 = true) (w : St), k17 x1 x2 x4 x5 x6 x7 s = some w → Ev (GG g) M_mergeFrames 17 [.val (.ref o), .val (.int x1), .val (.int x2), y3, .val (.int x4), .val (.int x5), .val (.int x6), .val (.int x7), y8, y9] [] (K s) (none, (K w))) (k : Nat) : ∀ (x1 : Int32) (x2 : Int32) (x4 : Int32) (x5 : Int32) (x6 : Int32) (x7 : Int32) (x8 : Int32) (s : St) (y3 : Slot) (hy3 : one1 y3 = true) (y9 : Slot) (hy9 : one1 y9 = true) (w : St), f_mergeFrames_37 n k17 k x1 x2 x4 x5 x6 x7 x8 s = some w → Ev (GG g) M_mergeFrames 37 [.val (.ref o), .val (.int x1), .val (.int x2), y3, .val (.int x4), .val (.int x5), .val (.int x6), .val (.int x7), .val (.int x8), y9] [] (K s) (none, (K w)) := by
  induction k with
  | zero => intro x1 x2 x4 x5 x6 x7 x8 s y3 hy3 y9 hy9 w hr; rw [f_mergeFrames_37] at hr; cases hr
  | succ k ih =>
    intro x1 x2 x4 x5 x6 x7 x8 s y3 hy3 y9 hy9 w hr
    rw [f_mergeFrames_37] at hr
    refine Ev.iload (d22 21 rfl) rfl ?_
    refine Ev.iload (d22 22 rfl) rfl ?_
    refine Ev.icge (t := 84) (d22 23 rfl) rfl (fun c1 => ?_) (fun c1 => ?_)
    · replace hr := (if_pos c1).symm.trans hr
      refine Ev.iload (d22 24 rfl) rfl ?_
      refine Ev.iload (d22 25 rfl) rfl ?_
      refine Ev.imul (d22 26 rfl) ?_
      refine Ev.iload (d22 27 rfl) rfl ?_
      refine Ev.iadd (d22 28 rfl) ?_
      refine Ev.istD (L' := [.val (.ref o), .val (.int x1), .val (.int x2), y3, .val (.int x4), .val (.int x5), .val (.int x6), .val (.int x7), .val (.int x8), .val (.int ((x7 * x6) + x8))]) (d22 29 rfl) rfl hy9 rfl ?_
      refine Ev.aloadN (d22 30 rfl) rfl ?_
      refine Ev.gAr V (ww hw 16 rfl) (d22 31 rfl) (j := 3) rfl ?_
      refine Ev.iloadN (d22 32 rfl) rfl ?_
      refine Ev.bipush (z := 16) (d22 33 rfl) rfl ?_
      refine Ev.imul (d22 34 rfl) ?_
      refine Ev.iload (d22 35 rfl) rfl ?_
      refine Ev.iadd (d22 36 rfl) ?_
      refine Ev.aloadN (d22 37 rfl) rfl ?_
      refine Ev.gAr V (ww hw 16 rfl) (d22 38 rfl) (j := 3) rfl ?_
      refine Ev.iloadN (d22 39 rfl) rfl ?_
      refine Ev.bipush (z := 16) (d22 40 rfl) rfl ?_
      refine Ev.imul (d22 41 rfl) ?_
      refine Ev.iload (d22 42 rfl) rfl ?_
      refine Ev.iadd (d22 43 rfl) ?_
      obtain ⟨b2, hr⟩ := grd_some hr
      refine Ev.ial V (j := 3) rfl rfl (d22 44 rfl) b2 ?_
      obtain ⟨b3, hr⟩ := grd_some hr
      refine Ev.ias V (j := 3) rfl rfl (d22 45 rfl) b3 ?_
      revert hr
      generalize setA s 3 (ix ((x1 * (16 : Int32)) + ((x7 * x6) + x8))) (s.2 3 (ix ((x2 * (16 : Int32)) + ((x7 * x6) + x8)))) = s4
      intro hr
      replace hr := (bnd_eq _ _).symm.trans hr
      refine Ev.iinc (z := 1) (L' := [.val (.ref o), .val (.int x1), .val (.int x2), y3, .val (.int x4), .val (.int x5), .val (.int x6), .val (.int x7), .val (.int (x8 + (1 : Int32))), .val (.int ((x7 * x6) + x8))]) (d22 46 rfl) rfl rfl rfl ?_
      refine Ev.goto (t := 37) (d22 47 rfl) rfl ?_
      exact ih x1 x2 x4 x5 x6 x7 (x8 + (1 : Int32)) s4 y3 hy3 (.val (.int ((x7 * x6) + x8))) rfl _ hr
    · replace hr := (if_neg c1).symm.trans hr
      refine Ev.iinc (z := 1) (L' := [.val (.ref o), .val (.int x1), .val (.int x2), y3, .val (.int x4), .val (.int x5), .val (.int x6), .val (.int (x7 + (1 : Int32))), .val (.int x8), y9]) (d22 48 rfl) rfl rfl rfl ?_
      refine Ev.goto (t := 17) (d22 49 rfl) rfl ?_
      exact hk17 x1 x2 x4 x5 x6 (x7 + (1 : Int32)) s y3 hy3 (.val (.int x8)) rfl y9 hy9 _ hr
def f_mergeFrames_93 (n : Nat) : Nat → Int32 → Int32 → Int32 → St → Option (St)
  | 0 => fun _ _ _ _ => none
  | k + 1 => fun x1 x2 x7 s =>
    if x7 < (s.1 4) then
      grd (inb x7 16) <|
      if (s.2 0 (ix x7)) = (-1 : Int32) then
        f_mergeFrames_93 n k x1 x2 (x7 + (1 : Int32)) s
      else
        if (s.2 1 (ix x7)) = x2 then
          bnd (setA s 1 (ix x7) x1) fun s5 =>
          f_mergeFrames_93 n k x1 x2 (x7 + (1 : Int32)) s5
        else
          f_mergeFrames_93 n k x1 x2 (x7 + (1 : Int32)) s
    else
      some s
set_option maxRecDepth 100000 in
theorem e_mergeFrames_93 {g : GT} {n : Nat} (hw : HW g) {K : St → MHeap} {o : Nat} {r : Nat → Nat} (V : View (GG g) Ln K o r) (k : Nat) : ∀ (x1 : Int32) (x2 : Int32) (x7 : Int32) (s : St) (y3 : Slot) (hy3 : one1 y3 = true) (y4 : Slot) (hy4 : one1 y4 = true) (y5 : Slot) (hy5 : one1 y5 = true) (y6 : Slot) (hy6 : one1 y6 = true) (y8 : Slot) (hy8 : one1 y8 = true) (y9 : Slot) (hy9 : one1 y9 = true) (w : St), f_mergeFrames_93 n k x1 x2 x7 s = some w → Ev (GG g) M_mergeFrames 93 [.val (.ref o), .val (.int x1), .val (.int x2), y3, y4, y5, y6, .val (.int x7), y8, y9] [] (K s) (none, (K w)) := by
  induction k with
  | zero => intro x1 x2 x7 s y3 hy3 y4 hy4 y5 hy5 y6 hy6 y8 hy8 y9 hy9 w hr; rw [f_mergeFrames_93] at hr; cases hr
  | succ k ih =>
    intro x1 x2 x7 s y3 hy3 y4 hy4 y5 hy5 y6 hy6 y8 hy8 y9 hy9 w hr
    rw [f_mergeFrames_93] at hr
    refine Ev.iload (d22 52 rfl) rfl ?_
    refine Ev.aloadN (d22 53 rfl) rfl ?_
    refine Ev.gI V (ww hw 22 rfl) (d22 54 rfl) (j := 4) rfl rfl ?_
    refine Ev.icge (t := 138) (d22 55 rfl) rfl (fun c1 => ?_) (fun c1 => ?_)
    · replace hr := (if_pos c1).symm.trans hr
      refine Ev.aloadN (d22 56 rfl) rfl ?_
      refine Ev.gAr V (ww hw 10 rfl) (d22 57 rfl) (j := 0) rfl ?_
      refine Ev.iload (d22 58 rfl) rfl ?_
      obtain ⟨b2, hr⟩ := grd_some hr
      refine Ev.ial V (j := 0) rfl rfl (d22 59 rfl) b2 ?_
      refine Ev.iconst (z := -1) (d22 60 rfl) rfl ?_
      refine Ev.iceq (t := 132) (d22 61 rfl) rfl (fun c3 => ?_) (fun c3 => ?_)
      · replace hr := (if_pos c3).symm.trans hr
        refine Ev.iinc (z := 1) (L' := [.val (.ref o), .val (.int x1), .val (.int x2), y3, y4, y5, y6, .val (.int (x7 + (1 : Int32))), y8, y9]) (d22 73 rfl) rfl rfl rfl ?_
        refine Ev.goto (t := 93) (d22 74 rfl) rfl ?_
        exact ih x1 x2 (x7 + (1 : Int32)) s y3 hy3 y4 hy4 y5 hy5 y6 hy6 y8 hy8 y9 hy9 _ hr
      · replace hr := (if_neg c3).symm.trans hr
        refine Ev.aloadN (d22 62 rfl) rfl ?_
        refine Ev.gAr V (ww hw 12 rfl) (d22 63 rfl) (j := 1) rfl ?_
        refine Ev.iload (d22 64 rfl) rfl ?_
        refine Ev.ial V (j := 1) rfl rfl (d22 65 rfl) b2 ?_
        refine Ev.iloadN (d22 66 rfl) rfl ?_
        refine Ev.icne (t := 132) (d22 67 rfl) rfl (fun c4 => ?_) (fun c4 => ?_)
        · replace hr := (if_pos c4).symm.trans hr
          refine Ev.aloadN (d22 68 rfl) rfl ?_
          refine Ev.gAr V (ww hw 12 rfl) (d22 69 rfl) (j := 1) rfl ?_
          refine Ev.iload (d22 70 rfl) rfl ?_
          refine Ev.iloadN (d22 71 rfl) rfl ?_
          refine Ev.ias V (j := 1) rfl rfl (d22 72 rfl) b2 ?_
          revert hr
          generalize setA s 1 (ix x7) x1 = s5
          intro hr
          replace hr := (bnd_eq _ _).symm.trans hr
          refine Ev.iinc (z := 1) (L' := [.val (.ref o), .val (.int x1), .val (.int x2), y3, y4, y5, y6, .val (.int (x7 + (1 : Int32))), y8, y9]) (d22 73 rfl) rfl rfl rfl ?_
          refine Ev.goto (t := 93) (d22 74 rfl) rfl ?_
          exact ih x1 x2 (x7 + (1 : Int32)) s5 y3 hy3 y4 hy4 y5 hy5 y6 hy6 y8 hy8 y9 hy9 _ hr
        · replace hr := (if_neg c4).symm.trans hr
          refine Ev.iinc (z := 1) (L' := [.val (.ref o), .val (.int x1), .val (.int x2), y3, y4, y5, y6, .val (.int (x7 + (1 : Int32))), y8, y9]) (d22 73 rfl) rfl rfl rfl ?_
          refine Ev.goto (t := 93) (d22 74 rfl) rfl ?_
          exact ih x1 x2 (x7 + (1 : Int32)) s y3 hy3 y4 hy4 y5 hy5 y6 hy6 y8 hy8 y9 hy9 _ hr
    · replace hr := (if_neg c1).symm.trans hr
      cases hr
      exact Ev.vreturn rfl (d22 75 rfl)
def f_mergeFrames_17 (n : Nat) : Nat → Int32 → Int32 → Int32 → Int32 → Int32 → Int32 → St → Option (St)
  | 0 => fun _ _ _ _ _ _ _ => none
  | k + 1 => fun x1 x2 x4 x5 x6 x7 s =>
    if x7 < x5 then
      if ((XT.ushr x4 x7) &&& (1 : Int32)) = 0 then
        f_mergeFrames_17 n k x1 x2 x4 x5 x6 (x7 + (1 : Int32)) s
      else
        f_mergeFrames_37 n (f_mergeFrames_17 n k) n x1 x2 x4 x5 x6 x7 (0 : Int32) s
    else
      f_mergeFrames_93 n n x1 x2 (0 : Int32) s
set_option maxRecDepth 100000 in
theorem e_mergeFrames_17 {g : GT} {n : Nat} (hw : HW g) {K : St → MHeap} {o : Nat} {r : Nat → Nat} (V : View (GG g) Ln K o r) (k : Nat) : ∀ (x1 : Int32) (x2 : Int32) (x4 : Int32) (x5 : Int32) (x6 : Int32) (x7 : Int32) (s : St) (y3 : Slot) (hy3 : one1 y3 = true) (y8 : Slot) (hy8 : one1 y8 = true) (y9 : Slot) (hy9 : one1 y9 = true) (w : St), f_mergeFrames_17 n k x1 x2 x4 x5 x6 x7 s = some w → Ev (GG g) M_mergeFrames 17 [.val (.ref o), .val (.int x1), .val (.int x2), y3, .val (.int x4), .val (.int x5), .val (.int x6), .val (.int x7), y8, y9] [] (K s) (none, (K w)) := by
  induction k with
  | zero => intro x1 x2 x4 x5 x6 x7 s y3 hy3 y8 hy8 y9 hy9 w hr; rw [f_mergeFrames_17] at hr; cases hr
  | succ k ih =>
    intro x1 x2 x4 x5 x6 x7 s y3 hy3 y8 hy8 y9 hy9 w hr
    rw [f_mergeFrames_17] at hr
    refine Ev.iload (d22 10 rfl) rfl ?_
    refine Ev.iload (d22 11 rfl) rfl ?_
    refine Ev.icge (t := 90) (d22 12 rfl) rfl (fun c1 => ?_) (fun c1 => ?_)
    · replace hr := (if_pos c1).symm.trans hr
      refine Ev.iload (d22 13 rfl) rfl ?_
      refine Ev.iload (d22 14 rfl) rfl ?_
      refine Ev.iushr (d22 15 rfl) ?_
      refine Ev.iconst (z := 1) (d22 16 rfl) rfl ?_
      refine Ev.iand (d22 17 rfl) ?_
      refine Ev.ifeq (t := 84) (d22 18 rfl) rfl (fun c2 => ?_) (fun c2 => ?_)
      · replace hr := (if_pos c2).symm.trans hr
        refine Ev.iinc (z := 1) (L' := [.val (.ref o), .val (.int x1), .val (.int x2), y3, .val (.int x4), .val (.int x5), .val (.int x6), .val (.int (x7 + (1 : Int32))), y8, y9]) (d22 48 rfl) rfl rfl rfl ?_
        refine Ev.goto (t := 17) (d22 49 rfl) rfl ?_
        exact ih x1 x2 x4 x5 x6 (x7 + (1 : Int32)) s y3 hy3 y8 hy8 y9 hy9 _ hr
      · replace hr := (if_neg c2).symm.trans hr
        refine Ev.iconst (z := 0) (d22 19 rfl) rfl ?_
        refine Ev.istD (L' := [.val (.ref o), .val (.int x1), .val (.int x2), y3, .val (.int x4), .val (.int x5), .val (.int x6), .val (.int x7), .val (.int (0 : Int32)), y9]) (d22 20 rfl) rfl hy8 rfl ?_
        exact e_mergeFrames_37 hw V ih n x1 x2 x4 x5 x6 x7 (0 : Int32) s y3 hy3 y9 hy9 _ hr
    · replace hr := (if_neg c1).symm.trans hr
      refine Ev.iconst (z := 0) (d22 50 rfl) rfl ?_
      refine Ev.istD (L' := [.val (.ref o), .val (.int x1), .val (.int x2), y3, .val (.int x4), .val (.int x5), .val (.int x6), .val (.int (0 : Int32)), y8, y9]) (d22 51 rfl) rfl rfl rfl ?_
      exact e_mergeFrames_93 hw V  n x1 x2 (0 : Int32) s y3 hy3 (.val (.int x4)) rfl (.val (.int x5)) rfl (.val (.int x6)) rfl y8 hy8 y9 hy9 _ hr
def f_mergeFrames (n : Nat) (a0 : Int32) (a1 : Int32) (a2 : Int32) (a3 : Int32) (s : St) : Option (St) :=
  (f_slotsOf s a2).bind fun q1 =>
  (f_sizeOf s a2).bind fun q3 =>
  f_mergeFrames_17 n n a0 a1 a3 q1 q3 (0 : Int32) s
set_option maxRecDepth 100000 in
theorem e_mergeFrames {g : GT} {n : Nat} {a0 : Int32} {a1 : Int32} {a2 : Int32} {a3 : Int32} {s : St} {w : St} (hw : HW g) {K : St → MHeap} {o : Nat} {r : Nat → Nat} (V : View (GG g) Ln K o r) (hr : f_mergeFrames n a0 a1 a2 a3 s = some w) : EvC (GG g) M_mergeFrames [.ref o, .int a0, .int a1, .int a2, .int a3] (K s) (none, (K w)) := by
  refine EvC.enter (L0 := [.val (.ref o), .val (.int a0), .val (.int a1), .val (.int a2), .val (.int a3), .unset, .unset, .unset, .unset, .unset]) pl_mergeFrames (fun _ => rfl) rfl rfl ?_
  unfold f_mergeFrames at hr
  refine Ev.aloadN (d22 0 rfl) rfl ?_
  refine Ev.iloadN (d22 1 rfl) rfl ?_
  obtain ⟨q1, hq2, hr⟩ := Option.bind_eq_some_iff.mp hr
  refine Ev.priv (y := M_slotsOf) (args := [.int a2]) (rest := []) (gok hw) rfl nm_slotsOf (ww hw 39 rfl) (ww hw 40 rfl) (ww hw 41 rfl) (ww hw 42 rfl) (lenOf pd_slotsOf rfl) (d22 2 rfl) (V.2.1 s) (e_slotsOf hw V hq2) (by decide) (Nat.le_of_ble_eq_true rfl) rfl ?_
  refine Ev.istD (L' := [.val (.ref o), .val (.int a0), .val (.int a1), .val (.int a2), .val (.int a3), .val (.int q1), .unset, .unset, .unset, .unset]) (d22 3 rfl) rfl rfl rfl ?_
  refine Ev.aloadN (d22 4 rfl) rfl ?_
  refine Ev.iloadN (d22 5 rfl) rfl ?_
  obtain ⟨q3, hq4, hr⟩ := Option.bind_eq_some_iff.mp hr
  refine Ev.priv (y := M_sizeOf) (args := [.int a2]) (rest := []) (gok hw) rfl nm_sizeOf (ww hw 59 rfl) (ww hw 60 rfl) (ww hw 61 rfl) (ww hw 62 rfl) (lenOf pd_sizeOf rfl) (d22 6 rfl) (V.2.1 s) (e_sizeOf hw V hq4) (by decide) (Nat.le_of_ble_eq_true rfl) rfl ?_
  refine Ev.istD (L' := [.val (.ref o), .val (.int a0), .val (.int a1), .val (.int a2), .val (.int a3), .val (.int q1), .val (.int q3), .unset, .unset, .unset]) (d22 7 rfl) rfl rfl rfl ?_
  refine Ev.iconst (z := 0) (d22 8 rfl) rfl ?_
  refine Ev.istD (L' := [.val (.ref o), .val (.int a0), .val (.int a1), .val (.int a2), .val (.int a3), .val (.int q1), .val (.int q3), .val (.int (0 : Int32)), .unset, .unset]) (d22 9 rfl) rfl rfl rfl ?_
  exact e_mergeFrames_17 hw V  n a0 a1 a3 q1 q3 (0 : Int32) s (.val (.int a2)) rfl .unset rfl .unset rfl _ hr
def f_meshInto_7 (n : Nat) : Nat → Int32 → Int32 → Int32 → Int32 → St → Option (Int32 × St)
  | 0 => fun _ _ _ _ _ => none
  | k + 1 => fun x1 x2 x3 x4 s =>
    if x4 < (s.1 5) then
      (f_frameClass n s x4).bind fun q2 =>
      if q2 = x2 then
        (f_unionOf n s x1).bind fun q5 =>
        (f_unionOf n s x4).bind fun q7 =>
        if (q5 &&& q7) = 0 then
          (f_mergeFrames n x1 x4 x2 q7 s).bind fun q10 =>
          f_meshInto_7 n k x1 x2 (x3 + (1 : Int32)) (x4 + (1 : Int32)) q10
        else
          f_meshInto_7 n k x1 x2 x3 (x4 + (1 : Int32)) s
      else
        f_meshInto_7 n k x1 x2 x3 (x4 + (1 : Int32)) s
    else
      some (x3, s)
set_option maxRecDepth 100000 in
theorem e_meshInto_7 {g : GT} {n : Nat} (hw : HW g) {K : St → MHeap} {o : Nat} {r : Nat → Nat} (V : View (GG g) Ln K o r) (k : Nat) : ∀ (x1 : Int32) (x2 : Int32) (x3 : Int32) (x4 : Int32) (s : St) (y5 : Slot) (hy5 : one1 y5 = true) (y6 : Slot) (hy6 : one1 y6 = true) (w : Int32 × St), f_meshInto_7 n k x1 x2 x3 x4 s = some w → Ev (GG g) M_meshInto 7 [.val (.ref o), .val (.int x1), .val (.int x2), .val (.int x3), .val (.int x4), y5, y6] [] (K s) ((some (.int w.1)), (K w.2)) := by
  induction k with
  | zero => intro x1 x2 x3 x4 s y5 hy5 y6 hy6 w hr; rw [f_meshInto_7] at hr; cases hr
  | succ k ih =>
    intro x1 x2 x3 x4 s y5 hy5 y6 hy6 w hr
    rw [f_meshInto_7] at hr
    refine Ev.iload (d21 6 rfl) rfl ?_
    refine Ev.aloadN (d21 7 rfl) rfl ?_
    refine Ev.gI V (ww hw 24 rfl) (d21 8 rfl) (j := 5) rfl rfl ?_
    refine Ev.icge (t := 68) (d21 9 rfl) rfl (fun c1 => ?_) (fun c1 => ?_)
    · replace hr := (if_pos c1).symm.trans hr
      refine Ev.aloadN (d21 10 rfl) rfl ?_
      refine Ev.iload (d21 11 rfl) rfl ?_
      obtain ⟨q2, hq3, hr⟩ := Option.bind_eq_some_iff.mp hr
      refine Ev.priv (y := M_frameClass) (args := [.int x4]) (rest := []) (gok hw) rfl nm_frameClass (ww hw 51 rfl) (ww hw 52 rfl) (ww hw 53 rfl) (ww hw 54 rfl) (lenOf pd_frameClass rfl) (d21 12 rfl) (V.2.1 s) (e_frameClass hw V hq3) (by decide) (Nat.le_of_ble_eq_true rfl) rfl ?_
      refine Ev.iloadN (d21 13 rfl) rfl ?_
      refine Ev.icne (t := 62) (d21 14 rfl) rfl (fun c4 => ?_) (fun c4 => ?_)
      · replace hr := (if_pos c4).symm.trans hr
        refine Ev.aloadN (d21 15 rfl) rfl ?_
        refine Ev.iloadN (d21 16 rfl) rfl ?_
        obtain ⟨q5, hq6, hr⟩ := Option.bind_eq_some_iff.mp hr
        refine Ev.priv (y := M_unionOf) (args := [.int x1]) (rest := []) (gok hw) rfl nm_unionOf (ww hw 63 rfl) (ww hw 64 rfl) (ww hw 65 rfl) (ww hw 66 rfl) (lenOf pd_unionOf rfl) (d21 17 rfl) (V.2.1 s) (e_unionOf hw V hq6) (by decide) (Nat.le_of_ble_eq_true rfl) rfl ?_
        refine Ev.istD (L' := [.val (.ref o), .val (.int x1), .val (.int x2), .val (.int x3), .val (.int x4), .val (.int q5), y6]) (d21 18 rfl) rfl hy5 rfl ?_
        refine Ev.aloadN (d21 19 rfl) rfl ?_
        refine Ev.iload (d21 20 rfl) rfl ?_
        obtain ⟨q7, hq8, hr⟩ := Option.bind_eq_some_iff.mp hr
        refine Ev.priv (y := M_unionOf) (args := [.int x4]) (rest := []) (gok hw) rfl nm_unionOf (ww hw 63 rfl) (ww hw 64 rfl) (ww hw 65 rfl) (ww hw 66 rfl) (lenOf pd_unionOf rfl) (d21 21 rfl) (V.2.1 s) (e_unionOf hw V hq8) (by decide) (Nat.le_of_ble_eq_true rfl) rfl ?_
        refine Ev.istD (L' := [.val (.ref o), .val (.int x1), .val (.int x2), .val (.int x3), .val (.int x4), .val (.int q5), .val (.int q7)]) (d21 22 rfl) rfl hy6 rfl ?_
        refine Ev.iload (d21 23 rfl) rfl ?_
        refine Ev.iload (d21 24 rfl) rfl ?_
        refine Ev.iand (d21 25 rfl) ?_
        refine Ev.ifne (t := 62) (d21 26 rfl) rfl (fun c9 => ?_) (fun c9 => ?_)
        · replace hr := (if_pos c9).symm.trans hr
          refine Ev.aloadN (d21 27 rfl) rfl ?_
          refine Ev.iloadN (d21 28 rfl) rfl ?_
          refine Ev.iload (d21 29 rfl) rfl ?_
          refine Ev.iloadN (d21 30 rfl) rfl ?_
          refine Ev.iload (d21 31 rfl) rfl ?_
          obtain ⟨q10, hq11, hr⟩ := Option.bind_eq_some_iff.mp hr
          refine Ev.priv (y := M_mergeFrames) (args := [.int x1, .int x4, .int x2, .int q7]) (rest := []) (gok hw) rfl nm_mergeFrames (ww hw 113 rfl) (ww hw 114 rfl) (ww hw 115 rfl) (ww hw 116 rfl) (lenOf pd_mergeFrames rfl) (d21 32 rfl) (V.2.1 s) (e_mergeFrames hw V hq11) (by decide) (Nat.le_of_ble_eq_true rfl) rfl ?_
          refine Ev.iinc (z := 1) (L' := [.val (.ref o), .val (.int x1), .val (.int x2), .val (.int (x3 + (1 : Int32))), .val (.int x4), .val (.int q5), .val (.int q7)]) (d21 33 rfl) rfl rfl rfl ?_
          refine Ev.iinc (z := 1) (L' := [.val (.ref o), .val (.int x1), .val (.int x2), .val (.int (x3 + (1 : Int32))), .val (.int (x4 + (1 : Int32))), .val (.int q5), .val (.int q7)]) (d21 34 rfl) rfl rfl rfl ?_
          refine Ev.goto (t := 7) (d21 35 rfl) rfl ?_
          exact ih x1 x2 (x3 + (1 : Int32)) (x4 + (1 : Int32)) q10 (.val (.int q5)) rfl (.val (.int q7)) rfl _ hr
        · replace hr := (if_neg c9).symm.trans hr
          refine Ev.iinc (z := 1) (L' := [.val (.ref o), .val (.int x1), .val (.int x2), .val (.int x3), .val (.int (x4 + (1 : Int32))), .val (.int q5), .val (.int q7)]) (d21 34 rfl) rfl rfl rfl ?_
          refine Ev.goto (t := 7) (d21 35 rfl) rfl ?_
          exact ih x1 x2 x3 (x4 + (1 : Int32)) s (.val (.int q5)) rfl (.val (.int q7)) rfl _ hr
      · replace hr := (if_neg c4).symm.trans hr
        refine Ev.iinc (z := 1) (L' := [.val (.ref o), .val (.int x1), .val (.int x2), .val (.int x3), .val (.int (x4 + (1 : Int32))), y5, y6]) (d21 34 rfl) rfl rfl rfl ?_
        refine Ev.goto (t := 7) (d21 35 rfl) rfl ?_
        exact ih x1 x2 x3 (x4 + (1 : Int32)) s y5 hy5 y6 hy6 _ hr
    · replace hr := (if_neg c1).symm.trans hr
      refine Ev.iloadN (d21 36 rfl) rfl ?_
      cases hr
      exact Ev.ireturn rfl (d21 37 rfl)
def f_meshInto (n : Nat) (a0 : Int32) (a1 : Int32) (s : St) : Option (Int32 × St) :=
  f_meshInto_7 n n a0 a1 (0 : Int32) (a0 + (1 : Int32)) s
set_option maxRecDepth 100000 in
theorem e_meshInto {g : GT} {n : Nat} {a0 : Int32} {a1 : Int32} {s : St} {w : Int32 × St} (hw : HW g) {K : St → MHeap} {o : Nat} {r : Nat → Nat} (V : View (GG g) Ln K o r) (hr : f_meshInto n a0 a1 s = some w) : EvC (GG g) M_meshInto [.ref o, .int a0, .int a1] (K s) ((some (.int w.1)), (K w.2)) := by
  refine EvC.enter (L0 := [.val (.ref o), .val (.int a0), .val (.int a1), .unset, .unset, .unset, .unset]) pl_meshInto (fun h => nomatch h) rfl rfl ?_
  unfold f_meshInto at hr
  refine Ev.iconst (z := 0) (d21 0 rfl) rfl ?_
  refine Ev.istDN (L' := [.val (.ref o), .val (.int a0), .val (.int a1), .val (.int (0 : Int32)), .unset, .unset, .unset]) (d21 1 rfl) rfl rfl rfl ?_
  refine Ev.iloadN (d21 2 rfl) rfl ?_
  refine Ev.iconst (z := 1) (d21 3 rfl) rfl ?_
  refine Ev.iadd (d21 4 rfl) ?_
  refine Ev.istD (L' := [.val (.ref o), .val (.int a0), .val (.int a1), .val (.int (0 : Int32)), .val (.int (a0 + (1 : Int32))), .unset, .unset]) (d21 5 rfl) rfl rfl rfl ?_
  exact e_meshInto_7 hw V  n a0 a1 (0 : Int32) (a0 + (1 : Int32)) s .unset rfl .unset rfl _ hr
def f_mesh_11 (n : Nat) (k4 : Int32 → Int32 → St → Option (Int32 × St)) : Nat → Int32 → Int32 → Int32 → St → Option (Int32 × St)
  | 0 => fun _ _ _ _ => none
  | k + 1 => fun x1 x2 x3 s =>
    if x3 < (s.1 5) then
      (f_frameClass n s x3).bind fun q2 =>
      if q2 = x2 then
        (f_meshInto n x3 x2 s).bind fun q5 =>
        f_mesh_11 n k4 k (x1 + q5.1) x2 (x3 + (1 : Int32)) q5.2
      else
        f_mesh_11 n k4 k x1 x2 (x3 + (1 : Int32)) s
    else
      k4 x1 (x2 + (1 : Int32)) s
set_option maxRecDepth 100000 in
theorem e_mesh_11 {g : GT} {n : Nat} (hw : HW g) {K : St → MHeap} {o : Nat} {r : Nat → Nat} (V : View (GG g) Ln K o r) {k4 : Int32 → Int32 → St → Option (Int32 × St)} (hk4 : ∀ (x1 : Int32) (x2 : Int32) (s : St) (y3 : Slot) (hy3 : one1 y3 = true) (w : Int32 × St), k4 x1 x2 s = some w → Ev (GG g) M_mesh 4 [.val (.ref o), .val (.int x1), .val (.int x2), y3] [] (K s) ((some (.int w.1)), (K w.2))) (k : Nat) : ∀ (x1 : Int32) (x2 : Int32) (x3 : Int32) (s : St) (w : Int32 × St), f_mesh_11 n k4 k x1 x2 x3 s = some w → Ev (GG g) M_mesh 11 [.val (.ref o), .val (.int x1), .val (.int x2), .val (.int x3)] [] (K s) ((some (.int w.1)), (K w.2)) := by
  induction k with
  | zero => intro x1 x2 x3 s w hr; rw [f_mesh_11] at hr; cases hr
  | succ k ih =>
    intro x1 x2 x3 s w hr
    rw [f_mesh_11] at hr
    refine Ev.iloadN (d20 9 rfl) rfl ?_
    refine Ev.aloadN (d20 10 rfl) rfl ?_
    refine Ev.gI V (ww hw 24 rfl) (d20 11 rfl) (j := 5) rfl rfl ?_
    refine Ev.icge (t := 43) (d20 12 rfl) rfl (fun c1 => ?_) (fun c1 => ?_)
    · replace hr := (if_pos c1).symm.trans hr
      refine Ev.aloadN (d20 13 rfl) rfl ?_
      refine Ev.iloadN (d20 14 rfl) rfl ?_
      obtain ⟨q2, hq3, hr⟩ := Option.bind_eq_some_iff.mp hr
      refine Ev.priv (y := M_frameClass) (args := [.int x3]) (rest := []) (gok hw) rfl nm_frameClass (ww hw 51 rfl) (ww hw 52 rfl) (ww hw 53 rfl) (ww hw 54 rfl) (lenOf pd_frameClass rfl) (d20 15 rfl) (V.2.1 s) (e_frameClass hw V hq3) (by decide) (Nat.le_of_ble_eq_true rfl) rfl ?_
      refine Ev.iloadN (d20 16 rfl) rfl ?_
      refine Ev.icne (t := 37) (d20 17 rfl) rfl (fun c4 => ?_) (fun c4 => ?_)
      · replace hr := (if_pos c4).symm.trans hr
        refine Ev.iloadN (d20 18 rfl) rfl ?_
        refine Ev.aloadN (d20 19 rfl) rfl ?_
        refine Ev.iloadN (d20 20 rfl) rfl ?_
        refine Ev.iloadN (d20 21 rfl) rfl ?_
        obtain ⟨q5, hq6, hr⟩ := Option.bind_eq_some_iff.mp hr
        refine Ev.priv (y := M_meshInto) (args := [.int x3, .int x2]) (rest := [.int x1]) (gok hw) rfl nm_meshInto (ww hw 109 rfl) (ww hw 110 rfl) (ww hw 111 rfl) (ww hw 112 rfl) (lenOf pd_meshInto rfl) (d20 22 rfl) (V.2.1 s) (e_meshInto hw V hq6) (by decide) (Nat.le_of_ble_eq_true rfl) rfl ?_
        refine Ev.iadd (d20 23 rfl) ?_
        refine Ev.istDN (L' := [.val (.ref o), .val (.int (x1 + q5.1)), .val (.int x2), .val (.int x3)]) (d20 24 rfl) rfl rfl rfl ?_
        refine Ev.iinc (z := 1) (L' := [.val (.ref o), .val (.int (x1 + q5.1)), .val (.int x2), .val (.int (x3 + (1 : Int32)))]) (d20 25 rfl) rfl rfl rfl ?_
        refine Ev.goto (t := 11) (d20 26 rfl) rfl ?_
        exact ih (x1 + q5.1) x2 (x3 + (1 : Int32)) q5.2  _ hr
      · replace hr := (if_neg c4).symm.trans hr
        refine Ev.iinc (z := 1) (L' := [.val (.ref o), .val (.int x1), .val (.int x2), .val (.int (x3 + (1 : Int32)))]) (d20 25 rfl) rfl rfl rfl ?_
        refine Ev.goto (t := 11) (d20 26 rfl) rfl ?_
        exact ih x1 x2 (x3 + (1 : Int32)) s  _ hr
    · replace hr := (if_neg c1).symm.trans hr
      refine Ev.iinc (z := 1) (L' := [.val (.ref o), .val (.int x1), .val (.int (x2 + (1 : Int32))), .val (.int x3)]) (d20 27 rfl) rfl rfl rfl ?_
      refine Ev.goto (t := 4) (d20 28 rfl) rfl ?_
      exact hk4 x1 (x2 + (1 : Int32)) s (.val (.int x3)) rfl _ hr
def f_mesh_4 (n : Nat) : Nat → Int32 → Int32 → St → Option (Int32 × St)
  | 0 => fun _ _ _ => none
  | k + 1 => fun x1 x2 s =>
    if (2 : Int32) < x2 then
      some (x1, s)
    else
      f_mesh_11 n (f_mesh_4 n k) n x1 x2 (0 : Int32) s
set_option maxRecDepth 100000 in
theorem e_mesh_4 {g : GT} {n : Nat} (hw : HW g) {K : St → MHeap} {o : Nat} {r : Nat → Nat} (V : View (GG g) Ln K o r) (k : Nat) : ∀ (x1 : Int32) (x2 : Int32) (s : St) (y3 : Slot) (hy3 : one1 y3 = true) (w : Int32 × St), f_mesh_4 n k x1 x2 s = some w → Ev (GG g) M_mesh 4 [.val (.ref o), .val (.int x1), .val (.int x2), y3] [] (K s) ((some (.int w.1)), (K w.2)) := by
  induction k with
  | zero => intro x1 x2 s y3 hy3 w hr; rw [f_mesh_4] at hr; cases hr
  | succ k ih =>
    intro x1 x2 s y3 hy3 w hr
    rw [f_mesh_4] at hr
    refine Ev.iloadN (d20 4 rfl) rfl ?_
    refine Ev.iconst (z := 2) (d20 5 rfl) rfl ?_
    refine Ev.icgt (t := 49) (d20 6 rfl) rfl (fun c1 => ?_) (fun c1 => ?_)
    · replace hr := (if_pos c1).symm.trans hr
      refine Ev.iloadN (d20 29 rfl) rfl ?_
      cases hr
      exact Ev.ireturn rfl (d20 30 rfl)
    · replace hr := (if_neg c1).symm.trans hr
      refine Ev.iconst (z := 0) (d20 7 rfl) rfl ?_
      refine Ev.istDN (L' := [.val (.ref o), .val (.int x1), .val (.int x2), .val (.int (0 : Int32))]) (d20 8 rfl) rfl hy3 rfl ?_
      exact e_mesh_11 hw V ih n x1 x2 (0 : Int32) s  _ hr
def f_mesh (n : Nat) (s : St) : Option (Int32 × St) :=
  f_mesh_4 n n (0 : Int32) (0 : Int32) s
set_option maxRecDepth 100000 in
theorem e_mesh {g : GT} {n : Nat} {s : St} {w : Int32 × St} (hw : HW g) {K : St → MHeap} {o : Nat} {r : Nat → Nat} (V : View (GG g) Ln K o r) (hr : f_mesh n s = some w) : EvC (GG g) M_mesh [.ref o] (K s) ((some (.int w.1)), (K w.2)) := by
  refine EvC.enter (L0 := [.val (.ref o), .unset, .unset, .unset]) pl_mesh (fun h => nomatch h) rfl rfl ?_
  unfold f_mesh at hr
  refine Ev.iconst (z := 0) (d20 0 rfl) rfl ?_
  refine Ev.istDN (L' := [.val (.ref o), .val (.int (0 : Int32)), .unset, .unset]) (d20 1 rfl) rfl rfl rfl ?_
  refine Ev.iconst (z := 0) (d20 2 rfl) rfl ?_
  refine Ev.istDN (L' := [.val (.ref o), .val (.int (0 : Int32)), .val (.int (0 : Int32)), .unset]) (d20 3 rfl) rfl rfl rfl ?_
  exact e_mesh_4 hw V  n (0 : Int32) (0 : Int32) s .unset rfl _ hr
def f_frameOf (s : St) (a0 : Int32) : Option (Int32) :=
  if a0 < 0 then
    some (-1 : Int32)
  else
    if a0 < (s.1 4) then
      grd (inb a0 16) <|
      if (s.2 0 (ix a0)) = (-1 : Int32) then
        some (-1 : Int32)
      else
        some (s.2 1 (ix a0))
    else
      some (-1 : Int32)
set_option maxRecDepth 100000 in
theorem e_frameOf {g : GT} {s : St} {a0 : Int32} {w : Int32} (hw : HW g) {K : St → MHeap} {o : Nat} {r : Nat → Nat} (V : View (GG g) Ln K o r) (hr : f_frameOf s a0 = some w) : EvC (GG g) M_frameOf [.ref o, .int a0] (K s) ((some (.int w)), (K s)) := by
  refine EvC.enter (L0 := [.val (.ref o), .val (.int a0)]) pl_frameOf (fun h => nomatch h) rfl rfl ?_
  unfold f_frameOf at hr
  refine Ev.iloadN (d23 0 rfl) rfl ?_
  refine Ev.iflt (t := 22) (d23 1 rfl) rfl (fun c1 => ?_) (fun c1 => ?_)
  · replace hr := (if_pos c1).symm.trans hr
    refine Ev.iconst (z := -1) (d23 12 rfl) rfl ?_
    cases hr
    exact Ev.ireturn rfl (d23 13 rfl)
  · replace hr := (if_neg c1).symm.trans hr
    refine Ev.iloadN (d23 2 rfl) rfl ?_
    refine Ev.aloadN (d23 3 rfl) rfl ?_
    refine Ev.gI V (ww hw 22 rfl) (d23 4 rfl) (j := 4) rfl rfl ?_
    refine Ev.icge (t := 22) (d23 5 rfl) rfl (fun c2 => ?_) (fun c2 => ?_)
    · replace hr := (if_pos c2).symm.trans hr
      refine Ev.aloadN (d23 6 rfl) rfl ?_
      refine Ev.gAr V (ww hw 10 rfl) (d23 7 rfl) (j := 0) rfl ?_
      refine Ev.iloadN (d23 8 rfl) rfl ?_
      obtain ⟨b3, hr⟩ := grd_some hr
      refine Ev.ial V (j := 0) rfl rfl (d23 9 rfl) b3 ?_
      refine Ev.iconst (z := -1) (d23 10 rfl) rfl ?_
      refine Ev.icne (t := 24) (d23 11 rfl) rfl (fun c4 => ?_) (fun c4 => ?_)
      · replace hr := (if_pos c4).symm.trans hr
        refine Ev.iconst (z := -1) (d23 12 rfl) rfl ?_
        cases hr
        exact Ev.ireturn rfl (d23 13 rfl)
      · replace hr := (if_neg c4).symm.trans hr
        refine Ev.aloadN (d23 14 rfl) rfl ?_
        refine Ev.gAr V (ww hw 12 rfl) (d23 15 rfl) (j := 1) rfl ?_
        refine Ev.iloadN (d23 16 rfl) rfl ?_
        refine Ev.ial V (j := 1) rfl rfl (d23 17 rfl) b3 ?_
        cases hr
        exact Ev.ireturn rfl (d23 18 rfl)
    · replace hr := (if_neg c2).symm.trans hr
      refine Ev.iconst (z := -1) (d23 12 rfl) rfl ?_
      cases hr
      exact Ev.ireturn rfl (d23 13 rfl)
def f_framesInUse_4 (n : Nat) (s : St) : Nat → Int32 → Int32 → Option (Int32)
  | 0 => fun _ _ => none
  | k + 1 => fun x1 x2 =>
    if x2 < (s.1 5) then
      (f_frameClass n s x2).bind fun q2 =>
      if q2 = (-1 : Int32) then
        f_framesInUse_4 n s k x1 (x2 + (1 : Int32))
      else
        f_framesInUse_4 n s k (x1 + (1 : Int32)) (x2 + (1 : Int32))
    else
      some x1
set_option maxRecDepth 100000 in
theorem e_framesInUse_4 {g : GT} {n : Nat} {s : St} (hw : HW g) {K : St → MHeap} {o : Nat} {r : Nat → Nat} (V : View (GG g) Ln K o r) (k : Nat) : ∀ (x1 : Int32) (x2 : Int32) (w : Int32), f_framesInUse_4 n s k x1 x2 = some w → Ev (GG g) M_framesInUse 4 [.val (.ref o), .val (.int x1), .val (.int x2)] [] (K s) ((some (.int w)), (K s)) := by
  induction k with
  | zero => intro x1 x2 w hr; rw [f_framesInUse_4] at hr; cases hr
  | succ k ih =>
    intro x1 x2 w hr
    rw [f_framesInUse_4] at hr
    refine Ev.iloadN (d24 4 rfl) rfl ?_
    refine Ev.aloadN (d24 5 rfl) rfl ?_
    refine Ev.gI V (ww hw 24 rfl) (d24 6 rfl) (j := 5) rfl rfl ?_
    refine Ev.icge (t := 30) (d24 7 rfl) rfl (fun c1 => ?_) (fun c1 => ?_)
    · replace hr := (if_pos c1).symm.trans hr
      refine Ev.aloadN (d24 8 rfl) rfl ?_
      refine Ev.iloadN (d24 9 rfl) rfl ?_
      obtain ⟨q2, hq3, hr⟩ := Option.bind_eq_some_iff.mp hr
      refine Ev.priv (y := M_frameClass) (args := [.int x2]) (rest := []) (gok hw) rfl nm_frameClass (ww hw 51 rfl) (ww hw 52 rfl) (ww hw 53 rfl) (ww hw 54 rfl) (lenOf pd_frameClass rfl) (d24 10 rfl) (V.2.1 s) (e_frameClass hw V hq3) (by decide) (Nat.le_of_ble_eq_true rfl) rfl ?_
      refine Ev.iconst (z := -1) (d24 11 rfl) rfl ?_
      refine Ev.iceq (t := 24) (d24 12 rfl) rfl (fun c4 => ?_) (fun c4 => ?_)
      · replace hr := (if_pos c4).symm.trans hr
        refine Ev.iinc (z := 1) (L' := [.val (.ref o), .val (.int x1), .val (.int (x2 + (1 : Int32)))]) (d24 14 rfl) rfl rfl rfl ?_
        refine Ev.goto (t := 4) (d24 15 rfl) rfl ?_
        exact ih x1 (x2 + (1 : Int32))  _ hr
      · replace hr := (if_neg c4).symm.trans hr
        refine Ev.iinc (z := 1) (L' := [.val (.ref o), .val (.int (x1 + (1 : Int32))), .val (.int x2)]) (d24 13 rfl) rfl rfl rfl ?_
        refine Ev.iinc (z := 1) (L' := [.val (.ref o), .val (.int (x1 + (1 : Int32))), .val (.int (x2 + (1 : Int32)))]) (d24 14 rfl) rfl rfl rfl ?_
        refine Ev.goto (t := 4) (d24 15 rfl) rfl ?_
        exact ih (x1 + (1 : Int32)) (x2 + (1 : Int32))  _ hr
    · replace hr := (if_neg c1).symm.trans hr
      refine Ev.iloadN (d24 16 rfl) rfl ?_
      cases hr
      exact Ev.ireturn rfl (d24 17 rfl)
def f_framesInUse (n : Nat) (s : St) : Option (Int32) :=
  f_framesInUse_4 n s n (0 : Int32) (0 : Int32)
set_option maxRecDepth 100000 in
theorem e_framesInUse {g : GT} {n : Nat} {s : St} {w : Int32} (hw : HW g) {K : St → MHeap} {o : Nat} {r : Nat → Nat} (V : View (GG g) Ln K o r) (hr : f_framesInUse n s = some w) : EvC (GG g) M_framesInUse [.ref o] (K s) ((some (.int w)), (K s)) := by
  refine EvC.enter (L0 := [.val (.ref o), .unset, .unset]) pl_framesInUse (fun h => nomatch h) rfl rfl ?_
  unfold f_framesInUse at hr
  refine Ev.iconst (z := 0) (d24 0 rfl) rfl ?_
  refine Ev.istDN (L' := [.val (.ref o), .val (.int (0 : Int32)), .unset]) (d24 1 rfl) rfl rfl rfl ?_
  refine Ev.iconst (z := 0) (d24 2 rfl) rfl ?_
  refine Ev.istDN (L' := [.val (.ref o), .val (.int (0 : Int32)), .val (.int (0 : Int32))]) (d24 3 rfl) rfl rfl rfl ?_
  exact e_framesInUse_4 hw V  n (0 : Int32) (0 : Int32)  _ hr
def f_frameBits (n : Nat) (s : St) (a0 : Int32) : Option (Int32) :=
  if a0 < 0 then
    some (0 : Int32)
  else
    if a0 < (s.1 5) then
      (f_unionOf n s a0).bind fun q3 =>
      some q3
    else
      some (0 : Int32)
set_option maxRecDepth 100000 in
theorem e_frameBits {g : GT} {n : Nat} {s : St} {a0 : Int32} {w : Int32} (hw : HW g) {K : St → MHeap} {o : Nat} {r : Nat → Nat} (V : View (GG g) Ln K o r) (hr : f_frameBits n s a0 = some w) : EvC (GG g) M_frameBits [.ref o, .int a0] (K s) ((some (.int w)), (K s)) := by
  refine EvC.enter (L0 := [.val (.ref o), .val (.int a0)]) pl_frameBits (fun h => nomatch h) rfl rfl ?_
  unfold f_frameBits at hr
  refine Ev.iloadN (d25 0 rfl) rfl ?_
  refine Ev.iflt (t := 12) (d25 1 rfl) rfl (fun c1 => ?_) (fun c1 => ?_)
  · replace hr := (if_pos c1).symm.trans hr
    refine Ev.iconst (z := 0) (d25 6 rfl) rfl ?_
    cases hr
    exact Ev.ireturn rfl (d25 7 rfl)
  · replace hr := (if_neg c1).symm.trans hr
    refine Ev.iloadN (d25 2 rfl) rfl ?_
    refine Ev.aloadN (d25 3 rfl) rfl ?_
    refine Ev.gI V (ww hw 24 rfl) (d25 4 rfl) (j := 5) rfl rfl ?_
    refine Ev.iclt (t := 14) (d25 5 rfl) rfl (fun c2 => ?_) (fun c2 => ?_)
    · replace hr := (if_pos c2).symm.trans hr
      refine Ev.aloadN (d25 8 rfl) rfl ?_
      refine Ev.iloadN (d25 9 rfl) rfl ?_
      obtain ⟨q3, hq4, hr⟩ := Option.bind_eq_some_iff.mp hr
      refine Ev.priv (y := M_unionOf) (args := [.int a0]) (rest := []) (gok hw) rfl nm_unionOf (ww hw 63 rfl) (ww hw 64 rfl) (ww hw 65 rfl) (ww hw 66 rfl) (lenOf pd_unionOf rfl) (d25 10 rfl) (V.2.1 s) (e_unionOf hw V hq4) (by decide) (Nat.le_of_ble_eq_true rfl) rfl ?_
      cases hr
      exact Ev.ireturn rfl (d25 11 rfl)
    · replace hr := (if_neg c2).symm.trans hr
      refine Ev.iconst (z := 0) (d25 6 rfl) rfl ?_
      cases hr
      exact Ev.ireturn rfl (d25 7 rfl)
def f_pageBits (s : St) (a0 : Int32) : Option (Int32) :=
  if a0 < 0 then
    some (0 : Int32)
  else
    if a0 < (s.1 4) then
      grd (inb a0 16) <|
      if (s.2 0 (ix a0)) = (-1 : Int32) then
        some (0 : Int32)
      else
        some (s.2 2 (ix a0))
    else
      some (0 : Int32)
set_option maxRecDepth 100000 in
theorem e_pageBits {g : GT} {s : St} {a0 : Int32} {w : Int32} (hw : HW g) {K : St → MHeap} {o : Nat} {r : Nat → Nat} (V : View (GG g) Ln K o r) (hr : f_pageBits s a0 = some w) : EvC (GG g) M_pageBits [.ref o, .int a0] (K s) ((some (.int w)), (K s)) := by
  refine EvC.enter (L0 := [.val (.ref o), .val (.int a0)]) pl_pageBits (fun h => nomatch h) rfl rfl ?_
  unfold f_pageBits at hr
  refine Ev.iloadN (d26 0 rfl) rfl ?_
  refine Ev.iflt (t := 22) (d26 1 rfl) rfl (fun c1 => ?_) (fun c1 => ?_)
  · replace hr := (if_pos c1).symm.trans hr
    refine Ev.iconst (z := 0) (d26 12 rfl) rfl ?_
    cases hr
    exact Ev.ireturn rfl (d26 13 rfl)
  · replace hr := (if_neg c1).symm.trans hr
    refine Ev.iloadN (d26 2 rfl) rfl ?_
    refine Ev.aloadN (d26 3 rfl) rfl ?_
    refine Ev.gI V (ww hw 22 rfl) (d26 4 rfl) (j := 4) rfl rfl ?_
    refine Ev.icge (t := 22) (d26 5 rfl) rfl (fun c2 => ?_) (fun c2 => ?_)
    · replace hr := (if_pos c2).symm.trans hr
      refine Ev.aloadN (d26 6 rfl) rfl ?_
      refine Ev.gAr V (ww hw 10 rfl) (d26 7 rfl) (j := 0) rfl ?_
      refine Ev.iloadN (d26 8 rfl) rfl ?_
      obtain ⟨b3, hr⟩ := grd_some hr
      refine Ev.ial V (j := 0) rfl rfl (d26 9 rfl) b3 ?_
      refine Ev.iconst (z := -1) (d26 10 rfl) rfl ?_
      refine Ev.icne (t := 24) (d26 11 rfl) rfl (fun c4 => ?_) (fun c4 => ?_)
      · replace hr := (if_pos c4).symm.trans hr
        refine Ev.iconst (z := 0) (d26 12 rfl) rfl ?_
        cases hr
        exact Ev.ireturn rfl (d26 13 rfl)
      · replace hr := (if_neg c4).symm.trans hr
        refine Ev.aloadN (d26 14 rfl) rfl ?_
        refine Ev.gAr V (ww hw 14 rfl) (d26 15 rfl) (j := 2) rfl ?_
        refine Ev.iloadN (d26 16 rfl) rfl ?_
        refine Ev.ial V (j := 2) rfl rfl (d26 17 rfl) b3 ?_
        cases hr
        exact Ev.ireturn rfl (d26 18 rfl)
    · replace hr := (if_neg c2).symm.trans hr
      refine Ev.iconst (z := 0) (d26 12 rfl) rfl ?_
      cases hr
      exact Ev.ireturn rfl (d26 13 rfl)
def f_read (s : St) (a0 : Int32) : Option (Int32) :=
  (f_liveIndex s a0).bind fun q1 =>
  if q1 < 0 then
    some (0 : Int32)
  else
    grd (inb q1 256) <|
    some (s.2 3 (ix q1))
set_option maxRecDepth 100000 in
theorem e_read {g : GT} {s : St} {a0 : Int32} {w : Int32} (hw : HW g) {K : St → MHeap} {o : Nat} {r : Nat → Nat} (V : View (GG g) Ln K o r) (hr : f_read s a0 = some w) : EvC (GG g) M_read [.ref o, .int a0] (K s) ((some (.int w)), (K s)) := by
  refine EvC.enter (L0 := [.val (.ref o), .val (.int a0), .unset]) pl_read (fun h => nomatch h) rfl rfl ?_
  unfold f_read at hr
  refine Ev.aloadN (d27 0 rfl) rfl ?_
  refine Ev.iloadN (d27 1 rfl) rfl ?_
  obtain ⟨q1, hq2, hr⟩ := Option.bind_eq_some_iff.mp hr
  refine Ev.priv (y := M_liveIndex) (args := [.int a0]) (rest := []) (gok hw) rfl nm_liveIndex (ww hw 100 rfl) (ww hw 101 rfl) (ww hw 102 rfl) (ww hw 103 rfl) (lenOf pd_liveIndex rfl) (d27 2 rfl) (V.2.1 s) (e_liveIndex hw V hq2) (by decide) (Nat.le_of_ble_eq_true rfl) rfl ?_
  refine Ev.istDN (L' := [.val (.ref o), .val (.int a0), .val (.int q1)]) (d27 3 rfl) rfl rfl rfl ?_
  refine Ev.iloadN (d27 4 rfl) rfl ?_
  refine Ev.ifge (t := 12) (d27 5 rfl) rfl (fun c3 => ?_) (fun c3 => ?_)
  · replace hr := (if_pos c3).symm.trans hr
    refine Ev.iconst (z := 0) (d27 6 rfl) rfl ?_
    cases hr
    exact Ev.ireturn rfl (d27 7 rfl)
  · replace hr := (if_neg c3).symm.trans hr
    refine Ev.aloadN (d27 8 rfl) rfl ?_
    refine Ev.gAr V (ww hw 16 rfl) (d27 9 rfl) (j := 3) rfl ?_
    refine Ev.iloadN (d27 10 rfl) rfl ?_
    obtain ⟨b4, hr⟩ := grd_some hr
    refine Ev.ial V (j := 3) rfl rfl (d27 11 rfl) b4 ?_
    cases hr
    exact Ev.ireturn rfl (d27 12 rfl)
def f_popCount_4 (n : Nat) (s : St) : Nat → Int32 → Int32 → Int32 → Option (Int32)
  | 0 => fun _ _ _ => none
  | k + 1 => fun x1 x2 x3 =>
    if x3 < (32 : Int32) then
      if ((XT.ushr x1 x3) &&& (1 : Int32)) = 0 then
        f_popCount_4 n s k x1 x2 (x3 + (1 : Int32))
      else
        f_popCount_4 n s k x1 (x2 + (1 : Int32)) (x3 + (1 : Int32))
    else
      some x2
set_option maxRecDepth 100000 in
theorem e_popCount_4 {g : GT} {n : Nat} {s : St} (hw : HW g) {K : St → MHeap} {o : Nat} {r : Nat → Nat} (V : View (GG g) Ln K o r) (k : Nat) : ∀ (x1 : Int32) (x2 : Int32) (x3 : Int32) (y0 : Slot) (hy0 : one1 y0 = true) (w : Int32), f_popCount_4 n s k x1 x2 x3 = some w → Ev (GG g) M_popCount 4 [y0, .val (.int x1), .val (.int x2), .val (.int x3)] [] (K s) ((some (.int w)), (K s)) := by
  induction k with
  | zero => intro x1 x2 x3 y0 hy0 w hr; rw [f_popCount_4] at hr; cases hr
  | succ k ih =>
    intro x1 x2 x3 y0 hy0 w hr
    rw [f_popCount_4] at hr
    refine Ev.iloadN (d29 4 rfl) rfl ?_
    refine Ev.bipush (z := 32) (d29 5 rfl) rfl ?_
    refine Ev.icge (t := 27) (d29 6 rfl) rfl (fun c1 => ?_) (fun c1 => ?_)
    · replace hr := (if_pos c1).symm.trans hr
      refine Ev.iloadN (d29 7 rfl) rfl ?_
      refine Ev.iloadN (d29 8 rfl) rfl ?_
      refine Ev.iushr (d29 9 rfl) ?_
      refine Ev.iconst (z := 1) (d29 10 rfl) rfl ?_
      refine Ev.iand (d29 11 rfl) ?_
      refine Ev.ifeq (t := 21) (d29 12 rfl) rfl (fun c2 => ?_) (fun c2 => ?_)
      · replace hr := (if_pos c2).symm.trans hr
        refine Ev.iinc (z := 1) (L' := [y0, .val (.int x1), .val (.int x2), .val (.int (x3 + (1 : Int32)))]) (d29 14 rfl) rfl rfl rfl ?_
        refine Ev.goto (t := 4) (d29 15 rfl) rfl ?_
        exact ih x1 x2 (x3 + (1 : Int32)) y0 hy0 _ hr
      · replace hr := (if_neg c2).symm.trans hr
        refine Ev.iinc (z := 1) (L' := [y0, .val (.int x1), .val (.int (x2 + (1 : Int32))), .val (.int x3)]) (d29 13 rfl) rfl rfl rfl ?_
        refine Ev.iinc (z := 1) (L' := [y0, .val (.int x1), .val (.int (x2 + (1 : Int32))), .val (.int (x3 + (1 : Int32)))]) (d29 14 rfl) rfl rfl rfl ?_
        refine Ev.goto (t := 4) (d29 15 rfl) rfl ?_
        exact ih x1 (x2 + (1 : Int32)) (x3 + (1 : Int32)) y0 hy0 _ hr
    · replace hr := (if_neg c1).symm.trans hr
      refine Ev.iloadN (d29 16 rfl) rfl ?_
      cases hr
      exact Ev.ireturn rfl (d29 17 rfl)
def f_popCount (n : Nat) (s : St) (a0 : Int32) : Option (Int32) :=
  f_popCount_4 n s n a0 (0 : Int32) (0 : Int32)
set_option maxRecDepth 100000 in
theorem e_popCount {g : GT} {n : Nat} {s : St} {a0 : Int32} {w : Int32} (hw : HW g) {K : St → MHeap} {o : Nat} {r : Nat → Nat} (V : View (GG g) Ln K o r) (hr : f_popCount n s a0 = some w) : EvC (GG g) M_popCount [.ref o, .int a0] (K s) ((some (.int w)), (K s)) := by
  refine EvC.enter (L0 := [.val (.ref o), .val (.int a0), .unset, .unset]) pl_popCount (fun h => nomatch h) rfl rfl ?_
  unfold f_popCount at hr
  refine Ev.iconst (z := 0) (d29 0 rfl) rfl ?_
  refine Ev.istDN (L' := [.val (.ref o), .val (.int a0), .val (.int (0 : Int32)), .unset]) (d29 1 rfl) rfl rfl rfl ?_
  refine Ev.iconst (z := 0) (d29 2 rfl) rfl ?_
  refine Ev.istDN (L' := [.val (.ref o), .val (.int a0), .val (.int (0 : Int32)), .val (.int (0 : Int32))]) (d29 3 rfl) rfl rfl rfl ?_
  exact e_popCount_4 hw V  n a0 (0 : Int32) (0 : Int32) (.val (.ref o)) rfl _ hr
def f_liveObjects_4 (n : Nat) (s : St) : Nat → Int32 → Int32 → Option (Int32)
  | 0 => fun _ _ => none
  | k + 1 => fun x1 x2 =>
    if x2 < (s.1 4) then
      grd (inb x2 16) <|
      if (s.2 0 (ix x2)) = (-1 : Int32) then
        f_liveObjects_4 n s k x1 (x2 + (1 : Int32))
      else
        (f_popCount n s (s.2 2 (ix x2))).bind fun q4 =>
        f_liveObjects_4 n s k (x1 + q4) (x2 + (1 : Int32))
    else
      some x1
set_option maxRecDepth 100000 in
theorem e_liveObjects_4 {g : GT} {n : Nat} {s : St} (hw : HW g) {K : St → MHeap} {o : Nat} {r : Nat → Nat} (V : View (GG g) Ln K o r) (k : Nat) : ∀ (x1 : Int32) (x2 : Int32) (w : Int32), f_liveObjects_4 n s k x1 x2 = some w → Ev (GG g) M_liveObjects 4 [.val (.ref o), .val (.int x1), .val (.int x2)] [] (K s) ((some (.int w)), (K s)) := by
  induction k with
  | zero => intro x1 x2 w hr; rw [f_liveObjects_4] at hr; cases hr
  | succ k ih =>
    intro x1 x2 w hr
    rw [f_liveObjects_4] at hr
    refine Ev.iloadN (d28 4 rfl) rfl ?_
    refine Ev.aloadN (d28 5 rfl) rfl ?_
    refine Ev.gI V (ww hw 22 rfl) (d28 6 rfl) (j := 4) rfl rfl ?_
    refine Ev.icge (t := 41) (d28 7 rfl) rfl (fun c1 => ?_) (fun c1 => ?_)
    · replace hr := (if_pos c1).symm.trans hr
      refine Ev.aloadN (d28 8 rfl) rfl ?_
      refine Ev.gAr V (ww hw 10 rfl) (d28 9 rfl) (j := 0) rfl ?_
      refine Ev.iloadN (d28 10 rfl) rfl ?_
      obtain ⟨b2, hr⟩ := grd_some hr
      refine Ev.ial V (j := 0) rfl rfl (d28 11 rfl) b2 ?_
      refine Ev.iconst (z := -1) (d28 12 rfl) rfl ?_
      refine Ev.iceq (t := 35) (d28 13 rfl) rfl (fun c3 => ?_) (fun c3 => ?_)
      · replace hr := (if_pos c3).symm.trans hr
        refine Ev.iinc (z := 1) (L' := [.val (.ref o), .val (.int x1), .val (.int (x2 + (1 : Int32)))]) (d28 23 rfl) rfl rfl rfl ?_
        refine Ev.goto (t := 4) (d28 24 rfl) rfl ?_
        exact ih x1 (x2 + (1 : Int32))  _ hr
      · replace hr := (if_neg c3).symm.trans hr
        refine Ev.iloadN (d28 14 rfl) rfl ?_
        refine Ev.aloadN (d28 15 rfl) rfl ?_
        refine Ev.aloadN (d28 16 rfl) rfl ?_
        refine Ev.gAr V (ww hw 14 rfl) (d28 17 rfl) (j := 2) rfl ?_
        refine Ev.iloadN (d28 18 rfl) rfl ?_
        refine Ev.ial V (j := 2) rfl rfl (d28 19 rfl) b2 ?_
        obtain ⟨q4, hq5, hr⟩ := Option.bind_eq_some_iff.mp hr
        refine Ev.priv (y := M_popCount) (args := [.int (s.2 2 (ix x2))]) (rest := [.int x1]) (gok hw) rfl nm_popCount (ww hw 147 rfl) (ww hw 148 rfl) (ww hw 149 rfl) (ww hw 150 rfl) (lenOf pd_popCount rfl) (d28 20 rfl) (V.2.1 s) (e_popCount hw V hq5) (by decide) (Nat.le_of_ble_eq_true rfl) rfl ?_
        refine Ev.iadd (d28 21 rfl) ?_
        refine Ev.istDN (L' := [.val (.ref o), .val (.int (x1 + q4)), .val (.int x2)]) (d28 22 rfl) rfl rfl rfl ?_
        refine Ev.iinc (z := 1) (L' := [.val (.ref o), .val (.int (x1 + q4)), .val (.int (x2 + (1 : Int32)))]) (d28 23 rfl) rfl rfl rfl ?_
        refine Ev.goto (t := 4) (d28 24 rfl) rfl ?_
        exact ih (x1 + q4) (x2 + (1 : Int32))  _ hr
    · replace hr := (if_neg c1).symm.trans hr
      refine Ev.iloadN (d28 25 rfl) rfl ?_
      cases hr
      exact Ev.ireturn rfl (d28 26 rfl)
def f_liveObjects (n : Nat) (s : St) : Option (Int32) :=
  f_liveObjects_4 n s n (0 : Int32) (0 : Int32)
set_option maxRecDepth 100000 in
theorem e_liveObjects {g : GT} {n : Nat} {s : St} {w : Int32} (hw : HW g) {K : St → MHeap} {o : Nat} {r : Nat → Nat} (V : View (GG g) Ln K o r) (hr : f_liveObjects n s = some w) : EvC (GG g) M_liveObjects [.ref o] (K s) ((some (.int w)), (K s)) := by
  refine EvC.enter (L0 := [.val (.ref o), .unset, .unset]) pl_liveObjects (fun h => nomatch h) rfl rfl ?_
  unfold f_liveObjects at hr
  refine Ev.iconst (z := 0) (d28 0 rfl) rfl ?_
  refine Ev.istDN (L' := [.val (.ref o), .val (.int (0 : Int32)), .unset]) (d28 1 rfl) rfl rfl rfl ?_
  refine Ev.iconst (z := 0) (d28 2 rfl) rfl ?_
  refine Ev.istDN (L' := [.val (.ref o), .val (.int (0 : Int32)), .val (.int (0 : Int32))]) (d28 3 rfl) rfl rfl rfl ?_
  exact e_liveObjects_4 hw V  n (0 : Int32) (0 : Int32)  _ hr
def f_pagesInUse_4 (n : Nat) (s : St) : Nat → Int32 → Int32 → Option (Int32)
  | 0 => fun _ _ => none
  | k + 1 => fun x1 x2 =>
    if x2 < (s.1 4) then
      grd (inb x2 16) <|
      if (s.2 0 (ix x2)) = (-1 : Int32) then
        f_pagesInUse_4 n s k x1 (x2 + (1 : Int32))
      else
        f_pagesInUse_4 n s k (x1 + (1 : Int32)) (x2 + (1 : Int32))
    else
      some x1
set_option maxRecDepth 100000 in
theorem e_pagesInUse_4 {g : GT} {n : Nat} {s : St} (hw : HW g) {K : St → MHeap} {o : Nat} {r : Nat → Nat} (V : View (GG g) Ln K o r) (k : Nat) : ∀ (x1 : Int32) (x2 : Int32) (w : Int32), f_pagesInUse_4 n s k x1 x2 = some w → Ev (GG g) M_pagesInUse 4 [.val (.ref o), .val (.int x1), .val (.int x2)] [] (K s) ((some (.int w)), (K s)) := by
  induction k with
  | zero => intro x1 x2 w hr; rw [f_pagesInUse_4] at hr; cases hr
  | succ k ih =>
    intro x1 x2 w hr
    rw [f_pagesInUse_4] at hr
    refine Ev.iloadN (d30 4 rfl) rfl ?_
    refine Ev.aloadN (d30 5 rfl) rfl ?_
    refine Ev.gI V (ww hw 22 rfl) (d30 6 rfl) (j := 4) rfl rfl ?_
    refine Ev.icge (t := 31) (d30 7 rfl) rfl (fun c1 => ?_) (fun c1 => ?_)
    · replace hr := (if_pos c1).symm.trans hr
      refine Ev.aloadN (d30 8 rfl) rfl ?_
      refine Ev.gAr V (ww hw 10 rfl) (d30 9 rfl) (j := 0) rfl ?_
      refine Ev.iloadN (d30 10 rfl) rfl ?_
      obtain ⟨b2, hr⟩ := grd_some hr
      refine Ev.ial V (j := 0) rfl rfl (d30 11 rfl) b2 ?_
      refine Ev.iconst (z := -1) (d30 12 rfl) rfl ?_
      refine Ev.iceq (t := 25) (d30 13 rfl) rfl (fun c3 => ?_) (fun c3 => ?_)
      · replace hr := (if_pos c3).symm.trans hr
        refine Ev.iinc (z := 1) (L' := [.val (.ref o), .val (.int x1), .val (.int (x2 + (1 : Int32)))]) (d30 15 rfl) rfl rfl rfl ?_
        refine Ev.goto (t := 4) (d30 16 rfl) rfl ?_
        exact ih x1 (x2 + (1 : Int32))  _ hr
      · replace hr := (if_neg c3).symm.trans hr
        refine Ev.iinc (z := 1) (L' := [.val (.ref o), .val (.int (x1 + (1 : Int32))), .val (.int x2)]) (d30 14 rfl) rfl rfl rfl ?_
        refine Ev.iinc (z := 1) (L' := [.val (.ref o), .val (.int (x1 + (1 : Int32))), .val (.int (x2 + (1 : Int32)))]) (d30 15 rfl) rfl rfl rfl ?_
        refine Ev.goto (t := 4) (d30 16 rfl) rfl ?_
        exact ih (x1 + (1 : Int32)) (x2 + (1 : Int32))  _ hr
    · replace hr := (if_neg c1).symm.trans hr
      refine Ev.iloadN (d30 17 rfl) rfl ?_
      cases hr
      exact Ev.ireturn rfl (d30 18 rfl)
def f_pagesInUse (n : Nat) (s : St) : Option (Int32) :=
  f_pagesInUse_4 n s n (0 : Int32) (0 : Int32)
set_option maxRecDepth 100000 in
theorem e_pagesInUse {g : GT} {n : Nat} {s : St} {w : Int32} (hw : HW g) {K : St → MHeap} {o : Nat} {r : Nat → Nat} (V : View (GG g) Ln K o r) (hr : f_pagesInUse n s = some w) : EvC (GG g) M_pagesInUse [.ref o] (K s) ((some (.int w)), (K s)) := by
  refine EvC.enter (L0 := [.val (.ref o), .unset, .unset]) pl_pagesInUse (fun h => nomatch h) rfl rfl ?_
  unfold f_pagesInUse at hr
  refine Ev.iconst (z := 0) (d30 0 rfl) rfl ?_
  refine Ev.istDN (L' := [.val (.ref o), .val (.int (0 : Int32)), .unset]) (d30 1 rfl) rfl rfl rfl ?_
  refine Ev.iconst (z := 0) (d30 2 rfl) rfl ?_
  refine Ev.istDN (L' := [.val (.ref o), .val (.int (0 : Int32)), .val (.int (0 : Int32))]) (d30 3 rfl) rfl rfl rfl ?_
  exact e_pagesInUse_4 hw V  n (0 : Int32) (0 : Int32)  _ hr
def f_law_347 (n : Nat) (x2 : Int32) (x3 : Int32) (x7 : Int32) (x8 : Int32) (z0 : Int32) (z1 : Int32) (s : St) : Option (Int32 × St) :=
  if z1 = z0 then
    (f_pageBits s (0 : Int32)).bind fun q2 =>
    if q2 = ((1 : Int32) <<< (x8 &&& 31)) then
      (f_pageBits s (1 : Int32)).bind fun q5 =>
      if q5 = ((1 : Int32) <<< (x7 &&& 31)) then
        (f_read s ((x8 * (4 : Int32)) + (2 : Int32))).bind fun q8 =>
        if q8 = x2 then
          (f_read s (((16 : Int32) + (x7 * (4 : Int32))) + (3 : Int32))).bind fun q11 =>
          if q11 = x3 then
            (f_liveObjects n s).bind fun q14 =>
            if q14 = (2 : Int32) then
              (f_pagesInUse n s).bind fun q17 =>
              if q17 = (2 : Int32) then
                some ((1 : Int32), s)
              else
                some ((0 : Int32), s)
            else
              some ((0 : Int32), s)
          else
            some ((0 : Int32), s)
        else
          some ((0 : Int32), s)
      else
        some ((0 : Int32), s)
    else
      some ((0 : Int32), s)
  else
    some ((0 : Int32), s)
set_option maxRecDepth 100000 in
theorem e_law_347 {g : GT} {n : Nat} (hw : HW g) {K : St → MHeap} {o : Nat} {r : Nat → Nat} (V : View (GG g) Ln K o r) (x2 : Int32) (x3 : Int32) (x7 : Int32) (x8 : Int32) (z0 : Int32) (z1 : Int32) (s : St) (y0 : Slot) (hy0 : one1 y0 = true) (y1 : Slot) (hy1 : one1 y1 = true) (y5 : Slot) (hy5 : one1 y5 = true) (y6 : Slot) (hy6 : one1 y6 = true) (y9 : Slot) (hy9 : one1 y9 = true) (w : Int32 × St) (hr : f_law_347 n x2 x3 x7 x8 z0 z1 s = some w) : Ev (GG g) M_law 347 [y0, y1, .val (.int x2), .val (.int x3), .val (.ref o), y5, y6, .val (.int x7), .val (.int x8), y9] [.int z0, .int z1] (K s) ((some (.int w.1)), (K w.2)) := by
  unfold f_law_347 at hr
  refine Ev.iceq (t := 352) at_347 rfl (fun c1 => ?_) (fun c1 => ?_)
  · replace hr := (if_pos c1).symm.trans hr
    refine Ev.aload at_352 rfl ?_
    refine Ev.iconst (z := 0) at_354 rfl ?_
    obtain ⟨q2, hq3, hr⟩ := Option.bind_eq_some_iff.mp hr
    refine Ev.virt (y := M_pageBits) (args := [.int (0 : Int32)]) (rest := []) (gok hw) rfl nm_pageBits (ww hw 132 rfl) (ww hw 133 rfl) (ww hw 134 rfl) (ww hw 135 rfl) (ww hw 136 rfl) (lenOf pd_pageBits rfl) at_355 (V.2.1 s) (e_pageBits hw V hq3) (by decide) (Nat.le_of_ble_eq_true rfl) rfl ?_
    refine Ev.iconst (z := 1) at_358 rfl ?_
    refine Ev.iload at_359 rfl ?_
    refine Ev.ishl at_361 ?_
    refine Ev.icne (t := 378) at_362 rfl (fun c4 => ?_) (fun c4 => ?_)
    · replace hr := (if_pos c4).symm.trans hr
      refine Ev.aload at_365 rfl ?_
      refine Ev.iconst (z := 1) at_367 rfl ?_
      obtain ⟨q5, hq6, hr⟩ := Option.bind_eq_some_iff.mp hr
      refine Ev.virt (y := M_pageBits) (args := [.int (1 : Int32)]) (rest := []) (gok hw) rfl nm_pageBits (ww hw 132 rfl) (ww hw 133 rfl) (ww hw 134 rfl) (ww hw 135 rfl) (ww hw 136 rfl) (lenOf pd_pageBits rfl) at_368 (V.2.1 s) (e_pageBits hw V hq6) (by decide) (Nat.le_of_ble_eq_true rfl) rfl ?_
      refine Ev.iconst (z := 1) at_371 rfl ?_
      refine Ev.iload at_372 rfl ?_
      refine Ev.ishl at_374 ?_
      refine Ev.iceq (t := 380) at_375 rfl (fun c7 => ?_) (fun c7 => ?_)
      · replace hr := (if_pos c7).symm.trans hr
        refine Ev.aload at_380 rfl ?_
        refine Ev.iload at_382 rfl ?_
        refine Ev.iconst (z := 4) at_384 rfl ?_
        refine Ev.imul at_385 ?_
        refine Ev.iconst (z := 2) at_386 rfl ?_
        refine Ev.iadd at_387 ?_
        obtain ⟨q8, hq9, hr⟩ := Option.bind_eq_some_iff.mp hr
        refine Ev.virt (y := M_read) (args := [.int ((x8 * (4 : Int32)) + (2 : Int32))]) (rest := []) (gok hw) rfl nm_read (ww hw 137 rfl) (ww hw 138 rfl) (ww hw 139 rfl) (ww hw 140 rfl) (ww hw 141 rfl) (lenOf pd_read rfl) at_388 (V.2.1 s) (e_read hw V hq9) (by decide) (Nat.le_of_ble_eq_true rfl) rfl ?_
        refine Ev.iloadN at_391 rfl ?_
        refine Ev.icne (t := 413) at_392 rfl (fun c10 => ?_) (fun c10 => ?_)
        · replace hr := (if_pos c10).symm.trans hr
          refine Ev.aload at_395 rfl ?_
          refine Ev.bipush (z := 16) at_397 rfl ?_
          refine Ev.iload at_399 rfl ?_
          refine Ev.iconst (z := 4) at_401 rfl ?_
          refine Ev.imul at_402 ?_
          refine Ev.iadd at_403 ?_
          refine Ev.iconst (z := 3) at_404 rfl ?_
          refine Ev.iadd at_405 ?_
          obtain ⟨q11, hq12, hr⟩ := Option.bind_eq_some_iff.mp hr
          refine Ev.virt (y := M_read) (args := [.int (((16 : Int32) + (x7 * (4 : Int32))) + (3 : Int32))]) (rest := []) (gok hw) rfl nm_read (ww hw 137 rfl) (ww hw 138 rfl) (ww hw 139 rfl) (ww hw 140 rfl) (ww hw 141 rfl) (lenOf pd_read rfl) at_406 (V.2.1 s) (e_read hw V hq12) (by decide) (Nat.le_of_ble_eq_true rfl) rfl ?_
          refine Ev.iloadN at_409 rfl ?_
          refine Ev.iceq (t := 415) at_410 rfl (fun c13 => ?_) (fun c13 => ?_)
          · replace hr := (if_pos c13).symm.trans hr
            refine Ev.aload at_415 rfl ?_
            obtain ⟨q14, hq15, hr⟩ := Option.bind_eq_some_iff.mp hr
            refine Ev.virt (y := M_liveObjects) (args := []) (rest := []) (gok hw) rfl nm_liveObjects (ww hw 142 rfl) (ww hw 143 rfl) (ww hw 144 rfl) (ww hw 145 rfl) (ww hw 146 rfl) (lenOf pd_liveObjects rfl) at_417 (V.2.1 s) (e_liveObjects hw V hq15) (by decide) (Nat.le_of_ble_eq_true rfl) rfl ?_
            refine Ev.iconst (z := 2) at_420 rfl ?_
            refine Ev.icne (t := 437) at_421 rfl (fun c16 => ?_) (fun c16 => ?_)
            · replace hr := (if_pos c16).symm.trans hr
              refine Ev.aload at_424 rfl ?_
              obtain ⟨q17, hq18, hr⟩ := Option.bind_eq_some_iff.mp hr
              refine Ev.virt (y := M_pagesInUse) (args := []) (rest := []) (gok hw) rfl nm_pagesInUse (ww hw 151 rfl) (ww hw 152 rfl) (ww hw 153 rfl) (ww hw 154 rfl) (ww hw 155 rfl) (lenOf pd_pagesInUse rfl) at_426 (V.2.1 s) (e_pagesInUse hw V hq18) (by decide) (Nat.le_of_ble_eq_true rfl) rfl ?_
              refine Ev.iconst (z := 2) at_429 rfl ?_
              refine Ev.icne (t := 437) at_430 rfl (fun c19 => ?_) (fun c19 => ?_)
              · replace hr := (if_pos c19).symm.trans hr
                refine Ev.iconst (z := 1) at_433 rfl ?_
                refine Ev.goto (t := 438) at_434 rfl ?_
                cases hr
                exact Ev.zret1 rfl at_438
              · replace hr := (if_neg c19).symm.trans hr
                refine Ev.iconst (z := 0) at_437 rfl ?_
                cases hr
                exact Ev.zret0 rfl at_438
            · replace hr := (if_neg c16).symm.trans hr
              refine Ev.iconst (z := 0) at_437 rfl ?_
              cases hr
              exact Ev.zret0 rfl at_438
          · replace hr := (if_neg c13).symm.trans hr
            refine Ev.iconst (z := 0) at_413 rfl ?_
            cases hr
            exact Ev.zret0 rfl at_414
        · replace hr := (if_neg c10).symm.trans hr
          refine Ev.iconst (z := 0) at_413 rfl ?_
          cases hr
          exact Ev.zret0 rfl at_414
      · replace hr := (if_neg c7).symm.trans hr
        refine Ev.iconst (z := 0) at_378 rfl ?_
        cases hr
        exact Ev.zret0 rfl at_379
    · replace hr := (if_neg c4).symm.trans hr
      refine Ev.iconst (z := 0) at_378 rfl ?_
      cases hr
      exact Ev.zret0 rfl at_379
  · replace hr := (if_neg c1).symm.trans hr
    refine Ev.iconst (z := 0) at_350 rfl ?_
    cases hr
    exact Ev.zret0 rfl at_351
def f_law_315 (n : Nat) (x2 : Int32) (x3 : Int32) (x7 : Int32) (x8 : Int32) (x9 : Int32) (z0 : Int32) (z1 : Int32) (s : St) : Option (Int32 × St) :=
  if z1 = z0 then
    (f_frameBits n s (0 : Int32)).bind fun q2 =>
    if x9 = 0 then
      f_law_347 n x2 x3 x7 x8 ((1 : Int32) <<< (x8 &&& 31)) q2 s
    else
      f_law_347 n x2 x3 x7 x8 (((1 : Int32) <<< (x8 &&& 31)) ||| ((1 : Int32) <<< (x7 &&& 31))) q2 s
  else
    some ((0 : Int32), s)
set_option maxRecDepth 100000 in
theorem e_law_315 {g : GT} {n : Nat} (hw : HW g) {K : St → MHeap} {o : Nat} {r : Nat → Nat} (V : View (GG g) Ln K o r) (x2 : Int32) (x3 : Int32) (x7 : Int32) (x8 : Int32) (x9 : Int32) (z0 : Int32) (z1 : Int32) (s : St) (y0 : Slot) (hy0 : one1 y0 = true) (y1 : Slot) (hy1 : one1 y1 = true) (y5 : Slot) (hy5 : one1 y5 = true) (y6 : Slot) (hy6 : one1 y6 = true) (w : Int32 × St) (hr : f_law_315 n x2 x3 x7 x8 x9 z0 z1 s = some w) : Ev (GG g) M_law 315 [y0, y1, .val (.int x2), .val (.int x3), .val (.ref o), y5, y6, .val (.int x7), .val (.int x8), .val (.int x9)] [.int z0, .int z1] (K s) ((some (.int w.1)), (K w.2)) := by
  unfold f_law_315 at hr
  refine Ev.iceq (t := 320) at_315 rfl (fun c1 => ?_) (fun c1 => ?_)
  · replace hr := (if_pos c1).symm.trans hr
    refine Ev.aload at_320 rfl ?_
    refine Ev.iconst (z := 0) at_322 rfl ?_
    obtain ⟨q2, hq3, hr⟩ := Option.bind_eq_some_iff.mp hr
    refine Ev.virt (y := M_frameBits) (args := [.int (0 : Int32)]) (rest := []) (gok hw) rfl nm_frameBits (ww hw 127 rfl) (ww hw 128 rfl) (ww hw 129 rfl) (ww hw 130 rfl) (ww hw 131 rfl) (lenOf pd_frameBits rfl) at_323 (V.2.1 s) (e_frameBits hw V hq3) (by decide) (Nat.le_of_ble_eq_true rfl) rfl ?_
    refine Ev.iload at_326 rfl ?_
    refine Ev.ifeq (t := 343) at_328 rfl (fun c4 => ?_) (fun c4 => ?_)
    · replace hr := (if_pos c4).symm.trans hr
      refine Ev.iconst (z := 1) at_343 rfl ?_
      refine Ev.iload at_344 rfl ?_
      refine Ev.ishl at_346 ?_
      exact e_law_347 hw V  x2 x3 x7 x8 ((1 : Int32) <<< (x8 &&& 31)) q2 s y0 hy0 y1 hy1 y5 hy5 y6 hy6 (.val (.int x9)) rfl _ hr
    · replace hr := (if_neg c4).symm.trans hr
      refine Ev.iconst (z := 1) at_331 rfl ?_
      refine Ev.iload at_332 rfl ?_
      refine Ev.ishl at_334 ?_
      refine Ev.iconst (z := 1) at_335 rfl ?_
      refine Ev.iload at_336 rfl ?_
      refine Ev.ishl at_338 ?_
      refine Ev.ior at_339 ?_
      refine Ev.goto (t := 347) at_340 rfl ?_
      exact e_law_347 hw V  x2 x3 x7 x8 (((1 : Int32) <<< (x8 &&& 31)) ||| ((1 : Int32) <<< (x7 &&& 31))) q2 s y0 hy0 y1 hy1 y5 hy5 y6 hy6 (.val (.int x9)) rfl _ hr
  · replace hr := (if_neg c1).symm.trans hr
    refine Ev.iconst (z := 0) at_318 rfl ?_
    cases hr
    exact Ev.zret0 rfl at_319
def f_law_295 (n : Nat) (x2 : Int32) (x3 : Int32) (x7 : Int32) (x8 : Int32) (x9 : Int32) (z0 : Int32) (z1 : Int32) (s : St) : Option (Int32 × St) :=
  if z1 = z0 then
    (f_framesInUse n s).bind fun q2 =>
    if x9 = 0 then
      f_law_315 n x2 x3 x7 x8 x9 (2 : Int32) q2 s
    else
      f_law_315 n x2 x3 x7 x8 x9 (1 : Int32) q2 s
  else
    some ((0 : Int32), s)
set_option maxRecDepth 100000 in
theorem e_law_295 {g : GT} {n : Nat} (hw : HW g) {K : St → MHeap} {o : Nat} {r : Nat → Nat} (V : View (GG g) Ln K o r) (x2 : Int32) (x3 : Int32) (x7 : Int32) (x8 : Int32) (x9 : Int32) (z0 : Int32) (z1 : Int32) (s : St) (y0 : Slot) (hy0 : one1 y0 = true) (y1 : Slot) (hy1 : one1 y1 = true) (y5 : Slot) (hy5 : one1 y5 = true) (y6 : Slot) (hy6 : one1 y6 = true) (w : Int32 × St) (hr : f_law_295 n x2 x3 x7 x8 x9 z0 z1 s = some w) : Ev (GG g) M_law 295 [y0, y1, .val (.int x2), .val (.int x3), .val (.ref o), y5, y6, .val (.int x7), .val (.int x8), .val (.int x9)] [.int z0, .int z1] (K s) ((some (.int w.1)), (K w.2)) := by
  unfold f_law_295 at hr
  refine Ev.iceq (t := 300) at_295 rfl (fun c1 => ?_) (fun c1 => ?_)
  · replace hr := (if_pos c1).symm.trans hr
    refine Ev.aload at_300 rfl ?_
    obtain ⟨q2, hq3, hr⟩ := Option.bind_eq_some_iff.mp hr
    refine Ev.virt (y := M_framesInUse) (args := []) (rest := []) (gok hw) rfl nm_framesInUse (ww hw 122 rfl) (ww hw 123 rfl) (ww hw 124 rfl) (ww hw 125 rfl) (ww hw 126 rfl) (lenOf pd_framesInUse rfl) at_302 (V.2.1 s) (e_framesInUse hw V hq3) (by decide) (Nat.le_of_ble_eq_true rfl) rfl ?_
    refine Ev.iload at_305 rfl ?_
    refine Ev.ifeq (t := 314) at_307 rfl (fun c4 => ?_) (fun c4 => ?_)
    · replace hr := (if_pos c4).symm.trans hr
      refine Ev.iconst (z := 2) at_314 rfl ?_
      exact e_law_315 hw V  x2 x3 x7 x8 x9 (2 : Int32) q2 s y0 hy0 y1 hy1 y5 hy5 y6 hy6 _ hr
    · replace hr := (if_neg c4).symm.trans hr
      refine Ev.iconst (z := 1) at_310 rfl ?_
      refine Ev.goto (t := 315) at_311 rfl ?_
      exact e_law_315 hw V  x2 x3 x7 x8 x9 (1 : Int32) q2 s y0 hy0 y1 hy1 y5 hy5 y6 hy6 _ hr
  · replace hr := (if_neg c1).symm.trans hr
    refine Ev.iconst (z := 0) at_298 rfl ?_
    cases hr
    exact Ev.zret0 rfl at_299
def f_law_265 (n : Nat) (x2 : Int32) (x3 : Int32) (x7 : Int32) (x8 : Int32) (x9 : Int32) (z0 : Int32) (z1 : Int32) (s : St) : Option (Int32 × St) :=
  if z1 = z0 then
    (f_frameOf s (0 : Int32)).bind fun q2 =>
    if q2 = 0 then
      (f_frameOf s (1 : Int32)).bind fun q5 =>
      if x9 = 0 then
        f_law_295 n x2 x3 x7 x8 x9 (1 : Int32) q5 s
      else
        f_law_295 n x2 x3 x7 x8 x9 (0 : Int32) q5 s
    else
      some ((0 : Int32), s)
  else
    some ((0 : Int32), s)
set_option maxRecDepth 100000 in
theorem e_law_265 {g : GT} {n : Nat} (hw : HW g) {K : St → MHeap} {o : Nat} {r : Nat → Nat} (V : View (GG g) Ln K o r) (x2 : Int32) (x3 : Int32) (x7 : Int32) (x8 : Int32) (x9 : Int32) (z0 : Int32) (z1 : Int32) (s : St) (y0 : Slot) (hy0 : one1 y0 = true) (y1 : Slot) (hy1 : one1 y1 = true) (y5 : Slot) (hy5 : one1 y5 = true) (y6 : Slot) (hy6 : one1 y6 = true) (w : Int32 × St) (hr : f_law_265 n x2 x3 x7 x8 x9 z0 z1 s = some w) : Ev (GG g) M_law 265 [y0, y1, .val (.int x2), .val (.int x3), .val (.ref o), y5, y6, .val (.int x7), .val (.int x8), .val (.int x9)] [.int z0, .int z1] (K s) ((some (.int w.1)), (K w.2)) := by
  unfold f_law_265 at hr
  refine Ev.iceq (t := 270) at_265 rfl (fun c1 => ?_) (fun c1 => ?_)
  · replace hr := (if_pos c1).symm.trans hr
    refine Ev.aload at_270 rfl ?_
    refine Ev.iconst (z := 0) at_272 rfl ?_
    obtain ⟨q2, hq3, hr⟩ := Option.bind_eq_some_iff.mp hr
    refine Ev.virt (y := M_frameOf) (args := [.int (0 : Int32)]) (rest := []) (gok hw) rfl nm_frameOf (ww hw 117 rfl) (ww hw 118 rfl) (ww hw 119 rfl) (ww hw 120 rfl) (ww hw 121 rfl) (lenOf pd_frameOf rfl) at_273 (V.2.1 s) (e_frameOf hw V hq3) (by decide) (Nat.le_of_ble_eq_true rfl) rfl ?_
    refine Ev.ifne (t := 298) at_276 rfl (fun c4 => ?_) (fun c4 => ?_)
    · replace hr := (if_pos c4).symm.trans hr
      refine Ev.aload at_279 rfl ?_
      refine Ev.iconst (z := 1) at_281 rfl ?_
      obtain ⟨q5, hq6, hr⟩ := Option.bind_eq_some_iff.mp hr
      refine Ev.virt (y := M_frameOf) (args := [.int (1 : Int32)]) (rest := []) (gok hw) rfl nm_frameOf (ww hw 117 rfl) (ww hw 118 rfl) (ww hw 119 rfl) (ww hw 120 rfl) (ww hw 121 rfl) (lenOf pd_frameOf rfl) at_282 (V.2.1 s) (e_frameOf hw V hq6) (by decide) (Nat.le_of_ble_eq_true rfl) rfl ?_
      refine Ev.iload at_285 rfl ?_
      refine Ev.ifeq (t := 294) at_287 rfl (fun c7 => ?_) (fun c7 => ?_)
      · replace hr := (if_pos c7).symm.trans hr
        refine Ev.iconst (z := 1) at_294 rfl ?_
        exact e_law_295 hw V  x2 x3 x7 x8 x9 (1 : Int32) q5 s y0 hy0 y1 hy1 y5 hy5 y6 hy6 _ hr
      · replace hr := (if_neg c7).symm.trans hr
        refine Ev.iconst (z := 0) at_290 rfl ?_
        refine Ev.goto (t := 295) at_291 rfl ?_
        exact e_law_295 hw V  x2 x3 x7 x8 x9 (0 : Int32) q5 s y0 hy0 y1 hy1 y5 hy5 y6 hy6 _ hr
    · replace hr := (if_neg c4).symm.trans hr
      refine Ev.iconst (z := 0) at_298 rfl ?_
      cases hr
      exact Ev.zret0 rfl at_299
  · replace hr := (if_neg c1).symm.trans hr
    refine Ev.iconst (z := 0) at_268 rfl ?_
    cases hr
    exact Ev.zret0 rfl at_269
def f_law_248 (n : Nat) (x2 : Int32) (x3 : Int32) (x7 : Int32) (x8 : Int32) (z0 : Int32) (s : St) : Option (Int32 × St) :=
  (f_mesh n s).bind fun q1 =>
  if z0 = 0 then
    f_law_265 n x2 x3 x7 x8 z0 (0 : Int32) q1.1 q1.2
  else
    f_law_265 n x2 x3 x7 x8 z0 (1 : Int32) q1.1 q1.2
set_option maxRecDepth 100000 in
theorem e_law_248 {g : GT} {n : Nat} (hw : HW g) {K : St → MHeap} {o : Nat} {r : Nat → Nat} (V : View (GG g) Ln K o r) (x2 : Int32) (x3 : Int32) (x7 : Int32) (x8 : Int32) (z0 : Int32) (s : St) (y0 : Slot) (hy0 : one1 y0 = true) (y1 : Slot) (hy1 : one1 y1 = true) (y5 : Slot) (hy5 : one1 y5 = true) (y6 : Slot) (hy6 : one1 y6 = true) (y9 : Slot) (hy9 : one1 y9 = true) (w : Int32 × St) (hr : f_law_248 n x2 x3 x7 x8 z0 s = some w) : Ev (GG g) M_law 248 [y0, y1, .val (.int x2), .val (.int x3), .val (.ref o), y5, y6, .val (.int x7), .val (.int x8), y9] [.int z0] (K s) ((some (.int w.1)), (K w.2)) := by
  unfold f_law_248 at hr
  refine Ev.istD (L' := [y0, y1, .val (.int x2), .val (.int x3), .val (.ref o), y5, y6, .val (.int x7), .val (.int x8), .val (.int z0)]) at_248 rfl hy9 rfl ?_
  refine Ev.aload at_250 rfl ?_
  obtain ⟨q1, hq2, hr⟩ := Option.bind_eq_some_iff.mp hr
  refine Ev.virt (y := M_mesh) (args := []) (rest := []) (gok hw) rfl nm_mesh (ww hw 104 rfl) (ww hw 105 rfl) (ww hw 106 rfl) (ww hw 107 rfl) (ww hw 108 rfl) (lenOf pd_mesh rfl) at_252 (V.2.1 s) (e_mesh hw V hq2) (by decide) (Nat.le_of_ble_eq_true rfl) rfl ?_
  refine Ev.iload at_255 rfl ?_
  refine Ev.ifeq (t := 264) at_257 rfl (fun c3 => ?_) (fun c3 => ?_)
  · replace hr := (if_pos c3).symm.trans hr
    refine Ev.iconst (z := 0) at_264 rfl ?_
    exact e_law_265 hw V  x2 x3 x7 x8 z0 (0 : Int32) q1.1 q1.2 y0 hy0 y1 hy1 y5 hy5 y6 hy6 _ hr
  · replace hr := (if_neg c3).symm.trans hr
    refine Ev.iconst (z := 1) at_260 rfl ?_
    refine Ev.goto (t := 265) at_261 rfl ?_
    exact e_law_265 hw V  x2 x3 x7 x8 z0 (1 : Int32) q1.1 q1.2 y0 hy0 y1 hy1 y5 hy5 y6 hy6 _ hr
def f_law_166 (n : Nat) : Nat → Int32 → Int32 → Int32 → Int32 → Int32 → St → Option (Int32 × St)
  | 0 => fun _ _ _ _ _ _ => none
  | k + 1 => fun x2 x3 x7 x8 x9 s =>
    if x9 < (4 : Int32) then
      if x9 = x8 then
        f_law_166 n k x2 x3 x7 x8 (x9 + (1 : Int32)) s
      else
        (f_free (x9 * (4 : Int32)) s).bind fun q3 =>
        if q3.1 = 0 then
          some ((0 : Int32), q3.2)
        else
          f_law_166 n k x2 x3 x7 x8 (x9 + (1 : Int32)) q3.2
    else
      (f_write ((x8 * (4 : Int32)) + (2 : Int32)) x2 s).bind fun q6 =>
      if q6.1 = 0 then
        some ((0 : Int32), q6.2)
      else
        (f_write (((16 : Int32) + (x7 * (4 : Int32))) + (3 : Int32)) x3 q6.2).bind fun q9 =>
        if q9.1 = 0 then
          some ((0 : Int32), q9.2)
        else
          if x8 = x7 then
            f_law_248 n x2 x3 x7 x8 (0 : Int32) q9.2
          else
            f_law_248 n x2 x3 x7 x8 (1 : Int32) q9.2
set_option maxRecDepth 100000 in
theorem e_law_166 {g : GT} {n : Nat} (hw : HW g) {K : St → MHeap} {o : Nat} {r : Nat → Nat} (V : View (GG g) Ln K o r) (k : Nat) : ∀ (x2 : Int32) (x3 : Int32) (x7 : Int32) (x8 : Int32) (x9 : Int32) (s : St) (y0 : Slot) (hy0 : one1 y0 = true) (y1 : Slot) (hy1 : one1 y1 = true) (y5 : Slot) (hy5 : one1 y5 = true) (y6 : Slot) (hy6 : one1 y6 = true) (w : Int32 × St), f_law_166 n k x2 x3 x7 x8 x9 s = some w → Ev (GG g) M_law 166 [y0, y1, .val (.int x2), .val (.int x3), .val (.ref o), y5, y6, .val (.int x7), .val (.int x8), .val (.int x9)] [] (K s) ((some (.int w.1)), (K w.2)) := by
  induction k with
  | zero => intro x2 x3 x7 x8 x9 s y0 hy0 y1 hy1 y5 hy5 y6 hy6 w hr; rw [f_law_166] at hr; cases hr
  | succ k ih =>
    intro x2 x3 x7 x8 x9 s y0 hy0 y1 hy1 y5 hy5 y6 hy6 w hr
    rw [f_law_166] at hr
    refine Ev.iload at_166 rfl ?_
    refine Ev.iconst (z := 4) at_168 rfl ?_
    refine Ev.icge (t := 199) at_169 rfl (fun c1 => ?_) (fun c1 => ?_)
    · replace hr := (if_pos c1).symm.trans hr
      refine Ev.iload at_172 rfl ?_
      refine Ev.iload at_174 rfl ?_
      refine Ev.iceq (t := 193) at_176 rfl (fun c2 => ?_) (fun c2 => ?_)
      · replace hr := (if_pos c2).symm.trans hr
        refine Ev.iinc (z := 1) (L' := [y0, y1, .val (.int x2), .val (.int x3), .val (.ref o), y5, y6, .val (.int x7), .val (.int x8), .val (.int (x9 + (1 : Int32)))]) at_193 rfl rfl rfl ?_
        refine Ev.goto (t := 166) at_196 rfl ?_
        exact ih x2 x3 x7 x8 (x9 + (1 : Int32)) s y0 hy0 y1 hy1 y5 hy5 y6 hy6 _ hr
      · replace hr := (if_neg c2).symm.trans hr
        refine Ev.aload at_179 rfl ?_
        refine Ev.iload at_181 rfl ?_
        refine Ev.iconst (z := 4) at_183 rfl ?_
        refine Ev.imul at_184 ?_
        obtain ⟨q3, hq4, hr⟩ := Option.bind_eq_some_iff.mp hr
        refine Ev.virt (y := M_free) (args := [.int (x9 * (4 : Int32))]) (rest := []) (gok hw) rfl nm_free (ww hw 90 rfl) (ww hw 91 rfl) (ww hw 92 rfl) (ww hw 93 rfl) (ww hw 94 rfl) (lenOf pd_free rfl) at_185 (V.2.1 s) (e_free hw V hq4) (by decide) (Nat.le_of_ble_eq_true rfl) rfl ?_
        refine Ev.ifne (t := 193) at_188 rfl (fun c5 => ?_) (fun c5 => ?_)
        · replace hr := (if_pos c5).symm.trans hr
          refine Ev.iconst (z := 0) at_191 rfl ?_
          cases hr
          exact Ev.zret0 rfl at_192
        · replace hr := (if_neg c5).symm.trans hr
          refine Ev.iinc (z := 1) (L' := [y0, y1, .val (.int x2), .val (.int x3), .val (.ref o), y5, y6, .val (.int x7), .val (.int x8), .val (.int (x9 + (1 : Int32)))]) at_193 rfl rfl rfl ?_
          refine Ev.goto (t := 166) at_196 rfl ?_
          exact ih x2 x3 x7 x8 (x9 + (1 : Int32)) q3.2 y0 hy0 y1 hy1 y5 hy5 y6 hy6 _ hr
    · replace hr := (if_neg c1).symm.trans hr
      refine Ev.aload at_199 rfl ?_
      refine Ev.iload at_201 rfl ?_
      refine Ev.iconst (z := 4) at_203 rfl ?_
      refine Ev.imul at_204 ?_
      refine Ev.iconst (z := 2) at_205 rfl ?_
      refine Ev.iadd at_206 ?_
      refine Ev.iloadN at_207 rfl ?_
      obtain ⟨q6, hq7, hr⟩ := Option.bind_eq_some_iff.mp hr
      refine Ev.virt (y := M_write) (args := [.int ((x8 * (4 : Int32)) + (2 : Int32)), .int x2]) (rest := []) (gok hw) rfl nm_write (ww hw 95 rfl) (ww hw 96 rfl) (ww hw 97 rfl) (ww hw 98 rfl) (ww hw 99 rfl) (lenOf pd_write rfl) at_208 (V.2.1 s) (e_write hw V hq7) (by decide) (Nat.le_of_ble_eq_true rfl) rfl ?_
      refine Ev.ifne (t := 216) at_211 rfl (fun c8 => ?_) (fun c8 => ?_)
      · replace hr := (if_pos c8).symm.trans hr
        refine Ev.iconst (z := 0) at_214 rfl ?_
        cases hr
        exact Ev.zret0 rfl at_215
      · replace hr := (if_neg c8).symm.trans hr
        refine Ev.aload at_216 rfl ?_
        refine Ev.bipush (z := 16) at_218 rfl ?_
        refine Ev.iload at_220 rfl ?_
        refine Ev.iconst (z := 4) at_222 rfl ?_
        refine Ev.imul at_223 ?_
        refine Ev.iadd at_224 ?_
        refine Ev.iconst (z := 3) at_225 rfl ?_
        refine Ev.iadd at_226 ?_
        refine Ev.iloadN at_227 rfl ?_
        obtain ⟨q9, hq10, hr⟩ := Option.bind_eq_some_iff.mp hr
        refine Ev.virt (y := M_write) (args := [.int (((16 : Int32) + (x7 * (4 : Int32))) + (3 : Int32)), .int x3]) (rest := []) (gok hw) rfl nm_write (ww hw 95 rfl) (ww hw 96 rfl) (ww hw 97 rfl) (ww hw 98 rfl) (ww hw 99 rfl) (lenOf pd_write rfl) at_228 (V.2.1 q6.2) (e_write hw V hq10) (by decide) (Nat.le_of_ble_eq_true rfl) rfl ?_
        refine Ev.ifne (t := 236) at_231 rfl (fun c11 => ?_) (fun c11 => ?_)
        · replace hr := (if_pos c11).symm.trans hr
          refine Ev.iconst (z := 0) at_234 rfl ?_
          cases hr
          exact Ev.zret0 rfl at_235
        · replace hr := (if_neg c11).symm.trans hr
          refine Ev.iload at_236 rfl ?_
          refine Ev.iload at_238 rfl ?_
          refine Ev.iceq (t := 247) at_240 rfl (fun c12 => ?_) (fun c12 => ?_)
          · replace hr := (if_pos c12).symm.trans hr
            refine Ev.iconst (z := 0) at_247 rfl ?_
            exact e_law_248 hw V  x2 x3 x7 x8 (0 : Int32) q9.2 y0 hy0 y1 hy1 y5 hy5 y6 hy6 (.val (.int x9)) rfl _ hr
          · replace hr := (if_neg c12).symm.trans hr
            refine Ev.iconst (z := 1) at_243 rfl ?_
            refine Ev.goto (t := 248) at_244 rfl ?_
            exact e_law_248 hw V  x2 x3 x7 x8 (1 : Int32) q9.2 y0 hy0 y1 hy1 y5 hy5 y6 hy6 (.val (.int x9)) rfl _ hr
def f_law_40 (n : Nat) : Nat → Int32 → Int32 → Int32 → Int32 → Int32 → Int32 → St → Option (Int32 × St)
  | 0 => fun _ _ _ _ _ _ _ => none
  | k + 1 => fun x1 x2 x3 x5 x6 x7 s =>
    if x7 < (4 : Int32) then
      (f_alloc n (2 : Int32) s).bind fun q2 =>
      if q2.1 < 0 then
        some ((0 : Int32), q2.2)
      else
        if (15 : Int32) < q2.1 then
          some ((0 : Int32), q2.2)
        else
          if (q2.1 % (4 : Int32)) = 0 then
            bnd (x6 ||| ((1 : Int32) <<< ((q2.1 / (4 : Int32)) &&& 31))) fun v7 =>
            (f_hstep x5).bind fun q8 =>
            f_law_40 n k x1 x2 x3 q8 v7 (x7 + (1 : Int32)) q2.2
          else
            some ((0 : Int32), q2.2)
    else
      if x6 = (15 : Int32) then
        (f_hstep x5).bind fun q11 =>
        bnd (((XT.ushr q11 (16 : Int32)) &&& (32767 : Int32)) % (4 : Int32)) fun v13 =>
        (f_alloc n (2 : Int32) s).bind fun q14 =>
        if q14.1 = ((16 : Int32) + (v13 * (4 : Int32))) then
          (f_rngState q14.2).bind fun q17 =>
          if q17 = q11 then
            f_law_166 n n x2 x3 v13 (x1 &&& (3 : Int32)) (0 : Int32) q14.2
          else
            some ((0 : Int32), q14.2)
        else
          some ((0 : Int32), q14.2)
      else
        some ((0 : Int32), s)
set_option maxRecDepth 100000 in
theorem e_law_40 {g : GT} {n : Nat} (hw : HW g) {K : St → MHeap} {o : Nat} {r : Nat → Nat} (V : View (GG g) Ln K o r) (k : Nat) : ∀ (x1 : Int32) (x2 : Int32) (x3 : Int32) (x5 : Int32) (x6 : Int32) (x7 : Int32) (s : St) (y0 : Slot) (hy0 : one1 y0 = true) (y8 : Slot) (hy8 : one1 y8 = true) (y9 : Slot) (hy9 : one1 y9 = true) (w : Int32 × St), f_law_40 n k x1 x2 x3 x5 x6 x7 s = some w → Ev (GG g) M_law 40 [y0, .val (.int x1), .val (.int x2), .val (.int x3), .val (.ref o), .val (.int x5), .val (.int x6), .val (.int x7), y8, y9] [] (K s) ((some (.int w.1)), (K w.2)) := by
  induction k with
  | zero => intro x1 x2 x3 x5 x6 x7 s y0 hy0 y8 hy8 y9 hy9 w hr; rw [f_law_40] at hr; cases hr
  | succ k ih =>
    intro x1 x2 x3 x5 x6 x7 s y0 hy0 y8 hy8 y9 hy9 w hr
    rw [f_law_40] at hr
    refine Ev.iload at_40 rfl ?_
    refine Ev.iconst (z := 4) at_42 rfl ?_
    refine Ev.icge (t := 99) at_43 rfl (fun c1 => ?_) (fun c1 => ?_)
    · replace hr := (if_pos c1).symm.trans hr
      refine Ev.aload at_46 rfl ?_
      refine Ev.iconst (z := 2) at_48 rfl ?_
      obtain ⟨q2, hq3, hr⟩ := Option.bind_eq_some_iff.mp hr
      refine Ev.virt (y := M_alloc) (args := [.int (2 : Int32)]) (rest := []) (gok hw) rfl nm_alloc (ww hw 30 rfl) (ww hw 31 rfl) (ww hw 32 rfl) (ww hw 33 rfl) (ww hw 34 rfl) (lenOf pd_alloc rfl) at_49 (V.2.1 s) (e_alloc hw V hq3) (by decide) (Nat.le_of_ble_eq_true rfl) rfl ?_
      refine Ev.istD (L' := [y0, .val (.int x1), .val (.int x2), .val (.int x3), .val (.ref o), .val (.int x5), .val (.int x6), .val (.int x7), .val (.int q2.1), y9]) at_52 rfl hy8 rfl ?_
      refine Ev.iload at_54 rfl ?_
      refine Ev.iflt (t := 73) at_56 rfl (fun c4 => ?_) (fun c4 => ?_)
      · replace hr := (if_pos c4).symm.trans hr
        refine Ev.iconst (z := 0) at_73 rfl ?_
        cases hr
        exact Ev.zret0 rfl at_74
      · replace hr := (if_neg c4).symm.trans hr
        refine Ev.iload at_59 rfl ?_
        refine Ev.bipush (z := 15) at_61 rfl ?_
        refine Ev.icgt (t := 73) at_63 rfl (fun c5 => ?_) (fun c5 => ?_)
        · replace hr := (if_pos c5).symm.trans hr
          refine Ev.iconst (z := 0) at_73 rfl ?_
          cases hr
          exact Ev.zret0 rfl at_74
        · replace hr := (if_neg c5).symm.trans hr
          refine Ev.iload at_66 rfl ?_
          refine Ev.iconst (z := 4) at_68 rfl ?_
          refine Ev.irem at_69 (by decide) ?_
          refine Ev.ifeq (t := 75) at_70 rfl (fun c6 => ?_) (fun c6 => ?_)
          · replace hr := (if_pos c6).symm.trans hr
            refine Ev.iload at_75 rfl ?_
            refine Ev.iconst (z := 1) at_77 rfl ?_
            refine Ev.iload at_78 rfl ?_
            refine Ev.iconst (z := 4) at_80 rfl ?_
            refine Ev.idiv at_81 (by decide) ?_
            refine Ev.ishl at_82 ?_
            refine Ev.ior at_83 ?_
            revert hr
            generalize (x6 ||| ((1 : Int32) <<< ((q2.1 / (4 : Int32)) &&& 31))) = v7
            intro hr
            replace hr := (bnd_eq _ _).symm.trans hr
            refine Ev.istD (L' := [y0, .val (.int x1), .val (.int x2), .val (.int x3), .val (.ref o), .val (.int x5), .val (.int v7), .val (.int x7), .val (.int q2.1), y9]) at_84 rfl rfl rfl ?_
            refine Ev.iload at_86 rfl ?_
            obtain ⟨q8, hq9, hr⟩ := Option.bind_eq_some_iff.mp hr
            refine Ev.stat (y := M_hstep) (args := [.int x5]) (rest := []) nm_hstep (ww hw 80 rfl) (ww hw 81 rfl) (ww hw 82 rfl) (ww hw 83 rfl) (lenOf pd_hstep rfl) at_88 (e_hstep hw hq9) (by decide) (Nat.le_of_ble_eq_true rfl) rfl ?_
            refine Ev.istD (L' := [y0, .val (.int x1), .val (.int x2), .val (.int x3), .val (.ref o), .val (.int q8), .val (.int v7), .val (.int x7), .val (.int q2.1), y9]) at_91 rfl rfl rfl ?_
            refine Ev.iinc (z := 1) (L' := [y0, .val (.int x1), .val (.int x2), .val (.int x3), .val (.ref o), .val (.int q8), .val (.int v7), .val (.int (x7 + (1 : Int32))), .val (.int q2.1), y9]) at_93 rfl rfl rfl ?_
            refine Ev.goto (t := 40) at_96 rfl ?_
            exact ih x1 x2 x3 q8 v7 (x7 + (1 : Int32)) q2.2 y0 hy0 (.val (.int q2.1)) rfl y9 hy9 _ hr
          · replace hr := (if_neg c6).symm.trans hr
            refine Ev.iconst (z := 0) at_73 rfl ?_
            cases hr
            exact Ev.zret0 rfl at_74
    · replace hr := (if_neg c1).symm.trans hr
      refine Ev.iload at_99 rfl ?_
      refine Ev.bipush (z := 15) at_101 rfl ?_
      refine Ev.iceq (t := 108) at_103 rfl (fun c10 => ?_) (fun c10 => ?_)
      · replace hr := (if_pos c10).symm.trans hr
        refine Ev.iload at_108 rfl ?_
        obtain ⟨q11, hq12, hr⟩ := Option.bind_eq_some_iff.mp hr
        refine Ev.stat (y := M_hstep) (args := [.int x5]) (rest := []) nm_hstep (ww hw 80 rfl) (ww hw 81 rfl) (ww hw 82 rfl) (ww hw 83 rfl) (lenOf pd_hstep rfl) at_110 (e_hstep hw hq12) (by decide) (Nat.le_of_ble_eq_true rfl) rfl ?_
        refine Ev.istD (L' := [y0, .val (.int x1), .val (.int x2), .val (.int x3), .val (.ref o), .val (.int q11), .val (.int x6), .val (.int x7), y8, y9]) at_113 rfl rfl rfl ?_
        refine Ev.iload at_115 rfl ?_
        refine Ev.bipush (z := 16) at_117 rfl ?_
        refine Ev.iushr at_119 ?_
        refine Ev.sipush (z := 32767) at_120 rfl ?_
        refine Ev.iand at_123 ?_
        refine Ev.iconst (z := 4) at_124 rfl ?_
        refine Ev.irem at_125 (by decide) ?_
        revert hr
        generalize (((XT.ushr q11 (16 : Int32)) &&& (32767 : Int32)) % (4 : Int32)) = v13
        intro hr
        replace hr := (bnd_eq _ _).symm.trans hr
        refine Ev.istD (L' := [y0, .val (.int x1), .val (.int x2), .val (.int x3), .val (.ref o), .val (.int q11), .val (.int x6), .val (.int v13), y8, y9]) at_126 rfl rfl rfl ?_
        refine Ev.iloadN at_128 rfl ?_
        refine Ev.iconst (z := 3) at_129 rfl ?_
        refine Ev.iand at_130 ?_
        refine Ev.istD (L' := [y0, .val (.int x1), .val (.int x2), .val (.int x3), .val (.ref o), .val (.int q11), .val (.int x6), .val (.int v13), .val (.int (x1 &&& (3 : Int32))), y9]) at_131 rfl hy8 rfl ?_
        refine Ev.aload at_133 rfl ?_
        refine Ev.iconst (z := 2) at_135 rfl ?_
        obtain ⟨q14, hq15, hr⟩ := Option.bind_eq_some_iff.mp hr
        refine Ev.virt (y := M_alloc) (args := [.int (2 : Int32)]) (rest := []) (gok hw) rfl nm_alloc (ww hw 30 rfl) (ww hw 31 rfl) (ww hw 32 rfl) (ww hw 33 rfl) (ww hw 34 rfl) (lenOf pd_alloc rfl) at_136 (V.2.1 s) (e_alloc hw V hq15) (by decide) (Nat.le_of_ble_eq_true rfl) rfl ?_
        refine Ev.bipush (z := 16) at_139 rfl ?_
        refine Ev.iload at_141 rfl ?_
        refine Ev.iconst (z := 4) at_143 rfl ?_
        refine Ev.imul at_144 ?_
        refine Ev.iadd at_145 ?_
        refine Ev.iceq (t := 151) at_146 rfl (fun c16 => ?_) (fun c16 => ?_)
        · replace hr := (if_pos c16).symm.trans hr
          refine Ev.aload at_151 rfl ?_
          obtain ⟨q17, hq18, hr⟩ := Option.bind_eq_some_iff.mp hr
          refine Ev.virt (y := M_rngState) (args := []) (rest := []) (gok hw) rfl nm_rngState (ww hw 85 rfl) (ww hw 86 rfl) (ww hw 87 rfl) (ww hw 88 rfl) (ww hw 89 rfl) (lenOf pd_rngState rfl) at_153 (V.2.1 q14.2) (e_rngState hw V hq18) (by decide) (Nat.le_of_ble_eq_true rfl) rfl ?_
          refine Ev.iload at_156 rfl ?_
          refine Ev.iceq (t := 163) at_158 rfl (fun c19 => ?_) (fun c19 => ?_)
          · replace hr := (if_pos c19).symm.trans hr
            refine Ev.iconst (z := 0) at_163 rfl ?_
            refine Ev.istD (L' := [y0, .val (.int x1), .val (.int x2), .val (.int x3), .val (.ref o), .val (.int q11), .val (.int x6), .val (.int v13), .val (.int (x1 &&& (3 : Int32))), .val (.int (0 : Int32))]) at_164 rfl hy9 rfl ?_
            exact e_law_166 hw V  n x2 x3 v13 (x1 &&& (3 : Int32)) (0 : Int32) q14.2 y0 hy0 (.val (.int x1)) rfl (.val (.int q11)) rfl (.val (.int x6)) rfl _ hr
          · replace hr := (if_neg c19).symm.trans hr
            refine Ev.iconst (z := 0) at_161 rfl ?_
            cases hr
            exact Ev.zret0 rfl at_162
        · replace hr := (if_neg c16).symm.trans hr
          refine Ev.iconst (z := 0) at_149 rfl ?_
          cases hr
          exact Ev.zret0 rfl at_150
      · replace hr := (if_neg c10).symm.trans hr
        refine Ev.iconst (z := 0) at_106 rfl ?_
        cases hr
        exact Ev.zret0 rfl at_107
def f_law_32 (n : Nat) (x1 : Int32) (x2 : Int32) (x3 : Int32) (z0 : Int32) (s : St) : Option (Int32 × St) :=
  f_law_40 n n x1 x2 x3 z0 (0 : Int32) (0 : Int32) s
set_option maxRecDepth 100000 in
theorem e_law_32 {g : GT} {n : Nat} (hw : HW g) {K : St → MHeap} {o : Nat} {r : Nat → Nat} (V : View (GG g) Ln K o r) (x1 : Int32) (x2 : Int32) (x3 : Int32) (z0 : Int32) (s : St) (y0 : Slot) (hy0 : one1 y0 = true) (y5 : Slot) (hy5 : one1 y5 = true) (y6 : Slot) (hy6 : one1 y6 = true) (y7 : Slot) (hy7 : one1 y7 = true) (y8 : Slot) (hy8 : one1 y8 = true) (y9 : Slot) (hy9 : one1 y9 = true) (w : Int32 × St) (hr : f_law_32 n x1 x2 x3 z0 s = some w) : Ev (GG g) M_law 32 [y0, .val (.int x1), .val (.int x2), .val (.int x3), .val (.ref o), y5, y6, y7, y8, y9] [.int z0] (K s) ((some (.int w.1)), (K w.2)) := by
  unfold f_law_32 at hr
  refine Ev.istD (L' := [y0, .val (.int x1), .val (.int x2), .val (.int x3), .val (.ref o), .val (.int z0), y6, y7, y8, y9]) at_32 rfl hy5 rfl ?_
  refine Ev.iconst (z := 0) at_34 rfl ?_
  refine Ev.istD (L' := [y0, .val (.int x1), .val (.int x2), .val (.int x3), .val (.ref o), .val (.int z0), .val (.int (0 : Int32)), y7, y8, y9]) at_35 rfl hy6 rfl ?_
  refine Ev.iconst (z := 0) at_37 rfl ?_
  refine Ev.istD (L' := [y0, .val (.int x1), .val (.int x2), .val (.int x3), .val (.ref o), .val (.int z0), .val (.int (0 : Int32)), .val (.int (0 : Int32)), y8, y9]) at_38 rfl hy7 rfl ?_
  exact e_law_40 hw V  n x1 x2 x3 z0 (0 : Int32) (0 : Int32) s y0 hy0 y8 hy8 y9 hy9 _ hr
def f_law_10 (n : Nat) (x0 : Int32) (x1 : Int32) (x2 : Int32) (x3 : Int32) (s : St) : Option (Int32 × St) :=
  if x0 < 0 then
    f_law_32 n x1 x2 x3 (0 : Int32) s
  else
    if (65535 : Int32) < x0 then
      f_law_32 n x1 x2 x3 (65535 : Int32) s
    else
      f_law_32 n x1 x2 x3 x0 s
set_option maxRecDepth 100000 in
theorem e_law_10 {g : GT} {n : Nat} (hw : HW g) {K : St → MHeap} {o : Nat} {r : Nat → Nat} (V : View (GG g) Ln K o r) (x0 : Int32) (x1 : Int32) (x2 : Int32) (x3 : Int32) (s : St) (y4 : Slot) (hy4 : one1 y4 = true) (y5 : Slot) (hy5 : one1 y5 = true) (y6 : Slot) (hy6 : one1 y6 = true) (y7 : Slot) (hy7 : one1 y7 = true) (y8 : Slot) (hy8 : one1 y8 = true) (y9 : Slot) (hy9 : one1 y9 = true) (w : Int32 × St) (hr : f_law_10 n x0 x1 x2 x3 s = some w) : Ev (GG g) M_law 10 [.val (.int x0), .val (.int x1), .val (.int x2), .val (.int x3), y4, y5, y6, y7, y8, y9] [.ref o] (K s) ((some (.int w.1)), (K w.2)) := by
  unfold f_law_10 at hr
  refine Ev.astD (L' := [.val (.int x0), .val (.int x1), .val (.int x2), .val (.int x3), .val (.ref o), y5, y6, y7, y8, y9]) at_10 rfl hy4 rfl ?_
  refine Ev.iloadN at_12 rfl ?_
  refine Ev.ifge (t := 20) at_13 rfl (fun c1 => ?_) (fun c1 => ?_)
  · replace hr := (if_pos c1).symm.trans hr
    refine Ev.iconst (z := 0) at_16 rfl ?_
    refine Ev.goto (t := 32) at_17 rfl ?_
    exact e_law_32 hw V  x1 x2 x3 (0 : Int32) s (.val (.int x0)) rfl y5 hy5 y6 hy6 y7 hy7 y8 hy8 y9 hy9 _ hr
  · replace hr := (if_neg c1).symm.trans hr
    refine Ev.iloadN at_20 rfl ?_
    refine Ev.ldc (ww hw 29 rfl) at_21 ?_
    refine Ev.icle (t := 31) at_23 rfl (fun c2 => ?_) (fun c2 => ?_)
    · replace hr := (if_pos c2).symm.trans hr
      refine Ev.ldc (ww hw 29 rfl) at_26 ?_
      refine Ev.goto (t := 32) at_28 rfl ?_
      exact e_law_32 hw V  x1 x2 x3 (65535 : Int32) s (.val (.int x0)) rfl y5 hy5 y6 hy6 y7 hy7 y8 hy8 y9 hy9 _ hr
    · replace hr := (if_neg c2).symm.trans hr
      refine Ev.iloadN at_31 rfl ?_
      exact e_law_32 hw V  x1 x2 x3 x0 s (.val (.int x0)) rfl y5 hy5 y6 hy6 y7 hy7 y8 hy8 y9 hy9 _ hr
def f_law (n : Nat) (a0 : Int32) (a1 : Int32) (a2 : Int32) (a3 : Int32) : Option (Int32 × St) :=
  (f_ctor n (2 : Int32) (2 : Int32) a0).bind fun q1 =>
  f_law_10 n a0 a1 a2 a3 q1
set_option maxRecDepth 100000 in
theorem e_law {g : GT} {n : Nat} {a0 : Int32} {a1 : Int32} {a2 : Int32} {a3 : Int32} {w : Int32 × St} (hw : HW g) (hk : k0 (GG g) ≤ (H0).length) (hr : f_law n a0 a1 a2 a3 = some w) : EvC (GG g) M_law [.int a0, .int a1, .int a2, .int a3] H0 ((some (.int w.1)), (KL w.2)) := by
  refine EvC.enter (L0 := [.val (.int a0), .val (.int a1), .val (.int a2), .val (.int a3), .unset, .unset, .unset, .unset, .unset, .unset]) pl_law (fun h => nomatch h) rfl rfl ?_
  unfold f_law at hr
  refine Ev.new (gok hw) (ww hw 0 rfl) at_0 (fs := dfl) rfl ?_
  refine Ev.dup at_3 rfl ?_
  refine Ev.iconst (z := 2) at_4 rfl ?_
  refine Ev.iconst (z := 2) at_5 rfl ?_
  refine Ev.iloadN at_6 rfl ?_
  obtain ⟨q1, hq2, hr⟩ := Option.bind_eq_some_iff.mp hr
  refine Ev.ctor (y := M_ctor) (args := [.int (2 : Int32), .int (2 : Int32), .int a0]) (rest := [.ref (H0).length]) rfl rfl nm_ctor (ww hw 3 rfl) (ww hw 4 rfl) (ww hw 5 rfl) (ww hw 2 rfl) (lenOf pd_ctor rfl) at_7 (e_ctor hw hk hq2) (by decide) (Nat.le_of_ble_eq_true rfl) rfl ?_
  exact e_law_10 hw (K := KL) (o := (H0).length) (r := rA (H0).length al) (view_of hk al_ok al_nd)  a0 a1 a2 a3 q1 .unset rfl .unset rfl .unset rfl .unset rfl .unset rfl .unset rfl _ hr
theorem fin_len (w : St) : (KL w).length - H0.length ≤ 24 := by
  have q : al.length = 4 := rfl
  unfold KL; rw [KH_len]; simp only [List.length_nil]; omega
theorem fin_hsl (w : St) : hsl 7 (KL w) - hsl 7 H0 ≤ 704 := by
  have q : (al.map fun q => Ln q.1).sum = 304 := by decide +kernel
  have z : hsl 7 [] = 0 := rfl
  unfold KL; rw [hsl_KH, q, z]; omega
set_option maxRecDepth 100000 in
theorem comes_1 (plain : ∀ i0 i1 i2 i3 : Int32, ∃ n w, f_law n i0 i1 i2 i3 = some (1, w)) {Post : Tables → Env → Array Value → State → Outcome → State → Prop} (hpost : ∀ tb e args s v u, (limb_1_1.after args s (.returned v) u = true ∧ limb_1_2.after args s (.returned v) u = true ∧ True) → FrameEnd s (.returned v) u (Jvm.fieldLocs frame_1_writes args s ++ Jvm.arrayLocs frame_1_arrays args s ++ Jvm.staticLocs frame_1_statics s) 24 704 → Post tb e args s (.returned v) u) :
    ArmFor flags0 classFile x code maxLocals ret World_1 tables_1 room_1 Calls_1 rest_1 Pre_1 Post := by
  intro l hfl _ _ p e ha hc hk s m args below hf hA hF happ hP
  obtain ⟨hcalls, hrest, hpre⟩ := hP
  obtain ⟨-, -, -, hnamed, -, -, -, hat⟩ := (Spec.applies_iff hf).mp happ
  obtain ⟨hg, hn⟩ := and_e (Cond.before_iff.mp (show (Jvm.Cond.and given_1 narrow_1).before args s = true from hpre))
  obtain ⟨g0, hg⟩ := and_e hg
  obtain ⟨g1, hg⟩ := and_e hg
  obtain ⟨g2, hg⟩ := and_e hg
  obtain ⟨g3, hg⟩ := and_e hg
  obtain ⟨w0, w1, w2, w3, rfl⟩ : ∃ w0 w1 w2 w3 : Value, args = #[w0, w1, w2, w3] := by
    have hs : args.size = 4 := by simpa [Cond.value, given_1] using g0
    obtain ⟨L⟩ := args
    match L, hs with
    | [w0, w1, w2, w3], _ => exact ⟨w0, w1, w2, w3, rfl⟩
  have hw := fun d (hd : d ∈ tables_1) => atoms_spec (ws := Jvm.Cond.code x code maxLocals ret :: tables_1) hat d (List.mem_cons_of_mem _ hd)
  obtain ⟨i0, ei0⟩ := is_v g1
  obtain rfl : w0 = (.int i0) := Option.some.inj ei0
  obtain ⟨i1, ei1⟩ := is_v g2
  obtain rfl : w1 = (.int i1) := Option.some.inj ei1
  obtain ⟨i2, ei2⟩ := is_v g3
  obtain rfl : w2 = (.int i2) := Option.some.inj ei2
  obtain ⟨i3, ei3⟩ := is_v hg
  obtain rfl : w3 = (.int i3) := Option.some.inj ei3
  obtain ⟨n, w, hr⟩ := plain i0 i1 i2 i3
  have hE := e_law (g := (s, _, l, none, s.heap.size)) hw (Nat.le_refl _) hr
  obtain ⟨n, o, h1, h2, h3, _, L, rfl, ⟨rfl, N, -⟩, hq⟩ := hE.2 tables_1 room_1 s.heap (by decide) (by decide) (fin_len w) (fin_hsl w) ⟨rfl, Nat.le_refl _, fun a q => (nomatch q), fun i c q => by simp [H0] at q⟩ p e ha hc hk s m _ below hf ((Spec.applies_iff_loose hf).mp happ).1 ⟨rfl, State.Warmed39.refl s, rfl⟩ trivial
  exact ⟨n, _, h1, h2, h3, hpost _ _ _ _ _ _ ⟨Cond.after_iff.mpr rfl, Cond.after_iff.mpr (eq_i res_at (Term.int_eval (1)) rfl), trivial⟩ ⟨hq.1, hq.2.1, (hq.2.2.sift fun y hy => Or.inr (N y hy)).mono (fin_len w) (fin_hsl w)⟩⟩
theorem u_ctor_76 (n : Nat) (k : Nat) (x4 : Int32) (s : St) : f_ctor_76 n (k + 1) x4 s =
    (if x4 < (16 : Int32) then
      grd (inb x4 16) <|
      bnd (setA s 0 (ix x4) (-1 : Int32)) fun s3 =>
      bnd (setA s3 1 (ix x4) (-1 : Int32)) fun s4 =>
      bnd (setA s4 2 (ix x4) (0 : Int32)) fun s5 =>
      f_ctor_76 n k (x4 + (1 : Int32)) s5
    else
      some s) := rfl
theorem u_pagesInUse_4 (n : Nat) (s : St) (k : Nat) (x1 : Int32) (x2 : Int32) : f_pagesInUse_4 n s (k + 1) x1 x2 =
    (if x2 < (s.1 4) then
      grd (inb x2 16) <|
      if (s.2 0 (ix x2)) = (-1 : Int32) then
        f_pagesInUse_4 n s k x1 (x2 + (1 : Int32))
      else
        f_pagesInUse_4 n s k (x1 + (1 : Int32)) (x2 + (1 : Int32))
    else
      some x1) := rfl
theorem u_law_40 (n : Nat) (k : Nat) (x1 : Int32) (x2 : Int32) (x3 : Int32) (x5 : Int32) (x6 : Int32) (x7 : Int32) (s : St) : f_law_40 n (k + 1) x1 x2 x3 x5 x6 x7 s =
    (if x7 < (4 : Int32) then
      (f_alloc n (2 : Int32) s).bind fun q2 =>
      if q2.1 < 0 then
        some ((0 : Int32), q2.2)
      else
        if (15 : Int32) < q2.1 then
          some ((0 : Int32), q2.2)
        else
          if (q2.1 % (4 : Int32)) = 0 then
            bnd (x6 ||| ((1 : Int32) <<< ((q2.1 / (4 : Int32)) &&& 31))) fun v7 =>
            (f_hstep x5).bind fun q8 =>
            f_law_40 n k x1 x2 x3 q8 v7 (x7 + (1 : Int32)) q2.2
          else
            some ((0 : Int32), q2.2)
    else
      if x6 = (15 : Int32) then
        (f_hstep x5).bind fun q11 =>
        bnd (((XT.ushr q11 (16 : Int32)) &&& (32767 : Int32)) % (4 : Int32)) fun v13 =>
        (f_alloc n (2 : Int32) s).bind fun q14 =>
        if q14.1 = ((16 : Int32) + (v13 * (4 : Int32))) then
          (f_rngState q14.2).bind fun q17 =>
          if q17 = q11 then
            f_law_166 n n x2 x3 v13 (x1 &&& (3 : Int32)) (0 : Int32) q14.2
          else
            some ((0 : Int32), q14.2)
        else
          some ((0 : Int32), q14.2)
      else
        some ((0 : Int32), s)) := rfl
/-! ### the plain law -/
theorem own_clamp (s : St) (a lo hi : Int32) : f_clamp s a lo hi = some (own_cl a lo hi) := by
  unfold f_clamp own_cl
  split
  · rfl
  · split <;> rfl
theorem own_fill (n : Nat) : ∀ (m k : Nat) (s : St), m ≤ 16 → m < k → f_ctor_76 n k (Int32.ofNat (16 - m)) s = some (s.1, fun j x => if (j = 0 ∨ j = 1) ∧ 16 - m ≤ x ∧ x < 16 then -1 else if j = 2 ∧ 16 - m ≤ x ∧ x < 16 then 0 else s.2 j x) := by
  intro m
  induction m with
  | zero =>
    intro k s _ hk
    obtain ⟨k, rfl⟩ : ∃ k', k = k' + 1 := ⟨k - 1, by omega⟩
    rw [u_ctor_76]
    have h : ¬ (Int32.ofNat (16 - 0) < (16 : Int32)) := by decide
    rw [if_neg h]
    congr 1
    refine Prod.ext rfl ?_
    funext j x
    have q1 : ¬ ((j = 0 ∨ j = 1) ∧ 16 - 0 ≤ x ∧ x < 16) := by omega
    have q2 : ¬ (j = 2 ∧ 16 - 0 ≤ x ∧ x < 16) := by omega
    simp only [q1, q2, if_false]
  | succ m ih =>
    intro k s hm hk
    obtain ⟨k, rfl⟩ : ∃ k', k = k' + 1 := ⟨k - 1, by omega⟩
    rw [u_ctor_76]
    have h : Int32.ofNat (16 - (m + 1)) < (16 : Int32) := (N_lt (j := 16) (by omega) (by omega)).mpr (by omega)
    have hb : inb (Int32.ofNat (16 - (m + 1))) 16 := (inb_N (by omega)).mpr (by omega)
    have e : Int32.ofNat (16 - (m + 1)) + (1 : Int32) = Int32.ofNat (16 - m) := by rw [N_succ]; congr 1; omega
    rw [if_pos h, grd_pos hb, bnd_eq, bnd_eq, bnd_eq, e, ih _ _ (by omega) (by omega), ix_N (by omega)]
    congr 1
    refine Prod.ext rfl ?_
    funext j x
    simp only [setA_2]
    by_cases q : x = 16 - (m + 1)
    · have a1 : ¬ 16 - m ≤ x := by omega
      have a2 : 16 - (m + 1) ≤ x := by omega
      have a3 : x < 16 := by omega
      by_cases q0 : j = 0
      · simp [q, q0] ; omega
      · by_cases q1 : j = 1
        · simp [q, q1]; omega
        · by_cases q2 : j = 2
          · simp [q, q2]; omega
          · simp [q0, q1, q2]
    · have : (16 - m ≤ x ↔ 16 - (m + 1) ≤ x) := by omega
      simp only [q, this, and_false, if_false]
/-- a fresh allocator: its pages, frames and seed within their bounds, no page in use -/
theorem own_ctor (n : Nat) (a b c : Int32) (hn : 17 ≤ n) : ∃ s, f_ctor n a b c = some s ∧ s.1 4 = own_cl a 2 16 ∧ s.1 5 = own_cl b 1 16 ∧ s.1 6 = own_cl c 0 65535 ∧ ∀ i, i < 16 → s.2 0 i = -1 := by
  unfold f_ctor f_ctor_37
  simp only [own_clamp, Option.bind_some, bnd_eq]
  rw [show (0 : Int32) = Int32.ofNat (16 - 16) from rfl, own_fill n 16 n _ (Nat.le_refl _) (by omega)]
  refine ⟨_, rfl, rfl, rfl, rfl, fun i hi => ?_⟩
  simp [hi]
theorem own_pages (s : St) (a : Int32) (h : s.1 4 = own_cl a 2 16) : ∃ N : Nat, s.1 4 = Int32.ofNat N ∧ 2 ≤ N ∧ N ≤ 16 := by
  have q := own_cl_rng (a := a) (lo := 2) (hi := 16) (by decide)
  have e2 : (2 : Int32).toInt = 2 := rfl
  have e16 : (16 : Int32).toInt = 16 := rfl
  refine ⟨(s.1 4).toInt.toNat, ?_, ?_, ?_⟩
  · rw [← Int32.toInt_inj, N_toInt (by rw [h]; omega), h]; omega
  · rw [h]; omega
  · rw [h]; omega
theorem div16 {a : Int32} {N : Nat} (hN : N ≤ 16) (h0 : ¬ a < 0) (h1 : a < Int32.ofNat N * 16) : ix (a / 16) < N ∧ ¬ (a / 16) < 0 ∧ (a / 16).toInt = a.toInt / 16 := by
  have e16 : (16 : Int32).toInt = 16 := rfl
  have e0 : (0 : Int32).toInt = 0 := rfl
  rw [lt_I] at h0 h1
  have em : (Int32.ofNat N * 16).toInt = N * 16 := by
    rw [mul_I] <;> rw [N_toInt (by omega), e16] <;> omega
  rw [em] at h1
  have ed : (a / 16).toInt = a.toInt / 16 := by
    rw [Int32.toInt_div, e16, Int.tdiv_eq_ediv_of_nonneg (by omega)]
    exact bmod_eq (by omega) (by omega)
  have hq : ¬ (a / 16) < 0 := by rw [lt_I, ed]; omega
  refine ⟨?_, hq, ed⟩
  have := ix_toInt hq
  omega
theorem own_page (a : Int32) (s : St) (hN : ∃ N : Nat, s.1 4 = Int32.ofNat N ∧ 2 ≤ N ∧ N ≤ 16) (h0 : ¬ a < 0) (h1 : a < s.1 4 * 16) : inb (a / 16) 16 ∧ ix (a / 16) < 16 := by
  obtain ⟨N, e, l1, l2⟩ := hN
  rw [e] at h1
  obtain ⟨q1, q2, -⟩ := div16 l2 h0 h1
  exact ⟨⟨q2, by omega⟩, by omega⟩
theorem own_liveIndex (s : St) (a : Int32) (hN : ∃ N : Nat, s.1 4 = Int32.ofNat N ∧ 2 ≤ N ∧ N ≤ 16) (h4 : ∀ i, i < 16 → s.2 0 i = -1) : f_liveIndex s a = some (-1) := by
  unfold f_liveIndex
  by_cases q : a < 0
  · simp [q]
  · by_cases q2 : a < s.1 4 * 16
    · obtain ⟨hb, hlt⟩ := own_page a s hN q q2
      simp [q, q2, grd_pos hb, h4 _ hlt]
    · simp [q, q2]
theorem own_noPages (s : St) (N n : Nat) (k : Nat) (e : s.1 4 = Int32.ofNat N) (hN : N ≤ 16) (hk : N < k) (h4 : ∀ i, i < 16 → s.2 0 i = -1) : f_pagesInUse_4 n s k 0 0 = some 0 := by
  have : ∀ (m k : Nat), m ≤ N → m < k → f_pagesInUse_4 n s k 0 (Int32.ofNat (N - m)) = some 0 := by
    intro m
    induction m with
    | zero =>
      intro k _ hk
      obtain ⟨k, rfl⟩ : ∃ k', k = k' + 1 := ⟨k - 1, by omega⟩
      rw [u_pagesInUse_4, e, if_neg (fun q => by rw [N_lt (by omega) (by omega)] at q; omega)]
    | succ m ih =>
      intro k hm hk
      obtain ⟨k, rfl⟩ : ∃ k', k = k' + 1 := ⟨k - 1, by omega⟩
      rw [u_pagesInUse_4, e, if_pos ((N_lt (by omega) (by omega)).mpr (by omega)), grd_pos ((inb_N (by omega)).mpr (by omega)), ix_N (by omega), h4 _ (by omega), if_pos rfl, N_succ, show N - (m + 1) + 1 = N - m by omega]
      exact ih k (by omega) (by omega)
  have := this N k (Nat.le_refl _) hk
  rwa [Nat.sub_self] at this

theorem own_ushr (x y : Int32) : XT.ushr x y = (x.toUInt32 >>> (y &&& 31).toUInt32).toInt32 := rfl
def own_us (x y : Int32) : Int32 := if x < 0 then XT.ushr x y else x >>> (y &&& 31)
theorem own_usE : XT.ushr = own_us := by
  funext x y
  unfold own_us
  by_cases h : x < 0
  · rw [if_pos h]
  · rw [if_neg h, own_ushr]
    obtain ⟨K, hK, -, h31⟩ : ∃ K : Nat, y &&& 31 = Int32.ofNat K ∧ 0 ≤ K ∧ K ≤ 31 := by
      have := and_rng y (m := 31) (by omega)
      rw [show Int32.ofNat 31 = (31 : Int32) from rfl] at this
      exact own_nat (by omega) (by omega)
    have t1 : ∀ K, K < 32 → (Int32.ofNat K).toUInt32.toBitVec % 32#32 = BitVec.ofNat 32 K := by decide +kernel
    have t2 : ∀ K, K < 32 → (Int32.ofNat K).toBitVec.smod 32#32 = BitVec.ofNat 32 K := by decide +kernel
    rw [hK]
    apply Int32.toBitVec_inj.mp
    show (x.toUInt32 >>> (Int32.ofNat K).toUInt32).toBitVec = _
    rw [UInt32.toBitVec_shiftRight, Int32.toBitVec_shiftRight]
    show x.toBitVec >>> ((Int32.ofNat K).toUInt32.toBitVec % 32#32) = x.toBitVec.sshiftRight' ((Int32.ofNat K).toBitVec.smod 32#32)
    rw [t1 K (by omega), t2 K (by omega)]
    show x.toBitVec >>> (BitVec.ofNat 32 K).toNat = x.toBitVec.sshiftRight (BitVec.ofNat 32 K).toNat
    rw [BitVec.toNat_ofNat, Nat.mod_eq_of_lt (by omega)]
    rw [BitVec.sshiftRight_eq_of_msb_false]
    rw [Int32.lt_iff_toInt_lt] at h
    have e0 : (0 : Int32).toInt = 0 := rfl
    rw [BitVec.msb_eq_toInt]
    have : x.toBitVec.toInt = x.toInt := rfl
    simp; omega
def g_countClear_5 (n : Nat) (s : St) : Nat → Int32 → Int32 → Int32 → Int32 → Option (Int32)
  | 0 => fun _ _ _ _ => none
  | k + 1 => fun x1 x2 x3 x4 =>
    if x4 < x2 then
      if ((own_us x1 x4) &&& (1 : Int32)) = 0 then
        g_countClear_5 n s k x1 x2 (x3 + (1 : Int32)) (x4 + (1 : Int32))
      else
        g_countClear_5 n s k x1 x2 x3 (x4 + (1 : Int32))
    else
      some x3
theorem g_countClear_5E : f_countClear_5 = g_countClear_5 := by
  funext n s
  funext k
  induction k with
  | zero => rfl
  | succ k ih => simp only [f_countClear_5, g_countClear_5, own_usE, ih]
def g_countClear (n : Nat) (s : St) (a0 : Int32) (a1 : Int32) : Option (Int32) :=
  g_countClear_5 n s n a0 a1 (0 : Int32) (0 : Int32)
theorem g_countClearE : f_countClear = g_countClear := by
  funext n s a0 a1
  simp only [f_countClear, g_countClear, g_countClear_5E]
def g_findEligible_8 (n : Nat) (s : St) : Nat → Int32 → Int32 → Int32 → Option (Int32)
  | 0 => fun _ _ _ => none
  | k + 1 => fun x1 x2 x3 =>
    if x3 < (s.1 4) then
      grd (inb x3 16) <|
      if (s.2 0 (ix x3)) = x1 then
        (f_unionOf n s (s.2 1 (ix x3))).bind fun q4 =>
        (g_countClear n s q4 x2).bind fun q6 =>
        if 0 < q6 then
          some x3
        else
          g_findEligible_8 n s k x1 x2 (x3 + (1 : Int32))
      else
        g_findEligible_8 n s k x1 x2 (x3 + (1 : Int32))
    else
      some (-1 : Int32)
theorem g_findEligible_8E : f_findEligible_8 = g_findEligible_8 := by
  funext n s
  funext k
  induction k with
  | zero => rfl
  | succ k ih => simp only [f_findEligible_8, g_findEligible_8, g_countClearE, ih]
def g_findEligible (n : Nat) (s : St) (a0 : Int32) : Option (Int32) :=
  (f_slotsOf s a0).bind fun q1 =>
  g_findEligible_8 n s n a0 q1 (0 : Int32)
theorem g_findEligibleE : f_findEligible = g_findEligible := by
  funext n s a0
  simp only [f_findEligible, g_findEligible, g_findEligible_8E]
def g_step (s : St) : Option (Int32 × St) :=
  bnd (setI s 6 (((s.1 6) * (1103515245 : Int32)) + (12345 : Int32))) fun s1 =>
  some (((own_us (s1.1 6) (16 : Int32)) &&& (32767 : Int32)), s1)
theorem g_stepE : f_step = g_step := by
  funext s
  simp only [f_step, g_step, own_usE]
def g_nthClear_6 (n : Nat) (s : St) : Nat → Int32 → Int32 → Int32 → Int32 → Option (Int32)
  | 0 => fun _ _ _ _ => none
  | k + 1 => fun x1 x2 x4 x5 =>
    if x5 < x2 then
      if ((own_us x1 x5) &&& (1 : Int32)) = 0 then
        if x4 = 0 then
          some x5
        else
          g_nthClear_6 n s k x1 x2 (x4 + (-1 : Int32)) (x5 + (1 : Int32))
      else
        g_nthClear_6 n s k x1 x2 x4 (x5 + (1 : Int32))
    else
      some (0 : Int32)
theorem g_nthClear_6E : f_nthClear_6 = g_nthClear_6 := by
  funext n s
  funext k
  induction k with
  | zero => rfl
  | succ k ih => simp only [f_nthClear_6, g_nthClear_6, own_usE, ih]
def g_nthClear (n : Nat) (s : St) (a0 : Int32) (a1 : Int32) (a2 : Int32) : Option (Int32) :=
  g_nthClear_6 n s n a0 a1 a2 (0 : Int32)
theorem g_nthClearE : f_nthClear = g_nthClear := by
  funext n s a0 a1 a2
  simp only [f_nthClear, g_nthClear, g_nthClear_6E]
def g_placeObject_47 (n : Nat) (x1 : Int32) (x3 : Int32) (x4 : Int32) (x5 : Int32) (x6 : Int32) (x7 : Int32) (s : St) : Option (Int32 × St) :=
  (g_step s).bind fun q1 =>
  grd (x7 ≠ 0) <|
  (g_nthClear n q1.2 x6 x3 (q1.1 % x7)).bind fun q4 =>
  grd (inb x1 16) <|
  bnd (setA q1.2 2 (ix x1) ((q1.2.2 2 (ix x1)) ||| ((1 : Int32) <<< (q4 &&& 31)))) fun s7 =>
  bnd ((x5 * (16 : Int32)) + (q4 * x4)) fun v8 =>
  f_placeObject_96 n n x1 x4 q4 v8 (0 : Int32) s7
theorem g_placeObject_47E : f_placeObject_47 = g_placeObject_47 := by
  funext n x1 x3 x4 x5 x6 x7 s
  simp only [f_placeObject_47, g_placeObject_47, g_stepE, g_nthClearE]
def g_placeObject (n : Nat) (a0 : Int32) (a1 : Int32) (s : St) : Option (Int32 × St) :=
  (f_slotsOf s a1).bind fun q1 =>
  (f_sizeOf s a1).bind fun q3 =>
  grd (inb a0 16) <|
  (f_unionOf n s (s.2 1 (ix a0))).bind fun q6 =>
  (g_countClear n s q6 q1).bind fun q8 =>
  if q8 < (1 : Int32) then
    g_placeObject_47 n a0 q1 q3 (s.2 1 (ix a0)) q6 (1 : Int32) s
  else
    g_placeObject_47 n a0 q1 q3 (s.2 1 (ix a0)) q6 q8 s
theorem g_placeObjectE : f_placeObject = g_placeObject := by
  funext n a0 a1 s
  simp only [f_placeObject, g_placeObject, g_countClearE, g_placeObject_47E]
def g_alloc_66 (n : Nat) (x1 : Int32) (x2 : Int32) (s : St) : Option (Int32 × St) :=
  (g_placeObject n x2 x1 s).bind fun q1 =>
  some (q1.1, q1.2)
theorem g_alloc_66E : f_alloc_66 = g_alloc_66 := by
  funext n x1 x2 s
  simp only [f_alloc_66, g_alloc_66, g_placeObjectE]
def g_alloc (n : Nat) (a0 : Int32) (s : St) : Option (Int32 × St) :=
  if a0 < 0 then
    some ((-1 : Int32), s)
  else
    if (2 : Int32) < a0 then
      some ((-1 : Int32), s)
    else
      (g_findEligible n s a0).bind fun q3 =>
      if q3 < 0 then
        (f_lowestUnusedPage n s).bind fun q6 =>
        if q6 < 0 then
          some ((-2 : Int32), s)
        else
          (f_lowestFreeFrame n s).bind fun q9 =>
          if q9 < 0 then
            some ((-3 : Int32), s)
          else
            grd (inb q6 16) <|
            bnd (setA s 0 (ix q6) a0) fun s13 =>
            bnd (setA s13 1 (ix q6) q9) fun s14 =>
            bnd (setA s14 2 (ix q6) (0 : Int32)) fun s15 =>
            g_alloc_66 n a0 q6 s15
      else
        g_alloc_66 n a0 q3 s
theorem g_allocE : f_alloc = g_alloc := by
  funext n a0 s
  simp only [f_alloc, g_alloc, g_findEligibleE, g_alloc_66E]
def g_free (a0 : Int32) (s : St) : Option (Int32 × St) :=
  if a0 < 0 then
    some ((0 : Int32), s)
  else
    if a0 < ((s.1 4) * (16 : Int32)) then
      grd (inb (a0 / (16 : Int32)) 16) <|
      if (s.2 0 (ix (a0 / (16 : Int32)))) = (-1 : Int32) then
        some ((0 : Int32), s)
      else
        (f_sizeOf s (s.2 0 (ix (a0 / (16 : Int32))))).bind fun q5 =>
        grd (q5 ≠ 0) <|
        if ((a0 % (16 : Int32)) % q5) = 0 then
          grd (q5 ≠ 0) <|
          if ((own_us (s.2 2 (ix (a0 / (16 : Int32)))) ((a0 % (16 : Int32)) / q5)) &&& (1 : Int32)) = 0 then
            some ((0 : Int32), s)
          else
            bnd (setA s 2 (ix (a0 / (16 : Int32))) ((s.2 2 (ix (a0 / (16 : Int32)))) &&& (((1 : Int32) <<< (((a0 % (16 : Int32)) / q5) &&& 31)) ^^^ (-1 : Int32)))) fun s11 =>
            if (s11.2 2 (ix (a0 / (16 : Int32)))) = 0 then
              bnd (setA s11 0 (ix (a0 / (16 : Int32))) (-1 : Int32)) fun s13 =>
              bnd (setA s13 1 (ix (a0 / (16 : Int32))) (-1 : Int32)) fun s14 =>
              some ((1 : Int32), s14)
            else
              some ((1 : Int32), s11)
        else
          some ((0 : Int32), s)
    else
      some ((0 : Int32), s)
theorem g_freeE : f_free = g_free := by
  funext a0 s
  simp only [f_free, g_free, own_usE]
def g_liveIndex (s : St) (a0 : Int32) : Option (Int32) :=
  if a0 < 0 then
    some (-1 : Int32)
  else
    if a0 < ((s.1 4) * (16 : Int32)) then
      grd (inb (a0 / (16 : Int32)) 16) <|
      if (s.2 0 (ix (a0 / (16 : Int32)))) = (-1 : Int32) then
        some (-1 : Int32)
      else
        (f_sizeOf s (s.2 0 (ix (a0 / (16 : Int32))))).bind fun q5 =>
        grd (q5 ≠ 0) <|
        if ((own_us (s.2 2 (ix (a0 / (16 : Int32)))) ((a0 % (16 : Int32)) / q5)) &&& (1 : Int32)) = 0 then
          some (-1 : Int32)
        else
          if (s.2 1 (ix (a0 / (16 : Int32)))) < 0 then
            some (-1 : Int32)
          else
            if (s.2 1 (ix (a0 / (16 : Int32)))) < (s.1 5) then
              some (((s.2 1 (ix (a0 / (16 : Int32)))) * (16 : Int32)) + (a0 % (16 : Int32)))
            else
              some (-1 : Int32)
    else
      some (-1 : Int32)
theorem g_liveIndexE : f_liveIndex = g_liveIndex := by
  funext s a0
  simp only [f_liveIndex, g_liveIndex, own_usE]
def g_write (a0 : Int32) (a1 : Int32) (s : St) : Option (Int32 × St) :=
  (g_liveIndex s a0).bind fun q1 =>
  if q1 < 0 then
    some ((0 : Int32), s)
  else
    grd (inb q1 256) <|
    bnd (setA s 3 (ix q1) a1) fun s5 =>
    some ((1 : Int32), s5)
theorem g_writeE : f_write = g_write := by
  funext a0 a1 s
  simp only [f_write, g_write, g_liveIndexE]
def g_mergeFrames_17 (n : Nat) : Nat → Int32 → Int32 → Int32 → Int32 → Int32 → Int32 → St → Option (St)
  | 0 => fun _ _ _ _ _ _ _ => none
  | k + 1 => fun x1 x2 x4 x5 x6 x7 s =>
    if x7 < x5 then
      if ((own_us x4 x7) &&& (1 : Int32)) = 0 then
        g_mergeFrames_17 n k x1 x2 x4 x5 x6 (x7 + (1 : Int32)) s
      else
        f_mergeFrames_37 n (g_mergeFrames_17 n k) n x1 x2 x4 x5 x6 x7 (0 : Int32) s
    else
      f_mergeFrames_93 n n x1 x2 (0 : Int32) s
theorem g_mergeFrames_17E : f_mergeFrames_17 = g_mergeFrames_17 := by
  funext n
  funext k
  induction k with
  | zero => rfl
  | succ k ih => simp only [f_mergeFrames_17, g_mergeFrames_17, own_usE, ih]
def g_mergeFrames (n : Nat) (a0 : Int32) (a1 : Int32) (a2 : Int32) (a3 : Int32) (s : St) : Option (St) :=
  (f_slotsOf s a2).bind fun q1 =>
  (f_sizeOf s a2).bind fun q3 =>
  g_mergeFrames_17 n n a0 a1 a3 q1 q3 (0 : Int32) s
theorem g_mergeFramesE : f_mergeFrames = g_mergeFrames := by
  funext n a0 a1 a2 a3 s
  simp only [f_mergeFrames, g_mergeFrames, g_mergeFrames_17E]
def g_meshInto_7 (n : Nat) : Nat → Int32 → Int32 → Int32 → Int32 → St → Option (Int32 × St)
  | 0 => fun _ _ _ _ _ => none
  | k + 1 => fun x1 x2 x3 x4 s =>
    if x4 < (s.1 5) then
      (f_frameClass n s x4).bind fun q2 =>
      if q2 = x2 then
        (f_unionOf n s x1).bind fun q5 =>
        (f_unionOf n s x4).bind fun q7 =>
        if (q5 &&& q7) = 0 then
          (g_mergeFrames n x1 x4 x2 q7 s).bind fun q10 =>
          g_meshInto_7 n k x1 x2 (x3 + (1 : Int32)) (x4 + (1 : Int32)) q10
        else
          g_meshInto_7 n k x1 x2 x3 (x4 + (1 : Int32)) s
      else
        g_meshInto_7 n k x1 x2 x3 (x4 + (1 : Int32)) s
    else
      some (x3, s)
theorem g_meshInto_7E : f_meshInto_7 = g_meshInto_7 := by
  funext n
  funext k
  induction k with
  | zero => rfl
  | succ k ih => simp only [f_meshInto_7, g_meshInto_7, g_mergeFramesE, ih]
def g_meshInto (n : Nat) (a0 : Int32) (a1 : Int32) (s : St) : Option (Int32 × St) :=
  g_meshInto_7 n n a0 a1 (0 : Int32) (a0 + (1 : Int32)) s
theorem g_meshIntoE : f_meshInto = g_meshInto := by
  funext n a0 a1 s
  simp only [f_meshInto, g_meshInto, g_meshInto_7E]
def g_mesh_11 (n : Nat) (k4 : Int32 → Int32 → St → Option (Int32 × St)) : Nat → Int32 → Int32 → Int32 → St → Option (Int32 × St)
  | 0 => fun _ _ _ _ => none
  | k + 1 => fun x1 x2 x3 s =>
    if x3 < (s.1 5) then
      (f_frameClass n s x3).bind fun q2 =>
      if q2 = x2 then
        (g_meshInto n x3 x2 s).bind fun q5 =>
        g_mesh_11 n k4 k (x1 + q5.1) x2 (x3 + (1 : Int32)) q5.2
      else
        g_mesh_11 n k4 k x1 x2 (x3 + (1 : Int32)) s
    else
      k4 x1 (x2 + (1 : Int32)) s
theorem g_mesh_11E : f_mesh_11 = g_mesh_11 := by
  funext n k4
  funext k
  induction k with
  | zero => rfl
  | succ k ih => simp only [f_mesh_11, g_mesh_11, g_meshIntoE, ih]
def g_mesh_4 (n : Nat) : Nat → Int32 → Int32 → St → Option (Int32 × St)
  | 0 => fun _ _ _ => none
  | k + 1 => fun x1 x2 s =>
    if (2 : Int32) < x2 then
      some (x1, s)
    else
      g_mesh_11 n (g_mesh_4 n k) n x1 x2 (0 : Int32) s
theorem g_mesh_4E : f_mesh_4 = g_mesh_4 := by
  funext n
  funext k
  induction k with
  | zero => rfl
  | succ k ih => simp only [f_mesh_4, g_mesh_4, g_mesh_11E, ih]
def g_mesh (n : Nat) (s : St) : Option (Int32 × St) :=
  g_mesh_4 n n (0 : Int32) (0 : Int32) s
theorem g_meshE : f_mesh = g_mesh := by
  funext n s
  simp only [f_mesh, g_mesh, g_mesh_4E]
def g_read (s : St) (a0 : Int32) : Option (Int32) :=
  (g_liveIndex s a0).bind fun q1 =>
  if q1 < 0 then
    some (0 : Int32)
  else
    grd (inb q1 256) <|
    some (s.2 3 (ix q1))
theorem g_readE : f_read = g_read := by
  funext s a0
  simp only [f_read, g_read, g_liveIndexE]
def g_popCount_4 (n : Nat) (s : St) : Nat → Int32 → Int32 → Int32 → Option (Int32)
  | 0 => fun _ _ _ => none
  | k + 1 => fun x1 x2 x3 =>
    if x3 < (32 : Int32) then
      if ((own_us x1 x3) &&& (1 : Int32)) = 0 then
        g_popCount_4 n s k x1 x2 (x3 + (1 : Int32))
      else
        g_popCount_4 n s k x1 (x2 + (1 : Int32)) (x3 + (1 : Int32))
    else
      some x2
theorem g_popCount_4E : f_popCount_4 = g_popCount_4 := by
  funext n s
  funext k
  induction k with
  | zero => rfl
  | succ k ih => simp only [f_popCount_4, g_popCount_4, own_usE, ih]
def g_popCount (n : Nat) (s : St) (a0 : Int32) : Option (Int32) :=
  g_popCount_4 n s n a0 (0 : Int32) (0 : Int32)
theorem g_popCountE : f_popCount = g_popCount := by
  funext n s a0
  simp only [f_popCount, g_popCount, g_popCount_4E]
def g_liveObjects_4 (n : Nat) (s : St) : Nat → Int32 → Int32 → Option (Int32)
  | 0 => fun _ _ => none
  | k + 1 => fun x1 x2 =>
    if x2 < (s.1 4) then
      grd (inb x2 16) <|
      if (s.2 0 (ix x2)) = (-1 : Int32) then
        g_liveObjects_4 n s k x1 (x2 + (1 : Int32))
      else
        (g_popCount n s (s.2 2 (ix x2))).bind fun q4 =>
        g_liveObjects_4 n s k (x1 + q4) (x2 + (1 : Int32))
    else
      some x1
theorem g_liveObjects_4E : f_liveObjects_4 = g_liveObjects_4 := by
  funext n s
  funext k
  induction k with
  | zero => rfl
  | succ k ih => simp only [f_liveObjects_4, g_liveObjects_4, g_popCountE, ih]
def g_liveObjects (n : Nat) (s : St) : Option (Int32) :=
  g_liveObjects_4 n s n (0 : Int32) (0 : Int32)
theorem g_liveObjectsE : f_liveObjects = g_liveObjects := by
  funext n s
  simp only [f_liveObjects, g_liveObjects, g_liveObjects_4E]
def g_law_347 (n : Nat) (x2 : Int32) (x3 : Int32) (x7 : Int32) (x8 : Int32) (z0 : Int32) (z1 : Int32) (s : St) : Option (Int32 × St) :=
  if z1 = z0 then
    (f_pageBits s (0 : Int32)).bind fun q2 =>
    if q2 = ((1 : Int32) <<< (x8 &&& 31)) then
      (f_pageBits s (1 : Int32)).bind fun q5 =>
      if q5 = ((1 : Int32) <<< (x7 &&& 31)) then
        (g_read s ((x8 * (4 : Int32)) + (2 : Int32))).bind fun q8 =>
        if q8 = x2 then
          (g_read s (((16 : Int32) + (x7 * (4 : Int32))) + (3 : Int32))).bind fun q11 =>
          if q11 = x3 then
            (g_liveObjects n s).bind fun q14 =>
            if q14 = (2 : Int32) then
              (f_pagesInUse n s).bind fun q17 =>
              if q17 = (2 : Int32) then
                some ((1 : Int32), s)
              else
                some ((0 : Int32), s)
            else
              some ((0 : Int32), s)
          else
            some ((0 : Int32), s)
        else
          some ((0 : Int32), s)
      else
        some ((0 : Int32), s)
    else
      some ((0 : Int32), s)
  else
    some ((0 : Int32), s)
theorem g_law_347E : f_law_347 = g_law_347 := by
  funext n x2 x3 x7 x8 z0 z1 s
  simp only [f_law_347, g_law_347, g_readE, g_liveObjectsE]
def g_law_315 (n : Nat) (x2 : Int32) (x3 : Int32) (x7 : Int32) (x8 : Int32) (x9 : Int32) (z0 : Int32) (z1 : Int32) (s : St) : Option (Int32 × St) :=
  if z1 = z0 then
    (f_frameBits n s (0 : Int32)).bind fun q2 =>
    if x9 = 0 then
      g_law_347 n x2 x3 x7 x8 ((1 : Int32) <<< (x8 &&& 31)) q2 s
    else
      g_law_347 n x2 x3 x7 x8 (((1 : Int32) <<< (x8 &&& 31)) ||| ((1 : Int32) <<< (x7 &&& 31))) q2 s
  else
    some ((0 : Int32), s)
theorem g_law_315E : f_law_315 = g_law_315 := by
  funext n x2 x3 x7 x8 x9 z0 z1 s
  simp only [f_law_315, g_law_315, g_law_347E]
def g_law_295 (n : Nat) (x2 : Int32) (x3 : Int32) (x7 : Int32) (x8 : Int32) (x9 : Int32) (z0 : Int32) (z1 : Int32) (s : St) : Option (Int32 × St) :=
  if z1 = z0 then
    (f_framesInUse n s).bind fun q2 =>
    if x9 = 0 then
      g_law_315 n x2 x3 x7 x8 x9 (2 : Int32) q2 s
    else
      g_law_315 n x2 x3 x7 x8 x9 (1 : Int32) q2 s
  else
    some ((0 : Int32), s)
theorem g_law_295E : f_law_295 = g_law_295 := by
  funext n x2 x3 x7 x8 x9 z0 z1 s
  simp only [f_law_295, g_law_295, g_law_315E]
def g_law_265 (n : Nat) (x2 : Int32) (x3 : Int32) (x7 : Int32) (x8 : Int32) (x9 : Int32) (z0 : Int32) (z1 : Int32) (s : St) : Option (Int32 × St) :=
  if z1 = z0 then
    (f_frameOf s (0 : Int32)).bind fun q2 =>
    if q2 = 0 then
      (f_frameOf s (1 : Int32)).bind fun q5 =>
      if x9 = 0 then
        g_law_295 n x2 x3 x7 x8 x9 (1 : Int32) q5 s
      else
        g_law_295 n x2 x3 x7 x8 x9 (0 : Int32) q5 s
    else
      some ((0 : Int32), s)
  else
    some ((0 : Int32), s)
theorem g_law_265E : f_law_265 = g_law_265 := by
  funext n x2 x3 x7 x8 x9 z0 z1 s
  simp only [f_law_265, g_law_265, g_law_295E]
def g_law_248 (n : Nat) (x2 : Int32) (x3 : Int32) (x7 : Int32) (x8 : Int32) (z0 : Int32) (s : St) : Option (Int32 × St) :=
  (g_mesh n s).bind fun q1 =>
  if z0 = 0 then
    g_law_265 n x2 x3 x7 x8 z0 (0 : Int32) q1.1 q1.2
  else
    g_law_265 n x2 x3 x7 x8 z0 (1 : Int32) q1.1 q1.2
theorem g_law_248E : f_law_248 = g_law_248 := by
  funext n x2 x3 x7 x8 z0 s
  simp only [f_law_248, g_law_248, g_meshE, g_law_265E]
def g_law_166 (n : Nat) : Nat → Int32 → Int32 → Int32 → Int32 → Int32 → St → Option (Int32 × St)
  | 0 => fun _ _ _ _ _ _ => none
  | k + 1 => fun x2 x3 x7 x8 x9 s =>
    if x9 < (4 : Int32) then
      if x9 = x8 then
        g_law_166 n k x2 x3 x7 x8 (x9 + (1 : Int32)) s
      else
        (g_free (x9 * (4 : Int32)) s).bind fun q3 =>
        if q3.1 = 0 then
          some ((0 : Int32), q3.2)
        else
          g_law_166 n k x2 x3 x7 x8 (x9 + (1 : Int32)) q3.2
    else
      (g_write ((x8 * (4 : Int32)) + (2 : Int32)) x2 s).bind fun q6 =>
      if q6.1 = 0 then
        some ((0 : Int32), q6.2)
      else
        (g_write (((16 : Int32) + (x7 * (4 : Int32))) + (3 : Int32)) x3 q6.2).bind fun q9 =>
        if q9.1 = 0 then
          some ((0 : Int32), q9.2)
        else
          if x8 = x7 then
            g_law_248 n x2 x3 x7 x8 (0 : Int32) q9.2
          else
            g_law_248 n x2 x3 x7 x8 (1 : Int32) q9.2
theorem g_law_166E : f_law_166 = g_law_166 := by
  funext n
  funext k
  induction k with
  | zero => rfl
  | succ k ih => simp only [f_law_166, g_law_166, g_freeE, g_writeE, g_law_248E, ih]
def g_law_40 (n : Nat) : Nat → Int32 → Int32 → Int32 → Int32 → Int32 → Int32 → St → Option (Int32 × St)
  | 0 => fun _ _ _ _ _ _ _ => none
  | k + 1 => fun x1 x2 x3 x5 x6 x7 s =>
    if x7 < (4 : Int32) then
      (g_alloc n (2 : Int32) s).bind fun q2 =>
      if q2.1 < 0 then
        some ((0 : Int32), q2.2)
      else
        if (15 : Int32) < q2.1 then
          some ((0 : Int32), q2.2)
        else
          if (q2.1 % (4 : Int32)) = 0 then
            bnd (x6 ||| ((1 : Int32) <<< ((q2.1 / (4 : Int32)) &&& 31))) fun v7 =>
            (f_hstep x5).bind fun q8 =>
            g_law_40 n k x1 x2 x3 q8 v7 (x7 + (1 : Int32)) q2.2
          else
            some ((0 : Int32), q2.2)
    else
      if x6 = (15 : Int32) then
        (f_hstep x5).bind fun q11 =>
        bnd (((own_us q11 (16 : Int32)) &&& (32767 : Int32)) % (4 : Int32)) fun v13 =>
        (g_alloc n (2 : Int32) s).bind fun q14 =>
        if q14.1 = ((16 : Int32) + (v13 * (4 : Int32))) then
          (f_rngState q14.2).bind fun q17 =>
          if q17 = q11 then
            g_law_166 n n x2 x3 v13 (x1 &&& (3 : Int32)) (0 : Int32) q14.2
          else
            some ((0 : Int32), q14.2)
        else
          some ((0 : Int32), q14.2)
      else
        some ((0 : Int32), s)
theorem g_law_40E : f_law_40 = g_law_40 := by
  funext n
  funext k
  induction k with
  | zero => rfl
  | succ k ih => simp only [f_law_40, g_law_40, g_allocE, g_law_166E, own_usE, ih]
def g_law_32 (n : Nat) (x1 : Int32) (x2 : Int32) (x3 : Int32) (z0 : Int32) (s : St) : Option (Int32 × St) :=
  g_law_40 n n x1 x2 x3 z0 (0 : Int32) (0 : Int32) s
theorem g_law_32E : f_law_32 = g_law_32 := by
  funext n x1 x2 x3 z0 s
  simp only [f_law_32, g_law_32, g_law_40E]
def g_law_10 (n : Nat) (x0 : Int32) (x1 : Int32) (x2 : Int32) (x3 : Int32) (s : St) : Option (Int32 × St) :=
  if x0 < 0 then
    g_law_32 n x1 x2 x3 (0 : Int32) s
  else
    if (65535 : Int32) < x0 then
      g_law_32 n x1 x2 x3 (65535 : Int32) s
    else
      g_law_32 n x1 x2 x3 x0 s
theorem g_law_10E : f_law_10 = g_law_10 := by
  funext n x0 x1 x2 x3 s
  simp only [f_law_10, g_law_10, g_law_32E]
def g_law (n : Nat) (a0 : Int32) (a1 : Int32) (a2 : Int32) (a3 : Int32) : Option (Int32 × St) :=
  (f_ctor n (2 : Int32) (2 : Int32) a0).bind fun q1 =>
  g_law_10 n a0 a1 a2 a3 q1
theorem g_lawE : f_law = g_law := by
  funext n a0 a1 a2 a3
  simp only [f_law, g_law, g_law_10E]

def own_S (R : Int32) : Int32 := R * 1103515245 + 12345
def own_rho (R : Int32) : Nat := ((XT.ushr (own_S R) 16) &&& 32767).toInt.toNat
theorem own_rhoE (R : Int32) : (XT.ushr (own_S R) 16) &&& 32767 = Int32.ofNat (own_rho R) ∧ own_rho R ≤ 32767 := by
  have h := and_rng (XT.ushr (own_S R) 16) (m := 32767) (by omega)
  rw [show Int32.ofNat 32767 = (32767 : Int32) from rfl] at h
  unfold own_rho
  generalize (XT.ushr (own_S R) 16) &&& 32767 = w at h ⊢
  refine ⟨?_, by omega⟩
  rw [← Int32.toInt_inj, N_toInt (by omega)]; omega
def own_ints (R : Int32) : Nat → Int32 := fun k => if k = 6 then R else if k = 5 then 2 else if k = 4 then 2 else 0
def own_I (R : Int32) : St := (own_ints R, fun j x => if j = 0 ∨ j = 1 then (if x < 16 then -1 else 0) else 0)
def own_U (R b : Int32) : St := (own_ints R, fun j x => if j = 0 then (if x = 0 then 2 else if x < 16 then -1 else 0) else if j = 1 then (if x = 0 then 0 else if x < 16 then -1 else 0) else if j = 2 then (if x = 0 then b else 0) else 0)
def own_V (R c : Int32) : St := (own_ints R, fun j x => if j = 0 then (if x = 0 then 2 else if x = 1 then 2 else if x < 16 then -1 else 0) else if j = 1 then (if x = 0 then 0 else if x = 1 then 1 else if x < 16 then -1 else 0) else if j = 2 then (if x = 0 then 15 else if x = 1 then c else 0) else 0)
theorem own_c (n : Nat) (hn : 17 ≤ n) (a : Int32) : f_ctor n 2 2 a = some (own_I (own_cl a 0 65535)) := by
  unfold f_ctor f_ctor_37
  simp only [own_clamp, Option.bind_some, bnd_eq]
  rw [show (0 : Int32) = Int32.ofNat (16 - 16) from rfl, own_fill n 16 n _ (Nat.le_refl _) (by omega)]
  refine congrArg some (Prod.ext ?_ ?_)
  · funext k
    show (if k = 6 then _ else if k = 5 then own_cl 2 1 16 else if k = 4 then own_cl 2 2 16 else (0 : Int32)) = own_ints _ k
    rw [show own_cl 2 1 16 = 2 from by decide, show own_cl 2 2 16 = 2 from by decide]
    rfl
  · funext j x
    show (if (j = 0 ∨ j = 1) ∧ 16 - 16 ≤ x ∧ x < 16 then -1 else if j = 2 ∧ 16 - 16 ≤ x ∧ x < 16 then 0 else (0 : Int32)) = if j = 0 ∨ j = 1 then (if x < 16 then -1 else 0) else 0
    by_cases h1 : j = 0 ∨ j = 1
    · by_cases h2 : x < 16
      · simp [h1, h2]
      · simp [h1, h2]
    · simp [h1]
theorem own_intsS (R R' : Int32) (k : Nat) : (if k = 6 then R' else own_ints R k) = own_ints R' k := by
  unfold own_ints
  by_cases h : k = 6
  · simp [h]
  · simp [h]
theorem own_eqU (R R' b b' : Int32) (i1 i2 i3 i4 : Nat) : setA (setA (setA (setA (setA (setI (own_U R b) 6 R') 2 0 b') 3 i1 0) 3 i2 0) 3 i3 0) 3 i4 0 = own_U R' b' := by
  refine Prod.ext (funext fun k => own_intsS R R' k) ?_
  funext j x
  simp only [setA_2, setI_2, own_U]
  by_cases h3 : j = 3
  · simp [h3]
  · by_cases h2 : j = 2
    · by_cases hx : x = 0
      · simp [h2, hx]
      · simp [h2, hx]
    · simp [h2, h3]
theorem own_eqV (R R' b c : Int32) (i1 i2 i3 i4 : Nat) (hb : b = 15) : setA (setA (setA (setA (setA (setI (setA (setA (setA (own_U R b) 0 1 2) 1 1 1) 2 1 0) 6 R') 2 1 c) 3 i1 0) 3 i2 0) 3 i3 0) 3 i4 0 = own_V R' c := by
  refine Prod.ext (funext fun k => own_intsS R R' k) ?_
  funext j x
  simp only [setA_2, setI_2, own_U, own_V, hb]
  by_cases h3 : j = 3
  · simp [h3]
  · by_cases h2 : j = 2
    · by_cases hx : x = 0
      · simp [h2, hx]
      · by_cases hx1 : x = 1
        · simp [h2, hx1]
        · simp [h2, hx, hx1]
    · by_cases h1 : j = 1
      · by_cases hx : x = 0
        · simp [h1, hx]
        · by_cases hx1 : x = 1
          · simp [h1, hx1]
          · simp [h1, hx, hx1]
      · by_cases h0 : j = 0
        · by_cases hx : x = 0
          · simp [h0, hx]
          · by_cases hx1 : x = 1
            · simp [h0, hx1]
            · simp [h0, hx, hx1]
        · simp [h0, h1, h2, h3]
theorem own_rs (R c : Int32) : f_rngState (own_V R c) = some R := rfl
theorem own_66 (n : Nat) (x y : Int32) (s : St) : f_alloc_66 n x y s = f_placeObject n y x s := by
  unfold f_alloc_66
  cases f_placeObject n y x s <;> rfl
theorem own_alE (n : Nat) (S : St) (h : f_findEligible n S 2 = some 0) : f_alloc n 2 S = f_placeObject n 0 2 S := by
  unfold f_alloc
  rw [if_neg (by decide), if_neg (by decide), h]
  simp only [Option.bind_some]
  rw [if_neg (by decide), own_66]
theorem own_alN (n : Nat) (S : St) (p f : Int32) (P F : Nat) (h1 : f_findEligible n S 2 = some (-1)) (h2 : f_lowestUnusedPage n S = some p) (h3 : f_lowestFreeFrame n S = some f) (eP : p = Int32.ofNat P) (eF : f = Int32.ofNat F) (hP : P < 16) (hF : F < 16) :
    f_alloc n 2 S = f_placeObject n p 2 (setA (setA (setA S 0 P 2) 1 P f) 2 P 0) := by
  unfold f_alloc
  rw [if_neg (by decide), if_neg (by decide), h1]
  simp only [Option.bind_some]
  rw [if_pos (by decide), h2]
  simp only [Option.bind_some]
  rw [if_neg (by rw [eP]; exact N_neg (by omega)), h3]
  simp only [Option.bind_some]
  rw [if_neg (by rw [eF]; exact N_neg (by omega)), grd_pos (by rw [eP]; exact inbN hP (by omega))]
  simp only [bnd_eq]
  rw [own_66, show ix p = P by rw [eP]; exact ix_N (by omega)]
theorem own_SE (R : Int32) : R * 1103515245 + 12345 = own_S R := by unfold own_S; rfl
theorem own_hst (R : Int32) : f_hstep R = some (own_S R) := by unfold f_hstep own_S; rfl
theorem own_po (n : Nat) (S : St) (p f R : Int32) (b k j z : Nat) (hp : inb p 16) (hR : S.1 6 = R) (hf : S.2 1 (ix p) = f) (hu : f_unionOf n S f = some (Int32.ofNat b)) (hc : ∀ T, f_countClear n T (Int32.ofNat b) 4 = some (Int32.ofNat k)) (hk : 1 ≤ k) (hk4 : k ≤ 4)
    (hj : own_rho R % k = j) (hz : ∀ T, f_nthClear n T (Int32.ofNat b) 4 (Int32.ofNat j) = some (Int32.ofNat z)) :
    f_placeObject n p 2 S = f_placeObject_96 n n p 4 (Int32.ofNat z) (f * 16 + Int32.ofNat z * 4) 0 (setA (setI S 6 (own_S R)) 2 (ix p) (S.2 2 (ix p) ||| ((1 : Int32) <<< (Int32.ofNat z &&& 31)))) := by
  obtain ⟨e1, e2⟩ := own_rhoE R
  have st : f_step S = some (Int32.ofNat (own_rho R), setI S 6 (own_S R)) := by
    unfold f_step
    rw [bnd_eq, setI_1, if_pos rfl, hR, own_SE, e1]
  unfold f_placeObject f_slotsOf f_sizeOf
  simp only [Option.bind_some]
  rw [grd_pos hp, hf, hu]
  simp only [Option.bind_some]
  rw [show (16 : Int32) >>> (2 &&& 31) = 4 from rfl, show (1 : Int32) <<< (2 &&& 31) = 4 from rfl, hc]
  simp only [Option.bind_some]
  rw [if_neg (fun q => by rw [show (1 : Int32) = Int32.ofNat 1 from rfl, N_lt (by omega) (by omega)] at q; omega)]
  unfold f_placeObject_47
  rw [st]
  simp only [Option.bind_some]
  have hk0 : Int32.ofNat k ≠ 0 := fun q => by rw [show (0 : Int32) = Int32.ofNat 0 from rfl, N_inj (by omega) (by omega)] at q; omega
  rw [grd_pos hk0, rem_N (by omega) (by omega) (by omega), hj, hz]
  simp only [Option.bind_some]
  rw [grd_pos hp, bnd_eq, bnd_eq, setI_2]

theorem own_cc0 (T : St) : f_countClear 40 T (Int32.ofNat 0) 4 = some (Int32.ofNat 4) := by
  rw [g_countClearE]
  cbv
theorem own_nc0_0 (T : St) : f_nthClear 40 T (Int32.ofNat 0) 4 (Int32.ofNat 0) = some (Int32.ofNat 0) := by
  rw [g_nthClearE]
  cbv
theorem own_nc0_1 (T : St) : f_nthClear 40 T (Int32.ofNat 0) 4 (Int32.ofNat 1) = some (Int32.ofNat 1) := by
  rw [g_nthClearE]
  cbv
theorem own_nc0_2 (T : St) : f_nthClear 40 T (Int32.ofNat 0) 4 (Int32.ofNat 2) = some (Int32.ofNat 2) := by
  rw [g_nthClearE]
  cbv
theorem own_nc0_3 (T : St) : f_nthClear 40 T (Int32.ofNat 0) 4 (Int32.ofNat 3) = some (Int32.ofNat 3) := by
  rw [g_nthClearE]
  cbv
theorem own_un0 (R : Int32) : f_unionOf 40 (own_U R 0) 0 = some (Int32.ofNat 0) := by cbv
theorem own_cc1 (T : St) : f_countClear 40 T (Int32.ofNat 1) 4 = some (Int32.ofNat 3) := by
  rw [g_countClearE]
  cbv
theorem own_nc1_0 (T : St) : f_nthClear 40 T (Int32.ofNat 1) 4 (Int32.ofNat 0) = some (Int32.ofNat 1) := by
  rw [g_nthClearE]
  cbv
theorem own_nc1_1 (T : St) : f_nthClear 40 T (Int32.ofNat 1) 4 (Int32.ofNat 1) = some (Int32.ofNat 2) := by
  rw [g_nthClearE]
  cbv
theorem own_nc1_2 (T : St) : f_nthClear 40 T (Int32.ofNat 1) 4 (Int32.ofNat 2) = some (Int32.ofNat 3) := by
  rw [g_nthClearE]
  cbv
theorem own_un1 (R : Int32) : f_unionOf 40 (own_U R 1) 0 = some (Int32.ofNat 1) := by cbv
theorem own_fe1 (R : Int32) : f_findEligible 40 (own_U R 1) 2 = some 0 := by
  rw [g_findEligibleE]
  cbv
theorem own_cc2 (T : St) : f_countClear 40 T (Int32.ofNat 2) 4 = some (Int32.ofNat 3) := by
  rw [g_countClearE]
  cbv
theorem own_nc2_0 (T : St) : f_nthClear 40 T (Int32.ofNat 2) 4 (Int32.ofNat 0) = some (Int32.ofNat 0) := by
  rw [g_nthClearE]
  cbv
theorem own_nc2_1 (T : St) : f_nthClear 40 T (Int32.ofNat 2) 4 (Int32.ofNat 1) = some (Int32.ofNat 2) := by
  rw [g_nthClearE]
  cbv
theorem own_nc2_2 (T : St) : f_nthClear 40 T (Int32.ofNat 2) 4 (Int32.ofNat 2) = some (Int32.ofNat 3) := by
  rw [g_nthClearE]
  cbv
theorem own_un2 (R : Int32) : f_unionOf 40 (own_U R 2) 0 = some (Int32.ofNat 2) := by cbv
theorem own_fe2 (R : Int32) : f_findEligible 40 (own_U R 2) 2 = some 0 := by
  rw [g_findEligibleE]
  cbv
theorem own_cc3 (T : St) : f_countClear 40 T (Int32.ofNat 3) 4 = some (Int32.ofNat 2) := by
  rw [g_countClearE]
  cbv
theorem own_nc3_0 (T : St) : f_nthClear 40 T (Int32.ofNat 3) 4 (Int32.ofNat 0) = some (Int32.ofNat 2) := by
  rw [g_nthClearE]
  cbv
theorem own_nc3_1 (T : St) : f_nthClear 40 T (Int32.ofNat 3) 4 (Int32.ofNat 1) = some (Int32.ofNat 3) := by
  rw [g_nthClearE]
  cbv
theorem own_un3 (R : Int32) : f_unionOf 40 (own_U R 3) 0 = some (Int32.ofNat 3) := by cbv
theorem own_fe3 (R : Int32) : f_findEligible 40 (own_U R 3) 2 = some 0 := by
  rw [g_findEligibleE]
  cbv
theorem own_cc4 (T : St) : f_countClear 40 T (Int32.ofNat 4) 4 = some (Int32.ofNat 3) := by
  rw [g_countClearE]
  cbv
theorem own_nc4_0 (T : St) : f_nthClear 40 T (Int32.ofNat 4) 4 (Int32.ofNat 0) = some (Int32.ofNat 0) := by
  rw [g_nthClearE]
  cbv
theorem own_nc4_1 (T : St) : f_nthClear 40 T (Int32.ofNat 4) 4 (Int32.ofNat 1) = some (Int32.ofNat 1) := by
  rw [g_nthClearE]
  cbv
theorem own_nc4_2 (T : St) : f_nthClear 40 T (Int32.ofNat 4) 4 (Int32.ofNat 2) = some (Int32.ofNat 3) := by
  rw [g_nthClearE]
  cbv
theorem own_un4 (R : Int32) : f_unionOf 40 (own_U R 4) 0 = some (Int32.ofNat 4) := by cbv
theorem own_fe4 (R : Int32) : f_findEligible 40 (own_U R 4) 2 = some 0 := by
  rw [g_findEligibleE]
  cbv
theorem own_cc5 (T : St) : f_countClear 40 T (Int32.ofNat 5) 4 = some (Int32.ofNat 2) := by
  rw [g_countClearE]
  cbv
theorem own_nc5_0 (T : St) : f_nthClear 40 T (Int32.ofNat 5) 4 (Int32.ofNat 0) = some (Int32.ofNat 1) := by
  rw [g_nthClearE]
  cbv
theorem own_nc5_1 (T : St) : f_nthClear 40 T (Int32.ofNat 5) 4 (Int32.ofNat 1) = some (Int32.ofNat 3) := by
  rw [g_nthClearE]
  cbv
theorem own_un5 (R : Int32) : f_unionOf 40 (own_U R 5) 0 = some (Int32.ofNat 5) := by cbv
theorem own_fe5 (R : Int32) : f_findEligible 40 (own_U R 5) 2 = some 0 := by
  rw [g_findEligibleE]
  cbv
theorem own_cc6 (T : St) : f_countClear 40 T (Int32.ofNat 6) 4 = some (Int32.ofNat 2) := by
  rw [g_countClearE]
  cbv
theorem own_nc6_0 (T : St) : f_nthClear 40 T (Int32.ofNat 6) 4 (Int32.ofNat 0) = some (Int32.ofNat 0) := by
  rw [g_nthClearE]
  cbv
theorem own_nc6_1 (T : St) : f_nthClear 40 T (Int32.ofNat 6) 4 (Int32.ofNat 1) = some (Int32.ofNat 3) := by
  rw [g_nthClearE]
  cbv
theorem own_un6 (R : Int32) : f_unionOf 40 (own_U R 6) 0 = some (Int32.ofNat 6) := by cbv
theorem own_fe6 (R : Int32) : f_findEligible 40 (own_U R 6) 2 = some 0 := by
  rw [g_findEligibleE]
  cbv
theorem own_cc7 (T : St) : f_countClear 40 T (Int32.ofNat 7) 4 = some (Int32.ofNat 1) := by
  rw [g_countClearE]
  cbv
theorem own_nc7_0 (T : St) : f_nthClear 40 T (Int32.ofNat 7) 4 (Int32.ofNat 0) = some (Int32.ofNat 3) := by
  rw [g_nthClearE]
  cbv
theorem own_un7 (R : Int32) : f_unionOf 40 (own_U R 7) 0 = some (Int32.ofNat 7) := by cbv
theorem own_fe7 (R : Int32) : f_findEligible 40 (own_U R 7) 2 = some 0 := by
  rw [g_findEligibleE]
  cbv
theorem own_cc8 (T : St) : f_countClear 40 T (Int32.ofNat 8) 4 = some (Int32.ofNat 3) := by
  rw [g_countClearE]
  cbv
theorem own_nc8_0 (T : St) : f_nthClear 40 T (Int32.ofNat 8) 4 (Int32.ofNat 0) = some (Int32.ofNat 0) := by
  rw [g_nthClearE]
  cbv
theorem own_nc8_1 (T : St) : f_nthClear 40 T (Int32.ofNat 8) 4 (Int32.ofNat 1) = some (Int32.ofNat 1) := by
  rw [g_nthClearE]
  cbv
theorem own_nc8_2 (T : St) : f_nthClear 40 T (Int32.ofNat 8) 4 (Int32.ofNat 2) = some (Int32.ofNat 2) := by
  rw [g_nthClearE]
  cbv
theorem own_un8 (R : Int32) : f_unionOf 40 (own_U R 8) 0 = some (Int32.ofNat 8) := by cbv
theorem own_fe8 (R : Int32) : f_findEligible 40 (own_U R 8) 2 = some 0 := by
  rw [g_findEligibleE]
  cbv
theorem own_cc9 (T : St) : f_countClear 40 T (Int32.ofNat 9) 4 = some (Int32.ofNat 2) := by
  rw [g_countClearE]
  cbv
theorem own_nc9_0 (T : St) : f_nthClear 40 T (Int32.ofNat 9) 4 (Int32.ofNat 0) = some (Int32.ofNat 1) := by
  rw [g_nthClearE]
  cbv
theorem own_nc9_1 (T : St) : f_nthClear 40 T (Int32.ofNat 9) 4 (Int32.ofNat 1) = some (Int32.ofNat 2) := by
  rw [g_nthClearE]
  cbv
theorem own_un9 (R : Int32) : f_unionOf 40 (own_U R 9) 0 = some (Int32.ofNat 9) := by cbv
theorem own_fe9 (R : Int32) : f_findEligible 40 (own_U R 9) 2 = some 0 := by
  rw [g_findEligibleE]
  cbv
theorem own_cc10 (T : St) : f_countClear 40 T (Int32.ofNat 10) 4 = some (Int32.ofNat 2) := by
  rw [g_countClearE]
  cbv
theorem own_nc10_0 (T : St) : f_nthClear 40 T (Int32.ofNat 10) 4 (Int32.ofNat 0) = some (Int32.ofNat 0) := by
  rw [g_nthClearE]
  cbv
theorem own_nc10_1 (T : St) : f_nthClear 40 T (Int32.ofNat 10) 4 (Int32.ofNat 1) = some (Int32.ofNat 2) := by
  rw [g_nthClearE]
  cbv
theorem own_un10 (R : Int32) : f_unionOf 40 (own_U R 10) 0 = some (Int32.ofNat 10) := by cbv
theorem own_fe10 (R : Int32) : f_findEligible 40 (own_U R 10) 2 = some 0 := by
  rw [g_findEligibleE]
  cbv
theorem own_cc11 (T : St) : f_countClear 40 T (Int32.ofNat 11) 4 = some (Int32.ofNat 1) := by
  rw [g_countClearE]
  cbv
theorem own_nc11_0 (T : St) : f_nthClear 40 T (Int32.ofNat 11) 4 (Int32.ofNat 0) = some (Int32.ofNat 2) := by
  rw [g_nthClearE]
  cbv
theorem own_un11 (R : Int32) : f_unionOf 40 (own_U R 11) 0 = some (Int32.ofNat 11) := by cbv
theorem own_fe11 (R : Int32) : f_findEligible 40 (own_U R 11) 2 = some 0 := by
  rw [g_findEligibleE]
  cbv
theorem own_cc12 (T : St) : f_countClear 40 T (Int32.ofNat 12) 4 = some (Int32.ofNat 2) := by
  rw [g_countClearE]
  cbv
theorem own_nc12_0 (T : St) : f_nthClear 40 T (Int32.ofNat 12) 4 (Int32.ofNat 0) = some (Int32.ofNat 0) := by
  rw [g_nthClearE]
  cbv
theorem own_nc12_1 (T : St) : f_nthClear 40 T (Int32.ofNat 12) 4 (Int32.ofNat 1) = some (Int32.ofNat 1) := by
  rw [g_nthClearE]
  cbv
theorem own_un12 (R : Int32) : f_unionOf 40 (own_U R 12) 0 = some (Int32.ofNat 12) := by cbv
theorem own_fe12 (R : Int32) : f_findEligible 40 (own_U R 12) 2 = some 0 := by
  rw [g_findEligibleE]
  cbv
theorem own_cc13 (T : St) : f_countClear 40 T (Int32.ofNat 13) 4 = some (Int32.ofNat 1) := by
  rw [g_countClearE]
  cbv
theorem own_nc13_0 (T : St) : f_nthClear 40 T (Int32.ofNat 13) 4 (Int32.ofNat 0) = some (Int32.ofNat 1) := by
  rw [g_nthClearE]
  cbv
theorem own_un13 (R : Int32) : f_unionOf 40 (own_U R 13) 0 = some (Int32.ofNat 13) := by cbv
theorem own_fe13 (R : Int32) : f_findEligible 40 (own_U R 13) 2 = some 0 := by
  rw [g_findEligibleE]
  cbv
theorem own_cc14 (T : St) : f_countClear 40 T (Int32.ofNat 14) 4 = some (Int32.ofNat 1) := by
  rw [g_countClearE]
  cbv
theorem own_nc14_0 (T : St) : f_nthClear 40 T (Int32.ofNat 14) 4 (Int32.ofNat 0) = some (Int32.ofNat 0) := by
  rw [g_nthClearE]
  cbv
theorem own_un14 (R : Int32) : f_unionOf 40 (own_U R 14) 0 = some (Int32.ofNat 14) := by cbv
theorem own_fe14 (R : Int32) : f_findEligible 40 (own_U R 14) 2 = some 0 := by
  rw [g_findEligibleE]
  cbv
theorem own_zl0 (S : St) : f_placeObject_96 40 40 0 4 (Int32.ofNat 0) (0 * 16 + Int32.ofNat 0 * 4) 0 S = some (0, setA (setA (setA (setA S 3 0 0) 3 1 0) 3 2 0) 3 3 0) := by cbv
theorem own_zm0 (S : St) : f_placeObject_96 40 40 1 4 (Int32.ofNat 0) (1 * 16 + Int32.ofNat 0 * 4) 0 S = some (16, setA (setA (setA (setA S 3 16 0) 3 17 0) 3 18 0) 3 19 0) := by cbv
theorem own_zl1 (S : St) : f_placeObject_96 40 40 0 4 (Int32.ofNat 1) (0 * 16 + Int32.ofNat 1 * 4) 0 S = some (4, setA (setA (setA (setA S 3 4 0) 3 5 0) 3 6 0) 3 7 0) := by cbv
theorem own_zm1 (S : St) : f_placeObject_96 40 40 1 4 (Int32.ofNat 1) (1 * 16 + Int32.ofNat 1 * 4) 0 S = some (20, setA (setA (setA (setA S 3 20 0) 3 21 0) 3 22 0) 3 23 0) := by cbv
theorem own_zl2 (S : St) : f_placeObject_96 40 40 0 4 (Int32.ofNat 2) (0 * 16 + Int32.ofNat 2 * 4) 0 S = some (8, setA (setA (setA (setA S 3 8 0) 3 9 0) 3 10 0) 3 11 0) := by cbv
theorem own_zm2 (S : St) : f_placeObject_96 40 40 1 4 (Int32.ofNat 2) (1 * 16 + Int32.ofNat 2 * 4) 0 S = some (24, setA (setA (setA (setA S 3 24 0) 3 25 0) 3 26 0) 3 27 0) := by cbv
theorem own_zl3 (S : St) : f_placeObject_96 40 40 0 4 (Int32.ofNat 3) (0 * 16 + Int32.ofNat 3 * 4) 0 S = some (12, setA (setA (setA (setA S 3 12 0) 3 13 0) 3 14 0) 3 15 0) := by cbv
theorem own_zm3 (S : St) : f_placeObject_96 40 40 1 4 (Int32.ofNat 3) (1 * 16 + Int32.ofNat 3 * 4) 0 S = some (28, setA (setA (setA (setA S 3 28 0) 3 29 0) 3 30 0) 3 31 0) := by cbv
theorem own_fe15 (R : Int32) : f_findEligible 40 (own_U R 15) 2 = some (-1) := by
  rw [g_findEligibleE]
  cbv
theorem own_lu15 (R : Int32) : f_lowestUnusedPage 40 (own_U R 15) = some 1 := by cbv
theorem own_lf15 (R : Int32) : f_lowestFreeFrame 40 (own_U R 15) = some 1 := by cbv
theorem own_unv (R : Int32) : f_unionOf 40 (setA (setA (setA (own_U R 15) 0 1 2) 1 1 1) 2 1 0) 1 = some (Int32.ofNat 0) := by cbv
theorem own_fei (R : Int32) : f_findEligible 40 (own_I R) 2 = some (-1) := by
  rw [g_findEligibleE]
  cbv
theorem own_lui (R : Int32) : f_lowestUnusedPage 40 (own_I R) = some 0 := by cbv
theorem own_lfi (R : Int32) : f_lowestFreeFrame 40 (own_I R) = some 0 := by cbv
theorem own_IU (R : Int32) : setA (setA (setA (own_I R) 0 0 2) 1 0 0) 2 0 0 = own_U R 0 := by
  refine Prod.ext rfl ?_
  funext j x
  simp only [setA_2, own_I, own_U]
  by_cases h2 : j = 2
  · simp [h2]
  · by_cases h1 : j = 1
    · by_cases hx : x = 0
      · simp [h1, hx]
      · simp [h1, hx]
    · by_cases h0 : j = 0
      · by_cases hx : x = 0
        · simp [h0, hx]
        · simp [h0, hx]
      · simp [h0, h1, h2]
theorem own_p0_0 (R : Int32) (h : own_rho R % 4 = 0) : f_placeObject 40 0 2 (own_U R 0) = some (0, own_U (own_S R) 1) := by
  rw [own_po 40 (own_U R 0) 0 0 R 0 4 0 0 (by decide) rfl rfl (own_un0 R) own_cc0 (by omega) (by omega) h own_nc0_0, show ix (0 : Int32) = 0 from rfl, show (own_U R 0).2 2 0 = (0 : Int32) from rfl, show ((0 : Int32) ||| ((1 : Int32) <<< (Int32.ofNat 0 &&& 31))) = 1 by decide, own_zl0]
  exact congrArg (fun t => some (_, t)) (own_eqU R (own_S R) 0 1 _ _ _ _)
theorem own_p0_1 (R : Int32) (h : own_rho R % 4 = 1) : f_placeObject 40 0 2 (own_U R 0) = some (4, own_U (own_S R) 2) := by
  rw [own_po 40 (own_U R 0) 0 0 R 0 4 1 1 (by decide) rfl rfl (own_un0 R) own_cc0 (by omega) (by omega) h own_nc0_1, show ix (0 : Int32) = 0 from rfl, show (own_U R 0).2 2 0 = (0 : Int32) from rfl, show ((0 : Int32) ||| ((1 : Int32) <<< (Int32.ofNat 1 &&& 31))) = 2 by decide, own_zl1]
  exact congrArg (fun t => some (_, t)) (own_eqU R (own_S R) 0 2 _ _ _ _)
theorem own_p0_2 (R : Int32) (h : own_rho R % 4 = 2) : f_placeObject 40 0 2 (own_U R 0) = some (8, own_U (own_S R) 4) := by
  rw [own_po 40 (own_U R 0) 0 0 R 0 4 2 2 (by decide) rfl rfl (own_un0 R) own_cc0 (by omega) (by omega) h own_nc0_2, show ix (0 : Int32) = 0 from rfl, show (own_U R 0).2 2 0 = (0 : Int32) from rfl, show ((0 : Int32) ||| ((1 : Int32) <<< (Int32.ofNat 2 &&& 31))) = 4 by decide, own_zl2]
  exact congrArg (fun t => some (_, t)) (own_eqU R (own_S R) 0 4 _ _ _ _)
theorem own_p0_3 (R : Int32) (h : own_rho R % 4 = 3) : f_placeObject 40 0 2 (own_U R 0) = some (12, own_U (own_S R) 8) := by
  rw [own_po 40 (own_U R 0) 0 0 R 0 4 3 3 (by decide) rfl rfl (own_un0 R) own_cc0 (by omega) (by omega) h own_nc0_3, show ix (0 : Int32) = 0 from rfl, show (own_U R 0).2 2 0 = (0 : Int32) from rfl, show ((0 : Int32) ||| ((1 : Int32) <<< (Int32.ofNat 3 &&& 31))) = 8 by decide, own_zl3]
  exact congrArg (fun t => some (_, t)) (own_eqU R (own_S R) 0 8 _ _ _ _)
theorem own_p1_0 (R : Int32) (h : own_rho R % 3 = 0) : f_placeObject 40 0 2 (own_U R 1) = some (4, own_U (own_S R) 3) := by
  rw [own_po 40 (own_U R 1) 0 0 R 1 3 0 1 (by decide) rfl rfl (own_un1 R) own_cc1 (by omega) (by omega) h own_nc1_0, show ix (0 : Int32) = 0 from rfl, show (own_U R 1).2 2 0 = (1 : Int32) from rfl, show ((1 : Int32) ||| ((1 : Int32) <<< (Int32.ofNat 1 &&& 31))) = 3 by decide, own_zl1]
  exact congrArg (fun t => some (_, t)) (own_eqU R (own_S R) 1 3 _ _ _ _)
theorem own_p1_1 (R : Int32) (h : own_rho R % 3 = 1) : f_placeObject 40 0 2 (own_U R 1) = some (8, own_U (own_S R) 5) := by
  rw [own_po 40 (own_U R 1) 0 0 R 1 3 1 2 (by decide) rfl rfl (own_un1 R) own_cc1 (by omega) (by omega) h own_nc1_1, show ix (0 : Int32) = 0 from rfl, show (own_U R 1).2 2 0 = (1 : Int32) from rfl, show ((1 : Int32) ||| ((1 : Int32) <<< (Int32.ofNat 2 &&& 31))) = 5 by decide, own_zl2]
  exact congrArg (fun t => some (_, t)) (own_eqU R (own_S R) 1 5 _ _ _ _)
theorem own_p1_2 (R : Int32) (h : own_rho R % 3 = 2) : f_placeObject 40 0 2 (own_U R 1) = some (12, own_U (own_S R) 9) := by
  rw [own_po 40 (own_U R 1) 0 0 R 1 3 2 3 (by decide) rfl rfl (own_un1 R) own_cc1 (by omega) (by omega) h own_nc1_2, show ix (0 : Int32) = 0 from rfl, show (own_U R 1).2 2 0 = (1 : Int32) from rfl, show ((1 : Int32) ||| ((1 : Int32) <<< (Int32.ofNat 3 &&& 31))) = 9 by decide, own_zl3]
  exact congrArg (fun t => some (_, t)) (own_eqU R (own_S R) 1 9 _ _ _ _)
theorem own_p2_0 (R : Int32) (h : own_rho R % 3 = 0) : f_placeObject 40 0 2 (own_U R 2) = some (0, own_U (own_S R) 3) := by
  rw [own_po 40 (own_U R 2) 0 0 R 2 3 0 0 (by decide) rfl rfl (own_un2 R) own_cc2 (by omega) (by omega) h own_nc2_0, show ix (0 : Int32) = 0 from rfl, show (own_U R 2).2 2 0 = (2 : Int32) from rfl, show ((2 : Int32) ||| ((1 : Int32) <<< (Int32.ofNat 0 &&& 31))) = 3 by decide, own_zl0]
  exact congrArg (fun t => some (_, t)) (own_eqU R (own_S R) 2 3 _ _ _ _)
theorem own_p2_1 (R : Int32) (h : own_rho R % 3 = 1) : f_placeObject 40 0 2 (own_U R 2) = some (8, own_U (own_S R) 6) := by
  rw [own_po 40 (own_U R 2) 0 0 R 2 3 1 2 (by decide) rfl rfl (own_un2 R) own_cc2 (by omega) (by omega) h own_nc2_1, show ix (0 : Int32) = 0 from rfl, show (own_U R 2).2 2 0 = (2 : Int32) from rfl, show ((2 : Int32) ||| ((1 : Int32) <<< (Int32.ofNat 2 &&& 31))) = 6 by decide, own_zl2]
  exact congrArg (fun t => some (_, t)) (own_eqU R (own_S R) 2 6 _ _ _ _)
theorem own_p2_2 (R : Int32) (h : own_rho R % 3 = 2) : f_placeObject 40 0 2 (own_U R 2) = some (12, own_U (own_S R) 10) := by
  rw [own_po 40 (own_U R 2) 0 0 R 2 3 2 3 (by decide) rfl rfl (own_un2 R) own_cc2 (by omega) (by omega) h own_nc2_2, show ix (0 : Int32) = 0 from rfl, show (own_U R 2).2 2 0 = (2 : Int32) from rfl, show ((2 : Int32) ||| ((1 : Int32) <<< (Int32.ofNat 3 &&& 31))) = 10 by decide, own_zl3]
  exact congrArg (fun t => some (_, t)) (own_eqU R (own_S R) 2 10 _ _ _ _)
theorem own_p3_0 (R : Int32) (h : own_rho R % 2 = 0) : f_placeObject 40 0 2 (own_U R 3) = some (8, own_U (own_S R) 7) := by
  rw [own_po 40 (own_U R 3) 0 0 R 3 2 0 2 (by decide) rfl rfl (own_un3 R) own_cc3 (by omega) (by omega) h own_nc3_0, show ix (0 : Int32) = 0 from rfl, show (own_U R 3).2 2 0 = (3 : Int32) from rfl, show ((3 : Int32) ||| ((1 : Int32) <<< (Int32.ofNat 2 &&& 31))) = 7 by decide, own_zl2]
  exact congrArg (fun t => some (_, t)) (own_eqU R (own_S R) 3 7 _ _ _ _)
theorem own_p3_1 (R : Int32) (h : own_rho R % 2 = 1) : f_placeObject 40 0 2 (own_U R 3) = some (12, own_U (own_S R) 11) := by
  rw [own_po 40 (own_U R 3) 0 0 R 3 2 1 3 (by decide) rfl rfl (own_un3 R) own_cc3 (by omega) (by omega) h own_nc3_1, show ix (0 : Int32) = 0 from rfl, show (own_U R 3).2 2 0 = (3 : Int32) from rfl, show ((3 : Int32) ||| ((1 : Int32) <<< (Int32.ofNat 3 &&& 31))) = 11 by decide, own_zl3]
  exact congrArg (fun t => some (_, t)) (own_eqU R (own_S R) 3 11 _ _ _ _)
theorem own_p4_0 (R : Int32) (h : own_rho R % 3 = 0) : f_placeObject 40 0 2 (own_U R 4) = some (0, own_U (own_S R) 5) := by
  rw [own_po 40 (own_U R 4) 0 0 R 4 3 0 0 (by decide) rfl rfl (own_un4 R) own_cc4 (by omega) (by omega) h own_nc4_0, show ix (0 : Int32) = 0 from rfl, show (own_U R 4).2 2 0 = (4 : Int32) from rfl, show ((4 : Int32) ||| ((1 : Int32) <<< (Int32.ofNat 0 &&& 31))) = 5 by decide, own_zl0]
  exact congrArg (fun t => some (_, t)) (own_eqU R (own_S R) 4 5 _ _ _ _)
theorem own_p4_1 (R : Int32) (h : own_rho R % 3 = 1) : f_placeObject 40 0 2 (own_U R 4) = some (4, own_U (own_S R) 6) := by
  rw [own_po 40 (own_U R 4) 0 0 R 4 3 1 1 (by decide) rfl rfl (own_un4 R) own_cc4 (by omega) (by omega) h own_nc4_1, show ix (0 : Int32) = 0 from rfl, show (own_U R 4).2 2 0 = (4 : Int32) from rfl, show ((4 : Int32) ||| ((1 : Int32) <<< (Int32.ofNat 1 &&& 31))) = 6 by decide, own_zl1]
  exact congrArg (fun t => some (_, t)) (own_eqU R (own_S R) 4 6 _ _ _ _)
theorem own_p4_2 (R : Int32) (h : own_rho R % 3 = 2) : f_placeObject 40 0 2 (own_U R 4) = some (12, own_U (own_S R) 12) := by
  rw [own_po 40 (own_U R 4) 0 0 R 4 3 2 3 (by decide) rfl rfl (own_un4 R) own_cc4 (by omega) (by omega) h own_nc4_2, show ix (0 : Int32) = 0 from rfl, show (own_U R 4).2 2 0 = (4 : Int32) from rfl, show ((4 : Int32) ||| ((1 : Int32) <<< (Int32.ofNat 3 &&& 31))) = 12 by decide, own_zl3]
  exact congrArg (fun t => some (_, t)) (own_eqU R (own_S R) 4 12 _ _ _ _)
theorem own_p5_0 (R : Int32) (h : own_rho R % 2 = 0) : f_placeObject 40 0 2 (own_U R 5) = some (4, own_U (own_S R) 7) := by
  rw [own_po 40 (own_U R 5) 0 0 R 5 2 0 1 (by decide) rfl rfl (own_un5 R) own_cc5 (by omega) (by omega) h own_nc5_0, show ix (0 : Int32) = 0 from rfl, show (own_U R 5).2 2 0 = (5 : Int32) from rfl, show ((5 : Int32) ||| ((1 : Int32) <<< (Int32.ofNat 1 &&& 31))) = 7 by decide, own_zl1]
  exact congrArg (fun t => some (_, t)) (own_eqU R (own_S R) 5 7 _ _ _ _)
theorem own_p5_1 (R : Int32) (h : own_rho R % 2 = 1) : f_placeObject 40 0 2 (own_U R 5) = some (12, own_U (own_S R) 13) := by
  rw [own_po 40 (own_U R 5) 0 0 R 5 2 1 3 (by decide) rfl rfl (own_un5 R) own_cc5 (by omega) (by omega) h own_nc5_1, show ix (0 : Int32) = 0 from rfl, show (own_U R 5).2 2 0 = (5 : Int32) from rfl, show ((5 : Int32) ||| ((1 : Int32) <<< (Int32.ofNat 3 &&& 31))) = 13 by decide, own_zl3]
  exact congrArg (fun t => some (_, t)) (own_eqU R (own_S R) 5 13 _ _ _ _)
theorem own_p6_0 (R : Int32) (h : own_rho R % 2 = 0) : f_placeObject 40 0 2 (own_U R 6) = some (0, own_U (own_S R) 7) := by
  rw [own_po 40 (own_U R 6) 0 0 R 6 2 0 0 (by decide) rfl rfl (own_un6 R) own_cc6 (by omega) (by omega) h own_nc6_0, show ix (0 : Int32) = 0 from rfl, show (own_U R 6).2 2 0 = (6 : Int32) from rfl, show ((6 : Int32) ||| ((1 : Int32) <<< (Int32.ofNat 0 &&& 31))) = 7 by decide, own_zl0]
  exact congrArg (fun t => some (_, t)) (own_eqU R (own_S R) 6 7 _ _ _ _)
theorem own_p6_1 (R : Int32) (h : own_rho R % 2 = 1) : f_placeObject 40 0 2 (own_U R 6) = some (12, own_U (own_S R) 14) := by
  rw [own_po 40 (own_U R 6) 0 0 R 6 2 1 3 (by decide) rfl rfl (own_un6 R) own_cc6 (by omega) (by omega) h own_nc6_1, show ix (0 : Int32) = 0 from rfl, show (own_U R 6).2 2 0 = (6 : Int32) from rfl, show ((6 : Int32) ||| ((1 : Int32) <<< (Int32.ofNat 3 &&& 31))) = 14 by decide, own_zl3]
  exact congrArg (fun t => some (_, t)) (own_eqU R (own_S R) 6 14 _ _ _ _)
theorem own_p7_0 (R : Int32) (h : own_rho R % 1 = 0) : f_placeObject 40 0 2 (own_U R 7) = some (12, own_U (own_S R) 15) := by
  rw [own_po 40 (own_U R 7) 0 0 R 7 1 0 3 (by decide) rfl rfl (own_un7 R) own_cc7 (by omega) (by omega) h own_nc7_0, show ix (0 : Int32) = 0 from rfl, show (own_U R 7).2 2 0 = (7 : Int32) from rfl, show ((7 : Int32) ||| ((1 : Int32) <<< (Int32.ofNat 3 &&& 31))) = 15 by decide, own_zl3]
  exact congrArg (fun t => some (_, t)) (own_eqU R (own_S R) 7 15 _ _ _ _)
theorem own_p8_0 (R : Int32) (h : own_rho R % 3 = 0) : f_placeObject 40 0 2 (own_U R 8) = some (0, own_U (own_S R) 9) := by
  rw [own_po 40 (own_U R 8) 0 0 R 8 3 0 0 (by decide) rfl rfl (own_un8 R) own_cc8 (by omega) (by omega) h own_nc8_0, show ix (0 : Int32) = 0 from rfl, show (own_U R 8).2 2 0 = (8 : Int32) from rfl, show ((8 : Int32) ||| ((1 : Int32) <<< (Int32.ofNat 0 &&& 31))) = 9 by decide, own_zl0]
  exact congrArg (fun t => some (_, t)) (own_eqU R (own_S R) 8 9 _ _ _ _)
theorem own_p8_1 (R : Int32) (h : own_rho R % 3 = 1) : f_placeObject 40 0 2 (own_U R 8) = some (4, own_U (own_S R) 10) := by
  rw [own_po 40 (own_U R 8) 0 0 R 8 3 1 1 (by decide) rfl rfl (own_un8 R) own_cc8 (by omega) (by omega) h own_nc8_1, show ix (0 : Int32) = 0 from rfl, show (own_U R 8).2 2 0 = (8 : Int32) from rfl, show ((8 : Int32) ||| ((1 : Int32) <<< (Int32.ofNat 1 &&& 31))) = 10 by decide, own_zl1]
  exact congrArg (fun t => some (_, t)) (own_eqU R (own_S R) 8 10 _ _ _ _)
theorem own_p8_2 (R : Int32) (h : own_rho R % 3 = 2) : f_placeObject 40 0 2 (own_U R 8) = some (8, own_U (own_S R) 12) := by
  rw [own_po 40 (own_U R 8) 0 0 R 8 3 2 2 (by decide) rfl rfl (own_un8 R) own_cc8 (by omega) (by omega) h own_nc8_2, show ix (0 : Int32) = 0 from rfl, show (own_U R 8).2 2 0 = (8 : Int32) from rfl, show ((8 : Int32) ||| ((1 : Int32) <<< (Int32.ofNat 2 &&& 31))) = 12 by decide, own_zl2]
  exact congrArg (fun t => some (_, t)) (own_eqU R (own_S R) 8 12 _ _ _ _)
theorem own_p9_0 (R : Int32) (h : own_rho R % 2 = 0) : f_placeObject 40 0 2 (own_U R 9) = some (4, own_U (own_S R) 11) := by
  rw [own_po 40 (own_U R 9) 0 0 R 9 2 0 1 (by decide) rfl rfl (own_un9 R) own_cc9 (by omega) (by omega) h own_nc9_0, show ix (0 : Int32) = 0 from rfl, show (own_U R 9).2 2 0 = (9 : Int32) from rfl, show ((9 : Int32) ||| ((1 : Int32) <<< (Int32.ofNat 1 &&& 31))) = 11 by decide, own_zl1]
  exact congrArg (fun t => some (_, t)) (own_eqU R (own_S R) 9 11 _ _ _ _)
theorem own_p9_1 (R : Int32) (h : own_rho R % 2 = 1) : f_placeObject 40 0 2 (own_U R 9) = some (8, own_U (own_S R) 13) := by
  rw [own_po 40 (own_U R 9) 0 0 R 9 2 1 2 (by decide) rfl rfl (own_un9 R) own_cc9 (by omega) (by omega) h own_nc9_1, show ix (0 : Int32) = 0 from rfl, show (own_U R 9).2 2 0 = (9 : Int32) from rfl, show ((9 : Int32) ||| ((1 : Int32) <<< (Int32.ofNat 2 &&& 31))) = 13 by decide, own_zl2]
  exact congrArg (fun t => some (_, t)) (own_eqU R (own_S R) 9 13 _ _ _ _)
theorem own_p10_0 (R : Int32) (h : own_rho R % 2 = 0) : f_placeObject 40 0 2 (own_U R 10) = some (0, own_U (own_S R) 11) := by
  rw [own_po 40 (own_U R 10) 0 0 R 10 2 0 0 (by decide) rfl rfl (own_un10 R) own_cc10 (by omega) (by omega) h own_nc10_0, show ix (0 : Int32) = 0 from rfl, show (own_U R 10).2 2 0 = (10 : Int32) from rfl, show ((10 : Int32) ||| ((1 : Int32) <<< (Int32.ofNat 0 &&& 31))) = 11 by decide, own_zl0]
  exact congrArg (fun t => some (_, t)) (own_eqU R (own_S R) 10 11 _ _ _ _)
theorem own_p10_1 (R : Int32) (h : own_rho R % 2 = 1) : f_placeObject 40 0 2 (own_U R 10) = some (8, own_U (own_S R) 14) := by
  rw [own_po 40 (own_U R 10) 0 0 R 10 2 1 2 (by decide) rfl rfl (own_un10 R) own_cc10 (by omega) (by omega) h own_nc10_1, show ix (0 : Int32) = 0 from rfl, show (own_U R 10).2 2 0 = (10 : Int32) from rfl, show ((10 : Int32) ||| ((1 : Int32) <<< (Int32.ofNat 2 &&& 31))) = 14 by decide, own_zl2]
  exact congrArg (fun t => some (_, t)) (own_eqU R (own_S R) 10 14 _ _ _ _)
theorem own_p11_0 (R : Int32) (h : own_rho R % 1 = 0) : f_placeObject 40 0 2 (own_U R 11) = some (8, own_U (own_S R) 15) := by
  rw [own_po 40 (own_U R 11) 0 0 R 11 1 0 2 (by decide) rfl rfl (own_un11 R) own_cc11 (by omega) (by omega) h own_nc11_0, show ix (0 : Int32) = 0 from rfl, show (own_U R 11).2 2 0 = (11 : Int32) from rfl, show ((11 : Int32) ||| ((1 : Int32) <<< (Int32.ofNat 2 &&& 31))) = 15 by decide, own_zl2]
  exact congrArg (fun t => some (_, t)) (own_eqU R (own_S R) 11 15 _ _ _ _)
theorem own_p12_0 (R : Int32) (h : own_rho R % 2 = 0) : f_placeObject 40 0 2 (own_U R 12) = some (0, own_U (own_S R) 13) := by
  rw [own_po 40 (own_U R 12) 0 0 R 12 2 0 0 (by decide) rfl rfl (own_un12 R) own_cc12 (by omega) (by omega) h own_nc12_0, show ix (0 : Int32) = 0 from rfl, show (own_U R 12).2 2 0 = (12 : Int32) from rfl, show ((12 : Int32) ||| ((1 : Int32) <<< (Int32.ofNat 0 &&& 31))) = 13 by decide, own_zl0]
  exact congrArg (fun t => some (_, t)) (own_eqU R (own_S R) 12 13 _ _ _ _)
theorem own_p12_1 (R : Int32) (h : own_rho R % 2 = 1) : f_placeObject 40 0 2 (own_U R 12) = some (4, own_U (own_S R) 14) := by
  rw [own_po 40 (own_U R 12) 0 0 R 12 2 1 1 (by decide) rfl rfl (own_un12 R) own_cc12 (by omega) (by omega) h own_nc12_1, show ix (0 : Int32) = 0 from rfl, show (own_U R 12).2 2 0 = (12 : Int32) from rfl, show ((12 : Int32) ||| ((1 : Int32) <<< (Int32.ofNat 1 &&& 31))) = 14 by decide, own_zl1]
  exact congrArg (fun t => some (_, t)) (own_eqU R (own_S R) 12 14 _ _ _ _)
theorem own_p13_0 (R : Int32) (h : own_rho R % 1 = 0) : f_placeObject 40 0 2 (own_U R 13) = some (4, own_U (own_S R) 15) := by
  rw [own_po 40 (own_U R 13) 0 0 R 13 1 0 1 (by decide) rfl rfl (own_un13 R) own_cc13 (by omega) (by omega) h own_nc13_0, show ix (0 : Int32) = 0 from rfl, show (own_U R 13).2 2 0 = (13 : Int32) from rfl, show ((13 : Int32) ||| ((1 : Int32) <<< (Int32.ofNat 1 &&& 31))) = 15 by decide, own_zl1]
  exact congrArg (fun t => some (_, t)) (own_eqU R (own_S R) 13 15 _ _ _ _)
theorem own_p14_0 (R : Int32) (h : own_rho R % 1 = 0) : f_placeObject 40 0 2 (own_U R 14) = some (0, own_U (own_S R) 15) := by
  rw [own_po 40 (own_U R 14) 0 0 R 14 1 0 0 (by decide) rfl rfl (own_un14 R) own_cc14 (by omega) (by omega) h own_nc14_0, show ix (0 : Int32) = 0 from rfl, show (own_U R 14).2 2 0 = (14 : Int32) from rfl, show ((14 : Int32) ||| ((1 : Int32) <<< (Int32.ofNat 0 &&& 31))) = 15 by decide, own_zl0]
  exact congrArg (fun t => some (_, t)) (own_eqU R (own_S R) 14 15 _ _ _ _)
theorem own_a0 (R : Int32) : ∃ z : Nat, z < 4 ∧ 0 / 2 ^ z % 2 = 0 ∧ f_alloc 40 2 (own_I R) = some (Int32.ofNat (4 * z), own_U (own_S R) (Int32.ofNat (0 + 2 ^ z))) := by
  have e : f_alloc 40 2 (own_I R) = f_placeObject 40 0 2 (own_U R 0) := by
    rw [own_alN 40 (own_I R) 0 0 0 0 (own_fei R) (own_lui R) (own_lfi R) rfl rfl (by omega) (by omega), own_IU]
  have hm := Nat.mod_lt (own_rho R) (show 0 < 4 by omega)
  have h : own_rho R % 4 = 0 ∨ own_rho R % 4 = 1 ∨ own_rho R % 4 = 2 ∨ own_rho R % 4 = 3 := by omega
  rcases h with h | h | h | h
  · exact ⟨0, by omega, by decide, by rw [e, own_p0_0 R h]; rfl⟩
  · exact ⟨1, by omega, by decide, by rw [e, own_p0_1 R h]; rfl⟩
  · exact ⟨2, by omega, by decide, by rw [e, own_p0_2 R h]; rfl⟩
  · exact ⟨3, by omega, by decide, by rw [e, own_p0_3 R h]; rfl⟩
theorem own_a1 (R : Int32) : ∃ z : Nat, z < 4 ∧ 1 / 2 ^ z % 2 = 0 ∧ f_alloc 40 2 (own_U R 1) = some (Int32.ofNat (4 * z), own_U (own_S R) (Int32.ofNat (1 + 2 ^ z))) := by
  have e : f_alloc 40 2 (own_U R 1) = f_placeObject 40 0 2 (own_U R 1) := own_alE 40 _ (own_fe1 R)
  have hm := Nat.mod_lt (own_rho R) (show 0 < 3 by omega)
  have h : own_rho R % 3 = 0 ∨ own_rho R % 3 = 1 ∨ own_rho R % 3 = 2 := by omega
  rcases h with h | h | h
  · exact ⟨1, by omega, by decide, by rw [e, own_p1_0 R h]; rfl⟩
  · exact ⟨2, by omega, by decide, by rw [e, own_p1_1 R h]; rfl⟩
  · exact ⟨3, by omega, by decide, by rw [e, own_p1_2 R h]; rfl⟩
theorem own_a2 (R : Int32) : ∃ z : Nat, z < 4 ∧ 2 / 2 ^ z % 2 = 0 ∧ f_alloc 40 2 (own_U R 2) = some (Int32.ofNat (4 * z), own_U (own_S R) (Int32.ofNat (2 + 2 ^ z))) := by
  have e : f_alloc 40 2 (own_U R 2) = f_placeObject 40 0 2 (own_U R 2) := own_alE 40 _ (own_fe2 R)
  have hm := Nat.mod_lt (own_rho R) (show 0 < 3 by omega)
  have h : own_rho R % 3 = 0 ∨ own_rho R % 3 = 1 ∨ own_rho R % 3 = 2 := by omega
  rcases h with h | h | h
  · exact ⟨0, by omega, by decide, by rw [e, own_p2_0 R h]; rfl⟩
  · exact ⟨2, by omega, by decide, by rw [e, own_p2_1 R h]; rfl⟩
  · exact ⟨3, by omega, by decide, by rw [e, own_p2_2 R h]; rfl⟩
theorem own_a3 (R : Int32) : ∃ z : Nat, z < 4 ∧ 3 / 2 ^ z % 2 = 0 ∧ f_alloc 40 2 (own_U R 3) = some (Int32.ofNat (4 * z), own_U (own_S R) (Int32.ofNat (3 + 2 ^ z))) := by
  have e : f_alloc 40 2 (own_U R 3) = f_placeObject 40 0 2 (own_U R 3) := own_alE 40 _ (own_fe3 R)
  have hm := Nat.mod_lt (own_rho R) (show 0 < 2 by omega)
  have h : own_rho R % 2 = 0 ∨ own_rho R % 2 = 1 := by omega
  rcases h with h | h
  · exact ⟨2, by omega, by decide, by rw [e, own_p3_0 R h]; rfl⟩
  · exact ⟨3, by omega, by decide, by rw [e, own_p3_1 R h]; rfl⟩
theorem own_a4 (R : Int32) : ∃ z : Nat, z < 4 ∧ 4 / 2 ^ z % 2 = 0 ∧ f_alloc 40 2 (own_U R 4) = some (Int32.ofNat (4 * z), own_U (own_S R) (Int32.ofNat (4 + 2 ^ z))) := by
  have e : f_alloc 40 2 (own_U R 4) = f_placeObject 40 0 2 (own_U R 4) := own_alE 40 _ (own_fe4 R)
  have hm := Nat.mod_lt (own_rho R) (show 0 < 3 by omega)
  have h : own_rho R % 3 = 0 ∨ own_rho R % 3 = 1 ∨ own_rho R % 3 = 2 := by omega
  rcases h with h | h | h
  · exact ⟨0, by omega, by decide, by rw [e, own_p4_0 R h]; rfl⟩
  · exact ⟨1, by omega, by decide, by rw [e, own_p4_1 R h]; rfl⟩
  · exact ⟨3, by omega, by decide, by rw [e, own_p4_2 R h]; rfl⟩
theorem own_a5 (R : Int32) : ∃ z : Nat, z < 4 ∧ 5 / 2 ^ z % 2 = 0 ∧ f_alloc 40 2 (own_U R 5) = some (Int32.ofNat (4 * z), own_U (own_S R) (Int32.ofNat (5 + 2 ^ z))) := by
  have e : f_alloc 40 2 (own_U R 5) = f_placeObject 40 0 2 (own_U R 5) := own_alE 40 _ (own_fe5 R)
  have hm := Nat.mod_lt (own_rho R) (show 0 < 2 by omega)
  have h : own_rho R % 2 = 0 ∨ own_rho R % 2 = 1 := by omega
  rcases h with h | h
  · exact ⟨1, by omega, by decide, by rw [e, own_p5_0 R h]; rfl⟩
  · exact ⟨3, by omega, by decide, by rw [e, own_p5_1 R h]; rfl⟩
theorem own_a6 (R : Int32) : ∃ z : Nat, z < 4 ∧ 6 / 2 ^ z % 2 = 0 ∧ f_alloc 40 2 (own_U R 6) = some (Int32.ofNat (4 * z), own_U (own_S R) (Int32.ofNat (6 + 2 ^ z))) := by
  have e : f_alloc 40 2 (own_U R 6) = f_placeObject 40 0 2 (own_U R 6) := own_alE 40 _ (own_fe6 R)
  have hm := Nat.mod_lt (own_rho R) (show 0 < 2 by omega)
  have h : own_rho R % 2 = 0 ∨ own_rho R % 2 = 1 := by omega
  rcases h with h | h
  · exact ⟨0, by omega, by decide, by rw [e, own_p6_0 R h]; rfl⟩
  · exact ⟨3, by omega, by decide, by rw [e, own_p6_1 R h]; rfl⟩
theorem own_a7 (R : Int32) : ∃ z : Nat, z < 4 ∧ 7 / 2 ^ z % 2 = 0 ∧ f_alloc 40 2 (own_U R 7) = some (Int32.ofNat (4 * z), own_U (own_S R) (Int32.ofNat (7 + 2 ^ z))) := by
  have e : f_alloc 40 2 (own_U R 7) = f_placeObject 40 0 2 (own_U R 7) := own_alE 40 _ (own_fe7 R)
  have hm := Nat.mod_lt (own_rho R) (show 0 < 1 by omega)
  have h : own_rho R % 1 = 0 := by omega
  · exact ⟨3, by omega, by decide, by rw [e, own_p7_0 R h]; rfl⟩
theorem own_a8 (R : Int32) : ∃ z : Nat, z < 4 ∧ 8 / 2 ^ z % 2 = 0 ∧ f_alloc 40 2 (own_U R 8) = some (Int32.ofNat (4 * z), own_U (own_S R) (Int32.ofNat (8 + 2 ^ z))) := by
  have e : f_alloc 40 2 (own_U R 8) = f_placeObject 40 0 2 (own_U R 8) := own_alE 40 _ (own_fe8 R)
  have hm := Nat.mod_lt (own_rho R) (show 0 < 3 by omega)
  have h : own_rho R % 3 = 0 ∨ own_rho R % 3 = 1 ∨ own_rho R % 3 = 2 := by omega
  rcases h with h | h | h
  · exact ⟨0, by omega, by decide, by rw [e, own_p8_0 R h]; rfl⟩
  · exact ⟨1, by omega, by decide, by rw [e, own_p8_1 R h]; rfl⟩
  · exact ⟨2, by omega, by decide, by rw [e, own_p8_2 R h]; rfl⟩
theorem own_a9 (R : Int32) : ∃ z : Nat, z < 4 ∧ 9 / 2 ^ z % 2 = 0 ∧ f_alloc 40 2 (own_U R 9) = some (Int32.ofNat (4 * z), own_U (own_S R) (Int32.ofNat (9 + 2 ^ z))) := by
  have e : f_alloc 40 2 (own_U R 9) = f_placeObject 40 0 2 (own_U R 9) := own_alE 40 _ (own_fe9 R)
  have hm := Nat.mod_lt (own_rho R) (show 0 < 2 by omega)
  have h : own_rho R % 2 = 0 ∨ own_rho R % 2 = 1 := by omega
  rcases h with h | h
  · exact ⟨1, by omega, by decide, by rw [e, own_p9_0 R h]; rfl⟩
  · exact ⟨2, by omega, by decide, by rw [e, own_p9_1 R h]; rfl⟩
theorem own_a10 (R : Int32) : ∃ z : Nat, z < 4 ∧ 10 / 2 ^ z % 2 = 0 ∧ f_alloc 40 2 (own_U R 10) = some (Int32.ofNat (4 * z), own_U (own_S R) (Int32.ofNat (10 + 2 ^ z))) := by
  have e : f_alloc 40 2 (own_U R 10) = f_placeObject 40 0 2 (own_U R 10) := own_alE 40 _ (own_fe10 R)
  have hm := Nat.mod_lt (own_rho R) (show 0 < 2 by omega)
  have h : own_rho R % 2 = 0 ∨ own_rho R % 2 = 1 := by omega
  rcases h with h | h
  · exact ⟨0, by omega, by decide, by rw [e, own_p10_0 R h]; rfl⟩
  · exact ⟨2, by omega, by decide, by rw [e, own_p10_1 R h]; rfl⟩
theorem own_a11 (R : Int32) : ∃ z : Nat, z < 4 ∧ 11 / 2 ^ z % 2 = 0 ∧ f_alloc 40 2 (own_U R 11) = some (Int32.ofNat (4 * z), own_U (own_S R) (Int32.ofNat (11 + 2 ^ z))) := by
  have e : f_alloc 40 2 (own_U R 11) = f_placeObject 40 0 2 (own_U R 11) := own_alE 40 _ (own_fe11 R)
  have hm := Nat.mod_lt (own_rho R) (show 0 < 1 by omega)
  have h : own_rho R % 1 = 0 := by omega
  · exact ⟨2, by omega, by decide, by rw [e, own_p11_0 R h]; rfl⟩
theorem own_a12 (R : Int32) : ∃ z : Nat, z < 4 ∧ 12 / 2 ^ z % 2 = 0 ∧ f_alloc 40 2 (own_U R 12) = some (Int32.ofNat (4 * z), own_U (own_S R) (Int32.ofNat (12 + 2 ^ z))) := by
  have e : f_alloc 40 2 (own_U R 12) = f_placeObject 40 0 2 (own_U R 12) := own_alE 40 _ (own_fe12 R)
  have hm := Nat.mod_lt (own_rho R) (show 0 < 2 by omega)
  have h : own_rho R % 2 = 0 ∨ own_rho R % 2 = 1 := by omega
  rcases h with h | h
  · exact ⟨0, by omega, by decide, by rw [e, own_p12_0 R h]; rfl⟩
  · exact ⟨1, by omega, by decide, by rw [e, own_p12_1 R h]; rfl⟩
theorem own_a13 (R : Int32) : ∃ z : Nat, z < 4 ∧ 13 / 2 ^ z % 2 = 0 ∧ f_alloc 40 2 (own_U R 13) = some (Int32.ofNat (4 * z), own_U (own_S R) (Int32.ofNat (13 + 2 ^ z))) := by
  have e : f_alloc 40 2 (own_U R 13) = f_placeObject 40 0 2 (own_U R 13) := own_alE 40 _ (own_fe13 R)
  have hm := Nat.mod_lt (own_rho R) (show 0 < 1 by omega)
  have h : own_rho R % 1 = 0 := by omega
  · exact ⟨1, by omega, by decide, by rw [e, own_p13_0 R h]; rfl⟩
theorem own_a14 (R : Int32) : ∃ z : Nat, z < 4 ∧ 14 / 2 ^ z % 2 = 0 ∧ f_alloc 40 2 (own_U R 14) = some (Int32.ofNat (4 * z), own_U (own_S R) (Int32.ofNat (14 + 2 ^ z))) := by
  have e : f_alloc 40 2 (own_U R 14) = f_placeObject 40 0 2 (own_U R 14) := own_alE 40 _ (own_fe14 R)
  have hm := Nat.mod_lt (own_rho R) (show 0 < 1 by omega)
  have h : own_rho R % 1 = 0 := by omega
  · exact ⟨0, by omega, by decide, by rw [e, own_p14_0 R h]; rfl⟩
theorem own_a15 (R : Int32) : f_alloc 40 2 (own_U R 15) = some (Int32.ofNat (16 + 4 * (own_rho R % 4)), own_V (own_S R) (Int32.ofNat (2 ^ (own_rho R % 4)))) := by
  rw [own_alN 40 (own_U R 15) 1 1 1 1 (own_fe15 R) (own_lu15 R) (own_lf15 R) rfl rfl (by omega) (by omega)]
  have hm := Nat.mod_lt (own_rho R) (show 0 < 4 by omega)
  have : own_rho R % 4 = 0 ∨ own_rho R % 4 = 1 ∨ own_rho R % 4 = 2 ∨ own_rho R % 4 = 3 := by omega
  rcases this with h | h | h | h
  · rw [own_po 40 (setA (setA (setA (own_U R 15) 0 1 2) 1 1 1) 2 1 0) 1 1 R 0 4 0 0 (by decide) rfl rfl (own_unv R) own_cc0 (by omega) (by omega) h own_nc0_0, show ix (1 : Int32) = 1 from rfl, show (setA (setA (setA (own_U R 15) 0 1 2) 1 1 1) 2 1 0).2 2 1 = (0 : Int32) from rfl, show ((0 : Int32) ||| ((1 : Int32) <<< (Int32.ofNat 0 &&& 31))) = 1 by decide, own_zm0, h]
    exact congrArg (fun t => some (_, t)) (own_eqV R (own_S R) 15 1 _ _ _ _ rfl)
  · rw [own_po 40 (setA (setA (setA (own_U R 15) 0 1 2) 1 1 1) 2 1 0) 1 1 R 0 4 1 1 (by decide) rfl rfl (own_unv R) own_cc0 (by omega) (by omega) h own_nc0_1, show ix (1 : Int32) = 1 from rfl, show (setA (setA (setA (own_U R 15) 0 1 2) 1 1 1) 2 1 0).2 2 1 = (0 : Int32) from rfl, show ((0 : Int32) ||| ((1 : Int32) <<< (Int32.ofNat 1 &&& 31))) = 2 by decide, own_zm1, h]
    exact congrArg (fun t => some (_, t)) (own_eqV R (own_S R) 15 2 _ _ _ _ rfl)
  · rw [own_po 40 (setA (setA (setA (own_U R 15) 0 1 2) 1 1 1) 2 1 0) 1 1 R 0 4 2 2 (by decide) rfl rfl (own_unv R) own_cc0 (by omega) (by omega) h own_nc0_2, show ix (1 : Int32) = 1 from rfl, show (setA (setA (setA (own_U R 15) 0 1 2) 1 1 1) 2 1 0).2 2 1 = (0 : Int32) from rfl, show ((0 : Int32) ||| ((1 : Int32) <<< (Int32.ofNat 2 &&& 31))) = 4 by decide, own_zm2, h]
    exact congrArg (fun t => some (_, t)) (own_eqV R (own_S R) 15 4 _ _ _ _ rfl)
  · rw [own_po 40 (setA (setA (setA (own_U R 15) 0 1 2) 1 1 1) 2 1 0) 1 1 R 0 4 3 3 (by decide) rfl rfl (own_unv R) own_cc0 (by omega) (by omega) h own_nc0_3, show ix (1 : Int32) = 1 from rfl, show (setA (setA (setA (own_U R 15) 0 1 2) 1 1 1) 2 1 0).2 2 1 = (0 : Int32) from rfl, show ((0 : Int32) ||| ((1 : Int32) <<< (Int32.ofNat 3 &&& 31))) = 8 by decide, own_zm3, h]
    exact congrArg (fun t => some (_, t)) (own_eqV R (own_S R) 15 8 _ _ _ _ rfl)
theorem own_f0_0 (R v0 v1 : Int32) : (f_law_166 40 40 v0 v1 0 0 0 (own_V R 1)).map Prod.fst = some 1 := by
  rw [g_law_166E]
  cbv
theorem own_f0_1 (R v0 v1 : Int32) : (f_law_166 40 40 v0 v1 1 0 0 (own_V R 2)).map Prod.fst = some 1 := by
  rw [g_law_166E]
  cbv
theorem own_f0_2 (R v0 v1 : Int32) : (f_law_166 40 40 v0 v1 2 0 0 (own_V R 4)).map Prod.fst = some 1 := by
  rw [g_law_166E]
  cbv
theorem own_f0_3 (R v0 v1 : Int32) : (f_law_166 40 40 v0 v1 3 0 0 (own_V R 8)).map Prod.fst = some 1 := by
  rw [g_law_166E]
  cbv
theorem own_f1_0 (R v0 v1 : Int32) : (f_law_166 40 40 v0 v1 0 1 0 (own_V R 1)).map Prod.fst = some 1 := by
  rw [g_law_166E]
  cbv
theorem own_f1_1 (R v0 v1 : Int32) : (f_law_166 40 40 v0 v1 1 1 0 (own_V R 2)).map Prod.fst = some 1 := by
  rw [g_law_166E]
  cbv
theorem own_f1_2 (R v0 v1 : Int32) : (f_law_166 40 40 v0 v1 2 1 0 (own_V R 4)).map Prod.fst = some 1 := by
  rw [g_law_166E]
  cbv
theorem own_f1_3 (R v0 v1 : Int32) : (f_law_166 40 40 v0 v1 3 1 0 (own_V R 8)).map Prod.fst = some 1 := by
  rw [g_law_166E]
  cbv
theorem own_f2_0 (R v0 v1 : Int32) : (f_law_166 40 40 v0 v1 0 2 0 (own_V R 1)).map Prod.fst = some 1 := by
  rw [g_law_166E]
  cbv
theorem own_f2_1 (R v0 v1 : Int32) : (f_law_166 40 40 v0 v1 1 2 0 (own_V R 2)).map Prod.fst = some 1 := by
  rw [g_law_166E]
  cbv
theorem own_f2_2 (R v0 v1 : Int32) : (f_law_166 40 40 v0 v1 2 2 0 (own_V R 4)).map Prod.fst = some 1 := by
  rw [g_law_166E]
  cbv
theorem own_f2_3 (R v0 v1 : Int32) : (f_law_166 40 40 v0 v1 3 2 0 (own_V R 8)).map Prod.fst = some 1 := by
  rw [g_law_166E]
  cbv
theorem own_f3_0 (R v0 v1 : Int32) : (f_law_166 40 40 v0 v1 0 3 0 (own_V R 1)).map Prod.fst = some 1 := by
  rw [g_law_166E]
  cbv
theorem own_f3_1 (R v0 v1 : Int32) : (f_law_166 40 40 v0 v1 1 3 0 (own_V R 2)).map Prod.fst = some 1 := by
  rw [g_law_166E]
  cbv
theorem own_f3_2 (R v0 v1 : Int32) : (f_law_166 40 40 v0 v1 2 3 0 (own_V R 4)).map Prod.fst = some 1 := by
  rw [g_law_166E]
  cbv
theorem own_f3_3 (R v0 v1 : Int32) : (f_law_166 40 40 v0 v1 3 3 0 (own_V R 8)).map Prod.fst = some 1 := by
  rw [g_law_166E]
  cbv
theorem own_map {x : Option (Int32 × St)} (h : x.map Prod.fst = some 1) : ∃ w, x = some (1, w) := by
  cases x with
  | none => exact absurd h (by simp)
  | some p => obtain ⟨a, w⟩ := p; exact ⟨w, by simp at h; rw [h]⟩
theorem own_fin (R v0 v1 : Int32) (t s : Nat) (ht : t < 4) (hs : s < 4) : ∃ w, f_law_166 40 40 v0 v1 (Int32.ofNat s) (Int32.ofNat t) 0 (own_V R (Int32.ofNat (2 ^ s))) = some (1, w) := by
  have h1 : t = 0 ∨ t = 1 ∨ t = 2 ∨ t = 3 := by omega
  have h2 : s = 0 ∨ s = 1 ∨ s = 2 ∨ s = 3 := by omega
  rcases h1 with rfl | rfl | rfl | rfl <;> rcases h2 with rfl | rfl | rfl | rfl
  · exact own_map (own_f0_0 R v0 v1)
  · exact own_map (own_f0_1 R v0 v1)
  · exact own_map (own_f0_2 R v0 v1)
  · exact own_map (own_f0_3 R v0 v1)
  · exact own_map (own_f1_0 R v0 v1)
  · exact own_map (own_f1_1 R v0 v1)
  · exact own_map (own_f1_2 R v0 v1)
  · exact own_map (own_f1_3 R v0 v1)
  · exact own_map (own_f2_0 R v0 v1)
  · exact own_map (own_f2_1 R v0 v1)
  · exact own_map (own_f2_2 R v0 v1)
  · exact own_map (own_f2_3 R v0 v1)
  · exact own_map (own_f3_0 R v0 v1)
  · exact own_map (own_f3_1 R v0 v1)
  · exact own_map (own_f3_2 R v0 v1)
  · exact own_map (own_f3_3 R v0 v1)
/-- one turn of the first loop: what alloc gave is taken down -/
theorem own_turn {k : Nat} (x1 x2 x3 R : Int32) (i b z : Nat) (S T : St) (hi : i < 4) (hb : b < 16) (hz : z < 4) (hc : b / 2 ^ z % 2 = 0) (e : f_alloc 40 2 S = some (Int32.ofNat (4 * z), T)) :
    f_law_40 40 (k + 1) x1 x2 x3 R (Int32.ofNat b) (Int32.ofNat i) S = f_law_40 40 k x1 x2 x3 (own_S R) (Int32.ofNat (b + 2 ^ z)) (Int32.ofNat (i + 1)) T := by
  have hq : ∀ z, z < 4 → Int32.ofNat (4 * z) % 4 = 0 ∧ (Int32.ofNat (4 * z) / 4) &&& 31 = Int32.ofNat z ∧ ¬ Int32.ofNat (4 * z) < 0 ∧ ¬ (15 : Int32) < Int32.ofNat (4 * z) := by decide +kernel
  have ho : ∀ b, b < 16 → ∀ z, z < 4 → b / 2 ^ z % 2 = 0 → Int32.ofNat b ||| ((1 : Int32) <<< Int32.ofNat z) = Int32.ofNat (b + 2 ^ z) := by decide +kernel
  obtain ⟨q1, q2, q3, q4⟩ := hq z hz
  rw [u_law_40, if_pos (ltZ (z := 4) 4 rfl hi (by omega)), e]
  simp only [Option.bind_some]
  rw [if_neg q3, if_neg q4, if_pos q1, bnd_eq, q2, ho b hb z hz hc, N_succ, own_hst]
  simp only [Option.bind_some]
theorem own_end {k : Nat} (x1 x2 x3 R : Int32) : ∃ w, f_law_40 40 (k + 1) x1 x2 x3 R 15 4 (own_U R 15) = some (1, w) := by
  obtain ⟨t, ht, -, h3⟩ : ∃ t : Nat, x1 &&& 3 = Int32.ofNat t ∧ 0 ≤ t ∧ t ≤ 3 := by
    have := and_rng x1 (m := 3) (by omega)
    rw [show Int32.ofNat 3 = (3 : Int32) from rfl] at this
    exact own_nat (by omega) (by omega)
  have hm := Nat.mod_lt (own_rho R) (show 0 < 4 by omega)
  obtain ⟨e1, e2⟩ := own_rhoE R
  have ev : ((XT.ushr (own_S R) 16) &&& 32767) % (4 : Int32) = Int32.ofNat (own_rho R % 4) := by
    rw [e1, show (4 : Int32) = Int32.ofNat 4 from rfl, rem_N (by omega) (by omega) (by omega)]
  have ea : Int32.ofNat (16 + 4 * (own_rho R % 4)) = 16 + Int32.ofNat (own_rho R % 4) * 4 := by
    have : ∀ z, z < 4 → Int32.ofNat (16 + 4 * z) = 16 + Int32.ofNat z * 4 := by decide +kernel
    exact this _ hm
  rw [u_law_40, if_neg (by decide), if_pos rfl, own_hst]
  rw [Option.bind_some, bnd_eq, ev, own_a15, Option.bind_some, if_pos ea, own_rs, Option.bind_some, if_pos rfl, ht]
  exact own_fin (own_S R) x2 x3 t (own_rho R % 4) (by omega) hm
theorem own_go (k : Nat) (x1 x2 x3 R : Int32) : ∃ w, f_law_40 40 (k + 5) x1 x2 x3 R 0 0 (own_I R) = some (1, w) := by
  have step : ∀ b, 1 ≤ b → b < 15 → ∀ R, ∃ z : Nat, z < 4 ∧ b / 2 ^ z % 2 = 0 ∧ f_alloc 40 2 (own_U R (Int32.ofNat b)) = some (Int32.ofNat (4 * z), own_U (own_S R) (Int32.ofNat (b + 2 ^ z))) := by
    intro b h1 h2 R
    have : b = 1 ∨ b = 2 ∨ b = 3 ∨ b = 4 ∨ b = 5 ∨ b = 6 ∨ b = 7 ∨ b = 8 ∨ b = 9 ∨ b = 10 ∨ b = 11 ∨ b = 12 ∨ b = 13 ∨ b = 14 := by omega
    rcases this with rfl | rfl | rfl | rfl | rfl | rfl | rfl | rfl | rfl | rfl | rfl | rfl | rfl | rfl
    · exact own_a1 R
    · exact own_a2 R
    · exact own_a3 R
    · exact own_a4 R
    · exact own_a5 R
    · exact own_a6 R
    · exact own_a7 R
    · exact own_a8 R
    · exact own_a9 R
    · exact own_a10 R
    · exact own_a11 R
    · exact own_a12 R
    · exact own_a13 R
    · exact own_a14 R
  obtain ⟨z0, h0, c0, e0⟩ := own_a0 R
  have t0 := own_turn (k := k + 4) x1 x2 x3 R 0 0 z0 _ _ (by omega) (by omega) h0 c0 e0
  rw [show f_law_40 40 (k + 5) x1 x2 x3 R 0 0 (own_I R) = _ from t0]
  have pw : ∀ z, z < 4 → 2 ^ z = 1 ∨ 2 ^ z = 2 ∨ 2 ^ z = 4 ∨ 2 ^ z = 8 := by decide
  have all1 : ∀ z0, z0 < 4 → ∀ z1, z1 < 4 → (0 + 2 ^ z0) / 2 ^ z1 % 2 = 0 → 1 ≤ 0 + 2 ^ z0 + 2 ^ z1 ∧ 0 + 2 ^ z0 + 2 ^ z1 < 15 := by decide +kernel
  have all2 : ∀ z0, z0 < 4 → ∀ z1, z1 < 4 → ∀ z2, z2 < 4 → (0 + 2 ^ z0) / 2 ^ z1 % 2 = 0 → (0 + 2 ^ z0 + 2 ^ z1) / 2 ^ z2 % 2 = 0 → 1 ≤ 0 + 2 ^ z0 + 2 ^ z1 + 2 ^ z2 ∧ 0 + 2 ^ z0 + 2 ^ z1 + 2 ^ z2 < 15 := by
    intro z0 h0 z1 h1 z2 h2
    rcases pw z0 h0 with a | a | a | a <;> rcases pw z1 h1 with b | b | b | b <;> rcases pw z2 h2 with c | c | c | c <;> rw [a, b, c] <;> omega
  have all3 : ∀ z0, z0 < 4 → ∀ z1, z1 < 4 → ∀ z2, z2 < 4 → ∀ z3, z3 < 4 → (0 + 2 ^ z0) / 2 ^ z1 % 2 = 0 → (0 + 2 ^ z0 + 2 ^ z1) / 2 ^ z2 % 2 = 0 → (0 + 2 ^ z0 + 2 ^ z1 + 2 ^ z2) / 2 ^ z3 % 2 = 0 → 0 + 2 ^ z0 + 2 ^ z1 + 2 ^ z2 + 2 ^ z3 = 15 := by
    intro z0 h0 z1 h1 z2 h2 z3 h3
    rcases pw z0 h0 with a | a | a | a <;> rcases pw z1 h1 with b | b | b | b <;> rcases pw z2 h2 with c | c | c | c <;> rcases pw z3 h3 with d | d | d | d <;> rw [a, b, c, d] <;> omega
  have r0 : 1 ≤ 0 + 2 ^ z0 ∧ 0 + 2 ^ z0 < 15 := by rcases pw z0 h0 with h | h | h | h <;> omega
  obtain ⟨z1, h1, c1, e1⟩ := step _ r0.1 r0.2 (own_S R)
  obtain ⟨a1, a2⟩ := all1 z0 h0 z1 h1 c1
  obtain ⟨z2, h2, c2, e2⟩ := step _ a1 a2 (own_S (own_S R))
  obtain ⟨b1, b2⟩ := all2 z0 h0 z1 h1 z2 h2 c1 c2
  obtain ⟨z3, h3, c3, e3⟩ := step _ b1 b2 (own_S (own_S (own_S R)))
  have f3 := all3 z0 h0 z1 h1 z2 h2 z3 h3 c1 c2 c3
  rw [own_turn (k := k + 3) x1 x2 x3 (own_S R) 1 _ z1 _ _ (by omega) (by omega) h1 c1 e1, own_turn (k := k + 2) x1 x2 x3 _ 2 _ z2 _ _ (by omega) (by omega) h2 c2 e2, own_turn (k := k + 1) x1 x2 x3 _ 3 _ z3 _ _ (by omega) (by omega) h3 c3 e3, f3]
  exact own_end (k := k) x1 x2 x3 _
theorem plain (a x1 x2 x3 : Int32) : ∃ n w, f_law n a x1 x2 x3 = some (1, w) := by
  refine ⟨40, ?_⟩
  unfold f_law
  rw [own_c 40 (by omega)]
  simp only [Option.bind_some]
  unfold f_law_10 f_law_32 own_cl
  by_cases q : a < 0
  · simp only [q, if_true]; exact own_go 35 _ _ _ _
  · by_cases q2 : 65535 < a
    · simp only [q, q2, if_true, if_false]; exact own_go 35 _ _ _ _
    · simp only [q, q2, if_false]; exact own_go 35 _ _ _ _
theorem main_1_1 : Claimed_1_1 := comes_1 plain fun _ _ _ _ _ _ h hF => ⟨h.1, hF⟩
theorem main_1_2 : Claimed_1_2 := comes_1 plain fun _ _ _ _ _ _ h hF => ⟨h.2.1, hF⟩

end Jvm.Pilot.@@N@@
namespace Jvm.Pilot.@@N@@
open Jvm Jvm.ClassFile Sem Op Lib Jvm.Free Jvm.Stand Jvm.Pilot.@@N@@.Jvm.D
/-! MADE BY PROGRAM (witnessworld.py) out of the Statement's table words and the real class files: 9 classes; the members and pool entries that the words name. The judged class is class 1, her method 2. -/
namespace start1
open Jvm.ClassFile
def u (s : String) : CpInfo := .utf8 (stringToUtf16 s)
/-- a pool by its gaps: so many unusable entries, then the entry; so many at the end -/
def gap : Nat → List CpInfo → List CpInfo
  | 0, r => r
  | n + 1, r => .unusable :: gap n r
def poolList (es : List (Nat × CpInfo)) (last : Nat) : List CpInfo := es.foldr (fun e r => gap e.1 (e.2 :: r)) (gap last [])
def pool (es : List (Nat × CpInfo)) (last : Nat) : Array CpInfo := ⟨poolList es last⟩
def fileOf (pool : Array CpInfo) (this : Nat) (attrs : Array Attribute := #[]) (ms : Array MethodInfo := #[]) (fl : Nat := 33) (sup : Nat := 0) (ifs : Array Nat := #[]) (fds : Array FieldInfo := #[]) : ClassFile where
  minorVersion := 0
  majorVersion := 65
  constantPool := pool
  accessFlags := fl
  thisClass := this
  superClass := sup
  interfaces := ifs
  fields := fds
  methods := ms
  attributes := attrs
def plain (name : String) (sup : Option ClassId) : Class where
  name := name
  kind := .ordinary
  loader := none
  accessFlags := 33
  super := sup
  interfaces := #[]
  cf := none
  fields := #[]
  methods := #[]
  instanceTypes := #[]
  staticTypes := #[]
  resolved := #[]
  callSites := []
  init := .initialized
  statics := none
  mirror := none

def pool0 : Array CpInfo := pool [(5, u "<init>"), (0, u "()V"), (1, .class_ 10), (1, u "java/lang/Object")] 113

def k0c0 : Code := { maxStack := 0, maxLocals := 1, code := object_method_1_code, exceptionTable := #[], attributes := #[] }
def k0m0 : Method := { name := "<init>", desc := "()V", sig := { parameters := [], returnType := none }, accessFlags := 1, code := some k0c0 }
/-- java/lang/Object -/
def k0 : Class := { plain "java/lang/Object" none with
  accessFlags := 33
  interfaces := #[]
  cf := some (fileOf pool0 8 #[] #[{ accessFlags := 1, nameIndex := 5, descriptorIndex := 6, attributes := #[] }] 33 0 #[] #[])
  fields := #[]
  methods := #[k0m0]
  instanceTypes := #[]
  staticTypes := #[]
  resolved := Array.replicate 124 none
  statics := none }

def pool1 : Array CpInfo := pool [(2, .class_ 4), (1, u "java/lang/Object"), (0, u "<init>"), (0, u "()V"), (0, .integer 1103515245), (0, .class_ 9), (0, u "MeshAllocatorX"), (0, .methodref 8 11), (0, .nameAndType 5 12), (0, u "(III)V"), (0, .integer 65535), (0, .methodref 8 15), (0, .nameAndType 16 17), (0, u "alloc"), (0, u "(I)I"), (0, .methodref 19 20), (0, .class_ 21), (0, .nameAndType 22 17), (0, u "MeshAllocatorXL3"), (0, u "step"), (0, .methodref 8 24), (0, .nameAndType 25 26), (0, u "rngState"), (0, u "()I"), (0, .methodref 8 28), (0, .nameAndType 29 30), (0, u "free"), (0, u "(I)Z"), (0, .methodref 8 32), (0, .nameAndType 33 34), (0, u "write"), (0, u "(II)Z"), (0, .methodref 8 36), (0, .nameAndType 37 26), (0, u "mesh"), (0, .methodref 8 39), (0, .nameAndType 40 17), (0, u "frameOf"), (0, .methodref 8 42), (0, .nameAndType 43 26), (0, u "framesInUse"), (0, .methodref 8 45), (0, .nameAndType 46 17), (0, u "frameBits"), (0, .methodref 8 48), (0, .nameAndType 49 17), (0, u "pageBits"), (0, .methodref 8 51), (0, .nameAndType 52 17), (0, u "read"), (0, .methodref 8 54), (0, .nameAndType 55 26), (0, u "liveObjects"), (0, .methodref 8 57), (0, .nameAndType 58 26), (0, u "pagesInUse"), (2, u "law"), (0, u "(IIII)Z")] 3

def k1m0 : Method := { name := "<init>", desc := "()V", sig := { parameters := [], returnType := none }, accessFlags := 1, code := none }
def k1c1 : Code := { maxStack := 2, maxLocals := 1, code := method_2_code, exceptionTable := #[], attributes := #[] }
def k1m1 : Method := { name := "step", desc := "(I)I", sig := { parameters := [.int], returnType := some .int }, accessFlags := 10, code := some k1c1 }
def k1c2 : Code := { maxStack := 5, maxLocals := 10, code := code, exceptionTable := #[], attributes := #[] }
def k1m2 : Method := { name := "law", desc := "(IIII)Z", sig := { parameters := [.int, .int, .int, .int], returnType := some .boolean }, accessFlags := 9, code := some k1c2 }
/-- MeshAllocatorXL3 -/
def k1 : Class := { plain "MeshAllocatorXL3" (some 0) with
  accessFlags := 49
  interfaces := #[]
  cf := some (fileOf pool1 19 #[] #[{ accessFlags := 1, nameIndex := 5, descriptorIndex := 6, attributes := #[] }, { accessFlags := 10, nameIndex := 22, descriptorIndex := 17, attributes := #[] }, { accessFlags := 9, nameIndex := 61, descriptorIndex := 62, attributes := #[] }] 49 2 #[] #[])
  fields := #[]
  methods := #[k1m0, k1m1, k1m2]
  instanceTypes := #[]
  staticTypes := #[]
  resolved := Array.replicate 66 none
  statics := none }

def pool2 : Array CpInfo := pool [(1, .methodref 2 3), (0, .class_ 4), (0, .nameAndType 5 6), (0, u "java/lang/Object"), (0, u "<init>"), (0, u "()V"), (0, .fieldref 8 9), (0, .class_ 10), (0, .nameAndType 11 12), (0, u "MeshAllocatorX"), (0, u "pcls"), (0, u "[I"), (0, .fieldref 8 14), (0, .nameAndType 15 12), (0, u "pframe"), (0, .fieldref 8 17), (0, .nameAndType 18 12), (0, u "pbits"), (0, .fieldref 8 20), (0, .nameAndType 21 12), (0, u "mem"), (0, .methodref 8 23), (0, .nameAndType 24 25), (0, u "clamp"), (0, u "(III)I"), (0, .fieldref 8 27), (0, .nameAndType 28 29), (0, u "numPages"), (0, u "I"), (0, .fieldref 8 31), (0, .nameAndType 32 29), (0, u "numFrames"), (0, .integer 65535), (0, .fieldref 8 35), (0, .nameAndType 36 29), (0, u "rng"), (0, .integer 1103515245), (0, .methodref 8 39), (0, .nameAndType 40 41), (0, u "slotsOf"), (0, u "(I)I"), (0, .methodref 8 43), (0, .nameAndType 44 41), (0, u "unionOf"), (0, .methodref 8 46), (0, .nameAndType 47 48), (0, u "countClear"), (0, u "(II)I"), (0, .methodref 8 50), (0, .nameAndType 51 41), (0, u "frameClass"), (0, .methodref 8 53), (0, .nameAndType 54 41), (0, u "findEligible"), (0, .methodref 8 56), (0, .nameAndType 57 58), (0, u "lowestUnusedPage"), (0, u "()I"), (0, .methodref 8 60), (0, .nameAndType 61 58), (0, u "lowestFreeFrame"), (0, .methodref 8 63), (0, .nameAndType 64 48), (0, u "placeObject"), (0, .methodref 8 66), (0, .nameAndType 67 41), (0, u "sizeOf"), (0, .methodref 8 69), (0, .nameAndType 70 58), (0, u "step"), (0, .methodref 8 72), (0, .nameAndType 73 25), (0, u "nthClear"), (0, .methodref 8 75), (0, .nameAndType 76 41), (0, u "liveIndex"), (0, .methodref 8 78), (0, .nameAndType 79 48), (0, u "meshInto"), (0, .methodref 8 81), (0, .nameAndType 82 83), (0, u "mergeFrames"), (0, u "(IIII)V"), (0, .methodref 8 85), (0, .nameAndType 86 41), (0, u "popCount"), (0, u "WORDS_PER_PAGE"), (2, u "NO_CLASS"), (1, u "NO_FRAME"), (0, u "ERR_CLASS"), (0, u "ERR_NO_PAGE"), (1, u "ERR_NO_FRAME"), (1, u "(III)V"), (3, u "alloc"), (0, u "free"), (0, u "(I)Z"), (0, u "write"), (0, u "(II)Z"), (0, u "read"), (1, u "mesh"), (1, u "frameOf"), (0, u "pageBits"), (0, u "frameBits"), (0, u "framesInUse"), (0, u "pagesInUse"), (0, u "liveObjects"), (0, u "rngState")] 2

def k2c0 : Code := { maxStack := 5, maxLocals := 5, code := prog_1_method_1_code, exceptionTable := #[], attributes := #[] }
def k2m0 : Method := { name := "<init>", desc := "(III)V", sig := { parameters := [.int, .int, .int], returnType := none }, accessFlags := 1, code := some k2c0 }
def k2c1 : Code := { maxStack := 2, maxLocals := 4, code := prog_1_method_2_code, exceptionTable := #[], attributes := #[] }
def k2m1 : Method := { name := "clamp", desc := "(III)I", sig := { parameters := [.int, .int, .int], returnType := some .int }, accessFlags := 2, code := some k2c1 }
def k2c2 : Code := { maxStack := 2, maxLocals := 2, code := prog_1_method_3_code, exceptionTable := #[], attributes := #[] }
def k2m2 : Method := { name := "slotsOf", desc := "(I)I", sig := { parameters := [.int], returnType := some .int }, accessFlags := 2, code := some k2c2 }
def k2c3 : Code := { maxStack := 2, maxLocals := 2, code := prog_1_method_4_code, exceptionTable := #[], attributes := #[] }
def k2m3 : Method := { name := "sizeOf", desc := "(I)I", sig := { parameters := [.int], returnType := some .int }, accessFlags := 2, code := some k2c3 }
def k2c4 : Code := { maxStack := 3, maxLocals := 1, code := prog_1_method_5_code, exceptionTable := #[], attributes := #[] }
def k2m4 : Method := { name := "step", desc := "()I", sig := { parameters := [], returnType := some .int }, accessFlags := 2, code := some k2c4 }
def k2c5 : Code := { maxStack := 3, maxLocals := 4, code := prog_1_method_6_code, exceptionTable := #[], attributes := #[] }
def k2m5 : Method := { name := "unionOf", desc := "(I)I", sig := { parameters := [.int], returnType := some .int }, accessFlags := 2, code := some k2c5 }
def k2c6 : Code := { maxStack := 2, maxLocals := 3, code := prog_1_method_7_code, exceptionTable := #[], attributes := #[] }
def k2m6 : Method := { name := "frameClass", desc := "(I)I", sig := { parameters := [.int], returnType := some .int }, accessFlags := 2, code := some k2c6 }
def k2c7 : Code := { maxStack := 2, maxLocals := 5, code := prog_1_method_8_code, exceptionTable := #[], attributes := #[] }
def k2m7 : Method := { name := "countClear", desc := "(II)I", sig := { parameters := [.int, .int], returnType := some .int }, accessFlags := 2, code := some k2c7 }
def k2c8 : Code := { maxStack := 2, maxLocals := 6, code := prog_1_method_9_code, exceptionTable := #[], attributes := #[] }
def k2m8 : Method := { name := "nthClear", desc := "(III)I", sig := { parameters := [.int, .int, .int], returnType := some .int }, accessFlags := 2, code := some k2c8 }
def k2c9 : Code := { maxStack := 2, maxLocals := 4, code := prog_1_method_10_code, exceptionTable := #[], attributes := #[] }
def k2m9 : Method := { name := "popCount", desc := "(I)I", sig := { parameters := [.int], returnType := some .int }, accessFlags := 2, code := some k2c9 }
def k2c10 : Code := { maxStack := 3, maxLocals := 5, code := prog_1_method_11_code, exceptionTable := #[], attributes := #[] }
def k2m10 : Method := { name := "findEligible", desc := "(I)I", sig := { parameters := [.int], returnType := some .int }, accessFlags := 2, code := some k2c10 }
def k2c11 : Code := { maxStack := 2, maxLocals := 2, code := prog_1_method_12_code, exceptionTable := #[], attributes := #[] }
def k2m11 : Method := { name := "lowestUnusedPage", desc := "()I", sig := { parameters := [], returnType := some .int }, accessFlags := 2, code := some k2c11 }
def k2c12 : Code := { maxStack := 2, maxLocals := 2, code := prog_1_method_13_code, exceptionTable := #[], attributes := #[] }
def k2m12 : Method := { name := "lowestFreeFrame", desc := "()I", sig := { parameters := [], returnType := some .int }, accessFlags := 2, code := some k2c12 }
def k2c13 : Code := { maxStack := 3, maxLocals := 4, code := prog_1_method_14_code, exceptionTable := #[], attributes := #[] }
def k2m13 : Method := { name := "alloc", desc := "(I)I", sig := { parameters := [.int], returnType := some .int }, accessFlags := 1, code := some k2c13 }
def k2c14 : Code := { maxStack := 5, maxLocals := 13, code := prog_1_method_15_code, exceptionTable := #[], attributes := #[] }
def k2m14 : Method := { name := "placeObject", desc := "(II)I", sig := { parameters := [.int, .int], returnType := some .int }, accessFlags := 2, code := some k2c14 }
def k2c15 : Code := { maxStack := 5, maxLocals := 7, code := prog_1_method_16_code, exceptionTable := #[], attributes := #[] }
def k2m15 : Method := { name := "free", desc := "(I)Z", sig := { parameters := [.int], returnType := some .boolean }, accessFlags := 1, code := some k2c15 }
def k2c16 : Code := { maxStack := 3, maxLocals := 7, code := prog_1_method_17_code, exceptionTable := #[], attributes := #[] }
def k2m16 : Method := { name := "liveIndex", desc := "(I)I", sig := { parameters := [.int], returnType := some .int }, accessFlags := 2, code := some k2c16 }
def k2c17 : Code := { maxStack := 3, maxLocals := 4, code := prog_1_method_18_code, exceptionTable := #[], attributes := #[] }
def k2m17 : Method := { name := "write", desc := "(II)Z", sig := { parameters := [.int, .int], returnType := some .boolean }, accessFlags := 1, code := some k2c17 }
def k2c18 : Code := { maxStack := 2, maxLocals := 3, code := prog_1_method_19_code, exceptionTable := #[], attributes := #[] }
def k2m18 : Method := { name := "read", desc := "(I)I", sig := { parameters := [.int], returnType := some .int }, accessFlags := 1, code := some k2c18 }
def k2c19 : Code := { maxStack := 4, maxLocals := 4, code := prog_1_method_21_code, exceptionTable := #[], attributes := #[] }
def k2m19 : Method := { name := "mesh", desc := "()I", sig := { parameters := [], returnType := some .int }, accessFlags := 1, code := some k2c19 }
def k2c20 : Code := { maxStack := 5, maxLocals := 7, code := prog_1_method_22_code, exceptionTable := #[], attributes := #[] }
def k2m20 : Method := { name := "meshInto", desc := "(II)I", sig := { parameters := [.int, .int], returnType := some .int }, accessFlags := 2, code := some k2c20 }
def k2c21 : Code := { maxStack := 5, maxLocals := 10, code := prog_1_method_23_code, exceptionTable := #[], attributes := #[] }
def k2m21 : Method := { name := "mergeFrames", desc := "(IIII)V", sig := { parameters := [.int, .int, .int, .int], returnType := none }, accessFlags := 2, code := some k2c21 }
def k2c22 : Code := { maxStack := 2, maxLocals := 2, code := prog_1_method_25_code, exceptionTable := #[], attributes := #[] }
def k2m22 : Method := { name := "frameOf", desc := "(I)I", sig := { parameters := [.int], returnType := some .int }, accessFlags := 1, code := some k2c22 }
def k2c23 : Code := { maxStack := 2, maxLocals := 2, code := prog_1_method_26_code, exceptionTable := #[], attributes := #[] }
def k2m23 : Method := { name := "pageBits", desc := "(I)I", sig := { parameters := [.int], returnType := some .int }, accessFlags := 1, code := some k2c23 }
def k2c24 : Code := { maxStack := 2, maxLocals := 2, code := prog_1_method_27_code, exceptionTable := #[], attributes := #[] }
def k2m24 : Method := { name := "frameBits", desc := "(I)I", sig := { parameters := [.int], returnType := some .int }, accessFlags := 1, code := some k2c24 }
def k2c25 : Code := { maxStack := 2, maxLocals := 3, code := prog_1_method_28_code, exceptionTable := #[], attributes := #[] }
def k2m25 : Method := { name := "framesInUse", desc := "()I", sig := { parameters := [], returnType := some .int }, accessFlags := 1, code := some k2c25 }
def k2c26 : Code := { maxStack := 2, maxLocals := 3, code := prog_1_method_29_code, exceptionTable := #[], attributes := #[] }
def k2m26 : Method := { name := "pagesInUse", desc := "()I", sig := { parameters := [], returnType := some .int }, accessFlags := 1, code := some k2c26 }
def k2c27 : Code := { maxStack := 4, maxLocals := 3, code := prog_1_method_30_code, exceptionTable := #[], attributes := #[] }
def k2m27 : Method := { name := "liveObjects", desc := "()I", sig := { parameters := [], returnType := some .int }, accessFlags := 1, code := some k2c27 }
def k2c28 : Code := { maxStack := 1, maxLocals := 1, code := prog_1_method_31_code, exceptionTable := #[], attributes := #[] }
def k2m28 : Method := { name := "rngState", desc := "()I", sig := { parameters := [], returnType := some .int }, accessFlags := 1, code := some k2c28 }
/-- MeshAllocatorX -/
def k2 : Class := { plain "MeshAllocatorX" (some 0) with
  accessFlags := 49
  interfaces := #[]
  cf := some (fileOf pool2 8 #[] #[{ accessFlags := 1, nameIndex := 5, descriptorIndex := 98, attributes := #[] }, { accessFlags := 2, nameIndex := 24, descriptorIndex := 25, attributes := #[] }, { accessFlags := 2, nameIndex := 40, descriptorIndex := 41, attributes := #[] }, { accessFlags := 2, nameIndex := 67, descriptorIndex := 41, attributes := #[] }, { accessFlags := 2, nameIndex := 70, descriptorIndex := 58, attributes := #[] }, { accessFlags := 2, nameIndex := 44, descriptorIndex := 41, attributes := #[] }, { accessFlags := 2, nameIndex := 51, descriptorIndex := 41, attributes := #[] }, { accessFlags := 2, nameIndex := 47, descriptorIndex := 48, attributes := #[] }, { accessFlags := 2, nameIndex := 73, descriptorIndex := 25, attributes := #[] }, { accessFlags := 2, nameIndex := 86, descriptorIndex := 41, attributes := #[] }, { accessFlags := 2, nameIndex := 54, descriptorIndex := 41, attributes := #[] }, { accessFlags := 2, nameIndex := 57, descriptorIndex := 58, attributes := #[] }, { accessFlags := 2, nameIndex := 61, descriptorIndex := 58, attributes := #[] }, { accessFlags := 1, nameIndex := 102, descriptorIndex := 41, attributes := #[] }, { accessFlags := 2, nameIndex := 64, descriptorIndex := 48, attributes := #[] }, { accessFlags := 1, nameIndex := 103, descriptorIndex := 104, attributes := #[] }, { accessFlags := 2, nameIndex := 76, descriptorIndex := 41, attributes := #[] }, { accessFlags := 1, nameIndex := 105, descriptorIndex := 106, attributes := #[] }, { accessFlags := 1, nameIndex := 107, descriptorIndex := 41, attributes := #[] }, { accessFlags := 1, nameIndex := 109, descriptorIndex := 58, attributes := #[] }, { accessFlags := 2, nameIndex := 79, descriptorIndex := 48, attributes := #[] }, { accessFlags := 2, nameIndex := 82, descriptorIndex := 83, attributes := #[] }, { accessFlags := 1, nameIndex := 111, descriptorIndex := 41, attributes := #[] }, { accessFlags := 1, nameIndex := 112, descriptorIndex := 41, attributes := #[] }, { accessFlags := 1, nameIndex := 113, descriptorIndex := 41, attributes := #[] }, { accessFlags := 1, nameIndex := 114, descriptorIndex := 58, attributes := #[] }, { accessFlags := 1, nameIndex := 115, descriptorIndex := 58, attributes := #[] }, { accessFlags := 1, nameIndex := 116, descriptorIndex := 58, attributes := #[] }, { accessFlags := 1, nameIndex := 117, descriptorIndex := 58, attributes := #[] }] 49 2 #[] #[{ accessFlags := 25, nameIndex := 87, descriptorIndex := 29, attributes := #[] }, { accessFlags := 25, nameIndex := 90, descriptorIndex := 29, attributes := #[] }, { accessFlags := 25, nameIndex := 92, descriptorIndex := 29, attributes := #[] }, { accessFlags := 25, nameIndex := 93, descriptorIndex := 29, attributes := #[] }, { accessFlags := 25, nameIndex := 94, descriptorIndex := 29, attributes := #[] }, { accessFlags := 25, nameIndex := 96, descriptorIndex := 29, attributes := #[] }, { accessFlags := 2, nameIndex := 28, descriptorIndex := 29, attributes := #[] }, { accessFlags := 2, nameIndex := 32, descriptorIndex := 29, attributes := #[] }, { accessFlags := 2, nameIndex := 36, descriptorIndex := 29, attributes := #[] }, { accessFlags := 2, nameIndex := 11, descriptorIndex := 12, attributes := #[] }, { accessFlags := 2, nameIndex := 15, descriptorIndex := 12, attributes := #[] }, { accessFlags := 2, nameIndex := 18, descriptorIndex := 12, attributes := #[] }, { accessFlags := 2, nameIndex := 21, descriptorIndex := 12, attributes := #[] }])
  fields := #[{ name := "WORDS_PER_PAGE", type := .int, accessFlags := 25, slot := 0, constantValue := 0 }, { name := "NO_CLASS", type := .int, accessFlags := 25, slot := 1, constantValue := 0 }, { name := "NO_FRAME", type := .int, accessFlags := 25, slot := 2, constantValue := 0 }, { name := "ERR_CLASS", type := .int, accessFlags := 25, slot := 3, constantValue := 0 }, { name := "ERR_NO_PAGE", type := .int, accessFlags := 25, slot := 4, constantValue := 0 }, { name := "ERR_NO_FRAME", type := .int, accessFlags := 25, slot := 5, constantValue := 0 }, { name := "numPages", type := .int, accessFlags := 2, slot := 0, constantValue := 0 }, { name := "numFrames", type := .int, accessFlags := 2, slot := 1, constantValue := 0 }, { name := "rng", type := .int, accessFlags := 2, slot := 2, constantValue := 0 }, { name := "pcls", type := (.array .int), accessFlags := 2, slot := 3, constantValue := 0 }, { name := "pframe", type := (.array .int), accessFlags := 2, slot := 4, constantValue := 0 }, { name := "pbits", type := (.array .int), accessFlags := 2, slot := 5, constantValue := 0 }, { name := "mem", type := (.array .int), accessFlags := 2, slot := 6, constantValue := 0 }]
  methods := #[k2m0, k2m1, k2m2, k2m3, k2m4, k2m5, k2m6, k2m7, k2m8, k2m9, k2m10, k2m11, k2m12, k2m13, k2m14, k2m15, k2m16, k2m17, k2m18, k2m19, k2m20, k2m21, k2m22, k2m23, k2m24, k2m25, k2m26, k2m27, k2m28]
  instanceTypes := #[.int, .int, .int, (.array .int), (.array .int), (.array .int), (.array .int)]
  staticTypes := #[.int, .int, .int, .int, .int, .int]
  resolved := Array.replicate 120 none
  statics := none }

def pool3 : Array CpInfo := pool [(1, u "java/lang/Cloneable"), (0, .class_ 1), (0, u "java/lang/Object"), (0, .class_ 3)] 3

/-- java/lang/Cloneable -/
def k3 : Class := { plain "java/lang/Cloneable" (some 0) with
  accessFlags := 1537
  interfaces := #[]
  cf := some (fileOf pool3 2 #[] #[] 1537 4 #[] #[])
  fields := #[]
  methods := #[]
  instanceTypes := #[]
  staticTypes := #[]
  resolved := Array.replicate 8 none
  statics := none }

def pool4 : Array CpInfo := pool [(1, u "java/io/Serializable"), (0, .class_ 1), (0, u "java/lang/Object"), (0, .class_ 3)] 3

/-- java/io/Serializable -/
def k4 : Class := { plain "java/io/Serializable" (some 0) with
  accessFlags := 1537
  interfaces := #[]
  cf := some (fileOf pool4 2 #[] #[] 1537 4 #[] #[])
  fields := #[]
  methods := #[]
  instanceTypes := #[]
  staticTypes := #[]
  resolved := Array.replicate 8 none
  statics := none }

/-- the primitive byte -/
def k5 : Class := { plain "byte" none with kind := .primitive 'B', accessFlags := 0x411 }
/-- [B -/
def k6 : Class := { plain "[B" (some 0) with kind := .array 5 .byte, interfaces := #[3, 4], accessFlags := 1041 }

/-- the primitive int -/
def k7 : Class := { plain "int" none with kind := .primitive 'I', accessFlags := 0x411 }
/-- [I -/
def k8 : Class := { plain "[I" (some 0) with kind := .array 7 .int, interfaces := #[3, 4], accessFlags := 1041 }

def heap : Heap := #[]
def classes : Array Class := #[k0, k1, k2, k3, k4, k5, k6, k7, k8]
def interned : List (Array UInt16 × Addr) := []
def slotsUsed : Nat := 0
def theMethod : MethodId := ⟨1, 2⟩
def args0 : Array Value := #[.int 5, .int 5, .int 5, .int 5]
def aboutOver (below : List Frame) : State where
  vm := { classes := classes, interned := interned.toArray }
  heap := heap
  slotsUsed := slotsUsed
  threads := #[{ frames := .invoking theMethod args0 :: below }]
def below0 : List Frame := [.native { method := ⟨0, 0⟩, args := #[] }]
def about1 : State := aboutOver below0
def p0 : Program := .bare "" "" ""
def e0 : Env := launch0.env 0 0 0
theorem w_frames : about1.frames = Frame.invoking theMethod args0 :: below0 := rfl
set_option maxRecDepth 65536 in
theorem w_args : argsFit about1.vm theMethod args0 = true := by decide +kernel
set_option maxRecDepth 65536 in
theorem w_heap : heapFits about1 = true := by decide +kernel
set_option maxRecDepth 65536 in
theorem w_runnable : about1.curStatus? = some .runnable := by decide +kernel
set_option maxRecDepth 65536 in
theorem w_alone : about1.alone = true := by decide +kernel
set_option maxRecDepth 65536 in
theorem w_named : about1.methodNamed? x = some theMethod := by decide +kernel
set_option maxRecDepth 65536 in
theorem w_hears : about1.hears theMethod below0 = true := by decide +kernel
set_option maxRecDepth 65536 in
theorem w_ripe : about1.ripe theMethod args0 below0 = true := by decide +kernel
theorem w_running : about1.status = .running := rfl
set_option maxRecDepth 65536 in
theorem w_room : about1.hasRoom e0.platform room_1 = true :=
  launch0.hasRoom_least _ room_1 (by decide +kernel) (by decide +kernel) (by decide +kernel) (by decide +kernel) (by decide +kernel) (by decide +kernel)
theorem allAtoms_all (ts : List Jvm.Cond) (a : Array Jvm.Value) (st : Jvm.State) : (allAtoms ts).before a st = ts.all (fun c => c.before a st) := by
  induction ts with
  | nil => rfl
  | cons c t ih =>
    show (Jvm.Cond.and c (allAtoms t)).before a st = _
    rw [Jvm.Cond.before_and, ih, List.all_cons]
def words1 : List Jvm.Cond := Jvm.Cond.code x code maxLocals ret :: tables_1
/-- a 'code' word, met by the world's own term for the bytes: nothing is compared byte by byte -/
theorem code_word {y : MethodName} {bytes : ByteArray} {mx : Nat} {rt : Option FieldType} {a : Array Value} {s : State} {m : MethodId} {meth : Method} {c : Code} (h1 : s.methodNamed? y = some m) (h2 : s.vm.method? m = some meth) (h3 : meth.code = some c) (h4 : c.code = bytes)
    (h5 : (c.maxLocals == mx && c.exceptionTable.isEmpty && decide (c.maxStack ≤ mostOperands) && decide (meth.sig.returnType = rt) && !meth.locks && decide (parseMethodDescriptor y.desc = some meth.sig)) = true) : (Jvm.Cond.code y bytes mx rt).before a s = true := by
  simp only [Bool.and_eq_true, beq_iff_eq, Bool.not_eq_true', decide_eq_true_eq] at h5
  obtain ⟨⟨⟨⟨⟨g1, g2⟩, g3⟩, g4⟩, g5⟩, g6⟩ := h5
  simp [Cond.before, Cond.holds, Cond.value, h1, h2, h3, h4, g1, g2, g3, g4, g5, g6]
def isCode : Jvm.Cond → Bool
  | .code _ _ _ _ => true
  | _ => false
theorem all_split {L : List Jvm.Cond} {P : Jvm.Cond → Bool} (h1 : L.all (fun c => isCode c || P c) = true) (h2 : ∀ c ∈ L.filter isCode, P c = true) : L.all P = true := by
  refine List.all_eq_true.mpr fun c hc => ?_
  have h := List.all_eq_true.mp h1 c hc
  rcases Bool.eq_false_or_eq_true (isCode c) with hi | hi
  · exact h2 c (List.mem_filter.mpr ⟨hc, hi⟩)
  · simpa [hi] using h
set_option maxRecDepth 65536 in
theorem w_c0 : (Jvm.Cond.code x code maxLocals ret).before args0 about1 = true := code_word (m := ⟨1, 2⟩) (meth := k1m2) (c := k1c2) (by decide +kernel) rfl rfl rfl (by decide +kernel)
set_option maxRecDepth 65536 in
theorem w_c1 : (Jvm.Cond.code ({ cls := "MeshAllocatorX", name := "<init>", desc := "(III)V" } : Jvm.MethodName) prog_1_method_1_code (5 : Nat) (Option.none : Option Jvm.ClassFile.FieldType)).before args0 about1 = true := code_word (m := ⟨2, 0⟩) (meth := k2m0) (c := k2c0) (by decide +kernel) rfl rfl rfl (by decide +kernel)
set_option maxRecDepth 65536 in
theorem w_c2 : (Jvm.Cond.code ({ cls := "java/lang/Object", name := "<init>", desc := "()V" } : Jvm.MethodName) object_method_1_code (1 : Nat) (Option.none : Option Jvm.ClassFile.FieldType)).before args0 about1 = true := code_word (m := ⟨0, 0⟩) (meth := k0m0) (c := k0c0) (by decide +kernel) rfl rfl rfl (by decide +kernel)
set_option maxRecDepth 65536 in
theorem w_c3 : (Jvm.Cond.code ({ cls := "MeshAllocatorX", name := "clamp", desc := "(III)I" } : Jvm.MethodName) prog_1_method_2_code (4 : Nat) (Option.some Jvm.ClassFile.FieldType.int)).before args0 about1 = true := code_word (m := ⟨2, 1⟩) (meth := k2m1) (c := k2c1) (by decide +kernel) rfl rfl rfl (by decide +kernel)
set_option maxRecDepth 65536 in
theorem w_c4 : (Jvm.Cond.code ({ cls := "MeshAllocatorX", name := "alloc", desc := "(I)I" } : Jvm.MethodName) prog_1_method_14_code (4 : Nat) (Option.some Jvm.ClassFile.FieldType.int)).before args0 about1 = true := code_word (m := ⟨2, 13⟩) (meth := k2m13) (c := k2c13) (by decide +kernel) rfl rfl rfl (by decide +kernel)
set_option maxRecDepth 65536 in
theorem w_c5 : (Jvm.Cond.code ({ cls := "MeshAllocatorX", name := "findEligible", desc := "(I)I" } : Jvm.MethodName) prog_1_method_11_code (5 : Nat) (Option.some Jvm.ClassFile.FieldType.int)).before args0 about1 = true := code_word (m := ⟨2, 10⟩) (meth := k2m10) (c := k2c10) (by decide +kernel) rfl rfl rfl (by decide +kernel)
set_option maxRecDepth 65536 in
theorem w_c6 : (Jvm.Cond.code ({ cls := "MeshAllocatorX", name := "slotsOf", desc := "(I)I" } : Jvm.MethodName) prog_1_method_3_code (2 : Nat) (Option.some Jvm.ClassFile.FieldType.int)).before args0 about1 = true := code_word (m := ⟨2, 2⟩) (meth := k2m2) (c := k2c2) (by decide +kernel) rfl rfl rfl (by decide +kernel)
set_option maxRecDepth 65536 in
theorem w_c7 : (Jvm.Cond.code ({ cls := "MeshAllocatorX", name := "lowestUnusedPage", desc := "()I" } : Jvm.MethodName) prog_1_method_12_code (2 : Nat) (Option.some Jvm.ClassFile.FieldType.int)).before args0 about1 = true := code_word (m := ⟨2, 11⟩) (meth := k2m11) (c := k2c11) (by decide +kernel) rfl rfl rfl (by decide +kernel)
set_option maxRecDepth 65536 in
theorem w_c8 : (Jvm.Cond.code ({ cls := "MeshAllocatorX", name := "lowestFreeFrame", desc := "()I" } : Jvm.MethodName) prog_1_method_13_code (2 : Nat) (Option.some Jvm.ClassFile.FieldType.int)).before args0 about1 = true := code_word (m := ⟨2, 12⟩) (meth := k2m12) (c := k2c12) (by decide +kernel) rfl rfl rfl (by decide +kernel)
set_option maxRecDepth 65536 in
theorem w_c9 : (Jvm.Cond.code ({ cls := "MeshAllocatorX", name := "frameClass", desc := "(I)I" } : Jvm.MethodName) prog_1_method_7_code (3 : Nat) (Option.some Jvm.ClassFile.FieldType.int)).before args0 about1 = true := code_word (m := ⟨2, 6⟩) (meth := k2m6) (c := k2c6) (by decide +kernel) rfl rfl rfl (by decide +kernel)
set_option maxRecDepth 65536 in
theorem w_c10 : (Jvm.Cond.code ({ cls := "MeshAllocatorX", name := "placeObject", desc := "(II)I" } : Jvm.MethodName) prog_1_method_15_code (13 : Nat) (Option.some Jvm.ClassFile.FieldType.int)).before args0 about1 = true := code_word (m := ⟨2, 14⟩) (meth := k2m14) (c := k2c14) (by decide +kernel) rfl rfl rfl (by decide +kernel)
set_option maxRecDepth 65536 in
theorem w_c11 : (Jvm.Cond.code ({ cls := "MeshAllocatorX", name := "sizeOf", desc := "(I)I" } : Jvm.MethodName) prog_1_method_4_code (2 : Nat) (Option.some Jvm.ClassFile.FieldType.int)).before args0 about1 = true := code_word (m := ⟨2, 3⟩) (meth := k2m3) (c := k2c3) (by decide +kernel) rfl rfl rfl (by decide +kernel)
set_option maxRecDepth 65536 in
theorem w_c12 : (Jvm.Cond.code ({ cls := "MeshAllocatorX", name := "unionOf", desc := "(I)I" } : Jvm.MethodName) prog_1_method_6_code (4 : Nat) (Option.some Jvm.ClassFile.FieldType.int)).before args0 about1 = true := code_word (m := ⟨2, 5⟩) (meth := k2m5) (c := k2c5) (by decide +kernel) rfl rfl rfl (by decide +kernel)
set_option maxRecDepth 65536 in
theorem w_c13 : (Jvm.Cond.code ({ cls := "MeshAllocatorX", name := "countClear", desc := "(II)I" } : Jvm.MethodName) prog_1_method_8_code (5 : Nat) (Option.some Jvm.ClassFile.FieldType.int)).before args0 about1 = true := code_word (m := ⟨2, 7⟩) (meth := k2m7) (c := k2c7) (by decide +kernel) rfl rfl rfl (by decide +kernel)
set_option maxRecDepth 65536 in
theorem w_c14 : (Jvm.Cond.code ({ cls := "MeshAllocatorX", name := "step", desc := "()I" } : Jvm.MethodName) prog_1_method_5_code (1 : Nat) (Option.some Jvm.ClassFile.FieldType.int)).before args0 about1 = true := code_word (m := ⟨2, 4⟩) (meth := k2m4) (c := k2c4) (by decide +kernel) rfl rfl rfl (by decide +kernel)
set_option maxRecDepth 65536 in
theorem w_c15 : (Jvm.Cond.code ({ cls := "MeshAllocatorX", name := "nthClear", desc := "(III)I" } : Jvm.MethodName) prog_1_method_9_code (6 : Nat) (Option.some Jvm.ClassFile.FieldType.int)).before args0 about1 = true := code_word (m := ⟨2, 8⟩) (meth := k2m8) (c := k2c8) (by decide +kernel) rfl rfl rfl (by decide +kernel)
set_option maxRecDepth 65536 in
theorem w_c16 : (Jvm.Cond.code ({ cls := "MeshAllocatorXL3", name := "step", desc := "(I)I" } : Jvm.MethodName) method_2_code (1 : Nat) (Option.some Jvm.ClassFile.FieldType.int)).before args0 about1 = true := code_word (m := ⟨1, 1⟩) (meth := k1m1) (c := k1c1) (by decide +kernel) rfl rfl rfl (by decide +kernel)
set_option maxRecDepth 65536 in
theorem w_c17 : (Jvm.Cond.code ({ cls := "MeshAllocatorX", name := "rngState", desc := "()I" } : Jvm.MethodName) prog_1_method_31_code (1 : Nat) (Option.some Jvm.ClassFile.FieldType.int)).before args0 about1 = true := code_word (m := ⟨2, 28⟩) (meth := k2m28) (c := k2c28) (by decide +kernel) rfl rfl rfl (by decide +kernel)
set_option maxRecDepth 65536 in
theorem w_c18 : (Jvm.Cond.code ({ cls := "MeshAllocatorX", name := "free", desc := "(I)Z" } : Jvm.MethodName) prog_1_method_16_code (7 : Nat) (Option.some Jvm.ClassFile.FieldType.boolean)).before args0 about1 = true := code_word (m := ⟨2, 15⟩) (meth := k2m15) (c := k2c15) (by decide +kernel) rfl rfl rfl (by decide +kernel)
set_option maxRecDepth 65536 in
theorem w_c19 : (Jvm.Cond.code ({ cls := "MeshAllocatorX", name := "write", desc := "(II)Z" } : Jvm.MethodName) prog_1_method_18_code (4 : Nat) (Option.some Jvm.ClassFile.FieldType.boolean)).before args0 about1 = true := code_word (m := ⟨2, 17⟩) (meth := k2m17) (c := k2c17) (by decide +kernel) rfl rfl rfl (by decide +kernel)
set_option maxRecDepth 65536 in
theorem w_c20 : (Jvm.Cond.code ({ cls := "MeshAllocatorX", name := "liveIndex", desc := "(I)I" } : Jvm.MethodName) prog_1_method_17_code (7 : Nat) (Option.some Jvm.ClassFile.FieldType.int)).before args0 about1 = true := code_word (m := ⟨2, 16⟩) (meth := k2m16) (c := k2c16) (by decide +kernel) rfl rfl rfl (by decide +kernel)
set_option maxRecDepth 65536 in
theorem w_c21 : (Jvm.Cond.code ({ cls := "MeshAllocatorX", name := "mesh", desc := "()I" } : Jvm.MethodName) prog_1_method_21_code (4 : Nat) (Option.some Jvm.ClassFile.FieldType.int)).before args0 about1 = true := code_word (m := ⟨2, 19⟩) (meth := k2m19) (c := k2c19) (by decide +kernel) rfl rfl rfl (by decide +kernel)
set_option maxRecDepth 65536 in
theorem w_c22 : (Jvm.Cond.code ({ cls := "MeshAllocatorX", name := "meshInto", desc := "(II)I" } : Jvm.MethodName) prog_1_method_22_code (7 : Nat) (Option.some Jvm.ClassFile.FieldType.int)).before args0 about1 = true := code_word (m := ⟨2, 20⟩) (meth := k2m20) (c := k2c20) (by decide +kernel) rfl rfl rfl (by decide +kernel)
set_option maxRecDepth 65536 in
theorem w_c23 : (Jvm.Cond.code ({ cls := "MeshAllocatorX", name := "mergeFrames", desc := "(IIII)V" } : Jvm.MethodName) prog_1_method_23_code (10 : Nat) (Option.none : Option Jvm.ClassFile.FieldType)).before args0 about1 = true := code_word (m := ⟨2, 21⟩) (meth := k2m21) (c := k2c21) (by decide +kernel) rfl rfl rfl (by decide +kernel)
set_option maxRecDepth 65536 in
theorem w_c24 : (Jvm.Cond.code ({ cls := "MeshAllocatorX", name := "frameOf", desc := "(I)I" } : Jvm.MethodName) prog_1_method_25_code (2 : Nat) (Option.some Jvm.ClassFile.FieldType.int)).before args0 about1 = true := code_word (m := ⟨2, 22⟩) (meth := k2m22) (c := k2c22) (by decide +kernel) rfl rfl rfl (by decide +kernel)
set_option maxRecDepth 65536 in
theorem w_c25 : (Jvm.Cond.code ({ cls := "MeshAllocatorX", name := "framesInUse", desc := "()I" } : Jvm.MethodName) prog_1_method_28_code (3 : Nat) (Option.some Jvm.ClassFile.FieldType.int)).before args0 about1 = true := code_word (m := ⟨2, 25⟩) (meth := k2m25) (c := k2c25) (by decide +kernel) rfl rfl rfl (by decide +kernel)
set_option maxRecDepth 65536 in
theorem w_c26 : (Jvm.Cond.code ({ cls := "MeshAllocatorX", name := "frameBits", desc := "(I)I" } : Jvm.MethodName) prog_1_method_27_code (2 : Nat) (Option.some Jvm.ClassFile.FieldType.int)).before args0 about1 = true := code_word (m := ⟨2, 24⟩) (meth := k2m24) (c := k2c24) (by decide +kernel) rfl rfl rfl (by decide +kernel)
set_option maxRecDepth 65536 in
theorem w_c27 : (Jvm.Cond.code ({ cls := "MeshAllocatorX", name := "pageBits", desc := "(I)I" } : Jvm.MethodName) prog_1_method_26_code (2 : Nat) (Option.some Jvm.ClassFile.FieldType.int)).before args0 about1 = true := code_word (m := ⟨2, 23⟩) (meth := k2m23) (c := k2c23) (by decide +kernel) rfl rfl rfl (by decide +kernel)
set_option maxRecDepth 65536 in
theorem w_c28 : (Jvm.Cond.code ({ cls := "MeshAllocatorX", name := "read", desc := "(I)I" } : Jvm.MethodName) prog_1_method_19_code (3 : Nat) (Option.some Jvm.ClassFile.FieldType.int)).before args0 about1 = true := code_word (m := ⟨2, 18⟩) (meth := k2m18) (c := k2c18) (by decide +kernel) rfl rfl rfl (by decide +kernel)
set_option maxRecDepth 65536 in
theorem w_c29 : (Jvm.Cond.code ({ cls := "MeshAllocatorX", name := "liveObjects", desc := "()I" } : Jvm.MethodName) prog_1_method_30_code (3 : Nat) (Option.some Jvm.ClassFile.FieldType.int)).before args0 about1 = true := code_word (m := ⟨2, 27⟩) (meth := k2m27) (c := k2c27) (by decide +kernel) rfl rfl rfl (by decide +kernel)
set_option maxRecDepth 65536 in
theorem w_c30 : (Jvm.Cond.code ({ cls := "MeshAllocatorX", name := "popCount", desc := "(I)I" } : Jvm.MethodName) prog_1_method_10_code (4 : Nat) (Option.some Jvm.ClassFile.FieldType.int)).before args0 about1 = true := code_word (m := ⟨2, 9⟩) (meth := k2m9) (c := k2c9) (by decide +kernel) rfl rfl rfl (by decide +kernel)
set_option maxRecDepth 65536 in
theorem w_c31 : (Jvm.Cond.code ({ cls := "MeshAllocatorX", name := "pagesInUse", desc := "()I" } : Jvm.MethodName) prog_1_method_29_code (3 : Nat) (Option.some Jvm.ClassFile.FieldType.int)).before args0 about1 = true := code_word (m := ⟨2, 26⟩) (meth := k2m26) (c := k2c26) (by decide +kernel) rfl rfl rfl (by decide +kernel)
def codes1 : List Jvm.Cond := [Jvm.Cond.code x code maxLocals ret, Jvm.Cond.code ({ cls := "MeshAllocatorX", name := "<init>", desc := "(III)V" } : Jvm.MethodName) prog_1_method_1_code (5 : Nat) (Option.none : Option Jvm.ClassFile.FieldType), Jvm.Cond.code ({ cls := "java/lang/Object", name := "<init>", desc := "()V" } : Jvm.MethodName) object_method_1_code (1 : Nat) (Option.none : Option Jvm.ClassFile.FieldType), Jvm.Cond.code ({ cls := "MeshAllocatorX", name := "clamp", desc := "(III)I" } : Jvm.MethodName) prog_1_method_2_code (4 : Nat) (Option.some Jvm.ClassFile.FieldType.int), Jvm.Cond.code ({ cls := "MeshAllocatorX", name := "alloc", desc := "(I)I" } : Jvm.MethodName) prog_1_method_14_code (4 : Nat) (Option.some Jvm.ClassFile.FieldType.int), Jvm.Cond.code ({ cls := "MeshAllocatorX", name := "findEligible", desc := "(I)I" } : Jvm.MethodName) prog_1_method_11_code (5 : Nat) (Option.some Jvm.ClassFile.FieldType.int), Jvm.Cond.code ({ cls := "MeshAllocatorX", name := "slotsOf", desc := "(I)I" } : Jvm.MethodName) prog_1_method_3_code (2 : Nat) (Option.some Jvm.ClassFile.FieldType.int), Jvm.Cond.code ({ cls := "MeshAllocatorX", name := "lowestUnusedPage", desc := "()I" } : Jvm.MethodName) prog_1_method_12_code (2 : Nat) (Option.some Jvm.ClassFile.FieldType.int), Jvm.Cond.code ({ cls := "MeshAllocatorX", name := "lowestFreeFrame", desc := "()I" } : Jvm.MethodName) prog_1_method_13_code (2 : Nat) (Option.some Jvm.ClassFile.FieldType.int), Jvm.Cond.code ({ cls := "MeshAllocatorX", name := "frameClass", desc := "(I)I" } : Jvm.MethodName) prog_1_method_7_code (3 : Nat) (Option.some Jvm.ClassFile.FieldType.int), Jvm.Cond.code ({ cls := "MeshAllocatorX", name := "placeObject", desc := "(II)I" } : Jvm.MethodName) prog_1_method_15_code (13 : Nat) (Option.some Jvm.ClassFile.FieldType.int), Jvm.Cond.code ({ cls := "MeshAllocatorX", name := "sizeOf", desc := "(I)I" } : Jvm.MethodName) prog_1_method_4_code (2 : Nat) (Option.some Jvm.ClassFile.FieldType.int), Jvm.Cond.code ({ cls := "MeshAllocatorX", name := "unionOf", desc := "(I)I" } : Jvm.MethodName) prog_1_method_6_code (4 : Nat) (Option.some Jvm.ClassFile.FieldType.int), Jvm.Cond.code ({ cls := "MeshAllocatorX", name := "countClear", desc := "(II)I" } : Jvm.MethodName) prog_1_method_8_code (5 : Nat) (Option.some Jvm.ClassFile.FieldType.int), Jvm.Cond.code ({ cls := "MeshAllocatorX", name := "step", desc := "()I" } : Jvm.MethodName) prog_1_method_5_code (1 : Nat) (Option.some Jvm.ClassFile.FieldType.int), Jvm.Cond.code ({ cls := "MeshAllocatorX", name := "nthClear", desc := "(III)I" } : Jvm.MethodName) prog_1_method_9_code (6 : Nat) (Option.some Jvm.ClassFile.FieldType.int), Jvm.Cond.code ({ cls := "MeshAllocatorXL3", name := "step", desc := "(I)I" } : Jvm.MethodName) method_2_code (1 : Nat) (Option.some Jvm.ClassFile.FieldType.int), Jvm.Cond.code ({ cls := "MeshAllocatorX", name := "rngState", desc := "()I" } : Jvm.MethodName) prog_1_method_31_code (1 : Nat) (Option.some Jvm.ClassFile.FieldType.int), Jvm.Cond.code ({ cls := "MeshAllocatorX", name := "free", desc := "(I)Z" } : Jvm.MethodName) prog_1_method_16_code (7 : Nat) (Option.some Jvm.ClassFile.FieldType.boolean), Jvm.Cond.code ({ cls := "MeshAllocatorX", name := "write", desc := "(II)Z" } : Jvm.MethodName) prog_1_method_18_code (4 : Nat) (Option.some Jvm.ClassFile.FieldType.boolean), Jvm.Cond.code ({ cls := "MeshAllocatorX", name := "liveIndex", desc := "(I)I" } : Jvm.MethodName) prog_1_method_17_code (7 : Nat) (Option.some Jvm.ClassFile.FieldType.int), Jvm.Cond.code ({ cls := "MeshAllocatorX", name := "mesh", desc := "()I" } : Jvm.MethodName) prog_1_method_21_code (4 : Nat) (Option.some Jvm.ClassFile.FieldType.int), Jvm.Cond.code ({ cls := "MeshAllocatorX", name := "meshInto", desc := "(II)I" } : Jvm.MethodName) prog_1_method_22_code (7 : Nat) (Option.some Jvm.ClassFile.FieldType.int), Jvm.Cond.code ({ cls := "MeshAllocatorX", name := "mergeFrames", desc := "(IIII)V" } : Jvm.MethodName) prog_1_method_23_code (10 : Nat) (Option.none : Option Jvm.ClassFile.FieldType), Jvm.Cond.code ({ cls := "MeshAllocatorX", name := "frameOf", desc := "(I)I" } : Jvm.MethodName) prog_1_method_25_code (2 : Nat) (Option.some Jvm.ClassFile.FieldType.int), Jvm.Cond.code ({ cls := "MeshAllocatorX", name := "framesInUse", desc := "()I" } : Jvm.MethodName) prog_1_method_28_code (3 : Nat) (Option.some Jvm.ClassFile.FieldType.int), Jvm.Cond.code ({ cls := "MeshAllocatorX", name := "frameBits", desc := "(I)I" } : Jvm.MethodName) prog_1_method_27_code (2 : Nat) (Option.some Jvm.ClassFile.FieldType.int), Jvm.Cond.code ({ cls := "MeshAllocatorX", name := "pageBits", desc := "(I)I" } : Jvm.MethodName) prog_1_method_26_code (2 : Nat) (Option.some Jvm.ClassFile.FieldType.int), Jvm.Cond.code ({ cls := "MeshAllocatorX", name := "read", desc := "(I)I" } : Jvm.MethodName) prog_1_method_19_code (3 : Nat) (Option.some Jvm.ClassFile.FieldType.int), Jvm.Cond.code ({ cls := "MeshAllocatorX", name := "liveObjects", desc := "()I" } : Jvm.MethodName) prog_1_method_30_code (3 : Nat) (Option.some Jvm.ClassFile.FieldType.int), Jvm.Cond.code ({ cls := "MeshAllocatorX", name := "popCount", desc := "(I)I" } : Jvm.MethodName) prog_1_method_10_code (4 : Nat) (Option.some Jvm.ClassFile.FieldType.int), Jvm.Cond.code ({ cls := "MeshAllocatorX", name := "pagesInUse", desc := "()I" } : Jvm.MethodName) prog_1_method_29_code (3 : Nat) (Option.some Jvm.ClassFile.FieldType.int)]
set_option maxRecDepth 65536 in
theorem codes_eq : words1.filter isCode = codes1 := rfl
theorem w_codes : ∀ c ∈ words1.filter isCode, c.before args0 about1 = true := by
  rw [codes_eq]
  intro c hc
  simp only [codes1, List.mem_cons, List.not_mem_nil, or_false] at hc
  rcases hc with rfl | rfl | rfl | rfl | rfl | rfl | rfl | rfl | rfl | rfl | rfl | rfl | rfl | rfl | rfl | rfl | rfl | rfl | rfl | rfl | rfl | rfl | rfl | rfl | rfl | rfl | rfl | rfl | rfl | rfl | rfl | rfl
  · exact w_c0
  · exact w_c1
  · exact w_c2
  · exact w_c3
  · exact w_c4
  · exact w_c5
  · exact w_c6
  · exact w_c7
  · exact w_c8
  · exact w_c9
  · exact w_c10
  · exact w_c11
  · exact w_c12
  · exact w_c13
  · exact w_c14
  · exact w_c15
  · exact w_c16
  · exact w_c17
  · exact w_c18
  · exact w_c19
  · exact w_c20
  · exact w_c21
  · exact w_c22
  · exact w_c23
  · exact w_c24
  · exact w_c25
  · exact w_c26
  · exact w_c27
  · exact w_c28
  · exact w_c29
  · exact w_c30
  · exact w_c31
set_option maxRecDepth 65536 in
theorem w_t1 : (words1.take 24).all (fun c => isCode c || c.before args0 about1) = true := by decide +kernel
set_option maxRecDepth 65536 in
theorem w_t2 : ((words1.drop 24).take 24).all (fun c => isCode c || c.before args0 about1) = true := by decide +kernel
set_option maxRecDepth 65536 in
theorem w_t3 : (((words1.drop 24).drop 24).take 24).all (fun c => isCode c || c.before args0 about1) = true := by decide +kernel
set_option maxRecDepth 65536 in
theorem w_t4 : ((((words1.drop 24).drop 24).drop 24).take 24).all (fun c => isCode c || c.before args0 about1) = true := by decide +kernel
set_option maxRecDepth 65536 in
theorem w_t5 : (((((words1.drop 24).drop 24).drop 24).drop 24).take 24).all (fun c => isCode c || c.before args0 about1) = true := by decide +kernel
set_option maxRecDepth 65536 in
theorem w_t6 : ((((((words1.drop 24).drop 24).drop 24).drop 24).drop 24).take 24).all (fun c => isCode c || c.before args0 about1) = true := by decide +kernel
set_option maxRecDepth 65536 in
theorem w_t7 : ((((((words1.drop 24).drop 24).drop 24).drop 24).drop 24).drop 24).all (fun c => isCode c || c.before args0 about1) = true := by decide +kernel
theorem w_tables : (allAtoms (Jvm.Cond.code x code maxLocals ret :: tables_1)).before args0 about1 = true := by
  rw [allAtoms_all]
  show words1.all (fun c => c.before args0 about1) = true
  refine all_split ?_ w_codes
  rw [← List.take_append_drop 24 words1, List.all_append, w_t1, ← List.take_append_drop 24 (words1.drop 24), List.all_append, w_t2, ← List.take_append_drop 24 ((words1.drop 24).drop 24), List.all_append, w_t3, ← List.take_append_drop 24 (((words1.drop 24).drop 24).drop 24), List.all_append, w_t4, ← List.take_append_drop 24 ((((words1.drop 24).drop 24).drop 24).drop 24), List.all_append, w_t5, ← List.take_append_drop 24 (((((words1.drop 24).drop 24).drop 24).drop 24).drop 24), List.all_append, w_t6, w_t7]
  rfl
set_option maxRecDepth 65536 in
theorem w_case : (Jvm.Cond.and given_1 narrow_1).before args0 about1 = true := by decide +kernel
theorem w_applies : (headSpec (Jvm.Cond.code x code maxLocals ret :: tables_1) room_1).applies x e0.platform about1 = true :=
  (Spec.applies_iff w_frames).mpr ⟨w_running, w_runnable, w_alone, w_named, w_hears, w_ripe, w_room, w_tables⟩
theorem atStart : AtStart classFile x code maxLocals ret World_1 tables_1 room_1 Calls_1 rest_1 Pre_1 launch0 p0 e0 about1 theMethod args0 below0 :=
  ⟨lists_1, trivial, launch0.admits_env _ _ _, launch0.least_env, fairChoices_fair.cas, fairChoices_fair.clock, w_frames, w_args, w_heap, w_applies, trivial, trivial, w_case⟩
end start1
theorem witness_1 : WitnessClaimed_1 := ⟨start1.p0, start1.e0, start1.about1, start1.theMethod, start1.args0, start1.below0, start1.atStart⟩
end Jvm.Pilot.@@N@@
