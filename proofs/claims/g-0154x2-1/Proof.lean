import JvmDerived
import JvmDerived.Pilot.@@N@@Statement
import JvmDerived.Pilot.@@N@@Code
set_option linter.unusedVariables false
set_option linter.unusedSimpArgs false
namespace Jvm.Own
open Sem ClassFile Op Lib Jvm.Stand Jvm.Free Jvm.LawKit Jvm.RoadKit
/-! ## 1. Small heaps: a list of cells: an object of the one class (its fields in order), or an array (of booleans, of ints) -/
abbrev MCell := List Value ⊕ (Bool × List Int32)
abbrev MHeap := List MCell
abbrev Fd := String × String × FieldType
/-- start, its arguments, launch, the script's place, the heap's first length, the class, its fields, its slots -/
abbrev Ctx := State × Array Value × Launch × Option Nat × Nat × String × List Fd × Nat
abbrev gZ (G : Ctx) : State := G.1
abbrev gA (G : Ctx) : Array Value := G.2.1
abbrev gL (G : Ctx) : Launch := G.2.2.1
abbrev gS (G : Ctx) : Option Nat := G.2.2.2.1
abbrev gN (G : Ctx) : Nat := G.2.2.2.2.1
abbrev gC (G : Ctx) : String := G.2.2.2.2.2.1
abbrev gF (G : Ctx) : List Fd := G.2.2.2.2.2.2.1
abbrev gK (G : Ctx) : Nat := G.2.2.2.2.2.2.2
/-- a method: name, bytes, locals, result, frames and words that it needs -/
abbrev Mi := MethodName × ByteArray × Nat × Option FieldType × Nat × Nat
abbrev mN (M : Mi) : MethodName := M.1
abbrev mB (M : Mi) : ByteArray := M.2.1
abbrev mL (M : Mi) : Nat := M.2.2.1
abbrev mR (M : Mi) : Option FieldType := M.2.2.2.1
abbrev mF (M : Mi) : Nat := M.2.2.2.2.1
abbrev mW (M : Mi) : Nat := M.2.2.2.2.2
def rhoA (sa : Option Nat) (n0 i : Nat) : Nat := match sa with
  | none => n0 + i
  | some a => match i with
    | 0 => a
    | j + 1 => n0 + j
def k0A (sa : Option Nat) : Nat := match sa with
  | none => 0
  | some _ => 1
def rho (G : Ctx) (i : Nat) : Nat := rhoA (gS G) (gN G) i
def k0 (G : Ctx) : Nat := k0A (gS G)
def tr (G : Ctx) : Value → Value
  | .ref i => .ref (rho G i)
  | v => v
def trS (G : Ctx) : Slot → Slot
  | .val v => .val (tr G v)
  | s => s
theorem tr_cat (G : Ctx) (v : Value) : (tr G v).category = v.category := by cases v <;> rfl
theorem tr_cats (G : Ctx) (S : List Value) : ((S.map (tr G)).map fun v => v.category).sum = (S.map fun v => v.category).sum := by
  rw [List.map_map]
  congr 1
  exact List.map_congr_left fun v _ => tr_cat G v
def kd : Bool → FieldType
  | true => .boolean
  | false => .int
def CellAt (G : Ctx) (hr : Heap) (a : Nat) : MCell → Prop
  | .inl fs => Exa (gZ G) hr a (gC G) ∧ fs.length = (gF G).length ∧ ∀ (j : Nat) (n d : String) (ty : FieldType) (v : Value), (gF G)[j]? = some (n, d, ty) → fs[j]? = some v → Fld (gZ G) hr a (gC G) n d (tr G v)
  | .inr bx => ∃ c : Cell, Arr (gZ G) hr a c (kd bx.1) ∧ c.slots = (bx.2.map Value.int).toArray
def Rel (G : Ctx) (hr : Heap) (h : MHeap) : Prop :=
  hr.size + k0 G = gN G + h.length ∧ k0 G ≤ h.length ∧ (∀ a, gS G = some a → a < gN G) ∧ ∀ i c, h[i]? = some c → CellAt G hr (rho G i) c
/-- what the sheet says of the class -/
def GOk (G : Ctx) : Prop :=
  (∀ (j : Nat) (n d : String) (ty : FieldType), (gF G)[j]? = some (n, d, ty) → Laid (gZ G) (gA G) (gC G) (gC G) n d ∧ parseFieldDescriptor d = some ty) ∧
  (∀ (j j' : Nat) (f f' : Fd), (gF G)[j]? = some f → (gF G)[j']? = some f' → j ≠ j' → f.1 ≠ f'.1) ∧
  (Cond.instantiable (gC G) (gK G)).before (gA G) (gZ G) = true ∧ (Cond.initialized (gC G)).before (gA G) (gZ G) = true
theorem rhoA_inj {sa : Option Nat} {n0 i j : Nat} (h : ∀ a, sa = some a → a < n0) (e : rhoA sa n0 i = rhoA sa n0 j) : i = j := by
  cases sa with
  | none => simp only [rhoA] at e; omega
  | some a =>
    have := h a rfl
    cases i <;> cases j <;> simp only [rhoA] at e <;> omega
theorem rho_inj {G : Ctx} {i j : Nat} (h : ∀ a, gS G = some a → a < gN G) (e : rho G i = rho G j) : i = j := rhoA_inj h e
theorem rhoA_new {sa : Option Nat} {n0 i : Nat} (h : k0A sa ≤ i) : rhoA sa n0 i = n0 + (i - k0A sa) := by
  cases sa with
  | none => simp only [rhoA, k0A]; omega
  | some a =>
    cases i with
    | zero => simp only [k0A] at h; omega
    | succ j => simp only [rhoA, k0A]; omega
theorem rho_new {G : Ctx} {i : Nat} (h : k0 G ≤ i) : rho G i = gN G + (i - k0 G) := rhoA_new h
theorem rho_ge {G : Ctx} {i : Nat} (h : k0 G ≤ i) : gN G ≤ rho G i := by rw [rho_new h]; omega
theorem CellAt.other {G : Ctx} {hr hr' : Heap} {a b : Nat} {sl : Nat} {v : Value} (W : Wr hr hr' a sl v) (hne : b ≠ a) : ∀ {c : MCell}, CellAt G hr b c → CellAt G hr' b c
  | .inl _, ⟨h1, h2, h3⟩ => ⟨h1.wr W, h2, fun j n d ty v hf hv => Fld.other W (h3 j n d ty v hf hv) (Or.inl hne)⟩
  | .inr _, ⟨c, h1, h2⟩ => ⟨c, h1.other W hne, h2⟩
theorem CellAt.ext {G : Ctx} {hr hr' : Heap} {b : Nat} (E : Ext hr hr') : ∀ {c : MCell}, CellAt G hr b c → CellAt G hr' b c
  | .inl _, ⟨h1, h2, h3⟩ => ⟨h1.ext E, h2, fun j n d ty v hf hv => Fld.ext E (h3 j n d ty v hf hv)⟩
  | .inr _, ⟨c, h1, h2⟩ => ⟨c, h1.ext E, h2⟩
theorem Rel.push {G : Ctx} {hr hr' : Heap} {h : MHeap} {c : MCell} (R : Rel G hr h) (E : Ext hr hr') (hs : hr'.size = hr.size + 1) (hc : CellAt G hr' hr.size c) : Rel G hr' (h ++ [c]) := by
  obtain ⟨h1, h2, h3, h4⟩ := R
  refine ⟨by rw [List.length_append, List.length_singleton]; omega, by rw [List.length_append]; omega, h3, fun i c' hi => ?_⟩
  rcases Nat.lt_or_ge i h.length with q | q
  · rw [List.getElem?_append_left q] at hi
    exact (h4 i c' hi).ext E
  · have hi2 := hi
    rw [List.getElem?_append_right q] at hi2
    have : i - h.length = 0 := by
      rcases Nat.eq_zero_or_pos (i - h.length) with z | z
      · exact z
      · rw [List.getElem?_eq_none (by simp; omega)] at hi2; cases hi2
    have e : i = h.length := by omega
    subst e
    rw [Nat.sub_self] at hi2
    cases hi2
    have : rho G h.length = hr.size := by rw [rho_new h2]; omega
    rw [this]; exact hc
theorem Rel.wrArr {G : Ctx} {hr hr' : Heap} {h : MHeap} {i j : Nat} {b : Bool} {xs : List Int32} {x : Int32} (R : Rel G hr h) (hi : h[i]? = some (.inr (b, xs))) (W : Wr hr hr' (rho G i) j (.int x)) : Rel G hr' (h.set i (.inr (b, xs.set j x))) := by
  obtain ⟨h1, h2, h3, h4⟩ := R
  refine ⟨by rw [W.size, List.length_set]; exact h1, by rw [List.length_set]; exact h2, h3, fun k c' hk => ?_⟩
  by_cases e : i = k
  · subst e
    rw [List.getElem?_set_self (List.getElem?_eq_some_iff.mp hi).1] at hk
    cases hk
    obtain ⟨c, A, hs⟩ := h4 i _ hi
    refine ⟨c.setSlot j (.int x), A.same W, ?_⟩
    show c.slots.setIfInBounds j (.int x) = _
    rw [hs]
    simp [List.map_set]
  · rw [List.getElem?_set_ne e] at hk
    exact (h4 k c' hk).other W fun q => e (rho_inj h3 q).symm
theorem Rel.wrFld {G : Ctx} {hr hr' : Heap} {h : MHeap} {i j : Nat} {fs : List Value} {n d : String} {ty : FieldType} {v : Value} (R : Rel G hr h) (K : GOk G) (hi : h[i]? = some (.inl fs)) (hF : (gF G)[j]? = some (n, d, ty)) (W : Wr hr hr' (rho G i) (Jvm.RoadKit.slotOf (gZ G) (gC G) n d) (tr G v)) : Rel G hr' (h.set i (.inl (fs.set j v))) := by
  obtain ⟨h1, h2, h3, h4⟩ := R
  refine ⟨by rw [W.size, List.length_set]; exact h1, by rw [List.length_set]; exact h2, h3, fun k c' hk => ?_⟩
  by_cases e : i = k
  · subst e
    rw [List.getElem?_set_self (List.getElem?_eq_some_iff.mp hi).1] at hk
    cases hk
    obtain ⟨e1, e2, e3⟩ := h4 i _ hi
    refine ⟨e1.wr W, by rw [List.length_set]; exact e2, fun j' n' d' ty' v' hf' hv' => ?_⟩
    by_cases q : j = j'
    · subst q
      cases hF.symm.trans hf'
      have hlt : j < fs.length := by rw [e2]; exact (List.getElem?_eq_some_iff.mp hF).1
      rw [List.getElem?_set_self hlt] at hv'
      cases hv'
      obtain ⟨w, hw⟩ : ∃ w, fs[j]? = some w := ⟨_, List.getElem?_eq_getElem hlt⟩
      exact Fld.same W (e3 j n d ty w hF hw)
    · rw [List.getElem?_set_ne q] at hv'
      refine Fld.other W (e3 j' n' d' ty' v' hf' hv') (Or.inr ?_)
      exact slot_ne (K.1 j' n' d' ty' hf').1 (K.1 j n d ty hF).1 (K.2.1 j' j _ _ hf' hF (Ne.symm q)) (K.1 j' n' d' ty' hf').2 (K.1 j n d ty hF).2
  · rw [List.getElem?_set_ne e] at hk
    exact (h4 k c' hk).other W fun q => e (rho_inj h3 q).symm
def csl (k : Nat) : MCell → Nat
  | .inl _ => k
  | .inr bx => bx.2.length
def hsl (k : Nat) (h : MHeap) : Nat := (h.map (csl k)).sum
theorem hsl_push (k : Nat) (h : MHeap) (c : MCell) : hsl k (h ++ [c]) = hsl k h + csl k c := by simp [hsl]
theorem hsl_set (k : Nat) : ∀ (h : MHeap) (i : Nat) (c c' : MCell), h[i]? = some c → csl k c' = csl k c → hsl k (h.set i c') = hsl k h
  | [], _, _, _, h, _ => by simp at h
  | a :: t, 0, c, c', h, e => by simp at h; subst h; simp [hsl, e]
  | a :: t, i + 1, c, c', h, e => by
    have := hsl_set k t i c c' (by simpa using h) e
    simp only [hsl, List.set_cons_succ, List.map_cons, List.sum_cons] at this ⊢
    omega
/-! ## 2. Storing a local variable, on lists -/
def lsetAt (l : List Slot) (i : Nat) (x : Slot) : Option (List Slot) := if i < l.length then some (l.set i x) else none
def lstoreSelf (l : List Slot) (i : Nat) (v : Value) : Option (List Slot) :=
  match lsetAt l i (.val v) with
  | none => none
  | some l => if v.category = 2 then
      (match l[i + 1]? with
      | none => none
      | some (.val old) => if old.category = 2 then (match lsetAt l (i + 2) .unset with | none => none | some l2 => lsetAt l2 (i + 1) .second) else lsetAt l (i + 1) .second
      | some _ => lsetAt l (i + 1) .second)
    else some l
def mst (l : List Slot) (i : Nat) (v : Value) : Option (List Slot) :=
  match l[i]? with
  | none => none
  | some .second => (match lsetAt l (i - 1) .unset with | none => none | some l2 => lstoreSelf l2 i v)
  | some (.val old) => if old.category = 2 then (match lsetAt l (i + 1) .unset with | none => none | some l2 => lstoreSelf l2 i v) else lstoreSelf l i v
  | some .unset => lstoreSelf l i v
def arL (G : Ctx) (l : List Slot) : Array Slot := (l.map (trS G)).toArray
theorem setAt_map (G : Ctx) (l : List Slot) (i : Nat) (x : Slot) : setAt (arL G l) i (trS G x) = (lsetAt l i x).map (arL G) := by
  unfold setAt lsetAt arL
  by_cases h : i < l.length <;> simp [h, List.map_set]
theorem arL_get (G : Ctx) (l : List Slot) (i : Nat) : (arL G l)[i]? = (l[i]?).map (trS G) := by simp [arL]
theorem storeSelf_map (G : Ctx) (l : List Slot) (i : Nat) (v : Value) : storeSelf (arL G l) i (tr G v) = (lstoreSelf l i v).map (arL G) := by
  unfold storeSelf lstoreSelf
  have e := setAt_map G l i (.val v)
  simp only [trS] at e
  rw [e]
  cases h1 : lsetAt l i (.val v) with
  | none => rfl
  | some l1 =>
    simp only [Option.map_some, Option.bind_eq_bind, Option.bind_some, tr_cat]
    by_cases hc : v.category = 2
    · simp only [hc, if_true, arL_get]
      cases h2 : l1[i + 1]? with
      | none => rfl
      | some sl =>
        simp only [Option.map_some, Option.bind_some]
        have u2 := setAt_map G l1 (i + 2) .unset
        have s1 := setAt_map G l1 (i + 1) .second
        simp only [trS] at u2 s1
        cases sl with
        | unset => exact s1
        | second => exact s1
        | val old =>
          simp only [trS, tr_cat]
          by_cases hq : old.category = 2
          · simp only [hq, if_true, u2]
            cases h3 : lsetAt l1 (i + 2) .unset with
            | none => rfl
            | some l2 =>
              have s2 := setAt_map G l2 (i + 1) .second
              simp only [trS] at s2
              exact s2
          · simp only [hq, if_false]
            exact s1
    · simp only [hc, if_false]
      rfl
theorem mst_map (G : Ctx) (l : List Slot) (i : Nat) (v : Value) : storeLocals (arL G l) i (tr G v) = (mst l i v).map (arL G) := by
  unfold storeLocals mst
  simp only [arL_get]
  cases h1 : l[i]? with
  | none => rfl
  | some sl =>
    simp only [Option.map_some, Option.bind_eq_bind, Option.bind_some]
    have u1 := setAt_map G l (i - 1) .unset
    have u2 := setAt_map G l (i + 1) .unset
    simp only [trS] at u1 u2
    cases sl with
    | unset => exact storeSelf_map G l i v
    | second =>
      simp only [trS, u1]
      cases h3 : lsetAt l (i - 1) .unset with
      | none => rfl
      | some l2 => exact storeSelf_map G l2 i v
    | val old =>
      simp only [trS, tr_cat]
      by_cases hq : old.category = 2
      · simp only [hq, if_true, u2]
        cases h3 : lsetAt l (i + 1) .unset with
        | none => rfl
        | some l2 => exact storeSelf_map G l2 i v
      · simp only [hq, if_false]
        exact storeSelf_map G l i v
theorem lsetAt_len {l l' : List Slot} {i : Nat} {x : Slot} (h : lsetAt l i x = some l') : l'.length = l.length := by
  unfold lsetAt at h; split at h
  · cases h; simp
  · cases h
theorem lstoreSelf_len {l l' : List Slot} {i : Nat} {v : Value} (h : lstoreSelf l i v = some l') : l'.length = l.length := by
  unfold lstoreSelf at h
  split at h
  · cases h
  · rename_i l1 h1
    have e1 := lsetAt_len h1
    split at h
    · split at h
      · cases h
      · split at h
        · split at h
          · cases h
          · rename_i h2; rw [lsetAt_len h, lsetAt_len h2, e1]
        · rw [lsetAt_len h, e1]
      · rw [lsetAt_len h, e1]
    · cases h; exact e1
theorem mst_len {l l' : List Slot} {i : Nat} {v : Value} (h : mst l i v = some l') : l'.length = l.length := by
  unfold mst at h
  split at h
  · cases h
  · split at h
    · cases h
    · rename_i h2; rw [lstoreSelf_len h, lsetAt_len h2]
  · split at h
    · split at h
      · cases h
      · rename_i h2; rw [lstoreSelf_len h, lsetAt_len h2]
    · exact lstoreSelf_len h
  · exact lstoreSelf_len h
theorem st_of {G : Ctx} {l l' : List Slot} {i : Nat} {v : Value} (h : mst l i v = some l') : storeLocals (arL G l) i (tr G v) = some (arL G l') := by rw [mst_map, h]; rfl
theorem ld_of {G : Ctx} {l : List Slot} {i : Nat} {s : Slot} (h : l[i]? = some s) : (arL G l)[i]? = some (trS G s) := by rw [arL_get, h]; rfl
/-! ## 3. What a run of a body from a point does -/
def Ev (G : Ctx) (M : Mi) (pc : Nat) (L : List Slot) (S : List Value) (h : MHeap) (r : Option Value × MHeap) : Prop :=
  (h.length ≤ r.2.length ∧ hsl (gK G) h ≤ hsl (gK G) r.2) ∧
  ∀ (p : Program) (e : Env) (R : Room) (s : State) (m : MethodId) (args : Array Value) (below : List Frame) (meth : Method) (c : Code) (T : State) (locs : List Loc) (cells slots : Nat),
    Stand p (gL G) e R s m args below meth c T locs cells slots → p.tables.exec = Jvm.exec → (gZ G).Warmed39 s.vm → s.vm.findClass (mN M).cls = some m.cls →
    c.code = mB M → c.maxLocals = mL M → meth.sig.returnType = mR M → meth.name = (mN M).name → L.length = mL M → mF M ≤ R.frames → mW M ≤ R.locals →
    s.heap.size + cells = T.heap.size → Rel G T.heap h → Fr (gN G) locs → cells + (r.2.length - h.length) ≤ R.cells → slots + (hsl (gK G) r.2 - hsl (gK G) h) ≤ R.slots →
    ∃ T' locs', Stand p (gL G) e R s m args below meth c T' locs' (cells + (r.2.length - h.length)) (slots + (hsl (gK G) r.2 - hsl (gK G) h)) ∧ Rel G T'.heap r.2 ∧ Fr (gN G) locs' ∧
      ∀ fs, (∀ (f : JFrame) (acts : List Action), f.method = m → f.locked = none → f.entered = [] → (doReturn e (T'.setTop f) acts (r.1.map (tr G))).1 = T'.setFrames fs) →
        Steps p.tables e below (T.setTop (mkF m pc (arL G L) (S.map (tr G)))) (T'.setFrames fs)
/-- a whole call -/
def EvC (G : Ctx) (y : Mi) (args : List Value) (h : MHeap) (r : Option Value × MHeap) : Prop :=
  (h.length ≤ r.2.length ∧ hsl (gK G) h ≤ hsl (gK G) r.2) ∧
  ∀ (ws : List Jvm.Cond) (R : Room) (hr : Heap), mF y ≤ R.frames → mW y ≤ R.locals → r.2.length - h.length ≤ R.cells → hsl (gK G) r.2 - hsl (gK G) h ≤ R.slots → Rel G hr h →
    MetFree (gL G) (mN y) (head1 (Jvm.Cond.code (mN y) (mB y) (mL y) (mR y) :: ws) R) (fun a U => a = (args.map (tr G)).toArray ∧ (gZ G).Warmed39 U.vm ∧ U.heap = hr) (fun _ _ _ _ _ => True)
      (fun _ U o U' => ∃ v L, o = .returned v ∧ (v = r.1.map (tr G) ∧ Fr (gN G) L ∧ Rel G U'.heap r.2) ∧ FrameEnd U o U' L (r.2.length - h.length) (hsl (gK G) r.2 - hsl (gK G) h))
section Rules
variable {G : Ctx} {M : Mi} {pc : Nat} {L : List Slot} {S : List Value} {h : MHeap} {r : Option Value × MHeap}
theorem Ev.gen {pc' : Nat} {L' : List Slot} {S' : List Value} {h' : MHeap} (hm1 : h.length ≤ h'.length) (hm2 : hsl (gK G) h ≤ hsl (gK G) h') (hL : L'.length = L.length) (hn : Ev G M pc' L' S' h' r)
    (st : ∀ {p : Program} {e : Env} {R : Room} {s : State} {m : MethodId} {args : Array Value} {below : List Frame} {meth : Method} {c : Code} {T : State} {locs : List Loc} {cells slots : Nat},
      Stand p (gL G) e R s m args below meth c T locs cells slots → p.tables.exec = Jvm.exec → (gZ G).Warmed39 s.vm → s.vm.findClass (mN M).cls = some m.cls →
      c.code = mB M → c.maxLocals = mL M → meth.name = (mN M).name → L.length = mL M → mF M ≤ R.frames → mW M ≤ R.locals →
      s.heap.size + cells = T.heap.size → Rel G T.heap h → Fr (gN G) locs → cells + (h'.length - h.length) ≤ R.cells → slots + (hsl (gK G) h' - hsl (gK G) h) ≤ R.slots →
      ∃ T' locs', Stand p (gL G) e R s m args below meth c T' locs' (cells + (h'.length - h.length)) (slots + (hsl (gK G) h' - hsl (gK G) h)) ∧ Rel G T'.heap h' ∧ Fr (gN G) locs' ∧
        ∀ target, Steps p.tables e below (T'.setTop (mkF m pc' (arL G L') (S'.map (tr G)))) target → Steps p.tables e below (T.setTop (mkF m pc (arL G L) (S.map (tr G)))) target) :
    Ev G M pc L S h r := by
  obtain ⟨⟨g1, g2⟩, hn⟩ := hn
  refine ⟨⟨Nat.le_trans hm1 g1, Nat.le_trans hm2 g2⟩, ?_⟩
  intro p e R s m args below meth c T locs cells slots X hx hZ hown hby hml hret hnm hLm hfr hlo hsz hR hF hc hs
  obtain ⟨T1, locs1, X1, R1, F1, st1⟩ := st X hx hZ hown hby hml hnm hLm hfr hlo hsz hR hF (by omega) (by omega)
  have hsz1 : s.heap.size + (cells + (h'.length - h.length)) = T1.heap.size := by
    have a1 := hR.1
    have a2 := R1.1
    omega
  obtain ⟨T2, locs2, X2, R2, F2, st2⟩ := hn p e R s m args below meth c T1 locs1 _ _ X1 hx hZ hown hby hml hret hnm (hL.trans hLm) hfr hlo hsz1 R1 F1 (by omega) (by omega)
  refine ⟨T2, locs2, ?_, R2, F2, fun fs hl => st1 _ (st2 fs hl)⟩
  have e1 : cells + (h'.length - h.length) + (r.2.length - h'.length) = cells + (r.2.length - h.length) := by omega
  have e2 : slots + (hsl (gK G) h' - hsl (gK G) h) + (hsl (gK G) r.2 - hsl (gK G) h') = slots + (hsl (gK G) r.2 - hsl (gK G) h) := by omega
  rw [e1, e2] at X2
  exact X2
/-- a step that leaves the heap -/
theorem Ev.same {pc' : Nat} {L' : List Slot} {S' : List Value} (hL : L'.length = L.length) (hn : Ev G M pc' L' S' h r)
    (st : ∀ {p : Program} {e : Env} {R : Room} {s : State} {m : MethodId} {args : Array Value} {below : List Frame} {meth : Method} {c : Code} {T : State} {locs : List Loc} {cells slots : Nat},
      Stand p (gL G) e R s m args below meth c T locs cells slots → p.tables.exec = Jvm.exec → (gZ G).Warmed39 s.vm → s.vm.findClass (mN M).cls = some m.cls →
      c.code = mB M → c.maxLocals = mL M → L.length = mL M → mF M ≤ R.frames → mW M ≤ R.locals → Rel G T.heap h →
      ∃ T', Stand p (gL G) e R s m args below meth c T' locs cells slots ∧ T'.heap = T.heap ∧
        ∀ target, Steps p.tables e below (T'.setTop (mkF m pc' (arL G L') (S'.map (tr G)))) target → Steps p.tables e below (T.setTop (mkF m pc (arL G L) (S.map (tr G)))) target) :
    Ev G M pc L S h r := by
  refine Ev.gen (Nat.le_refl _) (Nat.le_refl _) hL hn ?_
  intro p e R s m args below meth c T locs cells slots X hx hZ hown hby hml hnm hLm hfr hlo hsz hR hF hc hs
  obtain ⟨T', X', e', st'⟩ := st X hx hZ hown hby hml hLm hfr hlo hR
  refine ⟨T', locs, ?_, by rw [e']; exact hR, hF, st'⟩
  rw [Nat.sub_self, Nat.sub_self, Nat.add_zero, Nat.add_zero]
  exact X'
/-- a step that leaves all but the frame -/
theorem Ev.pure {pc' : Nat} {L' : List Slot} {S' : List Value} (hL : L'.length = L.length) (hn : Ev G M pc' L' S' h r)
    (st : ∀ {p : Program} {e : Env} {R : Room} {s : State} {m : MethodId} {args : Array Value} {below : List Frame} {meth : Method} {c : Code} {T : State} {locs : List Loc} {cells slots : Nat},
      Stand p (gL G) e R s m args below meth c T locs cells slots → p.tables.exec = Jvm.exec → (gZ G).Warmed39 s.vm → s.vm.findClass (mN M).cls = some m.cls →
      c.code = mB M → ∀ target, Steps p.tables e below (T.setTop (mkF m pc' (arL G L') (S'.map (tr G)))) target → Steps p.tables e below (T.setTop (mkF m pc (arL G L) (S.map (tr G)))) target) :
    Ev G M pc L S h r :=
  Ev.same hL hn fun {p e R s m args below meth c T locs cells slots} X hx hZ hown hby hml hLm hfr hlo hR => ⟨T, X, rfl, st X hx hZ hown hby⟩
/-! ### loads, stores, constants -/
theorem Ev.iload {k : Nat} {v : Int32} (hd : decode (mB M) pc = .ok (.iload k, 2)) (hl : L[k]? = some (.val (.int v))) (hn : Ev G M (pc + 2) L (.int v :: S) h r) : Ev G M pc L S h r :=
  Ev.pure rfl hn fun {_ _ _ _ m _ _ _ _ _ _ _ _} X hx hZ hown hby target q => XS.iload (g := mkF m pc (arL G L) (List.map (tr G) S)) X.here hx rfl (hb hby hd) (ld_of hl) q
theorem Ev.iloadN {k : Fin 4} {v : Int32} (hd : decode (mB M) pc = .ok (.iload_n k, 1)) (hl : L[k.val]? = some (.val (.int v))) (hn : Ev G M (pc + 1) L (.int v :: S) h r) : Ev G M pc L S h r :=
  Ev.pure rfl hn fun {_ _ _ _ m _ _ _ _ _ _ _ _} X hx hZ hown hby target q => XS.iloadN (g := mkF m pc (arL G L) (List.map (tr G) S)) X.here hx rfl (hb hby hd) (ld_of hl) q
theorem Ev.aload {k : Nat} {v : Nat} (hd : decode (mB M) pc = .ok (.aload k, 2)) (hl : L[k]? = some (.val (.ref v))) (hn : Ev G M (pc + 2) L (.ref v :: S) h r) : Ev G M pc L S h r :=
  Ev.pure rfl hn fun {_ _ _ _ m _ _ _ _ _ _ _ _} X hx hZ hown hby target q => XS.aload (g := mkF m pc (arL G L) (List.map (tr G) S)) X.here hx rfl (hb hby hd) (ld_of hl) rfl q
theorem Ev.aloadN {k : Fin 4} {v : Nat} (hd : decode (mB M) pc = .ok (.aload_n k, 1)) (hl : L[k.val]? = some (.val (.ref v))) (hn : Ev G M (pc + 1) L (.ref v :: S) h r) : Ev G M pc L S h r :=
  Ev.pure rfl hn fun {_ _ _ _ m _ _ _ _ _ _ _ _} X hx hZ hown hby target q => XS.aloadN (g := mkF m pc (arL G L) (List.map (tr G) S)) X.here hx rfl (hb hby hd) (ld_of hl) rfl q
theorem Ev.lload {k : Nat} {v : Int64} (hd : decode (mB M) pc = .ok (.lload k, 2)) (hl : L[k]? = some (.val (.long v))) (hn : Ev G M (pc + 2) L (.long v :: S) h r) : Ev G M pc L S h r :=
  Ev.pure rfl hn fun {_ _ _ _ m _ _ _ _ _ _ _ _} X hx hZ hown hby target q => XT.lload (g := mkF m pc (arL G L) (List.map (tr G) S)) X.here hx rfl (hb hby hd) (ld_of hl) q
theorem Ev.lloadN {k : Fin 4} {v : Int64} (hd : decode (mB M) pc = .ok (.lload_n k, 1)) (hl : L[k.val]? = some (.val (.long v))) (hn : Ev G M (pc + 1) L (.long v :: S) h r) : Ev G M pc L S h r :=
  Ev.pure rfl hn fun {_ _ _ _ m _ _ _ _ _ _ _ _} X hx hZ hown hby target q => XT.lloadN (g := mkF m pc (arL G L) (List.map (tr G) S)) X.here hx rfl (hb hby hd) (ld_of hl) q
theorem Ev.istore {k : Nat} {v : Int32} {L' : List Slot} (hd : decode (mB M) pc = .ok (.istore k, 2)) (hl : mst L k (.int v) = some L') (hn : Ev G M (pc + 2) L' S h r) : Ev G M pc L (.int v :: S) h r :=
  Ev.pure (mst_len hl) hn fun {_ _ _ _ m _ _ _ _ _ _ _ _} X hx hZ hown hby target q => XS.istore (g := mkF m pc (arL G L) (List.map (tr G) (Value.int v :: S))) X.here hx rfl (hb hby hd) rfl (st_of hl) q
theorem Ev.istoreN {k : Fin 4} {v : Int32} {L' : List Slot} (hd : decode (mB M) pc = .ok (.istore_n k, 1)) (hl : mst L k.val (.int v) = some L') (hn : Ev G M (pc + 1) L' S h r) : Ev G M pc L (.int v :: S) h r :=
  Ev.pure (mst_len hl) hn fun {_ _ _ _ m _ _ _ _ _ _ _ _} X hx hZ hown hby target q => XS.istoreN (g := mkF m pc (arL G L) (List.map (tr G) (Value.int v :: S))) X.here hx rfl (hb hby hd) rfl (st_of hl) q
theorem Ev.astore {k v : Nat} {L' : List Slot} (hd : decode (mB M) pc = .ok (.astore k, 2)) (hl : mst L k (.ref v) = some L') (hn : Ev G M (pc + 2) L' S h r) : Ev G M pc L (.ref v :: S) h r :=
  Ev.pure (mst_len hl) hn fun {_ _ _ _ m _ _ _ _ _ _ _ _} X hx hZ hown hby target q => XS.astore (g := mkF m pc (arL G L) (List.map (tr G) (Value.ref v :: S))) X.here hx rfl (hb hby hd) rfl rfl (st_of hl) q
theorem Ev.astoreN {k : Fin 4} {v : Nat} {L' : List Slot} (hd : decode (mB M) pc = .ok (.astore_n k, 1)) (hl : mst L k.val (.ref v) = some L') (hn : Ev G M (pc + 1) L' S h r) : Ev G M pc L (.ref v :: S) h r :=
  Ev.pure (mst_len hl) hn fun {_ _ _ _ m _ _ _ _ _ _ _ _} X hx hZ hown hby target q => XS.astoreN (g := mkF m pc (arL G L) (List.map (tr G) (Value.ref v :: S))) X.here hx rfl (hb hby hd) rfl rfl (st_of hl) q
theorem Ev.lstore {k : Nat} {v : Int64} {L' : List Slot} (hd : decode (mB M) pc = .ok (.lstore k, 2)) (hl : mst L k (.long v) = some L') (hn : Ev G M (pc + 2) L' S h r) : Ev G M pc L (.long v :: S) h r :=
  Ev.pure (mst_len hl) hn fun {_ _ _ _ m _ _ _ _ _ _ _ _} X hx hZ hown hby target q => XT.lstore (g := mkF m pc (arL G L) (List.map (tr G) (Value.long v :: S))) X.here hx rfl (hb hby hd) rfl (st_of hl) q
theorem Ev.lstoreN {k : Fin 4} {v : Int64} {L' : List Slot} (hd : decode (mB M) pc = .ok (.lstore_n k, 1)) (hl : mst L k.val (.long v) = some L') (hn : Ev G M (pc + 1) L' S h r) : Ev G M pc L (.long v :: S) h r :=
  Ev.pure (mst_len hl) hn fun {_ _ _ _ m _ _ _ _ _ _ _ _} X hx hZ hown hby target q => XT.lstoreN (g := mkF m pc (arL G L) (List.map (tr G) (Value.long v :: S))) X.here hx rfl (hb hby hd) rfl (st_of hl) q
theorem Ev.iconst {i : Int} {z : Int32} (hd : decode (mB M) pc = .ok (.iconst i, 1)) (hz : Int32.ofInt i = z) (hn : Ev G M (pc + 1) L (.int z :: S) h r) : Ev G M pc L S h r :=
  Ev.pure rfl (hz ▸ hn) fun {_ _ _ _ m _ _ _ _ _ _ _ _} X hx hZ hown hby target q => XS.iconst (g := mkF m pc (arL G L) (List.map (tr G) S)) X.here hx rfl (hb hby hd) q
theorem Ev.bipush {i : Int} {z : Int32} (hd : decode (mB M) pc = .ok (.bipush i, 2)) (hz : (Int8.ofInt i).toInt32 = z) (hn : Ev G M (pc + 2) L (.int z :: S) h r) : Ev G M pc L S h r :=
  Ev.pure rfl (hz ▸ hn) fun {_ _ _ _ m _ _ _ _ _ _ _ _} X hx hZ hown hby target q => XS.bipush (g := mkF m pc (arL G L) (List.map (tr G) S)) X.here hx rfl (hb hby hd) q
theorem Ev.sipush {i : Int} {z : Int32} (hd : decode (mB M) pc = .ok (.sipush i, 3)) (hz : (Int16.ofInt i).toInt32 = z) (hn : Ev G M (pc + 3) L (.int z :: S) h r) : Ev G M pc L S h r :=
  Ev.pure rfl (hz ▸ hn) fun {_ _ _ _ m _ _ _ _ _ _ _ _} X hx hZ hown hby target q => XS.sipush (g := mkF m pc (arL G L) (List.map (tr G) S)) X.here hx rfl (hb hby hd) q
theorem Ev.lconst {k : Fin 2} {z : Int64} (hd : decode (mB M) pc = .ok (.lconst k, 1)) (hz : Int64.ofNat k = z) (hn : Ev G M (pc + 1) L (.long z :: S) h r) : Ev G M pc L S h r :=
  Ev.pure rfl (hz ▸ hn) fun {_ _ _ _ m _ _ _ _ _ _ _ _} X hx hZ hown hby target q => XT.lconst (g := mkF m pc (arL G L) (List.map (tr G) S)) X.here hx rfl (hb hby hd) q
theorem Ev.ldc {k : Nat} {v : Int32} (w : (Jvm.Cond.constant (mN M).cls k v).before (gA G) (gZ G) = true) (hd : decode (mB M) pc = .ok (.ldc k, 2)) (hn : Ev G M (pc + 2) L (.int v :: S) h r) : Ev G M pc L S h r :=
  Ev.pure rfl hn fun {_ _ _ _ m _ _ _ _ _ _ _ _} X hx hZ hown hby target q => X.ldcInt hx hown (mvT hZ w) (g := mkF m pc (arL G L) (List.map (tr G) S)) rfl (hb hby hd) target q
theorem Ev.ldcW {k : Nat} {v : Int32} (w : (Jvm.Cond.constant (mN M).cls k v).before (gA G) (gZ G) = true) (hd : decode (mB M) pc = .ok (.ldc_w k, 3)) (hn : Ev G M (pc + 3) L (.int v :: S) h r) : Ev G M pc L S h r :=
  Ev.pure rfl hn fun {_ _ _ _ m _ _ _ _ _ _ _ _} X hx hZ hown hby target q => X.ldcwInt hx hown (mvT hZ w) (g := mkF m pc (arL G L) (List.map (tr G) S)) rfl (hb hby hd) target q
theorem Ev.ldcL {k : Nat} {v : Int64} (w : (Jvm.Cond.constantLong (mN M).cls k v).before (gA G) (gZ G) = true) (hd : decode (mB M) pc = .ok (.ldc2_w k, 3)) (hn : Ev G M (pc + 3) L (.long v :: S) h r) : Ev G M pc L S h r :=
  Ev.pure rfl hn fun {_ _ _ _ m _ _ _ _ _ _ _ _} X hx hZ hown hby target q => X.ldc2Long hx hown (mvT hZ w) (g := mkF m pc (arL G L) (List.map (tr G) S)) rfl (hb hby hd) target q
/-! ### reckoning -/
theorem Ev.iadd {x y : Int32} (hd : decode (mB M) pc = .ok (.iadd, 1)) (hn : Ev G M (pc + 1) L (.int (x + y) :: S) h r) : Ev G M pc L (.int y :: .int x :: S) h r :=
  Ev.pure rfl hn fun {_ _ _ _ m _ _ _ _ _ _ _ _} X hx hZ hown hby target q => XS.iadd (g := mkF m pc (arL G L) (List.map (tr G) (Value.int y :: Value.int x :: S))) X.here hx rfl (hb hby hd) rfl q
theorem Ev.isub {x y : Int32} (hd : decode (mB M) pc = .ok (.isub, 1)) (hn : Ev G M (pc + 1) L (.int (x - y) :: S) h r) : Ev G M pc L (.int y :: .int x :: S) h r :=
  Ev.pure rfl hn fun {_ _ _ _ m _ _ _ _ _ _ _ _} X hx hZ hown hby target q => XS.isub (g := mkF m pc (arL G L) (List.map (tr G) (Value.int y :: Value.int x :: S))) X.here hx rfl (hb hby hd) rfl q
theorem Ev.imul {x y : Int32} (hd : decode (mB M) pc = .ok (.imul, 1)) (hn : Ev G M (pc + 1) L (.int (x * y) :: S) h r) : Ev G M pc L (.int y :: .int x :: S) h r :=
  Ev.pure rfl hn fun {_ _ _ _ m _ _ _ _ _ _ _ _} X hx hZ hown hby target q => XS.imul (g := mkF m pc (arL G L) (List.map (tr G) (Value.int y :: Value.int x :: S))) X.here hx rfl (hb hby hd) rfl q
theorem Ev.idiv {x y : Int32} (hd : decode (mB M) pc = .ok (.idiv, 1)) (hy : y ≠ 0) (hn : Ev G M (pc + 1) L (.int (x / y) :: S) h r) : Ev G M pc L (.int y :: .int x :: S) h r :=
  Ev.pure rfl hn fun {_ _ _ _ m _ _ _ _ _ _ _ _} X hx hZ hown hby target q => XS.idiv (g := mkF m pc (arL G L) (List.map (tr G) (Value.int y :: Value.int x :: S))) X.here hx rfl (hb hby hd) rfl hy q
theorem Ev.irem {x y : Int32} (hd : decode (mB M) pc = .ok (.irem, 1)) (hy : y ≠ 0) (hn : Ev G M (pc + 1) L (.int (x % y) :: S) h r) : Ev G M pc L (.int y :: .int x :: S) h r :=
  Ev.pure rfl hn fun {_ _ _ _ m _ _ _ _ _ _ _ _} X hx hZ hown hby target q => iremM (g := mkF m pc (arL G L) (List.map (tr G) (Value.int y :: Value.int x :: S))) X hx rfl (hb hby hd) rfl hy q
theorem Ev.ineg {x : Int32} (hd : decode (mB M) pc = .ok (.ineg, 1)) (hn : Ev G M (pc + 1) L (.int (-x) :: S) h r) : Ev G M pc L (.int x :: S) h r :=
  Ev.pure rfl hn fun {_ _ _ _ m _ _ _ _ _ _ _ _} X hx hZ hown hby target q => XS.ineg (g := mkF m pc (arL G L) (List.map (tr G) (Value.int x :: S))) X.here hx rfl (hb hby hd) rfl q
theorem Ev.iand {x y : Int32} (hd : decode (mB M) pc = .ok (.iand, 1)) (hn : Ev G M (pc + 1) L (.int (x &&& y) :: S) h r) : Ev G M pc L (.int y :: .int x :: S) h r :=
  Ev.pure rfl hn fun {_ _ _ _ m _ _ _ _ _ _ _ _} X hx hZ hown hby target q => XS.iand (g := mkF m pc (arL G L) (List.map (tr G) (Value.int y :: Value.int x :: S))) X.here hx rfl (hb hby hd) rfl q
theorem Ev.ior {x y : Int32} (hd : decode (mB M) pc = .ok (.ior, 1)) (hn : Ev G M (pc + 1) L (.int (x ||| y) :: S) h r) : Ev G M pc L (.int y :: .int x :: S) h r :=
  Ev.pure rfl hn fun {_ _ _ _ m _ _ _ _ _ _ _ _} X hx hZ hown hby target q => XT.ior (g := mkF m pc (arL G L) (List.map (tr G) (Value.int y :: Value.int x :: S))) X.here hx rfl (hb hby hd) rfl q
theorem Ev.ixor {x y : Int32} (hd : decode (mB M) pc = .ok (.ixor, 1)) (hn : Ev G M (pc + 1) L (.int (x ^^^ y) :: S) h r) : Ev G M pc L (.int y :: .int x :: S) h r :=
  Ev.pure rfl hn fun {_ _ _ _ m _ _ _ _ _ _ _ _} X hx hZ hown hby target q => XT.ixor (g := mkF m pc (arL G L) (List.map (tr G) (Value.int y :: Value.int x :: S))) X.here hx rfl (hb hby hd) rfl q
theorem Ev.ishl {x y : Int32} (hd : decode (mB M) pc = .ok (.ishl, 1)) (hn : Ev G M (pc + 1) L (.int (x <<< (y &&& 31)) :: S) h r) : Ev G M pc L (.int y :: .int x :: S) h r :=
  Ev.pure rfl hn fun {_ _ _ _ m _ _ _ _ _ _ _ _} X hx hZ hown hby target q => XT.ishl (g := mkF m pc (arL G L) (List.map (tr G) (Value.int y :: Value.int x :: S))) X.here hx rfl (hb hby hd) rfl q
theorem Ev.ishr {x y : Int32} (hd : decode (mB M) pc = .ok (.ishr, 1)) (hn : Ev G M (pc + 1) L (.int (x >>> (y &&& 31)) :: S) h r) : Ev G M pc L (.int y :: .int x :: S) h r :=
  Ev.pure rfl hn fun {_ _ _ _ m _ _ _ _ _ _ _ _} X hx hZ hown hby target q => XT.ishr (g := mkF m pc (arL G L) (List.map (tr G) (Value.int y :: Value.int x :: S))) X.here hx rfl (hb hby hd) rfl q
theorem Ev.iushr {x y : Int32} (hd : decode (mB M) pc = .ok (.iushr, 1)) (hn : Ev G M (pc + 1) L (.int (XT.ushr x y) :: S) h r) : Ev G M pc L (.int y :: .int x :: S) h r :=
  Ev.pure rfl hn fun {_ _ _ _ m _ _ _ _ _ _ _ _} X hx hZ hown hby target q => XT.iushr (g := mkF m pc (arL G L) (List.map (tr G) (Value.int y :: Value.int x :: S))) X.here hx rfl (hb hby hd) rfl q
theorem Ev.ladd {x y : Int64} (hd : decode (mB M) pc = .ok (.ladd, 1)) (hn : Ev G M (pc + 1) L (.long (x + y) :: S) h r) : Ev G M pc L (.long y :: .long x :: S) h r :=
  Ev.pure rfl hn fun {_ _ _ _ m _ _ _ _ _ _ _ _} X hx hZ hown hby target q => XT.ladd (g := mkF m pc (arL G L) (List.map (tr G) (Value.long y :: Value.long x :: S))) X.here hx rfl (hb hby hd) rfl q
theorem Ev.lsub {x y : Int64} (hd : decode (mB M) pc = .ok (.lsub, 1)) (hn : Ev G M (pc + 1) L (.long (x - y) :: S) h r) : Ev G M pc L (.long y :: .long x :: S) h r :=
  Ev.pure rfl hn fun {_ _ _ _ m _ _ _ _ _ _ _ _} X hx hZ hown hby target q => XT.lsub (g := mkF m pc (arL G L) (List.map (tr G) (Value.long y :: Value.long x :: S))) X.here hx rfl (hb hby hd) rfl q
theorem Ev.lmul {x y : Int64} (hd : decode (mB M) pc = .ok (.lmul, 1)) (hn : Ev G M (pc + 1) L (.long (x * y) :: S) h r) : Ev G M pc L (.long y :: .long x :: S) h r :=
  Ev.pure rfl hn fun {_ _ _ _ m _ _ _ _ _ _ _ _} X hx hZ hown hby target q => XT.lmul (g := mkF m pc (arL G L) (List.map (tr G) (Value.long y :: Value.long x :: S))) X.here hx rfl (hb hby hd) rfl q
theorem Ev.ldiv {x y : Int64} (hd : decode (mB M) pc = .ok (.ldiv, 1)) (hy : y ≠ 0) (hn : Ev G M (pc + 1) L (.long (x / y) :: S) h r) : Ev G M pc L (.long y :: .long x :: S) h r :=
  Ev.pure rfl hn fun {_ _ _ _ m _ _ _ _ _ _ _ _} X hx hZ hown hby target q => XT.ldiv (g := mkF m pc (arL G L) (List.map (tr G) (Value.long y :: Value.long x :: S))) X.here hx rfl (hb hby hd) rfl hy q
theorem Ev.lneg {x : Int64} (hd : decode (mB M) pc = .ok (.lneg, 1)) (hn : Ev G M (pc + 1) L (.long (-x) :: S) h r) : Ev G M pc L (.long x :: S) h r :=
  Ev.pure rfl hn fun {_ _ _ _ m _ _ _ _ _ _ _ _} X hx hZ hown hby target q => XT.lneg (g := mkF m pc (arL G L) (List.map (tr G) (Value.long x :: S))) X.here hx rfl (hb hby hd) rfl q
theorem Ev.land {x y : Int64} (hd : decode (mB M) pc = .ok (.land, 1)) (hn : Ev G M (pc + 1) L (.long (x &&& y) :: S) h r) : Ev G M pc L (.long y :: .long x :: S) h r :=
  Ev.pure rfl hn fun {_ _ _ _ m _ _ _ _ _ _ _ _} X hx hZ hown hby target q => XT.land (g := mkF m pc (arL G L) (List.map (tr G) (Value.long y :: Value.long x :: S))) X.here hx rfl (hb hby hd) rfl q
theorem Ev.lor {x y : Int64} (hd : decode (mB M) pc = .ok (.lor, 1)) (hn : Ev G M (pc + 1) L (.long (x ||| y) :: S) h r) : Ev G M pc L (.long y :: .long x :: S) h r :=
  Ev.pure rfl hn fun {_ _ _ _ m _ _ _ _ _ _ _ _} X hx hZ hown hby target q => XT.lor (g := mkF m pc (arL G L) (List.map (tr G) (Value.long y :: Value.long x :: S))) X.here hx rfl (hb hby hd) rfl q
theorem Ev.lxor {x y : Int64} (hd : decode (mB M) pc = .ok (.lxor, 1)) (hn : Ev G M (pc + 1) L (.long (x ^^^ y) :: S) h r) : Ev G M pc L (.long y :: .long x :: S) h r :=
  Ev.pure rfl hn fun {_ _ _ _ m _ _ _ _ _ _ _ _} X hx hZ hown hby target q => XT.lxor (g := mkF m pc (arL G L) (List.map (tr G) (Value.long y :: Value.long x :: S))) X.here hx rfl (hb hby hd) rfl q
theorem Ev.lshl {x : Int64} {y : Int32} (hd : decode (mB M) pc = .ok (.lshl, 1)) (hn : Ev G M (pc + 1) L (.long (x <<< (y.toInt64 &&& 63)) :: S) h r) : Ev G M pc L (.int y :: .long x :: S) h r :=
  Ev.pure rfl hn fun {_ _ _ _ m _ _ _ _ _ _ _ _} X hx hZ hown hby target q => XT.lshl (g := mkF m pc (arL G L) (List.map (tr G) (Value.int y :: Value.long x :: S))) X.here hx rfl (hb hby hd) rfl q
theorem Ev.lushr {x : Int64} {y : Int32} (hd : decode (mB M) pc = .ok (.lushr, 1)) (hn : Ev G M (pc + 1) L (.long (XT.ushrL x y) :: S) h r) : Ev G M pc L (.int y :: .long x :: S) h r :=
  Ev.pure rfl hn fun {_ _ _ _ m _ _ _ _ _ _ _ _} X hx hZ hown hby target q => XT.lushr (g := mkF m pc (arL G L) (List.map (tr G) (Value.int y :: Value.long x :: S))) X.here hx rfl (hb hby hd) rfl q
theorem Ev.lcmp {x y : Int64} (hd : decode (mB M) pc = .ok (.lcmp, 1)) (hn : Ev G M (pc + 1) L (.int (XT.cmpL x y) :: S) h r) : Ev G M pc L (.long y :: .long x :: S) h r :=
  Ev.pure rfl hn fun {_ _ _ _ m _ _ _ _ _ _ _ _} X hx hZ hown hby target q => XT.lcmp (g := mkF m pc (arL G L) (List.map (tr G) (Value.long y :: Value.long x :: S))) X.here hx rfl (hb hby hd) rfl q
theorem Ev.i2l {x : Int32} (hd : decode (mB M) pc = .ok (.i2l, 1)) (hn : Ev G M (pc + 1) L (.long x.toInt64 :: S) h r) : Ev G M pc L (.int x :: S) h r :=
  Ev.pure rfl hn fun {_ _ _ _ m _ _ _ _ _ _ _ _} X hx hZ hown hby target q => XT.i2l (g := mkF m pc (arL G L) (List.map (tr G) (Value.int x :: S))) X.here hx rfl (hb hby hd) rfl q
theorem Ev.l2i {x : Int64} (hd : decode (mB M) pc = .ok (.l2i, 1)) (hn : Ev G M (pc + 1) L (.int x.toInt32 :: S) h r) : Ev G M pc L (.long x :: S) h r :=
  Ev.pure rfl hn fun {_ _ _ _ m _ _ _ _ _ _ _ _} X hx hZ hown hby target q => XT.l2i (g := mkF m pc (arL G L) (List.map (tr G) (Value.long x :: S))) X.here hx rfl (hb hby hd) rfl q
theorem Ev.i2b {x : Int32} (hd : decode (mB M) pc = .ok (.i2b, 1)) (hn : Ev G M (pc + 1) L (.int x.toInt8.toInt32 :: S) h r) : Ev G M pc L (.int x :: S) h r :=
  Ev.pure rfl hn fun {_ _ _ _ m _ _ _ _ _ _ _ _} X hx hZ hown hby target q => XT.i2b (g := mkF m pc (arL G L) (List.map (tr G) (Value.int x :: S))) X.here hx rfl (hb hby hd) rfl q
theorem Ev.iinc {k : Nat} {i : Int} {x z : Int32} {L' : List Slot} (hd : decode (mB M) pc = .ok (.iinc k i, 3)) (hl : L[k]? = some (.val (.int x))) (hz : Int32.ofInt i = z) (hl' : mst L k (.int (x + z)) = some L') (hn : Ev G M (pc + 3) L' S h r) : Ev G M pc L S h r :=
  Ev.pure (mst_len hl') hn fun {_ _ _ _ m _ _ _ _ _ _ _ _} X hx hZ hown hby target q => XS.iinc (g := mkF m pc (arL G L) (List.map (tr G) S)) X.here hx rfl (hb hby hd) (ld_of hl) (by rw [hz]; exact st_of hl') q
theorem iincW {tb : Tables} [Ours tb] {e : Env} {below : List Frame} {T target : State} {m : MethodId} {c : Code} {g : JFrame} (h : At T m c below) (hx : tb.exec = Jvm.exec) (hg : g.method = m) {k : Nat} {cst : Int} {x : Int32} {l' : Array Slot} (hd : decode c.code g.pc = .ok (.iinc k cst, 6)) (hl : g.locals[k]? = some (.val (.int x))) (hl' : storeLocals g.locals k (.int (x + Int32.ofInt cst)) = some l')
    (hr : Steps tb e below (T.setTop { g with pc := g.pc + 6, locals := l' }) target) : Steps tb e below (T.setTop g) target := by
  subst hg
  jvm_step h [h.top, hx, hd, hl, hl']
  exact hr
theorem Ev.iincW {k : Nat} {i : Int} {x z : Int32} {L' : List Slot} (hd : decode (mB M) pc = .ok (.iinc k i, 6)) (hl : L[k]? = some (.val (.int x))) (hz : Int32.ofInt i = z) (hl' : mst L k (.int (x + z)) = some L') (hn : Ev G M (pc + 6) L' S h r) : Ev G M pc L S h r :=
  Ev.pure (mst_len hl') hn fun {_ _ _ _ m _ _ _ _ _ _ _ _} X hx hZ hown hby target q => Own.iincW (g := mkF m pc (arL G L) (List.map (tr G) S)) X.here hx rfl (hb hby hd) (ld_of hl) (by rw [hz]; exact st_of hl') q
theorem Ev.dup {x : Value} (hd : decode (mB M) pc = .ok (.dup, 1)) (hc : x.category = 1) (hn : Ev G M (pc + 1) L (x :: x :: S) h r) : Ev G M pc L (x :: S) h r :=
  Ev.pure rfl hn fun {_ _ _ _ m _ _ _ _ _ _ _ _} X hx hZ hown hby target q => XS.dup (g := mkF m pc (arL G L) (List.map (tr G) (x :: S))) X.here hx rfl (hb hby hd) rfl ((tr_cat G x).trans hc) q
theorem Ev.dup2 {x y : Value} (hd : decode (mB M) pc = .ok (.dup2, 1)) (hc : x.category = 1) (hc' : y.category = 1) (hn : Ev G M (pc + 1) L (x :: y :: x :: y :: S) h r) : Ev G M pc L (x :: y :: S) h r :=
  Ev.pure rfl hn fun {_ _ _ _ m _ _ _ _ _ _ _ _} X hx hZ hown hby target q => XT.dup2 (g := mkF m pc (arL G L) (List.map (tr G) (x :: y :: S))) X.here hx rfl (hb hby hd) rfl ((tr_cat G x).trans hc) ((tr_cat G y).trans hc') q
theorem Ev.pop {x : Value} (hd : decode (mB M) pc = .ok (.pop, 1)) (hc : x.category = 1) (hn : Ev G M (pc + 1) L S h r) : Ev G M pc L (x :: S) h r :=
  Ev.pure rfl hn fun {_ _ _ _ m _ _ _ _ _ _ _ _} X hx hZ hown hby target q => XT.pop (g := mkF m pc (arL G L) (List.map (tr G) (x :: S))) X.here hx rfl (hb hby hd) rfl ((tr_cat G x).trans hc) q
/-! ### branches -/
theorem Ev.goto {o : Int} {t : Nat} (hd : decode (mB M) pc = .ok (.goto o, 3)) (hp : (pc : Int) + o = (t : Int)) (hn : Ev G M t L S h r) : Ev G M pc L S h r :=
  Ev.pure rfl hn fun {_ _ _ _ m _ _ _ _ _ _ _ _} X hx hZ hown hby target q => XS.goto (g := mkF m pc (arL G L) (List.map (tr G) S)) X.here hx rfl rfl (hb hby hd) (by rw [hp]; exact Int.natCast_nonneg t) (by rw [hp]; rfl) q
theorem Ev.ifc {cd : ClassFile.Cond} {x : Int32} {o : Int} {t : Nat} (hd : decode (mB M) pc = .ok (.ifCond cd o, 3)) (hp : (pc : Int) + o = (t : Int)) (h1 : ifCond.holds cd x = true → Ev G M t L S h r) (h2 : ifCond.holds cd x = false → Ev G M (pc + 3) L S h r) : Ev G M pc L (.int x :: S) h r := by
  cases hc : ifCond.holds cd x with
  | true => exact Ev.pure rfl (h1 hc) fun {_ _ _ _ m _ _ _ _ _ _ _ _} X hx hZ hown hby target q => XS.ifYes (g := mkF m pc (arL G L) (List.map (tr G) (Value.int x :: S))) X.here hx rfl rfl (hb hby hd) rfl hc (by rw [hp]; exact Int.natCast_nonneg t) (by rw [hp]; rfl) q
  | false => exact Ev.pure rfl (h2 hc) fun {_ _ _ _ m _ _ _ _ _ _ _ _} X hx hZ hown hby target q => XS.ifNo (g := mkF m pc (arL G L) (List.map (tr G) (Value.int x :: S))) X.here hx rfl (hb hby hd) rfl hc q
theorem Ev.icc {cd : ClassFile.Cond} {x y : Int32} {o : Int} {t : Nat} (hd : decode (mB M) pc = .ok (.if_icmp cd o, 3)) (hp : (pc : Int) + o = (t : Int)) (h1 : if_icmp.holds cd x y = true → Ev G M t L S h r) (h2 : if_icmp.holds cd x y = false → Ev G M (pc + 3) L S h r) : Ev G M pc L (.int y :: .int x :: S) h r := by
  cases hc : if_icmp.holds cd x y with
  | true => exact Ev.pure rfl (h1 hc) fun {_ _ _ _ m _ _ _ _ _ _ _ _} X hx hZ hown hby target q => XS.icmpYes (g := mkF m pc (arL G L) (List.map (tr G) (Value.int y :: Value.int x :: S))) X.here hx rfl rfl (hb hby hd) rfl hc (by rw [hp]; exact Int.natCast_nonneg t) (by rw [hp]; rfl) q
  | false => exact Ev.pure rfl (h2 hc) fun {_ _ _ _ m _ _ _ _ _ _ _ _} X hx hZ hown hby target q => XS.icmpNo (g := mkF m pc (arL G L) (List.map (tr G) (Value.int y :: Value.int x :: S))) X.here hx rfl (hb hby hd) rfl hc q
theorem Ev.iclt {x y : Int32} {o : Int} {t : Nat} (hd : decode (mB M) pc = .ok (.if_icmp .lt o, 3)) (hp : (pc : Int) + o = (t : Int)) (h1 : x < y → Ev G M t L S h r) (h2 : ¬ x < y → Ev G M (pc + 3) L S h r) : Ev G M pc L (.int y :: .int x :: S) h r :=
  Ev.icc hd hp (fun q => h1 (by simpa [if_icmp.holds] using q)) (fun q => h2 (by simpa [if_icmp.holds] using q))
theorem Ev.icge {x y : Int32} {o : Int} {t : Nat} (hd : decode (mB M) pc = .ok (.if_icmp .ge o, 3)) (hp : (pc : Int) + o = (t : Int)) (h1 : x < y → Ev G M (pc + 3) L S h r) (h2 : ¬ x < y → Ev G M t L S h r) : Ev G M pc L (.int y :: .int x :: S) h r :=
  Ev.icc hd hp (fun q => h2 (by simpa [if_icmp.holds] using q)) (fun q => h1 (by simpa [if_icmp.holds] using q))
theorem Ev.icgt {x y : Int32} {o : Int} {t : Nat} (hd : decode (mB M) pc = .ok (.if_icmp .gt o, 3)) (hp : (pc : Int) + o = (t : Int)) (h1 : y < x → Ev G M t L S h r) (h2 : ¬ y < x → Ev G M (pc + 3) L S h r) : Ev G M pc L (.int y :: .int x :: S) h r :=
  Ev.icc hd hp (fun q => h1 (by simpa [if_icmp.holds] using q)) (fun q => h2 (by simpa [if_icmp.holds] using q))
theorem Ev.icle {x y : Int32} {o : Int} {t : Nat} (hd : decode (mB M) pc = .ok (.if_icmp .le o, 3)) (hp : (pc : Int) + o = (t : Int)) (h1 : y < x → Ev G M (pc + 3) L S h r) (h2 : ¬ y < x → Ev G M t L S h r) : Ev G M pc L (.int y :: .int x :: S) h r :=
  Ev.icc hd hp (fun q => h2 (by simpa [if_icmp.holds] using q)) (fun q => h1 (by simpa [if_icmp.holds] using q))
theorem Ev.iceq {x y : Int32} {o : Int} {t : Nat} (hd : decode (mB M) pc = .ok (.if_icmp .eq o, 3)) (hp : (pc : Int) + o = (t : Int)) (h1 : x = y → Ev G M t L S h r) (h2 : ¬ x = y → Ev G M (pc + 3) L S h r) : Ev G M pc L (.int y :: .int x :: S) h r :=
  Ev.icc hd hp (fun q => h1 (by simpa [if_icmp.holds] using q)) (fun q => h2 (by simpa [if_icmp.holds] using q))
theorem Ev.icne {x y : Int32} {o : Int} {t : Nat} (hd : decode (mB M) pc = .ok (.if_icmp .ne o, 3)) (hp : (pc : Int) + o = (t : Int)) (h1 : x = y → Ev G M (pc + 3) L S h r) (h2 : ¬ x = y → Ev G M t L S h r) : Ev G M pc L (.int y :: .int x :: S) h r :=
  Ev.icc hd hp (fun q => h2 (by simpa [if_icmp.holds] using q)) (fun q => h1 (by simpa [if_icmp.holds] using q))
theorem Ev.iflt {x : Int32} {o : Int} {t : Nat} (hd : decode (mB M) pc = .ok (.ifCond .lt o, 3)) (hp : (pc : Int) + o = (t : Int)) (h1 : x < 0 → Ev G M t L S h r) (h2 : ¬ x < 0 → Ev G M (pc + 3) L S h r) : Ev G M pc L (.int x :: S) h r :=
  Ev.ifc hd hp (fun q => h1 (by simpa [ifCond.holds] using q)) (fun q => h2 (by simpa [ifCond.holds] using q))
theorem Ev.ifge {x : Int32} {o : Int} {t : Nat} (hd : decode (mB M) pc = .ok (.ifCond .ge o, 3)) (hp : (pc : Int) + o = (t : Int)) (h1 : x < 0 → Ev G M (pc + 3) L S h r) (h2 : ¬ x < 0 → Ev G M t L S h r) : Ev G M pc L (.int x :: S) h r :=
  Ev.ifc hd hp (fun q => h2 (by simpa [ifCond.holds] using q)) (fun q => h1 (by simpa [ifCond.holds] using q))
theorem Ev.ifgt {x : Int32} {o : Int} {t : Nat} (hd : decode (mB M) pc = .ok (.ifCond .gt o, 3)) (hp : (pc : Int) + o = (t : Int)) (h1 : 0 < x → Ev G M t L S h r) (h2 : ¬ 0 < x → Ev G M (pc + 3) L S h r) : Ev G M pc L (.int x :: S) h r :=
  Ev.ifc hd hp (fun q => h1 (by simpa [ifCond.holds] using q)) (fun q => h2 (by simpa [ifCond.holds] using q))
theorem Ev.ifle {x : Int32} {o : Int} {t : Nat} (hd : decode (mB M) pc = .ok (.ifCond .le o, 3)) (hp : (pc : Int) + o = (t : Int)) (h1 : 0 < x → Ev G M (pc + 3) L S h r) (h2 : ¬ 0 < x → Ev G M t L S h r) : Ev G M pc L (.int x :: S) h r :=
  Ev.ifc hd hp (fun q => h2 (by simpa [ifCond.holds] using q)) (fun q => h1 (by simpa [ifCond.holds] using q))
theorem Ev.ifeq {x : Int32} {o : Int} {t : Nat} (hd : decode (mB M) pc = .ok (.ifCond .eq o, 3)) (hp : (pc : Int) + o = (t : Int)) (h1 : x = 0 → Ev G M t L S h r) (h2 : ¬ x = 0 → Ev G M (pc + 3) L S h r) : Ev G M pc L (.int x :: S) h r :=
  Ev.ifc hd hp (fun q => h1 (by simpa [ifCond.holds] using q)) (fun q => h2 (by simpa [ifCond.holds] using q))
theorem Ev.ifne {x : Int32} {o : Int} {t : Nat} (hd : decode (mB M) pc = .ok (.ifCond .ne o, 3)) (hp : (pc : Int) + o = (t : Int)) (h1 : x = 0 → Ev G M (pc + 3) L S h r) (h2 : ¬ x = 0 → Ev G M t L S h r) : Ev G M pc L (.int x :: S) h r :=
  Ev.ifc hd hp (fun q => h2 (by simpa [ifCond.holds] using q)) (fun q => h1 (by simpa [ifCond.holds] using q))
theorem Ev.tswIn {x : Int32} {dflt low high : Int} {offs : Array Int} {len t : Nat} {o : Int} (hd : decode (mB M) pc = .ok (.tableswitch dflt low high offs, len)) (hin : ¬ (x.toInt < low ∨ x.toInt > high)) (ho : offs[(x.toInt - low).toNat]? = some o) (hp : (pc : Int) + o = (t : Int)) (hn : Ev G M t L S h r) : Ev G M pc L (.int x :: S) h r :=
  Ev.pure rfl hn fun {_ _ _ _ m _ _ _ _ _ _ _ _} X hx hZ hown hby target q => XS.tswIn (g := mkF m pc (arL G L) (List.map (tr G) (Value.int x :: S))) X.here hx rfl rfl (hb hby hd) rfl hin ho (by rw [hp]; exact Int.natCast_nonneg t) (by rw [hp]; rfl) q
theorem Ev.tswOut {x : Int32} {dflt low high : Int} {offs : Array Int} {len t : Nat} (hd : decode (mB M) pc = .ok (.tableswitch dflt low high offs, len)) (hout : x.toInt < low ∨ x.toInt > high) (hp : (pc : Int) + dflt = (t : Int)) (hn : Ev G M t L S h r) : Ev G M pc L (.int x :: S) h r :=
  Ev.pure rfl hn fun {_ _ _ _ m _ _ _ _ _ _ _ _} X hx hZ hown hby target q => XS.tswOut (g := mkF m pc (arL G L) (List.map (tr G) (Value.int x :: S))) X.here hx rfl rfl (hb hby hd) rfl hout (by rw [hp]; exact Int.natCast_nonneg t) (by rw [hp]; rfl) q
/-! ### fields -/
theorem Ev.getfield {idx j i : Nat} {n d : String} {ty : FieldType} {fs : List Value} {v : Value} (w : (Jvm.Cond.fieldLink (mN M).cls idx (gC G) n d).before (gA G) (gZ G) = true) (hd : decode (mB M) pc = .ok (.getfield idx, 3))
    (hF : (gF G)[j]? = some (n, d, ty)) (hi : h[i]? = some (.inl fs)) (hv : fs[j]? = some v) (hn : Ev G M (pc + 3) L (v :: S) h r) : Ev G M pc L (.ref i :: S) h r := by
  refine Ev.same rfl hn ?_
  intro p e R s m args below meth c T locs cells slots X hx hZ hown hby hml hLm hfr hlo hR
  obtain ⟨-, -, h3⟩ := hR.2.2.2 i _ hi
  obtain ⟨T', X', e', st⟩ := getF X hx hZ hown (host := "") (Or.inl w) Via.refl rfl (h3 j n d ty v hF hv) (g := mkF m pc (arL G L) ((Value.ref i :: S).map (tr G))) rfl rfl (hb hby hd)
  exact ⟨T', X', e', st⟩
def mput : FieldType → Value → Option Value
  | .int, .int z => some (.int z)
  | .boolean, .int z => some (.int (z &&& 1))
  | .array _, .ref a => some (.ref a)
  | _, _ => none
theorem mput_spec {G : Ctx} {ty : FieldType} {v v' : Value} (h : mput ty v = some v') : narrow ty (tr G v) = tr G v' ∧ fits ty (tr G v') = true := by
  unfold mput at h
  split at h
  · cases h; exact ⟨rfl, rfl⟩
  · cases h; exact ⟨rfl, fits_nar_bool _⟩
  · cases h; exact ⟨rfl, rfl⟩
  · cases h
theorem Ev.putfield {idx j i : Nat} {n d : String} {ty : FieldType} {fs : List Value} {v v' : Value} (K : GOk G) (w : (Jvm.Cond.fieldLink (mN M).cls idx (gC G) n d).before (gA G) (gZ G) = true)
    (wl : (Jvm.Cond.lays (gC G) (gC G) n d).before (gA G) (gZ G) = true ∨ ((Jvm.Cond.laysFinal (gC G) (gC G) n d).before (gA G) (gZ G) = true ∧ (mN M).cls = gC G ∧ (mN M).name = "<init>"))
    (hd : decode (mB M) pc = .ok (.putfield idx, 3)) (hF : (gF G)[j]? = some (n, d, ty)) (hk : k0 G ≤ i) (hi : h[i]? = some (.inl fs)) (hp : mput ty v = some v') (hn : Ev G M (pc + 3) L S (h.set i (.inl (fs.set j v'))) r) : Ev G M pc L (v :: .ref i :: S) h r := by
  have hs := hsl_set (gK G) h i (.inl fs) (.inl (fs.set j v')) hi rfl
  refine Ev.gen (by rw [List.length_set]; exact Nat.le_refl _) (by rw [hs]; exact Nat.le_refl _) rfl hn ?_
  intro p e R s m args below meth c T locs cells slots X hx hZ hown hby hml hnm hLm hfr hlo hsz hR hFr hc hsq
  obtain ⟨e1, e2, e3⟩ := hR.2.2.2 i _ hi
  obtain ⟨q1, q2⟩ := mput_spec (G := G) hp
  have hlt : j < fs.length := by rw [e2]; exact (List.getElem?_eq_some_iff.mp hF).1
  have F := e3 j n d ty _ hF (List.getElem?_eq_getElem hlt)
  obtain ⟨T', h', X', eT', W, st⟩ := putFN X hx hZ hown w Via.refl rfl F e1 (wl.imp id fun ⟨a, b, c⟩ => ⟨a, b, by rw [hnm]; exact c⟩) K.2.2.1 (K.1 j n d ty hF).2 q1 q2 (g := mkF m pc (arL G L) ((v :: Value.ref i :: S).map (tr G))) rfl rfl (hb hby hd)
  refine ⟨T', _, ?_, ?_, Fr.snoc X' hFr (rho_ge hk), st⟩
  · rw [hs, List.length_set, Nat.sub_self, Nat.sub_self, Nat.add_zero, Nat.add_zero]; exact X'
  · rw [eT']; exact hR.wrFld K hi hF W
/-! ### arrays -/
theorem get_arr {xs : List Int32} {c : Cell} (hs : c.slots = (xs.map Value.int).toArray) (k : Nat) : c.slots[k]? = (xs[k]?).map Value.int := by rw [hs]; simp
theorem arr_size {xs : List Int32} {c : Cell} (hs : c.slots = (xs.map Value.int).toArray) : c.slots.size = xs.length := by rw [hs]; simp
theorem Ev.arraylength {i : Nat} {b : Bool} {xs : List Int32} (hd : decode (mB M) pc = .ok (.arraylength, 1)) (hi : h[i]? = some (.inr (b, xs))) (hn : Ev G M (pc + 1) L (.int xs.length.toInt32 :: S) h r) : Ev G M pc L (.ref i :: S) h r := by
  refine Ev.same rfl hn ?_
  intro p e R s m args below meth c T locs cells slots X hx hZ hown hby hml hLm hfr hlo hR
  obtain ⟨cl, A, hs⟩ := hR.2.2.2 i _ hi
  refine ⟨T, X, rfl, fun target k => X.arraylength hx A.1 (State.isArrayOf_alike hZ.alike A.2.1) (g := mkF m pc (arL G L) ((Value.ref i :: S).map (tr G))) rfl rfl (hb hby hd) target ?_⟩
  rw [arr_size hs]; exact k
theorem Ev.iaload {i : Nat} {xs : List Int32} {j v : Int32} (hd : decode (mB M) pc = .ok (.iaload, 1)) (hi : h[i]? = some (.inr (false, xs))) (hj : ¬ j < 0) (hv : xs[j.toNatClampNeg]? = some v) (hn : Ev G M (pc + 1) L (.int v :: S) h r) : Ev G M pc L (.int j :: .ref i :: S) h r := by
  refine Ev.same rfl hn ?_
  intro p e R s m args below meth c T locs cells slots X hx hZ hown hby hml hLm hfr hlo hR
  obtain ⟨cl, A, hs⟩ := hR.2.2.2 i _ hi
  have hlt := (List.getElem?_eq_some_iff.mp hv).1
  exact ⟨T, X, rfl, fun target k => X.iaload hx A.1 (State.isArrayOf_alike hZ.alike A.2.1) A.2.2 (fun q => q.elim hj fun q => absurd (arr_size hs ▸ q) (Nat.not_le.mpr hlt)) (by rw [get_arr hs, hv]; rfl) (g := mkF m pc (arL G L) ((Value.int j :: Value.ref i :: S).map (tr G))) rfl rfl (hb hby hd) target k⟩
theorem Ev.baload {i : Nat} {xs : List Int32} {j v : Int32} (hd : decode (mB M) pc = .ok (.baload, 1)) (hi : h[i]? = some (.inr (true, xs))) (hj : ¬ j < 0) (hv : xs[j.toNatClampNeg]? = some v) (hn : Ev G M (pc + 1) L (.int v :: S) h r) : Ev G M pc L (.int j :: .ref i :: S) h r := by
  refine Ev.same rfl hn ?_
  intro p e R s m args below meth c T locs cells slots X hx hZ hown hby hml hLm hfr hlo hR
  obtain ⟨cl, A, hs⟩ := hR.2.2.2 i _ hi
  have hlt := (List.getElem?_eq_some_iff.mp hv).1
  exact ⟨T, X, rfl, fun target k => X.baloadBooleans hx A.1 (State.isArrayOf_alike hZ.alike A.2.1) A.2.2 (fun q => q.elim hj fun q => absurd (arr_size hs ▸ q) (Nat.not_le.mpr hlt)) (by rw [get_arr hs, hv]; rfl) (g := mkF m pc (arL G L) ((Value.int j :: Value.ref i :: S).map (tr G))) rfl rfl (hb hby hd) target k⟩
theorem Ev.iastore {i : Nat} {xs : List Int32} {j v : Int32} (hd : decode (mB M) pc = .ok (.iastore, 1)) (hk : k0 G ≤ i) (hi : h[i]? = some (.inr (false, xs))) (hj : ¬ j < 0) (hlt : j.toNatClampNeg < xs.length) (hn : Ev G M (pc + 1) L S (h.set i (.inr (false, xs.set j.toNatClampNeg v))) r) : Ev G M pc L (.int v :: .int j :: .ref i :: S) h r := by
  have hs := hsl_set (gK G) h i (.inr (false, xs)) (.inr (false, xs.set j.toNatClampNeg v)) hi (by simp [csl])
  refine Ev.gen (by rw [List.length_set]; exact Nat.le_refl _) (by rw [hs]; exact Nat.le_refl _) rfl hn ?_
  intro p e R s m args below meth c T locs cells slots X hx hZ hown hby hml hnm hLm hfr hlo hsz hR hFr hc hsq
  obtain ⟨cl, A, hsz'⟩ := hR.2.2.2 i _ hi
  obtain ⟨T', h', X', eT', W, st⟩ := stI X hx hZ rfl A (j := j) (x := v) (fun q => q.elim hj fun q => absurd (arr_size hsz' ▸ q) (Nat.not_le.mpr hlt)) (g := mkF m pc (arL G L) ((Value.int v :: Value.int j :: Value.ref i :: S).map (tr G))) rfl rfl (hb hby hd)
  refine ⟨T', _, ?_, ?_, Fr.snoc X' hFr (rho_ge hk), st⟩
  · rw [hs, List.length_set, Nat.sub_self, Nat.sub_self, Nat.add_zero, Nat.add_zero]; exact X'
  · rw [eT']; exact hR.wrArr hi W
theorem Ev.bastore {i : Nat} {xs : List Int32} {j v : Int32} (hd : decode (mB M) pc = .ok (.bastore, 1)) (hk : k0 G ≤ i) (hi : h[i]? = some (.inr (true, xs))) (hj : ¬ j < 0) (hlt : j.toNatClampNeg < xs.length) (hn : Ev G M (pc + 1) L S (h.set i (.inr (true, xs.set j.toNatClampNeg (v &&& 1)))) r) : Ev G M pc L (.int v :: .int j :: .ref i :: S) h r := by
  have hs := hsl_set (gK G) h i (.inr (true, xs)) (.inr (true, xs.set j.toNatClampNeg (v &&& 1))) hi (by simp [csl])
  refine Ev.gen (by rw [List.length_set]; exact Nat.le_refl _) (by rw [hs]; exact Nat.le_refl _) rfl hn ?_
  intro p e R s m args below meth c T locs cells slots X hx hZ hown hby hml hnm hLm hfr hlo hsz hR hFr hc hsq
  obtain ⟨cl, A, hsz'⟩ := hR.2.2.2 i _ hi
  obtain ⟨T', h', X', eT', W, st⟩ := stZ X hx hZ rfl A (j := j) (x := v) (fun q => q.elim hj fun q => absurd (arr_size hsz' ▸ q) (Nat.not_le.mpr hlt)) (g := mkF m pc (arL G L) ((Value.int v :: Value.int j :: Value.ref i :: S).map (tr G))) rfl rfl (hb hby hd)
  refine ⟨T', _, ?_, ?_, Fr.snoc X' hFr (rho_ge hk), st⟩
  · rw [hs, List.length_set, Nat.sub_self, Nat.sub_self, Nat.add_zero, Nat.add_zero]; exact X'
  · rw [eT']; exact hR.wrArr hi W
/-! ### making -/
theorem Ev.new {idx : Nat} {fs : List Value} (K : GOk G) (w : (Jvm.Cond.classLink (mN M).cls idx (gC G)).before (gA G) (gZ G) = true) (hd : decode (mB M) pc = .ok (.new idx, 3)) (hf : fs = (gF G).map fun f => defaultValue f.2.2)
    (hn : Ev G M (pc + 3) L (.ref h.length :: S) (h ++ [.inl fs]) r) : Ev G M pc L S h r := by
  subst hf
  have hs := hsl_push (gK G) h (.inl ((gF G).map fun f => defaultValue f.2.2))
  refine Ev.gen (by simp) (by rw [hs]; exact Nat.le_add_right _ _) rfl hn ?_
  intro p e R s m args below meth c T locs cells slots X hx hZ hown hby hml hnm hLm hfr hlo hsz hR hFr hc hsq
  have el : (h ++ [(.inl ((gF G).map fun f => defaultValue f.2.2) : MCell)]).length - h.length = 1 := by simp
  have es : hsl (gK G) (h ++ [.inl ((gF G).map fun f => defaultValue f.2.2)]) - hsl (gK G) h = gK G := by rw [hs]; simp [csl]
  rw [el] at hc
  rw [es] at hsq
  obtain ⟨T', h', X', eT', E, A, D, -, st⟩ := newO X hx hZ hown w K.2.2.1 K.2.2.2 rfl (g := mkF m pc (arL G L) (S.map (tr G))) rfl (hb hby hd) hc hsq
  rw [el, es]
  have hrho : rho G h.length = T.heap.size := by rw [rho_new hR.2.1]; have := hR.1; have := hR.2.1; omega
  refine ⟨T', _, X', ?_, hFr, fun target k => st target ?_⟩
  · rw [eT']
    refine hR.push E ?_ ⟨A, by simp, fun j n d ty v hf hv => ?_⟩
    · have h1 := X'.heapSize
      have h2 : T.heap.size < h'.size := A.lt
      rw [eT'] at h1
      omega
    · rw [List.getElem?_map, hf] at hv
      cases hv
      have := D (K.1 j n d ty hf).1 (K.1 j n d ty hf).2
      have e : tr G (defaultValue ty) = defaultValue ty := by cases ty <;> rfl
      rw [e]; exact this
  · rw [← hrho]; exact k
theorem Ev.newarray {aty : ArrayType} {b : Bool} {n : Int32} {k : Nat} (w : (Jvm.Cond.arrayClass (newarray.typeOf aty)).before (gA G) (gZ G) = true) (hb' : newarray.typeOf aty = kd b) (hd : decode (mB M) pc = .ok (.newarray aty, 2)) (hn0 : ¬ n < 0) (hk : n.toNatClampNeg = k) (hcap : k ≤ 67108864)
    (hn : Ev G M (pc + 2) L (.ref h.length :: S) (h ++ [.inr (b, List.replicate k 0)]) r) : Ev G M pc L (.int n :: S) h r := by
  subst hk
  have hs := hsl_push (gK G) h (.inr (b, List.replicate n.toNatClampNeg 0))
  refine Ev.gen (by simp) (by rw [hs]; exact Nat.le_add_right _ _) rfl hn ?_
  intro p e R s m args below meth c T locs cells slots X hx hZ hown hby hml hnm hLm hfr hlo hsz hR hFr hc hsq
  have el : (h ++ [(.inr (b, List.replicate n.toNatClampNeg 0) : MCell)]).length - h.length = 1 := by simp
  have es : hsl (gK G) (h ++ [.inr (b, List.replicate n.toNatClampNeg 0)]) - hsl (gK G) h = n.toNatClampNeg := by rw [hs]; simp [csl]
  rw [el] at hc
  rw [es] at hsq
  obtain ⟨T', h', cA, X', eT', E, A, st⟩ := newP X hx hZ w rfl (g := mkF m pc (arL G L) ((Value.int n :: S).map (tr G))) rfl (hb hby hd) rfl hn0 (cap := n.toNatClampNeg) (Nat.le_refl _) (by omega) hc hsq
  rw [el, es]
  have hrho : rho G h.length = T.heap.size := by rw [rho_new hR.2.1]; have := hR.1; have := hR.2.1; omega
  refine ⟨T', _, X', ?_, hFr, fun target k => st target ?_⟩
  · rw [eT']
    refine hR.push E ?_ ⟨_, hb' ▸ A, ?_⟩
    · have h1 := X'.heapSize
      have h2 : T.heap.size < h'.size := A.lt
      rw [eT'] at h1
      omega
    · have e0 : defaultValue (kd b) = .int 0 := by cases b <;> rfl
      show Array.replicate n.toNatClampNeg (defaultValue (kd b)) = _
      rw [e0]
      simp
  · rw [← hrho]; exact k
theorem Ev.initO {idx i : Nat} (w1 : (Jvm.Cond.methodLink (mN M).cls idx Lib.objectInit).before (gA G) (gZ G) = true) (w2 : (Jvm.Cond.instanceMethod Lib.objectInit).before (gA G) (gZ G) = true) (w3 : (Jvm.Cond.code Lib.objectInit ⟨#[0xb1]⟩ 1 none).before (gA G) (gZ G) = true)
    (hd : decode (mB M) pc = .ok (.invokespecial idx, 3)) (hf : 1 ≤ mF M) (hl : (S.map fun v => v.category).sum + 12 ≤ mW M) (hn : Ev G M (pc + 3) L S h r) : Ev G M pc L (.ref i :: S) h r := by
  refine Ev.same rfl hn ?_
  intro p e R s m args below meth c T locs cells slots X hx hZ hown hby hml hLm hfr hlo hR
  obtain ⟨T', X', e', st⟩ := RoadKit.initO X hx hZ hown w1 w2 w3 rfl (g := mkF m pc (arL G L) ((Value.ref i :: S).map (tr G))) rfl (by rw [hml, ← hLm]; simp [arL]) (a := rho G i) (rest := S.map (tr G)) rfl (hb hby hd) (Nat.le_trans hf hfr) (W := (S.map fun v => v.category).sum) (by rw [tr_cats]; show 2 * 0 + _ ≤ _; omega) (by omega)
  exact ⟨T', X', e', st⟩
/-! ### calls -/
def notMH (y : Mi) : Prop := (mN y).cls ≠ "java/lang/invoke/MethodHandle" ∧ (mN y).cls ≠ "java/lang/invoke/VarHandle"
theorem mapRev (G : Ctx) (args : List Value) : (args.reverse).map (tr G) = (args.map (tr G)).reverse := by simp
theorem vList (G : Ctx) (v : Option Value) (S : List Value) : (v.map (tr G)).toList ++ S.map (tr G) = (v.toList ++ S).map (tr G) := by cases v <;> simp
theorem back_of_evc {p : Program} {e : Env} {R : Room} {s : State} {args0 : Array Value} {below : List Frame} {y : Mi} {args : List Value} {r1 : Option Value × MHeap} {hr : Heap} {W : Nat} (hC : EvC G y args h r1) (hR : Rel G hr h) (hZ : (gZ G).Warmed39 s.vm)
    (wc : (Jvm.Cond.code (mN y) (mB y) (mL y) (mR y)).before (gA G) (gZ G) = true) (wz : (Jvm.Cond.initialized (mN y).cls).before (gA G) (gZ G) = true) (hf : mF y + 1 ≤ R.frames) (hl : W + (mL y + 11) + mW y ≤ R.locals) :
    Back (gL G) R p e below s args0 (mN y) 3 W (fun A a => a = (args.map (tr G)).toArray ∧ A.U.heap = hr ∧ A.cells + (r1.2.length - h.length) ≤ R.cells ∧ A.slots + (hsl (gK G) r1.2 - hsl (gK G) h) ≤ R.slots)
      (fun A _ v B => ∃ L, (v = r1.1.map (tr G) ∧ Fr (gN G) L ∧ Rel G B.U.heap r1.2) ∧ B.locs = A.locs ++ L ∧ B.cells = A.cells + (r1.2.length - h.length) ∧ B.slots = A.slots + (hsl (gK G) r1.2 - hsl (gK G) h)) :=
  backOf (Q := fun v hp L => v = r1.1.map (tr G) ∧ Fr (gN G) L ∧ Rel G hp r1.2) (rm := { frames := mF y, cells := r1.2.length - h.length, slots := hsl (gK G) r1.2 - hsl (gK G) h, locals := mW y })
    (hC.2 [] { frames := mF y, cells := r1.2.length - h.length, slots := hsl (gK G) r1.2 - hsl (gK G) h, locals := mW y } hr (Nat.le_refl _) (Nat.le_refl _) (Nat.le_refl _) (Nat.le_refl _) hR) hZ wc wz hf hl
/-- a private method of the class -/
theorem Ev.priv {y : Mi} {idx i : Nat} {args rest : List Value} {v : Option Value} {h1 : MHeap} {fs : List Value} (K : GOk G) (hcls : (mN y).cls = gC G) (hy : notMH y)
    (wl : (Jvm.Cond.methodLink (mN M).cls idx (mN y)).before (gA G) (gZ G) = true) (wi : (Jvm.Cond.instanceMethod (mN y)).before (gA G) (gZ G) = true) (wp : (Jvm.Cond.privateMethod (mN y)).before (gA G) (gZ G) = true)
    (wc : (Jvm.Cond.code (mN y) (mB y) (mL y) (mR y)).before (gA G) (gZ G) = true) (hlen : ∀ sig, parseMethodDescriptor (mN y).desc = some sig → args.length = sig.parameters.length)
    (hd : decode (mB M) pc = .ok (.invokevirtual idx, 3)) (hi : h[i]? = some (.inl fs)) (hC : EvC G y (.ref i :: args) h (v, h1)) (hfr : mF y + 1 ≤ mF M) (hlo : (rest.map fun v => v.category).sum + (mL y + 11) + mW y ≤ mW M)
    (hS : S = args.reverse ++ .ref i :: rest) (hn : Ev G M (pc + 3) L (v.toList ++ rest) h1 r) : Ev G M pc L S h r := by
  subst hS
  refine Ev.gen hC.1.1 hC.1.2 rfl hn ?_
  intro p e R s m args0 below meth c T locs cells slots X hx hZ hown hby hml hnm hLm hfr' hlo' hsz hR hFr hc hsq
  obtain ⟨e1, -, -⟩ := hR.2.2.2 i _ hi
  obtain ⟨cell, hcell, hobj⟩ := e1.cell
  have hwi : (Jvm.Cond.instanceMethod (mN y)).before args0 s = true := mvT hZ wi
  have hpr := Jvm.Cond.privateMethod_at (mvP hZ wp (args := #[]))
  have hsel : (Jvm.Cond.selects (mN y).cls (mN y) (mN y)).before args0 s = true := by
    obtain ⟨c0, k0', q1, q2, -, q4, -⟩ := Jvm.Cond.instantiable_spec (mvT hZ K.2.2.1 (args := #[]) (s := s))
    refine selects_self_of_private (c := c0) (k := k0') (by rw [hcls]; exact q1) q2 ?_ hpr hwi hy
    simp only [Bool.or_eq_false_iff] at q4
    exact q4.1
  obtain ⟨v', vm1, ⟨T', L', k', n'⟩, -, X', ⟨Lc, ⟨rfl, hF', hR'⟩, l1, l2, l3⟩, st⟩ := X.privateBack hx (y := mN y) hown (mvT hZ wl) hwi hsel hpr (mvT hZ wc) hy
    (back_of_evc (W := (rest.map fun v => v.category).sum) hC hR hZ wc (hcls ▸ K.2.2.2) (Nat.le_trans hfr hfr') (Nat.le_trans hlo hlo')) (g := mkF m pc (arL G L) ((args.reverse ++ Value.ref i :: rest).map (tr G))) rfl (by rw [hml, ← hLm]; simp [arL]) (Steps.refl _) hcell hobj
    (argsL := args.map (tr G)) (rest := rest.map (tr G)) (fun sig hsig => by rw [List.length_map]; exact hlen sig hsig) (by simp [tr]) (by rw [tr_cats]; show 2 * 0 + _ ≤ _; omega) (hb hby hd) (fun vm1 hW1 => ⟨rfl, rfl, hc, hsq⟩)
  dsimp only [Pt.U, Pt.locs, Pt.cells, Pt.slots] at X' l1 l2 l3 st hR'
  subst l1 l2 l3
  refine ⟨T', _, X', hR', hFr.app hF', fun target k => st.trans ?_⟩
  rw [vList]
  exact k
/-- a method of the class that no one overrides -/
theorem Ev.virt {y : Mi} {idx i : Nat} {args rest : List Value} {v : Option Value} {h1 : MHeap} {fs : List Value} (K : GOk G) (hcls : (mN y).cls = gC G) (hy : notMH y)
    (wl : (Jvm.Cond.methodLink (mN M).cls idx (mN y)).before (gA G) (gZ G) = true) (wd : (Jvm.Cond.declares (mN y)).before (gA G) (gZ G) = true) (wi : (Jvm.Cond.instanceMethod (mN y)).before (gA G) (gZ G) = true) (ws : (Jvm.Cond.selects (gC G) (mN y) (mN y)).before (gA G) (gZ G) = true)
    (wc : (Jvm.Cond.code (mN y) (mB y) (mL y) (mR y)).before (gA G) (gZ G) = true) (hlen : ∀ sig, parseMethodDescriptor (mN y).desc = some sig → args.length = sig.parameters.length)
    (hd : decode (mB M) pc = .ok (.invokevirtual idx, 3)) (hi : h[i]? = some (.inl fs)) (hC : EvC G y (.ref i :: args) h (v, h1)) (hfr : mF y + 1 ≤ mF M) (hlo : (rest.map fun v => v.category).sum + (mL y + 11) + mW y ≤ mW M)
    (hS : S = args.reverse ++ .ref i :: rest) (hn : Ev G M (pc + 3) L (v.toList ++ rest) h1 r) : Ev G M pc L S h r := by
  subst hS
  refine Ev.gen hC.1.1 hC.1.2 rfl hn ?_
  intro p e R s m args0 below meth c T locs cells slots X hx hZ hown hby hml hnm hLm hfr' hlo' hsz hR hFr hc hsq
  obtain ⟨e1, -, -⟩ := hR.2.2.2 i _ hi
  obtain ⟨cq, kq, qa, qb, qc⟩ := isOf (T := T) hZ rfl e1
  obtain ⟨v', vm1, ⟨T', L', k', n'⟩, -, X', ⟨Lc, ⟨rfl, hF', hR'⟩, l1, l2, l3⟩, st⟩ := X.virtualBack hx (y := mN y) (z := mN y) hown (mvT hZ wl) (mvT hZ wd) (notFace_of_selects (args := #[]) (mvT hZ ws)) (mvT hZ ws) (mvT hZ wi) hy
    (back_of_evc (W := (rest.map fun v => v.category).sum) hC hR hZ wc (hcls ▸ K.2.2.2) (Nat.le_trans hfr hfr') (Nat.le_trans hlo hlo')) qa qc (g := mkF m pc (arL G L) ((args.reverse ++ Value.ref i :: rest).map (tr G))) rfl (by rw [hml, ← hLm]; simp [arL]) (Steps.refl _)
    (argsL := args.map (tr G)) (rest := rest.map (tr G)) (fun sig hsig => by rw [List.length_map]; exact hlen sig hsig) (by simp [tr]) (by rw [tr_cats]; show 2 * 0 + _ ≤ _; omega) (hb hby hd) (fun vm1 hW1 => ⟨rfl, rfl, hc, hsq⟩)
  dsimp only [Pt.U, Pt.locs, Pt.cells, Pt.slots] at X' l1 l2 l3 st hR'
  subst l1 l2 l3
  refine ⟨T', _, X', hR', hFr.app hF', fun target k => st.trans ?_⟩
  rw [vList]
  exact k
/-- a constructor -/
theorem Ev.ctor {y : Mi} {idx i : Nat} {args rest : List Value} {v : Option Value} {h1 : MHeap} (hy1 : (mN y).name = "<init>") (hret : mR y = none) (hy : notMH y)
    (wl : (Jvm.Cond.methodLink (mN M).cls idx (mN y)).before (gA G) (gZ G) = true) (wi : (Jvm.Cond.instanceMethod (mN y)).before (gA G) (gZ G) = true)
    (wc : (Jvm.Cond.code (mN y) (mB y) (mL y) (mR y)).before (gA G) (gZ G) = true) (wz : (Jvm.Cond.initialized (mN y).cls).before (gA G) (gZ G) = true) (hlen : ∀ sig, parseMethodDescriptor (mN y).desc = some sig → args.length = sig.parameters.length)
    (hd : decode (mB M) pc = .ok (.invokespecial idx, 3)) (hC : EvC G y (.ref i :: args) h (v, h1)) (hfr : mF y + 1 ≤ mF M) (hlo : (rest.map fun v => v.category).sum + (mL y + 11) + mW y ≤ mW M)
    (hS : S = args.reverse ++ .ref i :: rest) (hn : Ev G M (pc + 3) L (v.toList ++ rest) h1 r) : Ev G M pc L S h r := by
  subst hS
  refine Ev.gen hC.1.1 hC.1.2 rfl hn ?_
  intro p e R s m args0 below meth c T locs cells slots X hx hZ hown hby hml hnm hLm hfr' hlo' hsz hR hFr hc hsq
  obtain ⟨v', vm1, ⟨T', L', k', n'⟩, -, X', ⟨Lc, ⟨rfl, hF', hR'⟩, l1, l2, l3⟩, st⟩ := X.specialBack hx (y := mN y) hy1 hown (mvT hZ wl) (mvT hZ wi) (mvT hZ (hret ▸ wc)) hy
    (back_of_evc (W := (rest.map fun v => v.category).sum) hC hR hZ wc wz (Nat.le_trans hfr hfr') (Nat.le_trans hlo hlo')) (g := mkF m pc (arL G L) ((args.reverse ++ Value.ref i :: rest).map (tr G))) rfl (by rw [hml, ← hLm]; simp [arL]) (Steps.refl _)
    (a := rho G i) (argsL := args.map (tr G)) (rest := rest.map (tr G)) (fun sig hsig => by rw [List.length_map]; exact hlen sig hsig) (by simp [tr]) (by rw [tr_cats]; show 2 * 0 + _ ≤ _; omega) (hb hby hd) (fun vm1 hW1 => ⟨rfl, rfl, hc, hsq⟩)
  dsimp only [Pt.U, Pt.locs, Pt.cells, Pt.slots] at X' l1 l2 l3 st hR'
  subst l1 l2 l3
  refine ⟨T', _, X', hR', hFr.app hF', fun target k => st.trans ?_⟩
  rw [vList]
  exact k
/-- a static method -/
theorem Ev.stat {y : Mi} {idx : Nat} {args rest : List Value} {v : Option Value} {h1 : MHeap} (hy : notMH y)
    (wl : (Jvm.Cond.methodLink (mN M).cls idx (mN y)).before (gA G) (gZ G) = true) (wst : (Jvm.Cond.static (mN y)).before (gA G) (gZ G) = true) (wz : (Jvm.Cond.initialized (mN y).cls).before (gA G) (gZ G) = true)
    (wc : (Jvm.Cond.code (mN y) (mB y) (mL y) (mR y)).before (gA G) (gZ G) = true) (hlen : ∀ sig, parseMethodDescriptor (mN y).desc = some sig → args.length = sig.parameters.length)
    (hd : decode (mB M) pc = .ok (.invokestatic idx, 3)) (hC : EvC G y args h (v, h1)) (hfr : mF y + 1 ≤ mF M) (hlo : (rest.map fun v => v.category).sum + (mL y + 11) + mW y ≤ mW M)
    (hS : S = args.reverse ++ rest) (hn : Ev G M (pc + 3) L (v.toList ++ rest) h1 r) : Ev G M pc L S h r := by
  subst hS
  refine Ev.gen hC.1.1 hC.1.2 rfl hn ?_
  intro p e R s m args0 below meth c T locs cells slots X hx hZ hown hby hml hnm hLm hfr' hlo' hsz hR hFr hc hsq
  obtain ⟨v', vm1, ⟨T', L', k', n'⟩, -, X', ⟨Lc, ⟨rfl, hF', hR'⟩, l1, l2, l3⟩, st⟩ := Jvm.LawKit.callS X hx (y := mN y) hown (mvT hZ wl) (mvT hZ wst) (mvT hZ wz) (mvT hZ wc) hy
    (back_of_evc (W := (rest.map fun v => v.category).sum) hC hR hZ wc wz (Nat.le_trans hfr hfr') (Nat.le_trans hlo hlo')) (g := mkF m pc (arL G L) ((args.reverse ++ rest).map (tr G))) rfl (by rw [hml, ← hLm]; simp [arL])
    (argsL := args.map (tr G)) (rest := rest.map (tr G)) (fun sig hsig => by rw [List.length_map]; exact hlen sig hsig) (by simp) (by rw [tr_cats]; show 2 * 0 + _ ≤ _; omega) (hb hby hd) (fun vm1 hW1 => ⟨rfl, rfl, hc, hsq⟩)
  dsimp only [Pt.U, Pt.locs, Pt.cells, Pt.slots] at X' l1 l2 l3 st hR'
  subst l1 l2 l3
  refine ⟨T', _, X', hR', hFr.app hF', fun target k => st target ?_⟩
  rw [vList]
  exact k
/-! ### returns -/
theorem Ev.ret {v : Option Value} (st : ∀ {p : Program} {e : Env} {R : Room} {s : State} {m : MethodId} {args : Array Value} {below : List Frame} {meth : Method} {c : Code} {T : State} {locs : List Loc} {cells slots : Nat},
      Stand p (gL G) e R s m args below meth c T locs cells slots → p.tables.exec = Jvm.exec → c.code = mB M → meth.sig.returnType = mR M → ∀ fs,
      (∀ (f : JFrame) (acts : List Action), f.method = m → f.locked = none → f.entered = [] → (doReturn e (T.setTop f) acts (v.map (tr G))).1 = T.setFrames fs) → Steps p.tables e below (T.setTop (mkF m pc (arL G L) (S.map (tr G)))) (T.setFrames fs)) :
    Ev G M pc L S h (v, h) := by
  refine ⟨⟨Nat.le_refl _, Nat.le_refl _⟩, ?_⟩
  intro p e R s m args below meth c T locs cells slots X hx hZ hown hby hml hret hnm hLm hfr hlo hsz hR hF hc hs
  refine ⟨T, locs, ?_, hR, hF, st X hx hby hret⟩
  rw [Nat.sub_self, Nat.sub_self, Nat.add_zero, Nat.add_zero]
  exact X
theorem Ev.ireturn {z : Int32} (hret : mR M = some .int) (hd : decode (mB M) pc = .ok (.ireturn, 1)) : Ev G M pc L (.int z :: S) h (some (.int z), h) :=
  Ev.ret fun X hx hby hr fs hl => retOut X hx (hr.trans hret) rfl (Or.inl ⟨rfl, Or.inl rfl, z, rfl⟩) (hb hby hd) hl
theorem Ev.zreturn {z : Int32} (hret : mR M = some .boolean) (hd : decode (mB M) pc = .ok (.ireturn, 1)) : Ev G M pc L (.int z :: S) h (some (.int (z &&& 1)), h) :=
  Ev.ret fun X hx hby hr fs hl => retN X hx (t := .boolean) (hr.trans hret) (Or.inl rfl) (hb hby hd) hl
theorem Ev.lreturn {z : Int64} (hret : mR M = some .long) (hd : decode (mB M) pc = .ok (.lreturn, 1)) : Ev G M pc L (.long z :: S) h (some (.long z), h) :=
  Ev.ret fun X hx hby hr fs hl => retOut X hx (hr.trans hret) rfl (Or.inr (Or.inl ⟨rfl, rfl, z, rfl⟩)) (hb hby hd) hl
theorem Ev.vreturn (hret : mR M = none) (hd : decode (mB M) pc = .ok (.return_, 1)) : Ev G M pc L [] h (none, h) :=
  Ev.ret fun X hx hby hr fs hl => X.returnOut hx (hr.trans hret) (hb hby hd) hl
/-! ### entering -/
def margs : List Value → List Slot
  | [] => []
  | v :: vs => if v.category = 2 then .val v :: .second :: margs vs else .val v :: margs vs
theorem margs_fold (vs : List Value) : ∀ acc : Array Slot, vs.foldl (init := acc) (fun acc v => if v.category = 2 then (acc.push (.val v)).push .second else acc.push (.val v)) = acc ++ (margs vs).toArray := by
  induction vs with
  | nil => intro acc; simp [margs]
  | cons v vs ih =>
    intro acc
    rw [List.foldl_cons, ih]
    by_cases h : v.category = 2
    · simp [margs, h]
    · simp [margs, h]
theorem margs_map (G : Ctx) : ∀ vs : List Value, margs (vs.map (tr G)) = (margs vs).map (trS G)
  | [] => rfl
  | v :: vs => by
    have ih := margs_map G vs
    by_cases h : v.category = 2
    · simp only [List.map_cons, margs, tr_cat, h, if_true, ih]; rfl
    · simp only [List.map_cons, margs, tr_cat, h, if_false, ih]; rfl
def ment (args : List Value) (k : Nat) : List Slot := margs args ++ List.replicate (k - (margs args).length) .unset
theorem entry_eq (G : Ctx) (m : MethodId) (args : List Value) (k : Nat) : entryFrame m (args.map (tr G)).toArray k = mkF m 0 (arL G (ment args k)) [] := by
  have e : argsToLocals (args.map (tr G)).toArray k = arL G (ment args k) := by
    unfold argsToLocals arL ment
    have q := margs_fold (args.map (tr G)) #[]
    rw [List.foldl_toArray']
    · rw [q, margs_map]
      simp [trS]
    · simp
  unfold entryFrame
  rw [e]
theorem EvC.enter {y : Mi} {args : List Value} {L0 : List Slot} (hp : plainFor (mN y) = true) (hv : mR y = none → r.1 = none) (hL : ment args (mL y) = L0) (hlen : L0.length = mL y) (hn : Ev G y 0 L0 [] h r) : EvC G y args h r := by
  subst hL
  refine ⟨hn.1, fun ws R hr hf hl hc hs hR => ?_⟩
  refine MetFree.of_bodySF hp hisR ?_
  intro p e s m args' below meth c s₁ Bd hml0 hP hK
  obtain ⟨rfl, hZ, hh⟩ := hP
  have X0 : Stand p (gL G) e R s m _ below meth c s₁ [] 0 0 := Stand.of_body Bd
  have e0 : s₁.heap = hr := by rw [← hh, Bd.state]; rfl
  obtain ⟨T', locs', X', R', F', st⟩ := hn.2 p e R s m _ below meth c s₁ [] 0 0 X0 Bd.exec hZ (findClass_of_methodNamed Bd.named) Bd.bytes hml0 Bd.returns (name_of_methodNamed Bd.named Bd.method).1 hlen hf hl (by rw [e0, hh]; rfl) (by rw [e0]; exact hR) (Fr.nil _) (by omega) (by omega)
  rw [Nat.zero_add, Nat.zero_add] at X'
  obtain ⟨fs, hret, hrun, hended, hW, hsame⟩ := X'.leave (v := r.1.map (tr G)) (fun q => by rw [hv (Bd.returns.symm.trans q)]; rfl)
  refine ⟨_, _, castTop (entry_eq G m args (mL y)) (st fs hret), hrun, hended, _, _, rfl, ⟨rfl, F', ?_⟩, ⟨_, rfl⟩, hW, hsame⟩
  exact R'
end Rules
end Jvm.Own
namespace Jvm.Own
open Sem ClassFile Op Lib Jvm.Stand Jvm.Free Jvm.LawKit Jvm.RoadKit
/-! ## 4. An object as two functions: its ints by the field's number, its arrays by the field's number and the place -/
abbrev St := (Nat → Int32) × (Nat → Nat → Int32)
def setI (s : St) (j : Nat) (z : Int32) : St := (fun k => if k = j then z else s.1 k, s.2)
def setA (s : St) (j i : Nat) (z : Int32) : St := (s.1, fun k x => if k = j ∧ x = i then z else s.2 k x)
def zeroS : St := (fun _ => 0, fun _ _ => 0)
theorem setI_1 (s : St) (j : Nat) (z : Int32) (k : Nat) : (setI s j z).1 k = if k = j then z else s.1 k := rfl
theorem setI_2 (s : St) (j : Nat) (z : Int32) : (setI s j z).2 = s.2 := rfl
theorem setA_1 (s : St) (j i : Nat) (z : Int32) : (setA s j i z).1 = s.1 := rfl
theorem setA_2 (s : St) (j i : Nat) (z : Int32) (k x : Nat) : (setA s j i z).2 k x = if k = j ∧ x = i then z else s.2 k x := rfl
def ix (j : Int32) : Nat := j.toNatClampNeg
/-- the place j lies in an array of n -/
def inb (j : Int32) (n : Nat) : Prop := ¬ j < 0 ∧ ix j < n
instance (j : Int32) (n : Nat) : Decidable (inb j n) := inferInstanceAs (Decidable (_ ∧ _))
def bnd {α β : Type} (x : α) (f : α → β) : β := f x
theorem bnd_eq {α β : Type} (x : α) (f : α → β) : bnd x f = f x := rfl
def tab (n : Nat) (f : Nat → Int32) : List Int32 := (List.range n).map f
theorem tab_len (n : Nat) (f : Nat → Int32) : (tab n f).length = n := by simp [tab]
theorem tab_get {n : Nat} {f : Nat → Int32} {i : Nat} (h : i < n) : (tab n f)[i]? = some (f i) := by simp [tab, h]
theorem tab_set {n : Nat} {f : Nat → Int32} {i : Nat} {z : Int32} : (tab n f).set i z = tab n (fun x => if x = i then z else f x) := by
  apply List.ext_getElem?
  intro k
  rw [List.getElem?_set]
  by_cases h : i = k
  · subst h
    by_cases q : i < n
    · simp [tab, q]
    · simp [tab, q]
  · by_cases q : k < n
    · simp [tab, q, h, Ne.symm h]
    · simp [tab, q, h]
theorem tab_zero (n : Nat) : tab n (fun _ => 0) = List.replicate n 0 := by
  apply List.ext_getElem?
  intro k
  by_cases q : k < n <;> simp [tab, q]
theorem tab_of (xs : List Int32) : xs = tab xs.length (fun i => xs.getD i 0) := by
  apply List.ext_getElem?
  intro k
  by_cases q : k < xs.length
  · simp [tab, q]
  · simp [tab, q]
def isA : FieldType → Bool
  | .array _ => true
  | _ => false
def isB : FieldType → Bool
  | .boolean => true
  | _ => false
def fv1 (r : Nat → Nat) (s : St) (j : Nat) (f : Fd) : Value := match f.2.2 with
  | .array _ => .ref (r j)
  | _ => .int (s.1 j)
def fvA (r : Nat → Nat) (s : St) : Nat → List Fd → List Value
  | _, [] => []
  | j, f :: fs => fv1 r s j f :: fvA r s (j + 1) fs
theorem fvA_get (r : Nat → Nat) (s : St) : ∀ (F : List Fd) (k j : Nat), (fvA r s k F)[j]? = (F[j]?).map (fv1 r s (k + j))
  | [], _, _ => by simp [fvA]
  | f :: fs, k, 0 => by simp [fvA]
  | f :: fs, k, j + 1 => by
    have := fvA_get r s fs (k + 1) j
    simp only [fvA, List.getElem?_cons_succ, this]
    rw [show k + 1 + j = k + (j + 1) by omega]
theorem fvA_len (r : Nat → Nat) (s : St) : ∀ (F : List Fd) (k : Nat), (fvA r s k F).length = F.length
  | [], _ => rfl
  | f :: fs, k => by simp [fvA, fvA_len r s fs (k + 1)]
theorem fvA_set {r : Nat → Nat} {s : St} {F : List Fd} {j : Nat} {f : Fd} {z : Int32} (hF : F[j]? = some f) (ht : isA f.2.2 = false) : (fvA r s 0 F).set j (.int z) = fvA r (setI s j z) 0 F := by
  apply List.ext_getElem?
  intro k
  rw [List.getElem?_set, fvA_get, fvA_get, Nat.zero_add]
  by_cases h : j = k
  · subst h
    simp only [if_true, fvA_len, (List.getElem?_eq_some_iff.mp hF).1, hF, Option.map_some]
    congr 1
    unfold fv1
    split
    · rename_i t e; rw [e] at ht; cases ht
    · simp [setI_1]
  · simp only [h, if_false]
    cases F[k]? with
    | none => rfl
    | some g =>
      simp only [Option.map_some]
      congr 1
      unfold fv1
      split
      · rfl
      · rw [setI_1, if_neg (Ne.symm h)]
theorem fvA_same (r : Nat → Nat) {s s' : St} (h : s.1 = s'.1) : ∀ (F : List Fd) (k : Nat), fvA r s k F = fvA r s' k F
  | [], _ => rfl
  | f :: fs, k => by
    simp only [fvA, fvA_same r h fs (k + 1)]
    congr 1
    unfold fv1
    split
    · rfl
    · rw [h]
/-- the heap K s shows the object at o, its arrays at r, as s tells -/
def View (G : Ctx) (Ln : Nat → Nat) (K : St → MHeap) (o : Nat) (r : Nat → Nat) : Prop :=
  k0 G ≤ o ∧ (∀ s, (K s)[o]? = some (.inl (fvA r s 0 (gF G)))) ∧
  (∀ s j f z, (gF G)[j]? = some f → isA f.2.2 = false → (K s).set o (.inl ((fvA r s 0 (gF G)).set j (.int z))) = K (setI s j z)) ∧
  (∀ j n d t, (gF G)[j]? = some (n, d, .array t) → k0 G ≤ r j ∧ (∀ s, (K s)[r j]? = some (.inr (isB t, tab (Ln j) (s.2 j)))) ∧ ∀ s i z, i < Ln j → (K s).set (r j) (.inr (isB t, (tab (Ln j) (s.2 j)).set i z)) = K (setA s j i z))
section ViewRules
variable {G : Ctx} {M : Mi} {pc : Nat} {L : List Slot} {S : List Value} {rr : Option Value × MHeap} {Ln : Nat → Nat} {K : St → MHeap} {o : Nat} {r : Nat → Nat} {s : St}
theorem Ev.gI {idx j : Nat} {n d : String} {ty : FieldType} (V : View G Ln K o r) (w : (Jvm.Cond.fieldLink (mN M).cls idx (gC G) n d).before (gA G) (gZ G) = true) (hd : decode (mB M) pc = .ok (.getfield idx, 3)) (hF : (gF G)[j]? = some (n, d, ty)) (ht : isA ty = false)
    (hn : Ev G M (pc + 3) L (.int (s.1 j) :: S) (K s) rr) : Ev G M pc L (.ref o :: S) (K s) rr :=
  Ev.getfield w hd hF (V.2.1 s) (v := .int (s.1 j)) (by rw [fvA_get, hF, Nat.zero_add]; simp only [Option.map_some, fv1]; cases ty <;> first | rfl | cases ht) hn
theorem Ev.gAr {idx j : Nat} {n d : String} {t : FieldType} (V : View G Ln K o r) (w : (Jvm.Cond.fieldLink (mN M).cls idx (gC G) n d).before (gA G) (gZ G) = true) (hd : decode (mB M) pc = .ok (.getfield idx, 3)) (hF : (gF G)[j]? = some (n, d, .array t))
    (hn : Ev G M (pc + 3) L (.ref (r j) :: S) (K s) rr) : Ev G M pc L (.ref o :: S) (K s) rr :=
  Ev.getfield w hd hF (V.2.1 s) (v := .ref (r j)) (by rw [fvA_get, hF, Nat.zero_add]; rfl) hn
theorem Ev.pI {idx j : Nat} {n d : String} {z : Int32} (V : View G Ln K o r) (Kk : GOk G) (w : (Jvm.Cond.fieldLink (mN M).cls idx (gC G) n d).before (gA G) (gZ G) = true)
    (wl : (Jvm.Cond.lays (gC G) (gC G) n d).before (gA G) (gZ G) = true ∨ ((Jvm.Cond.laysFinal (gC G) (gC G) n d).before (gA G) (gZ G) = true ∧ (mN M).cls = gC G ∧ (mN M).name = "<init>"))
    (hd : decode (mB M) pc = .ok (.putfield idx, 3)) (hF : (gF G)[j]? = some (n, d, .int)) (hn : Ev G M (pc + 3) L S (K (setI s j z)) rr) : Ev G M pc L (.int z :: .ref o :: S) (K s) rr := by
  refine Ev.putfield Kk w wl hd hF V.1 (V.2.1 s) (v' := .int z) rfl ?_
  rw [V.2.2.1 s j _ z hF rfl]; exact hn
theorem Ev.pZ {idx j : Nat} {n d : String} {z : Int32} (V : View G Ln K o r) (Kk : GOk G) (w : (Jvm.Cond.fieldLink (mN M).cls idx (gC G) n d).before (gA G) (gZ G) = true)
    (wl : (Jvm.Cond.lays (gC G) (gC G) n d).before (gA G) (gZ G) = true ∨ ((Jvm.Cond.laysFinal (gC G) (gC G) n d).before (gA G) (gZ G) = true ∧ (mN M).cls = gC G ∧ (mN M).name = "<init>"))
    (hd : decode (mB M) pc = .ok (.putfield idx, 3)) (hF : (gF G)[j]? = some (n, d, .boolean)) (hn : Ev G M (pc + 3) L S (K (setI s j (z &&& 1))) rr) : Ev G M pc L (.int z :: .ref o :: S) (K s) rr := by
  refine Ev.putfield Kk w wl hd hF V.1 (V.2.1 s) (v' := .int (z &&& 1)) rfl ?_
  rw [V.2.2.1 s j _ _ hF rfl]; exact hn
theorem Ev.ial {j : Nat} {n d : String} {i : Int32} {N : Nat} (V : View G Ln K o r) (hF : (gF G)[j]? = some (n, d, .array .int)) (hN : Ln j = N) (hd : decode (mB M) pc = .ok (.iaload, 1)) (hb : inb i N) (hn : Ev G M (pc + 1) L (.int (s.2 j (ix i)) :: S) (K s) rr) : Ev G M pc L (.int i :: .ref (r j) :: S) (K s) rr :=
  Ev.iaload hd ((V.2.2.2 j n d _ hF).2.1 s) hb.1 (tab_get (hN ▸ hb.2)) hn
theorem Ev.bal {j : Nat} {n d : String} {i : Int32} {N : Nat} (V : View G Ln K o r) (hF : (gF G)[j]? = some (n, d, .array .boolean)) (hN : Ln j = N) (hd : decode (mB M) pc = .ok (.baload, 1)) (hb : inb i N) (hn : Ev G M (pc + 1) L (.int (s.2 j (ix i)) :: S) (K s) rr) : Ev G M pc L (.int i :: .ref (r j) :: S) (K s) rr :=
  Ev.baload hd ((V.2.2.2 j n d _ hF).2.1 s) hb.1 (tab_get (hN ▸ hb.2)) hn
theorem Ev.ias {j : Nat} {n d : String} {i z : Int32} {N : Nat} (V : View G Ln K o r) (hF : (gF G)[j]? = some (n, d, .array .int)) (hN : Ln j = N) (hd : decode (mB M) pc = .ok (.iastore, 1)) (hb : inb i N) (hn : Ev G M (pc + 1) L S (K (setA s j (ix i) z)) rr) : Ev G M pc L (.int z :: .int i :: .ref (r j) :: S) (K s) rr := by
  obtain ⟨q1, q2, q3⟩ := V.2.2.2 j n d _ hF
  refine Ev.iastore hd q1 (q2 s) hb.1 (by rw [tab_len, hN]; exact hb.2) ?_
  have := q3 s (ix i) z (hN ▸ hb.2)
  exact this ▸ hn
theorem Ev.bas {j : Nat} {n d : String} {i z : Int32} {N : Nat} (V : View G Ln K o r) (hF : (gF G)[j]? = some (n, d, .array .boolean)) (hN : Ln j = N) (hd : decode (mB M) pc = .ok (.bastore, 1)) (hb : inb i N) (hn : Ev G M (pc + 1) L S (K (setA s j (ix i) (z &&& 1))) rr) : Ev G M pc L (.int z :: .int i :: .ref (r j) :: S) (K s) rr := by
  obtain ⟨q1, q2, q3⟩ := V.2.2.2 j n d _ hF
  refine Ev.bastore hd q1 (q2 s) hb.1 (by rw [tab_len, hN]; exact hb.2) ?_
  have := q3 s (ix i) (z &&& 1) (hN ▸ hb.2)
  exact this ▸ hn
theorem Ev.sal {h : MHeap} {i : Int32} {N k : Nat} {f : Nat → Int32} (hs : h[k]? = some (.inr (false, tab N f))) (hd : decode (mB M) pc = .ok (.iaload, 1)) (hb : inb i N) (hn : Ev G M (pc + 1) L (.int (f (ix i)) :: S) h rr) : Ev G M pc L (.int i :: .ref k :: S) h rr :=
  Ev.iaload hd hs hb.1 (tab_get hb.2) hn
theorem Ev.sln {h : MHeap} {N k : Nat} {f : Nat → Int32} (hs : h[k]? = some (.inr (false, tab N f))) (hd : decode (mB M) pc = .ok (.arraylength, 1)) (hn : Ev G M (pc + 1) L (.int N.toInt32 :: S) h rr) : Ev G M pc L (.ref k :: S) h rr :=
  Ev.arraylength hd hs (by rw [tab_len]; exact hn)
theorem Ev.zret1 {h : MHeap} (hret : mR M = some .boolean) (hd : decode (mB M) pc = .ok (.ireturn, 1)) : Ev G M pc L (.int 1 :: S) h (some (.int 1), h) := Ev.zreturn hret hd
theorem Ev.zret0 {h : MHeap} (hret : mR M = some .boolean) (hd : decode (mB M) pc = .ok (.ireturn, 1)) : Ev G M pc L (.int 0 :: S) h (some (.int 0), h) := Ev.zreturn hret hd
/-- a slot over which an int may be stored at once -/
def one1 : Slot → Bool
  | .unset => true
  | .val v => v.category == 1
  | .second => false
theorem mst_one {l : List Slot} {i : Nat} {v : Value} {o : Slot} (ho : l[i]? = some o) (h1 : one1 o = true) (hv : v.category = 1) : mst l i v = some (l.set i (.val v)) := by
  have hlt := (List.getElem?_eq_some_iff.mp ho).1
  have e : lstoreSelf l i v = some (l.set i (.val v)) := by simp [lstoreSelf, lsetAt, hlt, hv]
  unfold mst
  rw [ho]
  cases o with
  | unset => exact e
  | second => cases h1
  | val w =>
    have : w.category = 1 := by simpa [one1] using h1
    simp only [this]
    exact e
theorem Ev.istD {k : Nat} {v : Int32} {L' : List Slot} {o : Slot} {h : MHeap} (hd : decode (mB M) pc = .ok (.istore k, 2)) (ho : L[k]? = some o) (h1 : one1 o = true) (hl : L.set k (.val (.int v)) = L') (hn : Ev G M (pc + 2) L' S h rr) : Ev G M pc L (.int v :: S) h rr :=
  Ev.istore hd (by rw [mst_one ho h1 rfl, hl]) hn
theorem Ev.istDN {k : Fin 4} {v : Int32} {L' : List Slot} {o : Slot} {h : MHeap} (hd : decode (mB M) pc = .ok (.istore_n k, 1)) (ho : L[k.val]? = some o) (h1 : one1 o = true) (hl : L.set k.val (.val (.int v)) = L') (hn : Ev G M (pc + 1) L' S h rr) : Ev G M pc L (.int v :: S) h rr :=
  Ev.istoreN hd (by rw [mst_one ho h1 rfl, hl]) hn
/-- a pair of slots over which a long may be stored at once -/
def two2 (a b : Slot) : Prop := (one1 a = true ∧ one1 b = true) ∨ (∃ x, a = .val (.long x) ∧ b = .second)
theorem set_set2 {l : List Slot} {i : Nat} {a b c : Slot} : ((l.set (i + 1) a).set i b).set (i + 1) c = (l.set i b).set (i + 1) c := by
  rw [List.set_comm _ _ (by omega : i + 1 ≠ i), List.set_set]
theorem mst_two {l : List Slot} {i : Nat} {v : Int64} {o o' : Slot} (ho : l[i]? = some o) (ho' : l[i + 1]? = some o') (h2 : two2 o o') : mst l i (.long v) = some ((l.set i (.val (.long v))).set (i + 1) .second) := by
  have hlt := (List.getElem?_eq_some_iff.mp ho).1
  have hlt' := (List.getElem?_eq_some_iff.mp ho').1
  rcases h2 with ⟨h1, h1'⟩ | ⟨x, rfl, rfl⟩
  · have e : lstoreSelf l i (.long v) = some ((l.set i (.val (.long v))).set (i + 1) .second) := by
      have q : (l.set i (.val (.long v)))[i + 1]? = some o' := by rw [List.getElem?_set_ne (by omega)]; exact ho'
      have hcat : (Value.long v).category = 2 := rfl
      simp only [lstoreSelf, lsetAt, hlt, if_true, hcat, q]
      cases o' with
      | unset => simp [hlt']
      | second => cases h1'
      | val w =>
        have : w.category = 1 := by simpa [one1] using h1'
        simp [this, hlt']
    unfold mst
    rw [ho]
    cases o with
    | unset => exact e
    | second => cases h1
    | val w =>
      have : w.category = 1 := by simpa [one1] using h1
      simp only [this]
      exact e
  · unfold mst
    rw [ho]
    have q : ((l.set (i + 1) Slot.unset).set i (.val (.long v)))[i + 1]? = some .unset := by
      rw [List.getElem?_set_ne (by omega), List.getElem?_set_self hlt']
    simp only [Value.category, if_true, lsetAt, hlt', lstoreSelf, List.length_set, hlt, q, set_set2]
theorem Ev.lstD {k : Nat} {v : Int64} {L' : List Slot} {o o' : Slot} {h : MHeap} (hd : decode (mB M) pc = .ok (.lstore k, 2)) (ho : L[k]? = some o) (ho' : L[k + 1]? = some o') (h2 : two2 o o') (hl : (L.set k (.val (.long v))).set (k + 1) .second = L') (hn : Ev G M (pc + 2) L' S h rr) : Ev G M pc L (.long v :: S) h rr :=
  Ev.lstore hd (by rw [mst_two ho ho' h2, hl]) hn
theorem Ev.lstDN {k : Fin 4} {v : Int64} {L' : List Slot} {o o' : Slot} {h : MHeap} (hd : decode (mB M) pc = .ok (.lstore_n k, 1)) (ho : L[k.val]? = some o) (ho' : L[k.val + 1]? = some o') (h2 : two2 o o') (hl : (L.set k.val (.val (.long v))).set (k.val + 1) .second = L') (hn : Ev G M (pc + 1) L' S h rr) : Ev G M pc L (.long v :: S) h rr :=
  Ev.lstoreN hd (by rw [mst_two ho ho' h2, hl]) hn
end ViewRules
/-! ## 5. One object among others -/
/-- al: the array fields in the order in which the constructor makes them, each with 'of booleans' -/
def rA (o : Nat) (al : List (Nat × Bool)) (j : Nat) : Nat := o + 1 + al.findIdx (fun q => q.1 == j)
def arr1 (Ln : Nat → Nat) (s : St) (q : Nat × Bool) : MCell := .inr (q.2, tab (Ln q.1) (s.2 q.1))
def KO (F : List Fd) (al : List (Nat × Bool)) (Ln : Nat → Nat) (o : Nat) (s : St) : MHeap := .inl (fvA (rA o al) s 0 F) :: al.map (arr1 Ln s)
def KH (F : List Fd) (al : List (Nat × Bool)) (Ln : Nat → Nat) (pre post : MHeap) (s : St) : MHeap := pre ++ (KO F al Ln pre.length s ++ post)
def alOk (F : List Fd) (al : List (Nat × Bool)) : Bool := (List.range F.length).all (fun j => match F[j]? with
  | some (_, _, .array t) => al[al.findIdx (fun q => q.1 == j)]? == some (j, isB t)
  | _ => true)
theorem KO_len {F : List Fd} {al : List (Nat × Bool)} {Ln : Nat → Nat} {o : Nat} {s : St} : (KO F al Ln o s).length = al.length + 1 := by simp [KO]
theorem app_get (pre post l : MHeap) (k : Nat) (h : k < l.length) : (pre ++ (l ++ post))[pre.length + k]? = l[k]? := by
  rw [List.getElem?_append_right (by omega), Nat.add_sub_cancel_left, List.getElem?_append_left h]
theorem app_set (pre post l : MHeap) (k : Nat) (c : MCell) (h : k < l.length) : (pre ++ (l ++ post)).set (pre.length + k) c = pre ++ (l.set k c ++ post) := by
  rw [List.set_append_right _ _ (by omega), Nat.add_sub_cancel_left, List.set_append_left _ _ h]
theorem view_of {G : Ctx} {al : List (Nat × Bool)} {Ln : Nat → Nat} {pre post : MHeap} (hk : k0 G ≤ pre.length) (h1 : alOk (gF G) al = true) (h2 : (al.map (·.1)).Nodup) :
    View G Ln (KH (gF G) al Ln pre post) pre.length (rA pre.length al) := by
  refine ⟨hk, fun s => ?_, fun s j f z hF ht => ?_, fun j n d t hF => ?_⟩
  · have := app_get pre post (KO (gF G) al Ln pre.length s) 0 (by rw [KO_len]; omega)
    exact this
  · have := app_set pre post (KO (gF G) al Ln pre.length s) 0 (.inl ((fvA (rA pre.length al) s 0 (gF G)).set j (.int z))) (by rw [KO_len]; omega)
    refine Eq.trans this ?_
    show pre ++ ((.inl _ :: al.map (arr1 Ln s)) ++ post) = pre ++ ((.inl _ :: al.map (arr1 Ln (setI s j z))) ++ post)
    rw [fvA_set hF ht]
    rfl
  · have hj : j < (gF G).length := (List.getElem?_eq_some_iff.mp hF).1
    have hq := List.all_eq_true.mp h1 j (List.mem_range.mpr hj)
    simp only [hF, beq_iff_eq] at hq
    have hlt := (List.getElem?_eq_some_iff.mp hq).1
    have hlen : ∀ s, al.findIdx (fun q => q.1 == j) + 1 < (KO (gF G) al Ln pre.length s).length := fun s => by rw [KO_len]; omega
    have hr : rA pre.length al j = pre.length + (al.findIdx (fun q => q.1 == j) + 1) := by unfold rA; omega
    refine ⟨by rw [hr]; omega, fun s => ?_, fun s i z hi => ?_⟩
    · rw [hr]
      refine (app_get pre post _ _ (hlen s)).trans ?_
      show (al.map (arr1 Ln s))[al.findIdx fun q => q.1 == j]? = _
      rw [List.getElem?_map, hq]
      rfl
    · rw [hr]
      refine (app_set pre post _ _ _ (hlen s)).trans ?_
      show pre ++ ((.inl (fvA (rA pre.length al) s 0 (gF G)) :: (al.map (arr1 Ln s)).set (al.findIdx fun q => q.1 == j) (.inr (isB t, (tab (Ln j) (s.2 j)).set i z))) ++ post) = pre ++ ((.inl (fvA (rA pre.length al) (setA s j i z) 0 (gF G)) :: al.map (arr1 Ln (setA s j i z))) ++ post)
      rw [fvA_same (s := s) (s' := setA s j i z) _ rfl]
      congr 3
      apply List.ext_getElem?
      intro k
      rw [List.getElem?_set, List.getElem?_map, List.getElem?_map, List.length_map]
      by_cases e : al.findIdx (fun q => q.1 == j) = k
      · subst e
        simp only [if_true, hlt, hq, Option.map_some, arr1, tab_set]
        congr 4
        funext x
        rw [setA_2]
        simp
      · simp only [e, if_false]
        cases hk2 : al[k]? with
        | none => rfl
        | some q =>
          simp only [Option.map_some, arr1]
          have ne : q.1 ≠ j := fun hqj => by
            have a1 : (al.map (·.1))[al.findIdx (fun q => q.1 == j)]? = some j := by rw [List.getElem?_map, hq]; rfl
            have a2 : (al.map (·.1))[k]? = some j := by rw [List.getElem?_map, hk2]; simp [hqj]
            have := (List.getElem?_inj (by rw [List.length_map]; exact hlt) h2).mp (a1.trans a2.symm)
            exact e this
          congr 4
          funext x
          rw [setA_2]
          simp [ne]
/-! ### while the constructor makes the arrays -/
def cons (pre : MHeap) (fs : List Value) (as : List (Bool × List Int32)) : MHeap := pre ++ (.inl fs :: as.map .inr)
section ConsRules
variable {G : Ctx} {M : Mi} {pc : Nat} {L : List Slot} {S : List Value} {rr : Option Value × MHeap} {pre : MHeap} {fs fs' : List Value} {as : List (Bool × List Int32)}
theorem cons_get : (cons pre fs as)[pre.length]? = some (.inl fs) := by unfold cons; rw [List.getElem?_append_right (Nat.le_refl _), Nat.sub_self]; rfl
theorem cons_set (c : List Value) : (cons pre fs as).set pre.length (.inl c) = cons pre c as := by unfold cons; rw [List.set_append_right _ _ (Nat.le_refl _), Nat.sub_self]; rfl
theorem cons_len : (cons pre fs as).length = pre.length + 1 + as.length := by simp [cons]; omega
theorem cons_push (b : Bool) (xs : List Int32) : cons pre fs as ++ [.inr (b, xs)] = cons pre fs (as ++ [(b, xs)]) := by simp [cons]
theorem Ev.cput {idx j : Nat} {n d : String} {ty : FieldType} {v v' : Value} (K : GOk G) (hk : k0 G ≤ pre.length) (w : (Jvm.Cond.fieldLink (mN M).cls idx (gC G) n d).before (gA G) (gZ G) = true)
    (wl : (Jvm.Cond.lays (gC G) (gC G) n d).before (gA G) (gZ G) = true ∨ ((Jvm.Cond.laysFinal (gC G) (gC G) n d).before (gA G) (gZ G) = true ∧ (mN M).cls = gC G ∧ (mN M).name = "<init>"))
    (hd : decode (mB M) pc = .ok (.putfield idx, 3)) (hF : (gF G)[j]? = some (n, d, ty)) (hp : mput ty v = some v') (hs : fs.set j v' = fs') (hn : Ev G M (pc + 3) L S (cons pre fs' as) rr) : Ev G M pc L (v :: .ref pre.length :: S) (cons pre fs as) rr := by
  subst hs
  refine Ev.putfield K w wl hd hF hk cons_get hp ?_
  rw [cons_set]; exact hn
theorem Ev.cget {idx j : Nat} {n d : String} {ty : FieldType} {v : Value} (w : (Jvm.Cond.fieldLink (mN M).cls idx (gC G) n d).before (gA G) (gZ G) = true) (hd : decode (mB M) pc = .ok (.getfield idx, 3)) (hF : (gF G)[j]? = some (n, d, ty)) (hv : fs[j]? = some v)
    (hn : Ev G M (pc + 3) L (v :: S) (cons pre fs as) rr) : Ev G M pc L (.ref pre.length :: S) (cons pre fs as) rr := Ev.getfield w hd hF cons_get hv hn
theorem Ev.cnew {aty : ArrayType} {b : Bool} {n : Int32} {k q : Nat} {as' : List (Bool × List Int32)} (w : (Jvm.Cond.arrayClass (newarray.typeOf aty)).before (gA G) (gZ G) = true) (hb' : newarray.typeOf aty = kd b) (hd : decode (mB M) pc = .ok (.newarray aty, 2)) (hn0 : ¬ n < 0) (hk : n.toNatClampNeg = k) (hcap : k ≤ 67108864)
    (hq : as.length = q) (has : as ++ [(b, tab k (fun _ => 0))] = as') (hn : Ev G M (pc + 2) L (.ref (pre.length + 1 + q) :: S) (cons pre fs as') rr) : Ev G M pc L (.int n :: S) (cons pre fs as) rr := by
  subst hq has
  refine Ev.newarray w hb' hd hn0 hk hcap ?_
  rw [cons_push, cons_len, ← tab_zero]; exact hn
end ConsRules
theorem forall_get {P : Nat → Fd → Prop} : ∀ (F : List Fd) (k : Nat), (∀ j f, F[j]? = some f → P (k + j) f) → True := fun _ _ _ => trivial
def AllF (P : Fd → Prop) : List Fd → Prop
  | [] => True
  | f :: fs => P f ∧ AllF P fs
theorem AllF.mem {P : Fd → Prop} : ∀ {F : List Fd}, AllF P F → ∀ f ∈ F, P f
  | _ :: _, ⟨h1, h2⟩, f, hf => (List.mem_cons.mp hf).elim (fun e => e ▸ h1) (AllF.mem h2 f)
theorem gok_of {G : Ctx} (h1 : AllF (fun f => Laid (gZ G) (gA G) (gC G) (gC G) f.1 f.2.1 ∧ parseFieldDescriptor f.2.1 = some f.2.2) (gF G)) (h2 : ((gF G).map (·.1)).Nodup)
    (h3 : (Jvm.Cond.instantiable (gC G) (gK G)).before (gA G) (gZ G) = true) (h4 : (Jvm.Cond.initialized (gC G)).before (gA G) (gZ G) = true) : GOk G := by
  refine ⟨fun j n d ty hF => h1.mem _ (List.mem_of_getElem? hF), fun j j' f f' hF hF' ne e => ne ?_, h3, h4⟩
  have a1 : ((gF G).map (·.1))[j]? = some f.1 := by rw [List.getElem?_map, hF]; rfl
  have a2 : ((gF G).map (·.1))[j']? = some f.1 := by rw [List.getElem?_map, hF', e]; rfl
  exact (List.getElem?_inj (by rw [List.length_map]; exact (List.getElem?_eq_some_iff.mp hF).1) h2).mp (a1.trans a2.symm)
end Jvm.Own
namespace Jvm.Own
open Sem ClassFile Op Lib Jvm.Stand Jvm.Free Jvm.LawKit Jvm.RoadKit
def grd {α : Type} (c : Prop) [Decidable c] (x : Option α) : Option α := if c then x else none
theorem grd_some {α : Type} {c : Prop} [Decidable c] {x : Option α} {w : α} (h : grd c x = some w) : c ∧ x = some w := by
  unfold grd at h; split at h
  · exact ⟨by assumption, h⟩
  · cases h
theorem grd_pos {α : Type} {c : Prop} [Decidable c] {x : Option α} (h : c) : grd c x = x := if_pos h
theorem KH_len (F : List Fd) (al : List (Nat × Bool)) (Ln : Nat → Nat) (pre post : MHeap) (s : St) : (KH F al Ln pre post s).length = pre.length + (al.length + 1 + post.length) := by simp [KH, KO]; omega
theorem hsl_app (k : Nat) (a b : MHeap) : hsl k (a ++ b) = hsl k a + hsl k b := by simp [hsl]
theorem hsl_arr (k : Nat) (Ln : Nat → Nat) (s : St) : ∀ al : List (Nat × Bool), hsl k (al.map (arr1 Ln s)) = (al.map fun q => Ln q.1).sum
  | [] => rfl
  | q :: al => by
    have := hsl_arr k Ln s al
    simp only [hsl, List.map_cons, List.sum_cons] at this ⊢
    rw [this]
    simp [arr1, csl, tab_len]
theorem hsl_KH (k : Nat) (F : List Fd) (al : List (Nat × Bool)) (Ln : Nat → Nat) (pre post : MHeap) (s : St) : hsl k (KH F al Ln pre post s) = hsl k pre + (k + (al.map fun q => Ln q.1).sum + hsl k post) := by
  unfold KH
  rw [hsl_app, hsl_app]
  have : hsl k (KO F al Ln pre.length s) = k + (al.map fun q => Ln q.1).sum := by
    have := hsl_arr k Ln s al
    simp only [KO, hsl, List.map_cons, List.sum_cons, csl] at this ⊢
    rw [this]
  rw [this]
theorem ne_lit {x z : Int32} {k : Int} (h : ¬ x = z) (e : z.toInt = k) : x.toInt ≠ k := fun q => h (Int32.toInt_inj.mp (q.trans e.symm))
section
variable {G : Ctx} {M : Mi} {pc : Nat} {L : List Slot} {S : List Value} {rr : Option Value × MHeap}
theorem Ev.astD {k v : Nat} {L' : List Slot} {o : Slot} {h : MHeap} (hd : decode (mB M) pc = .ok (.astore k, 2)) (ho : L[k]? = some o) (h1 : one1 o = true) (hl : L.set k (.val (.ref v)) = L') (hn : Ev G M (pc + 2) L' S h rr) : Ev G M pc L (.ref v :: S) h rr :=
  Ev.astore hd (by rw [mst_one ho h1 rfl, hl]) hn
theorem Ev.astDN {k : Fin 4} {v : Nat} {L' : List Slot} {o : Slot} {h : MHeap} (hd : decode (mB M) pc = .ok (.astore_n k, 1)) (ho : L[k.val]? = some o) (h1 : one1 o = true) (hl : L.set k.val (.val (.ref v)) = L') (hn : Ev G M (pc + 1) L' S h rr) : Ev G M pc L (.ref v :: S) h rr :=
  Ev.astoreN hd (by rw [mst_one ho h1 rfl, hl]) hn
end
end Jvm.Own
namespace Jvm.Own
open Sem ClassFile Op Lib Jvm.Stand Jvm.Free Jvm.LawKit Jvm.RoadKit
section
variable {G : Ctx} {M : Mi} {pc : Nat} {L : List Slot} {S : List Value} {rr : Option Value × MHeap}
theorem mst_T {l : List Slot} {i : Nat} {v : Value} {o o' : Slot} (ho : l[i]? = some o) (ho' : l[i + 1]? = some o') (h2 : two2 o o') (hv : v.category = 1) : ∃ b, one1 b = true ∧ mst l i v = some ((l.set i (.val v)).set (i + 1) b) := by
  have hlt := (List.getElem?_eq_some_iff.mp ho).1
  have hlt' := (List.getElem?_eq_some_iff.mp ho').1
  rcases h2 with ⟨h1, h1'⟩ | ⟨x, rfl, rfl⟩
  · refine ⟨o', h1', ?_⟩
    rw [mst_one ho h1 hv]
    congr 1
    apply List.ext_getElem?
    intro k
    by_cases e : i + 1 = k
    · subst e
      rw [List.getElem?_set_self (by simpa using hlt'), List.getElem?_set_ne (by omega), ho']
    · rw [List.getElem?_set_ne e]
  · refine ⟨.unset, rfl, ?_⟩
    unfold mst
    rw [ho]
    have c2 : (Value.long x).category = 2 := rfl
    simp only [c2, if_true, lsetAt, hlt', lstoreSelf, List.length_set, hlt, hv]
    rw [List.set_comm _ _ (by omega : i + 1 ≠ i)]
    simp
theorem Ev.istT {k : Nat} {v : Int32} {L' : Slot → List Slot} {o o' : Slot} {h : MHeap} (hd : decode (mB M) pc = .ok (.istore k, 2)) (ho : L[k]? = some o) (ho' : L[k + 1]? = some o') (h2 : two2 o o') (hl : ∀ b, (L.set k (.val (.int v))).set (k + 1) b = L' b) (hn : ∀ b, one1 b = true → Ev G M (pc + 2) (L' b) S h rr) : Ev G M pc L (.int v :: S) h rr := by
  obtain ⟨b, h1, e⟩ := mst_T (v := .int v) ho ho' h2 rfl
  exact Ev.istore hd e (by rw [hl]; exact hn b h1)
theorem Ev.istTN {k : Fin 4} {v : Int32} {L' : Slot → List Slot} {o o' : Slot} {h : MHeap} (hd : decode (mB M) pc = .ok (.istore_n k, 1)) (ho : L[k.val]? = some o) (ho' : L[k.val + 1]? = some o') (h2 : two2 o o') (hl : ∀ b, (L.set k.val (.val (.int v))).set (k.val + 1) b = L' b) (hn : ∀ b, one1 b = true → Ev G M (pc + 1) (L' b) S h rr) : Ev G M pc L (.int v :: S) h rr := by
  obtain ⟨b, h1, e⟩ := mst_T (v := .int v) ho ho' h2 rfl
  exact Ev.istoreN hd e (by rw [hl]; exact hn b h1)
end
section
variable {G : Ctx} {Ln : Nat → Nat} {K : St → MHeap} {o len : Nat} {r : Nat → Nat} {F : List Fd} {al : List (Nat × Bool)}
theorem View.le (V : View G Ln K o r) (s : St) : k0 G ≤ (K s).length := Nat.le_trans V.1 (Nat.le_of_lt (List.getElem?_eq_some_iff.mp (V.2.1 s)).1)
theorem View.app (V : View G Ln K o r) (X : MHeap) : View G Ln (fun s => K s ++ X) o r := by
  refine ⟨V.1, fun s => ?_, fun s j f z hF ht => ?_, fun j n d t hF => ?_⟩
  · show (K s ++ X)[o]? = _
    rw [List.getElem?_append_left (List.getElem?_eq_some_iff.mp (V.2.1 s)).1]; exact V.2.1 s
  · show (K s ++ X).set o _ = _
    rw [List.set_append_left _ _ (List.getElem?_eq_some_iff.mp (V.2.1 s)).1, V.2.2.1 s j f z hF ht]
  · obtain ⟨q1, q2, q3⟩ := V.2.2.2 j n d t hF
    refine ⟨q1, fun s => ?_, fun s i z hi => ?_⟩
    · show (K s ++ X)[r j]? = _
      rw [List.getElem?_append_left (List.getElem?_eq_some_iff.mp (q2 s)).1]; exact q2 s
    · show (K s ++ X).set (r j) _ = _
      rw [List.set_append_left _ _ (List.getElem?_eq_some_iff.mp (q2 s)).1, q3 s i z hi]
theorem View.app2 (V : View G Ln K o r) (hl : ∀ s, (K s).length = len) (t : St) : View G Ln (fun s => KH F al Ln (K s) [] t) o r := by
  have e : (fun s => KH F al Ln (K s) [] t) = fun s => K s ++ (KO F al Ln len t ++ []) := by
    funext s; unfold KH; rw [hl]
  rw [e]
  exact V.app _
theorem app2_get (V : View G Ln K o r) {s t : St} {c : MCell} (h : (K s)[0]? = some c) : (KH F al Ln (K s) [] t)[0]? = some c := by
  unfold KH
  rw [List.getElem?_append_left (List.getElem?_eq_some_iff.mp h).1]; exact h
end
end Jvm.Own
namespace Jvm.Own
open Sem ClassFile Op Lib Jvm.Stand Jvm.Free Jvm.LawKit Jvm.RoadKit
def toI : Value → Int32
  | .int z => z
  | _ => 0
theorem script_rel {s : State} {a : Nat} {cl : Cell} {args : Array Value} {l : Launch} {C : String} {F : List Fd} {k : Nat} (hf : Fit s) (A : Arr s s.heap a cl .int) :
    ∃ xs : List Int32, xs.length = cl.slots.size ∧ Rel (s, args, l, some a, s.heap.size, C, F, k) s.heap [.inr (false, tab xs.length (fun i => xs.getD i 0))] := by
  have hl : (cl.slots.toList.map toI).length = cl.slots.size := by simp
  refine ⟨cl.slots.toList.map toI, hl, rfl, Nat.le_refl _, fun a' q => by cases q; exact A.lt, fun i c q => ?_⟩
  match i, q with
  | 0, q =>
    cases q
    refine ⟨cl, A, ?_⟩
    rw [← tab_of]
    apply Array.ext'
    apply List.ext_getElem?
    intro j
    simp only [List.map_map, List.getElem?_map]
    cases hj : cl.slots.toList[j]? with
    | none => rfl
    | some v =>
      have hj' : cl.slots[j]? = some v := by simpa using hj
      obtain ⟨hlt, hv⟩ := Array.getElem?_eq_some_iff.mp hj'
      have q := hf A.1 hlt
      obtain ⟨hs, kk, hk, comp, hkind⟩ := A.2.1
      have e : s.slotType? cl.cls cl.vm j = some .int := by
        cases hq : cl.vm <;> first | exact absurd hq (hs _) | simp [State.slotType?, hk, hkind]
      have q2 : fits .int v = true := by rw [hv] at q; simpa [State.fitsSlot, e] using q
      obtain ⟨z, rfl⟩ := fit_I q2 (Or.inl rfl)
      rfl
theorem script_len {s : State} {args : Array Value} {t : Term} {a : Nat} {cl : Cell} (A : Arr s s.heap a cl .int) (ea : t.eval args s none [] s = some (.ref a)) (h1 : (Jvm.Cond.isInt (.length t)).value args s none s [] = some true) (h2 : (Jvm.Cond.le (.length t) (.int 260)).value args s none s [] = some true) : cl.slots.size ≤ 260 := by
  obtain ⟨z, ez⟩ := is_v h1
  have ha := A.fin (Vm.Alike.refl s.vm)
  have hlen : cl.slots.size < 2 ^ 31 := by
    rcases Nat.lt_or_ge cl.slots.size (2 ^ 31) with q | q
    · exact q
    · simp [Term.eval, ea, ha, Nat.not_lt.mpr q] at ez
  have e1 := len_f ea ha hlen
  have q : cl.slots.size.toInt32 ≤ 260 := by
    have := Cond.le_ints e1 (Term.int_eval (260 : Int32)) (args := args) (first := s) (o := none) (s := s) (idx := [])
    exact gotT this h2
  have q2 := Int32.le_iff_toInt_le.mp q
  rw [len_toInt hlen] at q2
  have : (260 : Int32).toInt = 260 := by decide
  omega
end Jvm.Own
namespace Jvm.Own
open Sem ClassFile Op Lib Jvm.Stand Jvm.Free Jvm.LawKit Jvm.RoadKit
def decs (b : ByteArray) : List (Nat × Instr × Nat) → Bool
  | [] => true
  | q :: t => decide (decode b q.1 = .ok (q.2.1, q.2.2)) && decs b t
theorem dget {b : ByteArray} : ∀ {l : List (Nat × Instr × Nat)}, decs b l = true → ∀ {k p : Nat} {i : Instr} {n : Nat}, l[k]? = some (p, i, n) → decode b p = .ok (i, n)
  | [], _, k, _, _, _, hk => by simp at hk
  | q :: t, h, 0, p, i, n, hk => by
    simp only [decs, Bool.and_eq_true, decide_eq_true_eq] at h
    simp only [List.getElem?_cons_zero, Option.some.injEq] at hk
    subst hk
    exact h.1
  | q :: t, h, k + 1, p, i, n, hk => by
    simp only [decs, Bool.and_eq_true] at h
    exact dget h.2 (by simpa using hk)
end Jvm.Own
namespace Jvm.Own
/-! ## 6. Ints of 32 bits and naturals -/
theorem N_toInt {i : Nat} (h : i < 2147483648) : (Int32.ofNat i).toInt = i := Int32.toInt_ofNat_of_lt h
theorem N_lt {i j : Nat} (hi : i < 2147483648) (hj : j < 2147483648) : Int32.ofNat i < Int32.ofNat j ↔ i < j := by
  rw [Int32.lt_iff_toInt_lt, N_toInt hi, N_toInt hj]; omega
theorem N_inj {i j : Nat} (hi : i < 2147483648) (hj : j < 2147483648) : Int32.ofNat i = Int32.ofNat j ↔ i = j := by
  rw [← Int32.toInt_inj, N_toInt hi, N_toInt hj]; omega
theorem N_succ (i : Nat) : Int32.ofNat i + 1 = Int32.ofNat (i + 1) := (Int32.ofNat_add i 1).symm
theorem N_add (i j : Nat) : Int32.ofNat i + Int32.ofNat j = Int32.ofNat (i + j) := (Int32.ofNat_add i j).symm
theorem N_mul (i j : Nat) : Int32.ofNat i * Int32.ofNat j = Int32.ofNat (i * j) := (Int32.ofNat_mul i j).symm
theorem N_neg {i : Nat} (h : i < 2147483648) : ¬ Int32.ofNat i < 0 := by
  rw [Int32.lt_iff_toInt_lt, N_toInt h]; simp
theorem ix_N {i : Nat} (h : i < 2147483648) : ix (Int32.ofNat i) = i := by
  unfold ix Int32.toNatClampNeg; rw [N_toInt h]; simp
theorem inb_N {i n : Nat} (h : i < 2147483648) : inb (Int32.ofNat i) n ↔ i < n := by
  unfold inb; rw [ix_N h]; exact ⟨fun q => q.2, fun q => ⟨N_neg h, q⟩⟩
theorem ix_toInt {x : Int32} (h : ¬ x < 0) : (ix x : Int) = x.toInt := by
  unfold ix Int32.toNatClampNeg
  rw [Int32.lt_iff_toInt_lt] at h
  have : (0 : Int32).toInt = 0 := rfl
  omega
theorem ix_lt (x : Int32) : ix x < 2147483648 := by
  unfold ix Int32.toNatClampNeg
  have := Int32.toInt_lt x
  omega
theorem N_ix {x : Int32} (h : ¬ x < 0) : Int32.ofNat (ix x) = x := by
  rw [← Int32.toInt_inj, N_toInt (ix_lt x), ix_toInt h]
theorem ix_eq {x y : Int32} (hx : ¬ x < 0) (hy : ¬ y < 0) : ix x = ix y ↔ x = y := by
  refine ⟨fun e => ?_, fun e => e ▸ rfl⟩
  rw [← N_ix hx, ← N_ix hy, e]
theorem rng (x : Int32) : -2147483648 ≤ x.toInt ∧ x.toInt < 2147483648 := ⟨Int32.le_toInt x, Int32.toInt_lt x⟩
theorem lt_I {x y : Int32} : x < y ↔ x.toInt < y.toInt := Int32.lt_iff_toInt_lt
theorem le_I {x y : Int32} : x ≤ y ↔ x.toInt ≤ y.toInt := Int32.le_iff_toInt_le
theorem eq_I {x y : Int32} : x = y ↔ x.toInt = y.toInt := Int32.toInt_inj.symm
theorem bmod_eq {x : Int} (h1 : -2147483648 ≤ x) (h2 : x < 2147483648) : x.bmod (2 ^ 32) = x := by
  apply Int.bmod_eq_of_le <;> omega
theorem add_I {x y : Int32} (h1 : -2147483648 ≤ x.toInt + y.toInt) (h2 : x.toInt + y.toInt < 2147483648) : (x + y).toInt = x.toInt + y.toInt := by
  rw [Int32.toInt_add]; exact bmod_eq h1 h2
theorem sub_I {x y : Int32} (h1 : -2147483648 ≤ x.toInt - y.toInt) (h2 : x.toInt - y.toInt < 2147483648) : (x - y).toInt = x.toInt - y.toInt := by
  rw [Int32.toInt_sub]; exact bmod_eq h1 h2
theorem mul_I {x y : Int32} (h1 : -2147483648 ≤ x.toInt * y.toInt) (h2 : x.toInt * y.toInt < 2147483648) : (x * y).toInt = x.toInt * y.toInt := by
  rw [Int32.toInt_mul]; exact bmod_eq h1 h2
theorem inb_I {x : Int32} {n : Nat} (h1 : 0 ≤ x.toInt) (h2 : x.toInt < n) : inb x n := by
  have h : ¬ x < 0 := by rw [lt_I]; have : (0 : Int32).toInt = 0 := rfl; omega
  refine ⟨h, ?_⟩
  have := ix_toInt h
  omega
/-- an int between 0 and n is one of them -/
theorem cases_N {x : Int32} {n : Nat} (hn : n < 2147483648) (h0 : ¬ x < 0) (h1 : x < Int32.ofNat n) : ∃ i, i < n ∧ x = Int32.ofNat i := by
  refine ⟨ix x, ?_, (N_ix h0).symm⟩
  have a := ix_toInt h0
  rw [lt_I, N_toInt hn] at h1
  omega
/-! ## 7. Loops that count from i to N -/
def itr {α : Type} (f : Nat → α → α) : Nat → Nat → α → α
  | _, 0, s => s
  | i, m + 1, s => itr f (i + 1) m (f i s)
theorem loopN {α β : Type} {F : Nat → Int32 → α → Option β} {N : Nat} {f : Nat → α → α} {fin : α → Option β}
    (hF : ∀ k i s, i < N → F (k + 1) (Int32.ofNat i) s = F k (Int32.ofNat i + 1) (f i s)) (hE : ∀ k s, F (k + 1) (Int32.ofNat N) s = fin s) :
    ∀ m i k s, i + m = N → m < k → F k (Int32.ofNat i) s = fin (itr f i m s) := by
  intro m
  induction m with
  | zero =>
    intro i k s hi hk
    obtain ⟨k, rfl⟩ : ∃ k', k = k' + 1 := ⟨k - 1, by omega⟩
    have : i = N := by omega
    subst this
    exact hE k s
  | succ m ih =>
    intro i k s hi hk
    obtain ⟨k, rfl⟩ : ∃ k', k = k' + 1 := ⟨k - 1, by omega⟩
    rw [hF k i s (by omega), N_succ]
    exact ih (i + 1) k _ (by omega) (by omega)
theorem itr_ind {α : Type} {f : Nat → α → α} {P : Nat → α → Prop} {N : Nat} (h : ∀ i s, i < N → P i s → P (i + 1) (f i s)) : ∀ m i s, i + m = N → P i s → P N (itr f i m s) := by
  intro m
  induction m with
  | zero => intro i s hi hp; have : i = N := by omega
            subst this; exact hp
  | succ m ih => intro i s hi hp; exact ih (i + 1) _ (by omega) (h i s (by omega) hp)
theorem itr_pt {f : Nat → St → St} {u : Nat → Int32 → Int32} (h1 : ∀ i s, (f i s).1 = s.1) (h2 : ∀ i s k x, (f i s).2 k x = if x = i then u k (s.2 k x) else s.2 k x) :
    ∀ m i s, itr f i m s = (s.1, fun k x => if i ≤ x ∧ x < i + m then u k (s.2 k x) else s.2 k x) := by
  intro m
  induction m with
  | zero =>
    intro i s
    refine Prod.ext rfl ?_
    funext k x
    have : ¬ (i ≤ x ∧ x < i + 0) := by omega
    simp only [this, if_false]
    rfl
  | succ m ih =>
    intro i s
    show itr f (i + 1) m (f i s) = _
    rw [ih]
    refine Prod.ext (h1 i s) ?_
    funext k x
    simp only [h2]
    by_cases e : x = i
    · subst e
      have a : ¬ (x + 1 ≤ x ∧ x < x + 1 + m) := by omega
      have b : x ≤ x ∧ x < x + (m + 1) := by omega
      simp only [a, b, if_false, if_true, and_self]
    · have : (i + 1 ≤ x ∧ x < i + 1 + m) ↔ (i ≤ x ∧ x < i + (m + 1)) := by omega
      simp only [this, e, if_false]
theorem itr_fill (K : Nat) (z : Int32) (m : Nat) (s : St) : itr (fun i s => setA s K i z) 0 m s = (s.1, fun k x => if k = K ∧ x < m then z else s.2 k x) := by
  rw [itr_pt (f := fun i s => setA s K i z) (u := fun k v => if k = K then z else v) (fun _ _ => rfl) (fun i s j x => by
    simp only [setA_2]
    by_cases e : x = i <;> by_cases e1 : j = K <;> simp [e, e1])]
  refine Prod.ext rfl ?_
  funext k x
  have : (0 ≤ x ∧ x < 0 + m) ↔ x < m := by omega
  simp only [this]
  by_cases e : x < m <;> by_cases e1 : k = K <;> simp [e, e1]
theorem and_rng (x : Int32) {m : Nat} (hm : m < 2147483648) : 0 ≤ (x &&& Int32.ofNat m).toInt ∧ (x &&& Int32.ofNat m).toInt ≤ m := by
  have h1 : (x &&& Int32.ofNat m).toBitVec.toNat ≤ m := by
    rw [Int32.toBitVec_and, BitVec.toNat_and]
    refine Nat.le_trans Nat.and_le_right ?_
    show (BitVec.ofNat 32 m).toNat ≤ m
    rw [BitVec.toNat_ofNat]
    exact Nat.mod_le _ _
  have h2 : (x &&& Int32.ofNat m).toInt = ((x &&& Int32.ofNat m).toBitVec.toNat : Int) := by
    show (x &&& Int32.ofNat m).toBitVec.toInt = _
    exact BitVec.toInt_eq_toNat_of_lt (by omega)
  omega
theorem idx8 {o p : Int32} (h0 : ¬ o < 0) (h3 : ¬ 3 < o) : inb (o * 8 + (p &&& 7)) 32 := by
  have a := and_rng p (m := 7) (by omega)
  rw [show Int32.ofNat 7 = (7 : Int32) from rfl] at a
  rw [lt_I] at h0 h3
  have e0 : (0 : Int32).toInt = 0 := rfl
  have e3 : (3 : Int32).toInt = 3 := rfl
  have e8 : (8 : Int32).toInt = 8 := rfl
  have em : (o * 8).toInt = o.toInt * 8 := by rw [mul_I] <;> rw [e8] <;> omega
  have ea : (o * 8 + (p &&& 7)).toInt = o.toInt * 8 + (p &&& 7).toInt := by rw [add_I] <;> rw [em] <;> omega
  exact inb_I (by omega) (by omega)
theorem idx8' {o p : Int32} (h0 : ¬ o < 0) (h3 : ¬ 3 < o) (g0 : ¬ p < 0) (g7 : ¬ 7 < p) : inb (o * 8 + p) 32 ∧ (o * 8 + p).toInt = o.toInt * 8 + p.toInt := by
  rw [lt_I] at h0 h3 g0 g7
  have e0 : (0 : Int32).toInt = 0 := rfl
  have e3 : (3 : Int32).toInt = 3 := rfl
  have e7 : (7 : Int32).toInt = 7 := rfl
  have e8 : (8 : Int32).toInt = 8 := rfl
  have em : (o * 8).toInt = o.toInt * 8 := by rw [mul_I] <;> rw [e8] <;> omega
  have ea : (o * 8 + p).toInt = o.toInt * 8 + p.toInt := by rw [add_I] <;> rw [em] <;> omega
  exact ⟨inb_I (by omega) (by omega), ea⟩
theorem inb_le {x : Int32} {m : Int32} {n : Nat} (h0 : ¬ x < 0) (h1 : ¬ m < x) (hm : m.toInt < n) : inb x n := by
  rw [lt_I] at h0 h1
  have e0 : (0 : Int32).toInt = 0 := rfl
  exact inb_I (by omega) (by omega)
theorem inb_lt {x : Int32} {m : Int32} {n : Nat} (h0 : ¬ x < 0) (h1 : x < m) (hm : m.toInt ≤ n) : inb x n := by
  rw [lt_I] at h0 h1
  have e0 : (0 : Int32).toInt = 0 := rfl
  exact inb_I (by omega) (by omega)
theorem rem_N {a N : Nat} (ha : a < 2147483648) (hN : N < 2147483648) (h0 : 0 < N) : Int32.ofNat a % Int32.ofNat N = Int32.ofNat (a % N) := by
  have h1 : a % N < N := Nat.mod_lt _ h0
  rw [← Int32.toInt_inj, Int32.toInt_mod, N_toInt ha, N_toInt hN, N_toInt (by omega)]
  rw [Int.tmod_eq_emod_of_nonneg (by omega)]
  rfl
/-- the rule of a loop that counts from i to N: P before each turn; Q of what it gives -/
theorem loopP {α β : Type} {F : Nat → Int32 → α → Option β} {N : Nat} {P : Nat → α → Prop} {Q : β → Prop}
    (hF : ∀ k i s, i < N → P i s → (∃ s', F (k + 1) (Int32.ofNat i) s = F k (Int32.ofNat i + 1) s' ∧ P (i + 1) s') ∨ ∃ r, F (k + 1) (Int32.ofNat i) s = some r ∧ Q r)
    (hE : ∀ k s, P N s → ∃ r, F (k + 1) (Int32.ofNat N) s = some r ∧ Q r) :
    ∀ m i k s, i + m = N → m < k → P i s → ∃ r, F k (Int32.ofNat i) s = some r ∧ Q r := by
  intro m
  induction m with
  | zero =>
    intro i k s hi hk hp
    obtain ⟨k, rfl⟩ : ∃ k', k = k' + 1 := ⟨k - 1, by omega⟩
    have : i = N := by omega
    subst this
    exact hE k s hp
  | succ m ih =>
    intro i k s hi hk hp
    obtain ⟨k, rfl⟩ : ∃ k', k = k' + 1 := ⟨k - 1, by omega⟩
    rcases hF k i s (by omega) hp with ⟨s', e, hp'⟩ | h
    · rw [e, N_succ]
      exact ih (i + 1) k s' (by omega) (by omega) hp'
    · exact h
theorem ltN {i j : Nat} (h : i < j) (hj : j < 2147483648) : Int32.ofNat i < Int32.ofNat j := (N_lt (by omega) hj).mpr h
theorem ltZ {i : Nat} {z : Int32} (N : Nat) (hz : Int32.ofNat N = z) (h : i < N) (hN : N < 2147483648) : Int32.ofNat i < z := hz ▸ ltN h hN
theorem nltN {i : Nat} (hi : i < 2147483648) : ¬ Int32.ofNat i < Int32.ofNat i := fun q => by rw [N_lt hi hi] at q; omega
theorem inbN {i n : Nat} (h : i < n) (hi : i < 2147483648) : inb (Int32.ofNat i) n := (inb_N hi).mpr h
def own_cl (a lo hi : Int32) : Int32 := if a < lo then lo else if hi < a then hi else a
theorem own_cl_rng {a lo hi : Int32} (h : ¬ hi < lo) : lo.toInt ≤ (own_cl a lo hi).toInt ∧ (own_cl a lo hi).toInt ≤ hi.toInt := by
  unfold own_cl
  rw [lt_I] at h
  split
  · omega
  · rename_i q; rw [lt_I] at q
    split
    · omega
    · rename_i q2; rw [lt_I] at q2; omega
theorem own_nat {x : Int32} {lo hi : Nat} (h1 : (lo : Int) ≤ x.toInt) (h2 : x.toInt ≤ hi) : ∃ N : Nat, x = Int32.ofNat N ∧ lo ≤ N ∧ N ≤ hi := by
  have := rng x
  refine ⟨x.toInt.toNat, ?_, by omega, by omega⟩
  rw [← Int32.toInt_inj, N_toInt (by omega)]; omega
theorem own_clN (a : Int32) {lo hi : Nat} (h : lo ≤ hi) (hi' : hi < 2147483648) : ∃ N : Nat, own_cl a (Int32.ofNat lo) (Int32.ofNat hi) = Int32.ofNat N ∧ lo ≤ N ∧ N ≤ hi := by
  have q := own_cl_rng (a := a) (lo := Int32.ofNat lo) (hi := Int32.ofNat hi) (fun q => by rw [N_lt (by omega) (by omega)] at q; omega)
  rw [N_toInt (by omega), N_toInt (by omega)] at q
  exact own_nat q.1 q.2
end Jvm.Own
namespace Jvm.Pilot.@@N@@
open Jvm Jvm.ClassFile Sem Op Lib Jvm.Free Jvm.Stand Jvm.LawKit Jvm.RoadKit Bundle Jvm.Pilot.@@N@@.Jvm.D Jvm.Own
/-! ### the class and its words (printed by a program of this repo) -/
abbrev GT := State × Array Value × Launch × Option Addr × Nat
def flds : List Fd := [("disk", "[I", FieldType.array FieldType.int), ("where", "[I", FieldType.array FieldType.int), ("fOwner", "[I", FieldType.array FieldType.int), ("fPage", "[I", FieldType.array FieldType.int), ("fValue", "[I", FieldType.array FieldType.int), ("fDirty", "[I", FieldType.array FieldType.int), ("fRef", "[I", FieldType.array FieldType.int), ("fLast", "[I", FieldType.array FieldType.int), ("fDue", "[I", FieldType.array FieldType.int), ("swapped", "[Z", FieldType.array FieldType.boolean), ("vt", "[I", FieldType.array FieldType.int), ("faults", "[I", FieldType.array FieldType.int), ("saved", "[I", FieldType.array FieldType.int), ("sf", "[I", FieldType.array FieldType.int), ("sa", "[I", FieldType.array FieldType.int), ("nF", "I", FieldType.int), ("win", "I", FieldType.int), ("delay", "I", FieldType.int), ("pffK", "I", FieldType.int), ("now", "I", FieldType.int), ("hand", "I", FieldType.int), ("accFrame", "I", FieldType.int), ("lastSt", "I", FieldType.int)]
def GG (g : GT) : Ctx := (g.1, g.2.1, g.2.2.1, g.2.2.2.1, g.2.2.2.2, "WorkingSetPager", flds, 23)
def HW (g : GT) : Prop := ∀ d ∈ tables_1, d.before g.2.1 g.1 = true
def al : List (Nat × Bool) := [(0, false), (1, false), (2, false), (3, false), (4, false), (5, false), (6, false), (7, false), (8, false), (9, true), (10, false), (11, false), (12, false), (13, false), (14, false)]
def Ln (j : Nat) : Nat := [32, 32, 32, 32, 32, 32, 32, 32, 32, 4, 4, 4, 4, 4, 4, 0, 0, 0, 0, 0, 0, 0, 0].getD j 0
def dfl : List Value := [.null, .null, .null, .null, .null, .null, .null, .null, .null, .null, .null, .null, .null, .null, .null, .int 0, .int 0, .int 0, .int 0, .int 0, .int 0, .int 0, .int 0]
theorem ww {g : GT} (hw : HW g) (k : Nat) {d : Jvm.Cond} (h : tables_1[k]? = some d) : d.before (gA (GG g)) (gZ (GG g)) = true := hw _ (List.mem_of_getElem? h)
theorem fld_nd : (flds.map (·.1)).Nodup := by decide +kernel
theorem al_ok : alOk flds al = true := by decide +kernel
theorem al_nd : (al.map (·.1)).Nodup := by decide +kernel
theorem gok {g : GT} (hw : HW g) : GOk (GG g) := gok_of ⟨⟨Or.inl (ww hw 15 rfl), by decide⟩, ⟨Or.inl (ww hw 17 rfl), by decide⟩, ⟨Or.inl (ww hw 19 rfl), by decide⟩, ⟨Or.inl (ww hw 21 rfl), by decide⟩, ⟨Or.inl (ww hw 23 rfl), by decide⟩, ⟨Or.inl (ww hw 25 rfl), by decide⟩, ⟨Or.inl (ww hw 27 rfl), by decide⟩, ⟨Or.inl (ww hw 29 rfl), by decide⟩, ⟨Or.inl (ww hw 31 rfl), by decide⟩, ⟨Or.inl (ww hw 34 rfl), by decide⟩, ⟨Or.inl (ww hw 36 rfl), by decide⟩, ⟨Or.inl (ww hw 38 rfl), by decide⟩, ⟨Or.inl (ww hw 40 rfl), by decide⟩, ⟨Or.inl (ww hw 42 rfl), by decide⟩, ⟨Or.inl (ww hw 44 rfl), by decide⟩, ⟨Or.inl (ww hw 50 rfl), by decide⟩, ⟨Or.inl (ww hw 52 rfl), by decide⟩, ⟨Or.inl (ww hw 54 rfl), by decide⟩, ⟨Or.inl (ww hw 56 rfl), by decide⟩, ⟨Or.inl (ww hw 81 rfl), by decide⟩, ⟨Or.inl (ww hw 91 rfl), by decide⟩, ⟨Or.inl (ww hw 97 rfl), by decide⟩, ⟨Or.inl (ww hw 99 rfl), by decide⟩, trivial⟩ fld_nd (ww hw 5 rfl) (ww hw 6 rfl)
theorem pcls : plainName "WorkingSetPager" = true := by first | (simp [plainName, overriddenIn]; done) | decide +kernel
theorem pclsL : plainName "WorkingSetPagerOwnLaw" = true := by first | (simp [plainName, overriddenIn]; done) | decide +kernel
theorem nmh : "WorkingSetPager" ≠ "java/lang/invoke/MethodHandle" ∧ "WorkingSetPager" ≠ "java/lang/invoke/VarHandle" := by decide
theorem nmhL : "WorkingSetPagerOwnLaw" ≠ "java/lang/invoke/MethodHandle" ∧ "WorkingSetPagerOwnLaw" ≠ "java/lang/invoke/VarHandle" := by decide
def M_hcell : Mi := ((⟨"WorkingSetPagerOwnLaw", "cell", "([II)I"⟩ : MethodName), method_2_code, 2, (some .int), 0, 0)
theorem pl_hcell : plainFor (mN M_hcell) = true := plainFor_of_name pclsL
theorem nm_hcell : notMH M_hcell := nmhL
theorem pd_hcell : parseMethodDescriptor (mN M_hcell).desc = some ⟨[.array .int, .int], some .int⟩ := by decide +kernel
def M_clamp : Mi := ((⟨"WorkingSetPager", "clamp", "(III)I"⟩ : MethodName), prog_1_method_2_code, 4, (some .int), 0, 0)
theorem pl_clamp : plainFor (mN M_clamp) = true := plainFor_of_name pcls
theorem nm_clamp : notMH M_clamp := nmh
theorem pd_clamp : parseMethodDescriptor (mN M_clamp).desc = some ⟨[.int, .int, .int], some .int⟩ := by decide +kernel
def M_ctor : Mi := ((⟨"WorkingSetPager", "<init>", "(IIII)V"⟩ : MethodName), prog_1_method_1_code, 6, none, 1, 16)
theorem pl_ctor : plainFor (mN M_ctor) = true := plainFor_of_name pcls
theorem nm_ctor : notMH M_ctor := nmh
theorem pd_ctor : parseMethodDescriptor (mN M_ctor).desc = some ⟨[.int, .int, .int, .int], none⟩ := by decide +kernel
def M_completeWriteBacks : Mi := ((⟨"WorkingSetPager", "completeWriteBacks", "()I"⟩ : MethodName), prog_1_method_11_code, 4, (some .int), 0, 0)
theorem pl_completeWriteBacks : plainFor (mN M_completeWriteBacks) = true := plainFor_of_name pcls
theorem nm_completeWriteBacks : notMH M_completeWriteBacks := nmh
theorem pd_completeWriteBacks : parseMethodDescriptor (mN M_completeWriteBacks).desc = some ⟨[], some .int⟩ := by decide +kernel
def M_tick : Mi := ((⟨"WorkingSetPager", "tick", "()I"⟩ : MethodName), prog_1_method_6_code, 1, (some .int), 1, 15)
theorem pl_tick : plainFor (mN M_tick) = true := plainFor_of_name pcls
theorem nm_tick : notMH M_tick := nmh
theorem pd_tick : parseMethodDescriptor (mN M_tick).desc = some ⟨[], some .int⟩ := by decide +kernel
def M_freeFrame : Mi := ((⟨"WorkingSetPager", "freeFrame", "(I)V"⟩ : MethodName), prog_1_method_12_code, 2, none, 0, 0)
theorem pl_freeFrame : plainFor (mN M_freeFrame) = true := plainFor_of_name pcls
theorem nm_freeFrame : notMH M_freeFrame := nmh
theorem pd_freeFrame : parseMethodDescriptor (mN M_freeFrame).desc = some ⟨[.int], none⟩ := by decide +kernel
def M_doSwapOut : Mi := ((⟨"WorkingSetPager", "doSwapOut", "(I)V"⟩ : MethodName), prog_1_method_14_code, 4, none, 1, 13)
theorem pl_doSwapOut : plainFor (mN M_doSwapOut) = true := plainFor_of_name pcls
theorem nm_doSwapOut : notMH M_doSwapOut := nmh
theorem pd_doSwapOut : parseMethodDescriptor (mN M_doSwapOut).desc = some ⟨[.int], none⟩ := by decide +kernel
def M_bitCount : Mi := ((⟨"WorkingSetPager", "bitCount", "(I)I"⟩ : MethodName), prog_1_method_19_code, 4, (some .int), 0, 0)
theorem pl_bitCount : plainFor (mN M_bitCount) = true := plainFor_of_name pcls
theorem nm_bitCount : notMH M_bitCount := nmh
theorem pd_bitCount : parseMethodDescriptor (mN M_bitCount).desc = some ⟨[.int], some .int⟩ := by decide +kernel
def M_countFree : Mi := ((⟨"WorkingSetPager", "countFree", "()I"⟩ : MethodName), prog_1_method_18_code, 3, (some .int), 0, 0)
theorem pl_countFree : plainFor (mN M_countFree) = true := plainFor_of_name pcls
theorem nm_countFree : notMH M_countFree := nmh
theorem pd_countFree : parseMethodDescriptor (mN M_countFree).desc = some ⟨[], some .int⟩ := by decide +kernel
def M_lowestFree : Mi := ((⟨"WorkingSetPager", "lowestFree", "()I"⟩ : MethodName), prog_1_method_17_code, 2, (some .int), 0, 0)
theorem pl_lowestFree : plainFor (mN M_lowestFree) = true := plainFor_of_name pcls
theorem nm_lowestFree : notMH M_lowestFree := nmh
theorem pd_lowestFree : parseMethodDescriptor (mN M_lowestFree).desc = some ⟨[], some .int⟩ := by decide +kernel
def M_doSwapIn : Mi := ((⟨"WorkingSetPager", "doSwapIn", "(I)V"⟩ : MethodName), prog_1_method_16_code, 4, none, 1, 13)
theorem pl_doSwapIn : plainFor (mN M_doSwapIn) = true := plainFor_of_name pcls
theorem nm_doSwapIn : notMH M_doSwapIn := nmh
theorem pd_doSwapIn : parseMethodDescriptor (mN M_doSwapIn).desc = some ⟨[.int], none⟩ := by decide +kernel
def M_decide : Mi := ((⟨"WorkingSetPager", "decide", "(ZIIIZ)I"⟩ : MethodName), prog_1_method_21_code, 8, (some .int), 2, 28)
theorem pl_decide : plainFor (mN M_decide) = true := plainFor_of_name pcls
theorem nm_decide : notMH M_decide := nmh
theorem pd_decide : parseMethodDescriptor (mN M_decide).desc = some ⟨[.boolean, .int, .int, .int, .boolean], some .int⟩ := by decide +kernel
def M_control : Mi := ((⟨"WorkingSetPager", "control", "()I"⟩ : MethodName), prog_1_method_20_code, 8, (some .int), 3, 47)
theorem pl_control : plainFor (mN M_control) = true := plainFor_of_name pcls
theorem nm_control : notMH M_control := nmh
theorem pd_control : parseMethodDescriptor (mN M_control).desc = some ⟨[], some .int⟩ := by decide +kernel
def M_swapOut : Mi := ((⟨"WorkingSetPager", "swapOut", "(I)I"⟩ : MethodName), prog_1_method_13_code, 2, (some .int), 2, 28)
theorem pl_swapOut : plainFor (mN M_swapOut) = true := plainFor_of_name pcls
theorem nm_swapOut : notMH M_swapOut := nmh
theorem pd_swapOut : parseMethodDescriptor (mN M_swapOut).desc = some ⟨[.int], some .int⟩ := by decide +kernel
def M_swapIn : Mi := ((⟨"WorkingSetPager", "swapIn", "(I)I"⟩ : MethodName), prog_1_method_15_code, 4, (some .int), 2, 28)
theorem pl_swapIn : plainFor (mN M_swapIn) = true := plainFor_of_name pcls
theorem nm_swapIn : notMH M_swapIn := nmh
theorem pd_swapIn : parseMethodDescriptor (mN M_swapIn).desc = some ⟨[.int], some .int⟩ := by decide +kernel
def M_frameOf : Mi := ((⟨"WorkingSetPager", "frameOf", "(II)I"⟩ : MethodName), prog_1_method_22_code, 3, (some .int), 0, 0)
theorem pl_frameOf : plainFor (mN M_frameOf) = true := plainFor_of_name pcls
theorem nm_frameOf : notMH M_frameOf := nmh
theorem pd_frameOf : parseMethodDescriptor (mN M_frameOf).desc = some ⟨[.int, .int], some .int⟩ := by decide +kernel
def M_hput : Mi := ((⟨"WorkingSetPagerOwnLaw", "put", "(JIII)J"⟩ : MethodName), method_4_code, 7, (some .long), 0, 0)
theorem pl_hput : plainFor (mN M_hput) = true := plainFor_of_name pclsL
theorem nm_hput : notMH M_hput := nmhL
theorem pd_hput : parseMethodDescriptor (mN M_hput).desc = some ⟨[.long, .int, .int, .int], some .long⟩ := by decide +kernel
def M_procInfo : Mi := ((⟨"WorkingSetPager", "procInfo", "(II)I"⟩ : MethodName), prog_1_method_28_code, 3, (some .int), 0, 0)
theorem pl_procInfo : plainFor (mN M_procInfo) = true := plainFor_of_name pcls
theorem nm_procInfo : notMH M_procInfo := nmh
theorem pd_procInfo : parseMethodDescriptor (mN M_procInfo).desc = some ⟨[.int, .int], some .int⟩ := by decide +kernel
def M_hit : Mi := ((⟨"WorkingSetPager", "hit", "(IIZI)V"⟩ : MethodName), prog_1_method_8_code, 5, none, 0, 0)
theorem pl_hit : plainFor (mN M_hit) = true := plainFor_of_name pcls
theorem nm_hit : notMH M_hit := nmh
theorem pd_hit : parseMethodDescriptor (mN M_hit).desc = some ⟨[.int, .int, .boolean, .int], none⟩ := by decide +kernel
def M_sweep : Mi := ((⟨"WorkingSetPager", "sweep", "()I"⟩ : MethodName), prog_1_method_9_code, 5, (some .int), 0, 0)
theorem pl_sweep : plainFor (mN M_sweep) = true := plainFor_of_name pcls
theorem nm_sweep : notMH M_sweep := nmh
theorem pd_sweep : parseMethodDescriptor (mN M_sweep).desc = some ⟨[], some .int⟩ := by decide +kernel
def M_load : Mi := ((⟨"WorkingSetPager", "load", "(IIIZI)V"⟩ : MethodName), prog_1_method_10_code, 8, none, 0, 0)
theorem pl_load : plainFor (mN M_load) = true := plainFor_of_name pcls
theorem nm_load : notMH M_load := nmh
theorem pd_load : parseMethodDescriptor (mN M_load).desc = some ⟨[.int, .int, .int, .boolean, .int], none⟩ := by decide +kernel
def M_access : Mi := ((⟨"WorkingSetPager", "access", "(IIZI)I"⟩ : MethodName), prog_1_method_7_code, 7, (some .int), 1, 19)
theorem pl_access : plainFor (mN M_access) = true := plainFor_of_name pcls
theorem nm_access : notMH M_access := nmh
theorem pd_access : parseMethodDescriptor (mN M_access).desc = some ⟨[.int, .int, .boolean, .int], some .int⟩ := by decide +kernel
def M_read : Mi := ((⟨"WorkingSetPager", "read", "(II)I"⟩ : MethodName), prog_1_method_3_code, 4, (some .int), 2, 37)
theorem pl_read : plainFor (mN M_read) = true := plainFor_of_name pcls
theorem nm_read : notMH M_read := nmh
theorem pd_read : parseMethodDescriptor (mN M_read).desc = some ⟨[.int, .int], some .int⟩ := by decide +kernel
def M_write : Mi := ((⟨"WorkingSetPager", "write", "(III)I"⟩ : MethodName), prog_1_method_4_code, 5, (some .int), 2, 37)
theorem pl_write : plainFor (mN M_write) = true := plainFor_of_name pcls
theorem nm_write : notMH M_write := nmh
theorem pd_write : parseMethodDescriptor (mN M_write).desc = some ⟨[.int, .int, .int], some .int⟩ := by decide +kernel
def M_lastStatus : Mi := ((⟨"WorkingSetPager", "lastStatus", "()I"⟩ : MethodName), prog_1_method_5_code, 1, (some .int), 0, 0)
theorem pl_lastStatus : plainFor (mN M_lastStatus) = true := plainFor_of_name pcls
theorem nm_lastStatus : notMH M_lastStatus := nmh
theorem pd_lastStatus : parseMethodDescriptor (mN M_lastStatus).desc = some ⟨[], some .int⟩ := by decide +kernel
def M_hget : Mi := ((⟨"WorkingSetPagerOwnLaw", "get", "(JII)I"⟩ : MethodName), method_3_code, 4, (some .int), 0, 0)
theorem pl_hget : plainFor (mN M_hget) = true := plainFor_of_name pclsL
theorem nm_hget : notMH M_hget := nmhL
theorem pd_hget : parseMethodDescriptor (mN M_hget).desc = some ⟨[.long, .int, .int], some .int⟩ := by decide +kernel
def M_diskValue : Mi := ((⟨"WorkingSetPager", "diskValue", "(II)I"⟩ : MethodName), prog_1_method_29_code, 3, (some .int), 0, 0)
theorem pl_diskValue : plainFor (mN M_diskValue) = true := plainFor_of_name pcls
theorem nm_diskValue : notMH M_diskValue := nmh
theorem pd_diskValue : parseMethodDescriptor (mN M_diskValue).desc = some ⟨[.int, .int], some .int⟩ := by decide +kernel
def M_law : Mi := (x, code, maxLocals, ret, 4, 66)
theorem pl_law : plainFor (mN M_law) = true := plainFor_of_name (by first | (simp [plainName, overriddenIn, x]; done) | decide +kernel)
def c0 : List (Nat × Instr × Nat) := [(0, .iload_n 1, 1), (1, .aload_n 0, 1), (2, .arraylength, 1), (3, .if_icmp .ge 9, 3), (6, .aload_n 0, 1), (7, .iload_n 1, 1), (8, .iaload, 1), (9, .goto 4, 3), (12, .iconst 0, 1), (13, .ireturn, 1)]
theorem D0 : decs method_2_code c0 = true := by decide +kernel
theorem d0 (k : Nat) {p : Nat} {i : Instr} {n : Nat} (h : c0[k]? = some (p, i, n)) : decode method_2_code p = .ok (i, n) := dget D0 h
def c3 : List (Nat × Instr × Nat) := [(0, .iload_n 1, 1), (1, .iload_n 2, 1), (2, .if_icmp .ge 5, 3), (5, .iload_n 2, 1), (6, .ireturn, 1), (7, .iload_n 1, 1), (8, .iload_n 3, 1), (9, .if_icmp .le 5, 3), (12, .iload_n 3, 1), (13, .ireturn, 1), (14, .iload_n 1, 1), (15, .ireturn, 1)]
theorem D3 : decs prog_1_method_2_code c3 = true := by decide +kernel
theorem d3 (k : Nat) {p : Nat} {i : Instr} {n : Nat} (h : c3[k]? = some (p, i, n)) : decode prog_1_method_2_code p = .ok (i, n) := dget D3 h
def c1 : List (Nat × Instr × Nat) := [(0, .aload_n 0, 1), (1, .invokespecial 1, 3), (4, .aload_n 0, 1), (5, .bipush 32, 2), (7, .newarray .int, 2), (9, .putfield 7, 3), (12, .aload_n 0, 1), (13, .bipush 32, 2), (15, .newarray .int, 2), (17, .putfield 13, 3), (20, .aload_n 0, 1), (21, .bipush 32, 2), (23, .newarray .int, 2), (25, .putfield 16, 3), (28, .aload_n 0, 1), (29, .bipush 32, 2), (31, .newarray .int, 2), (33, .putfield 19, 3), (36, .aload_n 0, 1), (37, .bipush 32, 2), (39, .newarray .int, 2), (41, .putfield 22, 3), (44, .aload_n 0, 1), (45, .bipush 32, 2), (47, .newarray .int, 2), (49, .putfield 25, 3), (52, .aload_n 0, 1), (53, .bipush 32, 2), (55, .newarray .int, 2), (57, .putfield 28, 3), (60, .aload_n 0, 1), (61, .bipush 32, 2), (63, .newarray .int, 2), (65, .putfield 31, 3), (68, .aload_n 0, 1), (69, .bipush 32, 2), (71, .newarray .int, 2), (73, .putfield 34, 3), (76, .aload_n 0, 1), (77, .iconst 4, 1), (78, .newarray .boolean, 2), (80, .putfield 37, 3), (83, .aload_n 0, 1), (84, .iconst 4, 1), (85, .newarray .int, 2), (87, .putfield 41, 3), (90, .aload_n 0, 1), (91, .iconst 4, 1), (92, .newarray .int, 2), (94, .putfield 44, 3), (97, .aload_n 0, 1), (98, .iconst 4, 1), (99, .newarray .int, 2), (101, .putfield 47, 3), (104, .aload_n 0, 1), (105, .iconst 4, 1), (106, .newarray .int, 2), (108, .putfield 50, 3), (111, .aload_n 0, 1), (112, .iconst 4, 1), (113, .newarray .int, 2), (115, .putfield 53, 3), (118, .aload_n 0, 1), (119, .aload_n 0, 1), (120, .iload_n 1, 1), (121, .iconst 4, 1), (122, .bipush 32, 2), (124, .invokevirtual 56, 3), (127, .putfield 60, 3), (130, .aload_n 0, 1), (131, .aload_n 0, 1), (132, .iload_n 2, 1), (133, .iconst 1, 1), (134, .bipush 64, 2), (136, .invokevirtual 56, 3), (139, .putfield 64, 3), (142, .aload_n 0, 1), (143, .aload_n 0, 1), (144, .iload_n 3, 1), (145, .iconst 1, 1), (146, .bipush 8, 2), (148, .invokevirtual 56, 3), (151, .putfield 67, 3), (154, .aload_n 0, 1), (155, .aload_n 0, 1), (156, .iload 4, 2), (158, .iconst 1, 1), (159, .bipush 16, 2), (161, .invokevirtual 56, 3), (164, .putfield 70, 3), (167, .iconst 0, 1), (168, .istore 5, 2), (170, .iload 5, 2), (172, .bipush 32, 2), (174, .if_icmp .ge 25, 3), (177, .aload_n 0, 1), (178, .getfield 16, 3), (181, .iload 5, 2), (183, .iconst (-1), 1), (184, .iastore, 1), (185, .aload_n 0, 1), (186, .getfield 13, 3), (189, .iload 5, 2), (191, .iconst (-1), 1), (192, .iastore, 1), (193, .iinc 5 1, 3), (196, .goto (-26), 3), (199, .return_, 1)]
theorem D1 : decs prog_1_method_1_code c1 = true := by decide +kernel
theorem d1 (k : Nat) {p : Nat} {i : Instr} {n : Nat} (h : c1[k]? = some (p, i, n)) : decode prog_1_method_1_code p = .ok (i, n) := dget D1 h
def c9 : List (Nat × Instr × Nat) := [(0, .iconst 0, 1), (1, .istore_n 1, 1), (2, .iconst 0, 1), (3, .istore_n 2, 1), (4, .iload_n 2, 1), (5, .aload_n 0, 1), (6, .getfield 60, 3), (9, .if_icmp .ge 92, 3), (12, .aload_n 0, 1), (13, .getfield 16, 3), (16, .iload_n 2, 1), (17, .iaload, 1), (18, .istore_n 3, 1), (19, .iload_n 3, 1), (20, .ifCond .lt 75, 3), (23, .iload_n 3, 1), (24, .iconst 3, 1), (25, .if_icmp .le 6, 3), (28, .goto 67, 3), (31, .aload_n 0, 1), (32, .getfield 34, 3), (35, .iload_n 2, 1), (36, .iaload, 1), (37, .ifCond .eq 58, 3), (40, .aload_n 0, 1), (41, .getfield 34, 3), (44, .iload_n 2, 1), (45, .iaload, 1), (46, .aload_n 0, 1), (47, .getfield 83, 3), (50, .if_icmp .gt 45, 3), (53, .aload_n 0, 1), (54, .getfield 7, 3), (57, .iload_n 3, 1), (58, .bipush 8, 2), (60, .imul, 1), (61, .aload_n 0, 1), (62, .getfield 19, 3), (65, .iload_n 2, 1), (66, .iaload, 1), (67, .bipush 7, 2), (69, .iand, 1), (70, .iadd, 1), (71, .aload_n 0, 1), (72, .getfield 22, 3), (75, .iload_n 2, 1), (76, .iaload, 1), (77, .iastore, 1), (78, .aload_n 0, 1), (79, .getfield 25, 3), (82, .iload_n 2, 1), (83, .iconst 0, 1), (84, .iastore, 1), (85, .aload_n 0, 1), (86, .getfield 34, 3), (89, .iload_n 2, 1), (90, .iconst 0, 1), (91, .iastore, 1), (92, .iinc 1 1, 3), (95, .iinc 2 1, 3), (98, .goto (-94), 3), (101, .iload_n 1, 1), (102, .ireturn, 1)]
theorem D9 : decs prog_1_method_11_code c9 = true := by decide +kernel
theorem d9 (k : Nat) {p : Nat} {i : Instr} {n : Nat} (h : c9[k]? = some (p, i, n)) : decode prog_1_method_11_code p = .ok (i, n) := dget D9 h
def c16 : List (Nat × Instr × Nat) := [(0, .aload_n 0, 1), (1, .dup, 1), (2, .getfield 83, 3), (5, .iconst 1, 1), (6, .iadd, 1), (7, .putfield 83, 3), (10, .aload_n 0, 1), (11, .invokevirtual 86, 3), (14, .ireturn, 1)]
theorem D16 : decs prog_1_method_6_code c16 = true := by decide +kernel
theorem d16 (k : Nat) {p : Nat} {i : Instr} {n : Nat} (h : c16[k]? = some (p, i, n)) : decode prog_1_method_6_code p = .ok (i, n) := dget D16 h
def c21 : List (Nat × Instr × Nat) := [(0, .aload_n 0, 1), (1, .getfield 16, 3), (4, .iload_n 1, 1), (5, .iconst (-1), 1), (6, .iastore, 1), (7, .aload_n 0, 1), (8, .getfield 19, 3), (11, .iload_n 1, 1), (12, .iconst 0, 1), (13, .iastore, 1), (14, .aload_n 0, 1), (15, .getfield 22, 3), (18, .iload_n 1, 1), (19, .iconst 0, 1), (20, .iastore, 1), (21, .aload_n 0, 1), (22, .getfield 25, 3), (25, .iload_n 1, 1), (26, .iconst 0, 1), (27, .iastore, 1), (28, .aload_n 0, 1), (29, .getfield 28, 3), (32, .iload_n 1, 1), (33, .iconst 0, 1), (34, .iastore, 1), (35, .aload_n 0, 1), (36, .getfield 31, 3), (39, .iload_n 1, 1), (40, .iconst 0, 1), (41, .iastore, 1), (42, .aload_n 0, 1), (43, .getfield 34, 3), (46, .iload_n 1, 1), (47, .iconst 0, 1), (48, .iastore, 1), (49, .return_, 1)]
theorem D21 : decs prog_1_method_12_code c21 = true := by decide +kernel
theorem d21 (k : Nat) {p : Nat} {i : Instr} {n : Nat} (h : c21[k]? = some (p, i, n)) : decode prog_1_method_12_code p = .ok (i, n) := dget D21 h
def c20 : List (Nat × Instr × Nat) := [(0, .aload_n 0, 1), (1, .getfield 47, 3), (4, .iload_n 1, 1), (5, .iconst 0, 1), (6, .iastore, 1), (7, .iconst 0, 1), (8, .istore_n 2, 1), (9, .iload_n 2, 1), (10, .aload_n 0, 1), (11, .getfield 60, 3), (14, .if_icmp .ge 82, 3), (17, .aload_n 0, 1), (18, .getfield 16, 3), (21, .iload_n 2, 1), (22, .iaload, 1), (23, .iload_n 1, 1), (24, .if_icmp .eq 6, 3), (27, .goto 63, 3), (30, .aload_n 0, 1), (31, .getfield 19, 3), (34, .iload_n 2, 1), (35, .iaload, 1), (36, .bipush 7, 2), (38, .iand, 1), (39, .istore_n 3, 1), (40, .aload_n 0, 1), (41, .getfield 7, 3), (44, .iload_n 1, 1), (45, .bipush 8, 2), (47, .imul, 1), (48, .iload_n 3, 1), (49, .iadd, 1), (50, .aload_n 0, 1), (51, .getfield 22, 3), (54, .iload_n 2, 1), (55, .iaload, 1), (56, .iastore, 1), (57, .aload_n 0, 1), (58, .getfield 47, 3), (61, .iload_n 1, 1), (62, .aload_n 0, 1), (63, .getfield 47, 3), (66, .iload_n 1, 1), (67, .iaload, 1), (68, .iconst 1, 1), (69, .iload_n 3, 1), (70, .ishl, 1), (71, .ior, 1), (72, .iastore, 1), (73, .aload_n 0, 1), (74, .getfield 13, 3), (77, .iload_n 1, 1), (78, .bipush 8, 2), (80, .imul, 1), (81, .iload_n 3, 1), (82, .iadd, 1), (83, .iconst (-1), 1), (84, .iastore, 1), (85, .aload_n 0, 1), (86, .iload_n 2, 1), (87, .invokevirtual 108, 3), (90, .iinc 2 1, 3), (93, .goto (-84), 3), (96, .aload_n 0, 1), (97, .getfield 37, 3), (100, .iload_n 1, 1), (101, .iconst 1, 1), (102, .bastore, 1), (103, .return_, 1)]
theorem D20 : decs prog_1_method_14_code c20 = true := by decide +kernel
theorem d20 (k : Nat) {p : Nat} {i : Instr} {n : Nat} (h : c20[k]? = some (p, i, n)) : decode prog_1_method_14_code p = .ok (i, n) := dget D20 h
def c23 : List (Nat × Instr × Nat) := [(0, .iconst 0, 1), (1, .istore_n 2, 1), (2, .iconst 0, 1), (3, .istore_n 3, 1), (4, .iload_n 3, 1), (5, .bipush 8, 2), (7, .if_icmp .ge 20, 3), (10, .iload_n 1, 1), (11, .iconst 1, 1), (12, .iload_n 3, 1), (13, .ishl, 1), (14, .iand, 1), (15, .ifCond .eq 6, 3), (18, .iinc 2 1, 3), (21, .iinc 3 1, 3), (24, .goto (-20), 3), (27, .iload_n 2, 1), (28, .ireturn, 1)]
theorem D23 : decs prog_1_method_19_code c23 = true := by decide +kernel
theorem d23 (k : Nat) {p : Nat} {i : Instr} {n : Nat} (h : c23[k]? = some (p, i, n)) : decode prog_1_method_19_code p = .ok (i, n) := dget D23 h
def c24 : List (Nat × Instr × Nat) := [(0, .iconst 0, 1), (1, .istore_n 1, 1), (2, .iconst 0, 1), (3, .istore_n 2, 1), (4, .iload_n 2, 1), (5, .aload_n 0, 1), (6, .getfield 60, 3), (9, .if_icmp .ge 21, 3), (12, .aload_n 0, 1), (13, .getfield 16, 3), (16, .iload_n 2, 1), (17, .iaload, 1), (18, .ifCond .ge 6, 3), (21, .iinc 1 1, 3), (24, .iinc 2 1, 3), (27, .goto (-23), 3), (30, .iload_n 1, 1), (31, .ireturn, 1)]
theorem D24 : decs prog_1_method_18_code c24 = true := by decide +kernel
theorem d24 (k : Nat) {p : Nat} {i : Instr} {n : Nat} (h : c24[k]? = some (p, i, n)) : decode prog_1_method_18_code p = .ok (i, n) := dget D24 h
def c26 : List (Nat × Instr × Nat) := [(0, .iconst 0, 1), (1, .istore_n 1, 1), (2, .iload_n 1, 1), (3, .aload_n 0, 1), (4, .getfield 60, 3), (7, .if_icmp .ge 20, 3), (10, .aload_n 0, 1), (11, .getfield 16, 3), (14, .iload_n 1, 1), (15, .iaload, 1), (16, .ifCond .ge 5, 3), (19, .iload_n 1, 1), (20, .ireturn, 1), (21, .iinc 1 1, 3), (24, .goto (-22), 3), (27, .iconst (-1), 1), (28, .ireturn, 1)]
theorem D26 : decs prog_1_method_17_code c26 = true := by decide +kernel
theorem d26 (k : Nat) {p : Nat} {i : Instr} {n : Nat} (h : c26[k]? = some (p, i, n)) : decode prog_1_method_17_code p = .ok (i, n) := dget D26 h
def c25 : List (Nat × Instr × Nat) := [(0, .iconst 0, 1), (1, .istore_n 2, 1), (2, .iload_n 2, 1), (3, .bipush 8, 2), (5, .if_icmp .ge 113, 3), (8, .aload_n 0, 1), (9, .getfield 47, 3), (12, .iload_n 1, 1), (13, .iaload, 1), (14, .iconst 1, 1), (15, .iload_n 2, 1), (16, .ishl, 1), (17, .iand, 1), (18, .ifCond .ne 6, 3), (21, .goto 91, 3), (24, .aload_n 0, 1), (25, .invokevirtual 121, 3), (28, .istore_n 3, 1), (29, .iload_n 3, 1), (30, .ifCond .ge 6, 3), (33, .goto 79, 3), (36, .aload_n 0, 1), (37, .getfield 16, 3), (40, .iload_n 3, 1), (41, .iload_n 1, 1), (42, .iastore, 1), (43, .aload_n 0, 1), (44, .getfield 19, 3), (47, .iload_n 3, 1), (48, .iload_n 2, 1), (49, .iastore, 1), (50, .aload_n 0, 1), (51, .getfield 13, 3), (54, .iload_n 1, 1), (55, .bipush 8, 2), (57, .imul, 1), (58, .iload_n 2, 1), (59, .iadd, 1), (60, .iload_n 3, 1), (61, .iastore, 1), (62, .aload_n 0, 1), (63, .getfield 22, 3), (66, .iload_n 3, 1), (67, .aload_n 0, 1), (68, .getfield 7, 3), (71, .iload_n 1, 1), (72, .bipush 8, 2), (74, .imul, 1), (75, .iload_n 2, 1), (76, .iadd, 1), (77, .iaload, 1), (78, .iastore, 1), (79, .aload_n 0, 1), (80, .getfield 25, 3), (83, .iload_n 3, 1), (84, .iconst 0, 1), (85, .iastore, 1), (86, .aload_n 0, 1), (87, .getfield 28, 3), (90, .iload_n 3, 1), (91, .iconst 0, 1), (92, .iastore, 1), (93, .aload_n 0, 1), (94, .getfield 34, 3), (97, .iload_n 3, 1), (98, .iconst 0, 1), (99, .iastore, 1), (100, .aload_n 0, 1), (101, .getfield 31, 3), (104, .iload_n 3, 1), (105, .aload_n 0, 1), (106, .getfield 41, 3), (109, .iload_n 1, 1), (110, .iaload, 1), (111, .iastore, 1), (112, .iinc 2 1, 3), (115, .goto (-113), 3), (118, .aload_n 0, 1), (119, .getfield 47, 3), (122, .iload_n 1, 1), (123, .iconst 0, 1), (124, .iastore, 1), (125, .aload_n 0, 1), (126, .getfield 37, 3), (129, .iload_n 1, 1), (130, .iconst 0, 1), (131, .bastore, 1), (132, .return_, 1)]
theorem D25 : decs prog_1_method_16_code c25 = true := by decide +kernel
theorem d25 (k : Nat) {p : Nat} {i : Instr} {n : Nat} (h : c25[k]? = some (p, i, n)) : decode prog_1_method_16_code p = .ok (i, n) := dget D25 h
def c18 : List (Nat × Instr × Nat) := [(0, .iload_n 1, 1), (1, .ifCond .eq 27, 3), (4, .iload_n 2, 1), (5, .iconst 2, 1), (6, .if_icmp .lt 22, 3), (9, .iload_n 3, 1), (10, .ifCond .lt 18, 3), (13, .iload_n 3, 1), (14, .iconst 3, 1), (15, .if_icmp .gt 13, 3), (18, .aload_n 0, 1), (19, .iload_n 3, 1), (20, .invokevirtual 104, 3), (23, .bipush 16, 2), (25, .iload_n 3, 1), (26, .iadd, 1), (27, .ireturn, 1), (28, .iload 4, 2), (30, .ifCond .lt 52, 3), (33, .iload 4, 2), (35, .iconst 3, 1), (36, .if_icmp .gt 46, 3), (39, .iload 5, 2), (41, .ifCond .eq 41, 3), (44, .aload_n 0, 1), (45, .aload_n 0, 1), (46, .getfield 47, 3), (49, .iload 4, 2), (51, .iaload, 1), (52, .invokevirtual 111, 3), (55, .istore 6, 2), (57, .aload_n 0, 1), (58, .invokevirtual 115, 3), (61, .istore 7, 2), (63, .iload 6, 2), (65, .iload 7, 2), (67, .if_icmp .gt 15, 3), (70, .aload_n 0, 1), (71, .iload 4, 2), (73, .invokevirtual 118, 3), (76, .bipush 32, 2), (78, .iload 4, 2), (80, .iadd, 1), (81, .ireturn, 1), (82, .iconst 0, 1), (83, .ireturn, 1)]
theorem D18 : decs prog_1_method_21_code c18 = true := by decide +kernel
theorem d18 (k : Nat) {p : Nat} {i : Instr} {n : Nat} (h : c18[k]? = some (p, i, n)) : decode prog_1_method_21_code p = .ok (i, n) := dget D18 h
def c17 : List (Nat × Instr × Nat) := [(0, .iconst 0, 1), (1, .istore_n 1, 1), (2, .iconst (-1), 1), (3, .istore_n 2, 1), (4, .iconst (-1), 1), (5, .istore_n 3, 1), (6, .iconst 0, 1), (7, .istore 4, 2), (9, .iconst 1, 1), (10, .istore 5, 2), (12, .iconst 0, 1), (13, .istore 6, 2), (15, .iload 6, 2), (17, .iconst 4, 1), (18, .if_icmp .ge 87, 3), (21, .aload_n 0, 1), (22, .getfield 37, 3), (25, .iload 6, 2), (27, .baload, 1), (28, .ifCond .eq 13, 3), (31, .iload_n 3, 1), (32, .ifCond .ge 67, 3), (35, .iload 6, 2), (37, .istore_n 3, 1), (38, .goto 61, 3), (41, .iinc 1 1, 3), (44, .iload 6, 2), (46, .istore_n 2, 1), (47, .aload_n 0, 1), (48, .getfield 50, 3), (51, .iload 6, 2), (53, .iaload, 1), (54, .aload_n 0, 1), (55, .getfield 70, 3), (58, .imul, 1), (59, .aload_n 0, 1), (60, .getfield 53, 3), (63, .iload 6, 2), (65, .iaload, 1), (66, .if_icmp .le 6, 3), (69, .iconst 1, 1), (70, .istore 4, 2), (72, .aload_n 0, 1), (73, .getfield 50, 3), (76, .iload 6, 2), (78, .iaload, 1), (79, .iconst 2, 1), (80, .imul, 1), (81, .aload_n 0, 1), (82, .getfield 70, 3), (85, .imul, 1), (86, .aload_n 0, 1), (87, .getfield 53, 3), (90, .iload 6, 2), (92, .iaload, 1), (93, .if_icmp .le 6, 3), (96, .iconst 0, 1), (97, .istore 5, 2), (99, .iinc 6 1, 3), (102, .goto (-87), 3), (105, .aload_n 0, 1), (106, .iload 4, 2), (108, .iload_n 1, 1), (109, .iload_n 2, 1), (110, .iload_n 3, 1), (111, .iload 5, 2), (113, .invokevirtual 124, 3), (116, .istore 6, 2), (118, .iconst 0, 1), (119, .istore 7, 2), (121, .iload 7, 2), (123, .iconst 4, 1), (124, .if_icmp .ge 25, 3), (127, .aload_n 0, 1), (128, .getfield 50, 3), (131, .iload 7, 2), (133, .iconst 0, 1), (134, .iastore, 1), (135, .aload_n 0, 1), (136, .getfield 53, 3), (139, .iload 7, 2), (141, .iconst 0, 1), (142, .iastore, 1), (143, .iinc 7 1, 3), (146, .goto (-25), 3), (149, .iload 6, 2), (151, .ireturn, 1)]
theorem D17 : decs prog_1_method_20_code c17 = true := by decide +kernel
theorem d17 (k : Nat) {p : Nat} {i : Instr} {n : Nat} (h : c17[k]? = some (p, i, n)) : decode prog_1_method_20_code p = .ok (i, n) := dget D17 h
def c22 : List (Nat × Instr × Nat) := [(0, .iload_n 1, 1), (1, .ifCond .lt 8, 3), (4, .iload_n 1, 1), (5, .iconst 3, 1), (6, .if_icmp .le 5, 3), (9, .iconst 5, 1), (10, .ireturn, 1), (11, .aload_n 0, 1), (12, .getfield 37, 3), (15, .iload_n 1, 1), (16, .baload, 1), (17, .ifCond .eq 5, 3), (20, .iconst 4, 1), (21, .ireturn, 1), (22, .aload_n 0, 1), (23, .iload_n 1, 1), (24, .invokevirtual 104, 3), (27, .bipush 6, 2), (29, .ireturn, 1)]
theorem D22 : decs prog_1_method_13_code c22 = true := by decide +kernel
theorem d22 (k : Nat) {p : Nat} {i : Instr} {n : Nat} (h : c22[k]? = some (p, i, n)) : decode prog_1_method_13_code p = .ok (i, n) := dget D22 h
def c19 : List (Nat × Instr × Nat) := [(0, .iload_n 1, 1), (1, .ifCond .lt 8, 3), (4, .iload_n 1, 1), (5, .iconst 3, 1), (6, .if_icmp .le 5, 3), (9, .iconst 5, 1), (10, .ireturn, 1), (11, .aload_n 0, 1), (12, .getfield 37, 3), (15, .iload_n 1, 1), (16, .baload, 1), (17, .ifCond .ne 6, 3), (20, .bipush 7, 2), (22, .ireturn, 1), (23, .aload_n 0, 1), (24, .aload_n 0, 1), (25, .getfield 47, 3), (28, .iload_n 1, 1), (29, .iaload, 1), (30, .invokevirtual 111, 3), (33, .istore_n 2, 1), (34, .aload_n 0, 1), (35, .invokevirtual 115, 3), (38, .istore_n 3, 1), (39, .iload_n 2, 1), (40, .iload_n 3, 1), (41, .if_icmp .le 5, 3), (44, .iconst 3, 1), (45, .ireturn, 1), (46, .aload_n 0, 1), (47, .iload_n 1, 1), (48, .invokevirtual 118, 3), (51, .bipush 6, 2), (53, .ireturn, 1)]
theorem D19 : decs prog_1_method_15_code c19 = true := by decide +kernel
theorem d19 (k : Nat) {p : Nat} {i : Instr} {n : Nat} (h : c19[k]? = some (p, i, n)) : decode prog_1_method_15_code p = .ok (i, n) := dget D19 h
def c4 : List (Nat × Instr × Nat) := [(0, .iload_n 1, 1), (1, .ifCond .lt 18, 3), (4, .iload_n 1, 1), (5, .iconst 3, 1), (6, .if_icmp .gt 13, 3), (9, .iload_n 2, 1), (10, .ifCond .lt 9, 3), (13, .iload_n 2, 1), (14, .bipush 7, 2), (16, .if_icmp .le 5, 3), (19, .iconst (-1), 1), (20, .ireturn, 1), (21, .aload_n 0, 1), (22, .getfield 13, 3), (25, .iload_n 1, 1), (26, .bipush 8, 2), (28, .imul, 1), (29, .iload_n 2, 1), (30, .iadd, 1), (31, .iaload, 1), (32, .ireturn, 1)]
theorem D4 : decs prog_1_method_22_code c4 = true := by decide +kernel
theorem d4 (k : Nat) {p : Nat} {i : Instr} {n : Nat} (h : c4[k]? = some (p, i, n)) : decode prog_1_method_22_code p = .ok (i, n) := dget D4 h
def c5 : List (Nat × Instr × Nat) := [(0, .lconst 1, 1), (1, .iload_n 3, 1), (2, .lshl, 1), (3, .lconst 1, 1), (4, .lsub, 1), (5, .iload_n 2, 1), (6, .iload_n 3, 1), (7, .imul, 1), (8, .lshl, 1), (9, .lstore 5, 2), (11, .lload_n 0, 1), (12, .lload 5, 2), (14, .ldc2_w 7, 3), (17, .lxor, 1), (18, .land, 1), (19, .iload 4, 2), (21, .i2l, 1), (22, .iload_n 2, 1), (23, .iload_n 3, 1), (24, .imul, 1), (25, .lshl, 1), (26, .lload 5, 2), (28, .land, 1), (29, .lor, 1), (30, .lreturn, 1)]
theorem D5 : decs method_4_code c5 = true := by decide +kernel
theorem d5 (k : Nat) {p : Nat} {i : Instr} {n : Nat} (h : c5[k]? = some (p, i, n)) : decode method_4_code p = .ok (i, n) := dget D5 h
def c6 : List (Nat × Instr × Nat) := [(0, .iload_n 1, 1), (1, .ifCond .lt 8, 3), (4, .iload_n 1, 1), (5, .iconst 3, 1), (6, .if_icmp .le 5, 3), (9, .iconst (-1), 1), (10, .ireturn, 1), (11, .iload_n 2, 1), (12, .ifCond .ne 10, 3), (15, .aload_n 0, 1), (16, .getfield 41, 3), (19, .iload_n 1, 1), (20, .iaload, 1), (21, .ireturn, 1), (22, .iload_n 2, 1), (23, .iconst 1, 1), (24, .if_icmp .ne 10, 3), (27, .aload_n 0, 1), (28, .getfield 44, 3), (31, .iload_n 1, 1), (32, .iaload, 1), (33, .ireturn, 1), (34, .iload_n 2, 1), (35, .iconst 2, 1), (36, .if_icmp .ne 18, 3), (39, .aload_n 0, 1), (40, .getfield 37, 3), (43, .iload_n 1, 1), (44, .baload, 1), (45, .ifCond .eq 7, 3), (48, .iconst 1, 1), (49, .goto 4, 3), (52, .iconst 0, 1), (53, .ireturn, 1), (54, .iload_n 2, 1), (55, .iconst 3, 1), (56, .if_icmp .ne 10, 3), (59, .aload_n 0, 1), (60, .getfield 47, 3), (63, .iload_n 1, 1), (64, .iaload, 1), (65, .ireturn, 1), (66, .iload_n 2, 1), (67, .iconst 4, 1), (68, .if_icmp .ne 10, 3), (71, .aload_n 0, 1), (72, .getfield 50, 3), (75, .iload_n 1, 1), (76, .iaload, 1), (77, .ireturn, 1), (78, .iload_n 2, 1), (79, .iconst 5, 1), (80, .if_icmp .ne 10, 3), (83, .aload_n 0, 1), (84, .getfield 53, 3), (87, .iload_n 1, 1), (88, .iaload, 1), (89, .ireturn, 1), (90, .iconst (-1), 1), (91, .ireturn, 1)]
theorem D6 : decs prog_1_method_28_code c6 = true := by decide +kernel
theorem d6 (k : Nat) {p : Nat} {i : Instr} {n : Nat} (h : c6[k]? = some (p, i, n)) : decode prog_1_method_28_code p = .ok (i, n) := dget D6 h
def c15 : List (Nat × Instr × Nat) := [(0, .aload_n 0, 1), (1, .getfield 41, 3), (4, .iload_n 2, 1), (5, .dup2, 1), (6, .iaload, 1), (7, .iconst 1, 1), (8, .iadd, 1), (9, .iastore, 1), (10, .aload_n 0, 1), (11, .getfield 53, 3), (14, .iload_n 2, 1), (15, .dup2, 1), (16, .iaload, 1), (17, .iconst 1, 1), (18, .iadd, 1), (19, .iastore, 1), (20, .aload_n 0, 1), (21, .getfield 28, 3), (24, .iload_n 1, 1), (25, .iconst 1, 1), (26, .iastore, 1), (27, .iload_n 3, 1), (28, .ifCond .eq 25, 3), (31, .aload_n 0, 1), (32, .getfield 22, 3), (35, .iload_n 1, 1), (36, .iload 4, 2), (38, .iastore, 1), (39, .aload_n 0, 1), (40, .getfield 25, 3), (43, .iload_n 1, 1), (44, .iconst 1, 1), (45, .iastore, 1), (46, .aload_n 0, 1), (47, .getfield 34, 3), (50, .iload_n 1, 1), (51, .iconst 0, 1), (52, .iastore, 1), (53, .return_, 1)]
theorem D15 : decs prog_1_method_8_code c15 = true := by decide +kernel
theorem d15 (k : Nat) {p : Nat} {i : Instr} {n : Nat} (h : c15[k]? = some (p, i, n)) : decode prog_1_method_8_code p = .ok (i, n) := dget D15 h
def c10 : List (Nat × Instr × Nat) := [(0, .iconst 0, 1), (1, .istore_n 1, 1), (2, .iload_n 1, 1), (3, .aload_n 0, 1), (4, .getfield 60, 3), (7, .if_icmp .ge 135, 3), (10, .aload_n 0, 1), (11, .getfield 101, 3), (14, .iload_n 1, 1), (15, .iadd, 1), (16, .aload_n 0, 1), (17, .getfield 60, 3), (20, .irem, 1), (21, .istore_n 2, 1), (22, .aload_n 0, 1), (23, .getfield 16, 3), (26, .iload_n 2, 1), (27, .iaload, 1), (28, .istore_n 3, 1), (29, .iload_n 3, 1), (30, .ifCond .lt 8, 3), (33, .iload_n 3, 1), (34, .iconst 3, 1), (35, .if_icmp .le 5, 3), (38, .iload_n 2, 1), (39, .ireturn, 1), (40, .aload_n 0, 1), (41, .getfield 28, 3), (44, .iload_n 2, 1), (45, .iaload, 1), (46, .ifCond .eq 25, 3), (49, .aload_n 0, 1), (50, .getfield 28, 3), (53, .iload_n 2, 1), (54, .iconst 0, 1), (55, .iastore, 1), (56, .aload_n 0, 1), (57, .getfield 31, 3), (60, .iload_n 2, 1), (61, .aload_n 0, 1), (62, .getfield 41, 3), (65, .iload_n 3, 1), (66, .iaload, 1), (67, .iastore, 1), (68, .goto 68, 3), (71, .aload_n 0, 1), (72, .getfield 41, 3), (75, .iload_n 3, 1), (76, .iaload, 1), (77, .aload_n 0, 1), (78, .getfield 31, 3), (81, .iload_n 2, 1), (82, .iaload, 1), (83, .isub, 1), (84, .istore 4, 2), (86, .iload 4, 2), (88, .aload_n 0, 1), (89, .getfield 64, 3), (92, .if_icmp .gt 6, 3), (95, .goto 41, 3), (98, .aload_n 0, 1), (99, .getfield 25, 3), (102, .iload_n 2, 1), (103, .iaload, 1), (104, .ifCond .eq 30, 3), (107, .aload_n 0, 1), (108, .getfield 34, 3), (111, .iload_n 2, 1), (112, .iaload, 1), (113, .ifCond .ne 23, 3), (116, .aload_n 0, 1), (117, .getfield 34, 3), (120, .iload_n 2, 1), (121, .aload_n 0, 1), (122, .getfield 83, 3), (125, .aload_n 0, 1), (126, .getfield 67, 3), (129, .iadd, 1), (130, .iastore, 1), (131, .goto 5, 3), (134, .iload_n 2, 1), (135, .ireturn, 1), (136, .iinc 1 1, 3), (139, .goto (-137), 3), (142, .iconst (-1), 1), (143, .ireturn, 1)]
theorem D10 : decs prog_1_method_9_code c10 = true := by decide +kernel
theorem d10 (k : Nat) {p : Nat} {i : Instr} {n : Nat} (h : c10[k]? = some (p, i, n)) : decode prog_1_method_9_code p = .ok (i, n) := dget D10 h
def c11 : List (Nat × Instr × Nat) := [(0, .aload_n 0, 1), (1, .getfield 16, 3), (4, .iload_n 1, 1), (5, .iaload, 1), (6, .istore 6, 2), (8, .iload 6, 2), (10, .ifCond .lt 34, 3), (13, .iload 6, 2), (15, .iconst 3, 1), (16, .if_icmp .gt 28, 3), (19, .iload 6, 2), (21, .bipush 8, 2), (23, .imul, 1), (24, .aload_n 0, 1), (25, .getfield 19, 3), (28, .iload_n 1, 1), (29, .iaload, 1), (30, .bipush 7, 2), (32, .iand, 1), (33, .iadd, 1), (34, .istore 7, 2), (36, .aload_n 0, 1), (37, .getfield 13, 3), (40, .iload 7, 2), (42, .iconst (-1), 1), (43, .iastore, 1), (44, .aload_n 0, 1), (45, .getfield 16, 3), (48, .iload_n 1, 1), (49, .iload_n 2, 1), (50, .iastore, 1), (51, .aload_n 0, 1), (52, .getfield 19, 3), (55, .iload_n 1, 1), (56, .iload_n 3, 1), (57, .iastore, 1), (58, .aload_n 0, 1), (59, .getfield 13, 3), (62, .iload_n 2, 1), (63, .bipush 8, 2), (65, .imul, 1), (66, .iload_n 3, 1), (67, .iadd, 1), (68, .iload_n 1, 1), (69, .iastore, 1), (70, .aload_n 0, 1), (71, .getfield 22, 3), (74, .iload_n 1, 1), (75, .aload_n 0, 1), (76, .getfield 7, 3), (79, .iload_n 2, 1), (80, .bipush 8, 2), (82, .imul, 1), (83, .iload_n 3, 1), (84, .iadd, 1), (85, .iaload, 1), (86, .iastore, 1), (87, .aload_n 0, 1), (88, .getfield 25, 3), (91, .iload_n 1, 1), (92, .iconst 0, 1), (93, .iastore, 1), (94, .aload_n 0, 1), (95, .getfield 34, 3), (98, .iload_n 1, 1), (99, .iconst 0, 1), (100, .iastore, 1), (101, .aload_n 0, 1), (102, .getfield 41, 3), (105, .iload_n 2, 1), (106, .dup2, 1), (107, .iaload, 1), (108, .iconst 1, 1), (109, .iadd, 1), (110, .iastore, 1), (111, .aload_n 0, 1), (112, .getfield 53, 3), (115, .iload_n 2, 1), (116, .dup2, 1), (117, .iaload, 1), (118, .iconst 1, 1), (119, .iadd, 1), (120, .iastore, 1), (121, .aload_n 0, 1), (122, .getfield 28, 3), (125, .iload_n 1, 1), (126, .iconst 1, 1), (127, .iastore, 1), (128, .aload_n 0, 1), (129, .getfield 31, 3), (132, .iload_n 1, 1), (133, .aload_n 0, 1), (134, .getfield 41, 3), (137, .iload_n 2, 1), (138, .iaload, 1), (139, .iastore, 1), (140, .iload 4, 2), (142, .ifCond .eq 18, 3), (145, .aload_n 0, 1), (146, .getfield 22, 3), (149, .iload_n 1, 1), (150, .iload 5, 2), (152, .iastore, 1), (153, .aload_n 0, 1), (154, .getfield 25, 3), (157, .iload_n 1, 1), (158, .iconst 1, 1), (159, .iastore, 1), (160, .aload_n 0, 1), (161, .iload_n 1, 1), (162, .iconst 1, 1), (163, .iadd, 1), (164, .aload_n 0, 1), (165, .getfield 60, 3), (168, .irem, 1), (169, .putfield 101, 3), (172, .return_, 1)]
theorem D11 : decs prog_1_method_10_code c11 = true := by decide +kernel
theorem d11 (k : Nat) {p : Nat} {i : Instr} {n : Nat} (h : c11[k]? = some (p, i, n)) : decode prog_1_method_10_code p = .ok (i, n) := dget D11 h
def c8 : List (Nat × Instr × Nat) := [(0, .iload_n 1, 1), (1, .ifCond .lt 18, 3), (4, .iload_n 1, 1), (5, .iconst 3, 1), (6, .if_icmp .gt 13, 3), (9, .iload_n 2, 1), (10, .ifCond .lt 9, 3), (13, .iload_n 2, 1), (14, .bipush 7, 2), (16, .if_icmp .le 5, 3), (19, .iconst 5, 1), (20, .ireturn, 1), (21, .aload_n 0, 1), (22, .getfield 37, 3), (25, .iload_n 1, 1), (26, .baload, 1), (27, .ifCond .eq 5, 3), (30, .iconst 4, 1), (31, .ireturn, 1), (32, .aload_n 0, 1), (33, .dup, 1), (34, .getfield 83, 3), (37, .iconst 1, 1), (38, .iadd, 1), (39, .putfield 83, 3), (42, .aload_n 0, 1), (43, .invokevirtual 86, 3), (46, .pop, 1), (47, .aload_n 0, 1), (48, .getfield 13, 3), (51, .iload_n 1, 1), (52, .bipush 8, 2), (54, .imul, 1), (55, .iload_n 2, 1), (56, .iadd, 1), (57, .iaload, 1), (58, .istore 5, 2), (60, .iload 5, 2), (62, .ifCond .lt 28, 3), (65, .iload 5, 2), (67, .bipush 32, 2), (69, .if_icmp .ge 21, 3), (72, .aload_n 0, 1), (73, .iload 5, 2), (75, .iload_n 1, 1), (76, .iload_n 3, 1), (77, .iload 4, 2), (79, .invokevirtual 90, 3), (82, .aload_n 0, 1), (83, .iload 5, 2), (85, .putfield 80, 3), (88, .iconst 1, 1), (89, .ireturn, 1), (90, .aload_n 0, 1), (91, .getfield 44, 3), (94, .iload_n 1, 1), (95, .dup2, 1), (96, .iaload, 1), (97, .iconst 1, 1), (98, .iadd, 1), (99, .iastore, 1), (100, .aload_n 0, 1), (101, .getfield 50, 3), (104, .iload_n 1, 1), (105, .dup2, 1), (106, .iaload, 1), (107, .iconst 1, 1), (108, .iadd, 1), (109, .iastore, 1), (110, .aload_n 0, 1), (111, .invokevirtual 94, 3), (114, .istore 6, 2), (116, .iload 6, 2), (118, .ifCond .ge 5, 3), (121, .iconst 3, 1), (122, .ireturn, 1), (123, .aload_n 0, 1), (124, .iload 6, 2), (126, .iload_n 1, 1), (127, .iload_n 2, 1), (128, .iload_n 3, 1), (129, .iload 4, 2), (131, .invokevirtual 97, 3), (134, .aload_n 0, 1), (135, .iload 6, 2), (137, .putfield 80, 3), (140, .iconst 2, 1), (141, .ireturn, 1)]
theorem D8 : decs prog_1_method_7_code c8 = true := by decide +kernel
theorem d8 (k : Nat) {p : Nat} {i : Instr} {n : Nat} (h : c8[k]? = some (p, i, n)) : decode prog_1_method_7_code p = .ok (i, n) := dget D8 h
def c14 : List (Nat × Instr × Nat) := [(0, .aload_n 0, 1), (1, .iload_n 1, 1), (2, .iload_n 2, 1), (3, .iconst 0, 1), (4, .iconst 0, 1), (5, .invokevirtual 73, 3), (8, .istore_n 3, 1), (9, .aload_n 0, 1), (10, .iload_n 3, 1), (11, .putfield 77, 3), (14, .iload_n 3, 1), (15, .iconst 1, 1), (16, .if_icmp .eq 8, 3), (19, .iload_n 3, 1), (20, .iconst 2, 1), (21, .if_icmp .ne 13, 3), (24, .aload_n 0, 1), (25, .getfield 22, 3), (28, .aload_n 0, 1), (29, .getfield 80, 3), (32, .iaload, 1), (33, .ireturn, 1), (34, .iconst 0, 1), (35, .ireturn, 1)]
theorem D14 : decs prog_1_method_3_code c14 = true := by decide +kernel
theorem d14 (k : Nat) {p : Nat} {i : Instr} {n : Nat} (h : c14[k]? = some (p, i, n)) : decode prog_1_method_3_code p = .ok (i, n) := dget D14 h
def c7 : List (Nat × Instr × Nat) := [(0, .aload_n 0, 1), (1, .iload_n 1, 1), (2, .iload_n 2, 1), (3, .iconst 1, 1), (4, .iload_n 3, 1), (5, .invokevirtual 73, 3), (8, .istore 4, 2), (10, .aload_n 0, 1), (11, .iload 4, 2), (13, .putfield 77, 3), (16, .iload 4, 2), (18, .ireturn, 1)]
theorem D7 : decs prog_1_method_4_code c7 = true := by decide +kernel
theorem d7 (k : Nat) {p : Nat} {i : Instr} {n : Nat} (h : c7[k]? = some (p, i, n)) : decode prog_1_method_4_code p = .ok (i, n) := dget D7 h
def c12 : List (Nat × Instr × Nat) := [(0, .aload_n 0, 1), (1, .getfield 77, 3), (4, .ireturn, 1)]
theorem D12 : decs prog_1_method_5_code c12 = true := by decide +kernel
theorem d12 (k : Nat) {p : Nat} {i : Instr} {n : Nat} (h : c12[k]? = some (p, i, n)) : decode prog_1_method_5_code p = .ok (i, n) := dget D12 h
def c13 : List (Nat × Instr × Nat) := [(0, .lload_n 0, 1), (1, .iload_n 2, 1), (2, .iload_n 3, 1), (3, .imul, 1), (4, .lushr, 1), (5, .lconst 1, 1), (6, .iload_n 3, 1), (7, .lshl, 1), (8, .lconst 1, 1), (9, .lsub, 1), (10, .land, 1), (11, .l2i, 1), (12, .ireturn, 1)]
theorem D13 : decs method_3_code c13 = true := by decide +kernel
theorem d13 (k : Nat) {p : Nat} {i : Instr} {n : Nat} (h : c13[k]? = some (p, i, n)) : decode method_3_code p = .ok (i, n) := dget D13 h
def c27 : List (Nat × Instr × Nat) := [(0, .iload_n 1, 1), (1, .ifCond .lt 18, 3), (4, .iload_n 1, 1), (5, .iconst 3, 1), (6, .if_icmp .gt 13, 3), (9, .iload_n 2, 1), (10, .ifCond .lt 9, 3), (13, .iload_n 2, 1), (14, .bipush 7, 2), (16, .if_icmp .le 5, 3), (19, .iconst 0, 1), (20, .ireturn, 1), (21, .aload_n 0, 1), (22, .getfield 7, 3), (25, .iload_n 1, 1), (26, .bipush 8, 2), (28, .imul, 1), (29, .iload_n 2, 1), (30, .iadd, 1), (31, .iaload, 1), (32, .ireturn, 1)]
theorem D27 : decs prog_1_method_29_code c27 = true := by decide +kernel
theorem d27 (k : Nat) {p : Nat} {i : Instr} {n : Nat} (h : c27[k]? = some (p, i, n)) : decode prog_1_method_29_code p = .ok (i, n) := dget D27 h
def H0 (sn : Nat) (sf : Nat → Int32) : MHeap := [.inr (false, tab sn sf)]
def KL (sn : Nat) (sf : Nat → Int32) (s : St) : MHeap := KH flds al Ln (H0 sn sf) [] s
def f_hcell (sn : Nat) (sf : Nat → Int32) (a1 : Int32) : Option (Int32) :=
  if a1 < sn.toInt32 then
    grd (inb a1 sn) <|
    some (sf (ix a1))
  else
    some (0 : Int32)
set_option maxRecDepth 100000 in
theorem e_hcell {g : GT} {sn : Nat} {sf : Nat → Int32} {a1 : Int32} {w : Int32} (hw : HW g) {h : MHeap} (hs : h[0]? = some (.inr (false, tab sn sf))) (hr : f_hcell sn sf a1 = some w) : EvC (GG g) M_hcell [.ref 0, .int a1] h ((some (.int w)), h) := by
  refine EvC.enter (L0 := [.val (.ref 0), .val (.int a1)]) pl_hcell (fun h => nomatch h) rfl rfl ?_
  unfold f_hcell at hr
  refine Ev.iloadN (d0 0 rfl) rfl ?_
  refine Ev.aloadN (d0 1 rfl) rfl ?_
  refine Ev.sln hs (d0 2 rfl) ?_
  refine Ev.icge (t := 12) (d0 3 rfl) rfl (fun c1 => ?_) (fun c1 => ?_)
  · replace hr := (if_pos c1).symm.trans hr
    refine Ev.aloadN (d0 4 rfl) rfl ?_
    refine Ev.iloadN (d0 5 rfl) rfl ?_
    obtain ⟨b2, hr⟩ := grd_some hr
    refine Ev.sal hs (d0 6 rfl) b2 ?_
    refine Ev.goto (t := 13) (d0 7 rfl) rfl ?_
    cases hr
    exact Ev.ireturn rfl (d0 9 rfl)
  · replace hr := (if_neg c1).symm.trans hr
    refine Ev.iconst (z := 0) (d0 8 rfl) rfl ?_
    cases hr
    exact Ev.ireturn rfl (d0 9 rfl)
def f_clamp (s : St) (a0 : Int32) (a1 : Int32) (a2 : Int32) : Option (Int32) :=
  if a0 < a1 then
    some a1
  else
    if a2 < a0 then
      some a2
    else
      some a0
set_option maxRecDepth 100000 in
theorem e_clamp {g : GT} {s : St} {a0 : Int32} {a1 : Int32} {a2 : Int32} {w : Int32} (hw : HW g) {K : St → MHeap} {o : Nat} {r : Nat → Nat} (V : View (GG g) Ln K o r) (hr : f_clamp s a0 a1 a2 = some w) : EvC (GG g) M_clamp [.ref o, .int a0, .int a1, .int a2] (K s) ((some (.int w)), (K s)) := by
  refine EvC.enter (L0 := [.val (.ref o), .val (.int a0), .val (.int a1), .val (.int a2)]) pl_clamp (fun h => nomatch h) rfl rfl ?_
  unfold f_clamp at hr
  refine Ev.iloadN (d3 0 rfl) rfl ?_
  refine Ev.iloadN (d3 1 rfl) rfl ?_
  refine Ev.icge (t := 7) (d3 2 rfl) rfl (fun c1 => ?_) (fun c1 => ?_)
  · replace hr := (if_pos c1).symm.trans hr
    refine Ev.iloadN (d3 3 rfl) rfl ?_
    cases hr
    exact Ev.ireturn rfl (d3 4 rfl)
  · replace hr := (if_neg c1).symm.trans hr
    refine Ev.iloadN (d3 5 rfl) rfl ?_
    refine Ev.iloadN (d3 6 rfl) rfl ?_
    refine Ev.icle (t := 14) (d3 7 rfl) rfl (fun c2 => ?_) (fun c2 => ?_)
    · replace hr := (if_pos c2).symm.trans hr
      refine Ev.iloadN (d3 8 rfl) rfl ?_
      cases hr
      exact Ev.ireturn rfl (d3 9 rfl)
    · replace hr := (if_neg c2).symm.trans hr
      refine Ev.iloadN (d3 10 rfl) rfl ?_
      cases hr
      exact Ev.ireturn rfl (d3 11 rfl)
def f_ctor_170 (n : Nat) : Nat → Int32 → St → Option (St)
  | 0 => fun _ _ => none
  | k + 1 => fun x5 s =>
    if x5 < (32 : Int32) then
      grd (inb x5 32) <|
      bnd (setA s 2 (ix x5) (-1 : Int32)) fun s3 =>
      bnd (setA s3 1 (ix x5) (-1 : Int32)) fun s4 =>
      f_ctor_170 n k (x5 + (1 : Int32)) s4
    else
      some s
set_option maxRecDepth 100000 in
theorem e_ctor_170 {g : GT} {n : Nat} (hw : HW g) {K : St → MHeap} {o : Nat} {r : Nat → Nat} (V : View (GG g) Ln K o r) (k : Nat) : ∀ (x5 : Int32) (s : St) (y1 : Slot) (hy1 : one1 y1 = true) (y2 : Slot) (hy2 : one1 y2 = true) (y3 : Slot) (hy3 : one1 y3 = true) (y4 : Slot) (hy4 : one1 y4 = true) (w : St), f_ctor_170 n k x5 s = some w → Ev (GG g) M_ctor 170 [.val (.ref o), y1, y2, y3, y4, .val (.int x5)] [] (K s) (none, (K w)) := by
  induction k with
  | zero => intro x5 s y1 hy1 y2 hy2 y3 hy3 y4 hy4 w hr; rw [f_ctor_170] at hr; cases hr
  | succ k ih =>
    intro x5 s y1 hy1 y2 hy2 y3 hy3 y4 hy4 w hr
    rw [f_ctor_170] at hr
    refine Ev.iload (d1 92 rfl) rfl ?_
    refine Ev.bipush (z := 32) (d1 93 rfl) rfl ?_
    refine Ev.icge (t := 199) (d1 94 rfl) rfl (fun c1 => ?_) (fun c1 => ?_)
    · replace hr := (if_pos c1).symm.trans hr
      refine Ev.aloadN (d1 95 rfl) rfl ?_
      refine Ev.gAr V (ww hw 18 rfl) (d1 96 rfl) (j := 2) rfl ?_
      refine Ev.iload (d1 97 rfl) rfl ?_
      refine Ev.iconst (z := -1) (d1 98 rfl) rfl ?_
      obtain ⟨b2, hr⟩ := grd_some hr
      refine Ev.ias V (j := 2) rfl rfl (d1 99 rfl) b2 ?_
      revert hr
      generalize setA s 2 (ix x5) (-1 : Int32) = s3
      intro hr
      replace hr := (bnd_eq _ _).symm.trans hr
      refine Ev.aloadN (d1 100 rfl) rfl ?_
      refine Ev.gAr V (ww hw 16 rfl) (d1 101 rfl) (j := 1) rfl ?_
      refine Ev.iload (d1 102 rfl) rfl ?_
      refine Ev.iconst (z := -1) (d1 103 rfl) rfl ?_
      refine Ev.ias V (j := 1) rfl rfl (d1 104 rfl) b2 ?_
      revert hr
      generalize setA s3 1 (ix x5) (-1 : Int32) = s4
      intro hr
      replace hr := (bnd_eq _ _).symm.trans hr
      refine Ev.iinc (z := 1) (L' := [.val (.ref o), y1, y2, y3, y4, .val (.int (x5 + (1 : Int32)))]) (d1 105 rfl) rfl rfl rfl ?_
      refine Ev.goto (t := 170) (d1 106 rfl) rfl ?_
      exact ih (x5 + (1 : Int32)) s4 y1 hy1 y2 hy2 y3 hy3 y4 hy4 _ hr
    · replace hr := (if_neg c1).symm.trans hr
      cases hr
      exact Ev.vreturn rfl (d1 107 rfl)
def f_ctor_118 (n : Nat) (x1 : Int32) (x2 : Int32) (x3 : Int32) (x4 : Int32) (s : St) : Option (St) :=
  (f_clamp s x1 (4 : Int32) (32 : Int32)).bind fun q1 =>
  bnd (setI s 15 q1) fun s3 =>
  (f_clamp s3 x2 (1 : Int32) (64 : Int32)).bind fun q4 =>
  bnd (setI s3 16 q4) fun s6 =>
  (f_clamp s6 x3 (1 : Int32) (8 : Int32)).bind fun q7 =>
  bnd (setI s6 17 q7) fun s9 =>
  (f_clamp s9 x4 (1 : Int32) (16 : Int32)).bind fun q10 =>
  bnd (setI s9 18 q10) fun s12 =>
  f_ctor_170 n n (0 : Int32) s12
set_option maxRecDepth 100000 in
theorem e_ctor_118 {g : GT} {n : Nat} (hw : HW g) {K : St → MHeap} {o : Nat} {r : Nat → Nat} (V : View (GG g) Ln K o r) (x1 : Int32) (x2 : Int32) (x3 : Int32) (x4 : Int32) (s : St) (y5 : Slot) (hy5 : one1 y5 = true) (w : St) (hr : f_ctor_118 n x1 x2 x3 x4 s = some w) : Ev (GG g) M_ctor 118 [.val (.ref o), .val (.int x1), .val (.int x2), .val (.int x3), .val (.int x4), y5] [] (K s) (none, (K w)) := by
  unfold f_ctor_118 at hr
  refine Ev.aloadN (d1 62 rfl) rfl ?_
  refine Ev.aloadN (d1 63 rfl) rfl ?_
  refine Ev.iloadN (d1 64 rfl) rfl ?_
  refine Ev.iconst (z := 4) (d1 65 rfl) rfl ?_
  refine Ev.bipush (z := 32) (d1 66 rfl) rfl ?_
  obtain ⟨q1, hq2, hr⟩ := Option.bind_eq_some_iff.mp hr
  refine Ev.priv (y := M_clamp) (args := [.int x1, .int (4 : Int32), .int (32 : Int32)]) (rest := [.ref o]) (gok hw) rfl nm_clamp (ww hw 45 rfl) (ww hw 46 rfl) (ww hw 47 rfl) (ww hw 48 rfl) (lenOf pd_clamp rfl) (d1 67 rfl) (V.2.1 s) (e_clamp hw V hq2) (by decide) (Nat.le_of_ble_eq_true rfl) rfl ?_
  refine Ev.pI V (gok hw) (ww hw 49 rfl) (Or.inl (ww hw 50 rfl)) (d1 68 rfl) (j := 15) rfl ?_
  revert hr
  generalize setI s 15 q1 = s3
  intro hr
  replace hr := (bnd_eq _ _).symm.trans hr
  refine Ev.aloadN (d1 69 rfl) rfl ?_
  refine Ev.aloadN (d1 70 rfl) rfl ?_
  refine Ev.iloadN (d1 71 rfl) rfl ?_
  refine Ev.iconst (z := 1) (d1 72 rfl) rfl ?_
  refine Ev.bipush (z := 64) (d1 73 rfl) rfl ?_
  obtain ⟨q4, hq5, hr⟩ := Option.bind_eq_some_iff.mp hr
  refine Ev.priv (y := M_clamp) (args := [.int x2, .int (1 : Int32), .int (64 : Int32)]) (rest := [.ref o]) (gok hw) rfl nm_clamp (ww hw 45 rfl) (ww hw 46 rfl) (ww hw 47 rfl) (ww hw 48 rfl) (lenOf pd_clamp rfl) (d1 74 rfl) (V.2.1 s3) (e_clamp hw V hq5) (by decide) (Nat.le_of_ble_eq_true rfl) rfl ?_
  refine Ev.pI V (gok hw) (ww hw 51 rfl) (Or.inl (ww hw 52 rfl)) (d1 75 rfl) (j := 16) rfl ?_
  revert hr
  generalize setI s3 16 q4 = s6
  intro hr
  replace hr := (bnd_eq _ _).symm.trans hr
  refine Ev.aloadN (d1 76 rfl) rfl ?_
  refine Ev.aloadN (d1 77 rfl) rfl ?_
  refine Ev.iloadN (d1 78 rfl) rfl ?_
  refine Ev.iconst (z := 1) (d1 79 rfl) rfl ?_
  refine Ev.bipush (z := 8) (d1 80 rfl) rfl ?_
  obtain ⟨q7, hq8, hr⟩ := Option.bind_eq_some_iff.mp hr
  refine Ev.priv (y := M_clamp) (args := [.int x3, .int (1 : Int32), .int (8 : Int32)]) (rest := [.ref o]) (gok hw) rfl nm_clamp (ww hw 45 rfl) (ww hw 46 rfl) (ww hw 47 rfl) (ww hw 48 rfl) (lenOf pd_clamp rfl) (d1 81 rfl) (V.2.1 s6) (e_clamp hw V hq8) (by decide) (Nat.le_of_ble_eq_true rfl) rfl ?_
  refine Ev.pI V (gok hw) (ww hw 53 rfl) (Or.inl (ww hw 54 rfl)) (d1 82 rfl) (j := 17) rfl ?_
  revert hr
  generalize setI s6 17 q7 = s9
  intro hr
  replace hr := (bnd_eq _ _).symm.trans hr
  refine Ev.aloadN (d1 83 rfl) rfl ?_
  refine Ev.aloadN (d1 84 rfl) rfl ?_
  refine Ev.iload (d1 85 rfl) rfl ?_
  refine Ev.iconst (z := 1) (d1 86 rfl) rfl ?_
  refine Ev.bipush (z := 16) (d1 87 rfl) rfl ?_
  obtain ⟨q10, hq11, hr⟩ := Option.bind_eq_some_iff.mp hr
  refine Ev.priv (y := M_clamp) (args := [.int x4, .int (1 : Int32), .int (16 : Int32)]) (rest := [.ref o]) (gok hw) rfl nm_clamp (ww hw 45 rfl) (ww hw 46 rfl) (ww hw 47 rfl) (ww hw 48 rfl) (lenOf pd_clamp rfl) (d1 88 rfl) (V.2.1 s9) (e_clamp hw V hq11) (by decide) (Nat.le_of_ble_eq_true rfl) rfl ?_
  refine Ev.pI V (gok hw) (ww hw 55 rfl) (Or.inl (ww hw 56 rfl)) (d1 89 rfl) (j := 18) rfl ?_
  revert hr
  generalize setI s9 18 q10 = s12
  intro hr
  replace hr := (bnd_eq _ _).symm.trans hr
  refine Ev.iconst (z := 0) (d1 90 rfl) rfl ?_
  refine Ev.istD (L' := [.val (.ref o), .val (.int x1), .val (.int x2), .val (.int x3), .val (.int x4), .val (.int (0 : Int32))]) (d1 91 rfl) rfl hy5 rfl ?_
  exact e_ctor_170 hw V  n (0 : Int32) s12 (.val (.int x1)) rfl (.val (.int x2)) rfl (.val (.int x3)) rfl (.val (.int x4)) rfl _ hr
def f_ctor (n : Nat) (a0 : Int32) (a1 : Int32) (a2 : Int32) (a3 : Int32) : Option (St) :=
  f_ctor_118 n a0 a1 a2 a3 zeroS
set_option maxRecDepth 100000 in
theorem e_ctor {g : GT} {n : Nat} {a0 : Int32} {a1 : Int32} {a2 : Int32} {a3 : Int32} {w : St} (hw : HW g) {pre : MHeap} (hk : k0 (GG g) ≤ pre.length) (hr : f_ctor n a0 a1 a2 a3 = some w) : EvC (GG g) M_ctor [.ref pre.length, .int a0, .int a1, .int a2, .int a3] (pre ++ [.inl dfl]) (none, KH flds al Ln pre [] w) := by
  refine EvC.enter (L0 := [.val (.ref pre.length), .val (.int a0), .val (.int a1), .val (.int a2), .val (.int a3), .unset]) pl_ctor (fun _ => rfl) rfl rfl ?_
  unfold f_ctor at hr
  refine Ev.aloadN (d1 0 rfl) rfl ?_
  refine Ev.initO (ww hw 10 rfl) (ww hw 11 rfl) (ww hw 12 rfl) (d1 1 rfl) (by decide) (Nat.le_of_ble_eq_true rfl) ?_
  show Ev (GG g) M_ctor 4 _ _ (cons pre dfl []) _
  refine Ev.aloadN (d1 2 rfl) rfl ?_
  refine Ev.bipush (z := 32) (d1 3 rfl) rfl ?_
  refine Ev.cnew (aty := .int) (b := false) (k := 32) (q := 0) (as' := [(false, tab 32 (fun _ => 0))]) (ww hw 13 rfl) rfl (d1 4 rfl) (by decide) rfl (by decide) rfl rfl ?_
  refine Ev.cput (v' := .ref (pre.length + 1 + 0)) (fs' := [.ref (pre.length + 1 + 0), .null, .null, .null, .null, .null, .null, .null, .null, .null, .null, .null, .null, .null, .null, .int 0, .int 0, .int 0, .int 0, .int 0, .int 0, .int 0, .int 0]) (gok hw) hk (ww hw 14 rfl) (Or.inl (ww hw 15 rfl)) (d1 5 rfl) (j := 0) rfl rfl rfl ?_
  refine Ev.aloadN (d1 6 rfl) rfl ?_
  refine Ev.bipush (z := 32) (d1 7 rfl) rfl ?_
  refine Ev.cnew (aty := .int) (b := false) (k := 32) (q := 1) (as' := [(false, tab 32 (fun _ => 0)), (false, tab 32 (fun _ => 0))]) (ww hw 13 rfl) rfl (d1 8 rfl) (by decide) rfl (by decide) rfl rfl ?_
  refine Ev.cput (v' := .ref (pre.length + 1 + 1)) (fs' := [.ref (pre.length + 1 + 0), .ref (pre.length + 1 + 1), .null, .null, .null, .null, .null, .null, .null, .null, .null, .null, .null, .null, .null, .int 0, .int 0, .int 0, .int 0, .int 0, .int 0, .int 0, .int 0]) (gok hw) hk (ww hw 16 rfl) (Or.inl (ww hw 17 rfl)) (d1 9 rfl) (j := 1) rfl rfl rfl ?_
  refine Ev.aloadN (d1 10 rfl) rfl ?_
  refine Ev.bipush (z := 32) (d1 11 rfl) rfl ?_
  refine Ev.cnew (aty := .int) (b := false) (k := 32) (q := 2) (as' := [(false, tab 32 (fun _ => 0)), (false, tab 32 (fun _ => 0)), (false, tab 32 (fun _ => 0))]) (ww hw 13 rfl) rfl (d1 12 rfl) (by decide) rfl (by decide) rfl rfl ?_
  refine Ev.cput (v' := .ref (pre.length + 1 + 2)) (fs' := [.ref (pre.length + 1 + 0), .ref (pre.length + 1 + 1), .ref (pre.length + 1 + 2), .null, .null, .null, .null, .null, .null, .null, .null, .null, .null, .null, .null, .int 0, .int 0, .int 0, .int 0, .int 0, .int 0, .int 0, .int 0]) (gok hw) hk (ww hw 18 rfl) (Or.inl (ww hw 19 rfl)) (d1 13 rfl) (j := 2) rfl rfl rfl ?_
  refine Ev.aloadN (d1 14 rfl) rfl ?_
  refine Ev.bipush (z := 32) (d1 15 rfl) rfl ?_
  refine Ev.cnew (aty := .int) (b := false) (k := 32) (q := 3) (as' := [(false, tab 32 (fun _ => 0)), (false, tab 32 (fun _ => 0)), (false, tab 32 (fun _ => 0)), (false, tab 32 (fun _ => 0))]) (ww hw 13 rfl) rfl (d1 16 rfl) (by decide) rfl (by decide) rfl rfl ?_
  refine Ev.cput (v' := .ref (pre.length + 1 + 3)) (fs' := [.ref (pre.length + 1 + 0), .ref (pre.length + 1 + 1), .ref (pre.length + 1 + 2), .ref (pre.length + 1 + 3), .null, .null, .null, .null, .null, .null, .null, .null, .null, .null, .null, .int 0, .int 0, .int 0, .int 0, .int 0, .int 0, .int 0, .int 0]) (gok hw) hk (ww hw 20 rfl) (Or.inl (ww hw 21 rfl)) (d1 17 rfl) (j := 3) rfl rfl rfl ?_
  refine Ev.aloadN (d1 18 rfl) rfl ?_
  refine Ev.bipush (z := 32) (d1 19 rfl) rfl ?_
  refine Ev.cnew (aty := .int) (b := false) (k := 32) (q := 4) (as' := [(false, tab 32 (fun _ => 0)), (false, tab 32 (fun _ => 0)), (false, tab 32 (fun _ => 0)), (false, tab 32 (fun _ => 0)), (false, tab 32 (fun _ => 0))]) (ww hw 13 rfl) rfl (d1 20 rfl) (by decide) rfl (by decide) rfl rfl ?_
  refine Ev.cput (v' := .ref (pre.length + 1 + 4)) (fs' := [.ref (pre.length + 1 + 0), .ref (pre.length + 1 + 1), .ref (pre.length + 1 + 2), .ref (pre.length + 1 + 3), .ref (pre.length + 1 + 4), .null, .null, .null, .null, .null, .null, .null, .null, .null, .null, .int 0, .int 0, .int 0, .int 0, .int 0, .int 0, .int 0, .int 0]) (gok hw) hk (ww hw 22 rfl) (Or.inl (ww hw 23 rfl)) (d1 21 rfl) (j := 4) rfl rfl rfl ?_
  refine Ev.aloadN (d1 22 rfl) rfl ?_
  refine Ev.bipush (z := 32) (d1 23 rfl) rfl ?_
  refine Ev.cnew (aty := .int) (b := false) (k := 32) (q := 5) (as' := [(false, tab 32 (fun _ => 0)), (false, tab 32 (fun _ => 0)), (false, tab 32 (fun _ => 0)), (false, tab 32 (fun _ => 0)), (false, tab 32 (fun _ => 0)), (false, tab 32 (fun _ => 0))]) (ww hw 13 rfl) rfl (d1 24 rfl) (by decide) rfl (by decide) rfl rfl ?_
  refine Ev.cput (v' := .ref (pre.length + 1 + 5)) (fs' := [.ref (pre.length + 1 + 0), .ref (pre.length + 1 + 1), .ref (pre.length + 1 + 2), .ref (pre.length + 1 + 3), .ref (pre.length + 1 + 4), .ref (pre.length + 1 + 5), .null, .null, .null, .null, .null, .null, .null, .null, .null, .int 0, .int 0, .int 0, .int 0, .int 0, .int 0, .int 0, .int 0]) (gok hw) hk (ww hw 24 rfl) (Or.inl (ww hw 25 rfl)) (d1 25 rfl) (j := 5) rfl rfl rfl ?_
  refine Ev.aloadN (d1 26 rfl) rfl ?_
  refine Ev.bipush (z := 32) (d1 27 rfl) rfl ?_
  refine Ev.cnew (aty := .int) (b := false) (k := 32) (q := 6) (as' := [(false, tab 32 (fun _ => 0)), (false, tab 32 (fun _ => 0)), (false, tab 32 (fun _ => 0)), (false, tab 32 (fun _ => 0)), (false, tab 32 (fun _ => 0)), (false, tab 32 (fun _ => 0)), (false, tab 32 (fun _ => 0))]) (ww hw 13 rfl) rfl (d1 28 rfl) (by decide) rfl (by decide) rfl rfl ?_
  refine Ev.cput (v' := .ref (pre.length + 1 + 6)) (fs' := [.ref (pre.length + 1 + 0), .ref (pre.length + 1 + 1), .ref (pre.length + 1 + 2), .ref (pre.length + 1 + 3), .ref (pre.length + 1 + 4), .ref (pre.length + 1 + 5), .ref (pre.length + 1 + 6), .null, .null, .null, .null, .null, .null, .null, .null, .int 0, .int 0, .int 0, .int 0, .int 0, .int 0, .int 0, .int 0]) (gok hw) hk (ww hw 26 rfl) (Or.inl (ww hw 27 rfl)) (d1 29 rfl) (j := 6) rfl rfl rfl ?_
  refine Ev.aloadN (d1 30 rfl) rfl ?_
  refine Ev.bipush (z := 32) (d1 31 rfl) rfl ?_
  refine Ev.cnew (aty := .int) (b := false) (k := 32) (q := 7) (as' := [(false, tab 32 (fun _ => 0)), (false, tab 32 (fun _ => 0)), (false, tab 32 (fun _ => 0)), (false, tab 32 (fun _ => 0)), (false, tab 32 (fun _ => 0)), (false, tab 32 (fun _ => 0)), (false, tab 32 (fun _ => 0)), (false, tab 32 (fun _ => 0))]) (ww hw 13 rfl) rfl (d1 32 rfl) (by decide) rfl (by decide) rfl rfl ?_
  refine Ev.cput (v' := .ref (pre.length + 1 + 7)) (fs' := [.ref (pre.length + 1 + 0), .ref (pre.length + 1 + 1), .ref (pre.length + 1 + 2), .ref (pre.length + 1 + 3), .ref (pre.length + 1 + 4), .ref (pre.length + 1 + 5), .ref (pre.length + 1 + 6), .ref (pre.length + 1 + 7), .null, .null, .null, .null, .null, .null, .null, .int 0, .int 0, .int 0, .int 0, .int 0, .int 0, .int 0, .int 0]) (gok hw) hk (ww hw 28 rfl) (Or.inl (ww hw 29 rfl)) (d1 33 rfl) (j := 7) rfl rfl rfl ?_
  refine Ev.aloadN (d1 34 rfl) rfl ?_
  refine Ev.bipush (z := 32) (d1 35 rfl) rfl ?_
  refine Ev.cnew (aty := .int) (b := false) (k := 32) (q := 8) (as' := [(false, tab 32 (fun _ => 0)), (false, tab 32 (fun _ => 0)), (false, tab 32 (fun _ => 0)), (false, tab 32 (fun _ => 0)), (false, tab 32 (fun _ => 0)), (false, tab 32 (fun _ => 0)), (false, tab 32 (fun _ => 0)), (false, tab 32 (fun _ => 0)), (false, tab 32 (fun _ => 0))]) (ww hw 13 rfl) rfl (d1 36 rfl) (by decide) rfl (by decide) rfl rfl ?_
  refine Ev.cput (v' := .ref (pre.length + 1 + 8)) (fs' := [.ref (pre.length + 1 + 0), .ref (pre.length + 1 + 1), .ref (pre.length + 1 + 2), .ref (pre.length + 1 + 3), .ref (pre.length + 1 + 4), .ref (pre.length + 1 + 5), .ref (pre.length + 1 + 6), .ref (pre.length + 1 + 7), .ref (pre.length + 1 + 8), .null, .null, .null, .null, .null, .null, .int 0, .int 0, .int 0, .int 0, .int 0, .int 0, .int 0, .int 0]) (gok hw) hk (ww hw 30 rfl) (Or.inl (ww hw 31 rfl)) (d1 37 rfl) (j := 8) rfl rfl rfl ?_
  refine Ev.aloadN (d1 38 rfl) rfl ?_
  refine Ev.iconst (z := 4) (d1 39 rfl) rfl ?_
  refine Ev.cnew (aty := .boolean) (b := true) (k := 4) (q := 9) (as' := [(false, tab 32 (fun _ => 0)), (false, tab 32 (fun _ => 0)), (false, tab 32 (fun _ => 0)), (false, tab 32 (fun _ => 0)), (false, tab 32 (fun _ => 0)), (false, tab 32 (fun _ => 0)), (false, tab 32 (fun _ => 0)), (false, tab 32 (fun _ => 0)), (false, tab 32 (fun _ => 0)), (true, tab 4 (fun _ => 0))]) (ww hw 32 rfl) rfl (d1 40 rfl) (by decide) rfl (by decide) rfl rfl ?_
  refine Ev.cput (v' := .ref (pre.length + 1 + 9)) (fs' := [.ref (pre.length + 1 + 0), .ref (pre.length + 1 + 1), .ref (pre.length + 1 + 2), .ref (pre.length + 1 + 3), .ref (pre.length + 1 + 4), .ref (pre.length + 1 + 5), .ref (pre.length + 1 + 6), .ref (pre.length + 1 + 7), .ref (pre.length + 1 + 8), .ref (pre.length + 1 + 9), .null, .null, .null, .null, .null, .int 0, .int 0, .int 0, .int 0, .int 0, .int 0, .int 0, .int 0]) (gok hw) hk (ww hw 33 rfl) (Or.inl (ww hw 34 rfl)) (d1 41 rfl) (j := 9) rfl rfl rfl ?_
  refine Ev.aloadN (d1 42 rfl) rfl ?_
  refine Ev.iconst (z := 4) (d1 43 rfl) rfl ?_
  refine Ev.cnew (aty := .int) (b := false) (k := 4) (q := 10) (as' := [(false, tab 32 (fun _ => 0)), (false, tab 32 (fun _ => 0)), (false, tab 32 (fun _ => 0)), (false, tab 32 (fun _ => 0)), (false, tab 32 (fun _ => 0)), (false, tab 32 (fun _ => 0)), (false, tab 32 (fun _ => 0)), (false, tab 32 (fun _ => 0)), (false, tab 32 (fun _ => 0)), (true, tab 4 (fun _ => 0)), (false, tab 4 (fun _ => 0))]) (ww hw 13 rfl) rfl (d1 44 rfl) (by decide) rfl (by decide) rfl rfl ?_
  refine Ev.cput (v' := .ref (pre.length + 1 + 10)) (fs' := [.ref (pre.length + 1 + 0), .ref (pre.length + 1 + 1), .ref (pre.length + 1 + 2), .ref (pre.length + 1 + 3), .ref (pre.length + 1 + 4), .ref (pre.length + 1 + 5), .ref (pre.length + 1 + 6), .ref (pre.length + 1 + 7), .ref (pre.length + 1 + 8), .ref (pre.length + 1 + 9), .ref (pre.length + 1 + 10), .null, .null, .null, .null, .int 0, .int 0, .int 0, .int 0, .int 0, .int 0, .int 0, .int 0]) (gok hw) hk (ww hw 35 rfl) (Or.inl (ww hw 36 rfl)) (d1 45 rfl) (j := 10) rfl rfl rfl ?_
  refine Ev.aloadN (d1 46 rfl) rfl ?_
  refine Ev.iconst (z := 4) (d1 47 rfl) rfl ?_
  refine Ev.cnew (aty := .int) (b := false) (k := 4) (q := 11) (as' := [(false, tab 32 (fun _ => 0)), (false, tab 32 (fun _ => 0)), (false, tab 32 (fun _ => 0)), (false, tab 32 (fun _ => 0)), (false, tab 32 (fun _ => 0)), (false, tab 32 (fun _ => 0)), (false, tab 32 (fun _ => 0)), (false, tab 32 (fun _ => 0)), (false, tab 32 (fun _ => 0)), (true, tab 4 (fun _ => 0)), (false, tab 4 (fun _ => 0)), (false, tab 4 (fun _ => 0))]) (ww hw 13 rfl) rfl (d1 48 rfl) (by decide) rfl (by decide) rfl rfl ?_
  refine Ev.cput (v' := .ref (pre.length + 1 + 11)) (fs' := [.ref (pre.length + 1 + 0), .ref (pre.length + 1 + 1), .ref (pre.length + 1 + 2), .ref (pre.length + 1 + 3), .ref (pre.length + 1 + 4), .ref (pre.length + 1 + 5), .ref (pre.length + 1 + 6), .ref (pre.length + 1 + 7), .ref (pre.length + 1 + 8), .ref (pre.length + 1 + 9), .ref (pre.length + 1 + 10), .ref (pre.length + 1 + 11), .null, .null, .null, .int 0, .int 0, .int 0, .int 0, .int 0, .int 0, .int 0, .int 0]) (gok hw) hk (ww hw 37 rfl) (Or.inl (ww hw 38 rfl)) (d1 49 rfl) (j := 11) rfl rfl rfl ?_
  refine Ev.aloadN (d1 50 rfl) rfl ?_
  refine Ev.iconst (z := 4) (d1 51 rfl) rfl ?_
  refine Ev.cnew (aty := .int) (b := false) (k := 4) (q := 12) (as' := [(false, tab 32 (fun _ => 0)), (false, tab 32 (fun _ => 0)), (false, tab 32 (fun _ => 0)), (false, tab 32 (fun _ => 0)), (false, tab 32 (fun _ => 0)), (false, tab 32 (fun _ => 0)), (false, tab 32 (fun _ => 0)), (false, tab 32 (fun _ => 0)), (false, tab 32 (fun _ => 0)), (true, tab 4 (fun _ => 0)), (false, tab 4 (fun _ => 0)), (false, tab 4 (fun _ => 0)), (false, tab 4 (fun _ => 0))]) (ww hw 13 rfl) rfl (d1 52 rfl) (by decide) rfl (by decide) rfl rfl ?_
  refine Ev.cput (v' := .ref (pre.length + 1 + 12)) (fs' := [.ref (pre.length + 1 + 0), .ref (pre.length + 1 + 1), .ref (pre.length + 1 + 2), .ref (pre.length + 1 + 3), .ref (pre.length + 1 + 4), .ref (pre.length + 1 + 5), .ref (pre.length + 1 + 6), .ref (pre.length + 1 + 7), .ref (pre.length + 1 + 8), .ref (pre.length + 1 + 9), .ref (pre.length + 1 + 10), .ref (pre.length + 1 + 11), .ref (pre.length + 1 + 12), .null, .null, .int 0, .int 0, .int 0, .int 0, .int 0, .int 0, .int 0, .int 0]) (gok hw) hk (ww hw 39 rfl) (Or.inl (ww hw 40 rfl)) (d1 53 rfl) (j := 12) rfl rfl rfl ?_
  refine Ev.aloadN (d1 54 rfl) rfl ?_
  refine Ev.iconst (z := 4) (d1 55 rfl) rfl ?_
  refine Ev.cnew (aty := .int) (b := false) (k := 4) (q := 13) (as' := [(false, tab 32 (fun _ => 0)), (false, tab 32 (fun _ => 0)), (false, tab 32 (fun _ => 0)), (false, tab 32 (fun _ => 0)), (false, tab 32 (fun _ => 0)), (false, tab 32 (fun _ => 0)), (false, tab 32 (fun _ => 0)), (false, tab 32 (fun _ => 0)), (false, tab 32 (fun _ => 0)), (true, tab 4 (fun _ => 0)), (false, tab 4 (fun _ => 0)), (false, tab 4 (fun _ => 0)), (false, tab 4 (fun _ => 0)), (false, tab 4 (fun _ => 0))]) (ww hw 13 rfl) rfl (d1 56 rfl) (by decide) rfl (by decide) rfl rfl ?_
  refine Ev.cput (v' := .ref (pre.length + 1 + 13)) (fs' := [.ref (pre.length + 1 + 0), .ref (pre.length + 1 + 1), .ref (pre.length + 1 + 2), .ref (pre.length + 1 + 3), .ref (pre.length + 1 + 4), .ref (pre.length + 1 + 5), .ref (pre.length + 1 + 6), .ref (pre.length + 1 + 7), .ref (pre.length + 1 + 8), .ref (pre.length + 1 + 9), .ref (pre.length + 1 + 10), .ref (pre.length + 1 + 11), .ref (pre.length + 1 + 12), .ref (pre.length + 1 + 13), .null, .int 0, .int 0, .int 0, .int 0, .int 0, .int 0, .int 0, .int 0]) (gok hw) hk (ww hw 41 rfl) (Or.inl (ww hw 42 rfl)) (d1 57 rfl) (j := 13) rfl rfl rfl ?_
  refine Ev.aloadN (d1 58 rfl) rfl ?_
  refine Ev.iconst (z := 4) (d1 59 rfl) rfl ?_
  refine Ev.cnew (aty := .int) (b := false) (k := 4) (q := 14) (as' := [(false, tab 32 (fun _ => 0)), (false, tab 32 (fun _ => 0)), (false, tab 32 (fun _ => 0)), (false, tab 32 (fun _ => 0)), (false, tab 32 (fun _ => 0)), (false, tab 32 (fun _ => 0)), (false, tab 32 (fun _ => 0)), (false, tab 32 (fun _ => 0)), (false, tab 32 (fun _ => 0)), (true, tab 4 (fun _ => 0)), (false, tab 4 (fun _ => 0)), (false, tab 4 (fun _ => 0)), (false, tab 4 (fun _ => 0)), (false, tab 4 (fun _ => 0)), (false, tab 4 (fun _ => 0))]) (ww hw 13 rfl) rfl (d1 60 rfl) (by decide) rfl (by decide) rfl rfl ?_
  refine Ev.cput (v' := .ref (pre.length + 1 + 14)) (fs' := [.ref (pre.length + 1 + 0), .ref (pre.length + 1 + 1), .ref (pre.length + 1 + 2), .ref (pre.length + 1 + 3), .ref (pre.length + 1 + 4), .ref (pre.length + 1 + 5), .ref (pre.length + 1 + 6), .ref (pre.length + 1 + 7), .ref (pre.length + 1 + 8), .ref (pre.length + 1 + 9), .ref (pre.length + 1 + 10), .ref (pre.length + 1 + 11), .ref (pre.length + 1 + 12), .ref (pre.length + 1 + 13), .ref (pre.length + 1 + 14), .int 0, .int 0, .int 0, .int 0, .int 0, .int 0, .int 0, .int 0]) (gok hw) hk (ww hw 43 rfl) (Or.inl (ww hw 44 rfl)) (d1 61 rfl) (j := 14) rfl rfl rfl ?_
  show Ev (GG g) M_ctor 118 [.val (.ref pre.length), .val (.int a0), .val (.int a1), .val (.int a2), .val (.int a3), .unset] [] (KH flds al Ln pre [] zeroS) _
  exact e_ctor_118 hw (K := KH flds al Ln pre []) (o := pre.length) (r := rA pre.length al) (view_of hk al_ok al_nd) a0 a1 a2 a3 zeroS .unset rfl _ hr
def f_completeWriteBacks_4 (n : Nat) : Nat → Int32 → Int32 → St → Option (Int32 × St)
  | 0 => fun _ _ _ => none
  | k + 1 => fun x1 x2 s =>
    if x2 < (s.1 15) then
      grd (inb x2 32) <|
      if (s.2 2 (ix x2)) < 0 then
        f_completeWriteBacks_4 n k x1 (x2 + (1 : Int32)) s
      else
        if (3 : Int32) < (s.2 2 (ix x2)) then
          f_completeWriteBacks_4 n k x1 (x2 + (1 : Int32)) s
        else
          if (s.2 8 (ix x2)) = 0 then
            f_completeWriteBacks_4 n k x1 (x2 + (1 : Int32)) s
          else
            if (s.1 19) < (s.2 8 (ix x2)) then
              f_completeWriteBacks_4 n k x1 (x2 + (1 : Int32)) s
            else
              grd (inb (((s.2 2 (ix x2)) * (8 : Int32)) + ((s.2 3 (ix x2)) &&& (7 : Int32))) 32) <|
              bnd (setA s 0 (ix (((s.2 2 (ix x2)) * (8 : Int32)) + ((s.2 3 (ix x2)) &&& (7 : Int32)))) (s.2 4 (ix x2))) fun s8 =>
              bnd (setA s8 5 (ix x2) (0 : Int32)) fun s9 =>
              bnd (setA s9 8 (ix x2) (0 : Int32)) fun s10 =>
              f_completeWriteBacks_4 n k (x1 + (1 : Int32)) (x2 + (1 : Int32)) s10
    else
      some (x1, s)
set_option maxRecDepth 100000 in
theorem e_completeWriteBacks_4 {g : GT} {n : Nat} (hw : HW g) {K : St → MHeap} {o : Nat} {r : Nat → Nat} (V : View (GG g) Ln K o r) (k : Nat) : ∀ (x1 : Int32) (x2 : Int32) (s : St) (y3 : Slot) (hy3 : one1 y3 = true) (w : Int32 × St), f_completeWriteBacks_4 n k x1 x2 s = some w → Ev (GG g) M_completeWriteBacks 4 [.val (.ref o), .val (.int x1), .val (.int x2), y3] [] (K s) ((some (.int w.1)), (K w.2)) := by
  induction k with
  | zero => intro x1 x2 s y3 hy3 w hr; rw [f_completeWriteBacks_4] at hr; cases hr
  | succ k ih =>
    intro x1 x2 s y3 hy3 w hr
    rw [f_completeWriteBacks_4] at hr
    refine Ev.iloadN (d9 4 rfl) rfl ?_
    refine Ev.aloadN (d9 5 rfl) rfl ?_
    refine Ev.gI V (ww hw 49 rfl) (d9 6 rfl) (j := 15) rfl rfl ?_
    refine Ev.icge (t := 101) (d9 7 rfl) rfl (fun c1 => ?_) (fun c1 => ?_)
    · replace hr := (if_pos c1).symm.trans hr
      refine Ev.aloadN (d9 8 rfl) rfl ?_
      refine Ev.gAr V (ww hw 18 rfl) (d9 9 rfl) (j := 2) rfl ?_
      refine Ev.iloadN (d9 10 rfl) rfl ?_
      obtain ⟨b2, hr⟩ := grd_some hr
      refine Ev.ial V (j := 2) rfl rfl (d9 11 rfl) b2 ?_
      refine Ev.istDN (L' := [.val (.ref o), .val (.int x1), .val (.int x2), .val (.int (s.2 2 (ix x2)))]) (d9 12 rfl) rfl hy3 rfl ?_
      refine Ev.iloadN (d9 13 rfl) rfl ?_
      refine Ev.iflt (t := 95) (d9 14 rfl) rfl (fun c3 => ?_) (fun c3 => ?_)
      · replace hr := (if_pos c3).symm.trans hr
        refine Ev.iinc (z := 1) (L' := [.val (.ref o), .val (.int x1), .val (.int (x2 + (1 : Int32))), .val (.int (s.2 2 (ix x2)))]) (d9 59 rfl) rfl rfl rfl ?_
        refine Ev.goto (t := 4) (d9 60 rfl) rfl ?_
        exact ih x1 (x2 + (1 : Int32)) s (.val (.int (s.2 2 (ix x2)))) rfl _ hr
      · replace hr := (if_neg c3).symm.trans hr
        refine Ev.iloadN (d9 15 rfl) rfl ?_
        refine Ev.iconst (z := 3) (d9 16 rfl) rfl ?_
        refine Ev.icle (t := 31) (d9 17 rfl) rfl (fun c4 => ?_) (fun c4 => ?_)
        · replace hr := (if_pos c4).symm.trans hr
          refine Ev.goto (t := 95) (d9 18 rfl) rfl ?_
          refine Ev.iinc (z := 1) (L' := [.val (.ref o), .val (.int x1), .val (.int (x2 + (1 : Int32))), .val (.int (s.2 2 (ix x2)))]) (d9 59 rfl) rfl rfl rfl ?_
          refine Ev.goto (t := 4) (d9 60 rfl) rfl ?_
          exact ih x1 (x2 + (1 : Int32)) s (.val (.int (s.2 2 (ix x2)))) rfl _ hr
        · replace hr := (if_neg c4).symm.trans hr
          refine Ev.aloadN (d9 19 rfl) rfl ?_
          refine Ev.gAr V (ww hw 30 rfl) (d9 20 rfl) (j := 8) rfl ?_
          refine Ev.iloadN (d9 21 rfl) rfl ?_
          refine Ev.ial V (j := 8) rfl rfl (d9 22 rfl) b2 ?_
          refine Ev.ifeq (t := 95) (d9 23 rfl) rfl (fun c5 => ?_) (fun c5 => ?_)
          · replace hr := (if_pos c5).symm.trans hr
            refine Ev.iinc (z := 1) (L' := [.val (.ref o), .val (.int x1), .val (.int (x2 + (1 : Int32))), .val (.int (s.2 2 (ix x2)))]) (d9 59 rfl) rfl rfl rfl ?_
            refine Ev.goto (t := 4) (d9 60 rfl) rfl ?_
            exact ih x1 (x2 + (1 : Int32)) s (.val (.int (s.2 2 (ix x2)))) rfl _ hr
          · replace hr := (if_neg c5).symm.trans hr
            refine Ev.aloadN (d9 24 rfl) rfl ?_
            refine Ev.gAr V (ww hw 30 rfl) (d9 25 rfl) (j := 8) rfl ?_
            refine Ev.iloadN (d9 26 rfl) rfl ?_
            refine Ev.ial V (j := 8) rfl rfl (d9 27 rfl) b2 ?_
            refine Ev.aloadN (d9 28 rfl) rfl ?_
            refine Ev.gI V (ww hw 80 rfl) (d9 29 rfl) (j := 19) rfl rfl ?_
            refine Ev.icgt (t := 95) (d9 30 rfl) rfl (fun c6 => ?_) (fun c6 => ?_)
            · replace hr := (if_pos c6).symm.trans hr
              refine Ev.iinc (z := 1) (L' := [.val (.ref o), .val (.int x1), .val (.int (x2 + (1 : Int32))), .val (.int (s.2 2 (ix x2)))]) (d9 59 rfl) rfl rfl rfl ?_
              refine Ev.goto (t := 4) (d9 60 rfl) rfl ?_
              exact ih x1 (x2 + (1 : Int32)) s (.val (.int (s.2 2 (ix x2)))) rfl _ hr
            · replace hr := (if_neg c6).symm.trans hr
              refine Ev.aloadN (d9 31 rfl) rfl ?_
              refine Ev.gAr V (ww hw 14 rfl) (d9 32 rfl) (j := 0) rfl ?_
              refine Ev.iloadN (d9 33 rfl) rfl ?_
              refine Ev.bipush (z := 8) (d9 34 rfl) rfl ?_
              refine Ev.imul (d9 35 rfl) ?_
              refine Ev.aloadN (d9 36 rfl) rfl ?_
              refine Ev.gAr V (ww hw 20 rfl) (d9 37 rfl) (j := 3) rfl ?_
              refine Ev.iloadN (d9 38 rfl) rfl ?_
              refine Ev.ial V (j := 3) rfl rfl (d9 39 rfl) b2 ?_
              refine Ev.bipush (z := 7) (d9 40 rfl) rfl ?_
              refine Ev.iand (d9 41 rfl) ?_
              refine Ev.iadd (d9 42 rfl) ?_
              refine Ev.aloadN (d9 43 rfl) rfl ?_
              refine Ev.gAr V (ww hw 22 rfl) (d9 44 rfl) (j := 4) rfl ?_
              refine Ev.iloadN (d9 45 rfl) rfl ?_
              refine Ev.ial V (j := 4) rfl rfl (d9 46 rfl) b2 ?_
              obtain ⟨b7, hr⟩ := grd_some hr
              refine Ev.ias V (j := 0) rfl rfl (d9 47 rfl) b7 ?_
              revert hr
              generalize setA s 0 (ix (((s.2 2 (ix x2)) * (8 : Int32)) + ((s.2 3 (ix x2)) &&& (7 : Int32)))) (s.2 4 (ix x2)) = s8
              intro hr
              replace hr := (bnd_eq _ _).symm.trans hr
              refine Ev.aloadN (d9 48 rfl) rfl ?_
              refine Ev.gAr V (ww hw 24 rfl) (d9 49 rfl) (j := 5) rfl ?_
              refine Ev.iloadN (d9 50 rfl) rfl ?_
              refine Ev.iconst (z := 0) (d9 51 rfl) rfl ?_
              refine Ev.ias V (j := 5) rfl rfl (d9 52 rfl) b2 ?_
              revert hr
              generalize setA s8 5 (ix x2) (0 : Int32) = s9
              intro hr
              replace hr := (bnd_eq _ _).symm.trans hr
              refine Ev.aloadN (d9 53 rfl) rfl ?_
              refine Ev.gAr V (ww hw 30 rfl) (d9 54 rfl) (j := 8) rfl ?_
              refine Ev.iloadN (d9 55 rfl) rfl ?_
              refine Ev.iconst (z := 0) (d9 56 rfl) rfl ?_
              refine Ev.ias V (j := 8) rfl rfl (d9 57 rfl) b2 ?_
              revert hr
              generalize setA s9 8 (ix x2) (0 : Int32) = s10
              intro hr
              replace hr := (bnd_eq _ _).symm.trans hr
              refine Ev.iinc (z := 1) (L' := [.val (.ref o), .val (.int (x1 + (1 : Int32))), .val (.int x2), .val (.int (s.2 2 (ix x2)))]) (d9 58 rfl) rfl rfl rfl ?_
              refine Ev.iinc (z := 1) (L' := [.val (.ref o), .val (.int (x1 + (1 : Int32))), .val (.int (x2 + (1 : Int32))), .val (.int (s.2 2 (ix x2)))]) (d9 59 rfl) rfl rfl rfl ?_
              refine Ev.goto (t := 4) (d9 60 rfl) rfl ?_
              exact ih (x1 + (1 : Int32)) (x2 + (1 : Int32)) s10 (.val (.int (s.2 2 (ix x2)))) rfl _ hr
    · replace hr := (if_neg c1).symm.trans hr
      refine Ev.iloadN (d9 61 rfl) rfl ?_
      cases hr
      exact Ev.ireturn rfl (d9 62 rfl)
def f_completeWriteBacks (n : Nat) (s : St) : Option (Int32 × St) :=
  f_completeWriteBacks_4 n n (0 : Int32) (0 : Int32) s
set_option maxRecDepth 100000 in
theorem e_completeWriteBacks {g : GT} {n : Nat} {s : St} {w : Int32 × St} (hw : HW g) {K : St → MHeap} {o : Nat} {r : Nat → Nat} (V : View (GG g) Ln K o r) (hr : f_completeWriteBacks n s = some w) : EvC (GG g) M_completeWriteBacks [.ref o] (K s) ((some (.int w.1)), (K w.2)) := by
  refine EvC.enter (L0 := [.val (.ref o), .unset, .unset, .unset]) pl_completeWriteBacks (fun h => nomatch h) rfl rfl ?_
  unfold f_completeWriteBacks at hr
  refine Ev.iconst (z := 0) (d9 0 rfl) rfl ?_
  refine Ev.istDN (L' := [.val (.ref o), .val (.int (0 : Int32)), .unset, .unset]) (d9 1 rfl) rfl rfl rfl ?_
  refine Ev.iconst (z := 0) (d9 2 rfl) rfl ?_
  refine Ev.istDN (L' := [.val (.ref o), .val (.int (0 : Int32)), .val (.int (0 : Int32)), .unset]) (d9 3 rfl) rfl rfl rfl ?_
  exact e_completeWriteBacks_4 hw V  n (0 : Int32) (0 : Int32) s .unset rfl _ hr
def f_tick (n : Nat) (s : St) : Option (Int32 × St) :=
  bnd (setI s 19 ((s.1 19) + (1 : Int32))) fun s1 =>
  (f_completeWriteBacks n s1).bind fun q2 =>
  some (q2.1, q2.2)
set_option maxRecDepth 100000 in
theorem e_tick {g : GT} {n : Nat} {s : St} {w : Int32 × St} (hw : HW g) {K : St → MHeap} {o : Nat} {r : Nat → Nat} (V : View (GG g) Ln K o r) (hr : f_tick n s = some w) : EvC (GG g) M_tick [.ref o] (K s) ((some (.int w.1)), (K w.2)) := by
  refine EvC.enter (L0 := [.val (.ref o)]) pl_tick (fun h => nomatch h) rfl rfl ?_
  unfold f_tick at hr
  refine Ev.aloadN (d16 0 rfl) rfl ?_
  refine Ev.dup (d16 1 rfl) rfl ?_
  refine Ev.gI V (ww hw 80 rfl) (d16 2 rfl) (j := 19) rfl rfl ?_
  refine Ev.iconst (z := 1) (d16 3 rfl) rfl ?_
  refine Ev.iadd (d16 4 rfl) ?_
  refine Ev.pI V (gok hw) (ww hw 80 rfl) (Or.inl (ww hw 81 rfl)) (d16 5 rfl) (j := 19) rfl ?_
  revert hr
  generalize setI s 19 ((s.1 19) + (1 : Int32)) = s1
  intro hr
  replace hr := (bnd_eq _ _).symm.trans hr
  refine Ev.aloadN (d16 6 rfl) rfl ?_
  obtain ⟨q2, hq3, hr⟩ := Option.bind_eq_some_iff.mp hr
  refine Ev.priv (y := M_completeWriteBacks) (args := []) (rest := []) (gok hw) rfl nm_completeWriteBacks (ww hw 82 rfl) (ww hw 83 rfl) (ww hw 84 rfl) (ww hw 85 rfl) (lenOf pd_completeWriteBacks rfl) (d16 7 rfl) (V.2.1 s1) (e_completeWriteBacks hw V hq3) (by decide) (Nat.le_of_ble_eq_true rfl) rfl ?_
  cases hr
  exact Ev.ireturn rfl (d16 8 rfl)
def f_freeFrame (a0 : Int32) (s : St) : Option (St) :=
  grd (inb a0 32) <|
  bnd (setA s 2 (ix a0) (-1 : Int32)) fun s2 =>
  bnd (setA s2 3 (ix a0) (0 : Int32)) fun s3 =>
  bnd (setA s3 4 (ix a0) (0 : Int32)) fun s4 =>
  bnd (setA s4 5 (ix a0) (0 : Int32)) fun s5 =>
  bnd (setA s5 6 (ix a0) (0 : Int32)) fun s6 =>
  bnd (setA s6 7 (ix a0) (0 : Int32)) fun s7 =>
  bnd (setA s7 8 (ix a0) (0 : Int32)) fun s8 =>
  some s8
set_option maxRecDepth 100000 in
theorem e_freeFrame {g : GT} {a0 : Int32} {s : St} {w : St} (hw : HW g) {K : St → MHeap} {o : Nat} {r : Nat → Nat} (V : View (GG g) Ln K o r) (hr : f_freeFrame a0 s = some w) : EvC (GG g) M_freeFrame [.ref o, .int a0] (K s) (none, (K w)) := by
  refine EvC.enter (L0 := [.val (.ref o), .val (.int a0)]) pl_freeFrame (fun _ => rfl) rfl rfl ?_
  unfold f_freeFrame at hr
  refine Ev.aloadN (d21 0 rfl) rfl ?_
  refine Ev.gAr V (ww hw 18 rfl) (d21 1 rfl) (j := 2) rfl ?_
  refine Ev.iloadN (d21 2 rfl) rfl ?_
  refine Ev.iconst (z := -1) (d21 3 rfl) rfl ?_
  obtain ⟨b1, hr⟩ := grd_some hr
  refine Ev.ias V (j := 2) rfl rfl (d21 4 rfl) b1 ?_
  revert hr
  generalize setA s 2 (ix a0) (-1 : Int32) = s2
  intro hr
  replace hr := (bnd_eq _ _).symm.trans hr
  refine Ev.aloadN (d21 5 rfl) rfl ?_
  refine Ev.gAr V (ww hw 20 rfl) (d21 6 rfl) (j := 3) rfl ?_
  refine Ev.iloadN (d21 7 rfl) rfl ?_
  refine Ev.iconst (z := 0) (d21 8 rfl) rfl ?_
  refine Ev.ias V (j := 3) rfl rfl (d21 9 rfl) b1 ?_
  revert hr
  generalize setA s2 3 (ix a0) (0 : Int32) = s3
  intro hr
  replace hr := (bnd_eq _ _).symm.trans hr
  refine Ev.aloadN (d21 10 rfl) rfl ?_
  refine Ev.gAr V (ww hw 22 rfl) (d21 11 rfl) (j := 4) rfl ?_
  refine Ev.iloadN (d21 12 rfl) rfl ?_
  refine Ev.iconst (z := 0) (d21 13 rfl) rfl ?_
  refine Ev.ias V (j := 4) rfl rfl (d21 14 rfl) b1 ?_
  revert hr
  generalize setA s3 4 (ix a0) (0 : Int32) = s4
  intro hr
  replace hr := (bnd_eq _ _).symm.trans hr
  refine Ev.aloadN (d21 15 rfl) rfl ?_
  refine Ev.gAr V (ww hw 24 rfl) (d21 16 rfl) (j := 5) rfl ?_
  refine Ev.iloadN (d21 17 rfl) rfl ?_
  refine Ev.iconst (z := 0) (d21 18 rfl) rfl ?_
  refine Ev.ias V (j := 5) rfl rfl (d21 19 rfl) b1 ?_
  revert hr
  generalize setA s4 5 (ix a0) (0 : Int32) = s5
  intro hr
  replace hr := (bnd_eq _ _).symm.trans hr
  refine Ev.aloadN (d21 20 rfl) rfl ?_
  refine Ev.gAr V (ww hw 26 rfl) (d21 21 rfl) (j := 6) rfl ?_
  refine Ev.iloadN (d21 22 rfl) rfl ?_
  refine Ev.iconst (z := 0) (d21 23 rfl) rfl ?_
  refine Ev.ias V (j := 6) rfl rfl (d21 24 rfl) b1 ?_
  revert hr
  generalize setA s5 6 (ix a0) (0 : Int32) = s6
  intro hr
  replace hr := (bnd_eq _ _).symm.trans hr
  refine Ev.aloadN (d21 25 rfl) rfl ?_
  refine Ev.gAr V (ww hw 28 rfl) (d21 26 rfl) (j := 7) rfl ?_
  refine Ev.iloadN (d21 27 rfl) rfl ?_
  refine Ev.iconst (z := 0) (d21 28 rfl) rfl ?_
  refine Ev.ias V (j := 7) rfl rfl (d21 29 rfl) b1 ?_
  revert hr
  generalize setA s6 7 (ix a0) (0 : Int32) = s7
  intro hr
  replace hr := (bnd_eq _ _).symm.trans hr
  refine Ev.aloadN (d21 30 rfl) rfl ?_
  refine Ev.gAr V (ww hw 30 rfl) (d21 31 rfl) (j := 8) rfl ?_
  refine Ev.iloadN (d21 32 rfl) rfl ?_
  refine Ev.iconst (z := 0) (d21 33 rfl) rfl ?_
  refine Ev.ias V (j := 8) rfl rfl (d21 34 rfl) b1 ?_
  revert hr
  generalize setA s7 8 (ix a0) (0 : Int32) = s8
  intro hr
  replace hr := (bnd_eq _ _).symm.trans hr
  cases hr
  exact Ev.vreturn rfl (d21 35 rfl)
def f_doSwapOut_9 (n : Nat) : Nat → Int32 → Int32 → St → Option (St)
  | 0 => fun _ _ _ => none
  | k + 1 => fun x1 x2 s =>
    if x2 < (s.1 15) then
      grd (inb x2 32) <|
      if (s.2 2 (ix x2)) = x1 then
        grd (inb ((x1 * (8 : Int32)) + ((s.2 3 (ix x2)) &&& (7 : Int32))) 32) <|
        bnd (setA s 0 (ix ((x1 * (8 : Int32)) + ((s.2 3 (ix x2)) &&& (7 : Int32)))) (s.2 4 (ix x2))) fun s5 =>
        grd (inb x1 4) <|
        bnd (setA s5 12 (ix x1) ((s5.2 12 (ix x1)) ||| ((1 : Int32) <<< (((s.2 3 (ix x2)) &&& (7 : Int32)) &&& 31)))) fun s7 =>
        bnd (setA s7 1 (ix ((x1 * (8 : Int32)) + ((s.2 3 (ix x2)) &&& (7 : Int32)))) (-1 : Int32)) fun s8 =>
        (f_freeFrame x2 s8).bind fun q9 =>
        f_doSwapOut_9 n k x1 (x2 + (1 : Int32)) q9
      else
        f_doSwapOut_9 n k x1 (x2 + (1 : Int32)) s
    else
      grd (inb x1 4) <|
      bnd (setA s 9 (ix x1) ((1 : Int32) &&& 1)) fun s12 =>
      some s12
set_option maxRecDepth 100000 in
theorem e_doSwapOut_9 {g : GT} {n : Nat} (hw : HW g) {K : St → MHeap} {o : Nat} {r : Nat → Nat} (V : View (GG g) Ln K o r) (k : Nat) : ∀ (x1 : Int32) (x2 : Int32) (s : St) (y3 : Slot) (hy3 : one1 y3 = true) (w : St), f_doSwapOut_9 n k x1 x2 s = some w → Ev (GG g) M_doSwapOut 9 [.val (.ref o), .val (.int x1), .val (.int x2), y3] [] (K s) (none, (K w)) := by
  induction k with
  | zero => intro x1 x2 s y3 hy3 w hr; rw [f_doSwapOut_9] at hr; cases hr
  | succ k ih =>
    intro x1 x2 s y3 hy3 w hr
    rw [f_doSwapOut_9] at hr
    refine Ev.iloadN (d20 7 rfl) rfl ?_
    refine Ev.aloadN (d20 8 rfl) rfl ?_
    refine Ev.gI V (ww hw 49 rfl) (d20 9 rfl) (j := 15) rfl rfl ?_
    refine Ev.icge (t := 96) (d20 10 rfl) rfl (fun c1 => ?_) (fun c1 => ?_)
    · replace hr := (if_pos c1).symm.trans hr
      refine Ev.aloadN (d20 11 rfl) rfl ?_
      refine Ev.gAr V (ww hw 18 rfl) (d20 12 rfl) (j := 2) rfl ?_
      refine Ev.iloadN (d20 13 rfl) rfl ?_
      obtain ⟨b2, hr⟩ := grd_some hr
      refine Ev.ial V (j := 2) rfl rfl (d20 14 rfl) b2 ?_
      refine Ev.iloadN (d20 15 rfl) rfl ?_
      refine Ev.iceq (t := 30) (d20 16 rfl) rfl (fun c3 => ?_) (fun c3 => ?_)
      · replace hr := (if_pos c3).symm.trans hr
        refine Ev.aloadN (d20 18 rfl) rfl ?_
        refine Ev.gAr V (ww hw 20 rfl) (d20 19 rfl) (j := 3) rfl ?_
        refine Ev.iloadN (d20 20 rfl) rfl ?_
        refine Ev.ial V (j := 3) rfl rfl (d20 21 rfl) b2 ?_
        refine Ev.bipush (z := 7) (d20 22 rfl) rfl ?_
        refine Ev.iand (d20 23 rfl) ?_
        refine Ev.istDN (L' := [.val (.ref o), .val (.int x1), .val (.int x2), .val (.int ((s.2 3 (ix x2)) &&& (7 : Int32)))]) (d20 24 rfl) rfl hy3 rfl ?_
        refine Ev.aloadN (d20 25 rfl) rfl ?_
        refine Ev.gAr V (ww hw 14 rfl) (d20 26 rfl) (j := 0) rfl ?_
        refine Ev.iloadN (d20 27 rfl) rfl ?_
        refine Ev.bipush (z := 8) (d20 28 rfl) rfl ?_
        refine Ev.imul (d20 29 rfl) ?_
        refine Ev.iloadN (d20 30 rfl) rfl ?_
        refine Ev.iadd (d20 31 rfl) ?_
        refine Ev.aloadN (d20 32 rfl) rfl ?_
        refine Ev.gAr V (ww hw 22 rfl) (d20 33 rfl) (j := 4) rfl ?_
        refine Ev.iloadN (d20 34 rfl) rfl ?_
        refine Ev.ial V (j := 4) rfl rfl (d20 35 rfl) b2 ?_
        obtain ⟨b4, hr⟩ := grd_some hr
        refine Ev.ias V (j := 0) rfl rfl (d20 36 rfl) b4 ?_
        revert hr
        generalize setA s 0 (ix ((x1 * (8 : Int32)) + ((s.2 3 (ix x2)) &&& (7 : Int32)))) (s.2 4 (ix x2)) = s5
        intro hr
        replace hr := (bnd_eq _ _).symm.trans hr
        refine Ev.aloadN (d20 37 rfl) rfl ?_
        refine Ev.gAr V (ww hw 39 rfl) (d20 38 rfl) (j := 12) rfl ?_
        refine Ev.iloadN (d20 39 rfl) rfl ?_
        refine Ev.aloadN (d20 40 rfl) rfl ?_
        refine Ev.gAr V (ww hw 39 rfl) (d20 41 rfl) (j := 12) rfl ?_
        refine Ev.iloadN (d20 42 rfl) rfl ?_
        obtain ⟨b6, hr⟩ := grd_some hr
        refine Ev.ial V (j := 12) rfl rfl (d20 43 rfl) b6 ?_
        refine Ev.iconst (z := 1) (d20 44 rfl) rfl ?_
        refine Ev.iloadN (d20 45 rfl) rfl ?_
        refine Ev.ishl (d20 46 rfl) ?_
        refine Ev.ior (d20 47 rfl) ?_
        refine Ev.ias V (j := 12) rfl rfl (d20 48 rfl) b6 ?_
        revert hr
        generalize setA s5 12 (ix x1) ((s5.2 12 (ix x1)) ||| ((1 : Int32) <<< (((s.2 3 (ix x2)) &&& (7 : Int32)) &&& 31))) = s7
        intro hr
        replace hr := (bnd_eq _ _).symm.trans hr
        refine Ev.aloadN (d20 49 rfl) rfl ?_
        refine Ev.gAr V (ww hw 16 rfl) (d20 50 rfl) (j := 1) rfl ?_
        refine Ev.iloadN (d20 51 rfl) rfl ?_
        refine Ev.bipush (z := 8) (d20 52 rfl) rfl ?_
        refine Ev.imul (d20 53 rfl) ?_
        refine Ev.iloadN (d20 54 rfl) rfl ?_
        refine Ev.iadd (d20 55 rfl) ?_
        refine Ev.iconst (z := -1) (d20 56 rfl) rfl ?_
        refine Ev.ias V (j := 1) rfl rfl (d20 57 rfl) b4 ?_
        revert hr
        generalize setA s7 1 (ix ((x1 * (8 : Int32)) + ((s.2 3 (ix x2)) &&& (7 : Int32)))) (-1 : Int32) = s8
        intro hr
        replace hr := (bnd_eq _ _).symm.trans hr
        refine Ev.aloadN (d20 58 rfl) rfl ?_
        refine Ev.iloadN (d20 59 rfl) rfl ?_
        obtain ⟨q9, hq10, hr⟩ := Option.bind_eq_some_iff.mp hr
        refine Ev.priv (y := M_freeFrame) (args := [.int x2]) (rest := []) (gok hw) rfl nm_freeFrame (ww hw 140 rfl) (ww hw 141 rfl) (ww hw 142 rfl) (ww hw 143 rfl) (lenOf pd_freeFrame rfl) (d20 60 rfl) (V.2.1 s8) (e_freeFrame hw V hq10) (by decide) (Nat.le_of_ble_eq_true rfl) rfl ?_
        refine Ev.iinc (z := 1) (L' := [.val (.ref o), .val (.int x1), .val (.int (x2 + (1 : Int32))), .val (.int ((s.2 3 (ix x2)) &&& (7 : Int32)))]) (d20 61 rfl) rfl rfl rfl ?_
        refine Ev.goto (t := 9) (d20 62 rfl) rfl ?_
        exact ih x1 (x2 + (1 : Int32)) q9 (.val (.int ((s.2 3 (ix x2)) &&& (7 : Int32)))) rfl _ hr
      · replace hr := (if_neg c3).symm.trans hr
        refine Ev.goto (t := 90) (d20 17 rfl) rfl ?_
        refine Ev.iinc (z := 1) (L' := [.val (.ref o), .val (.int x1), .val (.int (x2 + (1 : Int32))), y3]) (d20 61 rfl) rfl rfl rfl ?_
        refine Ev.goto (t := 9) (d20 62 rfl) rfl ?_
        exact ih x1 (x2 + (1 : Int32)) s y3 hy3 _ hr
    · replace hr := (if_neg c1).symm.trans hr
      refine Ev.aloadN (d20 63 rfl) rfl ?_
      refine Ev.gAr V (ww hw 33 rfl) (d20 64 rfl) (j := 9) rfl ?_
      refine Ev.iloadN (d20 65 rfl) rfl ?_
      refine Ev.iconst (z := 1) (d20 66 rfl) rfl ?_
      obtain ⟨b11, hr⟩ := grd_some hr
      refine Ev.bas V (j := 9) rfl rfl (d20 67 rfl) b11 ?_
      revert hr
      generalize setA s 9 (ix x1) ((1 : Int32) &&& 1) = s12
      intro hr
      replace hr := (bnd_eq _ _).symm.trans hr
      cases hr
      exact Ev.vreturn rfl (d20 68 rfl)
def f_doSwapOut (n : Nat) (a0 : Int32) (s : St) : Option (St) :=
  grd (inb a0 4) <|
  bnd (setA s 12 (ix a0) (0 : Int32)) fun s2 =>
  f_doSwapOut_9 n n a0 (0 : Int32) s2
set_option maxRecDepth 100000 in
theorem e_doSwapOut {g : GT} {n : Nat} {a0 : Int32} {s : St} {w : St} (hw : HW g) {K : St → MHeap} {o : Nat} {r : Nat → Nat} (V : View (GG g) Ln K o r) (hr : f_doSwapOut n a0 s = some w) : EvC (GG g) M_doSwapOut [.ref o, .int a0] (K s) (none, (K w)) := by
  refine EvC.enter (L0 := [.val (.ref o), .val (.int a0), .unset, .unset]) pl_doSwapOut (fun _ => rfl) rfl rfl ?_
  unfold f_doSwapOut at hr
  refine Ev.aloadN (d20 0 rfl) rfl ?_
  refine Ev.gAr V (ww hw 39 rfl) (d20 1 rfl) (j := 12) rfl ?_
  refine Ev.iloadN (d20 2 rfl) rfl ?_
  refine Ev.iconst (z := 0) (d20 3 rfl) rfl ?_
  obtain ⟨b1, hr⟩ := grd_some hr
  refine Ev.ias V (j := 12) rfl rfl (d20 4 rfl) b1 ?_
  revert hr
  generalize setA s 12 (ix a0) (0 : Int32) = s2
  intro hr
  replace hr := (bnd_eq _ _).symm.trans hr
  refine Ev.iconst (z := 0) (d20 5 rfl) rfl ?_
  refine Ev.istDN (L' := [.val (.ref o), .val (.int a0), .val (.int (0 : Int32)), .unset]) (d20 6 rfl) rfl rfl rfl ?_
  exact e_doSwapOut_9 hw V  n a0 (0 : Int32) s2 .unset rfl _ hr
def f_bitCount_4 (n : Nat) (s : St) : Nat → Int32 → Int32 → Int32 → Option (Int32)
  | 0 => fun _ _ _ => none
  | k + 1 => fun x1 x2 x3 =>
    if x3 < (8 : Int32) then
      if (x1 &&& ((1 : Int32) <<< (x3 &&& 31))) = 0 then
        f_bitCount_4 n s k x1 x2 (x3 + (1 : Int32))
      else
        f_bitCount_4 n s k x1 (x2 + (1 : Int32)) (x3 + (1 : Int32))
    else
      some x2
set_option maxRecDepth 100000 in
theorem e_bitCount_4 {g : GT} {n : Nat} {s : St} (hw : HW g) {K : St → MHeap} {o : Nat} {r : Nat → Nat} (V : View (GG g) Ln K o r) (k : Nat) : ∀ (x1 : Int32) (x2 : Int32) (x3 : Int32) (y0 : Slot) (hy0 : one1 y0 = true) (w : Int32), f_bitCount_4 n s k x1 x2 x3 = some w → Ev (GG g) M_bitCount 4 [y0, .val (.int x1), .val (.int x2), .val (.int x3)] [] (K s) ((some (.int w)), (K s)) := by
  induction k with
  | zero => intro x1 x2 x3 y0 hy0 w hr; rw [f_bitCount_4] at hr; cases hr
  | succ k ih =>
    intro x1 x2 x3 y0 hy0 w hr
    rw [f_bitCount_4] at hr
    refine Ev.iloadN (d23 4 rfl) rfl ?_
    refine Ev.bipush (z := 8) (d23 5 rfl) rfl ?_
    refine Ev.icge (t := 27) (d23 6 rfl) rfl (fun c1 => ?_) (fun c1 => ?_)
    · replace hr := (if_pos c1).symm.trans hr
      refine Ev.iloadN (d23 7 rfl) rfl ?_
      refine Ev.iconst (z := 1) (d23 8 rfl) rfl ?_
      refine Ev.iloadN (d23 9 rfl) rfl ?_
      refine Ev.ishl (d23 10 rfl) ?_
      refine Ev.iand (d23 11 rfl) ?_
      refine Ev.ifeq (t := 21) (d23 12 rfl) rfl (fun c2 => ?_) (fun c2 => ?_)
      · replace hr := (if_pos c2).symm.trans hr
        refine Ev.iinc (z := 1) (L' := [y0, .val (.int x1), .val (.int x2), .val (.int (x3 + (1 : Int32)))]) (d23 14 rfl) rfl rfl rfl ?_
        refine Ev.goto (t := 4) (d23 15 rfl) rfl ?_
        exact ih x1 x2 (x3 + (1 : Int32)) y0 hy0 _ hr
      · replace hr := (if_neg c2).symm.trans hr
        refine Ev.iinc (z := 1) (L' := [y0, .val (.int x1), .val (.int (x2 + (1 : Int32))), .val (.int x3)]) (d23 13 rfl) rfl rfl rfl ?_
        refine Ev.iinc (z := 1) (L' := [y0, .val (.int x1), .val (.int (x2 + (1 : Int32))), .val (.int (x3 + (1 : Int32)))]) (d23 14 rfl) rfl rfl rfl ?_
        refine Ev.goto (t := 4) (d23 15 rfl) rfl ?_
        exact ih x1 (x2 + (1 : Int32)) (x3 + (1 : Int32)) y0 hy0 _ hr
    · replace hr := (if_neg c1).symm.trans hr
      refine Ev.iloadN (d23 16 rfl) rfl ?_
      cases hr
      exact Ev.ireturn rfl (d23 17 rfl)
def f_bitCount (n : Nat) (s : St) (a0 : Int32) : Option (Int32) :=
  f_bitCount_4 n s n a0 (0 : Int32) (0 : Int32)
set_option maxRecDepth 100000 in
theorem e_bitCount {g : GT} {n : Nat} {s : St} {a0 : Int32} {w : Int32} (hw : HW g) {K : St → MHeap} {o : Nat} {r : Nat → Nat} (V : View (GG g) Ln K o r) (hr : f_bitCount n s a0 = some w) : EvC (GG g) M_bitCount [.ref o, .int a0] (K s) ((some (.int w)), (K s)) := by
  refine EvC.enter (L0 := [.val (.ref o), .val (.int a0), .unset, .unset]) pl_bitCount (fun h => nomatch h) rfl rfl ?_
  unfold f_bitCount at hr
  refine Ev.iconst (z := 0) (d23 0 rfl) rfl ?_
  refine Ev.istDN (L' := [.val (.ref o), .val (.int a0), .val (.int (0 : Int32)), .unset]) (d23 1 rfl) rfl rfl rfl ?_
  refine Ev.iconst (z := 0) (d23 2 rfl) rfl ?_
  refine Ev.istDN (L' := [.val (.ref o), .val (.int a0), .val (.int (0 : Int32)), .val (.int (0 : Int32))]) (d23 3 rfl) rfl rfl rfl ?_
  exact e_bitCount_4 hw V  n a0 (0 : Int32) (0 : Int32) (.val (.ref o)) rfl _ hr
def f_countFree_4 (n : Nat) (s : St) : Nat → Int32 → Int32 → Option (Int32)
  | 0 => fun _ _ => none
  | k + 1 => fun x1 x2 =>
    if x2 < (s.1 15) then
      grd (inb x2 32) <|
      if (s.2 2 (ix x2)) < 0 then
        f_countFree_4 n s k (x1 + (1 : Int32)) (x2 + (1 : Int32))
      else
        f_countFree_4 n s k x1 (x2 + (1 : Int32))
    else
      some x1
set_option maxRecDepth 100000 in
theorem e_countFree_4 {g : GT} {n : Nat} {s : St} (hw : HW g) {K : St → MHeap} {o : Nat} {r : Nat → Nat} (V : View (GG g) Ln K o r) (k : Nat) : ∀ (x1 : Int32) (x2 : Int32) (w : Int32), f_countFree_4 n s k x1 x2 = some w → Ev (GG g) M_countFree 4 [.val (.ref o), .val (.int x1), .val (.int x2)] [] (K s) ((some (.int w)), (K s)) := by
  induction k with
  | zero => intro x1 x2 w hr; rw [f_countFree_4] at hr; cases hr
  | succ k ih =>
    intro x1 x2 w hr
    rw [f_countFree_4] at hr
    refine Ev.iloadN (d24 4 rfl) rfl ?_
    refine Ev.aloadN (d24 5 rfl) rfl ?_
    refine Ev.gI V (ww hw 49 rfl) (d24 6 rfl) (j := 15) rfl rfl ?_
    refine Ev.icge (t := 30) (d24 7 rfl) rfl (fun c1 => ?_) (fun c1 => ?_)
    · replace hr := (if_pos c1).symm.trans hr
      refine Ev.aloadN (d24 8 rfl) rfl ?_
      refine Ev.gAr V (ww hw 18 rfl) (d24 9 rfl) (j := 2) rfl ?_
      refine Ev.iloadN (d24 10 rfl) rfl ?_
      obtain ⟨b2, hr⟩ := grd_some hr
      refine Ev.ial V (j := 2) rfl rfl (d24 11 rfl) b2 ?_
      refine Ev.ifge (t := 24) (d24 12 rfl) rfl (fun c3 => ?_) (fun c3 => ?_)
      · replace hr := (if_pos c3).symm.trans hr
        refine Ev.iinc (z := 1) (L' := [.val (.ref o), .val (.int (x1 + (1 : Int32))), .val (.int x2)]) (d24 13 rfl) rfl rfl rfl ?_
        refine Ev.iinc (z := 1) (L' := [.val (.ref o), .val (.int (x1 + (1 : Int32))), .val (.int (x2 + (1 : Int32)))]) (d24 14 rfl) rfl rfl rfl ?_
        refine Ev.goto (t := 4) (d24 15 rfl) rfl ?_
        exact ih (x1 + (1 : Int32)) (x2 + (1 : Int32))  _ hr
      · replace hr := (if_neg c3).symm.trans hr
        refine Ev.iinc (z := 1) (L' := [.val (.ref o), .val (.int x1), .val (.int (x2 + (1 : Int32)))]) (d24 14 rfl) rfl rfl rfl ?_
        refine Ev.goto (t := 4) (d24 15 rfl) rfl ?_
        exact ih x1 (x2 + (1 : Int32))  _ hr
    · replace hr := (if_neg c1).symm.trans hr
      refine Ev.iloadN (d24 16 rfl) rfl ?_
      cases hr
      exact Ev.ireturn rfl (d24 17 rfl)
def f_countFree (n : Nat) (s : St) : Option (Int32) :=
  f_countFree_4 n s n (0 : Int32) (0 : Int32)
set_option maxRecDepth 100000 in
theorem e_countFree {g : GT} {n : Nat} {s : St} {w : Int32} (hw : HW g) {K : St → MHeap} {o : Nat} {r : Nat → Nat} (V : View (GG g) Ln K o r) (hr : f_countFree n s = some w) : EvC (GG g) M_countFree [.ref o] (K s) ((some (.int w)), (K s)) := by
  refine EvC.enter (L0 := [.val (.ref o), .unset, .unset]) pl_countFree (fun h => nomatch h) rfl rfl ?_
  unfold f_countFree at hr
  refine Ev.iconst (z := 0) (d24 0 rfl) rfl ?_
  refine Ev.istDN (L' := [.val (.ref o), .val (.int (0 : Int32)), .unset]) (d24 1 rfl) rfl rfl rfl ?_
  refine Ev.iconst (z := 0) (d24 2 rfl) rfl ?_
  refine Ev.istDN (L' := [.val (.ref o), .val (.int (0 : Int32)), .val (.int (0 : Int32))]) (d24 3 rfl) rfl rfl rfl ?_
  exact e_countFree_4 hw V  n (0 : Int32) (0 : Int32)  _ hr
def f_lowestFree_2 (n : Nat) (s : St) : Nat → Int32 → Option (Int32)
  | 0 => fun _ => none
  | k + 1 => fun x1 =>
    if x1 < (s.1 15) then
      grd (inb x1 32) <|
      if (s.2 2 (ix x1)) < 0 then
        some x1
      else
        f_lowestFree_2 n s k (x1 + (1 : Int32))
    else
      some (-1 : Int32)
set_option maxRecDepth 100000 in
theorem e_lowestFree_2 {g : GT} {n : Nat} {s : St} (hw : HW g) {K : St → MHeap} {o : Nat} {r : Nat → Nat} (V : View (GG g) Ln K o r) (k : Nat) : ∀ (x1 : Int32) (w : Int32), f_lowestFree_2 n s k x1 = some w → Ev (GG g) M_lowestFree 2 [.val (.ref o), .val (.int x1)] [] (K s) ((some (.int w)), (K s)) := by
  induction k with
  | zero => intro x1 w hr; rw [f_lowestFree_2] at hr; cases hr
  | succ k ih =>
    intro x1 w hr
    rw [f_lowestFree_2] at hr
    refine Ev.iloadN (d26 2 rfl) rfl ?_
    refine Ev.aloadN (d26 3 rfl) rfl ?_
    refine Ev.gI V (ww hw 49 rfl) (d26 4 rfl) (j := 15) rfl rfl ?_
    refine Ev.icge (t := 27) (d26 5 rfl) rfl (fun c1 => ?_) (fun c1 => ?_)
    · replace hr := (if_pos c1).symm.trans hr
      refine Ev.aloadN (d26 6 rfl) rfl ?_
      refine Ev.gAr V (ww hw 18 rfl) (d26 7 rfl) (j := 2) rfl ?_
      refine Ev.iloadN (d26 8 rfl) rfl ?_
      obtain ⟨b2, hr⟩ := grd_some hr
      refine Ev.ial V (j := 2) rfl rfl (d26 9 rfl) b2 ?_
      refine Ev.ifge (t := 21) (d26 10 rfl) rfl (fun c3 => ?_) (fun c3 => ?_)
      · replace hr := (if_pos c3).symm.trans hr
        refine Ev.iloadN (d26 11 rfl) rfl ?_
        cases hr
        exact Ev.ireturn rfl (d26 12 rfl)
      · replace hr := (if_neg c3).symm.trans hr
        refine Ev.iinc (z := 1) (L' := [.val (.ref o), .val (.int (x1 + (1 : Int32)))]) (d26 13 rfl) rfl rfl rfl ?_
        refine Ev.goto (t := 2) (d26 14 rfl) rfl ?_
        exact ih (x1 + (1 : Int32))  _ hr
    · replace hr := (if_neg c1).symm.trans hr
      refine Ev.iconst (z := -1) (d26 15 rfl) rfl ?_
      cases hr
      exact Ev.ireturn rfl (d26 16 rfl)
def f_lowestFree (n : Nat) (s : St) : Option (Int32) :=
  f_lowestFree_2 n s n (0 : Int32)
set_option maxRecDepth 100000 in
theorem e_lowestFree {g : GT} {n : Nat} {s : St} {w : Int32} (hw : HW g) {K : St → MHeap} {o : Nat} {r : Nat → Nat} (V : View (GG g) Ln K o r) (hr : f_lowestFree n s = some w) : EvC (GG g) M_lowestFree [.ref o] (K s) ((some (.int w)), (K s)) := by
  refine EvC.enter (L0 := [.val (.ref o), .unset]) pl_lowestFree (fun h => nomatch h) rfl rfl ?_
  unfold f_lowestFree at hr
  refine Ev.iconst (z := 0) (d26 0 rfl) rfl ?_
  refine Ev.istDN (L' := [.val (.ref o), .val (.int (0 : Int32))]) (d26 1 rfl) rfl rfl rfl ?_
  exact e_lowestFree_2 hw V  n (0 : Int32)  _ hr
def f_doSwapIn_2 (n : Nat) : Nat → Int32 → Int32 → St → Option (St)
  | 0 => fun _ _ _ => none
  | k + 1 => fun x1 x2 s =>
    if x2 < (8 : Int32) then
      grd (inb x1 4) <|
      if ((s.2 12 (ix x1)) &&& ((1 : Int32) <<< (x2 &&& 31))) = 0 then
        f_doSwapIn_2 n k x1 (x2 + (1 : Int32)) s
      else
        (f_lowestFree n s).bind fun q4 =>
        if q4 < 0 then
          f_doSwapIn_2 n k x1 (x2 + (1 : Int32)) s
        else
          grd (inb q4 32) <|
          bnd (setA s 2 (ix q4) x1) fun s8 =>
          bnd (setA s8 3 (ix q4) x2) fun s9 =>
          grd (inb ((x1 * (8 : Int32)) + x2) 32) <|
          bnd (setA s9 1 (ix ((x1 * (8 : Int32)) + x2)) q4) fun s11 =>
          bnd (setA s11 4 (ix q4) (s11.2 0 (ix ((x1 * (8 : Int32)) + x2)))) fun s12 =>
          bnd (setA s12 5 (ix q4) (0 : Int32)) fun s13 =>
          bnd (setA s13 6 (ix q4) (0 : Int32)) fun s14 =>
          bnd (setA s14 8 (ix q4) (0 : Int32)) fun s15 =>
          bnd (setA s15 7 (ix q4) (s15.2 10 (ix x1))) fun s16 =>
          f_doSwapIn_2 n k x1 (x2 + (1 : Int32)) s16
    else
      grd (inb x1 4) <|
      bnd (setA s 12 (ix x1) (0 : Int32)) fun s18 =>
      bnd (setA s18 9 (ix x1) ((0 : Int32) &&& 1)) fun s19 =>
      some s19
set_option maxRecDepth 100000 in
theorem e_doSwapIn_2 {g : GT} {n : Nat} (hw : HW g) {K : St → MHeap} {o : Nat} {r : Nat → Nat} (V : View (GG g) Ln K o r) (k : Nat) : ∀ (x1 : Int32) (x2 : Int32) (s : St) (y3 : Slot) (hy3 : one1 y3 = true) (w : St), f_doSwapIn_2 n k x1 x2 s = some w → Ev (GG g) M_doSwapIn 2 [.val (.ref o), .val (.int x1), .val (.int x2), y3] [] (K s) (none, (K w)) := by
  induction k with
  | zero => intro x1 x2 s y3 hy3 w hr; rw [f_doSwapIn_2] at hr; cases hr
  | succ k ih =>
    intro x1 x2 s y3 hy3 w hr
    rw [f_doSwapIn_2] at hr
    refine Ev.iloadN (d25 2 rfl) rfl ?_
    refine Ev.bipush (z := 8) (d25 3 rfl) rfl ?_
    refine Ev.icge (t := 118) (d25 4 rfl) rfl (fun c1 => ?_) (fun c1 => ?_)
    · replace hr := (if_pos c1).symm.trans hr
      refine Ev.aloadN (d25 5 rfl) rfl ?_
      refine Ev.gAr V (ww hw 39 rfl) (d25 6 rfl) (j := 12) rfl ?_
      refine Ev.iloadN (d25 7 rfl) rfl ?_
      obtain ⟨b2, hr⟩ := grd_some hr
      refine Ev.ial V (j := 12) rfl rfl (d25 8 rfl) b2 ?_
      refine Ev.iconst (z := 1) (d25 9 rfl) rfl ?_
      refine Ev.iloadN (d25 10 rfl) rfl ?_
      refine Ev.ishl (d25 11 rfl) ?_
      refine Ev.iand (d25 12 rfl) ?_
      refine Ev.ifne (t := 24) (d25 13 rfl) rfl (fun c3 => ?_) (fun c3 => ?_)
      · replace hr := (if_pos c3).symm.trans hr
        refine Ev.goto (t := 112) (d25 14 rfl) rfl ?_
        refine Ev.iinc (z := 1) (L' := [.val (.ref o), .val (.int x1), .val (.int (x2 + (1 : Int32))), y3]) (d25 75 rfl) rfl rfl rfl ?_
        refine Ev.goto (t := 2) (d25 76 rfl) rfl ?_
        exact ih x1 (x2 + (1 : Int32)) s y3 hy3 _ hr
      · replace hr := (if_neg c3).symm.trans hr
        refine Ev.aloadN (d25 15 rfl) rfl ?_
        obtain ⟨q4, hq5, hr⟩ := Option.bind_eq_some_iff.mp hr
        refine Ev.priv (y := M_lowestFree) (args := []) (rest := []) (gok hw) rfl nm_lowestFree (ww hw 161 rfl) (ww hw 162 rfl) (ww hw 163 rfl) (ww hw 164 rfl) (lenOf pd_lowestFree rfl) (d25 16 rfl) (V.2.1 s) (e_lowestFree hw V hq5) (by decide) (Nat.le_of_ble_eq_true rfl) rfl ?_
        refine Ev.istDN (L' := [.val (.ref o), .val (.int x1), .val (.int x2), .val (.int q4)]) (d25 17 rfl) rfl hy3 rfl ?_
        refine Ev.iloadN (d25 18 rfl) rfl ?_
        refine Ev.ifge (t := 36) (d25 19 rfl) rfl (fun c6 => ?_) (fun c6 => ?_)
        · replace hr := (if_pos c6).symm.trans hr
          refine Ev.goto (t := 112) (d25 20 rfl) rfl ?_
          refine Ev.iinc (z := 1) (L' := [.val (.ref o), .val (.int x1), .val (.int (x2 + (1 : Int32))), .val (.int q4)]) (d25 75 rfl) rfl rfl rfl ?_
          refine Ev.goto (t := 2) (d25 76 rfl) rfl ?_
          exact ih x1 (x2 + (1 : Int32)) s (.val (.int q4)) rfl _ hr
        · replace hr := (if_neg c6).symm.trans hr
          refine Ev.aloadN (d25 21 rfl) rfl ?_
          refine Ev.gAr V (ww hw 18 rfl) (d25 22 rfl) (j := 2) rfl ?_
          refine Ev.iloadN (d25 23 rfl) rfl ?_
          refine Ev.iloadN (d25 24 rfl) rfl ?_
          obtain ⟨b7, hr⟩ := grd_some hr
          refine Ev.ias V (j := 2) rfl rfl (d25 25 rfl) b7 ?_
          revert hr
          generalize setA s 2 (ix q4) x1 = s8
          intro hr
          replace hr := (bnd_eq _ _).symm.trans hr
          refine Ev.aloadN (d25 26 rfl) rfl ?_
          refine Ev.gAr V (ww hw 20 rfl) (d25 27 rfl) (j := 3) rfl ?_
          refine Ev.iloadN (d25 28 rfl) rfl ?_
          refine Ev.iloadN (d25 29 rfl) rfl ?_
          refine Ev.ias V (j := 3) rfl rfl (d25 30 rfl) b7 ?_
          revert hr
          generalize setA s8 3 (ix q4) x2 = s9
          intro hr
          replace hr := (bnd_eq _ _).symm.trans hr
          refine Ev.aloadN (d25 31 rfl) rfl ?_
          refine Ev.gAr V (ww hw 16 rfl) (d25 32 rfl) (j := 1) rfl ?_
          refine Ev.iloadN (d25 33 rfl) rfl ?_
          refine Ev.bipush (z := 8) (d25 34 rfl) rfl ?_
          refine Ev.imul (d25 35 rfl) ?_
          refine Ev.iloadN (d25 36 rfl) rfl ?_
          refine Ev.iadd (d25 37 rfl) ?_
          refine Ev.iloadN (d25 38 rfl) rfl ?_
          obtain ⟨b10, hr⟩ := grd_some hr
          refine Ev.ias V (j := 1) rfl rfl (d25 39 rfl) b10 ?_
          revert hr
          generalize setA s9 1 (ix ((x1 * (8 : Int32)) + x2)) q4 = s11
          intro hr
          replace hr := (bnd_eq _ _).symm.trans hr
          refine Ev.aloadN (d25 40 rfl) rfl ?_
          refine Ev.gAr V (ww hw 22 rfl) (d25 41 rfl) (j := 4) rfl ?_
          refine Ev.iloadN (d25 42 rfl) rfl ?_
          refine Ev.aloadN (d25 43 rfl) rfl ?_
          refine Ev.gAr V (ww hw 14 rfl) (d25 44 rfl) (j := 0) rfl ?_
          refine Ev.iloadN (d25 45 rfl) rfl ?_
          refine Ev.bipush (z := 8) (d25 46 rfl) rfl ?_
          refine Ev.imul (d25 47 rfl) ?_
          refine Ev.iloadN (d25 48 rfl) rfl ?_
          refine Ev.iadd (d25 49 rfl) ?_
          refine Ev.ial V (j := 0) rfl rfl (d25 50 rfl) b10 ?_
          refine Ev.ias V (j := 4) rfl rfl (d25 51 rfl) b7 ?_
          revert hr
          generalize setA s11 4 (ix q4) (s11.2 0 (ix ((x1 * (8 : Int32)) + x2))) = s12
          intro hr
          replace hr := (bnd_eq _ _).symm.trans hr
          refine Ev.aloadN (d25 52 rfl) rfl ?_
          refine Ev.gAr V (ww hw 24 rfl) (d25 53 rfl) (j := 5) rfl ?_
          refine Ev.iloadN (d25 54 rfl) rfl ?_
          refine Ev.iconst (z := 0) (d25 55 rfl) rfl ?_
          refine Ev.ias V (j := 5) rfl rfl (d25 56 rfl) b7 ?_
          revert hr
          generalize setA s12 5 (ix q4) (0 : Int32) = s13
          intro hr
          replace hr := (bnd_eq _ _).symm.trans hr
          refine Ev.aloadN (d25 57 rfl) rfl ?_
          refine Ev.gAr V (ww hw 26 rfl) (d25 58 rfl) (j := 6) rfl ?_
          refine Ev.iloadN (d25 59 rfl) rfl ?_
          refine Ev.iconst (z := 0) (d25 60 rfl) rfl ?_
          refine Ev.ias V (j := 6) rfl rfl (d25 61 rfl) b7 ?_
          revert hr
          generalize setA s13 6 (ix q4) (0 : Int32) = s14
          intro hr
          replace hr := (bnd_eq _ _).symm.trans hr
          refine Ev.aloadN (d25 62 rfl) rfl ?_
          refine Ev.gAr V (ww hw 30 rfl) (d25 63 rfl) (j := 8) rfl ?_
          refine Ev.iloadN (d25 64 rfl) rfl ?_
          refine Ev.iconst (z := 0) (d25 65 rfl) rfl ?_
          refine Ev.ias V (j := 8) rfl rfl (d25 66 rfl) b7 ?_
          revert hr
          generalize setA s14 8 (ix q4) (0 : Int32) = s15
          intro hr
          replace hr := (bnd_eq _ _).symm.trans hr
          refine Ev.aloadN (d25 67 rfl) rfl ?_
          refine Ev.gAr V (ww hw 28 rfl) (d25 68 rfl) (j := 7) rfl ?_
          refine Ev.iloadN (d25 69 rfl) rfl ?_
          refine Ev.aloadN (d25 70 rfl) rfl ?_
          refine Ev.gAr V (ww hw 35 rfl) (d25 71 rfl) (j := 10) rfl ?_
          refine Ev.iloadN (d25 72 rfl) rfl ?_
          refine Ev.ial V (j := 10) rfl rfl (d25 73 rfl) b2 ?_
          refine Ev.ias V (j := 7) rfl rfl (d25 74 rfl) b7 ?_
          revert hr
          generalize setA s15 7 (ix q4) (s15.2 10 (ix x1)) = s16
          intro hr
          replace hr := (bnd_eq _ _).symm.trans hr
          refine Ev.iinc (z := 1) (L' := [.val (.ref o), .val (.int x1), .val (.int (x2 + (1 : Int32))), .val (.int q4)]) (d25 75 rfl) rfl rfl rfl ?_
          refine Ev.goto (t := 2) (d25 76 rfl) rfl ?_
          exact ih x1 (x2 + (1 : Int32)) s16 (.val (.int q4)) rfl _ hr
    · replace hr := (if_neg c1).symm.trans hr
      refine Ev.aloadN (d25 77 rfl) rfl ?_
      refine Ev.gAr V (ww hw 39 rfl) (d25 78 rfl) (j := 12) rfl ?_
      refine Ev.iloadN (d25 79 rfl) rfl ?_
      refine Ev.iconst (z := 0) (d25 80 rfl) rfl ?_
      obtain ⟨b17, hr⟩ := grd_some hr
      refine Ev.ias V (j := 12) rfl rfl (d25 81 rfl) b17 ?_
      revert hr
      generalize setA s 12 (ix x1) (0 : Int32) = s18
      intro hr
      replace hr := (bnd_eq _ _).symm.trans hr
      refine Ev.aloadN (d25 82 rfl) rfl ?_
      refine Ev.gAr V (ww hw 33 rfl) (d25 83 rfl) (j := 9) rfl ?_
      refine Ev.iloadN (d25 84 rfl) rfl ?_
      refine Ev.iconst (z := 0) (d25 85 rfl) rfl ?_
      refine Ev.bas V (j := 9) rfl rfl (d25 86 rfl) b17 ?_
      revert hr
      generalize setA s18 9 (ix x1) ((0 : Int32) &&& 1) = s19
      intro hr
      replace hr := (bnd_eq _ _).symm.trans hr
      cases hr
      exact Ev.vreturn rfl (d25 87 rfl)
def f_doSwapIn (n : Nat) (a0 : Int32) (s : St) : Option (St) :=
  f_doSwapIn_2 n n a0 (0 : Int32) s
set_option maxRecDepth 100000 in
theorem e_doSwapIn {g : GT} {n : Nat} {a0 : Int32} {s : St} {w : St} (hw : HW g) {K : St → MHeap} {o : Nat} {r : Nat → Nat} (V : View (GG g) Ln K o r) (hr : f_doSwapIn n a0 s = some w) : EvC (GG g) M_doSwapIn [.ref o, .int a0] (K s) (none, (K w)) := by
  refine EvC.enter (L0 := [.val (.ref o), .val (.int a0), .unset, .unset]) pl_doSwapIn (fun _ => rfl) rfl rfl ?_
  unfold f_doSwapIn at hr
  refine Ev.iconst (z := 0) (d25 0 rfl) rfl ?_
  refine Ev.istDN (L' := [.val (.ref o), .val (.int a0), .val (.int (0 : Int32)), .unset]) (d25 1 rfl) rfl rfl rfl ?_
  exact e_doSwapIn_2 hw V  n a0 (0 : Int32) s .unset rfl _ hr
def f_decide_28 (n : Nat) (x4 : Int32) (x5 : Int32) (s : St) : Option (Int32 × St) :=
  if x4 < 0 then
    some ((0 : Int32), s)
  else
    if (3 : Int32) < x4 then
      some ((0 : Int32), s)
    else
      if x5 = 0 then
        some ((0 : Int32), s)
      else
        grd (inb x4 4) <|
        (f_bitCount n s (s.2 12 (ix x4))).bind fun q5 =>
        (f_countFree n s).bind fun q7 =>
        if q7 < q5 then
          some ((0 : Int32), s)
        else
          (f_doSwapIn n x4 s).bind fun q10 =>
          some (((32 : Int32) + x4), q10)
set_option maxRecDepth 100000 in
theorem e_decide_28 {g : GT} {n : Nat} (hw : HW g) {K : St → MHeap} {o : Nat} {r : Nat → Nat} (V : View (GG g) Ln K o r) (x4 : Int32) (x5 : Int32) (s : St) (y1 : Slot) (hy1 : one1 y1 = true) (y2 : Slot) (hy2 : one1 y2 = true) (y3 : Slot) (hy3 : one1 y3 = true) (y6 : Slot) (hy6 : one1 y6 = true) (y7 : Slot) (hy7 : one1 y7 = true) (w : Int32 × St) (hr : f_decide_28 n x4 x5 s = some w) : Ev (GG g) M_decide 28 [.val (.ref o), y1, y2, y3, .val (.int x4), .val (.int x5), y6, y7] [] (K s) ((some (.int w.1)), (K w.2)) := by
  unfold f_decide_28 at hr
  refine Ev.iload (d18 17 rfl) rfl ?_
  refine Ev.iflt (t := 82) (d18 18 rfl) rfl (fun c1 => ?_) (fun c1 => ?_)
  · replace hr := (if_pos c1).symm.trans hr
    refine Ev.iconst (z := 0) (d18 44 rfl) rfl ?_
    cases hr
    exact Ev.ireturn rfl (d18 45 rfl)
  · replace hr := (if_neg c1).symm.trans hr
    refine Ev.iload (d18 19 rfl) rfl ?_
    refine Ev.iconst (z := 3) (d18 20 rfl) rfl ?_
    refine Ev.icgt (t := 82) (d18 21 rfl) rfl (fun c2 => ?_) (fun c2 => ?_)
    · replace hr := (if_pos c2).symm.trans hr
      refine Ev.iconst (z := 0) (d18 44 rfl) rfl ?_
      cases hr
      exact Ev.ireturn rfl (d18 45 rfl)
    · replace hr := (if_neg c2).symm.trans hr
      refine Ev.iload (d18 22 rfl) rfl ?_
      refine Ev.ifeq (t := 82) (d18 23 rfl) rfl (fun c3 => ?_) (fun c3 => ?_)
      · replace hr := (if_pos c3).symm.trans hr
        refine Ev.iconst (z := 0) (d18 44 rfl) rfl ?_
        cases hr
        exact Ev.ireturn rfl (d18 45 rfl)
      · replace hr := (if_neg c3).symm.trans hr
        refine Ev.aloadN (d18 24 rfl) rfl ?_
        refine Ev.aloadN (d18 25 rfl) rfl ?_
        refine Ev.gAr V (ww hw 39 rfl) (d18 26 rfl) (j := 12) rfl ?_
        refine Ev.iload (d18 27 rfl) rfl ?_
        obtain ⟨b4, hr⟩ := grd_some hr
        refine Ev.ial V (j := 12) rfl rfl (d18 28 rfl) b4 ?_
        obtain ⟨q5, hq6, hr⟩ := Option.bind_eq_some_iff.mp hr
        refine Ev.priv (y := M_bitCount) (args := [.int (s.2 12 (ix x4))]) (rest := []) (gok hw) rfl nm_bitCount (ww hw 149 rfl) (ww hw 150 rfl) (ww hw 151 rfl) (ww hw 152 rfl) (lenOf pd_bitCount rfl) (d18 29 rfl) (V.2.1 s) (e_bitCount hw V hq6) (by decide) (Nat.le_of_ble_eq_true rfl) rfl ?_
        refine Ev.istD (L' := [.val (.ref o), y1, y2, y3, .val (.int x4), .val (.int x5), .val (.int q5), y7]) (d18 30 rfl) rfl hy6 rfl ?_
        refine Ev.aloadN (d18 31 rfl) rfl ?_
        obtain ⟨q7, hq8, hr⟩ := Option.bind_eq_some_iff.mp hr
        refine Ev.priv (y := M_countFree) (args := []) (rest := []) (gok hw) rfl nm_countFree (ww hw 153 rfl) (ww hw 154 rfl) (ww hw 155 rfl) (ww hw 156 rfl) (lenOf pd_countFree rfl) (d18 32 rfl) (V.2.1 s) (e_countFree hw V hq8) (by decide) (Nat.le_of_ble_eq_true rfl) rfl ?_
        refine Ev.istD (L' := [.val (.ref o), y1, y2, y3, .val (.int x4), .val (.int x5), .val (.int q5), .val (.int q7)]) (d18 33 rfl) rfl hy7 rfl ?_
        refine Ev.iload (d18 34 rfl) rfl ?_
        refine Ev.iload (d18 35 rfl) rfl ?_
        refine Ev.icgt (t := 82) (d18 36 rfl) rfl (fun c9 => ?_) (fun c9 => ?_)
        · replace hr := (if_pos c9).symm.trans hr
          refine Ev.iconst (z := 0) (d18 44 rfl) rfl ?_
          cases hr
          exact Ev.ireturn rfl (d18 45 rfl)
        · replace hr := (if_neg c9).symm.trans hr
          refine Ev.aloadN (d18 37 rfl) rfl ?_
          refine Ev.iload (d18 38 rfl) rfl ?_
          obtain ⟨q10, hq11, hr⟩ := Option.bind_eq_some_iff.mp hr
          refine Ev.priv (y := M_doSwapIn) (args := [.int x4]) (rest := []) (gok hw) rfl nm_doSwapIn (ww hw 157 rfl) (ww hw 158 rfl) (ww hw 159 rfl) (ww hw 160 rfl) (lenOf pd_doSwapIn rfl) (d18 39 rfl) (V.2.1 s) (e_doSwapIn hw V hq11) (by decide) (Nat.le_of_ble_eq_true rfl) rfl ?_
          refine Ev.bipush (z := 32) (d18 40 rfl) rfl ?_
          refine Ev.iload (d18 41 rfl) rfl ?_
          refine Ev.iadd (d18 42 rfl) ?_
          cases hr
          exact Ev.ireturn rfl (d18 43 rfl)
def f_decide (n : Nat) (a0 : Int32) (a1 : Int32) (a2 : Int32) (a3 : Int32) (a4 : Int32) (s : St) : Option (Int32 × St) :=
  if a0 = 0 then
    f_decide_28 n a3 a4 s
  else
    if a1 < (2 : Int32) then
      f_decide_28 n a3 a4 s
    else
      if a2 < 0 then
        f_decide_28 n a3 a4 s
      else
        if (3 : Int32) < a2 then
          f_decide_28 n a3 a4 s
        else
          (f_doSwapOut n a2 s).bind fun q5 =>
          some (((16 : Int32) + a2), q5)
set_option maxRecDepth 100000 in
theorem e_decide {g : GT} {n : Nat} {a0 : Int32} {a1 : Int32} {a2 : Int32} {a3 : Int32} {a4 : Int32} {s : St} {w : Int32 × St} (hw : HW g) {K : St → MHeap} {o : Nat} {r : Nat → Nat} (V : View (GG g) Ln K o r) (hr : f_decide n a0 a1 a2 a3 a4 s = some w) : EvC (GG g) M_decide [.ref o, .int a0, .int a1, .int a2, .int a3, .int a4] (K s) ((some (.int w.1)), (K w.2)) := by
  refine EvC.enter (L0 := [.val (.ref o), .val (.int a0), .val (.int a1), .val (.int a2), .val (.int a3), .val (.int a4), .unset, .unset]) pl_decide (fun h => nomatch h) rfl rfl ?_
  unfold f_decide at hr
  refine Ev.iloadN (d18 0 rfl) rfl ?_
  refine Ev.ifeq (t := 28) (d18 1 rfl) rfl (fun c1 => ?_) (fun c1 => ?_)
  · replace hr := (if_pos c1).symm.trans hr
    exact e_decide_28 hw V  a3 a4 s (.val (.int a0)) rfl (.val (.int a1)) rfl (.val (.int a2)) rfl .unset rfl .unset rfl _ hr
  · replace hr := (if_neg c1).symm.trans hr
    refine Ev.iloadN (d18 2 rfl) rfl ?_
    refine Ev.iconst (z := 2) (d18 3 rfl) rfl ?_
    refine Ev.iclt (t := 28) (d18 4 rfl) rfl (fun c2 => ?_) (fun c2 => ?_)
    · replace hr := (if_pos c2).symm.trans hr
      exact e_decide_28 hw V  a3 a4 s (.val (.int a0)) rfl (.val (.int a1)) rfl (.val (.int a2)) rfl .unset rfl .unset rfl _ hr
    · replace hr := (if_neg c2).symm.trans hr
      refine Ev.iloadN (d18 5 rfl) rfl ?_
      refine Ev.iflt (t := 28) (d18 6 rfl) rfl (fun c3 => ?_) (fun c3 => ?_)
      · replace hr := (if_pos c3).symm.trans hr
        exact e_decide_28 hw V  a3 a4 s (.val (.int a0)) rfl (.val (.int a1)) rfl (.val (.int a2)) rfl .unset rfl .unset rfl _ hr
      · replace hr := (if_neg c3).symm.trans hr
        refine Ev.iloadN (d18 7 rfl) rfl ?_
        refine Ev.iconst (z := 3) (d18 8 rfl) rfl ?_
        refine Ev.icgt (t := 28) (d18 9 rfl) rfl (fun c4 => ?_) (fun c4 => ?_)
        · replace hr := (if_pos c4).symm.trans hr
          exact e_decide_28 hw V  a3 a4 s (.val (.int a0)) rfl (.val (.int a1)) rfl (.val (.int a2)) rfl .unset rfl .unset rfl _ hr
        · replace hr := (if_neg c4).symm.trans hr
          refine Ev.aloadN (d18 10 rfl) rfl ?_
          refine Ev.iloadN (d18 11 rfl) rfl ?_
          obtain ⟨q5, hq6, hr⟩ := Option.bind_eq_some_iff.mp hr
          refine Ev.priv (y := M_doSwapOut) (args := [.int a2]) (rest := []) (gok hw) rfl nm_doSwapOut (ww hw 136 rfl) (ww hw 137 rfl) (ww hw 138 rfl) (ww hw 139 rfl) (lenOf pd_doSwapOut rfl) (d18 12 rfl) (V.2.1 s) (e_doSwapOut hw V hq6) (by decide) (Nat.le_of_ble_eq_true rfl) rfl ?_
          refine Ev.bipush (z := 16) (d18 13 rfl) rfl ?_
          refine Ev.iloadN (d18 14 rfl) rfl ?_
          refine Ev.iadd (d18 15 rfl) ?_
          cases hr
          exact Ev.ireturn rfl (d18 16 rfl)
def f_control_72 (n : Nat) (k15 : Int32 → Int32 → Int32 → Int32 → Int32 → Int32 → St → Option (Int32 × St)) (x1 : Int32) (x2 : Int32) (x3 : Int32) (x4 : Int32) (x5 : Int32) (x6 : Int32) (s : St) : Option (Int32 × St) :=
  grd (inb x6 4) <|
  if (s.2 14 (ix x6)) < (((s.2 13 (ix x6)) * (2 : Int32)) * (s.1 18)) then
    k15 x1 x2 x3 x4 (0 : Int32) (x6 + (1 : Int32)) s
  else
    k15 x1 x2 x3 x4 x5 (x6 + (1 : Int32)) s
set_option maxRecDepth 100000 in
theorem e_control_72 {g : GT} {n : Nat} (hw : HW g) {K : St → MHeap} {o : Nat} {r : Nat → Nat} (V : View (GG g) Ln K o r) {k15 : Int32 → Int32 → Int32 → Int32 → Int32 → Int32 → St → Option (Int32 × St)} (hk15 : ∀ (x1 : Int32) (x2 : Int32) (x3 : Int32) (x4 : Int32) (x5 : Int32) (x6 : Int32) (s : St) (y7 : Slot) (hy7 : one1 y7 = true) (w : Int32 × St), k15 x1 x2 x3 x4 x5 x6 s = some w → Ev (GG g) M_control 15 [.val (.ref o), .val (.int x1), .val (.int x2), .val (.int x3), .val (.int x4), .val (.int x5), .val (.int x6), y7] [] (K s) ((some (.int w.1)), (K w.2))) (x1 : Int32) (x2 : Int32) (x3 : Int32) (x4 : Int32) (x5 : Int32) (x6 : Int32) (s : St) (y7 : Slot) (hy7 : one1 y7 = true) (w : Int32 × St) (hr : f_control_72 n k15 x1 x2 x3 x4 x5 x6 s = some w) : Ev (GG g) M_control 72 [.val (.ref o), .val (.int x1), .val (.int x2), .val (.int x3), .val (.int x4), .val (.int x5), .val (.int x6), y7] [] (K s) ((some (.int w.1)), (K w.2)) := by
  unfold f_control_72 at hr
  refine Ev.aloadN (d17 42 rfl) rfl ?_
  refine Ev.gAr V (ww hw 41 rfl) (d17 43 rfl) (j := 13) rfl ?_
  refine Ev.iload (d17 44 rfl) rfl ?_
  obtain ⟨b1, hr⟩ := grd_some hr
  refine Ev.ial V (j := 13) rfl rfl (d17 45 rfl) b1 ?_
  refine Ev.iconst (z := 2) (d17 46 rfl) rfl ?_
  refine Ev.imul (d17 47 rfl) ?_
  refine Ev.aloadN (d17 48 rfl) rfl ?_
  refine Ev.gI V (ww hw 55 rfl) (d17 49 rfl) (j := 18) rfl rfl ?_
  refine Ev.imul (d17 50 rfl) ?_
  refine Ev.aloadN (d17 51 rfl) rfl ?_
  refine Ev.gAr V (ww hw 43 rfl) (d17 52 rfl) (j := 14) rfl ?_
  refine Ev.iload (d17 53 rfl) rfl ?_
  refine Ev.ial V (j := 14) rfl rfl (d17 54 rfl) b1 ?_
  refine Ev.icle (t := 99) (d17 55 rfl) rfl (fun c2 => ?_) (fun c2 => ?_)
  · replace hr := (if_pos c2).symm.trans hr
    refine Ev.iconst (z := 0) (d17 56 rfl) rfl ?_
    refine Ev.istD (L' := [.val (.ref o), .val (.int x1), .val (.int x2), .val (.int x3), .val (.int x4), .val (.int (0 : Int32)), .val (.int x6), y7]) (d17 57 rfl) rfl rfl rfl ?_
    refine Ev.iinc (z := 1) (L' := [.val (.ref o), .val (.int x1), .val (.int x2), .val (.int x3), .val (.int x4), .val (.int (0 : Int32)), .val (.int (x6 + (1 : Int32))), y7]) (d17 58 rfl) rfl rfl rfl ?_
    refine Ev.goto (t := 15) (d17 59 rfl) rfl ?_
    exact hk15 x1 x2 x3 x4 (0 : Int32) (x6 + (1 : Int32)) s y7 hy7 _ hr
  · replace hr := (if_neg c2).symm.trans hr
    refine Ev.iinc (z := 1) (L' := [.val (.ref o), .val (.int x1), .val (.int x2), .val (.int x3), .val (.int x4), .val (.int x5), .val (.int (x6 + (1 : Int32))), y7]) (d17 58 rfl) rfl rfl rfl ?_
    refine Ev.goto (t := 15) (d17 59 rfl) rfl ?_
    exact hk15 x1 x2 x3 x4 x5 (x6 + (1 : Int32)) s y7 hy7 _ hr
def f_control_121 (n : Nat) : Nat → Int32 → Int32 → St → Option (Int32 × St)
  | 0 => fun _ _ _ => none
  | k + 1 => fun x6 x7 s =>
    if x7 < (4 : Int32) then
      grd (inb x7 4) <|
      bnd (setA s 13 (ix x7) (0 : Int32)) fun s3 =>
      bnd (setA s3 14 (ix x7) (0 : Int32)) fun s4 =>
      f_control_121 n k x6 (x7 + (1 : Int32)) s4
    else
      some (x6, s)
set_option maxRecDepth 100000 in
theorem e_control_121 {g : GT} {n : Nat} (hw : HW g) {K : St → MHeap} {o : Nat} {r : Nat → Nat} (V : View (GG g) Ln K o r) (k : Nat) : ∀ (x6 : Int32) (x7 : Int32) (s : St) (y1 : Slot) (hy1 : one1 y1 = true) (y2 : Slot) (hy2 : one1 y2 = true) (y3 : Slot) (hy3 : one1 y3 = true) (y4 : Slot) (hy4 : one1 y4 = true) (y5 : Slot) (hy5 : one1 y5 = true) (w : Int32 × St), f_control_121 n k x6 x7 s = some w → Ev (GG g) M_control 121 [.val (.ref o), y1, y2, y3, y4, y5, .val (.int x6), .val (.int x7)] [] (K s) ((some (.int w.1)), (K w.2)) := by
  induction k with
  | zero => intro x6 x7 s y1 hy1 y2 hy2 y3 hy3 y4 hy4 y5 hy5 w hr; rw [f_control_121] at hr; cases hr
  | succ k ih =>
    intro x6 x7 s y1 hy1 y2 hy2 y3 hy3 y4 hy4 y5 hy5 w hr
    rw [f_control_121] at hr
    refine Ev.iload (d17 70 rfl) rfl ?_
    refine Ev.iconst (z := 4) (d17 71 rfl) rfl ?_
    refine Ev.icge (t := 149) (d17 72 rfl) rfl (fun c1 => ?_) (fun c1 => ?_)
    · replace hr := (if_pos c1).symm.trans hr
      refine Ev.aloadN (d17 73 rfl) rfl ?_
      refine Ev.gAr V (ww hw 41 rfl) (d17 74 rfl) (j := 13) rfl ?_
      refine Ev.iload (d17 75 rfl) rfl ?_
      refine Ev.iconst (z := 0) (d17 76 rfl) rfl ?_
      obtain ⟨b2, hr⟩ := grd_some hr
      refine Ev.ias V (j := 13) rfl rfl (d17 77 rfl) b2 ?_
      revert hr
      generalize setA s 13 (ix x7) (0 : Int32) = s3
      intro hr
      replace hr := (bnd_eq _ _).symm.trans hr
      refine Ev.aloadN (d17 78 rfl) rfl ?_
      refine Ev.gAr V (ww hw 43 rfl) (d17 79 rfl) (j := 14) rfl ?_
      refine Ev.iload (d17 80 rfl) rfl ?_
      refine Ev.iconst (z := 0) (d17 81 rfl) rfl ?_
      refine Ev.ias V (j := 14) rfl rfl (d17 82 rfl) b2 ?_
      revert hr
      generalize setA s3 14 (ix x7) (0 : Int32) = s4
      intro hr
      replace hr := (bnd_eq _ _).symm.trans hr
      refine Ev.iinc (z := 1) (L' := [.val (.ref o), y1, y2, y3, y4, y5, .val (.int x6), .val (.int (x7 + (1 : Int32)))]) (d17 83 rfl) rfl rfl rfl ?_
      refine Ev.goto (t := 121) (d17 84 rfl) rfl ?_
      exact ih x6 (x7 + (1 : Int32)) s4 y1 hy1 y2 hy2 y3 hy3 y4 hy4 y5 hy5 _ hr
    · replace hr := (if_neg c1).symm.trans hr
      refine Ev.iload (d17 85 rfl) rfl ?_
      cases hr
      exact Ev.ireturn rfl (d17 86 rfl)
def f_control_15 (n : Nat) : Nat → Int32 → Int32 → Int32 → Int32 → Int32 → Int32 → St → Option (Int32 × St)
  | 0 => fun _ _ _ _ _ _ _ => none
  | k + 1 => fun x1 x2 x3 x4 x5 x6 s =>
    if x6 < (4 : Int32) then
      grd (inb x6 4) <|
      if (s.2 9 (ix x6)) = 0 then
        if (s.2 14 (ix x6)) < ((s.2 13 (ix x6)) * (s.1 18)) then
          f_control_72 n (f_control_15 n k) (x1 + (1 : Int32)) x6 x3 (1 : Int32) x5 x6 s
        else
          f_control_72 n (f_control_15 n k) (x1 + (1 : Int32)) x6 x3 x4 x5 x6 s
      else
        if x3 < 0 then
          f_control_15 n k x1 x2 x6 x4 x5 (x6 + (1 : Int32)) s
        else
          f_control_15 n k x1 x2 x3 x4 x5 (x6 + (1 : Int32)) s
    else
      (f_decide n x4 x1 x2 x3 x5 s).bind fun q6 =>
      f_control_121 n n q6.1 (0 : Int32) q6.2
set_option maxRecDepth 100000 in
theorem e_control_15 {g : GT} {n : Nat} (hw : HW g) {K : St → MHeap} {o : Nat} {r : Nat → Nat} (V : View (GG g) Ln K o r) (k : Nat) : ∀ (x1 : Int32) (x2 : Int32) (x3 : Int32) (x4 : Int32) (x5 : Int32) (x6 : Int32) (s : St) (y7 : Slot) (hy7 : one1 y7 = true) (w : Int32 × St), f_control_15 n k x1 x2 x3 x4 x5 x6 s = some w → Ev (GG g) M_control 15 [.val (.ref o), .val (.int x1), .val (.int x2), .val (.int x3), .val (.int x4), .val (.int x5), .val (.int x6), y7] [] (K s) ((some (.int w.1)), (K w.2)) := by
  induction k with
  | zero => intro x1 x2 x3 x4 x5 x6 s y7 hy7 w hr; rw [f_control_15] at hr; cases hr
  | succ k ih =>
    intro x1 x2 x3 x4 x5 x6 s y7 hy7 w hr
    rw [f_control_15] at hr
    refine Ev.iload (d17 12 rfl) rfl ?_
    refine Ev.iconst (z := 4) (d17 13 rfl) rfl ?_
    refine Ev.icge (t := 105) (d17 14 rfl) rfl (fun c1 => ?_) (fun c1 => ?_)
    · replace hr := (if_pos c1).symm.trans hr
      refine Ev.aloadN (d17 15 rfl) rfl ?_
      refine Ev.gAr V (ww hw 33 rfl) (d17 16 rfl) (j := 9) rfl ?_
      refine Ev.iload (d17 17 rfl) rfl ?_
      obtain ⟨b2, hr⟩ := grd_some hr
      refine Ev.bal V (j := 9) rfl rfl (d17 18 rfl) b2 ?_
      refine Ev.ifeq (t := 41) (d17 19 rfl) rfl (fun c3 => ?_) (fun c3 => ?_)
      · replace hr := (if_pos c3).symm.trans hr
        refine Ev.iinc (z := 1) (L' := [.val (.ref o), .val (.int (x1 + (1 : Int32))), .val (.int x2), .val (.int x3), .val (.int x4), .val (.int x5), .val (.int x6), y7]) (d17 25 rfl) rfl rfl rfl ?_
        refine Ev.iload (d17 26 rfl) rfl ?_
        refine Ev.istDN (L' := [.val (.ref o), .val (.int (x1 + (1 : Int32))), .val (.int x6), .val (.int x3), .val (.int x4), .val (.int x5), .val (.int x6), y7]) (d17 27 rfl) rfl rfl rfl ?_
        refine Ev.aloadN (d17 28 rfl) rfl ?_
        refine Ev.gAr V (ww hw 41 rfl) (d17 29 rfl) (j := 13) rfl ?_
        refine Ev.iload (d17 30 rfl) rfl ?_
        refine Ev.ial V (j := 13) rfl rfl (d17 31 rfl) b2 ?_
        refine Ev.aloadN (d17 32 rfl) rfl ?_
        refine Ev.gI V (ww hw 55 rfl) (d17 33 rfl) (j := 18) rfl rfl ?_
        refine Ev.imul (d17 34 rfl) ?_
        refine Ev.aloadN (d17 35 rfl) rfl ?_
        refine Ev.gAr V (ww hw 43 rfl) (d17 36 rfl) (j := 14) rfl ?_
        refine Ev.iload (d17 37 rfl) rfl ?_
        refine Ev.ial V (j := 14) rfl rfl (d17 38 rfl) b2 ?_
        refine Ev.icle (t := 72) (d17 39 rfl) rfl (fun c4 => ?_) (fun c4 => ?_)
        · replace hr := (if_pos c4).symm.trans hr
          refine Ev.iconst (z := 1) (d17 40 rfl) rfl ?_
          refine Ev.istD (L' := [.val (.ref o), .val (.int (x1 + (1 : Int32))), .val (.int x6), .val (.int x3), .val (.int (1 : Int32)), .val (.int x5), .val (.int x6), y7]) (d17 41 rfl) rfl rfl rfl ?_
          exact e_control_72 hw V ih (x1 + (1 : Int32)) x6 x3 (1 : Int32) x5 x6 s y7 hy7 _ hr
        · replace hr := (if_neg c4).symm.trans hr
          exact e_control_72 hw V ih (x1 + (1 : Int32)) x6 x3 x4 x5 x6 s y7 hy7 _ hr
      · replace hr := (if_neg c3).symm.trans hr
        refine Ev.iloadN (d17 20 rfl) rfl ?_
        refine Ev.ifge (t := 99) (d17 21 rfl) rfl (fun c5 => ?_) (fun c5 => ?_)
        · replace hr := (if_pos c5).symm.trans hr
          refine Ev.iload (d17 22 rfl) rfl ?_
          refine Ev.istDN (L' := [.val (.ref o), .val (.int x1), .val (.int x2), .val (.int x6), .val (.int x4), .val (.int x5), .val (.int x6), y7]) (d17 23 rfl) rfl rfl rfl ?_
          refine Ev.goto (t := 99) (d17 24 rfl) rfl ?_
          refine Ev.iinc (z := 1) (L' := [.val (.ref o), .val (.int x1), .val (.int x2), .val (.int x6), .val (.int x4), .val (.int x5), .val (.int (x6 + (1 : Int32))), y7]) (d17 58 rfl) rfl rfl rfl ?_
          refine Ev.goto (t := 15) (d17 59 rfl) rfl ?_
          exact ih x1 x2 x6 x4 x5 (x6 + (1 : Int32)) s y7 hy7 _ hr
        · replace hr := (if_neg c5).symm.trans hr
          refine Ev.iinc (z := 1) (L' := [.val (.ref o), .val (.int x1), .val (.int x2), .val (.int x3), .val (.int x4), .val (.int x5), .val (.int (x6 + (1 : Int32))), y7]) (d17 58 rfl) rfl rfl rfl ?_
          refine Ev.goto (t := 15) (d17 59 rfl) rfl ?_
          exact ih x1 x2 x3 x4 x5 (x6 + (1 : Int32)) s y7 hy7 _ hr
    · replace hr := (if_neg c1).symm.trans hr
      refine Ev.aloadN (d17 60 rfl) rfl ?_
      refine Ev.iload (d17 61 rfl) rfl ?_
      refine Ev.iloadN (d17 62 rfl) rfl ?_
      refine Ev.iloadN (d17 63 rfl) rfl ?_
      refine Ev.iloadN (d17 64 rfl) rfl ?_
      refine Ev.iload (d17 65 rfl) rfl ?_
      obtain ⟨q6, hq7, hr⟩ := Option.bind_eq_some_iff.mp hr
      refine Ev.priv (y := M_decide) (args := [.int x4, .int x1, .int x2, .int x3, .int x5]) (rest := []) (gok hw) rfl nm_decide (ww hw 127 rfl) (ww hw 128 rfl) (ww hw 129 rfl) (ww hw 130 rfl) (lenOf pd_decide rfl) (d17 66 rfl) (V.2.1 s) (e_decide hw V hq7) (by decide) (Nat.le_of_ble_eq_true rfl) rfl ?_
      refine Ev.istD (L' := [.val (.ref o), .val (.int x1), .val (.int x2), .val (.int x3), .val (.int x4), .val (.int x5), .val (.int q6.1), y7]) (d17 67 rfl) rfl rfl rfl ?_
      refine Ev.iconst (z := 0) (d17 68 rfl) rfl ?_
      refine Ev.istD (L' := [.val (.ref o), .val (.int x1), .val (.int x2), .val (.int x3), .val (.int x4), .val (.int x5), .val (.int q6.1), .val (.int (0 : Int32))]) (d17 69 rfl) rfl hy7 rfl ?_
      exact e_control_121 hw V  n q6.1 (0 : Int32) q6.2 (.val (.int x1)) rfl (.val (.int x2)) rfl (.val (.int x3)) rfl (.val (.int x4)) rfl (.val (.int x5)) rfl _ hr
def f_control (n : Nat) (s : St) : Option (Int32 × St) :=
  f_control_15 n n (0 : Int32) (-1 : Int32) (-1 : Int32) (0 : Int32) (1 : Int32) (0 : Int32) s
set_option maxRecDepth 100000 in
theorem e_control {g : GT} {n : Nat} {s : St} {w : Int32 × St} (hw : HW g) {K : St → MHeap} {o : Nat} {r : Nat → Nat} (V : View (GG g) Ln K o r) (hr : f_control n s = some w) : EvC (GG g) M_control [.ref o] (K s) ((some (.int w.1)), (K w.2)) := by
  refine EvC.enter (L0 := [.val (.ref o), .unset, .unset, .unset, .unset, .unset, .unset, .unset]) pl_control (fun h => nomatch h) rfl rfl ?_
  unfold f_control at hr
  refine Ev.iconst (z := 0) (d17 0 rfl) rfl ?_
  refine Ev.istDN (L' := [.val (.ref o), .val (.int (0 : Int32)), .unset, .unset, .unset, .unset, .unset, .unset]) (d17 1 rfl) rfl rfl rfl ?_
  refine Ev.iconst (z := -1) (d17 2 rfl) rfl ?_
  refine Ev.istDN (L' := [.val (.ref o), .val (.int (0 : Int32)), .val (.int (-1 : Int32)), .unset, .unset, .unset, .unset, .unset]) (d17 3 rfl) rfl rfl rfl ?_
  refine Ev.iconst (z := -1) (d17 4 rfl) rfl ?_
  refine Ev.istDN (L' := [.val (.ref o), .val (.int (0 : Int32)), .val (.int (-1 : Int32)), .val (.int (-1 : Int32)), .unset, .unset, .unset, .unset]) (d17 5 rfl) rfl rfl rfl ?_
  refine Ev.iconst (z := 0) (d17 6 rfl) rfl ?_
  refine Ev.istD (L' := [.val (.ref o), .val (.int (0 : Int32)), .val (.int (-1 : Int32)), .val (.int (-1 : Int32)), .val (.int (0 : Int32)), .unset, .unset, .unset]) (d17 7 rfl) rfl rfl rfl ?_
  refine Ev.iconst (z := 1) (d17 8 rfl) rfl ?_
  refine Ev.istD (L' := [.val (.ref o), .val (.int (0 : Int32)), .val (.int (-1 : Int32)), .val (.int (-1 : Int32)), .val (.int (0 : Int32)), .val (.int (1 : Int32)), .unset, .unset]) (d17 9 rfl) rfl rfl rfl ?_
  refine Ev.iconst (z := 0) (d17 10 rfl) rfl ?_
  refine Ev.istD (L' := [.val (.ref o), .val (.int (0 : Int32)), .val (.int (-1 : Int32)), .val (.int (-1 : Int32)), .val (.int (0 : Int32)), .val (.int (1 : Int32)), .val (.int (0 : Int32)), .unset]) (d17 11 rfl) rfl rfl rfl ?_
  exact e_control_15 hw V  n (0 : Int32) (-1 : Int32) (-1 : Int32) (0 : Int32) (1 : Int32) (0 : Int32) s .unset rfl _ hr
def f_swapOut (n : Nat) (a0 : Int32) (s : St) : Option (Int32 × St) :=
  if a0 < 0 then
    some ((5 : Int32), s)
  else
    if (3 : Int32) < a0 then
      some ((5 : Int32), s)
    else
      grd (inb a0 4) <|
      if (s.2 9 (ix a0)) = 0 then
        (f_doSwapOut n a0 s).bind fun q5 =>
        some ((6 : Int32), q5)
      else
        some ((4 : Int32), s)
set_option maxRecDepth 100000 in
theorem e_swapOut {g : GT} {n : Nat} {a0 : Int32} {s : St} {w : Int32 × St} (hw : HW g) {K : St → MHeap} {o : Nat} {r : Nat → Nat} (V : View (GG g) Ln K o r) (hr : f_swapOut n a0 s = some w) : EvC (GG g) M_swapOut [.ref o, .int a0] (K s) ((some (.int w.1)), (K w.2)) := by
  refine EvC.enter (L0 := [.val (.ref o), .val (.int a0)]) pl_swapOut (fun h => nomatch h) rfl rfl ?_
  unfold f_swapOut at hr
  refine Ev.iloadN (d22 0 rfl) rfl ?_
  refine Ev.iflt (t := 9) (d22 1 rfl) rfl (fun c1 => ?_) (fun c1 => ?_)
  · replace hr := (if_pos c1).symm.trans hr
    refine Ev.iconst (z := 5) (d22 5 rfl) rfl ?_
    cases hr
    exact Ev.ireturn rfl (d22 6 rfl)
  · replace hr := (if_neg c1).symm.trans hr
    refine Ev.iloadN (d22 2 rfl) rfl ?_
    refine Ev.iconst (z := 3) (d22 3 rfl) rfl ?_
    refine Ev.icle (t := 11) (d22 4 rfl) rfl (fun c2 => ?_) (fun c2 => ?_)
    · replace hr := (if_pos c2).symm.trans hr
      refine Ev.iconst (z := 5) (d22 5 rfl) rfl ?_
      cases hr
      exact Ev.ireturn rfl (d22 6 rfl)
    · replace hr := (if_neg c2).symm.trans hr
      refine Ev.aloadN (d22 7 rfl) rfl ?_
      refine Ev.gAr V (ww hw 33 rfl) (d22 8 rfl) (j := 9) rfl ?_
      refine Ev.iloadN (d22 9 rfl) rfl ?_
      obtain ⟨b3, hr⟩ := grd_some hr
      refine Ev.bal V (j := 9) rfl rfl (d22 10 rfl) b3 ?_
      refine Ev.ifeq (t := 22) (d22 11 rfl) rfl (fun c4 => ?_) (fun c4 => ?_)
      · replace hr := (if_pos c4).symm.trans hr
        refine Ev.aloadN (d22 14 rfl) rfl ?_
        refine Ev.iloadN (d22 15 rfl) rfl ?_
        obtain ⟨q5, hq6, hr⟩ := Option.bind_eq_some_iff.mp hr
        refine Ev.priv (y := M_doSwapOut) (args := [.int a0]) (rest := []) (gok hw) rfl nm_doSwapOut (ww hw 136 rfl) (ww hw 137 rfl) (ww hw 138 rfl) (ww hw 139 rfl) (lenOf pd_doSwapOut rfl) (d22 16 rfl) (V.2.1 s) (e_doSwapOut hw V hq6) (by decide) (Nat.le_of_ble_eq_true rfl) rfl ?_
        refine Ev.bipush (z := 6) (d22 17 rfl) rfl ?_
        cases hr
        exact Ev.ireturn rfl (d22 18 rfl)
      · replace hr := (if_neg c4).symm.trans hr
        refine Ev.iconst (z := 4) (d22 12 rfl) rfl ?_
        cases hr
        exact Ev.ireturn rfl (d22 13 rfl)
def f_swapIn (n : Nat) (a0 : Int32) (s : St) : Option (Int32 × St) :=
  if a0 < 0 then
    some ((5 : Int32), s)
  else
    if (3 : Int32) < a0 then
      some ((5 : Int32), s)
    else
      grd (inb a0 4) <|
      if (s.2 9 (ix a0)) = 0 then
        some ((7 : Int32), s)
      else
        (f_bitCount n s (s.2 12 (ix a0))).bind fun q5 =>
        (f_countFree n s).bind fun q7 =>
        if q7 < q5 then
          some ((3 : Int32), s)
        else
          (f_doSwapIn n a0 s).bind fun q10 =>
          some ((6 : Int32), q10)
set_option maxRecDepth 100000 in
theorem e_swapIn {g : GT} {n : Nat} {a0 : Int32} {s : St} {w : Int32 × St} (hw : HW g) {K : St → MHeap} {o : Nat} {r : Nat → Nat} (V : View (GG g) Ln K o r) (hr : f_swapIn n a0 s = some w) : EvC (GG g) M_swapIn [.ref o, .int a0] (K s) ((some (.int w.1)), (K w.2)) := by
  refine EvC.enter (L0 := [.val (.ref o), .val (.int a0), .unset, .unset]) pl_swapIn (fun h => nomatch h) rfl rfl ?_
  unfold f_swapIn at hr
  refine Ev.iloadN (d19 0 rfl) rfl ?_
  refine Ev.iflt (t := 9) (d19 1 rfl) rfl (fun c1 => ?_) (fun c1 => ?_)
  · replace hr := (if_pos c1).symm.trans hr
    refine Ev.iconst (z := 5) (d19 5 rfl) rfl ?_
    cases hr
    exact Ev.ireturn rfl (d19 6 rfl)
  · replace hr := (if_neg c1).symm.trans hr
    refine Ev.iloadN (d19 2 rfl) rfl ?_
    refine Ev.iconst (z := 3) (d19 3 rfl) rfl ?_
    refine Ev.icle (t := 11) (d19 4 rfl) rfl (fun c2 => ?_) (fun c2 => ?_)
    · replace hr := (if_pos c2).symm.trans hr
      refine Ev.iconst (z := 5) (d19 5 rfl) rfl ?_
      cases hr
      exact Ev.ireturn rfl (d19 6 rfl)
    · replace hr := (if_neg c2).symm.trans hr
      refine Ev.aloadN (d19 7 rfl) rfl ?_
      refine Ev.gAr V (ww hw 33 rfl) (d19 8 rfl) (j := 9) rfl ?_
      refine Ev.iloadN (d19 9 rfl) rfl ?_
      obtain ⟨b3, hr⟩ := grd_some hr
      refine Ev.bal V (j := 9) rfl rfl (d19 10 rfl) b3 ?_
      refine Ev.ifne (t := 23) (d19 11 rfl) rfl (fun c4 => ?_) (fun c4 => ?_)
      · replace hr := (if_pos c4).symm.trans hr
        refine Ev.bipush (z := 7) (d19 12 rfl) rfl ?_
        cases hr
        exact Ev.ireturn rfl (d19 13 rfl)
      · replace hr := (if_neg c4).symm.trans hr
        refine Ev.aloadN (d19 14 rfl) rfl ?_
        refine Ev.aloadN (d19 15 rfl) rfl ?_
        refine Ev.gAr V (ww hw 39 rfl) (d19 16 rfl) (j := 12) rfl ?_
        refine Ev.iloadN (d19 17 rfl) rfl ?_
        refine Ev.ial V (j := 12) rfl rfl (d19 18 rfl) b3 ?_
        obtain ⟨q5, hq6, hr⟩ := Option.bind_eq_some_iff.mp hr
        refine Ev.priv (y := M_bitCount) (args := [.int (s.2 12 (ix a0))]) (rest := []) (gok hw) rfl nm_bitCount (ww hw 149 rfl) (ww hw 150 rfl) (ww hw 151 rfl) (ww hw 152 rfl) (lenOf pd_bitCount rfl) (d19 19 rfl) (V.2.1 s) (e_bitCount hw V hq6) (by decide) (Nat.le_of_ble_eq_true rfl) rfl ?_
        refine Ev.istDN (L' := [.val (.ref o), .val (.int a0), .val (.int q5), .unset]) (d19 20 rfl) rfl rfl rfl ?_
        refine Ev.aloadN (d19 21 rfl) rfl ?_
        obtain ⟨q7, hq8, hr⟩ := Option.bind_eq_some_iff.mp hr
        refine Ev.priv (y := M_countFree) (args := []) (rest := []) (gok hw) rfl nm_countFree (ww hw 153 rfl) (ww hw 154 rfl) (ww hw 155 rfl) (ww hw 156 rfl) (lenOf pd_countFree rfl) (d19 22 rfl) (V.2.1 s) (e_countFree hw V hq8) (by decide) (Nat.le_of_ble_eq_true rfl) rfl ?_
        refine Ev.istDN (L' := [.val (.ref o), .val (.int a0), .val (.int q5), .val (.int q7)]) (d19 23 rfl) rfl rfl rfl ?_
        refine Ev.iloadN (d19 24 rfl) rfl ?_
        refine Ev.iloadN (d19 25 rfl) rfl ?_
        refine Ev.icle (t := 46) (d19 26 rfl) rfl (fun c9 => ?_) (fun c9 => ?_)
        · replace hr := (if_pos c9).symm.trans hr
          refine Ev.iconst (z := 3) (d19 27 rfl) rfl ?_
          cases hr
          exact Ev.ireturn rfl (d19 28 rfl)
        · replace hr := (if_neg c9).symm.trans hr
          refine Ev.aloadN (d19 29 rfl) rfl ?_
          refine Ev.iloadN (d19 30 rfl) rfl ?_
          obtain ⟨q10, hq11, hr⟩ := Option.bind_eq_some_iff.mp hr
          refine Ev.priv (y := M_doSwapIn) (args := [.int a0]) (rest := []) (gok hw) rfl nm_doSwapIn (ww hw 157 rfl) (ww hw 158 rfl) (ww hw 159 rfl) (ww hw 160 rfl) (lenOf pd_doSwapIn rfl) (d19 31 rfl) (V.2.1 s) (e_doSwapIn hw V hq11) (by decide) (Nat.le_of_ble_eq_true rfl) rfl ?_
          refine Ev.bipush (z := 6) (d19 32 rfl) rfl ?_
          cases hr
          exact Ev.ireturn rfl (d19 33 rfl)
def f_frameOf (s : St) (a0 : Int32) (a1 : Int32) : Option (Int32) :=
  if a0 < 0 then
    some (-1 : Int32)
  else
    if (3 : Int32) < a0 then
      some (-1 : Int32)
    else
      if a1 < 0 then
        some (-1 : Int32)
      else
        if (7 : Int32) < a1 then
          some (-1 : Int32)
        else
          grd (inb ((a0 * (8 : Int32)) + a1) 32) <|
          some (s.2 1 (ix ((a0 * (8 : Int32)) + a1)))
set_option maxRecDepth 100000 in
theorem e_frameOf {g : GT} {s : St} {a0 : Int32} {a1 : Int32} {w : Int32} (hw : HW g) {K : St → MHeap} {o : Nat} {r : Nat → Nat} (V : View (GG g) Ln K o r) (hr : f_frameOf s a0 a1 = some w) : EvC (GG g) M_frameOf [.ref o, .int a0, .int a1] (K s) ((some (.int w)), (K s)) := by
  refine EvC.enter (L0 := [.val (.ref o), .val (.int a0), .val (.int a1)]) pl_frameOf (fun h => nomatch h) rfl rfl ?_
  unfold f_frameOf at hr
  refine Ev.iloadN (d4 0 rfl) rfl ?_
  refine Ev.iflt (t := 19) (d4 1 rfl) rfl (fun c1 => ?_) (fun c1 => ?_)
  · replace hr := (if_pos c1).symm.trans hr
    refine Ev.iconst (z := -1) (d4 10 rfl) rfl ?_
    cases hr
    exact Ev.ireturn rfl (d4 11 rfl)
  · replace hr := (if_neg c1).symm.trans hr
    refine Ev.iloadN (d4 2 rfl) rfl ?_
    refine Ev.iconst (z := 3) (d4 3 rfl) rfl ?_
    refine Ev.icgt (t := 19) (d4 4 rfl) rfl (fun c2 => ?_) (fun c2 => ?_)
    · replace hr := (if_pos c2).symm.trans hr
      refine Ev.iconst (z := -1) (d4 10 rfl) rfl ?_
      cases hr
      exact Ev.ireturn rfl (d4 11 rfl)
    · replace hr := (if_neg c2).symm.trans hr
      refine Ev.iloadN (d4 5 rfl) rfl ?_
      refine Ev.iflt (t := 19) (d4 6 rfl) rfl (fun c3 => ?_) (fun c3 => ?_)
      · replace hr := (if_pos c3).symm.trans hr
        refine Ev.iconst (z := -1) (d4 10 rfl) rfl ?_
        cases hr
        exact Ev.ireturn rfl (d4 11 rfl)
      · replace hr := (if_neg c3).symm.trans hr
        refine Ev.iloadN (d4 7 rfl) rfl ?_
        refine Ev.bipush (z := 7) (d4 8 rfl) rfl ?_
        refine Ev.icle (t := 21) (d4 9 rfl) rfl (fun c4 => ?_) (fun c4 => ?_)
        · replace hr := (if_pos c4).symm.trans hr
          refine Ev.iconst (z := -1) (d4 10 rfl) rfl ?_
          cases hr
          exact Ev.ireturn rfl (d4 11 rfl)
        · replace hr := (if_neg c4).symm.trans hr
          refine Ev.aloadN (d4 12 rfl) rfl ?_
          refine Ev.gAr V (ww hw 16 rfl) (d4 13 rfl) (j := 1) rfl ?_
          refine Ev.iloadN (d4 14 rfl) rfl ?_
          refine Ev.bipush (z := 8) (d4 15 rfl) rfl ?_
          refine Ev.imul (d4 16 rfl) ?_
          refine Ev.iloadN (d4 17 rfl) rfl ?_
          refine Ev.iadd (d4 18 rfl) ?_
          obtain ⟨b5, hr⟩ := grd_some hr
          refine Ev.ial V (j := 1) rfl rfl (d4 19 rfl) b5 ?_
          cases hr
          exact Ev.ireturn rfl (d4 20 rfl)
def f_hput (a0 : Int64) (a1 : Int32) (a2 : Int32) (a3 : Int32) : Option (Int64) :=
  bnd ((((1 : Int64) <<< ((a2).toInt64 &&& 63)) - (1 : Int64)) <<< (((a1 * a2)).toInt64 &&& 63)) fun v1 =>
  some ((a0 &&& (v1 ^^^ (-1 : Int64))) ||| (((a3).toInt64 <<< (((a1 * a2)).toInt64 &&& 63)) &&& v1))
set_option maxRecDepth 100000 in
theorem e_hput {g : GT} {a0 : Int64} {a1 : Int32} {a2 : Int32} {a3 : Int32} {w : Int64} (hw : HW g) {h : MHeap} (hr : f_hput a0 a1 a2 a3 = some w) : EvC (GG g) M_hput [.long a0, .int a1, .int a2, .int a3] h ((some (.long w)), h) := by
  refine EvC.enter (L0 := [.val (.long a0), .second, .val (.int a1), .val (.int a2), .val (.int a3), .unset, .unset]) pl_hput (fun h => nomatch h) rfl rfl ?_
  unfold f_hput at hr
  refine Ev.lconst (z := 1) (d5 0 rfl) rfl ?_
  refine Ev.iloadN (d5 1 rfl) rfl ?_
  refine Ev.lshl (d5 2 rfl) ?_
  refine Ev.lconst (z := 1) (d5 3 rfl) rfl ?_
  refine Ev.lsub (d5 4 rfl) ?_
  refine Ev.iloadN (d5 5 rfl) rfl ?_
  refine Ev.iloadN (d5 6 rfl) rfl ?_
  refine Ev.imul (d5 7 rfl) ?_
  refine Ev.lshl (d5 8 rfl) ?_
  revert hr
  generalize ((((1 : Int64) <<< ((a2).toInt64 &&& 63)) - (1 : Int64)) <<< (((a1 * a2)).toInt64 &&& 63)) = v1
  intro hr
  replace hr := (bnd_eq _ _).symm.trans hr
  refine Ev.lstD (L' := [.val (.long a0), .second, .val (.int a1), .val (.int a2), .val (.int a3), .val (.long v1), .second]) (d5 9 rfl) rfl rfl (Or.inl ⟨rfl, rfl⟩) rfl ?_
  refine Ev.lloadN (d5 10 rfl) rfl ?_
  refine Ev.lload (d5 11 rfl) rfl ?_
  refine Ev.ldcL (ww hw 65 rfl) (d5 12 rfl) ?_
  refine Ev.lxor (d5 13 rfl) ?_
  refine Ev.land (d5 14 rfl) ?_
  refine Ev.iload (d5 15 rfl) rfl ?_
  refine Ev.i2l (d5 16 rfl) ?_
  refine Ev.iloadN (d5 17 rfl) rfl ?_
  refine Ev.iloadN (d5 18 rfl) rfl ?_
  refine Ev.imul (d5 19 rfl) ?_
  refine Ev.lshl (d5 20 rfl) ?_
  refine Ev.lload (d5 21 rfl) rfl ?_
  refine Ev.land (d5 22 rfl) ?_
  refine Ev.lor (d5 23 rfl) ?_
  cases hr
  exact Ev.lreturn rfl (d5 24 rfl)
def f_procInfo (s : St) (a0 : Int32) (a1 : Int32) : Option (Int32) :=
  if a0 < 0 then
    some (-1 : Int32)
  else
    if (3 : Int32) < a0 then
      some (-1 : Int32)
    else
      if a1 = 0 then
        grd (inb a0 4) <|
        some (s.2 10 (ix a0))
      else
        if a1 = (1 : Int32) then
          grd (inb a0 4) <|
          some (s.2 11 (ix a0))
        else
          if a1 = (2 : Int32) then
            grd (inb a0 4) <|
            if (s.2 9 (ix a0)) = 0 then
              some (0 : Int32)
            else
              some (1 : Int32)
          else
            if a1 = (3 : Int32) then
              grd (inb a0 4) <|
              some (s.2 12 (ix a0))
            else
              if a1 = (4 : Int32) then
                grd (inb a0 4) <|
                some (s.2 13 (ix a0))
              else
                if a1 = (5 : Int32) then
                  grd (inb a0 4) <|
                  some (s.2 14 (ix a0))
                else
                  some (-1 : Int32)
set_option maxRecDepth 100000 in
theorem e_procInfo {g : GT} {s : St} {a0 : Int32} {a1 : Int32} {w : Int32} (hw : HW g) {K : St → MHeap} {o : Nat} {r : Nat → Nat} (V : View (GG g) Ln K o r) (hr : f_procInfo s a0 a1 = some w) : EvC (GG g) M_procInfo [.ref o, .int a0, .int a1] (K s) ((some (.int w)), (K s)) := by
  refine EvC.enter (L0 := [.val (.ref o), .val (.int a0), .val (.int a1)]) pl_procInfo (fun h => nomatch h) rfl rfl ?_
  unfold f_procInfo at hr
  refine Ev.iloadN (d6 0 rfl) rfl ?_
  refine Ev.iflt (t := 9) (d6 1 rfl) rfl (fun c1 => ?_) (fun c1 => ?_)
  · replace hr := (if_pos c1).symm.trans hr
    refine Ev.iconst (z := -1) (d6 5 rfl) rfl ?_
    cases hr
    exact Ev.ireturn rfl (d6 6 rfl)
  · replace hr := (if_neg c1).symm.trans hr
    refine Ev.iloadN (d6 2 rfl) rfl ?_
    refine Ev.iconst (z := 3) (d6 3 rfl) rfl ?_
    refine Ev.icle (t := 11) (d6 4 rfl) rfl (fun c2 => ?_) (fun c2 => ?_)
    · replace hr := (if_pos c2).symm.trans hr
      refine Ev.iconst (z := -1) (d6 5 rfl) rfl ?_
      cases hr
      exact Ev.ireturn rfl (d6 6 rfl)
    · replace hr := (if_neg c2).symm.trans hr
      refine Ev.iloadN (d6 7 rfl) rfl ?_
      refine Ev.ifne (t := 22) (d6 8 rfl) rfl (fun c3 => ?_) (fun c3 => ?_)
      · replace hr := (if_pos c3).symm.trans hr
        refine Ev.aloadN (d6 9 rfl) rfl ?_
        refine Ev.gAr V (ww hw 35 rfl) (d6 10 rfl) (j := 10) rfl ?_
        refine Ev.iloadN (d6 11 rfl) rfl ?_
        obtain ⟨b4, hr⟩ := grd_some hr
        refine Ev.ial V (j := 10) rfl rfl (d6 12 rfl) b4 ?_
        cases hr
        exact Ev.ireturn rfl (d6 13 rfl)
      · replace hr := (if_neg c3).symm.trans hr
        refine Ev.iloadN (d6 14 rfl) rfl ?_
        refine Ev.iconst (z := 1) (d6 15 rfl) rfl ?_
        refine Ev.icne (t := 34) (d6 16 rfl) rfl (fun c5 => ?_) (fun c5 => ?_)
        · replace hr := (if_pos c5).symm.trans hr
          refine Ev.aloadN (d6 17 rfl) rfl ?_
          refine Ev.gAr V (ww hw 37 rfl) (d6 18 rfl) (j := 11) rfl ?_
          refine Ev.iloadN (d6 19 rfl) rfl ?_
          obtain ⟨b6, hr⟩ := grd_some hr
          refine Ev.ial V (j := 11) rfl rfl (d6 20 rfl) b6 ?_
          cases hr
          exact Ev.ireturn rfl (d6 21 rfl)
        · replace hr := (if_neg c5).symm.trans hr
          refine Ev.iloadN (d6 22 rfl) rfl ?_
          refine Ev.iconst (z := 2) (d6 23 rfl) rfl ?_
          refine Ev.icne (t := 54) (d6 24 rfl) rfl (fun c7 => ?_) (fun c7 => ?_)
          · replace hr := (if_pos c7).symm.trans hr
            refine Ev.aloadN (d6 25 rfl) rfl ?_
            refine Ev.gAr V (ww hw 33 rfl) (d6 26 rfl) (j := 9) rfl ?_
            refine Ev.iloadN (d6 27 rfl) rfl ?_
            obtain ⟨b8, hr⟩ := grd_some hr
            refine Ev.bal V (j := 9) rfl rfl (d6 28 rfl) b8 ?_
            refine Ev.ifeq (t := 52) (d6 29 rfl) rfl (fun c9 => ?_) (fun c9 => ?_)
            · replace hr := (if_pos c9).symm.trans hr
              refine Ev.iconst (z := 0) (d6 32 rfl) rfl ?_
              cases hr
              exact Ev.ireturn rfl (d6 33 rfl)
            · replace hr := (if_neg c9).symm.trans hr
              refine Ev.iconst (z := 1) (d6 30 rfl) rfl ?_
              refine Ev.goto (t := 53) (d6 31 rfl) rfl ?_
              cases hr
              exact Ev.ireturn rfl (d6 33 rfl)
          · replace hr := (if_neg c7).symm.trans hr
            refine Ev.iloadN (d6 34 rfl) rfl ?_
            refine Ev.iconst (z := 3) (d6 35 rfl) rfl ?_
            refine Ev.icne (t := 66) (d6 36 rfl) rfl (fun c10 => ?_) (fun c10 => ?_)
            · replace hr := (if_pos c10).symm.trans hr
              refine Ev.aloadN (d6 37 rfl) rfl ?_
              refine Ev.gAr V (ww hw 39 rfl) (d6 38 rfl) (j := 12) rfl ?_
              refine Ev.iloadN (d6 39 rfl) rfl ?_
              obtain ⟨b11, hr⟩ := grd_some hr
              refine Ev.ial V (j := 12) rfl rfl (d6 40 rfl) b11 ?_
              cases hr
              exact Ev.ireturn rfl (d6 41 rfl)
            · replace hr := (if_neg c10).symm.trans hr
              refine Ev.iloadN (d6 42 rfl) rfl ?_
              refine Ev.iconst (z := 4) (d6 43 rfl) rfl ?_
              refine Ev.icne (t := 78) (d6 44 rfl) rfl (fun c12 => ?_) (fun c12 => ?_)
              · replace hr := (if_pos c12).symm.trans hr
                refine Ev.aloadN (d6 45 rfl) rfl ?_
                refine Ev.gAr V (ww hw 41 rfl) (d6 46 rfl) (j := 13) rfl ?_
                refine Ev.iloadN (d6 47 rfl) rfl ?_
                obtain ⟨b13, hr⟩ := grd_some hr
                refine Ev.ial V (j := 13) rfl rfl (d6 48 rfl) b13 ?_
                cases hr
                exact Ev.ireturn rfl (d6 49 rfl)
              · replace hr := (if_neg c12).symm.trans hr
                refine Ev.iloadN (d6 50 rfl) rfl ?_
                refine Ev.iconst (z := 5) (d6 51 rfl) rfl ?_
                refine Ev.icne (t := 90) (d6 52 rfl) rfl (fun c14 => ?_) (fun c14 => ?_)
                · replace hr := (if_pos c14).symm.trans hr
                  refine Ev.aloadN (d6 53 rfl) rfl ?_
                  refine Ev.gAr V (ww hw 43 rfl) (d6 54 rfl) (j := 14) rfl ?_
                  refine Ev.iloadN (d6 55 rfl) rfl ?_
                  obtain ⟨b15, hr⟩ := grd_some hr
                  refine Ev.ial V (j := 14) rfl rfl (d6 56 rfl) b15 ?_
                  cases hr
                  exact Ev.ireturn rfl (d6 57 rfl)
                · replace hr := (if_neg c14).symm.trans hr
                  refine Ev.iconst (z := -1) (d6 58 rfl) rfl ?_
                  cases hr
                  exact Ev.ireturn rfl (d6 59 rfl)
def f_hit (a0 : Int32) (a1 : Int32) (a2 : Int32) (a3 : Int32) (s : St) : Option (St) :=
  grd (inb a1 4) <|
  bnd (setA s 10 (ix a1) ((s.2 10 (ix a1)) + (1 : Int32))) fun s2 =>
  bnd (setA s2 14 (ix a1) ((s2.2 14 (ix a1)) + (1 : Int32))) fun s3 =>
  grd (inb a0 32) <|
  bnd (setA s3 6 (ix a0) (1 : Int32)) fun s5 =>
  if a2 = 0 then
    some s5
  else
    bnd (setA s5 4 (ix a0) a3) fun s7 =>
    bnd (setA s7 5 (ix a0) (1 : Int32)) fun s8 =>
    bnd (setA s8 8 (ix a0) (0 : Int32)) fun s9 =>
    some s9
set_option maxRecDepth 100000 in
theorem e_hit {g : GT} {a0 : Int32} {a1 : Int32} {a2 : Int32} {a3 : Int32} {s : St} {w : St} (hw : HW g) {K : St → MHeap} {o : Nat} {r : Nat → Nat} (V : View (GG g) Ln K o r) (hr : f_hit a0 a1 a2 a3 s = some w) : EvC (GG g) M_hit [.ref o, .int a0, .int a1, .int a2, .int a3] (K s) (none, (K w)) := by
  refine EvC.enter (L0 := [.val (.ref o), .val (.int a0), .val (.int a1), .val (.int a2), .val (.int a3)]) pl_hit (fun _ => rfl) rfl rfl ?_
  unfold f_hit at hr
  refine Ev.aloadN (d15 0 rfl) rfl ?_
  refine Ev.gAr V (ww hw 35 rfl) (d15 1 rfl) (j := 10) rfl ?_
  refine Ev.iloadN (d15 2 rfl) rfl ?_
  refine Ev.dup2 (d15 3 rfl) rfl rfl ?_
  obtain ⟨b1, hr⟩ := grd_some hr
  refine Ev.ial V (j := 10) rfl rfl (d15 4 rfl) b1 ?_
  refine Ev.iconst (z := 1) (d15 5 rfl) rfl ?_
  refine Ev.iadd (d15 6 rfl) ?_
  refine Ev.ias V (j := 10) rfl rfl (d15 7 rfl) b1 ?_
  revert hr
  generalize setA s 10 (ix a1) ((s.2 10 (ix a1)) + (1 : Int32)) = s2
  intro hr
  replace hr := (bnd_eq _ _).symm.trans hr
  refine Ev.aloadN (d15 8 rfl) rfl ?_
  refine Ev.gAr V (ww hw 43 rfl) (d15 9 rfl) (j := 14) rfl ?_
  refine Ev.iloadN (d15 10 rfl) rfl ?_
  refine Ev.dup2 (d15 11 rfl) rfl rfl ?_
  refine Ev.ial V (j := 14) rfl rfl (d15 12 rfl) b1 ?_
  refine Ev.iconst (z := 1) (d15 13 rfl) rfl ?_
  refine Ev.iadd (d15 14 rfl) ?_
  refine Ev.ias V (j := 14) rfl rfl (d15 15 rfl) b1 ?_
  revert hr
  generalize setA s2 14 (ix a1) ((s2.2 14 (ix a1)) + (1 : Int32)) = s3
  intro hr
  replace hr := (bnd_eq _ _).symm.trans hr
  refine Ev.aloadN (d15 16 rfl) rfl ?_
  refine Ev.gAr V (ww hw 26 rfl) (d15 17 rfl) (j := 6) rfl ?_
  refine Ev.iloadN (d15 18 rfl) rfl ?_
  refine Ev.iconst (z := 1) (d15 19 rfl) rfl ?_
  obtain ⟨b4, hr⟩ := grd_some hr
  refine Ev.ias V (j := 6) rfl rfl (d15 20 rfl) b4 ?_
  revert hr
  generalize setA s3 6 (ix a0) (1 : Int32) = s5
  intro hr
  replace hr := (bnd_eq _ _).symm.trans hr
  refine Ev.iloadN (d15 21 rfl) rfl ?_
  refine Ev.ifeq (t := 53) (d15 22 rfl) rfl (fun c6 => ?_) (fun c6 => ?_)
  · replace hr := (if_pos c6).symm.trans hr
    cases hr
    exact Ev.vreturn rfl (d15 38 rfl)
  · replace hr := (if_neg c6).symm.trans hr
    refine Ev.aloadN (d15 23 rfl) rfl ?_
    refine Ev.gAr V (ww hw 22 rfl) (d15 24 rfl) (j := 4) rfl ?_
    refine Ev.iloadN (d15 25 rfl) rfl ?_
    refine Ev.iload (d15 26 rfl) rfl ?_
    refine Ev.ias V (j := 4) rfl rfl (d15 27 rfl) b4 ?_
    revert hr
    generalize setA s5 4 (ix a0) a3 = s7
    intro hr
    replace hr := (bnd_eq _ _).symm.trans hr
    refine Ev.aloadN (d15 28 rfl) rfl ?_
    refine Ev.gAr V (ww hw 24 rfl) (d15 29 rfl) (j := 5) rfl ?_
    refine Ev.iloadN (d15 30 rfl) rfl ?_
    refine Ev.iconst (z := 1) (d15 31 rfl) rfl ?_
    refine Ev.ias V (j := 5) rfl rfl (d15 32 rfl) b4 ?_
    revert hr
    generalize setA s7 5 (ix a0) (1 : Int32) = s8
    intro hr
    replace hr := (bnd_eq _ _).symm.trans hr
    refine Ev.aloadN (d15 33 rfl) rfl ?_
    refine Ev.gAr V (ww hw 30 rfl) (d15 34 rfl) (j := 8) rfl ?_
    refine Ev.iloadN (d15 35 rfl) rfl ?_
    refine Ev.iconst (z := 0) (d15 36 rfl) rfl ?_
    refine Ev.ias V (j := 8) rfl rfl (d15 37 rfl) b4 ?_
    revert hr
    generalize setA s8 8 (ix a0) (0 : Int32) = s9
    intro hr
    replace hr := (bnd_eq _ _).symm.trans hr
    cases hr
    exact Ev.vreturn rfl (d15 38 rfl)
def f_sweep_2 (n : Nat) : Nat → Int32 → St → Option (Int32 × St)
  | 0 => fun _ _ => none
  | k + 1 => fun x1 s =>
    if x1 < (s.1 15) then
      grd ((s.1 15) ≠ 0) <|
      grd (inb (((s.1 20) + x1) % (s.1 15)) 32) <|
      bnd (s.2 2 (ix (((s.1 20) + x1) % (s.1 15)))) fun v4 =>
      if v4 < 0 then
        some ((((s.1 20) + x1) % (s.1 15)), s)
      else
        if (3 : Int32) < v4 then
          some ((((s.1 20) + x1) % (s.1 15)), s)
        else
          if (s.2 6 (ix (((s.1 20) + x1) % (s.1 15)))) = 0 then
            grd (inb v4 4) <|
            bnd ((s.2 10 (ix v4)) - (s.2 7 (ix (((s.1 20) + x1) % (s.1 15))))) fun v9 =>
            if (s.1 16) < v9 then
              if (s.2 5 (ix (((s.1 20) + x1) % (s.1 15)))) = 0 then
                some ((((s.1 20) + x1) % (s.1 15)), s)
              else
                if (s.2 8 (ix (((s.1 20) + x1) % (s.1 15)))) = 0 then
                  bnd (setA s 8 (ix (((s.1 20) + x1) % (s.1 15))) ((s.1 19) + (s.1 17))) fun s13 =>
                  f_sweep_2 n k (x1 + (1 : Int32)) s13
                else
                  f_sweep_2 n k (x1 + (1 : Int32)) s
            else
              f_sweep_2 n k (x1 + (1 : Int32)) s
          else
            bnd (setA s 6 (ix (((s.1 20) + x1) % (s.1 15))) (0 : Int32)) fun s14 =>
            grd (inb v4 4) <|
            bnd (setA s14 7 (ix (((s.1 20) + x1) % (s.1 15))) (s14.2 10 (ix v4))) fun s16 =>
            f_sweep_2 n k (x1 + (1 : Int32)) s16
    else
      some ((-1 : Int32), s)
set_option maxRecDepth 100000 in
theorem e_sweep_2 {g : GT} {n : Nat} (hw : HW g) {K : St → MHeap} {o : Nat} {r : Nat → Nat} (V : View (GG g) Ln K o r) (k : Nat) : ∀ (x1 : Int32) (s : St) (y2 : Slot) (hy2 : one1 y2 = true) (y3 : Slot) (hy3 : one1 y3 = true) (y4 : Slot) (hy4 : one1 y4 = true) (w : Int32 × St), f_sweep_2 n k x1 s = some w → Ev (GG g) M_sweep 2 [.val (.ref o), .val (.int x1), y2, y3, y4] [] (K s) ((some (.int w.1)), (K w.2)) := by
  induction k with
  | zero => intro x1 s y2 hy2 y3 hy3 y4 hy4 w hr; rw [f_sweep_2] at hr; cases hr
  | succ k ih =>
    intro x1 s y2 hy2 y3 hy3 y4 hy4 w hr
    rw [f_sweep_2] at hr
    refine Ev.iloadN (d10 2 rfl) rfl ?_
    refine Ev.aloadN (d10 3 rfl) rfl ?_
    refine Ev.gI V (ww hw 49 rfl) (d10 4 rfl) (j := 15) rfl rfl ?_
    refine Ev.icge (t := 142) (d10 5 rfl) rfl (fun c1 => ?_) (fun c1 => ?_)
    · replace hr := (if_pos c1).symm.trans hr
      refine Ev.aloadN (d10 6 rfl) rfl ?_
      refine Ev.gI V (ww hw 90 rfl) (d10 7 rfl) (j := 20) rfl rfl ?_
      refine Ev.iloadN (d10 8 rfl) rfl ?_
      refine Ev.iadd (d10 9 rfl) ?_
      refine Ev.aloadN (d10 10 rfl) rfl ?_
      refine Ev.gI V (ww hw 49 rfl) (d10 11 rfl) (j := 15) rfl rfl ?_
      obtain ⟨c2, hr⟩ := grd_some hr
      refine Ev.irem (d10 12 rfl) c2 ?_
      refine Ev.istDN (L' := [.val (.ref o), .val (.int x1), .val (.int (((s.1 20) + x1) % (s.1 15))), y3, y4]) (d10 13 rfl) rfl hy2 rfl ?_
      refine Ev.aloadN (d10 14 rfl) rfl ?_
      refine Ev.gAr V (ww hw 18 rfl) (d10 15 rfl) (j := 2) rfl ?_
      refine Ev.iloadN (d10 16 rfl) rfl ?_
      obtain ⟨b3, hr⟩ := grd_some hr
      refine Ev.ial V (j := 2) rfl rfl (d10 17 rfl) b3 ?_
      revert hr
      generalize (s.2 2 (ix (((s.1 20) + x1) % (s.1 15)))) = v4
      intro hr
      replace hr := (bnd_eq _ _).symm.trans hr
      refine Ev.istDN (L' := [.val (.ref o), .val (.int x1), .val (.int (((s.1 20) + x1) % (s.1 15))), .val (.int v4), y4]) (d10 18 rfl) rfl hy3 rfl ?_
      refine Ev.iloadN (d10 19 rfl) rfl ?_
      refine Ev.iflt (t := 38) (d10 20 rfl) rfl (fun c5 => ?_) (fun c5 => ?_)
      · replace hr := (if_pos c5).symm.trans hr
        refine Ev.iloadN (d10 24 rfl) rfl ?_
        cases hr
        exact Ev.ireturn rfl (d10 25 rfl)
      · replace hr := (if_neg c5).symm.trans hr
        refine Ev.iloadN (d10 21 rfl) rfl ?_
        refine Ev.iconst (z := 3) (d10 22 rfl) rfl ?_
        refine Ev.icle (t := 40) (d10 23 rfl) rfl (fun c6 => ?_) (fun c6 => ?_)
        · replace hr := (if_pos c6).symm.trans hr
          refine Ev.iloadN (d10 24 rfl) rfl ?_
          cases hr
          exact Ev.ireturn rfl (d10 25 rfl)
        · replace hr := (if_neg c6).symm.trans hr
          refine Ev.aloadN (d10 26 rfl) rfl ?_
          refine Ev.gAr V (ww hw 26 rfl) (d10 27 rfl) (j := 6) rfl ?_
          refine Ev.iloadN (d10 28 rfl) rfl ?_
          refine Ev.ial V (j := 6) rfl rfl (d10 29 rfl) b3 ?_
          refine Ev.ifeq (t := 71) (d10 30 rfl) rfl (fun c7 => ?_) (fun c7 => ?_)
          · replace hr := (if_pos c7).symm.trans hr
            refine Ev.aloadN (d10 45 rfl) rfl ?_
            refine Ev.gAr V (ww hw 35 rfl) (d10 46 rfl) (j := 10) rfl ?_
            refine Ev.iloadN (d10 47 rfl) rfl ?_
            obtain ⟨b8, hr⟩ := grd_some hr
            refine Ev.ial V (j := 10) rfl rfl (d10 48 rfl) b8 ?_
            refine Ev.aloadN (d10 49 rfl) rfl ?_
            refine Ev.gAr V (ww hw 28 rfl) (d10 50 rfl) (j := 7) rfl ?_
            refine Ev.iloadN (d10 51 rfl) rfl ?_
            refine Ev.ial V (j := 7) rfl rfl (d10 52 rfl) b3 ?_
            refine Ev.isub (d10 53 rfl) ?_
            revert hr
            generalize ((s.2 10 (ix v4)) - (s.2 7 (ix (((s.1 20) + x1) % (s.1 15))))) = v9
            intro hr
            replace hr := (bnd_eq _ _).symm.trans hr
            refine Ev.istD (L' := [.val (.ref o), .val (.int x1), .val (.int (((s.1 20) + x1) % (s.1 15))), .val (.int v4), .val (.int v9)]) (d10 54 rfl) rfl hy4 rfl ?_
            refine Ev.iload (d10 55 rfl) rfl ?_
            refine Ev.aloadN (d10 56 rfl) rfl ?_
            refine Ev.gI V (ww hw 51 rfl) (d10 57 rfl) (j := 16) rfl rfl ?_
            refine Ev.icgt (t := 98) (d10 58 rfl) rfl (fun c10 => ?_) (fun c10 => ?_)
            · replace hr := (if_pos c10).symm.trans hr
              refine Ev.aloadN (d10 60 rfl) rfl ?_
              refine Ev.gAr V (ww hw 24 rfl) (d10 61 rfl) (j := 5) rfl ?_
              refine Ev.iloadN (d10 62 rfl) rfl ?_
              refine Ev.ial V (j := 5) rfl rfl (d10 63 rfl) b3 ?_
              refine Ev.ifeq (t := 134) (d10 64 rfl) rfl (fun c11 => ?_) (fun c11 => ?_)
              · replace hr := (if_pos c11).symm.trans hr
                refine Ev.iloadN (d10 80 rfl) rfl ?_
                cases hr
                exact Ev.ireturn rfl (d10 81 rfl)
              · replace hr := (if_neg c11).symm.trans hr
                refine Ev.aloadN (d10 65 rfl) rfl ?_
                refine Ev.gAr V (ww hw 30 rfl) (d10 66 rfl) (j := 8) rfl ?_
                refine Ev.iloadN (d10 67 rfl) rfl ?_
                refine Ev.ial V (j := 8) rfl rfl (d10 68 rfl) b3 ?_
                refine Ev.ifne (t := 136) (d10 69 rfl) rfl (fun c12 => ?_) (fun c12 => ?_)
                · replace hr := (if_pos c12).symm.trans hr
                  refine Ev.aloadN (d10 70 rfl) rfl ?_
                  refine Ev.gAr V (ww hw 30 rfl) (d10 71 rfl) (j := 8) rfl ?_
                  refine Ev.iloadN (d10 72 rfl) rfl ?_
                  refine Ev.aloadN (d10 73 rfl) rfl ?_
                  refine Ev.gI V (ww hw 80 rfl) (d10 74 rfl) (j := 19) rfl rfl ?_
                  refine Ev.aloadN (d10 75 rfl) rfl ?_
                  refine Ev.gI V (ww hw 53 rfl) (d10 76 rfl) (j := 17) rfl rfl ?_
                  refine Ev.iadd (d10 77 rfl) ?_
                  refine Ev.ias V (j := 8) rfl rfl (d10 78 rfl) b3 ?_
                  revert hr
                  generalize setA s 8 (ix (((s.1 20) + x1) % (s.1 15))) ((s.1 19) + (s.1 17)) = s13
                  intro hr
                  replace hr := (bnd_eq _ _).symm.trans hr
                  refine Ev.goto (t := 136) (d10 79 rfl) rfl ?_
                  refine Ev.iinc (z := 1) (L' := [.val (.ref o), .val (.int (x1 + (1 : Int32))), .val (.int (((s.1 20) + x1) % (s.1 15))), .val (.int v4), .val (.int v9)]) (d10 82 rfl) rfl rfl rfl ?_
                  refine Ev.goto (t := 2) (d10 83 rfl) rfl ?_
                  exact ih (x1 + (1 : Int32)) s13 (.val (.int (((s.1 20) + x1) % (s.1 15)))) rfl (.val (.int v4)) rfl (.val (.int v9)) rfl _ hr
                · replace hr := (if_neg c12).symm.trans hr
                  refine Ev.iinc (z := 1) (L' := [.val (.ref o), .val (.int (x1 + (1 : Int32))), .val (.int (((s.1 20) + x1) % (s.1 15))), .val (.int v4), .val (.int v9)]) (d10 82 rfl) rfl rfl rfl ?_
                  refine Ev.goto (t := 2) (d10 83 rfl) rfl ?_
                  exact ih (x1 + (1 : Int32)) s (.val (.int (((s.1 20) + x1) % (s.1 15)))) rfl (.val (.int v4)) rfl (.val (.int v9)) rfl _ hr
            · replace hr := (if_neg c10).symm.trans hr
              refine Ev.goto (t := 136) (d10 59 rfl) rfl ?_
              refine Ev.iinc (z := 1) (L' := [.val (.ref o), .val (.int (x1 + (1 : Int32))), .val (.int (((s.1 20) + x1) % (s.1 15))), .val (.int v4), .val (.int v9)]) (d10 82 rfl) rfl rfl rfl ?_
              refine Ev.goto (t := 2) (d10 83 rfl) rfl ?_
              exact ih (x1 + (1 : Int32)) s (.val (.int (((s.1 20) + x1) % (s.1 15)))) rfl (.val (.int v4)) rfl (.val (.int v9)) rfl _ hr
          · replace hr := (if_neg c7).symm.trans hr
            refine Ev.aloadN (d10 31 rfl) rfl ?_
            refine Ev.gAr V (ww hw 26 rfl) (d10 32 rfl) (j := 6) rfl ?_
            refine Ev.iloadN (d10 33 rfl) rfl ?_
            refine Ev.iconst (z := 0) (d10 34 rfl) rfl ?_
            refine Ev.ias V (j := 6) rfl rfl (d10 35 rfl) b3 ?_
            revert hr
            generalize setA s 6 (ix (((s.1 20) + x1) % (s.1 15))) (0 : Int32) = s14
            intro hr
            replace hr := (bnd_eq _ _).symm.trans hr
            refine Ev.aloadN (d10 36 rfl) rfl ?_
            refine Ev.gAr V (ww hw 28 rfl) (d10 37 rfl) (j := 7) rfl ?_
            refine Ev.iloadN (d10 38 rfl) rfl ?_
            refine Ev.aloadN (d10 39 rfl) rfl ?_
            refine Ev.gAr V (ww hw 35 rfl) (d10 40 rfl) (j := 10) rfl ?_
            refine Ev.iloadN (d10 41 rfl) rfl ?_
            obtain ⟨b15, hr⟩ := grd_some hr
            refine Ev.ial V (j := 10) rfl rfl (d10 42 rfl) b15 ?_
            refine Ev.ias V (j := 7) rfl rfl (d10 43 rfl) b3 ?_
            revert hr
            generalize setA s14 7 (ix (((s.1 20) + x1) % (s.1 15))) (s14.2 10 (ix v4)) = s16
            intro hr
            replace hr := (bnd_eq _ _).symm.trans hr
            refine Ev.goto (t := 136) (d10 44 rfl) rfl ?_
            refine Ev.iinc (z := 1) (L' := [.val (.ref o), .val (.int (x1 + (1 : Int32))), .val (.int (((s.1 20) + x1) % (s.1 15))), .val (.int v4), y4]) (d10 82 rfl) rfl rfl rfl ?_
            refine Ev.goto (t := 2) (d10 83 rfl) rfl ?_
            exact ih (x1 + (1 : Int32)) s16 (.val (.int (((s.1 20) + x1) % (s.1 15)))) rfl (.val (.int v4)) rfl y4 hy4 _ hr
    · replace hr := (if_neg c1).symm.trans hr
      refine Ev.iconst (z := -1) (d10 84 rfl) rfl ?_
      cases hr
      exact Ev.ireturn rfl (d10 85 rfl)
def f_sweep (n : Nat) (s : St) : Option (Int32 × St) :=
  f_sweep_2 n n (0 : Int32) s
set_option maxRecDepth 100000 in
theorem e_sweep {g : GT} {n : Nat} {s : St} {w : Int32 × St} (hw : HW g) {K : St → MHeap} {o : Nat} {r : Nat → Nat} (V : View (GG g) Ln K o r) (hr : f_sweep n s = some w) : EvC (GG g) M_sweep [.ref o] (K s) ((some (.int w.1)), (K w.2)) := by
  refine EvC.enter (L0 := [.val (.ref o), .unset, .unset, .unset, .unset]) pl_sweep (fun h => nomatch h) rfl rfl ?_
  unfold f_sweep at hr
  refine Ev.iconst (z := 0) (d10 0 rfl) rfl ?_
  refine Ev.istDN (L' := [.val (.ref o), .val (.int (0 : Int32)), .unset, .unset, .unset]) (d10 1 rfl) rfl rfl rfl ?_
  exact e_sweep_2 hw V  n (0 : Int32) s .unset rfl .unset rfl .unset rfl _ hr
def f_load_160 (x1 : Int32) (s : St) : Option (St) :=
  grd ((s.1 15) ≠ 0) <|
  bnd (setI s 20 ((x1 + (1 : Int32)) % (s.1 15))) fun s2 =>
  some s2
set_option maxRecDepth 100000 in
theorem e_load_160 {g : GT} (hw : HW g) {K : St → MHeap} {o : Nat} {r : Nat → Nat} (V : View (GG g) Ln K o r) (x1 : Int32) (s : St) (y2 : Slot) (hy2 : one1 y2 = true) (y3 : Slot) (hy3 : one1 y3 = true) (y4 : Slot) (hy4 : one1 y4 = true) (y5 : Slot) (hy5 : one1 y5 = true) (y6 : Slot) (hy6 : one1 y6 = true) (y7 : Slot) (hy7 : one1 y7 = true) (w : St) (hr : f_load_160 x1 s = some w) : Ev (GG g) M_load 160 [.val (.ref o), .val (.int x1), y2, y3, y4, y5, y6, y7] [] (K s) (none, (K w)) := by
  unfold f_load_160 at hr
  refine Ev.aloadN (d11 108 rfl) rfl ?_
  refine Ev.iloadN (d11 109 rfl) rfl ?_
  refine Ev.iconst (z := 1) (d11 110 rfl) rfl ?_
  refine Ev.iadd (d11 111 rfl) ?_
  refine Ev.aloadN (d11 112 rfl) rfl ?_
  refine Ev.gI V (ww hw 49 rfl) (d11 113 rfl) (j := 15) rfl rfl ?_
  obtain ⟨c1, hr⟩ := grd_some hr
  refine Ev.irem (d11 114 rfl) c1 ?_
  refine Ev.pI V (gok hw) (ww hw 90 rfl) (Or.inl (ww hw 91 rfl)) (d11 115 rfl) (j := 20) rfl ?_
  revert hr
  generalize setI s 20 ((x1 + (1 : Int32)) % (s.1 15)) = s2
  intro hr
  replace hr := (bnd_eq _ _).symm.trans hr
  cases hr
  exact Ev.vreturn rfl (d11 116 rfl)
def f_load_44 (x1 : Int32) (x2 : Int32) (x3 : Int32) (x4 : Int32) (x5 : Int32) (s : St) : Option (St) :=
  grd (inb x1 32) <|
  bnd (setA s 2 (ix x1) x2) fun s2 =>
  bnd (setA s2 3 (ix x1) x3) fun s3 =>
  grd (inb ((x2 * (8 : Int32)) + x3) 32) <|
  bnd (setA s3 1 (ix ((x2 * (8 : Int32)) + x3)) x1) fun s5 =>
  bnd (setA s5 4 (ix x1) (s5.2 0 (ix ((x2 * (8 : Int32)) + x3)))) fun s6 =>
  bnd (setA s6 5 (ix x1) (0 : Int32)) fun s7 =>
  bnd (setA s7 8 (ix x1) (0 : Int32)) fun s8 =>
  grd (inb x2 4) <|
  bnd (setA s8 10 (ix x2) ((s8.2 10 (ix x2)) + (1 : Int32))) fun s10 =>
  bnd (setA s10 14 (ix x2) ((s10.2 14 (ix x2)) + (1 : Int32))) fun s11 =>
  bnd (setA s11 6 (ix x1) (1 : Int32)) fun s12 =>
  bnd (setA s12 7 (ix x1) (s12.2 10 (ix x2))) fun s13 =>
  if x4 = 0 then
    f_load_160 x1 s13
  else
    bnd (setA s13 4 (ix x1) x5) fun s15 =>
    bnd (setA s15 5 (ix x1) (1 : Int32)) fun s16 =>
    f_load_160 x1 s16
set_option maxRecDepth 100000 in
theorem e_load_44 {g : GT} (hw : HW g) {K : St → MHeap} {o : Nat} {r : Nat → Nat} (V : View (GG g) Ln K o r) (x1 : Int32) (x2 : Int32) (x3 : Int32) (x4 : Int32) (x5 : Int32) (s : St) (y6 : Slot) (hy6 : one1 y6 = true) (y7 : Slot) (hy7 : one1 y7 = true) (w : St) (hr : f_load_44 x1 x2 x3 x4 x5 s = some w) : Ev (GG g) M_load 44 [.val (.ref o), .val (.int x1), .val (.int x2), .val (.int x3), .val (.int x4), .val (.int x5), y6, y7] [] (K s) (none, (K w)) := by
  unfold f_load_44 at hr
  refine Ev.aloadN (d11 26 rfl) rfl ?_
  refine Ev.gAr V (ww hw 18 rfl) (d11 27 rfl) (j := 2) rfl ?_
  refine Ev.iloadN (d11 28 rfl) rfl ?_
  refine Ev.iloadN (d11 29 rfl) rfl ?_
  obtain ⟨b1, hr⟩ := grd_some hr
  refine Ev.ias V (j := 2) rfl rfl (d11 30 rfl) b1 ?_
  revert hr
  generalize setA s 2 (ix x1) x2 = s2
  intro hr
  replace hr := (bnd_eq _ _).symm.trans hr
  refine Ev.aloadN (d11 31 rfl) rfl ?_
  refine Ev.gAr V (ww hw 20 rfl) (d11 32 rfl) (j := 3) rfl ?_
  refine Ev.iloadN (d11 33 rfl) rfl ?_
  refine Ev.iloadN (d11 34 rfl) rfl ?_
  refine Ev.ias V (j := 3) rfl rfl (d11 35 rfl) b1 ?_
  revert hr
  generalize setA s2 3 (ix x1) x3 = s3
  intro hr
  replace hr := (bnd_eq _ _).symm.trans hr
  refine Ev.aloadN (d11 36 rfl) rfl ?_
  refine Ev.gAr V (ww hw 16 rfl) (d11 37 rfl) (j := 1) rfl ?_
  refine Ev.iloadN (d11 38 rfl) rfl ?_
  refine Ev.bipush (z := 8) (d11 39 rfl) rfl ?_
  refine Ev.imul (d11 40 rfl) ?_
  refine Ev.iloadN (d11 41 rfl) rfl ?_
  refine Ev.iadd (d11 42 rfl) ?_
  refine Ev.iloadN (d11 43 rfl) rfl ?_
  obtain ⟨b4, hr⟩ := grd_some hr
  refine Ev.ias V (j := 1) rfl rfl (d11 44 rfl) b4 ?_
  revert hr
  generalize setA s3 1 (ix ((x2 * (8 : Int32)) + x3)) x1 = s5
  intro hr
  replace hr := (bnd_eq _ _).symm.trans hr
  refine Ev.aloadN (d11 45 rfl) rfl ?_
  refine Ev.gAr V (ww hw 22 rfl) (d11 46 rfl) (j := 4) rfl ?_
  refine Ev.iloadN (d11 47 rfl) rfl ?_
  refine Ev.aloadN (d11 48 rfl) rfl ?_
  refine Ev.gAr V (ww hw 14 rfl) (d11 49 rfl) (j := 0) rfl ?_
  refine Ev.iloadN (d11 50 rfl) rfl ?_
  refine Ev.bipush (z := 8) (d11 51 rfl) rfl ?_
  refine Ev.imul (d11 52 rfl) ?_
  refine Ev.iloadN (d11 53 rfl) rfl ?_
  refine Ev.iadd (d11 54 rfl) ?_
  refine Ev.ial V (j := 0) rfl rfl (d11 55 rfl) b4 ?_
  refine Ev.ias V (j := 4) rfl rfl (d11 56 rfl) b1 ?_
  revert hr
  generalize setA s5 4 (ix x1) (s5.2 0 (ix ((x2 * (8 : Int32)) + x3))) = s6
  intro hr
  replace hr := (bnd_eq _ _).symm.trans hr
  refine Ev.aloadN (d11 57 rfl) rfl ?_
  refine Ev.gAr V (ww hw 24 rfl) (d11 58 rfl) (j := 5) rfl ?_
  refine Ev.iloadN (d11 59 rfl) rfl ?_
  refine Ev.iconst (z := 0) (d11 60 rfl) rfl ?_
  refine Ev.ias V (j := 5) rfl rfl (d11 61 rfl) b1 ?_
  revert hr
  generalize setA s6 5 (ix x1) (0 : Int32) = s7
  intro hr
  replace hr := (bnd_eq _ _).symm.trans hr
  refine Ev.aloadN (d11 62 rfl) rfl ?_
  refine Ev.gAr V (ww hw 30 rfl) (d11 63 rfl) (j := 8) rfl ?_
  refine Ev.iloadN (d11 64 rfl) rfl ?_
  refine Ev.iconst (z := 0) (d11 65 rfl) rfl ?_
  refine Ev.ias V (j := 8) rfl rfl (d11 66 rfl) b1 ?_
  revert hr
  generalize setA s7 8 (ix x1) (0 : Int32) = s8
  intro hr
  replace hr := (bnd_eq _ _).symm.trans hr
  refine Ev.aloadN (d11 67 rfl) rfl ?_
  refine Ev.gAr V (ww hw 35 rfl) (d11 68 rfl) (j := 10) rfl ?_
  refine Ev.iloadN (d11 69 rfl) rfl ?_
  refine Ev.dup2 (d11 70 rfl) rfl rfl ?_
  obtain ⟨b9, hr⟩ := grd_some hr
  refine Ev.ial V (j := 10) rfl rfl (d11 71 rfl) b9 ?_
  refine Ev.iconst (z := 1) (d11 72 rfl) rfl ?_
  refine Ev.iadd (d11 73 rfl) ?_
  refine Ev.ias V (j := 10) rfl rfl (d11 74 rfl) b9 ?_
  revert hr
  generalize setA s8 10 (ix x2) ((s8.2 10 (ix x2)) + (1 : Int32)) = s10
  intro hr
  replace hr := (bnd_eq _ _).symm.trans hr
  refine Ev.aloadN (d11 75 rfl) rfl ?_
  refine Ev.gAr V (ww hw 43 rfl) (d11 76 rfl) (j := 14) rfl ?_
  refine Ev.iloadN (d11 77 rfl) rfl ?_
  refine Ev.dup2 (d11 78 rfl) rfl rfl ?_
  refine Ev.ial V (j := 14) rfl rfl (d11 79 rfl) b9 ?_
  refine Ev.iconst (z := 1) (d11 80 rfl) rfl ?_
  refine Ev.iadd (d11 81 rfl) ?_
  refine Ev.ias V (j := 14) rfl rfl (d11 82 rfl) b9 ?_
  revert hr
  generalize setA s10 14 (ix x2) ((s10.2 14 (ix x2)) + (1 : Int32)) = s11
  intro hr
  replace hr := (bnd_eq _ _).symm.trans hr
  refine Ev.aloadN (d11 83 rfl) rfl ?_
  refine Ev.gAr V (ww hw 26 rfl) (d11 84 rfl) (j := 6) rfl ?_
  refine Ev.iloadN (d11 85 rfl) rfl ?_
  refine Ev.iconst (z := 1) (d11 86 rfl) rfl ?_
  refine Ev.ias V (j := 6) rfl rfl (d11 87 rfl) b1 ?_
  revert hr
  generalize setA s11 6 (ix x1) (1 : Int32) = s12
  intro hr
  replace hr := (bnd_eq _ _).symm.trans hr
  refine Ev.aloadN (d11 88 rfl) rfl ?_
  refine Ev.gAr V (ww hw 28 rfl) (d11 89 rfl) (j := 7) rfl ?_
  refine Ev.iloadN (d11 90 rfl) rfl ?_
  refine Ev.aloadN (d11 91 rfl) rfl ?_
  refine Ev.gAr V (ww hw 35 rfl) (d11 92 rfl) (j := 10) rfl ?_
  refine Ev.iloadN (d11 93 rfl) rfl ?_
  refine Ev.ial V (j := 10) rfl rfl (d11 94 rfl) b9 ?_
  refine Ev.ias V (j := 7) rfl rfl (d11 95 rfl) b1 ?_
  revert hr
  generalize setA s12 7 (ix x1) (s12.2 10 (ix x2)) = s13
  intro hr
  replace hr := (bnd_eq _ _).symm.trans hr
  refine Ev.iload (d11 96 rfl) rfl ?_
  refine Ev.ifeq (t := 160) (d11 97 rfl) rfl (fun c14 => ?_) (fun c14 => ?_)
  · replace hr := (if_pos c14).symm.trans hr
    exact e_load_160 hw V  x1 s13 (.val (.int x2)) rfl (.val (.int x3)) rfl (.val (.int x4)) rfl (.val (.int x5)) rfl y6 hy6 y7 hy7 _ hr
  · replace hr := (if_neg c14).symm.trans hr
    refine Ev.aloadN (d11 98 rfl) rfl ?_
    refine Ev.gAr V (ww hw 22 rfl) (d11 99 rfl) (j := 4) rfl ?_
    refine Ev.iloadN (d11 100 rfl) rfl ?_
    refine Ev.iload (d11 101 rfl) rfl ?_
    refine Ev.ias V (j := 4) rfl rfl (d11 102 rfl) b1 ?_
    revert hr
    generalize setA s13 4 (ix x1) x5 = s15
    intro hr
    replace hr := (bnd_eq _ _).symm.trans hr
    refine Ev.aloadN (d11 103 rfl) rfl ?_
    refine Ev.gAr V (ww hw 24 rfl) (d11 104 rfl) (j := 5) rfl ?_
    refine Ev.iloadN (d11 105 rfl) rfl ?_
    refine Ev.iconst (z := 1) (d11 106 rfl) rfl ?_
    refine Ev.ias V (j := 5) rfl rfl (d11 107 rfl) b1 ?_
    revert hr
    generalize setA s15 5 (ix x1) (1 : Int32) = s16
    intro hr
    replace hr := (bnd_eq _ _).symm.trans hr
    exact e_load_160 hw V  x1 s16 (.val (.int x2)) rfl (.val (.int x3)) rfl (.val (.int x4)) rfl (.val (.int x5)) rfl y6 hy6 y7 hy7 _ hr
def f_load (a0 : Int32) (a1 : Int32) (a2 : Int32) (a3 : Int32) (a4 : Int32) (s : St) : Option (St) :=
  grd (inb a0 32) <|
  if (s.2 2 (ix a0)) < 0 then
    f_load_44 a0 a1 a2 a3 a4 s
  else
    if (3 : Int32) < (s.2 2 (ix a0)) then
      f_load_44 a0 a1 a2 a3 a4 s
    else
      bnd (((s.2 2 (ix a0)) * (8 : Int32)) + ((s.2 3 (ix a0)) &&& (7 : Int32))) fun v4 =>
      grd (inb v4 32) <|
      bnd (setA s 1 (ix v4) (-1 : Int32)) fun s6 =>
      f_load_44 a0 a1 a2 a3 a4 s6
set_option maxRecDepth 100000 in
theorem e_load {g : GT} {a0 : Int32} {a1 : Int32} {a2 : Int32} {a3 : Int32} {a4 : Int32} {s : St} {w : St} (hw : HW g) {K : St → MHeap} {o : Nat} {r : Nat → Nat} (V : View (GG g) Ln K o r) (hr : f_load a0 a1 a2 a3 a4 s = some w) : EvC (GG g) M_load [.ref o, .int a0, .int a1, .int a2, .int a3, .int a4] (K s) (none, (K w)) := by
  refine EvC.enter (L0 := [.val (.ref o), .val (.int a0), .val (.int a1), .val (.int a2), .val (.int a3), .val (.int a4), .unset, .unset]) pl_load (fun _ => rfl) rfl rfl ?_
  unfold f_load at hr
  refine Ev.aloadN (d11 0 rfl) rfl ?_
  refine Ev.gAr V (ww hw 18 rfl) (d11 1 rfl) (j := 2) rfl ?_
  refine Ev.iloadN (d11 2 rfl) rfl ?_
  obtain ⟨b1, hr⟩ := grd_some hr
  refine Ev.ial V (j := 2) rfl rfl (d11 3 rfl) b1 ?_
  refine Ev.istD (L' := [.val (.ref o), .val (.int a0), .val (.int a1), .val (.int a2), .val (.int a3), .val (.int a4), .val (.int (s.2 2 (ix a0))), .unset]) (d11 4 rfl) rfl rfl rfl ?_
  refine Ev.iload (d11 5 rfl) rfl ?_
  refine Ev.iflt (t := 44) (d11 6 rfl) rfl (fun c2 => ?_) (fun c2 => ?_)
  · replace hr := (if_pos c2).symm.trans hr
    exact e_load_44 hw V  a0 a1 a2 a3 a4 s (.val (.int (s.2 2 (ix a0)))) rfl .unset rfl _ hr
  · replace hr := (if_neg c2).symm.trans hr
    refine Ev.iload (d11 7 rfl) rfl ?_
    refine Ev.iconst (z := 3) (d11 8 rfl) rfl ?_
    refine Ev.icgt (t := 44) (d11 9 rfl) rfl (fun c3 => ?_) (fun c3 => ?_)
    · replace hr := (if_pos c3).symm.trans hr
      exact e_load_44 hw V  a0 a1 a2 a3 a4 s (.val (.int (s.2 2 (ix a0)))) rfl .unset rfl _ hr
    · replace hr := (if_neg c3).symm.trans hr
      refine Ev.iload (d11 10 rfl) rfl ?_
      refine Ev.bipush (z := 8) (d11 11 rfl) rfl ?_
      refine Ev.imul (d11 12 rfl) ?_
      refine Ev.aloadN (d11 13 rfl) rfl ?_
      refine Ev.gAr V (ww hw 20 rfl) (d11 14 rfl) (j := 3) rfl ?_
      refine Ev.iloadN (d11 15 rfl) rfl ?_
      refine Ev.ial V (j := 3) rfl rfl (d11 16 rfl) b1 ?_
      refine Ev.bipush (z := 7) (d11 17 rfl) rfl ?_
      refine Ev.iand (d11 18 rfl) ?_
      refine Ev.iadd (d11 19 rfl) ?_
      revert hr
      generalize (((s.2 2 (ix a0)) * (8 : Int32)) + ((s.2 3 (ix a0)) &&& (7 : Int32))) = v4
      intro hr
      replace hr := (bnd_eq _ _).symm.trans hr
      refine Ev.istD (L' := [.val (.ref o), .val (.int a0), .val (.int a1), .val (.int a2), .val (.int a3), .val (.int a4), .val (.int (s.2 2 (ix a0))), .val (.int v4)]) (d11 20 rfl) rfl rfl rfl ?_
      refine Ev.aloadN (d11 21 rfl) rfl ?_
      refine Ev.gAr V (ww hw 16 rfl) (d11 22 rfl) (j := 1) rfl ?_
      refine Ev.iload (d11 23 rfl) rfl ?_
      refine Ev.iconst (z := -1) (d11 24 rfl) rfl ?_
      obtain ⟨b5, hr⟩ := grd_some hr
      refine Ev.ias V (j := 1) rfl rfl (d11 25 rfl) b5 ?_
      revert hr
      generalize setA s 1 (ix v4) (-1 : Int32) = s6
      intro hr
      replace hr := (bnd_eq _ _).symm.trans hr
      exact e_load_44 hw V  a0 a1 a2 a3 a4 s6 (.val (.int (s.2 2 (ix a0)))) rfl (.val (.int v4)) rfl _ hr
def f_access_90 (n : Nat) (x1 : Int32) (x2 : Int32) (x3 : Int32) (x4 : Int32) (s : St) : Option (Int32 × St) :=
  grd (inb x1 4) <|
  bnd (setA s 11 (ix x1) ((s.2 11 (ix x1)) + (1 : Int32))) fun s2 =>
  bnd (setA s2 13 (ix x1) ((s2.2 13 (ix x1)) + (1 : Int32))) fun s3 =>
  (f_sweep n s3).bind fun q4 =>
  if q4.1 < 0 then
    some ((3 : Int32), q4.2)
  else
    (f_load q4.1 x1 x2 x3 x4 q4.2).bind fun q7 =>
    bnd (setI q7 21 q4.1) fun s9 =>
    some ((2 : Int32), s9)
set_option maxRecDepth 100000 in
theorem e_access_90 {g : GT} {n : Nat} (hw : HW g) {K : St → MHeap} {o : Nat} {r : Nat → Nat} (V : View (GG g) Ln K o r) (x1 : Int32) (x2 : Int32) (x3 : Int32) (x4 : Int32) (s : St) (y5 : Slot) (hy5 : one1 y5 = true) (y6 : Slot) (hy6 : one1 y6 = true) (w : Int32 × St) (hr : f_access_90 n x1 x2 x3 x4 s = some w) : Ev (GG g) M_access 90 [.val (.ref o), .val (.int x1), .val (.int x2), .val (.int x3), .val (.int x4), y5, y6] [] (K s) ((some (.int w.1)), (K w.2)) := by
  unfold f_access_90 at hr
  refine Ev.aloadN (d8 53 rfl) rfl ?_
  refine Ev.gAr V (ww hw 37 rfl) (d8 54 rfl) (j := 11) rfl ?_
  refine Ev.iloadN (d8 55 rfl) rfl ?_
  refine Ev.dup2 (d8 56 rfl) rfl rfl ?_
  obtain ⟨b1, hr⟩ := grd_some hr
  refine Ev.ial V (j := 11) rfl rfl (d8 57 rfl) b1 ?_
  refine Ev.iconst (z := 1) (d8 58 rfl) rfl ?_
  refine Ev.iadd (d8 59 rfl) ?_
  refine Ev.ias V (j := 11) rfl rfl (d8 60 rfl) b1 ?_
  revert hr
  generalize setA s 11 (ix x1) ((s.2 11 (ix x1)) + (1 : Int32)) = s2
  intro hr
  replace hr := (bnd_eq _ _).symm.trans hr
  refine Ev.aloadN (d8 61 rfl) rfl ?_
  refine Ev.gAr V (ww hw 41 rfl) (d8 62 rfl) (j := 13) rfl ?_
  refine Ev.iloadN (d8 63 rfl) rfl ?_
  refine Ev.dup2 (d8 64 rfl) rfl rfl ?_
  refine Ev.ial V (j := 13) rfl rfl (d8 65 rfl) b1 ?_
  refine Ev.iconst (z := 1) (d8 66 rfl) rfl ?_
  refine Ev.iadd (d8 67 rfl) ?_
  refine Ev.ias V (j := 13) rfl rfl (d8 68 rfl) b1 ?_
  revert hr
  generalize setA s2 13 (ix x1) ((s2.2 13 (ix x1)) + (1 : Int32)) = s3
  intro hr
  replace hr := (bnd_eq _ _).symm.trans hr
  refine Ev.aloadN (d8 69 rfl) rfl ?_
  obtain ⟨q4, hq5, hr⟩ := Option.bind_eq_some_iff.mp hr
  refine Ev.priv (y := M_sweep) (args := []) (rest := []) (gok hw) rfl nm_sweep (ww hw 86 rfl) (ww hw 87 rfl) (ww hw 88 rfl) (ww hw 89 rfl) (lenOf pd_sweep rfl) (d8 70 rfl) (V.2.1 s3) (e_sweep hw V hq5) (by decide) (Nat.le_of_ble_eq_true rfl) rfl ?_
  refine Ev.istD (L' := [.val (.ref o), .val (.int x1), .val (.int x2), .val (.int x3), .val (.int x4), y5, .val (.int q4.1)]) (d8 71 rfl) rfl hy6 rfl ?_
  refine Ev.iload (d8 72 rfl) rfl ?_
  refine Ev.ifge (t := 123) (d8 73 rfl) rfl (fun c6 => ?_) (fun c6 => ?_)
  · replace hr := (if_pos c6).symm.trans hr
    refine Ev.iconst (z := 3) (d8 74 rfl) rfl ?_
    cases hr
    exact Ev.ireturn rfl (d8 75 rfl)
  · replace hr := (if_neg c6).symm.trans hr
    refine Ev.aloadN (d8 76 rfl) rfl ?_
    refine Ev.iload (d8 77 rfl) rfl ?_
    refine Ev.iloadN (d8 78 rfl) rfl ?_
    refine Ev.iloadN (d8 79 rfl) rfl ?_
    refine Ev.iloadN (d8 80 rfl) rfl ?_
    refine Ev.iload (d8 81 rfl) rfl ?_
    obtain ⟨q7, hq8, hr⟩ := Option.bind_eq_some_iff.mp hr
    refine Ev.priv (y := M_load) (args := [.int q4.1, .int x1, .int x2, .int x3, .int x4]) (rest := []) (gok hw) rfl nm_load (ww hw 92 rfl) (ww hw 93 rfl) (ww hw 94 rfl) (ww hw 95 rfl) (lenOf pd_load rfl) (d8 82 rfl) (V.2.1 q4.2) (e_load hw V hq8) (by decide) (Nat.le_of_ble_eq_true rfl) rfl ?_
    refine Ev.aloadN (d8 83 rfl) rfl ?_
    refine Ev.iload (d8 84 rfl) rfl ?_
    refine Ev.pI V (gok hw) (ww hw 96 rfl) (Or.inl (ww hw 97 rfl)) (d8 85 rfl) (j := 21) rfl ?_
    revert hr
    generalize setI q7 21 q4.1 = s9
    intro hr
    replace hr := (bnd_eq _ _).symm.trans hr
    refine Ev.iconst (z := 2) (d8 86 rfl) rfl ?_
    cases hr
    exact Ev.ireturn rfl (d8 87 rfl)
def f_access (n : Nat) (a0 : Int32) (a1 : Int32) (a2 : Int32) (a3 : Int32) (s : St) : Option (Int32 × St) :=
  if a0 < 0 then
    some ((5 : Int32), s)
  else
    if (3 : Int32) < a0 then
      some ((5 : Int32), s)
    else
      if a1 < 0 then
        some ((5 : Int32), s)
      else
        if (7 : Int32) < a1 then
          some ((5 : Int32), s)
        else
          grd (inb a0 4) <|
          if (s.2 9 (ix a0)) = 0 then
            bnd (setI s 19 ((s.1 19) + (1 : Int32))) fun s7 =>
            (f_completeWriteBacks n s7).bind fun q8 =>
            grd (inb ((a0 * (8 : Int32)) + a1) 32) <|
            bnd (q8.2.2 1 (ix ((a0 * (8 : Int32)) + a1))) fun v11 =>
            if v11 < 0 then
              f_access_90 n a0 a1 a2 a3 q8.2
            else
              if v11 < (32 : Int32) then
                (f_hit v11 a0 a2 a3 q8.2).bind fun q14 =>
                bnd (setI q14 21 v11) fun s16 =>
                some ((1 : Int32), s16)
              else
                f_access_90 n a0 a1 a2 a3 q8.2
          else
            some ((4 : Int32), s)
set_option maxRecDepth 100000 in
theorem e_access {g : GT} {n : Nat} {a0 : Int32} {a1 : Int32} {a2 : Int32} {a3 : Int32} {s : St} {w : Int32 × St} (hw : HW g) {K : St → MHeap} {o : Nat} {r : Nat → Nat} (V : View (GG g) Ln K o r) (hr : f_access n a0 a1 a2 a3 s = some w) : EvC (GG g) M_access [.ref o, .int a0, .int a1, .int a2, .int a3] (K s) ((some (.int w.1)), (K w.2)) := by
  refine EvC.enter (L0 := [.val (.ref o), .val (.int a0), .val (.int a1), .val (.int a2), .val (.int a3), .unset, .unset]) pl_access (fun h => nomatch h) rfl rfl ?_
  unfold f_access at hr
  refine Ev.iloadN (d8 0 rfl) rfl ?_
  refine Ev.iflt (t := 19) (d8 1 rfl) rfl (fun c1 => ?_) (fun c1 => ?_)
  · replace hr := (if_pos c1).symm.trans hr
    refine Ev.iconst (z := 5) (d8 10 rfl) rfl ?_
    cases hr
    exact Ev.ireturn rfl (d8 11 rfl)
  · replace hr := (if_neg c1).symm.trans hr
    refine Ev.iloadN (d8 2 rfl) rfl ?_
    refine Ev.iconst (z := 3) (d8 3 rfl) rfl ?_
    refine Ev.icgt (t := 19) (d8 4 rfl) rfl (fun c2 => ?_) (fun c2 => ?_)
    · replace hr := (if_pos c2).symm.trans hr
      refine Ev.iconst (z := 5) (d8 10 rfl) rfl ?_
      cases hr
      exact Ev.ireturn rfl (d8 11 rfl)
    · replace hr := (if_neg c2).symm.trans hr
      refine Ev.iloadN (d8 5 rfl) rfl ?_
      refine Ev.iflt (t := 19) (d8 6 rfl) rfl (fun c3 => ?_) (fun c3 => ?_)
      · replace hr := (if_pos c3).symm.trans hr
        refine Ev.iconst (z := 5) (d8 10 rfl) rfl ?_
        cases hr
        exact Ev.ireturn rfl (d8 11 rfl)
      · replace hr := (if_neg c3).symm.trans hr
        refine Ev.iloadN (d8 7 rfl) rfl ?_
        refine Ev.bipush (z := 7) (d8 8 rfl) rfl ?_
        refine Ev.icle (t := 21) (d8 9 rfl) rfl (fun c4 => ?_) (fun c4 => ?_)
        · replace hr := (if_pos c4).symm.trans hr
          refine Ev.iconst (z := 5) (d8 10 rfl) rfl ?_
          cases hr
          exact Ev.ireturn rfl (d8 11 rfl)
        · replace hr := (if_neg c4).symm.trans hr
          refine Ev.aloadN (d8 12 rfl) rfl ?_
          refine Ev.gAr V (ww hw 33 rfl) (d8 13 rfl) (j := 9) rfl ?_
          refine Ev.iloadN (d8 14 rfl) rfl ?_
          obtain ⟨b5, hr⟩ := grd_some hr
          refine Ev.bal V (j := 9) rfl rfl (d8 15 rfl) b5 ?_
          refine Ev.ifeq (t := 32) (d8 16 rfl) rfl (fun c6 => ?_) (fun c6 => ?_)
          · replace hr := (if_pos c6).symm.trans hr
            refine Ev.aloadN (d8 19 rfl) rfl ?_
            refine Ev.dup (d8 20 rfl) rfl ?_
            refine Ev.gI V (ww hw 80 rfl) (d8 21 rfl) (j := 19) rfl rfl ?_
            refine Ev.iconst (z := 1) (d8 22 rfl) rfl ?_
            refine Ev.iadd (d8 23 rfl) ?_
            refine Ev.pI V (gok hw) (ww hw 80 rfl) (Or.inl (ww hw 81 rfl)) (d8 24 rfl) (j := 19) rfl ?_
            revert hr
            generalize setI s 19 ((s.1 19) + (1 : Int32)) = s7
            intro hr
            replace hr := (bnd_eq _ _).symm.trans hr
            refine Ev.aloadN (d8 25 rfl) rfl ?_
            obtain ⟨q8, hq9, hr⟩ := Option.bind_eq_some_iff.mp hr
            refine Ev.priv (y := M_completeWriteBacks) (args := []) (rest := []) (gok hw) rfl nm_completeWriteBacks (ww hw 82 rfl) (ww hw 83 rfl) (ww hw 84 rfl) (ww hw 85 rfl) (lenOf pd_completeWriteBacks rfl) (d8 26 rfl) (V.2.1 s7) (e_completeWriteBacks hw V hq9) (by decide) (Nat.le_of_ble_eq_true rfl) rfl ?_
            refine Ev.pop (d8 27 rfl) rfl ?_
            refine Ev.aloadN (d8 28 rfl) rfl ?_
            refine Ev.gAr V (ww hw 16 rfl) (d8 29 rfl) (j := 1) rfl ?_
            refine Ev.iloadN (d8 30 rfl) rfl ?_
            refine Ev.bipush (z := 8) (d8 31 rfl) rfl ?_
            refine Ev.imul (d8 32 rfl) ?_
            refine Ev.iloadN (d8 33 rfl) rfl ?_
            refine Ev.iadd (d8 34 rfl) ?_
            obtain ⟨b10, hr⟩ := grd_some hr
            refine Ev.ial V (j := 1) rfl rfl (d8 35 rfl) b10 ?_
            revert hr
            generalize (q8.2.2 1 (ix ((a0 * (8 : Int32)) + a1))) = v11
            intro hr
            replace hr := (bnd_eq _ _).symm.trans hr
            refine Ev.istD (L' := [.val (.ref o), .val (.int a0), .val (.int a1), .val (.int a2), .val (.int a3), .val (.int v11), .unset]) (d8 36 rfl) rfl rfl rfl ?_
            refine Ev.iload (d8 37 rfl) rfl ?_
            refine Ev.iflt (t := 90) (d8 38 rfl) rfl (fun c12 => ?_) (fun c12 => ?_)
            · replace hr := (if_pos c12).symm.trans hr
              exact e_access_90 hw V  a0 a1 a2 a3 q8.2 (.val (.int v11)) rfl .unset rfl _ hr
            · replace hr := (if_neg c12).symm.trans hr
              refine Ev.iload (d8 39 rfl) rfl ?_
              refine Ev.bipush (z := 32) (d8 40 rfl) rfl ?_
              refine Ev.icge (t := 90) (d8 41 rfl) rfl (fun c13 => ?_) (fun c13 => ?_)
              · replace hr := (if_pos c13).symm.trans hr
                refine Ev.aloadN (d8 42 rfl) rfl ?_
                refine Ev.iload (d8 43 rfl) rfl ?_
                refine Ev.iloadN (d8 44 rfl) rfl ?_
                refine Ev.iloadN (d8 45 rfl) rfl ?_
                refine Ev.iload (d8 46 rfl) rfl ?_
                obtain ⟨q14, hq15, hr⟩ := Option.bind_eq_some_iff.mp hr
                refine Ev.priv (y := M_hit) (args := [.int v11, .int a0, .int a2, .int a3]) (rest := []) (gok hw) rfl nm_hit (ww hw 113 rfl) (ww hw 114 rfl) (ww hw 115 rfl) (ww hw 116 rfl) (lenOf pd_hit rfl) (d8 47 rfl) (V.2.1 q8.2) (e_hit hw V hq15) (by decide) (Nat.le_of_ble_eq_true rfl) rfl ?_
                refine Ev.aloadN (d8 48 rfl) rfl ?_
                refine Ev.iload (d8 49 rfl) rfl ?_
                refine Ev.pI V (gok hw) (ww hw 96 rfl) (Or.inl (ww hw 97 rfl)) (d8 50 rfl) (j := 21) rfl ?_
                revert hr
                generalize setI q14 21 v11 = s16
                intro hr
                replace hr := (bnd_eq _ _).symm.trans hr
                refine Ev.iconst (z := 1) (d8 51 rfl) rfl ?_
                cases hr
                exact Ev.ireturn rfl (d8 52 rfl)
              · replace hr := (if_neg c13).symm.trans hr
                exact e_access_90 hw V  a0 a1 a2 a3 q8.2 (.val (.int v11)) rfl .unset rfl _ hr
          · replace hr := (if_neg c6).symm.trans hr
            refine Ev.iconst (z := 4) (d8 17 rfl) rfl ?_
            cases hr
            exact Ev.ireturn rfl (d8 18 rfl)
def f_read_24 (n : Nat) (s : St) : Option (Int32 × St) :=
  grd (inb (s.1 21) 32) <|
  some ((s.2 4 (ix (s.1 21))), s)
set_option maxRecDepth 100000 in
theorem e_read_24 {g : GT} {n : Nat} (hw : HW g) {K : St → MHeap} {o : Nat} {r : Nat → Nat} (V : View (GG g) Ln K o r) (s : St) (y1 : Slot) (hy1 : one1 y1 = true) (y2 : Slot) (hy2 : one1 y2 = true) (y3 : Slot) (hy3 : one1 y3 = true) (w : Int32 × St) (hr : f_read_24 n s = some w) : Ev (GG g) M_read 24 [.val (.ref o), y1, y2, y3] [] (K s) ((some (.int w.1)), (K w.2)) := by
  unfold f_read_24 at hr
  refine Ev.aloadN (d14 16 rfl) rfl ?_
  refine Ev.gAr V (ww hw 22 rfl) (d14 17 rfl) (j := 4) rfl ?_
  refine Ev.aloadN (d14 18 rfl) rfl ?_
  refine Ev.gI V (ww hw 96 rfl) (d14 19 rfl) (j := 21) rfl rfl ?_
  obtain ⟨b1, hr⟩ := grd_some hr
  refine Ev.ial V (j := 4) rfl rfl (d14 20 rfl) b1 ?_
  cases hr
  exact Ev.ireturn rfl (d14 21 rfl)
def f_read (n : Nat) (a0 : Int32) (a1 : Int32) (s : St) : Option (Int32 × St) :=
  (f_access n a0 a1 (0 : Int32) (0 : Int32) s).bind fun q1 =>
  bnd (setI q1.2 22 q1.1) fun s3 =>
  if q1.1 = (1 : Int32) then
    f_read_24 n s3
  else
    if q1.1 = (2 : Int32) then
      f_read_24 n s3
    else
      some ((0 : Int32), s3)
set_option maxRecDepth 100000 in
theorem e_read {g : GT} {n : Nat} {a0 : Int32} {a1 : Int32} {s : St} {w : Int32 × St} (hw : HW g) {K : St → MHeap} {o : Nat} {r : Nat → Nat} (V : View (GG g) Ln K o r) (hr : f_read n a0 a1 s = some w) : EvC (GG g) M_read [.ref o, .int a0, .int a1] (K s) ((some (.int w.1)), (K w.2)) := by
  refine EvC.enter (L0 := [.val (.ref o), .val (.int a0), .val (.int a1), .unset]) pl_read (fun h => nomatch h) rfl rfl ?_
  unfold f_read at hr
  refine Ev.aloadN (d14 0 rfl) rfl ?_
  refine Ev.iloadN (d14 1 rfl) rfl ?_
  refine Ev.iloadN (d14 2 rfl) rfl ?_
  refine Ev.iconst (z := 0) (d14 3 rfl) rfl ?_
  refine Ev.iconst (z := 0) (d14 4 rfl) rfl ?_
  obtain ⟨q1, hq2, hr⟩ := Option.bind_eq_some_iff.mp hr
  refine Ev.priv (y := M_access) (args := [.int a0, .int a1, .int (0 : Int32), .int (0 : Int32)]) (rest := []) (gok hw) rfl nm_access (ww hw 76 rfl) (ww hw 77 rfl) (ww hw 78 rfl) (ww hw 79 rfl) (lenOf pd_access rfl) (d14 5 rfl) (V.2.1 s) (e_access hw V hq2) (by decide) (Nat.le_of_ble_eq_true rfl) rfl ?_
  refine Ev.istDN (L' := [.val (.ref o), .val (.int a0), .val (.int a1), .val (.int q1.1)]) (d14 6 rfl) rfl rfl rfl ?_
  refine Ev.aloadN (d14 7 rfl) rfl ?_
  refine Ev.iloadN (d14 8 rfl) rfl ?_
  refine Ev.pI V (gok hw) (ww hw 98 rfl) (Or.inl (ww hw 99 rfl)) (d14 9 rfl) (j := 22) rfl ?_
  revert hr
  generalize setI q1.2 22 q1.1 = s3
  intro hr
  replace hr := (bnd_eq _ _).symm.trans hr
  refine Ev.iloadN (d14 10 rfl) rfl ?_
  refine Ev.iconst (z := 1) (d14 11 rfl) rfl ?_
  refine Ev.iceq (t := 24) (d14 12 rfl) rfl (fun c4 => ?_) (fun c4 => ?_)
  · replace hr := (if_pos c4).symm.trans hr
    exact e_read_24 hw V  s3 (.val (.int a0)) rfl (.val (.int a1)) rfl (.val (.int q1.1)) rfl _ hr
  · replace hr := (if_neg c4).symm.trans hr
    refine Ev.iloadN (d14 13 rfl) rfl ?_
    refine Ev.iconst (z := 2) (d14 14 rfl) rfl ?_
    refine Ev.icne (t := 34) (d14 15 rfl) rfl (fun c5 => ?_) (fun c5 => ?_)
    · replace hr := (if_pos c5).symm.trans hr
      exact e_read_24 hw V  s3 (.val (.int a0)) rfl (.val (.int a1)) rfl (.val (.int q1.1)) rfl _ hr
    · replace hr := (if_neg c5).symm.trans hr
      refine Ev.iconst (z := 0) (d14 22 rfl) rfl ?_
      cases hr
      exact Ev.ireturn rfl (d14 23 rfl)
def f_write (n : Nat) (a0 : Int32) (a1 : Int32) (a2 : Int32) (s : St) : Option (Int32 × St) :=
  (f_access n a0 a1 (1 : Int32) a2 s).bind fun q1 =>
  bnd (setI q1.2 22 q1.1) fun s3 =>
  some (q1.1, s3)
set_option maxRecDepth 100000 in
theorem e_write {g : GT} {n : Nat} {a0 : Int32} {a1 : Int32} {a2 : Int32} {s : St} {w : Int32 × St} (hw : HW g) {K : St → MHeap} {o : Nat} {r : Nat → Nat} (V : View (GG g) Ln K o r) (hr : f_write n a0 a1 a2 s = some w) : EvC (GG g) M_write [.ref o, .int a0, .int a1, .int a2] (K s) ((some (.int w.1)), (K w.2)) := by
  refine EvC.enter (L0 := [.val (.ref o), .val (.int a0), .val (.int a1), .val (.int a2), .unset]) pl_write (fun h => nomatch h) rfl rfl ?_
  unfold f_write at hr
  refine Ev.aloadN (d7 0 rfl) rfl ?_
  refine Ev.iloadN (d7 1 rfl) rfl ?_
  refine Ev.iloadN (d7 2 rfl) rfl ?_
  refine Ev.iconst (z := 1) (d7 3 rfl) rfl ?_
  refine Ev.iloadN (d7 4 rfl) rfl ?_
  obtain ⟨q1, hq2, hr⟩ := Option.bind_eq_some_iff.mp hr
  refine Ev.priv (y := M_access) (args := [.int a0, .int a1, .int (1 : Int32), .int a2]) (rest := []) (gok hw) rfl nm_access (ww hw 76 rfl) (ww hw 77 rfl) (ww hw 78 rfl) (ww hw 79 rfl) (lenOf pd_access rfl) (d7 5 rfl) (V.2.1 s) (e_access hw V hq2) (by decide) (Nat.le_of_ble_eq_true rfl) rfl ?_
  refine Ev.istD (L' := [.val (.ref o), .val (.int a0), .val (.int a1), .val (.int a2), .val (.int q1.1)]) (d7 6 rfl) rfl rfl rfl ?_
  refine Ev.aloadN (d7 7 rfl) rfl ?_
  refine Ev.iload (d7 8 rfl) rfl ?_
  refine Ev.pI V (gok hw) (ww hw 98 rfl) (Or.inl (ww hw 99 rfl)) (d7 9 rfl) (j := 22) rfl ?_
  revert hr
  generalize setI q1.2 22 q1.1 = s3
  intro hr
  replace hr := (bnd_eq _ _).symm.trans hr
  refine Ev.iload (d7 10 rfl) rfl ?_
  cases hr
  exact Ev.ireturn rfl (d7 11 rfl)
def f_lastStatus (s : St) : Option (Int32) :=
  some (s.1 22)
set_option maxRecDepth 100000 in
theorem e_lastStatus {g : GT} {s : St} {w : Int32} (hw : HW g) {K : St → MHeap} {o : Nat} {r : Nat → Nat} (V : View (GG g) Ln K o r) (hr : f_lastStatus s = some w) : EvC (GG g) M_lastStatus [.ref o] (K s) ((some (.int w)), (K s)) := by
  refine EvC.enter (L0 := [.val (.ref o)]) pl_lastStatus (fun h => nomatch h) rfl rfl ?_
  unfold f_lastStatus at hr
  refine Ev.aloadN (d12 0 rfl) rfl ?_
  refine Ev.gI V (ww hw 98 rfl) (d12 1 rfl) (j := 22) rfl rfl ?_
  cases hr
  exact Ev.ireturn rfl (d12 2 rfl)
def f_hget (a0 : Int64) (a1 : Int32) (a2 : Int32) : Option (Int32) :=
  some (((XT.ushrL a0 (a1 * a2)) &&& (((1 : Int64) <<< ((a2).toInt64 &&& 63)) - (1 : Int64)))).toInt32
set_option maxRecDepth 100000 in
theorem e_hget {g : GT} {a0 : Int64} {a1 : Int32} {a2 : Int32} {w : Int32} (hw : HW g) {h : MHeap} (hr : f_hget a0 a1 a2 = some w) : EvC (GG g) M_hget [.long a0, .int a1, .int a2] h ((some (.int w)), h) := by
  refine EvC.enter (L0 := [.val (.long a0), .second, .val (.int a1), .val (.int a2)]) pl_hget (fun h => nomatch h) rfl rfl ?_
  unfold f_hget at hr
  refine Ev.lloadN (d13 0 rfl) rfl ?_
  refine Ev.iloadN (d13 1 rfl) rfl ?_
  refine Ev.iloadN (d13 2 rfl) rfl ?_
  refine Ev.imul (d13 3 rfl) ?_
  refine Ev.lushr (d13 4 rfl) ?_
  refine Ev.lconst (z := 1) (d13 5 rfl) rfl ?_
  refine Ev.iloadN (d13 6 rfl) rfl ?_
  refine Ev.lshl (d13 7 rfl) ?_
  refine Ev.lconst (z := 1) (d13 8 rfl) rfl ?_
  refine Ev.lsub (d13 9 rfl) ?_
  refine Ev.land (d13 10 rfl) ?_
  refine Ev.l2i (d13 11 rfl) ?_
  cases hr
  exact Ev.ireturn rfl (d13 12 rfl)
def f_diskValue (s : St) (a0 : Int32) (a1 : Int32) : Option (Int32) :=
  if a0 < 0 then
    some (0 : Int32)
  else
    if (3 : Int32) < a0 then
      some (0 : Int32)
    else
      if a1 < 0 then
        some (0 : Int32)
      else
        if (7 : Int32) < a1 then
          some (0 : Int32)
        else
          grd (inb ((a0 * (8 : Int32)) + a1) 32) <|
          some (s.2 0 (ix ((a0 * (8 : Int32)) + a1)))
set_option maxRecDepth 100000 in
theorem e_diskValue {g : GT} {s : St} {a0 : Int32} {a1 : Int32} {w : Int32} (hw : HW g) {K : St → MHeap} {o : Nat} {r : Nat → Nat} (V : View (GG g) Ln K o r) (hr : f_diskValue s a0 a1 = some w) : EvC (GG g) M_diskValue [.ref o, .int a0, .int a1] (K s) ((some (.int w)), (K s)) := by
  refine EvC.enter (L0 := [.val (.ref o), .val (.int a0), .val (.int a1)]) pl_diskValue (fun h => nomatch h) rfl rfl ?_
  unfold f_diskValue at hr
  refine Ev.iloadN (d27 0 rfl) rfl ?_
  refine Ev.iflt (t := 19) (d27 1 rfl) rfl (fun c1 => ?_) (fun c1 => ?_)
  · replace hr := (if_pos c1).symm.trans hr
    refine Ev.iconst (z := 0) (d27 10 rfl) rfl ?_
    cases hr
    exact Ev.ireturn rfl (d27 11 rfl)
  · replace hr := (if_neg c1).symm.trans hr
    refine Ev.iloadN (d27 2 rfl) rfl ?_
    refine Ev.iconst (z := 3) (d27 3 rfl) rfl ?_
    refine Ev.icgt (t := 19) (d27 4 rfl) rfl (fun c2 => ?_) (fun c2 => ?_)
    · replace hr := (if_pos c2).symm.trans hr
      refine Ev.iconst (z := 0) (d27 10 rfl) rfl ?_
      cases hr
      exact Ev.ireturn rfl (d27 11 rfl)
    · replace hr := (if_neg c2).symm.trans hr
      refine Ev.iloadN (d27 5 rfl) rfl ?_
      refine Ev.iflt (t := 19) (d27 6 rfl) rfl (fun c3 => ?_) (fun c3 => ?_)
      · replace hr := (if_pos c3).symm.trans hr
        refine Ev.iconst (z := 0) (d27 10 rfl) rfl ?_
        cases hr
        exact Ev.ireturn rfl (d27 11 rfl)
      · replace hr := (if_neg c3).symm.trans hr
        refine Ev.iloadN (d27 7 rfl) rfl ?_
        refine Ev.bipush (z := 7) (d27 8 rfl) rfl ?_
        refine Ev.icle (t := 21) (d27 9 rfl) rfl (fun c4 => ?_) (fun c4 => ?_)
        · replace hr := (if_pos c4).symm.trans hr
          refine Ev.iconst (z := 0) (d27 10 rfl) rfl ?_
          cases hr
          exact Ev.ireturn rfl (d27 11 rfl)
        · replace hr := (if_neg c4).symm.trans hr
          refine Ev.aloadN (d27 12 rfl) rfl ?_
          refine Ev.gAr V (ww hw 14 rfl) (d27 13 rfl) (j := 0) rfl ?_
          refine Ev.iloadN (d27 14 rfl) rfl ?_
          refine Ev.bipush (z := 8) (d27 15 rfl) rfl ?_
          refine Ev.imul (d27 16 rfl) ?_
          refine Ev.iloadN (d27 17 rfl) rfl ?_
          refine Ev.iadd (d27 18 rfl) ?_
          obtain ⟨b5, hr⟩ := grd_some hr
          refine Ev.ial V (j := 0) rfl rfl (d27 19 rfl) b5 ?_
          cases hr
          exact Ev.ireturn rfl (d27 20 rfl)
def f_law_140 (n : Nat) (sn : Nat) (sf : Nat → Int32) (k68 : Int32 → Int64 → Int64 → Int64 → Int32 → St → Option (Int32 × St)) (x2 : Int32) (x6 : Int64) (x8 : Int64) (x10 : Int64) (x12 : Int32) (s : St) : Option (Int32 × St) :=
  (f_tick n s).bind fun q1 =>
  k68 x2 x6 x8 x10 (x12 + (1 : Int32)) q1.2
set_option maxRecDepth 100000 in
theorem e_law_140 {g : GT} {n : Nat} {sn : Nat} {sf : Nat → Int32} (hw : HW g) {K : St → MHeap} {o : Nat} {r : Nat → Nat} (hs : ∀ s, (K s)[0]? = some (.inr (false, tab sn sf))) (V : View (GG g) Ln K o r) {k68 : Int32 → Int64 → Int64 → Int64 → Int32 → St → Option (Int32 × St)} (hk68 : ∀ (x2 : Int32) (x6 : Int64) (x8 : Int64) (x10 : Int64) (x12 : Int32) (s : St) (y1 : Slot) (hy1 : one1 y1 = true) (y3 : Slot) (hy3 : one1 y3 = true) (y4 : Slot) (hy4 : one1 y4 = true) (y13 : Slot) (hy13 : one1 y13 = true) (y14 : Slot) (hy14 : one1 y14 = true) (y15 : Slot) (hy15 : one1 y15 = true) (y16 : Slot) (hy16 : one1 y16 = true) (y17 : Slot) (hy17 : one1 y17 = true) (y18 : Slot) (hy18 : one1 y18 = true) (y19 y20 : Slot) (hy19 : two2 y19 y20) (y21 y22 : Slot) (hy21 : two2 y21 y22) (y23 : Slot) (hy23 : one1 y23 = true) (y24 : Slot) (hy24 : one1 y24 = true) (y25 : Slot) (hy25 : one1 y25 = true) (y26 : Slot) (hy26 : one1 y26 = true) (y27 : Slot) (hy27 : one1 y27 = true) (y28 : Slot) (hy28 : one1 y28 = true) (w : Int32 × St), k68 x2 x6 x8 x10 x12 s = some w → Ev (GG g) M_law 68 [.val (.ref 0), y1, .val (.int x2), y3, y4, .val (.ref o), .val (.long x6), .second, .val (.long x8), .second, .val (.long x10), .second, .val (.int x12), y13, y14, y15, y16, y17, y18, y19, y20, y21, y22, y23, y24, y25, y26, y27, y28] [] (K s) ((some (.int w.1)), (K w.2))) (x2 : Int32) (x6 : Int64) (x8 : Int64) (x10 : Int64) (x12 : Int32) (s : St) (y1 : Slot) (hy1 : one1 y1 = true) (y3 : Slot) (hy3 : one1 y3 = true) (y4 : Slot) (hy4 : one1 y4 = true) (y13 : Slot) (hy13 : one1 y13 = true) (y14 : Slot) (hy14 : one1 y14 = true) (y15 : Slot) (hy15 : one1 y15 = true) (y16 : Slot) (hy16 : one1 y16 = true) (y17 : Slot) (hy17 : one1 y17 = true) (y18 : Slot) (hy18 : one1 y18 = true) (y19 y20 : Slot) (hy19 : two2 y19 y20) (y21 y22 : Slot) (hy21 : two2 y21 y22) (y23 : Slot) (hy23 : one1 y23 = true) (y24 : Slot) (hy24 : one1 y24 = true) (y25 : Slot) (hy25 : one1 y25 = true) (y26 : Slot) (hy26 : one1 y26 = true) (y27 : Slot) (hy27 : one1 y27 = true) (y28 : Slot) (hy28 : one1 y28 = true) (w : Int32 × St) (hr : f_law_140 n sn sf k68 x2 x6 x8 x10 x12 s = some w) : Ev (GG g) M_law 140 [.val (.ref 0), y1, .val (.int x2), y3, y4, .val (.ref o), .val (.long x6), .second, .val (.long x8), .second, .val (.long x10), .second, .val (.int x12), y13, y14, y15, y16, y17, y18, y19, y20, y21, y22, y23, y24, y25, y26, y27, y28] [] (K s) ((some (.int w.1)), (K w.2)) := by
  unfold f_law_140 at hr
  refine Ev.aload at_140 rfl ?_
  obtain ⟨q1, hq2, hr⟩ := Option.bind_eq_some_iff.mp hr
  refine Ev.virt (y := M_tick) (args := []) (rest := []) (gok hw) rfl nm_tick (ww hw 117 rfl) (ww hw 118 rfl) (ww hw 119 rfl) (ww hw 120 rfl) (ww hw 121 rfl) (lenOf pd_tick rfl) at_142 (V.2.1 s) (e_tick hw V hq2) (by decide) (Nat.le_of_ble_eq_true rfl) rfl ?_
  refine Ev.pop at_145 rfl ?_
  refine Ev.goto (t := 598) at_146 rfl ?_
  refine Ev.iinc (z := 1) (L' := [.val (.ref 0), y1, .val (.int x2), y3, y4, .val (.ref o), .val (.long x6), .second, .val (.long x8), .second, .val (.long x10), .second, .val (.int (x12 + (1 : Int32))), y13, y14, y15, y16, y17, y18, y19, y20, y21, y22, y23, y24, y25, y26, y27, y28]) at_598 rfl rfl rfl ?_
  refine Ev.goto (t := 68) at_601 rfl ?_
  exact hk68 x2 x6 x8 x10 (x12 + (1 : Int32)) q1.2 y1 hy1 y3 hy3 y4 hy4 y13 hy13 y14 hy14 y15 hy15 y16 hy16 y17 hy17 y18 hy18 y19 y20 hy19 y21 y22 hy21 y23 hy23 y24 hy24 y25 hy25 y26 hy26 y27 hy27 y28 hy28 _ hr
def f_law_547 (n : Nat) (sn : Nat) (sf : Nat → Int32) (k68 : Int32 → Int64 → Int64 → Int64 → Int32 → St → Option (Int32 × St)) (k456 : Int32 → Int64 → Int64 → Int64 → Int32 → Int64 → Int64 → Int32 → St → Option (Int32 × St)) (x2 : Int32) (x6 : Int64) (x8 : Int64) (x10 : Int64) (x12 : Int32) (x19 : Int64) (x21 : Int64) (x26 : Int32) (x27 : Int32) (z0 : Int32) (s : St) : Option (Int32 × St) :=
  (f_hget x21 x27 (16 : Int32)).bind fun q1 =>
  if x2 < (q1 - z0) then
    (f_diskValue s x27 (x26 &&& (1 : Int32))).bind fun q4 =>
    (f_hget x6 x26 (8 : Int32)).bind fun q6 =>
    if q4 = q6 then
      k456 x2 x6 x8 x10 x12 x19 x21 (x26 + (1 : Int32)) s
    else
      some ((0 : Int32), s)
  else
    some ((0 : Int32), s)
set_option maxRecDepth 100000 in
theorem e_law_547 {g : GT} {n : Nat} {sn : Nat} {sf : Nat → Int32} (hw : HW g) {K : St → MHeap} {o : Nat} {r : Nat → Nat} (hs : ∀ s, (K s)[0]? = some (.inr (false, tab sn sf))) (V : View (GG g) Ln K o r) {k68 : Int32 → Int64 → Int64 → Int64 → Int32 → St → Option (Int32 × St)} (hk68 : ∀ (x2 : Int32) (x6 : Int64) (x8 : Int64) (x10 : Int64) (x12 : Int32) (s : St) (y1 : Slot) (hy1 : one1 y1 = true) (y3 : Slot) (hy3 : one1 y3 = true) (y4 : Slot) (hy4 : one1 y4 = true) (y13 : Slot) (hy13 : one1 y13 = true) (y14 : Slot) (hy14 : one1 y14 = true) (y15 : Slot) (hy15 : one1 y15 = true) (y16 : Slot) (hy16 : one1 y16 = true) (y17 : Slot) (hy17 : one1 y17 = true) (y18 : Slot) (hy18 : one1 y18 = true) (y19 y20 : Slot) (hy19 : two2 y19 y20) (y21 y22 : Slot) (hy21 : two2 y21 y22) (y23 : Slot) (hy23 : one1 y23 = true) (y24 : Slot) (hy24 : one1 y24 = true) (y25 : Slot) (hy25 : one1 y25 = true) (y26 : Slot) (hy26 : one1 y26 = true) (y27 : Slot) (hy27 : one1 y27 = true) (y28 : Slot) (hy28 : one1 y28 = true) (w : Int32 × St), k68 x2 x6 x8 x10 x12 s = some w → Ev (GG g) M_law 68 [.val (.ref 0), y1, .val (.int x2), y3, y4, .val (.ref o), .val (.long x6), .second, .val (.long x8), .second, .val (.long x10), .second, .val (.int x12), y13, y14, y15, y16, y17, y18, y19, y20, y21, y22, y23, y24, y25, y26, y27, y28] [] (K s) ((some (.int w.1)), (K w.2))) {k456 : Int32 → Int64 → Int64 → Int64 → Int32 → Int64 → Int64 → Int32 → St → Option (Int32 × St)} (hk456 : ∀ (x2 : Int32) (x6 : Int64) (x8 : Int64) (x10 : Int64) (x12 : Int32) (x19 : Int64) (x21 : Int64) (x26 : Int32) (s : St) (y1 : Slot) (hy1 : one1 y1 = true) (y3 : Slot) (hy3 : one1 y3 = true) (y4 : Slot) (hy4 : one1 y4 = true) (y13 : Slot) (hy13 : one1 y13 = true) (y14 : Slot) (hy14 : one1 y14 = true) (y15 : Slot) (hy15 : one1 y15 = true) (y16 : Slot) (hy16 : one1 y16 = true) (y17 : Slot) (hy17 : one1 y17 = true) (y18 : Slot) (hy18 : one1 y18 = true) (y23 : Slot) (hy23 : one1 y23 = true) (y24 : Slot) (hy24 : one1 y24 = true) (y25 : Slot) (hy25 : one1 y25 = true) (y27 : Slot) (hy27 : one1 y27 = true) (y28 : Slot) (hy28 : one1 y28 = true) (w : Int32 × St), k456 x2 x6 x8 x10 x12 x19 x21 x26 s = some w → Ev (GG g) M_law 456 [.val (.ref 0), y1, .val (.int x2), y3, y4, .val (.ref o), .val (.long x6), .second, .val (.long x8), .second, .val (.long x10), .second, .val (.int x12), y13, y14, y15, y16, y17, y18, .val (.long x19), .second, .val (.long x21), .second, y23, y24, y25, .val (.int x26), y27, y28] [] (K s) ((some (.int w.1)), (K w.2))) (x2 : Int32) (x6 : Int64) (x8 : Int64) (x10 : Int64) (x12 : Int32) (x19 : Int64) (x21 : Int64) (x26 : Int32) (x27 : Int32) (z0 : Int32) (s : St) (y1 : Slot) (hy1 : one1 y1 = true) (y3 : Slot) (hy3 : one1 y3 = true) (y4 : Slot) (hy4 : one1 y4 = true) (y13 : Slot) (hy13 : one1 y13 = true) (y14 : Slot) (hy14 : one1 y14 = true) (y15 : Slot) (hy15 : one1 y15 = true) (y16 : Slot) (hy16 : one1 y16 = true) (y17 : Slot) (hy17 : one1 y17 = true) (y18 : Slot) (hy18 : one1 y18 = true) (y23 : Slot) (hy23 : one1 y23 = true) (y24 : Slot) (hy24 : one1 y24 = true) (y25 : Slot) (hy25 : one1 y25 = true) (y28 : Slot) (hy28 : one1 y28 = true) (w : Int32 × St) (hr : f_law_547 n sn sf k68 k456 x2 x6 x8 x10 x12 x19 x21 x26 x27 z0 s = some w) : Ev (GG g) M_law 547 [.val (.ref 0), y1, .val (.int x2), y3, y4, .val (.ref o), .val (.long x6), .second, .val (.long x8), .second, .val (.long x10), .second, .val (.int x12), y13, y14, y15, y16, y17, y18, .val (.long x19), .second, .val (.long x21), .second, y23, y24, y25, .val (.int x26), .val (.int x27), y28] [.int z0] (K s) ((some (.int w.1)), (K w.2)) := by
  unfold f_law_547 at hr
  refine Ev.istD (L' := [.val (.ref 0), y1, .val (.int x2), y3, y4, .val (.ref o), .val (.long x6), .second, .val (.long x8), .second, .val (.long x10), .second, .val (.int x12), y13, y14, y15, y16, y17, y18, .val (.long x19), .second, .val (.long x21), .second, y23, y24, y25, .val (.int x26), .val (.int x27), .val (.int z0)]) at_547 rfl hy28 rfl ?_
  refine Ev.lload at_549 rfl ?_
  refine Ev.iload at_551 rfl ?_
  refine Ev.bipush (z := 16) at_553 rfl ?_
  obtain ⟨q1, hq2, hr⟩ := Option.bind_eq_some_iff.mp hr
  refine Ev.stat (y := M_hget) (args := [.long x21, .int x27, .int (16 : Int32)]) (rest := []) nm_hget (ww hw 105 rfl) (ww hw 106 rfl) (ww hw 2 rfl) (ww hw 107 rfl) (lenOf pd_hget rfl) at_555 (e_hget hw hq2) (by decide) (Nat.le_of_ble_eq_true rfl) rfl ?_
  refine Ev.iload at_558 rfl ?_
  refine Ev.isub at_560 ?_
  refine Ev.iloadN at_561 rfl ?_
  refine Ev.icgt (t := 567) at_562 rfl (fun c3 => ?_) (fun c3 => ?_)
  · replace hr := (if_pos c3).symm.trans hr
    refine Ev.aload at_567 rfl ?_
    refine Ev.iload at_569 rfl ?_
    refine Ev.iload at_571 rfl ?_
    refine Ev.iconst (z := 1) at_573 rfl ?_
    refine Ev.iand at_574 ?_
    obtain ⟨q4, hq5, hr⟩ := Option.bind_eq_some_iff.mp hr
    refine Ev.virt (y := M_diskValue) (args := [.int x27, .int (x26 &&& (1 : Int32))]) (rest := []) (gok hw) rfl nm_diskValue (ww hw 165 rfl) (ww hw 166 rfl) (ww hw 167 rfl) (ww hw 168 rfl) (ww hw 169 rfl) (lenOf pd_diskValue rfl) at_575 (V.2.1 s) (e_diskValue hw V hq5) (by decide) (Nat.le_of_ble_eq_true rfl) rfl ?_
    refine Ev.lload at_578 rfl ?_
    refine Ev.iload at_580 rfl ?_
    refine Ev.bipush (z := 8) at_582 rfl ?_
    obtain ⟨q6, hq7, hr⟩ := Option.bind_eq_some_iff.mp hr
    refine Ev.stat (y := M_hget) (args := [.long x6, .int x26, .int (8 : Int32)]) (rest := [.int q4]) nm_hget (ww hw 105 rfl) (ww hw 106 rfl) (ww hw 2 rfl) (ww hw 107 rfl) (lenOf pd_hget rfl) at_584 (e_hget hw hq7) (by decide) (Nat.le_of_ble_eq_true rfl) rfl ?_
    refine Ev.iceq (t := 592) at_587 rfl (fun c8 => ?_) (fun c8 => ?_)
    · replace hr := (if_pos c8).symm.trans hr
      refine Ev.iinc (z := 1) (L' := [.val (.ref 0), y1, .val (.int x2), y3, y4, .val (.ref o), .val (.long x6), .second, .val (.long x8), .second, .val (.long x10), .second, .val (.int x12), y13, y14, y15, y16, y17, y18, .val (.long x19), .second, .val (.long x21), .second, y23, y24, y25, .val (.int (x26 + (1 : Int32))), .val (.int x27), .val (.int z0)]) at_592 rfl rfl rfl ?_
      refine Ev.goto (t := 456) at_595 rfl ?_
      exact hk456 x2 x6 x8 x10 x12 x19 x21 (x26 + (1 : Int32)) s y1 hy1 y3 hy3 y4 hy4 y13 hy13 y14 hy14 y15 hy15 y16 hy16 y17 hy17 y18 hy18 y23 hy23 y24 hy24 y25 hy25 (.val (.int x27)) rfl (.val (.int z0)) rfl _ hr
    · replace hr := (if_neg c8).symm.trans hr
      refine Ev.iconst (z := 0) at_590 rfl ?_
      cases hr
      exact Ev.zret0 rfl at_591
  · replace hr := (if_neg c3).symm.trans hr
    refine Ev.iconst (z := 0) at_565 rfl ?_
    cases hr
    exact Ev.zret0 rfl at_566
def f_law_456 (n : Nat) (sn : Nat) (sf : Nat → Int32) (k68 : Int32 → Int64 → Int64 → Int64 → Int32 → St → Option (Int32 × St)) : Nat → Int32 → Int64 → Int64 → Int64 → Int32 → Int64 → Int64 → Int32 → St → Option (Int32 × St)
  | 0 => fun _ _ _ _ _ _ _ _ _ => none
  | k + 1 => fun x2 x6 x8 x10 x12 x19 x21 x26 s =>
    if x26 < (8 : Int32) then
      (f_hget x19 x26 (8 : Int32)).bind fun q2 =>
      if q2 = 0 then
        f_law_456 n sn sf k68 k x2 x6 x8 x10 x12 x19 x21 (x26 + (1 : Int32)) s
      else
        (f_frameOf s (x26 >>> ((1 : Int32) &&& 31)) (x26 &&& (1 : Int32))).bind fun q5 =>
        if q5 = (-1 : Int32) then
          (f_procInfo s (x26 >>> ((1 : Int32) &&& 31)) (2 : Int32)).bind fun q8 =>
          if q8 = 0 then
            if x26 < (4 : Int32) then
              (f_hget x8 x26 (16 : Int32)).bind fun q12 =>
              f_law_547 n sn sf k68 (f_law_456 n sn sf k68 k) x2 x6 x8 x10 x12 x19 x21 x26 (x26 >>> ((1 : Int32) &&& 31)) q12 s
            else
              (f_hget x10 (x26 - (4 : Int32)) (16 : Int32)).bind fun q14 =>
              f_law_547 n sn sf k68 (f_law_456 n sn sf k68 k) x2 x6 x8 x10 x12 x19 x21 x26 (x26 >>> ((1 : Int32) &&& 31)) q14 s
          else
            f_law_456 n sn sf k68 k x2 x6 x8 x10 x12 x19 x21 (x26 + (1 : Int32)) s
        else
          f_law_456 n sn sf k68 k x2 x6 x8 x10 x12 x19 x21 (x26 + (1 : Int32)) s
    else
      k68 x2 x6 x8 x10 (x12 + (1 : Int32)) s
set_option maxRecDepth 100000 in
theorem e_law_456 {g : GT} {n : Nat} {sn : Nat} {sf : Nat → Int32} (hw : HW g) {K : St → MHeap} {o : Nat} {r : Nat → Nat} (hs : ∀ s, (K s)[0]? = some (.inr (false, tab sn sf))) (V : View (GG g) Ln K o r) {k68 : Int32 → Int64 → Int64 → Int64 → Int32 → St → Option (Int32 × St)} (hk68 : ∀ (x2 : Int32) (x6 : Int64) (x8 : Int64) (x10 : Int64) (x12 : Int32) (s : St) (y1 : Slot) (hy1 : one1 y1 = true) (y3 : Slot) (hy3 : one1 y3 = true) (y4 : Slot) (hy4 : one1 y4 = true) (y13 : Slot) (hy13 : one1 y13 = true) (y14 : Slot) (hy14 : one1 y14 = true) (y15 : Slot) (hy15 : one1 y15 = true) (y16 : Slot) (hy16 : one1 y16 = true) (y17 : Slot) (hy17 : one1 y17 = true) (y18 : Slot) (hy18 : one1 y18 = true) (y19 y20 : Slot) (hy19 : two2 y19 y20) (y21 y22 : Slot) (hy21 : two2 y21 y22) (y23 : Slot) (hy23 : one1 y23 = true) (y24 : Slot) (hy24 : one1 y24 = true) (y25 : Slot) (hy25 : one1 y25 = true) (y26 : Slot) (hy26 : one1 y26 = true) (y27 : Slot) (hy27 : one1 y27 = true) (y28 : Slot) (hy28 : one1 y28 = true) (w : Int32 × St), k68 x2 x6 x8 x10 x12 s = some w → Ev (GG g) M_law 68 [.val (.ref 0), y1, .val (.int x2), y3, y4, .val (.ref o), .val (.long x6), .second, .val (.long x8), .second, .val (.long x10), .second, .val (.int x12), y13, y14, y15, y16, y17, y18, y19, y20, y21, y22, y23, y24, y25, y26, y27, y28] [] (K s) ((some (.int w.1)), (K w.2))) (k : Nat) : ∀ (x2 : Int32) (x6 : Int64) (x8 : Int64) (x10 : Int64) (x12 : Int32) (x19 : Int64) (x21 : Int64) (x26 : Int32) (s : St) (y1 : Slot) (hy1 : one1 y1 = true) (y3 : Slot) (hy3 : one1 y3 = true) (y4 : Slot) (hy4 : one1 y4 = true) (y13 : Slot) (hy13 : one1 y13 = true) (y14 : Slot) (hy14 : one1 y14 = true) (y15 : Slot) (hy15 : one1 y15 = true) (y16 : Slot) (hy16 : one1 y16 = true) (y17 : Slot) (hy17 : one1 y17 = true) (y18 : Slot) (hy18 : one1 y18 = true) (y23 : Slot) (hy23 : one1 y23 = true) (y24 : Slot) (hy24 : one1 y24 = true) (y25 : Slot) (hy25 : one1 y25 = true) (y27 : Slot) (hy27 : one1 y27 = true) (y28 : Slot) (hy28 : one1 y28 = true) (w : Int32 × St), f_law_456 n sn sf k68 k x2 x6 x8 x10 x12 x19 x21 x26 s = some w → Ev (GG g) M_law 456 [.val (.ref 0), y1, .val (.int x2), y3, y4, .val (.ref o), .val (.long x6), .second, .val (.long x8), .second, .val (.long x10), .second, .val (.int x12), y13, y14, y15, y16, y17, y18, .val (.long x19), .second, .val (.long x21), .second, y23, y24, y25, .val (.int x26), y27, y28] [] (K s) ((some (.int w.1)), (K w.2)) := by
  induction k with
  | zero => intro x2 x6 x8 x10 x12 x19 x21 x26 s y1 hy1 y3 hy3 y4 hy4 y13 hy13 y14 hy14 y15 hy15 y16 hy16 y17 hy17 y18 hy18 y23 hy23 y24 hy24 y25 hy25 y27 hy27 y28 hy28 w hr; rw [f_law_456] at hr; cases hr
  | succ k ih =>
    intro x2 x6 x8 x10 x12 x19 x21 x26 s y1 hy1 y3 hy3 y4 hy4 y13 hy13 y14 hy14 y15 hy15 y16 hy16 y17 hy17 y18 hy18 y23 hy23 y24 hy24 y25 hy25 y27 hy27 y28 hy28 w hr
    rw [f_law_456] at hr
    refine Ev.iload at_456 rfl ?_
    refine Ev.bipush (z := 8) at_458 rfl ?_
    refine Ev.icge (t := 598) at_460 rfl (fun c1 => ?_) (fun c1 => ?_)
    · replace hr := (if_pos c1).symm.trans hr
      refine Ev.lload at_463 rfl ?_
      refine Ev.iload at_465 rfl ?_
      refine Ev.bipush (z := 8) at_467 rfl ?_
      obtain ⟨q2, hq3, hr⟩ := Option.bind_eq_some_iff.mp hr
      refine Ev.stat (y := M_hget) (args := [.long x19, .int x26, .int (8 : Int32)]) (rest := []) nm_hget (ww hw 105 rfl) (ww hw 106 rfl) (ww hw 2 rfl) (ww hw 107 rfl) (lenOf pd_hget rfl) at_469 (e_hget hw hq3) (by decide) (Nat.le_of_ble_eq_true rfl) rfl ?_
      refine Ev.ifne (t := 478) at_472 rfl (fun c4 => ?_) (fun c4 => ?_)
      · replace hr := (if_pos c4).symm.trans hr
        refine Ev.goto (t := 592) at_475 rfl ?_
        refine Ev.iinc (z := 1) (L' := [.val (.ref 0), y1, .val (.int x2), y3, y4, .val (.ref o), .val (.long x6), .second, .val (.long x8), .second, .val (.long x10), .second, .val (.int x12), y13, y14, y15, y16, y17, y18, .val (.long x19), .second, .val (.long x21), .second, y23, y24, y25, .val (.int (x26 + (1 : Int32))), y27, y28]) at_592 rfl rfl rfl ?_
        refine Ev.goto (t := 456) at_595 rfl ?_
        exact ih x2 x6 x8 x10 x12 x19 x21 (x26 + (1 : Int32)) s y1 hy1 y3 hy3 y4 hy4 y13 hy13 y14 hy14 y15 hy15 y16 hy16 y17 hy17 y18 hy18 y23 hy23 y24 hy24 y25 hy25 y27 hy27 y28 hy28 _ hr
      · replace hr := (if_neg c4).symm.trans hr
        refine Ev.aload at_478 rfl ?_
        refine Ev.iload at_480 rfl ?_
        refine Ev.iconst (z := 1) at_482 rfl ?_
        refine Ev.ishr at_483 ?_
        refine Ev.iload at_484 rfl ?_
        refine Ev.iconst (z := 1) at_486 rfl ?_
        refine Ev.iand at_487 ?_
        obtain ⟨q5, hq6, hr⟩ := Option.bind_eq_some_iff.mp hr
        refine Ev.virt (y := M_frameOf) (args := [.int (x26 >>> ((1 : Int32) &&& 31)), .int (x26 &&& (1 : Int32))]) (rest := []) (gok hw) rfl nm_frameOf (ww hw 57 rfl) (ww hw 58 rfl) (ww hw 59 rfl) (ww hw 60 rfl) (ww hw 61 rfl) (lenOf pd_frameOf rfl) at_488 (V.2.1 s) (e_frameOf hw V hq6) (by decide) (Nat.le_of_ble_eq_true rfl) rfl ?_
        refine Ev.iconst (z := -1) at_491 rfl ?_
        refine Ev.iceq (t := 498) at_492 rfl (fun c7 => ?_) (fun c7 => ?_)
        · replace hr := (if_pos c7).symm.trans hr
          refine Ev.iload at_498 rfl ?_
          refine Ev.iconst (z := 1) at_500 rfl ?_
          refine Ev.ishr at_501 ?_
          refine Ev.istD (L' := [.val (.ref 0), y1, .val (.int x2), y3, y4, .val (.ref o), .val (.long x6), .second, .val (.long x8), .second, .val (.long x10), .second, .val (.int x12), y13, y14, y15, y16, y17, y18, .val (.long x19), .second, .val (.long x21), .second, y23, y24, y25, .val (.int x26), .val (.int (x26 >>> ((1 : Int32) &&& 31))), y28]) at_502 rfl hy27 rfl ?_
          refine Ev.aload at_504 rfl ?_
          refine Ev.iload at_506 rfl ?_
          refine Ev.iconst (z := 2) at_508 rfl ?_
          obtain ⟨q8, hq9, hr⟩ := Option.bind_eq_some_iff.mp hr
          refine Ev.virt (y := M_procInfo) (args := [.int (x26 >>> ((1 : Int32) &&& 31)), .int (2 : Int32)]) (rest := []) (gok hw) rfl nm_procInfo (ww hw 66 rfl) (ww hw 67 rfl) (ww hw 68 rfl) (ww hw 69 rfl) (ww hw 70 rfl) (lenOf pd_procInfo rfl) at_509 (V.2.1 s) (e_procInfo hw V hq9) (by decide) (Nat.le_of_ble_eq_true rfl) rfl ?_
          refine Ev.ifeq (t := 518) at_512 rfl (fun c10 => ?_) (fun c10 => ?_)
          · replace hr := (if_pos c10).symm.trans hr
            refine Ev.iload at_518 rfl ?_
            refine Ev.iconst (z := 4) at_520 rfl ?_
            refine Ev.icge (t := 536) at_521 rfl (fun c11 => ?_) (fun c11 => ?_)
            · replace hr := (if_pos c11).symm.trans hr
              refine Ev.lload at_524 rfl ?_
              refine Ev.iload at_526 rfl ?_
              refine Ev.bipush (z := 16) at_528 rfl ?_
              obtain ⟨q12, hq13, hr⟩ := Option.bind_eq_some_iff.mp hr
              refine Ev.stat (y := M_hget) (args := [.long x8, .int x26, .int (16 : Int32)]) (rest := []) nm_hget (ww hw 105 rfl) (ww hw 106 rfl) (ww hw 2 rfl) (ww hw 107 rfl) (lenOf pd_hget rfl) at_530 (e_hget hw hq13) (by decide) (Nat.le_of_ble_eq_true rfl) rfl ?_
              refine Ev.goto (t := 547) at_533 rfl ?_
              exact e_law_547 hw hs V hk68 ih x2 x6 x8 x10 x12 x19 x21 x26 (x26 >>> ((1 : Int32) &&& 31)) q12 s y1 hy1 y3 hy3 y4 hy4 y13 hy13 y14 hy14 y15 hy15 y16 hy16 y17 hy17 y18 hy18 y23 hy23 y24 hy24 y25 hy25 y28 hy28 _ hr
            · replace hr := (if_neg c11).symm.trans hr
              refine Ev.lload at_536 rfl ?_
              refine Ev.iload at_538 rfl ?_
              refine Ev.iconst (z := 4) at_540 rfl ?_
              refine Ev.isub at_541 ?_
              refine Ev.bipush (z := 16) at_542 rfl ?_
              obtain ⟨q14, hq15, hr⟩ := Option.bind_eq_some_iff.mp hr
              refine Ev.stat (y := M_hget) (args := [.long x10, .int (x26 - (4 : Int32)), .int (16 : Int32)]) (rest := []) nm_hget (ww hw 105 rfl) (ww hw 106 rfl) (ww hw 2 rfl) (ww hw 107 rfl) (lenOf pd_hget rfl) at_544 (e_hget hw hq15) (by decide) (Nat.le_of_ble_eq_true rfl) rfl ?_
              exact e_law_547 hw hs V hk68 ih x2 x6 x8 x10 x12 x19 x21 x26 (x26 >>> ((1 : Int32) &&& 31)) q14 s y1 hy1 y3 hy3 y4 hy4 y13 hy13 y14 hy14 y15 hy15 y16 hy16 y17 hy17 y18 hy18 y23 hy23 y24 hy24 y25 hy25 y28 hy28 _ hr
          · replace hr := (if_neg c10).symm.trans hr
            refine Ev.goto (t := 592) at_515 rfl ?_
            refine Ev.iinc (z := 1) (L' := [.val (.ref 0), y1, .val (.int x2), y3, y4, .val (.ref o), .val (.long x6), .second, .val (.long x8), .second, .val (.long x10), .second, .val (.int x12), y13, y14, y15, y16, y17, y18, .val (.long x19), .second, .val (.long x21), .second, y23, y24, y25, .val (.int (x26 + (1 : Int32))), .val (.int (x26 >>> ((1 : Int32) &&& 31))), y28]) at_592 rfl rfl rfl ?_
            refine Ev.goto (t := 456) at_595 rfl ?_
            exact ih x2 x6 x8 x10 x12 x19 x21 (x26 + (1 : Int32)) s y1 hy1 y3 hy3 y4 hy4 y13 hy13 y14 hy14 y15 hy15 y16 hy16 y17 hy17 y18 hy18 y23 hy23 y24 hy24 y25 hy25 (.val (.int (x26 >>> ((1 : Int32) &&& 31)))) rfl y28 hy28 _ hr
        · replace hr := (if_neg c7).symm.trans hr
          refine Ev.goto (t := 592) at_495 rfl ?_
          refine Ev.iinc (z := 1) (L' := [.val (.ref 0), y1, .val (.int x2), y3, y4, .val (.ref o), .val (.long x6), .second, .val (.long x8), .second, .val (.long x10), .second, .val (.int x12), y13, y14, y15, y16, y17, y18, .val (.long x19), .second, .val (.long x21), .second, y23, y24, y25, .val (.int (x26 + (1 : Int32))), y27, y28]) at_592 rfl rfl rfl ?_
          refine Ev.goto (t := 456) at_595 rfl ?_
          exact ih x2 x6 x8 x10 x12 x19 x21 (x26 + (1 : Int32)) s y1 hy1 y3 hy3 y4 hy4 y13 hy13 y14 hy14 y15 hy15 y16 hy16 y17 hy17 y18 hy18 y23 hy23 y24 hy24 y25 hy25 y27 hy27 y28 hy28 _ hr
    · replace hr := (if_neg c1).symm.trans hr
      refine Ev.iinc (z := 1) (L' := [.val (.ref 0), y1, .val (.int x2), y3, y4, .val (.ref o), .val (.long x6), .second, .val (.long x8), .second, .val (.long x10), .second, .val (.int (x12 + (1 : Int32))), y13, y14, y15, y16, y17, y18, .val (.long x19), .second, .val (.long x21), .second, y23, y24, y25, .val (.int x26), y27, y28]) at_598 rfl rfl rfl ?_
      refine Ev.goto (t := 68) at_601 rfl ?_
      exact hk68 x2 x6 x8 x10 (x12 + (1 : Int32)) s y1 hy1 y3 hy3 y4 hy4 y13 hy13 y14 hy14 y15 hy15 y16 hy16 y17 hy17 y18 hy18 (.val (.long x19)) .second (Or.inr ⟨_, rfl, rfl⟩) (.val (.long x21)) .second (Or.inr ⟨_, rfl, rfl⟩) y23 hy23 y24 hy24 y25 hy25 (.val (.int x26)) rfl y27 hy27 y28 hy28 _ hr
def f_law_453 (n : Nat) (sn : Nat) (sf : Nat → Int32) (k68 : Int32 → Int64 → Int64 → Int64 → Int32 → St → Option (Int32 × St)) (x2 : Int32) (x6 : Int64) (x8 : Int64) (x10 : Int64) (x12 : Int32) (x19 : Int64) (x21 : Int64) (s : St) : Option (Int32 × St) :=
  f_law_456 n sn sf k68 n x2 x6 x8 x10 x12 x19 x21 (0 : Int32) s
set_option maxRecDepth 100000 in
theorem e_law_453 {g : GT} {n : Nat} {sn : Nat} {sf : Nat → Int32} (hw : HW g) {K : St → MHeap} {o : Nat} {r : Nat → Nat} (hs : ∀ s, (K s)[0]? = some (.inr (false, tab sn sf))) (V : View (GG g) Ln K o r) {k68 : Int32 → Int64 → Int64 → Int64 → Int32 → St → Option (Int32 × St)} (hk68 : ∀ (x2 : Int32) (x6 : Int64) (x8 : Int64) (x10 : Int64) (x12 : Int32) (s : St) (y1 : Slot) (hy1 : one1 y1 = true) (y3 : Slot) (hy3 : one1 y3 = true) (y4 : Slot) (hy4 : one1 y4 = true) (y13 : Slot) (hy13 : one1 y13 = true) (y14 : Slot) (hy14 : one1 y14 = true) (y15 : Slot) (hy15 : one1 y15 = true) (y16 : Slot) (hy16 : one1 y16 = true) (y17 : Slot) (hy17 : one1 y17 = true) (y18 : Slot) (hy18 : one1 y18 = true) (y19 y20 : Slot) (hy19 : two2 y19 y20) (y21 y22 : Slot) (hy21 : two2 y21 y22) (y23 : Slot) (hy23 : one1 y23 = true) (y24 : Slot) (hy24 : one1 y24 = true) (y25 : Slot) (hy25 : one1 y25 = true) (y26 : Slot) (hy26 : one1 y26 = true) (y27 : Slot) (hy27 : one1 y27 = true) (y28 : Slot) (hy28 : one1 y28 = true) (w : Int32 × St), k68 x2 x6 x8 x10 x12 s = some w → Ev (GG g) M_law 68 [.val (.ref 0), y1, .val (.int x2), y3, y4, .val (.ref o), .val (.long x6), .second, .val (.long x8), .second, .val (.long x10), .second, .val (.int x12), y13, y14, y15, y16, y17, y18, y19, y20, y21, y22, y23, y24, y25, y26, y27, y28] [] (K s) ((some (.int w.1)), (K w.2))) (x2 : Int32) (x6 : Int64) (x8 : Int64) (x10 : Int64) (x12 : Int32) (x19 : Int64) (x21 : Int64) (s : St) (y1 : Slot) (hy1 : one1 y1 = true) (y3 : Slot) (hy3 : one1 y3 = true) (y4 : Slot) (hy4 : one1 y4 = true) (y13 : Slot) (hy13 : one1 y13 = true) (y14 : Slot) (hy14 : one1 y14 = true) (y15 : Slot) (hy15 : one1 y15 = true) (y16 : Slot) (hy16 : one1 y16 = true) (y17 : Slot) (hy17 : one1 y17 = true) (y18 : Slot) (hy18 : one1 y18 = true) (y23 : Slot) (hy23 : one1 y23 = true) (y24 : Slot) (hy24 : one1 y24 = true) (y25 : Slot) (hy25 : one1 y25 = true) (y26 : Slot) (hy26 : one1 y26 = true) (y27 : Slot) (hy27 : one1 y27 = true) (y28 : Slot) (hy28 : one1 y28 = true) (w : Int32 × St) (hr : f_law_453 n sn sf k68 x2 x6 x8 x10 x12 x19 x21 s = some w) : Ev (GG g) M_law 453 [.val (.ref 0), y1, .val (.int x2), y3, y4, .val (.ref o), .val (.long x6), .second, .val (.long x8), .second, .val (.long x10), .second, .val (.int x12), y13, y14, y15, y16, y17, y18, .val (.long x19), .second, .val (.long x21), .second, y23, y24, y25, y26, y27, y28] [] (K s) ((some (.int w.1)), (K w.2)) := by
  unfold f_law_453 at hr
  refine Ev.iconst (z := 0) at_453 rfl ?_
  refine Ev.istD (L' := [.val (.ref 0), y1, .val (.int x2), y3, y4, .val (.ref o), .val (.long x6), .second, .val (.long x8), .second, .val (.long x10), .second, .val (.int x12), y13, y14, y15, y16, y17, y18, .val (.long x19), .second, .val (.long x21), .second, y23, y24, y25, .val (.int (0 : Int32)), y27, y28]) at_454 rfl hy26 rfl ?_
  exact e_law_456 hw hs V hk68 n x2 x6 x8 x10 x12 x19 x21 (0 : Int32) s y1 hy1 y3 hy3 y4 hy4 y13 hy13 y14 hy14 y15 hy15 y16 hy16 y17 hy17 y18 hy18 y23 hy23 y24 hy24 y25 hy25 y27 hy27 y28 hy28 _ hr
def f_law_416 (n : Nat) (sn : Nat) (sf : Nat → Int32) (k68 : Int32 → Int64 → Int64 → Int64 → Int32 → St → Option (Int32 × St)) (x2 : Int32) (x6 : Int64) (x8 : Int64) (x10 : Int64) (x12 : Int32) (x18 : Int32) (x19 : Int64) (x21 : Int64) (x26 : Int32) (s : St) : Option (Int32 × St) :=
  if x18 < (4 : Int32) then
    (f_hput x8 x18 (16 : Int32) x26).bind fun q2 =>
    f_law_453 n sn sf k68 x2 x6 q2 x10 x12 x19 x21 s
  else
    (f_hput x10 (x18 - (4 : Int32)) (16 : Int32) x26).bind fun q4 =>
    f_law_453 n sn sf k68 x2 x6 x8 q4 x12 x19 x21 s
set_option maxRecDepth 100000 in
theorem e_law_416 {g : GT} {n : Nat} {sn : Nat} {sf : Nat → Int32} (hw : HW g) {K : St → MHeap} {o : Nat} {r : Nat → Nat} (hs : ∀ s, (K s)[0]? = some (.inr (false, tab sn sf))) (V : View (GG g) Ln K o r) {k68 : Int32 → Int64 → Int64 → Int64 → Int32 → St → Option (Int32 × St)} (hk68 : ∀ (x2 : Int32) (x6 : Int64) (x8 : Int64) (x10 : Int64) (x12 : Int32) (s : St) (y1 : Slot) (hy1 : one1 y1 = true) (y3 : Slot) (hy3 : one1 y3 = true) (y4 : Slot) (hy4 : one1 y4 = true) (y13 : Slot) (hy13 : one1 y13 = true) (y14 : Slot) (hy14 : one1 y14 = true) (y15 : Slot) (hy15 : one1 y15 = true) (y16 : Slot) (hy16 : one1 y16 = true) (y17 : Slot) (hy17 : one1 y17 = true) (y18 : Slot) (hy18 : one1 y18 = true) (y19 y20 : Slot) (hy19 : two2 y19 y20) (y21 y22 : Slot) (hy21 : two2 y21 y22) (y23 : Slot) (hy23 : one1 y23 = true) (y24 : Slot) (hy24 : one1 y24 = true) (y25 : Slot) (hy25 : one1 y25 = true) (y26 : Slot) (hy26 : one1 y26 = true) (y27 : Slot) (hy27 : one1 y27 = true) (y28 : Slot) (hy28 : one1 y28 = true) (w : Int32 × St), k68 x2 x6 x8 x10 x12 s = some w → Ev (GG g) M_law 68 [.val (.ref 0), y1, .val (.int x2), y3, y4, .val (.ref o), .val (.long x6), .second, .val (.long x8), .second, .val (.long x10), .second, .val (.int x12), y13, y14, y15, y16, y17, y18, y19, y20, y21, y22, y23, y24, y25, y26, y27, y28] [] (K s) ((some (.int w.1)), (K w.2))) (x2 : Int32) (x6 : Int64) (x8 : Int64) (x10 : Int64) (x12 : Int32) (x18 : Int32) (x19 : Int64) (x21 : Int64) (x26 : Int32) (s : St) (y1 : Slot) (hy1 : one1 y1 = true) (y3 : Slot) (hy3 : one1 y3 = true) (y4 : Slot) (hy4 : one1 y4 = true) (y13 : Slot) (hy13 : one1 y13 = true) (y14 : Slot) (hy14 : one1 y14 = true) (y15 : Slot) (hy15 : one1 y15 = true) (y16 : Slot) (hy16 : one1 y16 = true) (y17 : Slot) (hy17 : one1 y17 = true) (y23 : Slot) (hy23 : one1 y23 = true) (y24 : Slot) (hy24 : one1 y24 = true) (y25 : Slot) (hy25 : one1 y25 = true) (y27 : Slot) (hy27 : one1 y27 = true) (y28 : Slot) (hy28 : one1 y28 = true) (w : Int32 × St) (hr : f_law_416 n sn sf k68 x2 x6 x8 x10 x12 x18 x19 x21 x26 s = some w) : Ev (GG g) M_law 416 [.val (.ref 0), y1, .val (.int x2), y3, y4, .val (.ref o), .val (.long x6), .second, .val (.long x8), .second, .val (.long x10), .second, .val (.int x12), y13, y14, y15, y16, y17, .val (.int x18), .val (.long x19), .second, .val (.long x21), .second, y23, y24, y25, .val (.int x26), y27, y28] [] (K s) ((some (.int w.1)), (K w.2)) := by
  unfold f_law_416 at hr
  refine Ev.iload at_416 rfl ?_
  refine Ev.iconst (z := 4) at_418 rfl ?_
  refine Ev.icge (t := 438) at_419 rfl (fun c1 => ?_) (fun c1 => ?_)
  · replace hr := (if_pos c1).symm.trans hr
    refine Ev.lload at_422 rfl ?_
    refine Ev.iload at_424 rfl ?_
    refine Ev.bipush (z := 16) at_426 rfl ?_
    refine Ev.iload at_428 rfl ?_
    obtain ⟨q2, hq3, hr⟩ := Option.bind_eq_some_iff.mp hr
    refine Ev.stat (y := M_hput) (args := [.long x8, .int x18, .int (16 : Int32), .int x26]) (rest := []) nm_hput (ww hw 62 rfl) (ww hw 63 rfl) (ww hw 2 rfl) (ww hw 64 rfl) (lenOf pd_hput rfl) at_430 (e_hput hw hq3) (by decide) (Nat.le_of_ble_eq_true rfl) rfl ?_
    refine Ev.lstD (L' := [.val (.ref 0), y1, .val (.int x2), y3, y4, .val (.ref o), .val (.long x6), .second, .val (.long q2), .second, .val (.long x10), .second, .val (.int x12), y13, y14, y15, y16, y17, .val (.int x18), .val (.long x19), .second, .val (.long x21), .second, y23, y24, y25, .val (.int x26), y27, y28]) at_433 rfl rfl (Or.inr ⟨_, rfl, rfl⟩) rfl ?_
    refine Ev.goto (t := 453) at_435 rfl ?_
    exact e_law_453 hw hs V hk68 x2 x6 q2 x10 x12 x19 x21 s y1 hy1 y3 hy3 y4 hy4 y13 hy13 y14 hy14 y15 hy15 y16 hy16 y17 hy17 (.val (.int x18)) rfl y23 hy23 y24 hy24 y25 hy25 (.val (.int x26)) rfl y27 hy27 y28 hy28 _ hr
  · replace hr := (if_neg c1).symm.trans hr
    refine Ev.lload at_438 rfl ?_
    refine Ev.iload at_440 rfl ?_
    refine Ev.iconst (z := 4) at_442 rfl ?_
    refine Ev.isub at_443 ?_
    refine Ev.bipush (z := 16) at_444 rfl ?_
    refine Ev.iload at_446 rfl ?_
    obtain ⟨q4, hq5, hr⟩ := Option.bind_eq_some_iff.mp hr
    refine Ev.stat (y := M_hput) (args := [.long x10, .int (x18 - (4 : Int32)), .int (16 : Int32), .int x26]) (rest := []) nm_hput (ww hw 62 rfl) (ww hw 63 rfl) (ww hw 2 rfl) (ww hw 64 rfl) (lenOf pd_hput rfl) at_448 (e_hput hw hq5) (by decide) (Nat.le_of_ble_eq_true rfl) rfl ?_
    refine Ev.lstD (L' := [.val (.ref 0), y1, .val (.int x2), y3, y4, .val (.ref o), .val (.long x6), .second, .val (.long x8), .second, .val (.long q4), .second, .val (.int x12), y13, y14, y15, y16, y17, .val (.int x18), .val (.long x19), .second, .val (.long x21), .second, y23, y24, y25, .val (.int x26), y27, y28]) at_451 rfl rfl (Or.inr ⟨_, rfl, rfl⟩) rfl ?_
    exact e_law_453 hw hs V hk68 x2 x6 x8 q4 x12 x19 x21 s y1 hy1 y3 hy3 y4 hy4 y13 hy13 y14 hy14 y15 hy15 y16 hy16 y17 hy17 (.val (.int x18)) rfl y23 hy23 y24 hy24 y25 hy25 (.val (.int x26)) rfl y27 hy27 y28 hy28 _ hr
def f_law_371 (n : Nat) (sn : Nat) (sf : Nat → Int32) (k68 : Int32 → Int64 → Int64 → Int64 → Int32 → St → Option (Int32 × St)) (x2 : Int32) (x6 : Int64) (x8 : Int64) (x10 : Int64) (x12 : Int32) (x13 : Int32) (x16 : Int32) (x18 : Int32) (x19 : Int64) (x21 : Int64) (x23 : Int32) (x24 : Int32) (s : St) : Option (Int32 × St) :=
  (f_procInfo s x16 (0 : Int32)).bind fun q1 =>
  if (1 : Int32) < x13 then
    (f_hput x6 x18 (8 : Int32) x24).bind fun q4 =>
    f_law_416 n sn sf k68 x2 q4 x8 x10 x12 x18 x19 x21 q1 s
  else
    (f_hget x6 x18 (8 : Int32)).bind fun q6 =>
    if x23 = q6 then
      f_law_416 n sn sf k68 x2 x6 x8 x10 x12 x18 x19 x21 q1 s
    else
      some ((0 : Int32), s)
set_option maxRecDepth 100000 in
theorem e_law_371 {g : GT} {n : Nat} {sn : Nat} {sf : Nat → Int32} (hw : HW g) {K : St → MHeap} {o : Nat} {r : Nat → Nat} (hs : ∀ s, (K s)[0]? = some (.inr (false, tab sn sf))) (V : View (GG g) Ln K o r) {k68 : Int32 → Int64 → Int64 → Int64 → Int32 → St → Option (Int32 × St)} (hk68 : ∀ (x2 : Int32) (x6 : Int64) (x8 : Int64) (x10 : Int64) (x12 : Int32) (s : St) (y1 : Slot) (hy1 : one1 y1 = true) (y3 : Slot) (hy3 : one1 y3 = true) (y4 : Slot) (hy4 : one1 y4 = true) (y13 : Slot) (hy13 : one1 y13 = true) (y14 : Slot) (hy14 : one1 y14 = true) (y15 : Slot) (hy15 : one1 y15 = true) (y16 : Slot) (hy16 : one1 y16 = true) (y17 : Slot) (hy17 : one1 y17 = true) (y18 : Slot) (hy18 : one1 y18 = true) (y19 y20 : Slot) (hy19 : two2 y19 y20) (y21 y22 : Slot) (hy21 : two2 y21 y22) (y23 : Slot) (hy23 : one1 y23 = true) (y24 : Slot) (hy24 : one1 y24 = true) (y25 : Slot) (hy25 : one1 y25 = true) (y26 : Slot) (hy26 : one1 y26 = true) (y27 : Slot) (hy27 : one1 y27 = true) (y28 : Slot) (hy28 : one1 y28 = true) (w : Int32 × St), k68 x2 x6 x8 x10 x12 s = some w → Ev (GG g) M_law 68 [.val (.ref 0), y1, .val (.int x2), y3, y4, .val (.ref o), .val (.long x6), .second, .val (.long x8), .second, .val (.long x10), .second, .val (.int x12), y13, y14, y15, y16, y17, y18, y19, y20, y21, y22, y23, y24, y25, y26, y27, y28] [] (K s) ((some (.int w.1)), (K w.2))) (x2 : Int32) (x6 : Int64) (x8 : Int64) (x10 : Int64) (x12 : Int32) (x13 : Int32) (x16 : Int32) (x18 : Int32) (x19 : Int64) (x21 : Int64) (x23 : Int32) (x24 : Int32) (s : St) (y1 : Slot) (hy1 : one1 y1 = true) (y3 : Slot) (hy3 : one1 y3 = true) (y4 : Slot) (hy4 : one1 y4 = true) (y14 : Slot) (hy14 : one1 y14 = true) (y15 : Slot) (hy15 : one1 y15 = true) (y17 : Slot) (hy17 : one1 y17 = true) (y25 : Slot) (hy25 : one1 y25 = true) (y26 : Slot) (hy26 : one1 y26 = true) (y27 : Slot) (hy27 : one1 y27 = true) (y28 : Slot) (hy28 : one1 y28 = true) (w : Int32 × St) (hr : f_law_371 n sn sf k68 x2 x6 x8 x10 x12 x13 x16 x18 x19 x21 x23 x24 s = some w) : Ev (GG g) M_law 371 [.val (.ref 0), y1, .val (.int x2), y3, y4, .val (.ref o), .val (.long x6), .second, .val (.long x8), .second, .val (.long x10), .second, .val (.int x12), .val (.int x13), y14, y15, .val (.int x16), y17, .val (.int x18), .val (.long x19), .second, .val (.long x21), .second, .val (.int x23), .val (.int x24), y25, y26, y27, y28] [] (K s) ((some (.int w.1)), (K w.2)) := by
  unfold f_law_371 at hr
  refine Ev.aload at_371 rfl ?_
  refine Ev.iload at_373 rfl ?_
  refine Ev.iconst (z := 0) at_375 rfl ?_
  obtain ⟨q1, hq2, hr⟩ := Option.bind_eq_some_iff.mp hr
  refine Ev.virt (y := M_procInfo) (args := [.int x16, .int (0 : Int32)]) (rest := []) (gok hw) rfl nm_procInfo (ww hw 66 rfl) (ww hw 67 rfl) (ww hw 68 rfl) (ww hw 69 rfl) (ww hw 70 rfl) (lenOf pd_procInfo rfl) at_376 (V.2.1 s) (e_procInfo hw V hq2) (by decide) (Nat.le_of_ble_eq_true rfl) rfl ?_
  refine Ev.istD (L' := [.val (.ref 0), y1, .val (.int x2), y3, y4, .val (.ref o), .val (.long x6), .second, .val (.long x8), .second, .val (.long x10), .second, .val (.int x12), .val (.int x13), y14, y15, .val (.int x16), y17, .val (.int x18), .val (.long x19), .second, .val (.long x21), .second, .val (.int x23), .val (.int x24), y25, .val (.int q1), y27, y28]) at_379 rfl hy26 rfl ?_
  refine Ev.iload at_381 rfl ?_
  refine Ev.iconst (z := 1) at_383 rfl ?_
  refine Ev.icgt (t := 403) at_384 rfl (fun c3 => ?_) (fun c3 => ?_)
  · replace hr := (if_pos c3).symm.trans hr
    refine Ev.lload at_403 rfl ?_
    refine Ev.iload at_405 rfl ?_
    refine Ev.bipush (z := 8) at_407 rfl ?_
    refine Ev.iload at_409 rfl ?_
    obtain ⟨q4, hq5, hr⟩ := Option.bind_eq_some_iff.mp hr
    refine Ev.stat (y := M_hput) (args := [.long x6, .int x18, .int (8 : Int32), .int x24]) (rest := []) nm_hput (ww hw 62 rfl) (ww hw 63 rfl) (ww hw 2 rfl) (ww hw 64 rfl) (lenOf pd_hput rfl) at_411 (e_hput hw hq5) (by decide) (Nat.le_of_ble_eq_true rfl) rfl ?_
    refine Ev.lstD (L' := [.val (.ref 0), y1, .val (.int x2), y3, y4, .val (.ref o), .val (.long q4), .second, .val (.long x8), .second, .val (.long x10), .second, .val (.int x12), .val (.int x13), y14, y15, .val (.int x16), y17, .val (.int x18), .val (.long x19), .second, .val (.long x21), .second, .val (.int x23), .val (.int x24), y25, .val (.int q1), y27, y28]) at_414 rfl rfl (Or.inr ⟨_, rfl, rfl⟩) rfl ?_
    exact e_law_416 hw hs V hk68 x2 q4 x8 x10 x12 x18 x19 x21 q1 s y1 hy1 y3 hy3 y4 hy4 (.val (.int x13)) rfl y14 hy14 y15 hy15 (.val (.int x16)) rfl y17 hy17 (.val (.int x23)) rfl (.val (.int x24)) rfl y25 hy25 y27 hy27 y28 hy28 _ hr
  · replace hr := (if_neg c3).symm.trans hr
    refine Ev.iload at_387 rfl ?_
    refine Ev.lload at_389 rfl ?_
    refine Ev.iload at_391 rfl ?_
    refine Ev.bipush (z := 8) at_393 rfl ?_
    obtain ⟨q6, hq7, hr⟩ := Option.bind_eq_some_iff.mp hr
    refine Ev.stat (y := M_hget) (args := [.long x6, .int x18, .int (8 : Int32)]) (rest := [.int x23]) nm_hget (ww hw 105 rfl) (ww hw 106 rfl) (ww hw 2 rfl) (ww hw 107 rfl) (lenOf pd_hget rfl) at_395 (e_hget hw hq7) (by decide) (Nat.le_of_ble_eq_true rfl) rfl ?_
    refine Ev.iceq (t := 416) at_398 rfl (fun c8 => ?_) (fun c8 => ?_)
    · replace hr := (if_pos c8).symm.trans hr
      exact e_law_416 hw hs V hk68 x2 x6 x8 x10 x12 x18 x19 x21 q1 s y1 hy1 y3 hy3 y4 hy4 (.val (.int x13)) rfl y14 hy14 y15 hy15 (.val (.int x16)) rfl y17 hy17 (.val (.int x23)) rfl (.val (.int x24)) rfl y25 hy25 y27 hy27 y28 hy28 _ hr
    · replace hr := (if_neg c8).symm.trans hr
      refine Ev.iconst (z := 0) at_401 rfl ?_
      cases hr
      exact Ev.zret0 rfl at_402
def f_law_352 (n : Nat) (sn : Nat) (sf : Nat → Int32) (k68 : Int32 → Int64 → Int64 → Int64 → Int32 → St → Option (Int32 × St)) (x2 : Int32) (x6 : Int64) (x8 : Int64) (x10 : Int64) (x12 : Int32) (x13 : Int32) (x16 : Int32) (x18 : Int32) (x19 : Int64) (x21 : Int64) (x23 : Int32) (x24 : Int32) (s : St) : Option (Int32 × St) :=
  (f_lastStatus s).bind fun q1 =>
  if q1 = (1 : Int32) then
    f_law_371 n sn sf k68 x2 x6 x8 x10 x12 x13 x16 x18 x19 x21 x23 x24 s
  else
    if q1 = (2 : Int32) then
      f_law_371 n sn sf k68 x2 x6 x8 x10 x12 x13 x16 x18 x19 x21 x23 x24 s
    else
      f_law_453 n sn sf k68 x2 x6 x8 x10 x12 x19 x21 s
set_option maxRecDepth 100000 in
theorem e_law_352 {g : GT} {n : Nat} {sn : Nat} {sf : Nat → Int32} (hw : HW g) {K : St → MHeap} {o : Nat} {r : Nat → Nat} (hs : ∀ s, (K s)[0]? = some (.inr (false, tab sn sf))) (V : View (GG g) Ln K o r) {k68 : Int32 → Int64 → Int64 → Int64 → Int32 → St → Option (Int32 × St)} (hk68 : ∀ (x2 : Int32) (x6 : Int64) (x8 : Int64) (x10 : Int64) (x12 : Int32) (s : St) (y1 : Slot) (hy1 : one1 y1 = true) (y3 : Slot) (hy3 : one1 y3 = true) (y4 : Slot) (hy4 : one1 y4 = true) (y13 : Slot) (hy13 : one1 y13 = true) (y14 : Slot) (hy14 : one1 y14 = true) (y15 : Slot) (hy15 : one1 y15 = true) (y16 : Slot) (hy16 : one1 y16 = true) (y17 : Slot) (hy17 : one1 y17 = true) (y18 : Slot) (hy18 : one1 y18 = true) (y19 y20 : Slot) (hy19 : two2 y19 y20) (y21 y22 : Slot) (hy21 : two2 y21 y22) (y23 : Slot) (hy23 : one1 y23 = true) (y24 : Slot) (hy24 : one1 y24 = true) (y25 : Slot) (hy25 : one1 y25 = true) (y26 : Slot) (hy26 : one1 y26 = true) (y27 : Slot) (hy27 : one1 y27 = true) (y28 : Slot) (hy28 : one1 y28 = true) (w : Int32 × St), k68 x2 x6 x8 x10 x12 s = some w → Ev (GG g) M_law 68 [.val (.ref 0), y1, .val (.int x2), y3, y4, .val (.ref o), .val (.long x6), .second, .val (.long x8), .second, .val (.long x10), .second, .val (.int x12), y13, y14, y15, y16, y17, y18, y19, y20, y21, y22, y23, y24, y25, y26, y27, y28] [] (K s) ((some (.int w.1)), (K w.2))) (x2 : Int32) (x6 : Int64) (x8 : Int64) (x10 : Int64) (x12 : Int32) (x13 : Int32) (x16 : Int32) (x18 : Int32) (x19 : Int64) (x21 : Int64) (x23 : Int32) (x24 : Int32) (s : St) (y1 : Slot) (hy1 : one1 y1 = true) (y3 : Slot) (hy3 : one1 y3 = true) (y4 : Slot) (hy4 : one1 y4 = true) (y14 : Slot) (hy14 : one1 y14 = true) (y15 : Slot) (hy15 : one1 y15 = true) (y17 : Slot) (hy17 : one1 y17 = true) (y25 : Slot) (hy25 : one1 y25 = true) (y26 : Slot) (hy26 : one1 y26 = true) (y27 : Slot) (hy27 : one1 y27 = true) (y28 : Slot) (hy28 : one1 y28 = true) (w : Int32 × St) (hr : f_law_352 n sn sf k68 x2 x6 x8 x10 x12 x13 x16 x18 x19 x21 x23 x24 s = some w) : Ev (GG g) M_law 352 [.val (.ref 0), y1, .val (.int x2), y3, y4, .val (.ref o), .val (.long x6), .second, .val (.long x8), .second, .val (.long x10), .second, .val (.int x12), .val (.int x13), y14, y15, .val (.int x16), y17, .val (.int x18), .val (.long x19), .second, .val (.long x21), .second, .val (.int x23), .val (.int x24), y25, y26, y27, y28] [] (K s) ((some (.int w.1)), (K w.2)) := by
  unfold f_law_352 at hr
  refine Ev.aload at_352 rfl ?_
  obtain ⟨q1, hq2, hr⟩ := Option.bind_eq_some_iff.mp hr
  refine Ev.virt (y := M_lastStatus) (args := []) (rest := []) (gok hw) rfl nm_lastStatus (ww hw 100 rfl) (ww hw 101 rfl) (ww hw 102 rfl) (ww hw 103 rfl) (ww hw 104 rfl) (lenOf pd_lastStatus rfl) at_354 (V.2.1 s) (e_lastStatus hw V hq2) (by decide) (Nat.le_of_ble_eq_true rfl) rfl ?_
  refine Ev.istD (L' := [.val (.ref 0), y1, .val (.int x2), y3, y4, .val (.ref o), .val (.long x6), .second, .val (.long x8), .second, .val (.long x10), .second, .val (.int x12), .val (.int x13), y14, y15, .val (.int x16), y17, .val (.int x18), .val (.long x19), .second, .val (.long x21), .second, .val (.int x23), .val (.int x24), .val (.int q1), y26, y27, y28]) at_357 rfl hy25 rfl ?_
  refine Ev.iload at_359 rfl ?_
  refine Ev.iconst (z := 1) at_361 rfl ?_
  refine Ev.iceq (t := 371) at_362 rfl (fun c3 => ?_) (fun c3 => ?_)
  · replace hr := (if_pos c3).symm.trans hr
    exact e_law_371 hw hs V hk68 x2 x6 x8 x10 x12 x13 x16 x18 x19 x21 x23 x24 s y1 hy1 y3 hy3 y4 hy4 y14 hy14 y15 hy15 y17 hy17 (.val (.int q1)) rfl y26 hy26 y27 hy27 y28 hy28 _ hr
  · replace hr := (if_neg c3).symm.trans hr
    refine Ev.iload at_365 rfl ?_
    refine Ev.iconst (z := 2) at_367 rfl ?_
    refine Ev.icne (t := 453) at_368 rfl (fun c4 => ?_) (fun c4 => ?_)
    · replace hr := (if_pos c4).symm.trans hr
      exact e_law_371 hw hs V hk68 x2 x6 x8 x10 x12 x13 x16 x18 x19 x21 x23 x24 s y1 hy1 y3 hy3 y4 hy4 y14 hy14 y15 hy15 y17 hy17 (.val (.int q1)) rfl y26 hy26 y27 hy27 y28 hy28 _ hr
    · replace hr := (if_neg c4).symm.trans hr
      exact e_law_453 hw hs V hk68 x2 x6 x8 x10 x12 x19 x21 s y1 hy1 y3 hy3 y4 hy4 (.val (.int x13)) rfl y14 hy14 y15 hy15 (.val (.int x16)) rfl y17 hy17 (.val (.int x18)) rfl (.val (.int x23)) rfl (.val (.int x24)) rfl (.val (.int q1)) rfl y26 hy26 y27 hy27 y28 hy28 _ hr
def f_law_278 (n : Nat) (sn : Nat) (sf : Nat → Int32) (k68 : Int32 → Int64 → Int64 → Int64 → Int32 → St → Option (Int32 × St)) : Nat → Int32 → Int64 → Int64 → Int64 → Int32 → Int32 → Int32 → Int32 → Int32 → Int32 → Int64 → Int64 → Int32 → St → Option (Int32 × St)
  | 0 => fun _ _ _ _ _ _ _ _ _ _ _ _ _ _ => none
  | k + 1 => fun x2 x6 x8 x10 x12 x13 x15 x16 x17 x18 x19 x21 x23 s =>
    if x23 < (4 : Int32) then
      (f_procInfo s x23 (0 : Int32)).bind fun q2 =>
      (f_hput x21 x23 (16 : Int32) q2).bind fun q4 =>
      f_law_278 n sn sf k68 k x2 x6 x8 x10 x12 x13 x15 x16 x17 x18 x19 q4 (x23 + (1 : Int32)) s
    else
      if (1 : Int32) < x13 then
        (f_write n x16 x17 (x15 &&& (255 : Int32)) s).bind fun q7 =>
        f_law_352 n sn sf k68 x2 x6 x8 x10 x12 x13 x16 x18 x19 x21 (0 : Int32) (x15 &&& (255 : Int32)) q7.2
      else
        (f_read n x16 x17 s).bind fun q9 =>
        f_law_352 n sn sf k68 x2 x6 x8 x10 x12 x13 x16 x18 x19 x21 q9.1 (x15 &&& (255 : Int32)) q9.2
set_option maxRecDepth 100000 in
theorem e_law_278 {g : GT} {n : Nat} {sn : Nat} {sf : Nat → Int32} (hw : HW g) {K : St → MHeap} {o : Nat} {r : Nat → Nat} (hs : ∀ s, (K s)[0]? = some (.inr (false, tab sn sf))) (V : View (GG g) Ln K o r) {k68 : Int32 → Int64 → Int64 → Int64 → Int32 → St → Option (Int32 × St)} (hk68 : ∀ (x2 : Int32) (x6 : Int64) (x8 : Int64) (x10 : Int64) (x12 : Int32) (s : St) (y1 : Slot) (hy1 : one1 y1 = true) (y3 : Slot) (hy3 : one1 y3 = true) (y4 : Slot) (hy4 : one1 y4 = true) (y13 : Slot) (hy13 : one1 y13 = true) (y14 : Slot) (hy14 : one1 y14 = true) (y15 : Slot) (hy15 : one1 y15 = true) (y16 : Slot) (hy16 : one1 y16 = true) (y17 : Slot) (hy17 : one1 y17 = true) (y18 : Slot) (hy18 : one1 y18 = true) (y19 y20 : Slot) (hy19 : two2 y19 y20) (y21 y22 : Slot) (hy21 : two2 y21 y22) (y23 : Slot) (hy23 : one1 y23 = true) (y24 : Slot) (hy24 : one1 y24 = true) (y25 : Slot) (hy25 : one1 y25 = true) (y26 : Slot) (hy26 : one1 y26 = true) (y27 : Slot) (hy27 : one1 y27 = true) (y28 : Slot) (hy28 : one1 y28 = true) (w : Int32 × St), k68 x2 x6 x8 x10 x12 s = some w → Ev (GG g) M_law 68 [.val (.ref 0), y1, .val (.int x2), y3, y4, .val (.ref o), .val (.long x6), .second, .val (.long x8), .second, .val (.long x10), .second, .val (.int x12), y13, y14, y15, y16, y17, y18, y19, y20, y21, y22, y23, y24, y25, y26, y27, y28] [] (K s) ((some (.int w.1)), (K w.2))) (k : Nat) : ∀ (x2 : Int32) (x6 : Int64) (x8 : Int64) (x10 : Int64) (x12 : Int32) (x13 : Int32) (x15 : Int32) (x16 : Int32) (x17 : Int32) (x18 : Int32) (x19 : Int64) (x21 : Int64) (x23 : Int32) (s : St) (y1 : Slot) (hy1 : one1 y1 = true) (y3 : Slot) (hy3 : one1 y3 = true) (y4 : Slot) (hy4 : one1 y4 = true) (y14 : Slot) (hy14 : one1 y14 = true) (y24 : Slot) (hy24 : one1 y24 = true) (y25 : Slot) (hy25 : one1 y25 = true) (y26 : Slot) (hy26 : one1 y26 = true) (y27 : Slot) (hy27 : one1 y27 = true) (y28 : Slot) (hy28 : one1 y28 = true) (w : Int32 × St), f_law_278 n sn sf k68 k x2 x6 x8 x10 x12 x13 x15 x16 x17 x18 x19 x21 x23 s = some w → Ev (GG g) M_law 278 [.val (.ref 0), y1, .val (.int x2), y3, y4, .val (.ref o), .val (.long x6), .second, .val (.long x8), .second, .val (.long x10), .second, .val (.int x12), .val (.int x13), y14, .val (.int x15), .val (.int x16), .val (.int x17), .val (.int x18), .val (.long x19), .second, .val (.long x21), .second, .val (.int x23), y24, y25, y26, y27, y28] [] (K s) ((some (.int w.1)), (K w.2)) := by
  induction k with
  | zero => intro x2 x6 x8 x10 x12 x13 x15 x16 x17 x18 x19 x21 x23 s y1 hy1 y3 hy3 y4 hy4 y14 hy14 y24 hy24 y25 hy25 y26 hy26 y27 hy27 y28 hy28 w hr; rw [f_law_278] at hr; cases hr
  | succ k ih =>
    intro x2 x6 x8 x10 x12 x13 x15 x16 x17 x18 x19 x21 x23 s y1 hy1 y3 hy3 y4 hy4 y14 hy14 y24 hy24 y25 hy25 y26 hy26 y27 hy27 y28 hy28 w hr
    rw [f_law_278] at hr
    refine Ev.iload at_278 rfl ?_
    refine Ev.iconst (z := 4) at_280 rfl ?_
    refine Ev.icge (t := 309) at_281 rfl (fun c1 => ?_) (fun c1 => ?_)
    · replace hr := (if_pos c1).symm.trans hr
      refine Ev.lload at_284 rfl ?_
      refine Ev.iload at_286 rfl ?_
      refine Ev.bipush (z := 16) at_288 rfl ?_
      refine Ev.aload at_290 rfl ?_
      refine Ev.iload at_292 rfl ?_
      refine Ev.iconst (z := 0) at_294 rfl ?_
      obtain ⟨q2, hq3, hr⟩ := Option.bind_eq_some_iff.mp hr
      refine Ev.virt (y := M_procInfo) (args := [.int x23, .int (0 : Int32)]) (rest := [.int (16 : Int32), .int x23, .long x21]) (gok hw) rfl nm_procInfo (ww hw 66 rfl) (ww hw 67 rfl) (ww hw 68 rfl) (ww hw 69 rfl) (ww hw 70 rfl) (lenOf pd_procInfo rfl) at_295 (V.2.1 s) (e_procInfo hw V hq3) (by decide) (Nat.le_of_ble_eq_true rfl) rfl ?_
      obtain ⟨q4, hq5, hr⟩ := Option.bind_eq_some_iff.mp hr
      refine Ev.stat (y := M_hput) (args := [.long x21, .int x23, .int (16 : Int32), .int q2]) (rest := []) nm_hput (ww hw 62 rfl) (ww hw 63 rfl) (ww hw 2 rfl) (ww hw 64 rfl) (lenOf pd_hput rfl) at_298 (e_hput hw hq5) (by decide) (Nat.le_of_ble_eq_true rfl) rfl ?_
      refine Ev.lstD (L' := [.val (.ref 0), y1, .val (.int x2), y3, y4, .val (.ref o), .val (.long x6), .second, .val (.long x8), .second, .val (.long x10), .second, .val (.int x12), .val (.int x13), y14, .val (.int x15), .val (.int x16), .val (.int x17), .val (.int x18), .val (.long x19), .second, .val (.long q4), .second, .val (.int x23), y24, y25, y26, y27, y28]) at_301 rfl rfl (Or.inr ⟨_, rfl, rfl⟩) rfl ?_
      refine Ev.iinc (z := 1) (L' := [.val (.ref 0), y1, .val (.int x2), y3, y4, .val (.ref o), .val (.long x6), .second, .val (.long x8), .second, .val (.long x10), .second, .val (.int x12), .val (.int x13), y14, .val (.int x15), .val (.int x16), .val (.int x17), .val (.int x18), .val (.long x19), .second, .val (.long q4), .second, .val (.int (x23 + (1 : Int32))), y24, y25, y26, y27, y28]) at_303 rfl rfl rfl ?_
      refine Ev.goto (t := 278) at_306 rfl ?_
      exact ih x2 x6 x8 x10 x12 x13 x15 x16 x17 x18 x19 q4 (x23 + (1 : Int32)) s y1 hy1 y3 hy3 y4 hy4 y14 hy14 y24 hy24 y25 hy25 y26 hy26 y27 hy27 y28 hy28 _ hr
    · replace hr := (if_neg c1).symm.trans hr
      refine Ev.iconst (z := 0) at_309 rfl ?_
      refine Ev.istD (L' := [.val (.ref 0), y1, .val (.int x2), y3, y4, .val (.ref o), .val (.long x6), .second, .val (.long x8), .second, .val (.long x10), .second, .val (.int x12), .val (.int x13), y14, .val (.int x15), .val (.int x16), .val (.int x17), .val (.int x18), .val (.long x19), .second, .val (.long x21), .second, .val (.int (0 : Int32)), y24, y25, y26, y27, y28]) at_310 rfl rfl rfl ?_
      refine Ev.iload at_312 rfl ?_
      refine Ev.sipush (z := 255) at_314 rfl ?_
      refine Ev.iand at_317 ?_
      refine Ev.istD (L' := [.val (.ref 0), y1, .val (.int x2), y3, y4, .val (.ref o), .val (.long x6), .second, .val (.long x8), .second, .val (.long x10), .second, .val (.int x12), .val (.int x13), y14, .val (.int x15), .val (.int x16), .val (.int x17), .val (.int x18), .val (.long x19), .second, .val (.long x21), .second, .val (.int (0 : Int32)), .val (.int (x15 &&& (255 : Int32))), y25, y26, y27, y28]) at_318 rfl hy24 rfl ?_
      refine Ev.iload at_320 rfl ?_
      refine Ev.iconst (z := 1) at_322 rfl ?_
      refine Ev.icgt (t := 340) at_323 rfl (fun c6 => ?_) (fun c6 => ?_)
      · replace hr := (if_pos c6).symm.trans hr
        refine Ev.aload at_340 rfl ?_
        refine Ev.iload at_342 rfl ?_
        refine Ev.iload at_344 rfl ?_
        refine Ev.iload at_346 rfl ?_
        obtain ⟨q7, hq8, hr⟩ := Option.bind_eq_some_iff.mp hr
        refine Ev.virt (y := M_write) (args := [.int x16, .int x17, .int (x15 &&& (255 : Int32))]) (rest := []) (gok hw) rfl nm_write (ww hw 71 rfl) (ww hw 72 rfl) (ww hw 73 rfl) (ww hw 74 rfl) (ww hw 75 rfl) (lenOf pd_write rfl) at_348 (V.2.1 s) (e_write hw V hq8) (by decide) (Nat.le_of_ble_eq_true rfl) rfl ?_
        refine Ev.pop at_351 rfl ?_
        exact e_law_352 hw hs V hk68 x2 x6 x8 x10 x12 x13 x16 x18 x19 x21 (0 : Int32) (x15 &&& (255 : Int32)) q7.2 y1 hy1 y3 hy3 y4 hy4 y14 hy14 (.val (.int x15)) rfl (.val (.int x17)) rfl y25 hy25 y26 hy26 y27 hy27 y28 hy28 _ hr
      · replace hr := (if_neg c6).symm.trans hr
        refine Ev.aload at_326 rfl ?_
        refine Ev.iload at_328 rfl ?_
        refine Ev.iload at_330 rfl ?_
        obtain ⟨q9, hq10, hr⟩ := Option.bind_eq_some_iff.mp hr
        refine Ev.virt (y := M_read) (args := [.int x16, .int x17]) (rest := []) (gok hw) rfl nm_read (ww hw 108 rfl) (ww hw 109 rfl) (ww hw 110 rfl) (ww hw 111 rfl) (ww hw 112 rfl) (lenOf pd_read rfl) at_332 (V.2.1 s) (e_read hw V hq10) (by decide) (Nat.le_of_ble_eq_true rfl) rfl ?_
        refine Ev.istD (L' := [.val (.ref 0), y1, .val (.int x2), y3, y4, .val (.ref o), .val (.long x6), .second, .val (.long x8), .second, .val (.long x10), .second, .val (.int x12), .val (.int x13), y14, .val (.int x15), .val (.int x16), .val (.int x17), .val (.int x18), .val (.long x19), .second, .val (.long x21), .second, .val (.int q9.1), .val (.int (x15 &&& (255 : Int32))), y25, y26, y27, y28]) at_335 rfl rfl rfl ?_
        refine Ev.goto (t := 352) at_337 rfl ?_
        exact e_law_352 hw hs V hk68 x2 x6 x8 x10 x12 x13 x16 x18 x19 x21 q9.1 (x15 &&& (255 : Int32)) q9.2 y1 hy1 y3 hy3 y4 hy4 y14 hy14 (.val (.int x15)) rfl (.val (.int x17)) rfl y25 hy25 y26 hy26 y27 hy27 y28 hy28 _ hr
def f_law_236 (n : Nat) (sn : Nat) (sf : Nat → Int32) (k68 : Int32 → Int64 → Int64 → Int64 → Int32 → St → Option (Int32 × St)) : Nat → Int32 → Int64 → Int64 → Int64 → Int32 → Int32 → Int32 → Int32 → Int32 → Int32 → Int64 → Int64 → Int32 → St → Option (Int32 × St)
  | 0 => fun _ _ _ _ _ _ _ _ _ _ _ _ _ _ => none
  | k + 1 => fun x2 x6 x8 x10 x12 x13 x15 x16 x17 x18 x19 x21 x23 s =>
    if x23 < (8 : Int32) then
      (f_frameOf s (x23 >>> ((1 : Int32) &&& 31)) (x23 &&& (1 : Int32))).bind fun q2 =>
      (f_hput x19 x23 (8 : Int32) (q2 + (1 : Int32))).bind fun q4 =>
      f_law_236 n sn sf k68 k x2 x6 x8 x10 x12 x13 x15 x16 x17 x18 q4 x21 (x23 + (1 : Int32)) s
    else
      f_law_278 n sn sf k68 n x2 x6 x8 x10 x12 x13 x15 x16 x17 x18 x19 x21 (0 : Int32) s
set_option maxRecDepth 100000 in
theorem e_law_236 {g : GT} {n : Nat} {sn : Nat} {sf : Nat → Int32} (hw : HW g) {K : St → MHeap} {o : Nat} {r : Nat → Nat} (hs : ∀ s, (K s)[0]? = some (.inr (false, tab sn sf))) (V : View (GG g) Ln K o r) {k68 : Int32 → Int64 → Int64 → Int64 → Int32 → St → Option (Int32 × St)} (hk68 : ∀ (x2 : Int32) (x6 : Int64) (x8 : Int64) (x10 : Int64) (x12 : Int32) (s : St) (y1 : Slot) (hy1 : one1 y1 = true) (y3 : Slot) (hy3 : one1 y3 = true) (y4 : Slot) (hy4 : one1 y4 = true) (y13 : Slot) (hy13 : one1 y13 = true) (y14 : Slot) (hy14 : one1 y14 = true) (y15 : Slot) (hy15 : one1 y15 = true) (y16 : Slot) (hy16 : one1 y16 = true) (y17 : Slot) (hy17 : one1 y17 = true) (y18 : Slot) (hy18 : one1 y18 = true) (y19 y20 : Slot) (hy19 : two2 y19 y20) (y21 y22 : Slot) (hy21 : two2 y21 y22) (y23 : Slot) (hy23 : one1 y23 = true) (y24 : Slot) (hy24 : one1 y24 = true) (y25 : Slot) (hy25 : one1 y25 = true) (y26 : Slot) (hy26 : one1 y26 = true) (y27 : Slot) (hy27 : one1 y27 = true) (y28 : Slot) (hy28 : one1 y28 = true) (w : Int32 × St), k68 x2 x6 x8 x10 x12 s = some w → Ev (GG g) M_law 68 [.val (.ref 0), y1, .val (.int x2), y3, y4, .val (.ref o), .val (.long x6), .second, .val (.long x8), .second, .val (.long x10), .second, .val (.int x12), y13, y14, y15, y16, y17, y18, y19, y20, y21, y22, y23, y24, y25, y26, y27, y28] [] (K s) ((some (.int w.1)), (K w.2))) (k : Nat) : ∀ (x2 : Int32) (x6 : Int64) (x8 : Int64) (x10 : Int64) (x12 : Int32) (x13 : Int32) (x15 : Int32) (x16 : Int32) (x17 : Int32) (x18 : Int32) (x19 : Int64) (x21 : Int64) (x23 : Int32) (s : St) (y1 : Slot) (hy1 : one1 y1 = true) (y3 : Slot) (hy3 : one1 y3 = true) (y4 : Slot) (hy4 : one1 y4 = true) (y14 : Slot) (hy14 : one1 y14 = true) (y24 : Slot) (hy24 : one1 y24 = true) (y25 : Slot) (hy25 : one1 y25 = true) (y26 : Slot) (hy26 : one1 y26 = true) (y27 : Slot) (hy27 : one1 y27 = true) (y28 : Slot) (hy28 : one1 y28 = true) (w : Int32 × St), f_law_236 n sn sf k68 k x2 x6 x8 x10 x12 x13 x15 x16 x17 x18 x19 x21 x23 s = some w → Ev (GG g) M_law 236 [.val (.ref 0), y1, .val (.int x2), y3, y4, .val (.ref o), .val (.long x6), .second, .val (.long x8), .second, .val (.long x10), .second, .val (.int x12), .val (.int x13), y14, .val (.int x15), .val (.int x16), .val (.int x17), .val (.int x18), .val (.long x19), .second, .val (.long x21), .second, .val (.int x23), y24, y25, y26, y27, y28] [] (K s) ((some (.int w.1)), (K w.2)) := by
  induction k with
  | zero => intro x2 x6 x8 x10 x12 x13 x15 x16 x17 x18 x19 x21 x23 s y1 hy1 y3 hy3 y4 hy4 y14 hy14 y24 hy24 y25 hy25 y26 hy26 y27 hy27 y28 hy28 w hr; rw [f_law_236] at hr; cases hr
  | succ k ih =>
    intro x2 x6 x8 x10 x12 x13 x15 x16 x17 x18 x19 x21 x23 s y1 hy1 y3 hy3 y4 hy4 y14 hy14 y24 hy24 y25 hy25 y26 hy26 y27 hy27 y28 hy28 w hr
    rw [f_law_236] at hr
    refine Ev.iload at_236 rfl ?_
    refine Ev.bipush (z := 8) at_238 rfl ?_
    refine Ev.icge (t := 275) at_240 rfl (fun c1 => ?_) (fun c1 => ?_)
    · replace hr := (if_pos c1).symm.trans hr
      refine Ev.lload at_243 rfl ?_
      refine Ev.iload at_245 rfl ?_
      refine Ev.bipush (z := 8) at_247 rfl ?_
      refine Ev.aload at_249 rfl ?_
      refine Ev.iload at_251 rfl ?_
      refine Ev.iconst (z := 1) at_253 rfl ?_
      refine Ev.ishr at_254 ?_
      refine Ev.iload at_255 rfl ?_
      refine Ev.iconst (z := 1) at_257 rfl ?_
      refine Ev.iand at_258 ?_
      obtain ⟨q2, hq3, hr⟩ := Option.bind_eq_some_iff.mp hr
      refine Ev.virt (y := M_frameOf) (args := [.int (x23 >>> ((1 : Int32) &&& 31)), .int (x23 &&& (1 : Int32))]) (rest := [.int (8 : Int32), .int x23, .long x19]) (gok hw) rfl nm_frameOf (ww hw 57 rfl) (ww hw 58 rfl) (ww hw 59 rfl) (ww hw 60 rfl) (ww hw 61 rfl) (lenOf pd_frameOf rfl) at_259 (V.2.1 s) (e_frameOf hw V hq3) (by decide) (Nat.le_of_ble_eq_true rfl) rfl ?_
      refine Ev.iconst (z := 1) at_262 rfl ?_
      refine Ev.iadd at_263 ?_
      obtain ⟨q4, hq5, hr⟩ := Option.bind_eq_some_iff.mp hr
      refine Ev.stat (y := M_hput) (args := [.long x19, .int x23, .int (8 : Int32), .int (q2 + (1 : Int32))]) (rest := []) nm_hput (ww hw 62 rfl) (ww hw 63 rfl) (ww hw 2 rfl) (ww hw 64 rfl) (lenOf pd_hput rfl) at_264 (e_hput hw hq5) (by decide) (Nat.le_of_ble_eq_true rfl) rfl ?_
      refine Ev.lstD (L' := [.val (.ref 0), y1, .val (.int x2), y3, y4, .val (.ref o), .val (.long x6), .second, .val (.long x8), .second, .val (.long x10), .second, .val (.int x12), .val (.int x13), y14, .val (.int x15), .val (.int x16), .val (.int x17), .val (.int x18), .val (.long q4), .second, .val (.long x21), .second, .val (.int x23), y24, y25, y26, y27, y28]) at_267 rfl rfl (Or.inr ⟨_, rfl, rfl⟩) rfl ?_
      refine Ev.iinc (z := 1) (L' := [.val (.ref 0), y1, .val (.int x2), y3, y4, .val (.ref o), .val (.long x6), .second, .val (.long x8), .second, .val (.long x10), .second, .val (.int x12), .val (.int x13), y14, .val (.int x15), .val (.int x16), .val (.int x17), .val (.int x18), .val (.long q4), .second, .val (.long x21), .second, .val (.int (x23 + (1 : Int32))), y24, y25, y26, y27, y28]) at_269 rfl rfl rfl ?_
      refine Ev.goto (t := 236) at_272 rfl ?_
      exact ih x2 x6 x8 x10 x12 x13 x15 x16 x17 x18 q4 x21 (x23 + (1 : Int32)) s y1 hy1 y3 hy3 y4 hy4 y14 hy14 y24 hy24 y25 hy25 y26 hy26 y27 hy27 y28 hy28 _ hr
    · replace hr := (if_neg c1).symm.trans hr
      refine Ev.iconst (z := 0) at_275 rfl ?_
      refine Ev.istD (L' := [.val (.ref 0), y1, .val (.int x2), y3, y4, .val (.ref o), .val (.long x6), .second, .val (.long x8), .second, .val (.long x10), .second, .val (.int x12), .val (.int x13), y14, .val (.int x15), .val (.int x16), .val (.int x17), .val (.int x18), .val (.long x19), .second, .val (.long x21), .second, .val (.int (0 : Int32)), y24, y25, y26, y27, y28]) at_276 rfl rfl rfl ?_
      exact e_law_278 hw hs V hk68 n x2 x6 x8 x10 x12 x13 x15 x16 x17 x18 x19 x21 (0 : Int32) s y1 hy1 y3 hy3 y4 hy4 y14 hy14 y24 hy24 y25 hy25 y26 hy26 y27 hy27 y28 hy28 _ hr
def f_law_68 (n : Nat) (sn : Nat) (sf : Nat → Int32) : Nat → Int32 → Int64 → Int64 → Int64 → Int32 → St → Option (Int32 × St)
  | 0 => fun _ _ _ _ _ _ => none
  | k + 1 => fun x2 x6 x8 x10 x12 s =>
    if x12 < (300 : Int32) then
      if ((4 : Int32) + ((3 : Int32) * x12)) < sn.toInt32 then
        (f_hcell sn sf ((4 : Int32) + ((3 : Int32) * x12))).bind fun q3 =>
        (f_hcell sn sf ((5 : Int32) + ((3 : Int32) * x12))).bind fun q5 =>
        (f_hcell sn sf ((6 : Int32) + ((3 : Int32) * x12))).bind fun q7 =>
        if (q3 &&& (7 : Int32)) = (4 : Int32) then
          f_law_140 n sn sf (f_law_68 n sn sf k) x2 x6 x8 x10 x12 s
        else
          if (q3 &&& (7 : Int32)) = (6 : Int32) then
            f_law_140 n sn sf (f_law_68 n sn sf k) x2 x6 x8 x10 x12 s
          else
            if (q3 &&& (7 : Int32)) = (5 : Int32) then
              (f_control n s).bind fun q12 =>
              f_law_68 n sn sf k x2 x6 x8 x10 (x12 + (1 : Int32)) q12.2
            else
              if (q3 &&& (7 : Int32)) = (7 : Int32) then
                if (q7 &&& (1 : Int32)) = 0 then
                  (f_swapOut n (q5 &&& (3 : Int32)) s).bind fun q16 =>
                  f_law_68 n sn sf k x2 x6 x8 x10 (x12 + (1 : Int32)) q16.2
                else
                  (f_swapIn n (q5 &&& (3 : Int32)) s).bind fun q18 =>
                  f_law_68 n sn sf k x2 x6 x8 x10 (x12 + (1 : Int32)) q18.2
              else
                bnd (((q5 &&& (3 : Int32)) * (2 : Int32)) + ((q5 >>> ((2 : Int32) &&& 31)) &&& (1 : Int32))) fun v20 =>
                f_law_236 n sn sf (f_law_68 n sn sf k) n x2 x6 x8 x10 x12 (q3 &&& (7 : Int32)) q7 (q5 &&& (3 : Int32)) ((q5 >>> ((2 : Int32) &&& 31)) &&& (1 : Int32)) v20 (0 : Int64) (0 : Int64) (0 : Int32) s
      else
        some ((1 : Int32), s)
    else
      some ((1 : Int32), s)
set_option maxRecDepth 100000 in
theorem e_law_68 {g : GT} {n : Nat} {sn : Nat} {sf : Nat → Int32} (hw : HW g) {K : St → MHeap} {o : Nat} {r : Nat → Nat} (hs : ∀ s, (K s)[0]? = some (.inr (false, tab sn sf))) (V : View (GG g) Ln K o r) (k : Nat) : ∀ (x2 : Int32) (x6 : Int64) (x8 : Int64) (x10 : Int64) (x12 : Int32) (s : St) (y1 : Slot) (hy1 : one1 y1 = true) (y3 : Slot) (hy3 : one1 y3 = true) (y4 : Slot) (hy4 : one1 y4 = true) (y13 : Slot) (hy13 : one1 y13 = true) (y14 : Slot) (hy14 : one1 y14 = true) (y15 : Slot) (hy15 : one1 y15 = true) (y16 : Slot) (hy16 : one1 y16 = true) (y17 : Slot) (hy17 : one1 y17 = true) (y18 : Slot) (hy18 : one1 y18 = true) (y19 y20 : Slot) (hy19 : two2 y19 y20) (y21 y22 : Slot) (hy21 : two2 y21 y22) (y23 : Slot) (hy23 : one1 y23 = true) (y24 : Slot) (hy24 : one1 y24 = true) (y25 : Slot) (hy25 : one1 y25 = true) (y26 : Slot) (hy26 : one1 y26 = true) (y27 : Slot) (hy27 : one1 y27 = true) (y28 : Slot) (hy28 : one1 y28 = true) (w : Int32 × St), f_law_68 n sn sf k x2 x6 x8 x10 x12 s = some w → Ev (GG g) M_law 68 [.val (.ref 0), y1, .val (.int x2), y3, y4, .val (.ref o), .val (.long x6), .second, .val (.long x8), .second, .val (.long x10), .second, .val (.int x12), y13, y14, y15, y16, y17, y18, y19, y20, y21, y22, y23, y24, y25, y26, y27, y28] [] (K s) ((some (.int w.1)), (K w.2)) := by
  induction k with
  | zero => intro x2 x6 x8 x10 x12 s y1 hy1 y3 hy3 y4 hy4 y13 hy13 y14 hy14 y15 hy15 y16 hy16 y17 hy17 y18 hy18 y19 y20 hy19 y21 y22 hy21 y23 hy23 y24 hy24 y25 hy25 y26 hy26 y27 hy27 y28 hy28 w hr; rw [f_law_68] at hr; cases hr
  | succ k ih =>
    intro x2 x6 x8 x10 x12 s y1 hy1 y3 hy3 y4 hy4 y13 hy13 y14 hy14 y15 hy15 y16 hy16 y17 hy17 y18 hy18 y19 y20 hy19 y21 y22 hy21 y23 hy23 y24 hy24 y25 hy25 y26 hy26 y27 hy27 y28 hy28 w hr
    rw [f_law_68] at hr
    refine Ev.iload at_68 rfl ?_
    refine Ev.sipush (z := 300) at_70 rfl ?_
    refine Ev.icge (t := 604) at_73 rfl (fun c1 => ?_) (fun c1 => ?_)
    · replace hr := (if_pos c1).symm.trans hr
      refine Ev.iconst (z := 4) at_76 rfl ?_
      refine Ev.iconst (z := 3) at_77 rfl ?_
      refine Ev.iload at_78 rfl ?_
      refine Ev.imul at_80 ?_
      refine Ev.iadd at_81 ?_
      refine Ev.aloadN at_82 rfl ?_
      refine Ev.sln (hs s) at_83 ?_
      refine Ev.icge (t := 604) at_84 rfl (fun c2 => ?_) (fun c2 => ?_)
      · replace hr := (if_pos c2).symm.trans hr
        refine Ev.aloadN at_87 rfl ?_
        refine Ev.iconst (z := 4) at_88 rfl ?_
        refine Ev.iconst (z := 3) at_89 rfl ?_
        refine Ev.iload at_90 rfl ?_
        refine Ev.imul at_92 ?_
        refine Ev.iadd at_93 ?_
        obtain ⟨q3, hq4, hr⟩ := Option.bind_eq_some_iff.mp hr
        refine Ev.stat (y := M_hcell) (args := [.ref 0, .int ((4 : Int32) + ((3 : Int32) * x12))]) (rest := []) nm_hcell (ww hw 0 rfl) (ww hw 1 rfl) (ww hw 2 rfl) (ww hw 3 rfl) (lenOf pd_hcell rfl) at_94 (e_hcell hw (hs s) hq4) (by decide) (Nat.le_of_ble_eq_true rfl) rfl ?_
        refine Ev.bipush (z := 7) at_97 rfl ?_
        refine Ev.iand at_99 ?_
        refine Ev.istD (L' := [.val (.ref 0), y1, .val (.int x2), y3, y4, .val (.ref o), .val (.long x6), .second, .val (.long x8), .second, .val (.long x10), .second, .val (.int x12), .val (.int (q3 &&& (7 : Int32))), y14, y15, y16, y17, y18, y19, y20, y21, y22, y23, y24, y25, y26, y27, y28]) at_100 rfl hy13 rfl ?_
        refine Ev.aloadN at_102 rfl ?_
        refine Ev.iconst (z := 5) at_103 rfl ?_
        refine Ev.iconst (z := 3) at_104 rfl ?_
        refine Ev.iload at_105 rfl ?_
        refine Ev.imul at_107 ?_
        refine Ev.iadd at_108 ?_
        obtain ⟨q5, hq6, hr⟩ := Option.bind_eq_some_iff.mp hr
        refine Ev.stat (y := M_hcell) (args := [.ref 0, .int ((5 : Int32) + ((3 : Int32) * x12))]) (rest := []) nm_hcell (ww hw 0 rfl) (ww hw 1 rfl) (ww hw 2 rfl) (ww hw 3 rfl) (lenOf pd_hcell rfl) at_109 (e_hcell hw (hs s) hq6) (by decide) (Nat.le_of_ble_eq_true rfl) rfl ?_
        refine Ev.istD (L' := [.val (.ref 0), y1, .val (.int x2), y3, y4, .val (.ref o), .val (.long x6), .second, .val (.long x8), .second, .val (.long x10), .second, .val (.int x12), .val (.int (q3 &&& (7 : Int32))), .val (.int q5), y15, y16, y17, y18, y19, y20, y21, y22, y23, y24, y25, y26, y27, y28]) at_112 rfl hy14 rfl ?_
        refine Ev.aloadN at_114 rfl ?_
        refine Ev.bipush (z := 6) at_115 rfl ?_
        refine Ev.iconst (z := 3) at_117 rfl ?_
        refine Ev.iload at_118 rfl ?_
        refine Ev.imul at_120 ?_
        refine Ev.iadd at_121 ?_
        obtain ⟨q7, hq8, hr⟩ := Option.bind_eq_some_iff.mp hr
        refine Ev.stat (y := M_hcell) (args := [.ref 0, .int ((6 : Int32) + ((3 : Int32) * x12))]) (rest := []) nm_hcell (ww hw 0 rfl) (ww hw 1 rfl) (ww hw 2 rfl) (ww hw 3 rfl) (lenOf pd_hcell rfl) at_122 (e_hcell hw (hs s) hq8) (by decide) (Nat.le_of_ble_eq_true rfl) rfl ?_
        refine Ev.istD (L' := [.val (.ref 0), y1, .val (.int x2), y3, y4, .val (.ref o), .val (.long x6), .second, .val (.long x8), .second, .val (.long x10), .second, .val (.int x12), .val (.int (q3 &&& (7 : Int32))), .val (.int q5), .val (.int q7), y16, y17, y18, y19, y20, y21, y22, y23, y24, y25, y26, y27, y28]) at_125 rfl hy15 rfl ?_
        refine Ev.iload at_127 rfl ?_
        refine Ev.iconst (z := 4) at_129 rfl ?_
        refine Ev.iceq (t := 140) at_130 rfl (fun c9 => ?_) (fun c9 => ?_)
        · replace hr := (if_pos c9).symm.trans hr
          exact e_law_140 hw hs V ih x2 x6 x8 x10 x12 s y1 hy1 y3 hy3 y4 hy4 (.val (.int (q3 &&& (7 : Int32)))) rfl (.val (.int q5)) rfl (.val (.int q7)) rfl y16 hy16 y17 hy17 y18 hy18 y19 y20 hy19 y21 y22 hy21 y23 hy23 y24 hy24 y25 hy25 y26 hy26 y27 hy27 y28 hy28 _ hr
        · replace hr := (if_neg c9).symm.trans hr
          refine Ev.iload at_133 rfl ?_
          refine Ev.bipush (z := 6) at_135 rfl ?_
          refine Ev.icne (t := 149) at_137 rfl (fun c10 => ?_) (fun c10 => ?_)
          · replace hr := (if_pos c10).symm.trans hr
            exact e_law_140 hw hs V ih x2 x6 x8 x10 x12 s y1 hy1 y3 hy3 y4 hy4 (.val (.int (q3 &&& (7 : Int32)))) rfl (.val (.int q5)) rfl (.val (.int q7)) rfl y16 hy16 y17 hy17 y18 hy18 y19 y20 hy19 y21 y22 hy21 y23 hy23 y24 hy24 y25 hy25 y26 hy26 y27 hy27 y28 hy28 _ hr
          · replace hr := (if_neg c10).symm.trans hr
            refine Ev.iload at_149 rfl ?_
            refine Ev.iconst (z := 5) at_151 rfl ?_
            refine Ev.icne (t := 164) at_152 rfl (fun c11 => ?_) (fun c11 => ?_)
            · replace hr := (if_pos c11).symm.trans hr
              refine Ev.aload at_155 rfl ?_
              obtain ⟨q12, hq13, hr⟩ := Option.bind_eq_some_iff.mp hr
              refine Ev.virt (y := M_control) (args := []) (rest := []) (gok hw) rfl nm_control (ww hw 122 rfl) (ww hw 123 rfl) (ww hw 124 rfl) (ww hw 125 rfl) (ww hw 126 rfl) (lenOf pd_control rfl) at_157 (V.2.1 s) (e_control hw V hq13) (by decide) (Nat.le_of_ble_eq_true rfl) rfl ?_
              refine Ev.pop at_160 rfl ?_
              refine Ev.goto (t := 598) at_161 rfl ?_
              refine Ev.iinc (z := 1) (L' := [.val (.ref 0), y1, .val (.int x2), y3, y4, .val (.ref o), .val (.long x6), .second, .val (.long x8), .second, .val (.long x10), .second, .val (.int (x12 + (1 : Int32))), .val (.int (q3 &&& (7 : Int32))), .val (.int q5), .val (.int q7), y16, y17, y18, y19, y20, y21, y22, y23, y24, y25, y26, y27, y28]) at_598 rfl rfl rfl ?_
              refine Ev.goto (t := 68) at_601 rfl ?_
              exact ih x2 x6 x8 x10 (x12 + (1 : Int32)) q12.2 y1 hy1 y3 hy3 y4 hy4 (.val (.int (q3 &&& (7 : Int32)))) rfl (.val (.int q5)) rfl (.val (.int q7)) rfl y16 hy16 y17 hy17 y18 hy18 y19 y20 hy19 y21 y22 hy21 y23 hy23 y24 hy24 y25 hy25 y26 hy26 y27 hy27 y28 hy28 _ hr
            · replace hr := (if_neg c11).symm.trans hr
              refine Ev.iload at_164 rfl ?_
              refine Ev.bipush (z := 7) at_166 rfl ?_
              refine Ev.icne (t := 204) at_168 rfl (fun c14 => ?_) (fun c14 => ?_)
              · replace hr := (if_pos c14).symm.trans hr
                refine Ev.iload at_171 rfl ?_
                refine Ev.iconst (z := 1) at_173 rfl ?_
                refine Ev.iand at_174 ?_
                refine Ev.ifne (t := 191) at_175 rfl (fun c15 => ?_) (fun c15 => ?_)
                · replace hr := (if_pos c15).symm.trans hr
                  refine Ev.aload at_178 rfl ?_
                  refine Ev.iload at_180 rfl ?_
                  refine Ev.iconst (z := 3) at_182 rfl ?_
                  refine Ev.iand at_183 ?_
                  obtain ⟨q16, hq17, hr⟩ := Option.bind_eq_some_iff.mp hr
                  refine Ev.virt (y := M_swapOut) (args := [.int (q5 &&& (3 : Int32))]) (rest := []) (gok hw) rfl nm_swapOut (ww hw 144 rfl) (ww hw 145 rfl) (ww hw 146 rfl) (ww hw 147 rfl) (ww hw 148 rfl) (lenOf pd_swapOut rfl) at_184 (V.2.1 s) (e_swapOut hw V hq17) (by decide) (Nat.le_of_ble_eq_true rfl) rfl ?_
                  refine Ev.pop at_187 rfl ?_
                  refine Ev.goto (t := 598) at_188 rfl ?_
                  refine Ev.iinc (z := 1) (L' := [.val (.ref 0), y1, .val (.int x2), y3, y4, .val (.ref o), .val (.long x6), .second, .val (.long x8), .second, .val (.long x10), .second, .val (.int (x12 + (1 : Int32))), .val (.int (q3 &&& (7 : Int32))), .val (.int q5), .val (.int q7), y16, y17, y18, y19, y20, y21, y22, y23, y24, y25, y26, y27, y28]) at_598 rfl rfl rfl ?_
                  refine Ev.goto (t := 68) at_601 rfl ?_
                  exact ih x2 x6 x8 x10 (x12 + (1 : Int32)) q16.2 y1 hy1 y3 hy3 y4 hy4 (.val (.int (q3 &&& (7 : Int32)))) rfl (.val (.int q5)) rfl (.val (.int q7)) rfl y16 hy16 y17 hy17 y18 hy18 y19 y20 hy19 y21 y22 hy21 y23 hy23 y24 hy24 y25 hy25 y26 hy26 y27 hy27 y28 hy28 _ hr
                · replace hr := (if_neg c15).symm.trans hr
                  refine Ev.aload at_191 rfl ?_
                  refine Ev.iload at_193 rfl ?_
                  refine Ev.iconst (z := 3) at_195 rfl ?_
                  refine Ev.iand at_196 ?_
                  obtain ⟨q18, hq19, hr⟩ := Option.bind_eq_some_iff.mp hr
                  refine Ev.virt (y := M_swapIn) (args := [.int (q5 &&& (3 : Int32))]) (rest := []) (gok hw) rfl nm_swapIn (ww hw 131 rfl) (ww hw 132 rfl) (ww hw 133 rfl) (ww hw 134 rfl) (ww hw 135 rfl) (lenOf pd_swapIn rfl) at_197 (V.2.1 s) (e_swapIn hw V hq19) (by decide) (Nat.le_of_ble_eq_true rfl) rfl ?_
                  refine Ev.pop at_200 rfl ?_
                  refine Ev.goto (t := 598) at_201 rfl ?_
                  refine Ev.iinc (z := 1) (L' := [.val (.ref 0), y1, .val (.int x2), y3, y4, .val (.ref o), .val (.long x6), .second, .val (.long x8), .second, .val (.long x10), .second, .val (.int (x12 + (1 : Int32))), .val (.int (q3 &&& (7 : Int32))), .val (.int q5), .val (.int q7), y16, y17, y18, y19, y20, y21, y22, y23, y24, y25, y26, y27, y28]) at_598 rfl rfl rfl ?_
                  refine Ev.goto (t := 68) at_601 rfl ?_
                  exact ih x2 x6 x8 x10 (x12 + (1 : Int32)) q18.2 y1 hy1 y3 hy3 y4 hy4 (.val (.int (q3 &&& (7 : Int32)))) rfl (.val (.int q5)) rfl (.val (.int q7)) rfl y16 hy16 y17 hy17 y18 hy18 y19 y20 hy19 y21 y22 hy21 y23 hy23 y24 hy24 y25 hy25 y26 hy26 y27 hy27 y28 hy28 _ hr
              · replace hr := (if_neg c14).symm.trans hr
                refine Ev.iload at_204 rfl ?_
                refine Ev.iconst (z := 3) at_206 rfl ?_
                refine Ev.iand at_207 ?_
                refine Ev.istD (L' := [.val (.ref 0), y1, .val (.int x2), y3, y4, .val (.ref o), .val (.long x6), .second, .val (.long x8), .second, .val (.long x10), .second, .val (.int x12), .val (.int (q3 &&& (7 : Int32))), .val (.int q5), .val (.int q7), .val (.int (q5 &&& (3 : Int32))), y17, y18, y19, y20, y21, y22, y23, y24, y25, y26, y27, y28]) at_208 rfl hy16 rfl ?_
                refine Ev.iload at_210 rfl ?_
                refine Ev.iconst (z := 2) at_212 rfl ?_
                refine Ev.ishr at_213 ?_
                refine Ev.iconst (z := 1) at_214 rfl ?_
                refine Ev.iand at_215 ?_
                refine Ev.istD (L' := [.val (.ref 0), y1, .val (.int x2), y3, y4, .val (.ref o), .val (.long x6), .second, .val (.long x8), .second, .val (.long x10), .second, .val (.int x12), .val (.int (q3 &&& (7 : Int32))), .val (.int q5), .val (.int q7), .val (.int (q5 &&& (3 : Int32))), .val (.int ((q5 >>> ((2 : Int32) &&& 31)) &&& (1 : Int32))), y18, y19, y20, y21, y22, y23, y24, y25, y26, y27, y28]) at_216 rfl hy17 rfl ?_
                refine Ev.iload at_218 rfl ?_
                refine Ev.iconst (z := 2) at_220 rfl ?_
                refine Ev.imul at_221 ?_
                refine Ev.iload at_222 rfl ?_
                refine Ev.iadd at_224 ?_
                revert hr
                generalize (((q5 &&& (3 : Int32)) * (2 : Int32)) + ((q5 >>> ((2 : Int32) &&& 31)) &&& (1 : Int32))) = v20
                intro hr
                replace hr := (bnd_eq _ _).symm.trans hr
                refine Ev.istD (L' := [.val (.ref 0), y1, .val (.int x2), y3, y4, .val (.ref o), .val (.long x6), .second, .val (.long x8), .second, .val (.long x10), .second, .val (.int x12), .val (.int (q3 &&& (7 : Int32))), .val (.int q5), .val (.int q7), .val (.int (q5 &&& (3 : Int32))), .val (.int ((q5 >>> ((2 : Int32) &&& 31)) &&& (1 : Int32))), .val (.int v20), y19, y20, y21, y22, y23, y24, y25, y26, y27, y28]) at_225 rfl hy18 rfl ?_
                refine Ev.lconst (z := 0) at_227 rfl ?_
                refine Ev.lstD (L' := [.val (.ref 0), y1, .val (.int x2), y3, y4, .val (.ref o), .val (.long x6), .second, .val (.long x8), .second, .val (.long x10), .second, .val (.int x12), .val (.int (q3 &&& (7 : Int32))), .val (.int q5), .val (.int q7), .val (.int (q5 &&& (3 : Int32))), .val (.int ((q5 >>> ((2 : Int32) &&& 31)) &&& (1 : Int32))), .val (.int v20), .val (.long (0 : Int64)), .second, y21, y22, y23, y24, y25, y26, y27, y28]) at_228 rfl rfl hy19 rfl ?_
                refine Ev.lconst (z := 0) at_230 rfl ?_
                refine Ev.lstD (L' := [.val (.ref 0), y1, .val (.int x2), y3, y4, .val (.ref o), .val (.long x6), .second, .val (.long x8), .second, .val (.long x10), .second, .val (.int x12), .val (.int (q3 &&& (7 : Int32))), .val (.int q5), .val (.int q7), .val (.int (q5 &&& (3 : Int32))), .val (.int ((q5 >>> ((2 : Int32) &&& 31)) &&& (1 : Int32))), .val (.int v20), .val (.long (0 : Int64)), .second, .val (.long (0 : Int64)), .second, y23, y24, y25, y26, y27, y28]) at_231 rfl rfl hy21 rfl ?_
                refine Ev.iconst (z := 0) at_233 rfl ?_
                refine Ev.istD (L' := [.val (.ref 0), y1, .val (.int x2), y3, y4, .val (.ref o), .val (.long x6), .second, .val (.long x8), .second, .val (.long x10), .second, .val (.int x12), .val (.int (q3 &&& (7 : Int32))), .val (.int q5), .val (.int q7), .val (.int (q5 &&& (3 : Int32))), .val (.int ((q5 >>> ((2 : Int32) &&& 31)) &&& (1 : Int32))), .val (.int v20), .val (.long (0 : Int64)), .second, .val (.long (0 : Int64)), .second, .val (.int (0 : Int32)), y24, y25, y26, y27, y28]) at_234 rfl hy23 rfl ?_
                exact e_law_236 hw hs V ih n x2 x6 x8 x10 x12 (q3 &&& (7 : Int32)) q7 (q5 &&& (3 : Int32)) ((q5 >>> ((2 : Int32) &&& 31)) &&& (1 : Int32)) v20 (0 : Int64) (0 : Int64) (0 : Int32) s y1 hy1 y3 hy3 y4 hy4 (.val (.int q5)) rfl y24 hy24 y25 hy25 y26 hy26 y27 hy27 y28 hy28 _ hr
      · replace hr := (if_neg c2).symm.trans hr
        refine Ev.iconst (z := 1) at_604 rfl ?_
        cases hr
        exact Ev.zret1 rfl at_605
    · replace hr := (if_neg c1).symm.trans hr
      refine Ev.iconst (z := 1) at_604 rfl ?_
      cases hr
      exact Ev.zret1 rfl at_605
def f_law_54 (n : Nat) (sn : Nat) (sf : Nat → Int32) (x2 : Int32) (s : St) : Option (Int32 × St) :=
  f_law_68 n sn sf n x2 (0 : Int64) (0 : Int64) (0 : Int64) (0 : Int32) s
set_option maxRecDepth 100000 in
theorem e_law_54 {g : GT} {n : Nat} {sn : Nat} {sf : Nat → Int32} (hw : HW g) {K : St → MHeap} {o : Nat} {r : Nat → Nat} (hs : ∀ s, (K s)[0]? = some (.inr (false, tab sn sf))) (V : View (GG g) Ln K o r) (x2 : Int32) (s : St) (y1 : Slot) (hy1 : one1 y1 = true) (y3 : Slot) (hy3 : one1 y3 = true) (y4 : Slot) (hy4 : one1 y4 = true) (y5 : Slot) (hy5 : one1 y5 = true) (y6 : Slot) (hy6 : one1 y6 = true) (y7 : Slot) (hy7 : one1 y7 = true) (y8 : Slot) (hy8 : one1 y8 = true) (y9 : Slot) (hy9 : one1 y9 = true) (y10 : Slot) (hy10 : one1 y10 = true) (y11 : Slot) (hy11 : one1 y11 = true) (y12 : Slot) (hy12 : one1 y12 = true) (y13 : Slot) (hy13 : one1 y13 = true) (y14 : Slot) (hy14 : one1 y14 = true) (y15 : Slot) (hy15 : one1 y15 = true) (y16 : Slot) (hy16 : one1 y16 = true) (y17 : Slot) (hy17 : one1 y17 = true) (y18 : Slot) (hy18 : one1 y18 = true) (y19 : Slot) (hy19 : one1 y19 = true) (y20 : Slot) (hy20 : one1 y20 = true) (y21 : Slot) (hy21 : one1 y21 = true) (y22 : Slot) (hy22 : one1 y22 = true) (y23 : Slot) (hy23 : one1 y23 = true) (y24 : Slot) (hy24 : one1 y24 = true) (y25 : Slot) (hy25 : one1 y25 = true) (y26 : Slot) (hy26 : one1 y26 = true) (y27 : Slot) (hy27 : one1 y27 = true) (y28 : Slot) (hy28 : one1 y28 = true) (w : Int32 × St) (hr : f_law_54 n sn sf x2 s = some w) : Ev (GG g) M_law 54 [.val (.ref 0), y1, .val (.int x2), y3, y4, y5, y6, y7, y8, y9, y10, y11, y12, y13, y14, y15, y16, y17, y18, y19, y20, y21, y22, y23, y24, y25, y26, y27, y28] [.ref o] (K s) ((some (.int w.1)), (K w.2)) := by
  unfold f_law_54 at hr
  refine Ev.astD (L' := [.val (.ref 0), y1, .val (.int x2), y3, y4, .val (.ref o), y6, y7, y8, y9, y10, y11, y12, y13, y14, y15, y16, y17, y18, y19, y20, y21, y22, y23, y24, y25, y26, y27, y28]) at_54 rfl hy5 rfl ?_
  refine Ev.lconst (z := 0) at_56 rfl ?_
  refine Ev.lstD (L' := [.val (.ref 0), y1, .val (.int x2), y3, y4, .val (.ref o), .val (.long (0 : Int64)), .second, y8, y9, y10, y11, y12, y13, y14, y15, y16, y17, y18, y19, y20, y21, y22, y23, y24, y25, y26, y27, y28]) at_57 rfl rfl (Or.inl ⟨hy6, hy7⟩) rfl ?_
  refine Ev.lconst (z := 0) at_59 rfl ?_
  refine Ev.lstD (L' := [.val (.ref 0), y1, .val (.int x2), y3, y4, .val (.ref o), .val (.long (0 : Int64)), .second, .val (.long (0 : Int64)), .second, y10, y11, y12, y13, y14, y15, y16, y17, y18, y19, y20, y21, y22, y23, y24, y25, y26, y27, y28]) at_60 rfl rfl (Or.inl ⟨hy8, hy9⟩) rfl ?_
  refine Ev.lconst (z := 0) at_62 rfl ?_
  refine Ev.lstD (L' := [.val (.ref 0), y1, .val (.int x2), y3, y4, .val (.ref o), .val (.long (0 : Int64)), .second, .val (.long (0 : Int64)), .second, .val (.long (0 : Int64)), .second, y12, y13, y14, y15, y16, y17, y18, y19, y20, y21, y22, y23, y24, y25, y26, y27, y28]) at_63 rfl rfl (Or.inl ⟨hy10, hy11⟩) rfl ?_
  refine Ev.iconst (z := 0) at_65 rfl ?_
  refine Ev.istD (L' := [.val (.ref 0), y1, .val (.int x2), y3, y4, .val (.ref o), .val (.long (0 : Int64)), .second, .val (.long (0 : Int64)), .second, .val (.long (0 : Int64)), .second, .val (.int (0 : Int32)), y13, y14, y15, y16, y17, y18, y19, y20, y21, y22, y23, y24, y25, y26, y27, y28]) at_66 rfl hy12 rfl ?_
  exact e_law_68 hw hs V  n x2 (0 : Int64) (0 : Int64) (0 : Int64) (0 : Int32) s y1 hy1 y3 hy3 y4 hy4 y13 hy13 y14 hy14 y15 hy15 y16 hy16 y17 hy17 y18 hy18 y19 y20 (Or.inl ⟨hy19, hy20⟩) y21 y22 (Or.inl ⟨hy21, hy22⟩) y23 hy23 y24 hy24 y25 hy25 y26 hy26 y27 hy27 y28 hy28 _ hr
def f_law (n : Nat) (sn : Nat) (sf : Nat → Int32) : Option (Int32 × St) :=
  (f_hcell sn sf (0 : Int32)).bind fun q1 =>
  (f_hcell sn sf (1 : Int32)).bind fun q3 =>
  (f_hcell sn sf (2 : Int32)).bind fun q5 =>
  (f_hcell sn sf (3 : Int32)).bind fun q7 =>
  (f_ctor n ((4 : Int32) + (q1 &&& (3 : Int32))) ((1 : Int32) + (q3 &&& (7 : Int32))) ((1 : Int32) + (q5 &&& (3 : Int32))) ((1 : Int32) + (q7 &&& (3 : Int32)))).bind fun q9 =>
  f_law_54 n sn sf ((1 : Int32) + (q3 &&& (7 : Int32))) q9
set_option maxRecDepth 100000 in
theorem e_law {g : GT} {n : Nat} {sn : Nat} {sf : Nat → Int32} {w : Int32 × St} (hw : HW g) (hk : k0 (GG g) ≤ (H0 sn sf).length) (hr : f_law n sn sf = some w) : EvC (GG g) M_law [.ref 0] (H0 sn sf) ((some (.int w.1)), (KL sn sf w.2)) := by
  refine EvC.enter (L0 := [.val (.ref 0), .unset, .unset, .unset, .unset, .unset, .unset, .unset, .unset, .unset, .unset, .unset, .unset, .unset, .unset, .unset, .unset, .unset, .unset, .unset, .unset, .unset, .unset, .unset, .unset, .unset, .unset, .unset, .unset]) pl_law (fun h => nomatch h) rfl rfl ?_
  unfold f_law at hr
  refine Ev.iconst (z := 4) at_0 rfl ?_
  refine Ev.aloadN at_1 rfl ?_
  refine Ev.iconst (z := 0) at_2 rfl ?_
  obtain ⟨q1, hq2, hr⟩ := Option.bind_eq_some_iff.mp hr
  refine Ev.stat (y := M_hcell) (args := [.ref 0, .int (0 : Int32)]) (rest := [.int (4 : Int32)]) nm_hcell (ww hw 0 rfl) (ww hw 1 rfl) (ww hw 2 rfl) (ww hw 3 rfl) (lenOf pd_hcell rfl) at_3 (e_hcell hw rfl hq2) (by decide) (Nat.le_of_ble_eq_true rfl) rfl ?_
  refine Ev.iconst (z := 3) at_6 rfl ?_
  refine Ev.iand at_7 ?_
  refine Ev.iadd at_8 ?_
  refine Ev.istDN (L' := [.val (.ref 0), .val (.int ((4 : Int32) + (q1 &&& (3 : Int32)))), .unset, .unset, .unset, .unset, .unset, .unset, .unset, .unset, .unset, .unset, .unset, .unset, .unset, .unset, .unset, .unset, .unset, .unset, .unset, .unset, .unset, .unset, .unset, .unset, .unset, .unset, .unset]) at_9 rfl rfl rfl ?_
  refine Ev.iconst (z := 1) at_10 rfl ?_
  refine Ev.aloadN at_11 rfl ?_
  refine Ev.iconst (z := 1) at_12 rfl ?_
  obtain ⟨q3, hq4, hr⟩ := Option.bind_eq_some_iff.mp hr
  refine Ev.stat (y := M_hcell) (args := [.ref 0, .int (1 : Int32)]) (rest := [.int (1 : Int32)]) nm_hcell (ww hw 0 rfl) (ww hw 1 rfl) (ww hw 2 rfl) (ww hw 3 rfl) (lenOf pd_hcell rfl) at_13 (e_hcell hw rfl hq4) (by decide) (Nat.le_of_ble_eq_true rfl) rfl ?_
  refine Ev.bipush (z := 7) at_16 rfl ?_
  refine Ev.iand at_18 ?_
  refine Ev.iadd at_19 ?_
  refine Ev.istDN (L' := [.val (.ref 0), .val (.int ((4 : Int32) + (q1 &&& (3 : Int32)))), .val (.int ((1 : Int32) + (q3 &&& (7 : Int32)))), .unset, .unset, .unset, .unset, .unset, .unset, .unset, .unset, .unset, .unset, .unset, .unset, .unset, .unset, .unset, .unset, .unset, .unset, .unset, .unset, .unset, .unset, .unset, .unset, .unset, .unset]) at_20 rfl rfl rfl ?_
  refine Ev.iconst (z := 1) at_21 rfl ?_
  refine Ev.aloadN at_22 rfl ?_
  refine Ev.iconst (z := 2) at_23 rfl ?_
  obtain ⟨q5, hq6, hr⟩ := Option.bind_eq_some_iff.mp hr
  refine Ev.stat (y := M_hcell) (args := [.ref 0, .int (2 : Int32)]) (rest := [.int (1 : Int32)]) nm_hcell (ww hw 0 rfl) (ww hw 1 rfl) (ww hw 2 rfl) (ww hw 3 rfl) (lenOf pd_hcell rfl) at_24 (e_hcell hw rfl hq6) (by decide) (Nat.le_of_ble_eq_true rfl) rfl ?_
  refine Ev.iconst (z := 3) at_27 rfl ?_
  refine Ev.iand at_28 ?_
  refine Ev.iadd at_29 ?_
  refine Ev.istDN (L' := [.val (.ref 0), .val (.int ((4 : Int32) + (q1 &&& (3 : Int32)))), .val (.int ((1 : Int32) + (q3 &&& (7 : Int32)))), .val (.int ((1 : Int32) + (q5 &&& (3 : Int32)))), .unset, .unset, .unset, .unset, .unset, .unset, .unset, .unset, .unset, .unset, .unset, .unset, .unset, .unset, .unset, .unset, .unset, .unset, .unset, .unset, .unset, .unset, .unset, .unset, .unset]) at_30 rfl rfl rfl ?_
  refine Ev.iconst (z := 1) at_31 rfl ?_
  refine Ev.aloadN at_32 rfl ?_
  refine Ev.iconst (z := 3) at_33 rfl ?_
  obtain ⟨q7, hq8, hr⟩ := Option.bind_eq_some_iff.mp hr
  refine Ev.stat (y := M_hcell) (args := [.ref 0, .int (3 : Int32)]) (rest := [.int (1 : Int32)]) nm_hcell (ww hw 0 rfl) (ww hw 1 rfl) (ww hw 2 rfl) (ww hw 3 rfl) (lenOf pd_hcell rfl) at_34 (e_hcell hw rfl hq8) (by decide) (Nat.le_of_ble_eq_true rfl) rfl ?_
  refine Ev.iconst (z := 3) at_37 rfl ?_
  refine Ev.iand at_38 ?_
  refine Ev.iadd at_39 ?_
  refine Ev.istD (L' := [.val (.ref 0), .val (.int ((4 : Int32) + (q1 &&& (3 : Int32)))), .val (.int ((1 : Int32) + (q3 &&& (7 : Int32)))), .val (.int ((1 : Int32) + (q5 &&& (3 : Int32)))), .val (.int ((1 : Int32) + (q7 &&& (3 : Int32)))), .unset, .unset, .unset, .unset, .unset, .unset, .unset, .unset, .unset, .unset, .unset, .unset, .unset, .unset, .unset, .unset, .unset, .unset, .unset, .unset, .unset, .unset, .unset, .unset]) at_40 rfl rfl rfl ?_
  refine Ev.new (gok hw) (ww hw 4 rfl) at_42 (fs := dfl) rfl ?_
  refine Ev.dup at_45 rfl ?_
  refine Ev.iloadN at_46 rfl ?_
  refine Ev.iloadN at_47 rfl ?_
  refine Ev.iloadN at_48 rfl ?_
  refine Ev.iload at_49 rfl ?_
  obtain ⟨q9, hq10, hr⟩ := Option.bind_eq_some_iff.mp hr
  refine Ev.ctor (y := M_ctor) (args := [.int ((4 : Int32) + (q1 &&& (3 : Int32))), .int ((1 : Int32) + (q3 &&& (7 : Int32))), .int ((1 : Int32) + (q5 &&& (3 : Int32))), .int ((1 : Int32) + (q7 &&& (3 : Int32)))]) (rest := [.ref (H0 sn sf).length]) rfl rfl nm_ctor (ww hw 7 rfl) (ww hw 8 rfl) (ww hw 9 rfl) (ww hw 6 rfl) (lenOf pd_ctor rfl) at_51 (e_ctor hw hk hq10) (by decide) (Nat.le_of_ble_eq_true rfl) rfl ?_
  exact e_law_54 hw (K := KL sn sf) (o := (H0 sn sf).length) (r := rA (H0 sn sf).length al) (fun _ => rfl) (view_of hk al_ok al_nd)  ((1 : Int32) + (q3 &&& (7 : Int32))) q9 (.val (.int ((4 : Int32) + (q1 &&& (3 : Int32))))) rfl (.val (.int ((1 : Int32) + (q5 &&& (3 : Int32))))) rfl (.val (.int ((1 : Int32) + (q7 &&& (3 : Int32))))) rfl .unset rfl .unset rfl .unset rfl .unset rfl .unset rfl .unset rfl .unset rfl .unset rfl .unset rfl .unset rfl .unset rfl .unset rfl .unset rfl .unset rfl .unset rfl .unset rfl .unset rfl .unset rfl .unset rfl .unset rfl .unset rfl .unset rfl .unset rfl .unset rfl _ hr
theorem fin_len (sn : Nat) (sf : Nat → Int32) (w : St) : (KL sn sf w).length - (H0 sn sf).length ≤ 40 := by
  have q : al.length = 15 := rfl
  unfold KL; rw [KH_len]; simp only [List.length_nil]; omega
theorem fin_hsl (sn : Nat) (sf : Nat → Int32) (w : St) : hsl 23 (KL sn sf w) - hsl 23 (H0 sn sf) ≤ 768 := by
  have q : (al.map fun q => Ln q.1).sum = 312 := by decide +kernel
  have z : hsl 23 [] = 0 := rfl
  unfold KL; rw [hsl_KH, q, z]; omega
set_option maxRecDepth 100000 in
theorem comes_1 (plain : ∀ (sn : Nat) (sf : Nat → Int32), sn ≤ 260 → ∃ n w, f_law n sn sf = some (1, w)) {Post : Tables → Env → Array Value → State → Outcome → State → Prop} (hpost : ∀ tb e args s v u, (limb_1_1.after args s (.returned v) u = true ∧ limb_1_2.after args s (.returned v) u = true ∧ True) → FrameEnd s (.returned v) u (Jvm.fieldLocs frame_1_writes args s ++ Jvm.arrayLocs frame_1_arrays args s ++ Jvm.staticLocs frame_1_statics s) 40 768 → Post tb e args s (.returned v) u) :
    ArmFor flags0 classFile x code maxLocals ret World_1 tables_1 room_1 Calls_1 rest_1 Pre_1 Post := by
  intro l hfl _ _ p e ha hc hk s m args below hf hA hF happ hP
  obtain ⟨hcalls, hrest, hpre⟩ := hP
  obtain ⟨-, -, -, hnamed, -, -, -, hat⟩ := (Spec.applies_iff hf).mp happ
  obtain ⟨hg, hn⟩ := and_e (Cond.before_iff.mp (show (Jvm.Cond.and given_1 narrow_1).before args s = true from hpre))
  obtain ⟨g0, hg⟩ := and_e hg
  obtain ⟨w0, rfl⟩ : ∃ w0 : Value, args = #[w0] := by
    have hs : args.size = 1 := by simpa [Cond.value, given_1] using g0
    obtain ⟨L⟩ := args
    match L, hs with
    | [w0], _ => exact ⟨w0, rfl⟩
  have hw := fun d (hd : d ∈ tables_1) => atoms_spec (ws := Jvm.Cond.code x code maxLocals ret :: tables_1) hat d (List.mem_cons_of_mem _ hd)
  have hfit : Fit s := fun {y c} hc i hi => by
    obtain ⟨ha, rfl⟩ := Array.getElem?_eq_some_iff.mp hc
    have q := List.all_eq_true.mp ((Array.all_eq_true_iff_forall_mem.mp hF) _ (Array.getElem_mem ha)) i (List.mem_range.mpr hi)
    simpa [Array.getElem?_eq_getElem hi] using q
  obtain ⟨n0, n1⟩ := and_e hn
  obtain ⟨a, ea⟩ := arr_v n0
  obtain rfl : w0 = .ref a := Option.some.inj ea
  obtain ⟨cl, A⟩ := Arr.start ea n0
  obtain ⟨r0, -⟩ := and_e (Cond.before_iff.mp (show rest_1_c.before _ s = true from hrest))
  have hle := script_len A ea r0 n1
  obtain ⟨xs, hxl, hrel⟩ := script_rel (l := l) (args := #[.ref a]) (C := "WorkingSetPager") (F := flds) (k := 23) hfit A
  obtain ⟨n, w, hr⟩ := plain xs.length (fun i => xs.getD i 0) (by rw [hxl]; exact hle)
  have hE := e_law (g := (s, #[.ref a], l, some a, s.heap.size)) hw (Nat.le_refl _) hr
  obtain ⟨n, o, h1, h2, h3, _, L, rfl, ⟨rfl, N, -⟩, hq⟩ := hE.2 tables_1 room_1 s.heap (by decide) (by decide) (fin_len _ _ w) (fin_hsl _ _ w) hrel p e ha hc hk s m _ below hf ((Spec.applies_iff_loose hf).mp happ).1 ⟨rfl, State.Warmed39.refl s, rfl⟩ trivial
  exact ⟨n, _, h1, h2, h3, hpost _ _ _ _ _ _ ⟨Cond.after_iff.mpr rfl, Cond.after_iff.mpr (eq_i res_at (Term.int_eval (1)) rfl), trivial⟩ ⟨hq.1, hq.2.1, (hq.2.2.sift fun y hy => Or.inr (N y hy)).mono (fin_len _ _ w) (fin_hsl _ _ w)⟩⟩
theorem u_ctor_170 (n : Nat) (k : Nat) (x5 : Int32) (s : St) : f_ctor_170 n (k + 1) x5 s =
    (if x5 < (32 : Int32) then
      grd (inb x5 32) <|
      bnd (setA s 2 (ix x5) (-1 : Int32)) fun s3 =>
      bnd (setA s3 1 (ix x5) (-1 : Int32)) fun s4 =>
      f_ctor_170 n k (x5 + (1 : Int32)) s4
    else
      some s) := rfl
theorem u_completeWriteBacks_4 (n : Nat) (k : Nat) (x1 : Int32) (x2 : Int32) (s : St) : f_completeWriteBacks_4 n (k + 1) x1 x2 s =
    (if x2 < (s.1 15) then
      grd (inb x2 32) <|
      if (s.2 2 (ix x2)) < 0 then
        f_completeWriteBacks_4 n k x1 (x2 + (1 : Int32)) s
      else
        if (3 : Int32) < (s.2 2 (ix x2)) then
          f_completeWriteBacks_4 n k x1 (x2 + (1 : Int32)) s
        else
          if (s.2 8 (ix x2)) = 0 then
            f_completeWriteBacks_4 n k x1 (x2 + (1 : Int32)) s
          else
            if (s.1 19) < (s.2 8 (ix x2)) then
              f_completeWriteBacks_4 n k x1 (x2 + (1 : Int32)) s
            else
              grd (inb (((s.2 2 (ix x2)) * (8 : Int32)) + ((s.2 3 (ix x2)) &&& (7 : Int32))) 32) <|
              bnd (setA s 0 (ix (((s.2 2 (ix x2)) * (8 : Int32)) + ((s.2 3 (ix x2)) &&& (7 : Int32)))) (s.2 4 (ix x2))) fun s8 =>
              bnd (setA s8 5 (ix x2) (0 : Int32)) fun s9 =>
              bnd (setA s9 8 (ix x2) (0 : Int32)) fun s10 =>
              f_completeWriteBacks_4 n k (x1 + (1 : Int32)) (x2 + (1 : Int32)) s10
    else
      some (x1, s)) := rfl
theorem u_sweep_2 (n : Nat) (k : Nat) (x1 : Int32) (s : St) : f_sweep_2 n (k + 1) x1 s =
    (if x1 < (s.1 15) then
      grd ((s.1 15) ≠ 0) <|
      grd (inb (((s.1 20) + x1) % (s.1 15)) 32) <|
      bnd (s.2 2 (ix (((s.1 20) + x1) % (s.1 15)))) fun v4 =>
      if v4 < 0 then
        some ((((s.1 20) + x1) % (s.1 15)), s)
      else
        if (3 : Int32) < v4 then
          some ((((s.1 20) + x1) % (s.1 15)), s)
        else
          if (s.2 6 (ix (((s.1 20) + x1) % (s.1 15)))) = 0 then
            grd (inb v4 4) <|
            bnd ((s.2 10 (ix v4)) - (s.2 7 (ix (((s.1 20) + x1) % (s.1 15))))) fun v9 =>
            if (s.1 16) < v9 then
              if (s.2 5 (ix (((s.1 20) + x1) % (s.1 15)))) = 0 then
                some ((((s.1 20) + x1) % (s.1 15)), s)
              else
                if (s.2 8 (ix (((s.1 20) + x1) % (s.1 15)))) = 0 then
                  bnd (setA s 8 (ix (((s.1 20) + x1) % (s.1 15))) ((s.1 19) + (s.1 17))) fun s13 =>
                  f_sweep_2 n k (x1 + (1 : Int32)) s13
                else
                  f_sweep_2 n k (x1 + (1 : Int32)) s
            else
              f_sweep_2 n k (x1 + (1 : Int32)) s
          else
            bnd (setA s 6 (ix (((s.1 20) + x1) % (s.1 15))) (0 : Int32)) fun s14 =>
            grd (inb v4 4) <|
            bnd (setA s14 7 (ix (((s.1 20) + x1) % (s.1 15))) (s14.2 10 (ix v4))) fun s16 =>
            f_sweep_2 n k (x1 + (1 : Int32)) s16
    else
      some ((-1 : Int32), s)) := rfl
theorem u_doSwapOut_9 (n : Nat) (k : Nat) (x1 : Int32) (x2 : Int32) (s : St) : f_doSwapOut_9 n (k + 1) x1 x2 s =
    (if x2 < (s.1 15) then
      grd (inb x2 32) <|
      if (s.2 2 (ix x2)) = x1 then
        grd (inb ((x1 * (8 : Int32)) + ((s.2 3 (ix x2)) &&& (7 : Int32))) 32) <|
        bnd (setA s 0 (ix ((x1 * (8 : Int32)) + ((s.2 3 (ix x2)) &&& (7 : Int32)))) (s.2 4 (ix x2))) fun s5 =>
        grd (inb x1 4) <|
        bnd (setA s5 12 (ix x1) ((s5.2 12 (ix x1)) ||| ((1 : Int32) <<< (((s.2 3 (ix x2)) &&& (7 : Int32)) &&& 31)))) fun s7 =>
        bnd (setA s7 1 (ix ((x1 * (8 : Int32)) + ((s.2 3 (ix x2)) &&& (7 : Int32)))) (-1 : Int32)) fun s8 =>
        (f_freeFrame x2 s8).bind fun q9 =>
        f_doSwapOut_9 n k x1 (x2 + (1 : Int32)) q9
      else
        f_doSwapOut_9 n k x1 (x2 + (1 : Int32)) s
    else
      grd (inb x1 4) <|
      bnd (setA s 9 (ix x1) ((1 : Int32) &&& 1)) fun s12 =>
      some s12) := rfl
theorem u_bitCount_4 (n : Nat) (s : St) (k : Nat) (x1 : Int32) (x2 : Int32) (x3 : Int32) : f_bitCount_4 n s (k + 1) x1 x2 x3 =
    (if x3 < (8 : Int32) then
      if (x1 &&& ((1 : Int32) <<< (x3 &&& 31))) = 0 then
        f_bitCount_4 n s k x1 x2 (x3 + (1 : Int32))
      else
        f_bitCount_4 n s k x1 (x2 + (1 : Int32)) (x3 + (1 : Int32))
    else
      some x2) := rfl
theorem u_countFree_4 (n : Nat) (s : St) (k : Nat) (x1 : Int32) (x2 : Int32) : f_countFree_4 n s (k + 1) x1 x2 =
    (if x2 < (s.1 15) then
      grd (inb x2 32) <|
      if (s.2 2 (ix x2)) < 0 then
        f_countFree_4 n s k (x1 + (1 : Int32)) (x2 + (1 : Int32))
      else
        f_countFree_4 n s k x1 (x2 + (1 : Int32))
    else
      some x1) := rfl
theorem u_lowestFree_2 (n : Nat) (s : St) (k : Nat) (x1 : Int32) : f_lowestFree_2 n s (k + 1) x1 =
    (if x1 < (s.1 15) then
      grd (inb x1 32) <|
      if (s.2 2 (ix x1)) < 0 then
        some x1
      else
        f_lowestFree_2 n s k (x1 + (1 : Int32))
    else
      some (-1 : Int32)) := rfl
theorem u_doSwapIn_2 (n : Nat) (k : Nat) (x1 : Int32) (x2 : Int32) (s : St) : f_doSwapIn_2 n (k + 1) x1 x2 s =
    (if x2 < (8 : Int32) then
      grd (inb x1 4) <|
      if ((s.2 12 (ix x1)) &&& ((1 : Int32) <<< (x2 &&& 31))) = 0 then
        f_doSwapIn_2 n k x1 (x2 + (1 : Int32)) s
      else
        (f_lowestFree n s).bind fun q4 =>
        if q4 < 0 then
          f_doSwapIn_2 n k x1 (x2 + (1 : Int32)) s
        else
          grd (inb q4 32) <|
          bnd (setA s 2 (ix q4) x1) fun s8 =>
          bnd (setA s8 3 (ix q4) x2) fun s9 =>
          grd (inb ((x1 * (8 : Int32)) + x2) 32) <|
          bnd (setA s9 1 (ix ((x1 * (8 : Int32)) + x2)) q4) fun s11 =>
          bnd (setA s11 4 (ix q4) (s11.2 0 (ix ((x1 * (8 : Int32)) + x2)))) fun s12 =>
          bnd (setA s12 5 (ix q4) (0 : Int32)) fun s13 =>
          bnd (setA s13 6 (ix q4) (0 : Int32)) fun s14 =>
          bnd (setA s14 8 (ix q4) (0 : Int32)) fun s15 =>
          bnd (setA s15 7 (ix q4) (s15.2 10 (ix x1))) fun s16 =>
          f_doSwapIn_2 n k x1 (x2 + (1 : Int32)) s16
    else
      grd (inb x1 4) <|
      bnd (setA s 12 (ix x1) (0 : Int32)) fun s18 =>
      bnd (setA s18 9 (ix x1) ((0 : Int32) &&& 1)) fun s19 =>
      some s19) := rfl
theorem u_control_121 (n : Nat) (k : Nat) (x6 : Int32) (x7 : Int32) (s : St) : f_control_121 n (k + 1) x6 x7 s =
    (if x7 < (4 : Int32) then
      grd (inb x7 4) <|
      bnd (setA s 13 (ix x7) (0 : Int32)) fun s3 =>
      bnd (setA s3 14 (ix x7) (0 : Int32)) fun s4 =>
      f_control_121 n k x6 (x7 + (1 : Int32)) s4
    else
      some (x6, s)) := rfl
theorem u_control_15 (n : Nat) (k : Nat) (x1 : Int32) (x2 : Int32) (x3 : Int32) (x4 : Int32) (x5 : Int32) (x6 : Int32) (s : St) : f_control_15 n (k + 1) x1 x2 x3 x4 x5 x6 s =
    (if x6 < (4 : Int32) then
      grd (inb x6 4) <|
      if (s.2 9 (ix x6)) = 0 then
        if (s.2 14 (ix x6)) < ((s.2 13 (ix x6)) * (s.1 18)) then
          f_control_72 n (f_control_15 n k) (x1 + (1 : Int32)) x6 x3 (1 : Int32) x5 x6 s
        else
          f_control_72 n (f_control_15 n k) (x1 + (1 : Int32)) x6 x3 x4 x5 x6 s
      else
        if x3 < 0 then
          f_control_15 n k x1 x2 x6 x4 x5 (x6 + (1 : Int32)) s
        else
          f_control_15 n k x1 x2 x3 x4 x5 (x6 + (1 : Int32)) s
    else
      (f_decide n x4 x1 x2 x3 x5 s).bind fun q6 =>
      f_control_121 n n q6.1 (0 : Int32) q6.2) := rfl
theorem u_law_236 (n : Nat) (sn : Nat) (sf : Nat → Int32) (k68 : Int32 → Int64 → Int64 → Int64 → Int32 → St → Option (Int32 × St)) (k : Nat) (x2 : Int32) (x6 : Int64) (x8 : Int64) (x10 : Int64) (x12 : Int32) (x13 : Int32) (x15 : Int32) (x16 : Int32) (x17 : Int32) (x18 : Int32) (x19 : Int64) (x21 : Int64) (x23 : Int32) (s : St) : f_law_236 n sn sf k68 (k + 1) x2 x6 x8 x10 x12 x13 x15 x16 x17 x18 x19 x21 x23 s =
    (if x23 < (8 : Int32) then
      (f_frameOf s (x23 >>> ((1 : Int32) &&& 31)) (x23 &&& (1 : Int32))).bind fun q2 =>
      (f_hput x19 x23 (8 : Int32) (q2 + (1 : Int32))).bind fun q4 =>
      f_law_236 n sn sf k68 k x2 x6 x8 x10 x12 x13 x15 x16 x17 x18 q4 x21 (x23 + (1 : Int32)) s
    else
      f_law_278 n sn sf k68 n x2 x6 x8 x10 x12 x13 x15 x16 x17 x18 x19 x21 (0 : Int32) s) := rfl
theorem u_law_278 (n : Nat) (sn : Nat) (sf : Nat → Int32) (k68 : Int32 → Int64 → Int64 → Int64 → Int32 → St → Option (Int32 × St)) (k : Nat) (x2 : Int32) (x6 : Int64) (x8 : Int64) (x10 : Int64) (x12 : Int32) (x13 : Int32) (x15 : Int32) (x16 : Int32) (x17 : Int32) (x18 : Int32) (x19 : Int64) (x21 : Int64) (x23 : Int32) (s : St) : f_law_278 n sn sf k68 (k + 1) x2 x6 x8 x10 x12 x13 x15 x16 x17 x18 x19 x21 x23 s =
    (if x23 < (4 : Int32) then
      (f_procInfo s x23 (0 : Int32)).bind fun q2 =>
      (f_hput x21 x23 (16 : Int32) q2).bind fun q4 =>
      f_law_278 n sn sf k68 k x2 x6 x8 x10 x12 x13 x15 x16 x17 x18 x19 q4 (x23 + (1 : Int32)) s
    else
      if (1 : Int32) < x13 then
        (f_write n x16 x17 (x15 &&& (255 : Int32)) s).bind fun q7 =>
        f_law_352 n sn sf k68 x2 x6 x8 x10 x12 x13 x16 x18 x19 x21 (0 : Int32) (x15 &&& (255 : Int32)) q7.2
      else
        (f_read n x16 x17 s).bind fun q9 =>
        f_law_352 n sn sf k68 x2 x6 x8 x10 x12 x13 x16 x18 x19 x21 q9.1 (x15 &&& (255 : Int32)) q9.2) := rfl
theorem u_law_456 (n : Nat) (sn : Nat) (sf : Nat → Int32) (k68 : Int32 → Int64 → Int64 → Int64 → Int32 → St → Option (Int32 × St)) (k : Nat) (x2 : Int32) (x6 : Int64) (x8 : Int64) (x10 : Int64) (x12 : Int32) (x19 : Int64) (x21 : Int64) (x26 : Int32) (s : St) : f_law_456 n sn sf k68 (k + 1) x2 x6 x8 x10 x12 x19 x21 x26 s =
    (if x26 < (8 : Int32) then
      (f_hget x19 x26 (8 : Int32)).bind fun q2 =>
      if q2 = 0 then
        f_law_456 n sn sf k68 k x2 x6 x8 x10 x12 x19 x21 (x26 + (1 : Int32)) s
      else
        (f_frameOf s (x26 >>> ((1 : Int32) &&& 31)) (x26 &&& (1 : Int32))).bind fun q5 =>
        if q5 = (-1 : Int32) then
          (f_procInfo s (x26 >>> ((1 : Int32) &&& 31)) (2 : Int32)).bind fun q8 =>
          if q8 = 0 then
            if x26 < (4 : Int32) then
              (f_hget x8 x26 (16 : Int32)).bind fun q12 =>
              f_law_547 n sn sf k68 (f_law_456 n sn sf k68 k) x2 x6 x8 x10 x12 x19 x21 x26 (x26 >>> ((1 : Int32) &&& 31)) q12 s
            else
              (f_hget x10 (x26 - (4 : Int32)) (16 : Int32)).bind fun q14 =>
              f_law_547 n sn sf k68 (f_law_456 n sn sf k68 k) x2 x6 x8 x10 x12 x19 x21 x26 (x26 >>> ((1 : Int32) &&& 31)) q14 s
          else
            f_law_456 n sn sf k68 k x2 x6 x8 x10 x12 x19 x21 (x26 + (1 : Int32)) s
        else
          f_law_456 n sn sf k68 k x2 x6 x8 x10 x12 x19 x21 (x26 + (1 : Int32)) s
    else
      k68 x2 x6 x8 x10 (x12 + (1 : Int32)) s) := rfl
theorem u_law_68 (n : Nat) (sn : Nat) (sf : Nat → Int32) (k : Nat) (x2 : Int32) (x6 : Int64) (x8 : Int64) (x10 : Int64) (x12 : Int32) (s : St) : f_law_68 n sn sf (k + 1) x2 x6 x8 x10 x12 s =
    (if x12 < (300 : Int32) then
      if ((4 : Int32) + ((3 : Int32) * x12)) < sn.toInt32 then
        (f_hcell sn sf ((4 : Int32) + ((3 : Int32) * x12))).bind fun q3 =>
        (f_hcell sn sf ((5 : Int32) + ((3 : Int32) * x12))).bind fun q5 =>
        (f_hcell sn sf ((6 : Int32) + ((3 : Int32) * x12))).bind fun q7 =>
        if (q3 &&& (7 : Int32)) = (4 : Int32) then
          f_law_140 n sn sf (f_law_68 n sn sf k) x2 x6 x8 x10 x12 s
        else
          if (q3 &&& (7 : Int32)) = (6 : Int32) then
            f_law_140 n sn sf (f_law_68 n sn sf k) x2 x6 x8 x10 x12 s
          else
            if (q3 &&& (7 : Int32)) = (5 : Int32) then
              (f_control n s).bind fun q12 =>
              f_law_68 n sn sf k x2 x6 x8 x10 (x12 + (1 : Int32)) q12.2
            else
              if (q3 &&& (7 : Int32)) = (7 : Int32) then
                if (q7 &&& (1 : Int32)) = 0 then
                  (f_swapOut n (q5 &&& (3 : Int32)) s).bind fun q16 =>
                  f_law_68 n sn sf k x2 x6 x8 x10 (x12 + (1 : Int32)) q16.2
                else
                  (f_swapIn n (q5 &&& (3 : Int32)) s).bind fun q18 =>
                  f_law_68 n sn sf k x2 x6 x8 x10 (x12 + (1 : Int32)) q18.2
              else
                bnd (((q5 &&& (3 : Int32)) * (2 : Int32)) + ((q5 >>> ((2 : Int32) &&& 31)) &&& (1 : Int32))) fun v20 =>
                f_law_236 n sn sf (f_law_68 n sn sf k) n x2 x6 x8 x10 x12 (q3 &&& (7 : Int32)) q7 (q5 &&& (3 : Int32)) ((q5 >>> ((2 : Int32) &&& 31)) &&& (1 : Int32)) v20 (0 : Int64) (0 : Int64) (0 : Int32) s
      else
        some ((1 : Int32), s)
    else
      some ((1 : Int32), s)) := rfl
/-! ### the plain law -/
theorem own_clamp (s : St) (a lo hi : Int32) : f_clamp s a lo hi = some (own_cl a lo hi) := by
  unfold f_clamp own_cl
  split
  · rfl
  · split <;> rfl
theorem own_fill (n k : Nat) (s : St) (hk : 32 < k) : f_ctor_170 n k 0 s = some (s.1, fun j x => if 0 ≤ x ∧ x < 0 + 32 then (if j = 1 ∨ j = 2 then -1 else s.2 j x) else s.2 j x) := by
  have h := loopN (F := f_ctor_170 n) (N := 32) (f := fun i s => setA (setA s 2 i (-1)) 1 i (-1)) (fin := fun s => some s)
    (fun k i s hi => by
      rw [u_ctor_170, if_pos (ltZ (z := 32) 32 rfl hi (by omega)), grd_pos ((inb_N (by omega)).mpr hi), bnd_eq, bnd_eq, ix_N (by omega)])
    (fun k s => by rw [u_ctor_170, if_neg (by decide)]) 32 0 k s (by omega) hk
  rw [itr_pt (f := fun i s => setA (setA s 2 i (-1)) 1 i (-1)) (u := fun j v => if j = 1 ∨ j = 2 then -1 else v) (fun _ _ => rfl) (fun i s j x => by
    simp only [setA_2]
    by_cases e : x = i
    · by_cases e1 : j = 1
      · simp [e, e1]
      · by_cases e2 : j = 2
        · simp [e, e2]
        · simp [e1, e2]
    · simp [e])] at h
  exact h
theorem own_ctor {n : Nat} (hn : 33 ≤ n) (a b c d : Int32) : ∃ s, f_ctor n a b c d = some s ∧ s.1 15 = own_cl a 4 32 ∧ s.1 16 = own_cl b 1 64 ∧ s.1 17 = own_cl c 1 8 ∧ s.1 18 = own_cl d 1 16 ∧ s.1 20 = 0 ∧ s.1 19 = 0 ∧ s.1 22 = 0 ∧ (∀ j x, x < 32 → s.2 j x = if j = 1 ∨ j = 2 then -1 else 0) := by
  unfold f_ctor f_ctor_118
  simp only [own_clamp, Option.bind_some, bnd_eq]
  rw [own_fill n n _ (by omega)]
  refine ⟨_, rfl, rfl, rfl, rfl, rfl, rfl, rfl, rfl, fun j x hx => ?_⟩
  have : 0 ≤ x ∧ x < 0 + 32 := by omega
  simp only [this, and_self, if_true]
  rfl
/-- what keeps every method of the pager from throwing -/
def own_P (s : St) : Prop := ∃ N H : Nat, s.1 15 = Int32.ofNat N ∧ 4 ≤ N ∧ N ≤ 32 ∧ s.1 20 = Int32.ofNat H ∧ H < N
theorem own_P_of {s t : St} (h : own_P s) (e1 : t.1 15 = s.1 15) (e2 : t.1 20 = s.1 20) : own_P t := by
  obtain ⟨N, H, a, b, c, d, e⟩ := h
  exact ⟨N, H, e1.trans a, b, c, e2.trans d, e⟩
theorem own_cwb4 (n N : Nat) (hN : N ≤ 32) : ∀ (m i k : Nat) (c : Int32) (s : St), i + m = N → m < k → s.1 15 = Int32.ofNat N → ∃ c' s', f_completeWriteBacks_4 n k c (Int32.ofNat i) s = some (c', s') ∧ s'.1 = s.1 := by
  intro m
  induction m with
  | zero =>
    intro i k c s hi hk e
    obtain ⟨k, rfl⟩ : ∃ k', k = k' + 1 := ⟨k - 1, by omega⟩
    have : i = N := by omega
    subst this
    rw [u_completeWriteBacks_4, e, if_neg (fun q => by rw [N_lt (by omega) (by omega)] at q; omega)]
    exact ⟨_, _, rfl, rfl⟩
  | succ m ih =>
    intro i k c s hi hk e
    obtain ⟨k, rfl⟩ : ∃ k', k = k' + 1 := ⟨k - 1, by omega⟩
    rw [u_completeWriteBacks_4, e, if_pos ((N_lt (by omega) (by omega)).mpr (by omega)), grd_pos ((inb_N (by omega)).mpr (by omega)), N_succ]
    have go := ih (i + 1) k
    by_cases c1 : s.2 2 (ix (Int32.ofNat i)) < 0
    · rw [if_pos c1]; exact go _ _ (by omega) (by omega) e
    by_cases c2 : 3 < s.2 2 (ix (Int32.ofNat i))
    · rw [if_neg c1, if_pos c2]; exact go _ _ (by omega) (by omega) e
    by_cases c3 : s.2 8 (ix (Int32.ofNat i)) = 0
    · rw [if_neg c1, if_neg c2, if_pos c3]; exact go _ _ (by omega) (by omega) e
    by_cases c4 : s.1 19 < s.2 8 (ix (Int32.ofNat i))
    · rw [if_neg c1, if_neg c2, if_neg c3, if_pos c4]; exact go _ _ (by omega) (by omega) e
    rw [if_neg c1, if_neg c2, if_neg c3, if_neg c4, grd_pos (idx8 c1 c2), bnd_eq, bnd_eq, bnd_eq]
    obtain ⟨c', s', h1, h2⟩ := go (c + 1) (setA (setA (setA s 0 (ix (s.2 2 (ix (Int32.ofNat i)) * 8 + (s.2 3 (ix (Int32.ofNat i)) &&& 7))) (s.2 4 (ix (Int32.ofNat i)))) 5 (ix (Int32.ofNat i)) 0) 8 (ix (Int32.ofNat i)) 0) (by omega) (by omega) e
    exact ⟨c', s', h1, h2⟩
theorem own_cwb {n : Nat} (hn : 40 ≤ n) {s : St} (h : own_P s) : ∃ c s', f_completeWriteBacks n s = some (c, s') ∧ s'.1 = s.1 := by
  obtain ⟨N, H, a, b, c, d, e⟩ := h
  exact own_cwb4 n N c N 0 n 0 s (by omega) (by omega) a
theorem own_hit {f p w x : Int32} {s : St} (hf : inb f 32) (hp : inb p 4) : ∃ s', f_hit f p w x s = some s' ∧ s'.1 = s.1 := by
  simp only [f_hit, bnd_eq, grd_pos hf, grd_pos hp]
  by_cases c : w = 0
  · simp only [c, if_true]; exact ⟨_, rfl, rfl⟩
  · simp only [c, if_false]; exact ⟨_, rfl, rfl⟩
theorem own_sweep2 (n N H : Nat) (hN : N ≤ 32) (h4 : 4 ≤ N) (hH : H < N) : ∀ (m i k : Nat) (s : St), i + m = N → m < k → s.1 15 = Int32.ofNat N → s.1 20 = Int32.ofNat H →
    ∃ v s', f_sweep_2 n k (Int32.ofNat i) s = some (v, s') ∧ s'.1 = s.1 ∧ (¬ v < 0 → inb v N) := by
  intro m
  induction m with
  | zero =>
    intro i k s hi hk e eh
    obtain ⟨k, rfl⟩ : ∃ k', k = k' + 1 := ⟨k - 1, by omega⟩
    have : i = N := by omega
    subst this
    rw [u_sweep_2, e, if_neg (fun q => by rw [N_lt (by omega) (by omega)] at q; omega)]
    exact ⟨_, _, rfl, rfl, fun q => absurd (by decide) q⟩
  | succ m ih =>
    intro i k s hi hk e eh
    obtain ⟨k, rfl⟩ : ∃ k', k = k' + 1 := ⟨k - 1, by omega⟩
    have hne : Int32.ofNat N ≠ 0 := fun q => by
      have := (N_inj (j := 0) (by omega) (by omega)).mp q
      omega
    have er : (Int32.ofNat H + Int32.ofNat i) % Int32.ofNat N = Int32.ofNat ((H + i) % N) := by rw [N_add, rem_N (by omega) (by omega) (by omega)]
    have hlt : (H + i) % N < N := Nat.mod_lt _ (by omega)
    have hb : inb (Int32.ofNat ((H + i) % N)) 32 := (inb_N (by omega)).mpr (by omega)
    have hbN : inb (Int32.ofNat ((H + i) % N)) N := (inb_N (by omega)).mpr hlt
    rw [u_sweep_2, e, eh, if_pos ((N_lt (by omega) (by omega)).mpr (by omega)), grd_pos hne, er, grd_pos hb, N_succ, bnd_eq]
    have go := ih (i + 1) k
    by_cases c1 : s.2 2 (ix (Int32.ofNat ((H + i) % N))) < 0
    · rw [if_pos c1]; exact ⟨_, _, rfl, rfl, fun _ => hbN⟩
    by_cases c2 : 3 < s.2 2 (ix (Int32.ofNat ((H + i) % N)))
    · rw [if_neg c1, if_pos c2]; exact ⟨_, _, rfl, rfl, fun _ => hbN⟩
    have hb4 : inb (s.2 2 (ix (Int32.ofNat ((H + i) % N)))) 4 := inb_le c1 c2 (by decide)
    rw [if_neg c1, if_neg c2]
    by_cases c3 : s.2 6 (ix (Int32.ofNat ((H + i) % N))) = 0
    · rw [if_pos c3, grd_pos hb4, bnd_eq]
      split
      · split
        · exact ⟨_, _, rfl, rfl, fun _ => hbN⟩
        · split
          · rw [bnd_eq]
            obtain ⟨v, s', h1, h2, h3⟩ := go (setA s 8 (ix (Int32.ofNat ((H + i) % N))) (s.1 19 + s.1 17)) (by omega) (by omega) e eh
            exact ⟨v, s', h1, h2, h3⟩
          · exact go _ (by omega) (by omega) e eh
      · exact go _ (by omega) (by omega) e eh
    · rw [if_neg c3, bnd_eq, grd_pos hb4, bnd_eq]
      obtain ⟨v, s', h1, h2, h3⟩ := go (setA (setA s 6 (ix (Int32.ofNat ((H + i) % N))) 0) 7 (ix (Int32.ofNat ((H + i) % N))) ((setA s 6 (ix (Int32.ofNat ((H + i) % N))) 0).2 10 (ix (s.2 2 (ix (Int32.ofNat ((H + i) % N))))))) (by omega) (by omega) e eh
      exact ⟨v, s', h1, h2, h3⟩
theorem own_sweep {n : Nat} (hn : 40 ≤ n) {s : St} (h : own_P s) : ∃ v s', f_sweep n s = some (v, s') ∧ s'.1 = s.1 ∧ (¬ v < 0 → inb v 32 ∧ ∃ N : Nat, s.1 15 = Int32.ofNat N ∧ inb v N) := by
  obtain ⟨N, H, a, b, c, d, e⟩ := h
  obtain ⟨v, s', h1, h2, h3⟩ := own_sweep2 n N H c b e N 0 n s (by omega) (by omega) a d
  exact ⟨v, s', h1, h2, fun q => ⟨⟨(h3 q).1, Nat.lt_of_lt_of_le (h3 q).2 c⟩, N, a, h3 q⟩⟩
theorem own_load160 {f : Int32} {s : St} (h : own_P s) (hf : inb f 32) : ∃ s', f_load_160 f s = some s' ∧ own_P s' := by
  obtain ⟨N, H, a, b, c, d, e⟩ := h
  have hne : Int32.ofNat N ≠ 0 := fun q => by
    have := (N_inj (j := 0) (by omega) (by omega)).mp q
    omega
  have hfi := hf.2
  have ef : f + 1 = Int32.ofNat (ix f + 1) := by rw [← N_succ, N_ix hf.1]
  simp only [f_load_160, a, grd_pos hne, bnd_eq]
  refine ⟨_, rfl, N, (ix f + 1) % N, ?_, b, c, ?_, Nat.mod_lt _ (by omega)⟩
  · rw [setI_1, if_neg (by decide)]; exact a
  · rw [setI_1, if_pos rfl, ef, rem_N (by omega) (by omega) (by omega)]
theorem own_load44 {f p v w x : Int32} {s : St} (h : own_P s) (hf : inb f 32) (hp : inb p 4) (hv : inb (p * 8 + v) 32) : ∃ s', f_load_44 f p v w x s = some s' ∧ own_P s' := by
  simp only [f_load_44, bnd_eq, grd_pos hf, grd_pos hp, grd_pos hv]
  by_cases c : w = 0
  · simp only [c, if_true]
    exact own_load160 (own_P_of h rfl rfl) hf
  · simp only [c, if_false]
    exact own_load160 (own_P_of h rfl rfl) hf
theorem own_load {f p v w x : Int32} {s : St} (h : own_P s) (hf : inb f 32) (hp : inb p 4) (hv : inb (p * 8 + v) 32) : ∃ s', f_load f p v w x s = some s' ∧ own_P s' := by
  simp only [f_load, grd_pos hf]
  by_cases c1 : s.2 2 (ix f) < 0
  · simp only [c1, if_true]; exact own_load44 h hf hp hv
  · by_cases c2 : 3 < s.2 2 (ix f)
    · simp only [c1, c2, if_true, if_false]; exact own_load44 h hf hp hv
    · simp only [c1, c2, if_false, bnd_eq, grd_pos (idx8 c1 c2)]
      exact own_load44 (own_P_of h rfl rfl) hf hp hv
/-- an access: no throw; a frame in accFrame where it came to one -/
theorem own_access {n : Nat} (hn : 40 ≤ n) {p v w x : Int32} {s : St} (h : own_P s) : ∃ c s', f_access n p v w x s = some (c, s') ∧ own_P s' ∧ (c = 1 ∨ c = 2 → inb (s'.1 21) 32) := by
  have no : ∀ c : Int32, c ≠ 1 → c ≠ 2 → ∀ s' : St, c = 1 ∨ c = 2 → inb (s'.1 21) 32 := fun c a b s' q => by
    rcases q with q | q
    · exact absurd q a
    · exact absurd q b
  unfold f_access
  by_cases c1 : p < 0
  · simp only [c1, if_true]; exact ⟨_, _, rfl, h, no 5 (by decide) (by decide) s⟩
  by_cases c2 : 3 < p
  · simp only [c1, c2, if_true, if_false]; exact ⟨_, _, rfl, h, no 5 (by decide) (by decide) s⟩
  by_cases c3 : v < 0
  · simp only [c1, c2, c3, if_true, if_false]; exact ⟨_, _, rfl, h, no 5 (by decide) (by decide) s⟩
  by_cases c4 : 7 < v
  · simp only [c1, c2, c3, c4, if_true, if_false]; exact ⟨_, _, rfl, h, no 5 (by decide) (by decide) s⟩
  have hp : inb p 4 := inb_le c1 c2 (by decide)
  obtain ⟨hv, -⟩ := idx8' c1 c2 c3 c4
  simp only [c1, c2, c3, c4, if_false, grd_pos hp]
  by_cases c5 : s.2 9 (ix p) = 0
  · simp only [c5, if_true, bnd_eq]
    obtain ⟨c, t, e1, e2⟩ := own_cwb hn (s := setI s 19 (s.1 19 + 1)) (own_P_of h rfl rfl)
    have ht : own_P t := own_P_of (own_P_of (t := setI s 19 (s.1 19 + 1)) h rfl rfl) (by rw [e2]) (by rw [e2])
    simp only [e1, Option.bind_some, grd_pos hv]
    have h90 : ∃ c s', f_access_90 n p v w x t = some (c, s') ∧ own_P s' ∧ (c = 1 ∨ c = 2 → inb (s'.1 21) 32) := by
      simp only [f_access_90, grd_pos hp, bnd_eq]
      obtain ⟨f, u, e3, e4, e5⟩ := own_sweep hn (s := setA (setA t 11 (ix p) (t.2 11 (ix p) + 1)) 13 (ix p) ((setA t 11 (ix p) (t.2 11 (ix p) + 1)).2 13 (ix p) + 1)) (own_P_of ht rfl rfl)
      simp only [e3, Option.bind_some]
      have hu : own_P u := own_P_of ht (by rw [e4]; rfl) (by rw [e4]; rfl)
      by_cases c6 : f < 0
      · simp only [c6, if_true]; exact ⟨_, _, rfl, hu, no 3 (by decide) (by decide) u⟩
      · simp only [c6, if_false]
        obtain ⟨z, e6, e7⟩ := own_load (p := p) (v := v) (w := w) (x := x) hu (e5 c6).1 hp hv
        simp only [e6, Option.bind_some]
        exact ⟨_, _, rfl, own_P_of e7 rfl rfl, fun _ => (e5 c6).1⟩
    by_cases c6 : t.2 1 (ix (p * 8 + v)) < 0
    · simp only [c6, if_true]; exact h90
    · by_cases c7 : t.2 1 (ix (p * 8 + v)) < 32
      · simp only [c6, c7, if_true, if_false]
        have hb : inb (t.2 1 (ix (p * 8 + v))) 32 := inb_lt c6 c7 (by decide)
        obtain ⟨z, e6, e7⟩ := own_hit (w := w) (x := x) (s := t) hb hp
        simp only [e6, Option.bind_some]
        exact ⟨_, _, rfl, own_P_of (own_P_of (t := z) ht (by rw [e7]) (by rw [e7])) rfl rfl, fun _ => hb⟩
      · simp only [c6, c7, if_false]; exact h90
  · simp only [c5, if_false]; exact ⟨_, _, rfl, h, no 4 (by decide) (by decide) s⟩
theorem own_read {n : Nat} (hn : 40 ≤ n) {p v : Int32} {s : St} (h : own_P s) : ∃ c s', f_read n p v s = some (c, s') ∧ own_P s' := by
  obtain ⟨c, t, e1, e2, e3⟩ := own_access hn (p := p) (v := v) (w := 0) (x := 0) h
  simp only [f_read, e1, Option.bind_some, bnd_eq]
  have ht : own_P (setI t 22 c) := own_P_of e2 rfl rfl
  by_cases c1 : c = 1
  · simp only [c1, if_true, f_read_24]
    have hb : inb ((setI t 22 1).1 21) 32 := e3 (Or.inl c1)
    rw [grd_pos hb]; exact ⟨_, _, rfl, c1 ▸ ht⟩
  · by_cases c2 : c = 2
    · simp only [c2, if_true, f_read_24, show ¬ ((2 : Int32) = 1) by decide, if_false]
      have hb : inb ((setI t 22 2).1 21) 32 := e3 (Or.inr c2)
      rw [grd_pos hb]; exact ⟨_, _, rfl, c2 ▸ ht⟩
    · simp only [c1, c2, if_false]; exact ⟨_, _, rfl, ht⟩
theorem own_write {n : Nat} (hn : 40 ≤ n) {p v x : Int32} {s : St} (h : own_P s) : ∃ c s', f_write n p v x s = some (c, s') ∧ own_P s' := by
  obtain ⟨c, t, e1, e2, e3⟩ := own_access hn (p := p) (v := v) (w := 1) (x := x) h
  simp only [f_write, e1, Option.bind_some, bnd_eq]
  exact ⟨_, _, rfl, own_P_of e2 rfl rfl⟩
theorem own_tick {n : Nat} (hn : 40 ≤ n) {s : St} (h : own_P s) : ∃ c s', f_tick n s = some (c, s') ∧ own_P s' := by
  obtain ⟨c, t, e1, e2⟩ := own_cwb hn (s := setI s 19 (s.1 19 + 1)) (own_P_of h rfl rfl)
  simp only [f_tick, bnd_eq, e1, Option.bind_some]
  exact ⟨_, _, rfl, own_P_of (own_P_of (t := setI s 19 (s.1 19 + 1)) h rfl rfl) (by rw [e2]) (by rw [e2])⟩
theorem own_free {f : Int32} {s : St} (hf : inb f 32) : ∃ s', f_freeFrame f s = some s' ∧ s'.1 = s.1 := by
  simp only [f_freeFrame, bnd_eq, grd_pos hf]; exact ⟨_, rfl, rfl⟩
theorem own_out9 (n N : Nat) (hN : N ≤ 32) {p : Int32} (hp : inb p 4) (c1 : ¬ p < 0) (c2 : ¬ 3 < p) : ∀ (m i k : Nat) (s : St), i + m = N → m < k → s.1 15 = Int32.ofNat N → ∃ s', f_doSwapOut_9 n k p (Int32.ofNat i) s = some s' ∧ s'.1 = s.1 := by
  intro m
  induction m with
  | zero =>
    intro i k s hi hk e
    obtain ⟨k, rfl⟩ : ∃ k', k = k' + 1 := ⟨k - 1, by omega⟩
    have : i = N := by omega
    subst this
    rw [u_doSwapOut_9, e, if_neg (fun q => by rw [N_lt (by omega) (by omega)] at q; omega), grd_pos hp, bnd_eq]
    exact ⟨_, rfl, rfl⟩
  | succ m ih =>
    intro i k s hi hk e
    obtain ⟨k, rfl⟩ : ∃ k', k = k' + 1 := ⟨k - 1, by omega⟩
    have hb : inb (Int32.ofNat i) 32 := (inb_N (by omega)).mpr (by omega)
    rw [u_doSwapOut_9, e, if_pos ((N_lt (by omega) (by omega)).mpr (by omega)), grd_pos hb, N_succ]
    by_cases c : s.2 2 (ix (Int32.ofNat i)) = p
    · rw [if_pos c, grd_pos (idx8 c1 c2)]
      simp only [bnd_eq, grd_pos hp]
      obtain ⟨t, e1, e2⟩ := own_free (f := Int32.ofNat i) (s := setA (setA (setA s 0 (ix (p * 8 + (s.2 3 (ix (Int32.ofNat i)) &&& 7))) (s.2 4 (ix (Int32.ofNat i)))) 12 (ix p) ((setA s 0 (ix (p * 8 + (s.2 3 (ix (Int32.ofNat i)) &&& 7))) (s.2 4 (ix (Int32.ofNat i)))).2 12 (ix p) ||| 1 <<< ((s.2 3 (ix (Int32.ofNat i)) &&& 7) &&& 31))) 1 (ix (p * 8 + (s.2 3 (ix (Int32.ofNat i)) &&& 7))) (-1)) hb
      simp only [e1, Option.bind_some]
      obtain ⟨u, e3, e4⟩ := ih (i + 1) k t (by omega) (by omega) (by rw [e2]; exact e)
      exact ⟨u, e3, e4.trans e2⟩
    · rw [if_neg c]; exact ih (i + 1) k s (by omega) (by omega) e
theorem own_out {n : Nat} (hn : 40 ≤ n) {p : Int32} (c1 : ¬ p < 0) (c2 : ¬ 3 < p) {s : St} (h : own_P s) : ∃ s', f_doSwapOut n p s = some s' ∧ own_P s' := by
  have hp : inb p 4 := inb_le c1 c2 (by decide)
  have h0 := h
  obtain ⟨N, H, a, b, c, d, e⟩ := h
  simp only [f_doSwapOut, grd_pos hp, bnd_eq]
  obtain ⟨t, e1, e2⟩ := own_out9 n N c hp c1 c2 N 0 n (setA s 12 (ix p) 0) (by omega) (by omega) a
  exact ⟨t, e1, own_P_of h0 (by rw [e2]; rfl) (by rw [e2]; rfl)⟩
theorem own_swapOut {n : Nat} (hn : 40 ≤ n) {p : Int32} {s : St} (h : own_P s) : ∃ c s', f_swapOut n p s = some (c, s') ∧ own_P s' := by
  unfold f_swapOut
  by_cases c1 : p < 0
  · simp only [c1, if_true]; exact ⟨_, _, rfl, h⟩
  by_cases c2 : 3 < p
  · simp only [c1, c2, if_true, if_false]; exact ⟨_, _, rfl, h⟩
  simp only [c1, c2, if_false, grd_pos (inb_le c1 c2 (by decide) : inb p 4)]
  by_cases c3 : s.2 9 (ix p) = 0
  · simp only [c3, if_true]
    obtain ⟨t, e1, e2⟩ := own_out hn c1 c2 h
    simp only [e1, Option.bind_some]; exact ⟨_, _, rfl, e2⟩
  · simp only [c3, if_false]; exact ⟨_, _, rfl, h⟩
theorem own_bit4 (n : Nat) (s : St) (b : Int32) : ∀ (m i k : Nat) (c : Int32), i + m = 8 → m < k → ∃ v, f_bitCount_4 n s k b c (Int32.ofNat i) = some v := by
  intro m
  induction m with
  | zero =>
    intro i k c hi hk
    obtain ⟨k, rfl⟩ : ∃ k', k = k' + 1 := ⟨k - 1, by omega⟩
    have : i = 8 := by omega
    subst this
    rw [u_bitCount_4, if_neg (by decide)]; exact ⟨_, rfl⟩
  | succ m ih =>
    intro i k c hi hk
    obtain ⟨k, rfl⟩ : ∃ k', k = k' + 1 := ⟨k - 1, by omega⟩
    rw [u_bitCount_4, if_pos (ltZ (i := i) (z := 8) 8 rfl (by omega) (by omega)), N_succ]
    split
    · exact ih (i + 1) k _ (by omega) (by omega)
    · exact ih (i + 1) k _ (by omega) (by omega)
theorem own_bit {n : Nat} (hn : 40 ≤ n) (s : St) (b : Int32) : ∃ v, f_bitCount n s b = some v := own_bit4 n s b 8 0 n 0 (by omega) (by omega)
theorem own_cf4 (n N : Nat) (hN : N ≤ 32) (s : St) (e : s.1 15 = Int32.ofNat N) : ∀ (m i k : Nat) (c : Int32), i + m = N → m < k → ∃ v, f_countFree_4 n s k c (Int32.ofNat i) = some v := by
  intro m
  induction m with
  | zero =>
    intro i k c hi hk
    obtain ⟨k, rfl⟩ : ∃ k', k = k' + 1 := ⟨k - 1, by omega⟩
    have : i = N := by omega
    subst this
    rw [u_countFree_4, e, if_neg (fun q => by rw [N_lt (by omega) (by omega)] at q; omega)]; exact ⟨_, rfl⟩
  | succ m ih =>
    intro i k c hi hk
    obtain ⟨k, rfl⟩ : ∃ k', k = k' + 1 := ⟨k - 1, by omega⟩
    rw [u_countFree_4, e, if_pos ((N_lt (by omega) (by omega)).mpr (by omega)), grd_pos ((inb_N (by omega)).mpr (by omega)), N_succ]
    split
    · exact ih (i + 1) k _ (by omega) (by omega)
    · exact ih (i + 1) k _ (by omega) (by omega)
theorem own_cf {n : Nat} (hn : 40 ≤ n) {s : St} (h : own_P s) : ∃ v, f_countFree n s = some v := by
  obtain ⟨N, H, a, b, c, d, e⟩ := h
  exact own_cf4 n N c s a N 0 n 0 (by omega) (by omega)
theorem own_lf2 (n N : Nat) (hN : N ≤ 32) (s : St) (e : s.1 15 = Int32.ofNat N) : ∀ (m i k : Nat), i + m = N → m < k → ∃ v, f_lowestFree_2 n s k (Int32.ofNat i) = some v ∧ (¬ v < 0 → inb v 32) := by
  intro m
  induction m with
  | zero =>
    intro i k hi hk
    obtain ⟨k, rfl⟩ : ∃ k', k = k' + 1 := ⟨k - 1, by omega⟩
    have : i = N := by omega
    subst this
    rw [u_lowestFree_2, e, if_neg (fun q => by rw [N_lt (by omega) (by omega)] at q; omega)]; exact ⟨_, rfl, fun q => absurd (by decide) q⟩
  | succ m ih =>
    intro i k hi hk
    obtain ⟨k, rfl⟩ : ∃ k', k = k' + 1 := ⟨k - 1, by omega⟩
    have hb : inb (Int32.ofNat i) 32 := (inb_N (by omega)).mpr (by omega)
    rw [u_lowestFree_2, e, if_pos ((N_lt (by omega) (by omega)).mpr (by omega)), grd_pos hb, N_succ]
    split
    · exact ⟨_, rfl, fun _ => hb⟩
    · exact ih (i + 1) k (by omega) (by omega)
theorem own_lf {n : Nat} (hn : 40 ≤ n) {s : St} (h : own_P s) : ∃ v, f_lowestFree n s = some v ∧ (¬ v < 0 → inb v 32) := by
  obtain ⟨N, H, a, b, c, d, e⟩ := h
  exact own_lf2 n N c s a N 0 n (by omega) (by omega)
theorem own_in2 {n : Nat} (hn : 40 ≤ n) {p : Int32} (hp : inb p 4) (c1 : ¬ p < 0) (c2 : ¬ 3 < p) : ∀ (m i k : Nat) (s : St), i + m = 8 → m < k → own_P s → ∃ s', f_doSwapIn_2 n k p (Int32.ofNat i) s = some s' ∧ own_P s' := by
  intro m
  induction m with
  | zero =>
    intro i k s hi hk h
    obtain ⟨k, rfl⟩ : ∃ k', k = k' + 1 := ⟨k - 1, by omega⟩
    have : i = 8 := by omega
    subst this
    rw [u_doSwapIn_2, if_neg (by decide)]
    simp only [grd_pos hp, bnd_eq]; exact ⟨_, rfl, own_P_of h rfl rfl⟩
  | succ m ih =>
    intro i k s hi hk h
    obtain ⟨k, rfl⟩ : ∃ k', k = k' + 1 := ⟨k - 1, by omega⟩
    rw [u_doSwapIn_2, if_pos (ltZ (i := i) (z := 8) 8 rfl (by omega) (by omega)), grd_pos hp, N_succ]
    have h7 : ¬ 7 < Int32.ofNat i := fun q => by rw [show (7 : Int32) = Int32.ofNat 7 from rfl, N_lt (by omega) (by omega)] at q; omega
    obtain ⟨hv, -⟩ := idx8' c1 c2 (N_neg (i := i) (by omega)) h7
    split
    · exact ih (i + 1) k s (by omega) (by omega) h
    · obtain ⟨f, e1, e2⟩ := own_lf hn h
      simp only [e1, Option.bind_some]
      by_cases c : f < 0
      · simp only [c, if_true]; exact ih (i + 1) k s (by omega) (by omega) h
      · simp only [c, if_false, grd_pos (e2 c), grd_pos hv, bnd_eq]
        exact ih (i + 1) k _ (by omega) (by omega) (own_P_of h rfl rfl)
theorem own_in {n : Nat} (hn : 40 ≤ n) {p : Int32} (c1 : ¬ p < 0) (c2 : ¬ 3 < p) {s : St} (h : own_P s) : ∃ s', f_doSwapIn n p s = some s' ∧ own_P s' :=
  own_in2 hn (inb_le c1 c2 (by decide)) c1 c2 8 0 n s (by omega) (by omega) h
theorem own_swapIn {n : Nat} (hn : 40 ≤ n) {p : Int32} {s : St} (h : own_P s) : ∃ c s', f_swapIn n p s = some (c, s') ∧ own_P s' := by
  unfold f_swapIn
  by_cases c1 : p < 0
  · simp only [c1, if_true]; exact ⟨_, _, rfl, h⟩
  by_cases c2 : 3 < p
  · simp only [c1, c2, if_true, if_false]; exact ⟨_, _, rfl, h⟩
  simp only [c1, c2, if_false, grd_pos (inb_le c1 c2 (by decide) : inb p 4)]
  by_cases c3 : s.2 9 (ix p) = 0
  · simp only [c3, if_true]; exact ⟨_, _, rfl, h⟩
  · simp only [c3, if_false]
    obtain ⟨v1, e1⟩ := own_bit hn s (s.2 12 (ix p))
    obtain ⟨v2, e2⟩ := own_cf hn h
    simp only [e1, e2, Option.bind_some]
    by_cases c4 : v2 < v1
    · simp only [c4, if_true]; exact ⟨_, _, rfl, h⟩
    · simp only [c4, if_false]
      obtain ⟨t, e3, e4⟩ := own_in hn c1 c2 h
      simp only [e3, Option.bind_some]; exact ⟨_, _, rfl, e4⟩
theorem own_dec28 {n : Nat} (hn : 40 ≤ n) {p q : Int32} {s : St} (h : own_P s) : ∃ c s', f_decide_28 n p q s = some (c, s') ∧ own_P s' := by
  unfold f_decide_28
  by_cases c1 : p < 0
  · simp only [c1, if_true]; exact ⟨_, _, rfl, h⟩
  by_cases c2 : 3 < p
  · simp only [c1, c2, if_true, if_false]; exact ⟨_, _, rfl, h⟩
  by_cases c3 : q = 0
  · simp only [c1, c2, c3, if_true, if_false]; exact ⟨_, _, rfl, h⟩
  simp only [c1, c2, c3, if_false, grd_pos (inb_le c1 c2 (by decide) : inb p 4)]
  obtain ⟨v1, e1⟩ := own_bit hn s (s.2 12 (ix p))
  obtain ⟨v2, e2⟩ := own_cf hn h
  simp only [e1, e2, Option.bind_some]
  by_cases c4 : v2 < v1
  · simp only [c4, if_true]; exact ⟨_, _, rfl, h⟩
  · simp only [c4, if_false]
    obtain ⟨t, e3, e4⟩ := own_in hn c1 c2 h
    simp only [e3, Option.bind_some]; exact ⟨_, _, rfl, e4⟩
theorem own_dec {n : Nat} (hn : 40 ≤ n) {a b p q r : Int32} {s : St} (h : own_P s) : ∃ c s', f_decide n a b p q r s = some (c, s') ∧ own_P s' := by
  unfold f_decide
  by_cases c0 : a = 0
  · simp only [c0, if_true]; exact own_dec28 hn h
  by_cases c1 : b < 2
  · simp only [c0, c1, if_true, if_false]; exact own_dec28 hn h
  by_cases c2 : p < 0
  · simp only [c0, c1, c2, if_true, if_false]; exact own_dec28 hn h
  by_cases c3 : 3 < p
  · simp only [c0, c1, c2, c3, if_true, if_false]; exact own_dec28 hn h
  simp only [c0, c1, c2, c3, if_false]
  obtain ⟨t, e3, e4⟩ := own_out hn c2 c3 h
  simp only [e3, Option.bind_some]; exact ⟨_, _, rfl, e4⟩
theorem own_ctl121 (n : Nat) : ∀ (m i k : Nat) (c : Int32) (s : St), i + m = 4 → m < k → own_P s → ∃ c' s', f_control_121 n k c (Int32.ofNat i) s = some (c', s') ∧ own_P s' := by
  intro m
  induction m with
  | zero =>
    intro i k c s hi hk h
    obtain ⟨k, rfl⟩ : ∃ k', k = k' + 1 := ⟨k - 1, by omega⟩
    have : i = 4 := by omega
    subst this
    rw [u_control_121, if_neg (by decide)]; exact ⟨_, _, rfl, h⟩
  | succ m ih =>
    intro i k c s hi hk h
    obtain ⟨k, rfl⟩ : ∃ k', k = k' + 1 := ⟨k - 1, by omega⟩
    rw [u_control_121, if_pos (ltZ (i := i) (z := 4) 4 rfl (by omega) (by omega)), grd_pos ((inb_N (by omega)).mpr (by omega)), N_succ]
    simp only [bnd_eq]
    exact ih (i + 1) k _ _ (by omega) (by omega) (own_P_of h rfl rfl)
theorem own_ctl15 {n : Nat} (hn : 40 ≤ n) : ∀ (m i k : Nat) (a b c d e : Int32) (s : St), i + m = 4 → m < k → own_P s → ∃ c' s', f_control_15 n k a b c d e (Int32.ofNat i) s = some (c', s') ∧ own_P s' := by
  intro m
  induction m with
  | zero =>
    intro i k a b c d e s hi hk h
    obtain ⟨k, rfl⟩ : ∃ k', k = k' + 1 := ⟨k - 1, by omega⟩
    have : i = 4 := by omega
    subst this
    rw [u_control_15, if_neg (by decide)]
    obtain ⟨v, t, e1, e2⟩ := own_dec hn (a := d) (b := a) (p := b) (q := c) (r := e) h
    simp only [e1, Option.bind_some]
    exact own_ctl121 n 4 0 n v t (by omega) (by omega) e2
  | succ m ih =>
    intro i k a b c d e s hi hk h
    obtain ⟨k, rfl⟩ : ∃ k', k = k' + 1 := ⟨k - 1, by omega⟩
    have hb : inb (Int32.ofNat i) 4 := (inb_N (by omega)).mpr (by omega)
    have go := ih (i + 1) k
    rw [u_control_15, if_pos (ltZ (i := i) (z := 4) 4 rfl (by omega) (by omega)), grd_pos hb, N_succ]
    have h72 : ∀ a b c d e : Int32, ∃ c' s', f_control_72 n (f_control_15 n k) a b c d e (Int32.ofNat i) s = some (c', s') ∧ own_P s' := fun a b c d e => by
      rw [f_control_72, grd_pos hb, N_succ]
      split
      · exact go _ _ _ _ _ _ (by omega) (by omega) h
      · exact go _ _ _ _ _ _ (by omega) (by omega) h
    split
    · split
      · exact h72 _ _ _ _ _
      · exact h72 _ _ _ _ _
    · split
      · exact go _ _ _ _ _ _ (by omega) (by omega) h
      · exact go _ _ _ _ _ _ (by omega) (by omega) h
theorem own_ctl {n : Nat} (hn : 40 ≤ n) {s : St} (h : own_P s) : ∃ c s', f_control n s = some (c, s') ∧ own_P s' :=
  own_ctl15 hn 4 0 n _ _ _ _ _ s (by omega) (by omega) h

theorem own_sa (s : St) (j i : Nat) (z : Int32) : (setA s j i z).2 j = fun x => if x = i then z else s.2 j x := by
  funext x; rw [setA_2]; by_cases h : x = i <;> simp [h]
theorem own_sn {j k : Nat} (h : k ≠ j) (s : St) (i : Nat) (z : Int32) : (setA s j i z).2 k = s.2 k := by
  funext x; rw [setA_2, if_neg (fun q => h q.1)]
theorem own_ne1 {i : Nat} (h : i < 2147483648) : Int32.ofNat i ≠ -1 := fun q => by
  have := congrArg Int32.toInt q
  rw [N_toInt h] at this
  have e : (-1 : Int32).toInt = -1 := rfl
  omega
theorem own_and7 : ∀ g, g < 8 → Int32.ofNat g &&& 7 = Int32.ofNat g := by decide +kernel
theorem own_idx (o g : Nat) : Int32.ofNat o * 8 + Int32.ofNat g = Int32.ofNat (o * 8 + g) := by
  rw [show (8 : Int32) = Int32.ofNat 8 from rfl, N_mul, N_add]
theorem own_o3 {i : Nat} (hi : i < 4) : ¬ (3 : Int32) < Int32.ofNat i := fun q => by
  rw [show (3 : Int32) = Int32.ofNat 3 from rfl, N_lt (by omega) (by omega)] at q; omega
theorem own_g7 {i : Nat} (hi : i < 8) : ¬ (7 : Int32) < Int32.ofNat i := fun q => by
  rw [show (7 : Int32) = Int32.ofNat 7 from rfl, N_lt (by omega) (by omega)] at q; omega
/-- the owners, the pages and the table of places agree -/
def own_JJ (N : Nat) (O G W : Nat → Int32) : Prop :=
  (∀ f, f < N → O f = -1 ∨ ∃ o g : Nat, o < 4 ∧ g < 8 ∧ O f = Int32.ofNat o ∧ G f = Int32.ofNat g ∧ W (o * 8 + g) = Int32.ofNat f) ∧
  ∀ o g : Nat, o < 4 → g < 8 → W (o * 8 + g) = -1 ∨ ∃ f, f < N ∧ W (o * 8 + g) = Int32.ofNat f ∧ O f = Int32.ofNat o ∧ G f = Int32.ofNat g
theorem own_JJw {N : Nat} {O G W : Nat → Int32} (h : own_JJ N O G W) (hN : N ≤ 32) {c o g : Nat} (hc : c < N) (ho : o < 4) (hg : g < 8) (e1 : O c = Int32.ofNat o) (e2 : G c = Int32.ofNat g) : W (o * 8 + g) = Int32.ofNat c := by
  rcases h.1 c hc with q | ⟨o', g', a1, a2, a3, a4, a5⟩
  · rw [e1] at q; exact absurd q (own_ne1 (by omega))
  · rw [e1, N_inj (by omega) (by omega)] at a3
    rw [e2, N_inj (by omega) (by omega)] at a4
    subst a3; subst a4; exact a5
theorem own_JJfree {N : Nat} {O G W : Nat → Int32} (h : own_JJ N O G W) (hN : N ≤ 32) {c o g : Nat} (hc : c < N) (ho : o < 4) (hg : g < 8) (e1 : O c = Int32.ofNat o) (e2 : G c = Int32.ofNat g) (z : Int32) :
    own_JJ N (fun x => if x = c then -1 else O x) (fun x => if x = c then z else G x) (fun x => if x = o * 8 + g then -1 else W x) := by
  have hw := own_JJw h hN hc ho hg e1 e2
  obtain ⟨h1, h2⟩ := h
  refine ⟨fun f hf => ?_, fun o' g' ho' hg' => ?_⟩
  · by_cases q : f = c
    · left; simp [q]
    · rcases h1 f hf with r | ⟨o', g', a1, a2, a3, a4, a5⟩
      · left; simp [q, r]
      · right
        refine ⟨o', g', a1, a2, by simp [q, a3], by simp [q, a4], ?_⟩
        have : ¬ o' * 8 + g' = o * 8 + g := fun r => by
          rw [r, hw, N_inj (by omega) (by omega)] at a5; exact q a5.symm
        simp [this, a5]
  · by_cases q : o' * 8 + g' = o * 8 + g
    · left; simp [q]
    · rcases h2 o' g' ho' hg' with r | ⟨f, b1, b2, b3, b4⟩
      · left; simp [q, r]
      · right
        have : f ≠ c := fun r => by
          subst r
          rw [e1, N_inj (by omega) (by omega)] at b3
          rw [e2, N_inj (by omega) (by omega)] at b4
          omega
        exact ⟨f, b1, by simp [q, b2], by simp [this, b3], by simp [this, b4]⟩
theorem own_JJload {N : Nat} {O G W : Nat → Int32} (h : own_JJ N O G W) (hN : N ≤ 32) {c o g : Nat} (hc : c < N) (ho : o < 4) (hg : g < 8) (e : O c = -1) (w : W (o * 8 + g) = -1) :
    own_JJ N (fun x => if x = c then Int32.ofNat o else O x) (fun x => if x = c then Int32.ofNat g else G x) (fun x => if x = o * 8 + g then Int32.ofNat c else W x) := by
  obtain ⟨h1, h2⟩ := h
  refine ⟨fun f hf => ?_, fun o' g' ho' hg' => ?_⟩
  · by_cases q : f = c
    · right; exact ⟨o, g, ho, hg, by simp [q], by simp [q], by simp [q]⟩
    · rcases h1 f hf with r | ⟨o', g', a1, a2, a3, a4, a5⟩
      · left; simp [q, r]
      · right
        refine ⟨o', g', a1, a2, by simp [q, a3], by simp [q, a4], ?_⟩
        have : ¬ o' * 8 + g' = o * 8 + g := fun r => by
          rw [r, w] at a5; exact own_ne1 (by omega) a5.symm
        simp [this, a5]
  · by_cases q : o' * 8 + g' = o * 8 + g
    · right
      have a : o' = o := by omega
      have b : g' = g := by omega
      subst a; subst b
      exact ⟨c, hc, by simp, by simp, by simp⟩
    · rcases h2 o' g' ho' hg' with r | ⟨f, b1, b2, b3, b4⟩
      · left; simp [q, r]
      · right
        have : f ≠ c := fun r => by
          subst r; rw [e] at b3; exact own_ne1 (by omega) b3.symm
        exact ⟨f, b1, by simp [q, b2], by simp [this, b3], by simp [this, b4]⟩
/-- a clean frame holds what the disk holds -/
def own_DD (N : Nat) (O G V D K : Nat → Int32) : Prop := ∀ f o g : Nat, f < N → o < 4 → g < 8 → O f = Int32.ofNat o → G f = Int32.ofNat g → D f = 0 → K (o * 8 + g) = V f
def own_J (N : Nat) (s : St) : Prop :=
  s.1 15 = Int32.ofNat N ∧ 4 ≤ N ∧ N ≤ 32 ∧ (∃ H, H < N ∧ s.1 20 = Int32.ofNat H) ∧ own_JJ N (s.2 2) (s.2 3) (s.2 1) ∧
  (∀ f, f < N → (s.2 5 f = 0 ∨ s.2 5 f = 1) ∧ (s.2 6 f = 0 ∨ s.2 6 f = 1)) ∧ own_DD N (s.2 2) (s.2 3) (s.2 4) (s.2 5) (s.2 0) ∧
  ∀ o, o < 4 → (s.2 9 o = 0 ∨ s.2 9 o = 1) ∧ (s.2 9 o = 1 → ∀ g, g < 8 → s.2 1 (o * 8 + g) = -1)
theorem own_cwbJ {n N : Nat} (hn : 40 ≤ n) {s : St} (h : own_J N s) : ∃ (c : Nat) (s' : St), f_completeWriteBacks n s = some (Int32.ofNat c, s') ∧ c ≤ N ∧ own_J N s' ∧ s'.1 = s.1 ∧ (∀ k, k ≠ 0 → k ≠ 5 → k ≠ 8 → s'.2 k = s.2 k) ∧
    (∀ f, s'.2 5 f = s.2 5 f ∨ s'.2 5 f = 0) ∧
    (∀ i, s'.2 0 i = s.2 0 i ∨ ∃ f o g : Nat, f < N ∧ o < 4 ∧ g < 8 ∧ s.2 2 f = Int32.ofNat o ∧ s.2 3 f = Int32.ofNat g ∧ i = o * 8 + g ∧ s'.2 0 i = s.2 4 f) := by
  obtain ⟨j1, j2, j3, j4, j5, j6, j7, j8⟩ := h
  obtain ⟨⟨c, t⟩, e1, C, hC, p1, p2, p3, p4, p5, p6⟩ := loopP (F := fun k i (t : Int32 × St) => f_completeWriteBacks_4 n k t.1 i t.2) (N := N)
    (P := fun i t => ∃ C : Nat, C ≤ i ∧ t.1 = Int32.ofNat C ∧ t.2.1 = s.1 ∧ (∀ k, k ≠ 0 → k ≠ 5 → k ≠ 8 → t.2.2 k = s.2 k) ∧ (∀ f, t.2.2 5 f = s.2 5 f ∨ t.2.2 5 f = 0) ∧
      own_DD N (s.2 2) (s.2 3) (s.2 4) (t.2.2 5) (t.2.2 0) ∧
      (∀ i, t.2.2 0 i = s.2 0 i ∨ ∃ f o g : Nat, f < N ∧ o < 4 ∧ g < 8 ∧ s.2 2 f = Int32.ofNat o ∧ s.2 3 f = Int32.ofNat g ∧ i = o * 8 + g ∧ t.2.2 0 i = s.2 4 f))
    (Q := fun t => ∃ C : Nat, C ≤ N ∧ t.1 = Int32.ofNat C ∧ t.2.1 = s.1 ∧ (∀ k, k ≠ 0 → k ≠ 5 → k ≠ 8 → t.2.2 k = s.2 k) ∧ (∀ f, t.2.2 5 f = s.2 5 f ∨ t.2.2 5 f = 0) ∧
      own_DD N (s.2 2) (s.2 3) (s.2 4) (t.2.2 5) (t.2.2 0) ∧
      (∀ i, t.2.2 0 i = s.2 0 i ∨ ∃ f o g : Nat, f < N ∧ o < 4 ∧ g < 8 ∧ s.2 2 f = Int32.ofNat o ∧ s.2 3 f = Int32.ofNat g ∧ i = o * 8 + g ∧ t.2.2 0 i = s.2 4 f))
    (fun k i t hi hp => Or.inl (by
      obtain ⟨c, t⟩ := t
      obtain ⟨C, hC, p1, p2, p3, p4, p5, p6⟩ := hp
      simp only at p1 p2 p3 p4 p5 p6
      show ∃ s' : Int32 × St, f_completeWriteBacks_4 n (k + 1) c (Int32.ofNat i) t = f_completeWriteBacks_4 n k s'.1 (Int32.ofNat i + 1) s'.2 ∧ _
      have hb : inb (Int32.ofNat i) 32 := inbN (by omega) (by omega)
      have q2 : t.2 2 = s.2 2 := p3 _ (by decide) (by decide) (by decide)
      have q3 : t.2 3 = s.2 3 := p3 _ (by decide) (by decide) (by decide)
      have q4 : t.2 4 = s.2 4 := p3 _ (by decide) (by decide) (by decide)
      rw [u_completeWriteBacks_4, p2, j1, if_pos (ltN hi (by omega)), grd_pos hb, ix_N (by omega), q2, q3, q4]
      have keep : ∃ s' : Int32 × St, f_completeWriteBacks_4 n k c (Int32.ofNat i + 1) t = f_completeWriteBacks_4 n k s'.1 (Int32.ofNat i + 1) s'.2 ∧ ∃ C : Nat, C ≤ i + 1 ∧ s'.1 = Int32.ofNat C ∧ s'.2.1 = s.1 ∧ (∀ k, k ≠ 0 → k ≠ 5 → k ≠ 8 → s'.2.2 k = s.2 k) ∧ (∀ f, s'.2.2 5 f = s.2 5 f ∨ s'.2.2 5 f = 0) ∧
          own_DD N (s.2 2) (s.2 3) (s.2 4) (s'.2.2 5) (s'.2.2 0) ∧
          (∀ i, s'.2.2 0 i = s.2 0 i ∨ ∃ f o g : Nat, f < N ∧ o < 4 ∧ g < 8 ∧ s.2 2 f = Int32.ofNat o ∧ s.2 3 f = Int32.ofNat g ∧ i = o * 8 + g ∧ s'.2.2 0 i = s.2 4 f) :=
        ⟨(c, t), rfl, C, by omega, p1, p2, p3, p4, p5, p6⟩
      rcases j5.1 i hi with r | ⟨o, g, a1, a2, a3, a4, a5⟩
      · rw [r, if_pos (by decide)]; exact keep
      · rw [a3, if_neg (N_neg (by omega)), if_neg (own_o3 a1)]
        split
        · exact keep
        · split
          · exact keep
          · rw [a4, own_and7 g a2, own_idx, grd_pos (inbN (show o * 8 + g < 32 by omega) (by omega)), ix_N (by omega)]
            simp only [bnd_eq]
            refine ⟨(c + 1, setA (setA (setA t 0 (o * 8 + g) (s.2 4 i)) 5 i 0) 8 i 0), rfl, C + 1, by omega, ?_, p2, fun k k1 k2 k3 => ?_, fun f => ?_, ?_, fun x => ?_⟩
            · show c + 1 = _
              rw [p1, N_succ]
            · show (setA (setA (setA t 0 (o * 8 + g) (s.2 4 i)) 5 i 0) 8 i 0).2 k = _
              rw [own_sn k3, own_sn k2, own_sn k1]; exact p3 k k1 k2 k3
            · show (setA (setA (setA t 0 (o * 8 + g) (s.2 4 i)) 5 i 0) 8 i 0).2 5 f = _ ∨ (setA (setA (setA t 0 (o * 8 + g) (s.2 4 i)) 5 i 0) 8 i 0).2 5 f = 0
              rw [own_sn (by decide), own_sa]
              by_cases qf : f = i
              · right; simp [qf]
              · simp only [qf, if_false]; rw [own_sn (by decide)]; exact p4 f
            · show own_DD N _ _ _ ((setA (setA (setA t 0 (o * 8 + g) (s.2 4 i)) 5 i 0) 8 i 0).2 5) ((setA (setA (setA t 0 (o * 8 + g) (s.2 4 i)) 5 i 0) 8 i 0).2 0)
              rw [own_sn (by decide), own_sa, own_sn (by decide), own_sn (by decide), own_sn (by decide), own_sa]
              intro f o' g' b1 b2 b3 b4 b5 b6
              by_cases qf : f = i
              · subst qf
                rw [a3, N_inj (by omega) (by omega)] at b4
                rw [a4, N_inj (by omega) (by omega)] at b5
                subst b4; subst b5; simp
              · simp only [qf, if_false] at b6
                have ne : ¬ o' * 8 + g' = o * 8 + g := fun r => by
                  have w := own_JJw j5 j3 b1 b2 b3 b4 b5
                  rw [r, a5, N_inj (by omega) (by omega)] at w
                  exact qf w.symm
                simp only [ne, if_false]
                exact p5 f o' g' b1 b2 b3 b4 b5 b6
            · show (setA (setA (setA t 0 (o * 8 + g) (s.2 4 i)) 5 i 0) 8 i 0).2 0 x = _ ∨ ∃ f o' g' : Nat, f < N ∧ o' < 4 ∧ g' < 8 ∧ _ ∧ _ ∧ _ ∧ (setA (setA (setA t 0 (o * 8 + g) (s.2 4 i)) 5 i 0) 8 i 0).2 0 x = s.2 4 f
              rw [own_sn (by decide), own_sn (by decide), own_sa]
              by_cases qx : x = o * 8 + g
              · right; exact ⟨i, o, g, hi, a1, a2, a3, a4, qx, by simp [qx]⟩
              · simp only [qx, if_false]; exact p6 x))
    (fun k t hp => by
      obtain ⟨c, t⟩ := t
      obtain ⟨C, hC, p1, p2, p3, p4, p5, p6⟩ := hp
      simp only at p1 p2 p3 p4 p5 p6
      show ∃ r, f_completeWriteBacks_4 n (k + 1) c (Int32.ofNat N) t = some r ∧ _
      rw [u_completeWriteBacks_4, p2, j1, if_neg (nltN (by omega))]
      exact ⟨(c, t), rfl, C, hC, p1, p2, p3, p4, p5, p6⟩) N 0 n (0, s) (by omega) (by omega) ⟨0, by omega, rfl, rfl, fun _ _ _ _ => rfl, fun _ => Or.inl rfl, j7, fun _ => Or.inl rfl⟩
  simp only at p1 p2 p3 p4 p5 p6
  refine ⟨C, t, ?_, hC, ⟨by rw [p2]; exact j1, j2, j3, by rw [p2]; exact j4, ?_, fun f hf => ⟨?_, ?_⟩, ?_, fun o ho => ?_⟩, p2, p3, p4, p6⟩
  · rw [← p1]; exact e1
  · rw [p3 _ (by decide) (by decide) (by decide), p3 _ (by decide) (by decide) (by decide), p3 _ (by decide) (by decide) (by decide)]; exact j5
  · rcases p4 f with r | r
    · rw [r]; exact (j6 f hf).1
    · exact Or.inl r
  · rw [p3 _ (by decide) (by decide) (by decide)]; exact (j6 f hf).2
  · rw [p3 2 (by decide) (by decide) (by decide), p3 3 (by decide) (by decide) (by decide), p3 4 (by decide) (by decide) (by decide)]; exact p5
  · rw [p3 9 (by decide) (by decide) (by decide), p3 1 (by decide) (by decide) (by decide)]; exact j8 o ho
theorem own_J6 {N : Nat} {s t : St} (h : own_J N s) (e1 : t.1 = s.1) (ek : ∀ k, k ≠ 6 → k ≠ 7 → k ≠ 8 → t.2 k = s.2 k) (er : ∀ f, f < N → t.2 6 f = 0 ∨ t.2 6 f = 1) : own_J N t := by
  obtain ⟨j1, j2, j3, j4, j5, j6, j7, j8⟩ := h
  refine ⟨by rw [e1]; exact j1, j2, j3, by rw [e1]; exact j4, ?_, fun f hf => ⟨?_, er f hf⟩, ?_, fun o ho => ?_⟩
  · rw [ek 2 (by decide) (by decide) (by decide), ek 3 (by decide) (by decide) (by decide), ek 1 (by decide) (by decide) (by decide)]; exact j5
  · rw [ek 5 (by decide) (by decide) (by decide)]; exact (j6 f hf).1
  · rw [ek 2 (by decide) (by decide) (by decide), ek 3 (by decide) (by decide) (by decide), ek 4 (by decide) (by decide) (by decide), ek 5 (by decide) (by decide) (by decide), ek 0 (by decide) (by decide) (by decide)]; exact j7
  · rw [ek 9 (by decide) (by decide) (by decide), ek 1 (by decide) (by decide) (by decide)]; exact j8 o ho
theorem own_swpJ {n N : Nat} (hn : 40 ≤ n) {s : St} (h : own_J N s) : ∃ (v : Int32) (s' : St), f_sweep n s = some (v, s') ∧ own_J N s' ∧ s'.1 = s.1 ∧ (∀ k, k ≠ 6 → k ≠ 7 → k ≠ 8 → s'.2 k = s.2 k) ∧
    (v = -1 ∨ ∃ c : Nat, c < N ∧ v = Int32.ofNat c ∧ (s.2 2 c = -1 ∨ (s.2 5 c = 0 ∧ s'.2 6 c = 0 ∧ ∃ o : Nat, o < 4 ∧ s.2 2 c = Int32.ofNat o ∧ s.1 16 < s.2 10 o - s'.2 7 c))) ∧
    (∀ f, (s'.2 6 f = s.2 6 f ∧ s'.2 7 f = s.2 7 f) ∨ (s'.2 6 f = 0 ∧ ∃ o : Nat, o < 4 ∧ s.2 2 f = Int32.ofNat o ∧ s'.2 7 f = s.2 10 o)) := by
  have h0 := h
  obtain ⟨j1, j2, j3, ⟨H, hH, jH⟩, j5, j6, j7, j8⟩ := h
  have hne : Int32.ofNat N ≠ 0 := fun q => by
    rw [show (0 : Int32) = Int32.ofNat 0 from rfl, N_inj (by omega) (by omega)] at q; omega
  obtain ⟨⟨v, t⟩, e1, ⟨p1, p2, p3⟩, p4⟩ := loopP (F := fun k i t => f_sweep_2 n k i t) (N := N)
    (P := fun _ t => t.1 = s.1 ∧ (∀ k, k ≠ 6 → k ≠ 7 → k ≠ 8 → t.2 k = s.2 k) ∧ (∀ f, (t.2 6 f = s.2 6 f ∧ t.2 7 f = s.2 7 f) ∨ (t.2 6 f = 0 ∧ ∃ o : Nat, o < 4 ∧ s.2 2 f = Int32.ofNat o ∧ t.2 7 f = s.2 10 o)))
    (Q := fun r => (r.2.1 = s.1 ∧ (∀ k, k ≠ 6 → k ≠ 7 → k ≠ 8 → r.2.2 k = s.2 k) ∧ (∀ f, (r.2.2 6 f = s.2 6 f ∧ r.2.2 7 f = s.2 7 f) ∨ (r.2.2 6 f = 0 ∧ ∃ o : Nat, o < 4 ∧ s.2 2 f = Int32.ofNat o ∧ r.2.2 7 f = s.2 10 o))) ∧
      (r.1 = -1 ∨ ∃ c : Nat, c < N ∧ r.1 = Int32.ofNat c ∧ (s.2 2 c = -1 ∨ (s.2 5 c = 0 ∧ r.2.2 6 c = 0 ∧ ∃ o : Nat, o < 4 ∧ s.2 2 c = Int32.ofNat o ∧ s.1 16 < s.2 10 o - r.2.2 7 c))))
    (fun k i t hi hp => by
      obtain ⟨p1, p2, p3⟩ := hp
      have hc : (H + i) % N < N := Nat.mod_lt _ (by omega)
      generalize hcc : (H + i) % N = c at hc
      have hb : inb (Int32.ofNat c) 32 := inbN (by omega) (by omega)
      have q2 : t.2 2 = s.2 2 := p2 _ (by decide) (by decide) (by decide)
      have q10 : t.2 10 = s.2 10 := p2 _ (by decide) (by decide) (by decide)
      have q5 : t.2 5 = s.2 5 := p2 _ (by decide) (by decide) (by decide)
      show (∃ s', f_sweep_2 n (k + 1) (Int32.ofNat i) t = f_sweep_2 n k (Int32.ofNat i + 1) s' ∧ _) ∨ ∃ r, f_sweep_2 n (k + 1) (Int32.ofNat i) t = some r ∧ _
      rw [u_sweep_2, p1, j1, jH, if_pos (ltN hi (by omega)), grd_pos hne, N_add, rem_N (by omega) (by omega) (by omega), hcc, grd_pos hb, ix_N (by omega), bnd_eq, q2]
      rcases j5.1 c hc with r | ⟨o, g, a1, a2, a3, a4, a5⟩
      · rw [r, if_pos (by decide)]
        exact Or.inr ⟨_, rfl, ⟨p1, p2, p3⟩, Or.inr ⟨c, hc, rfl, Or.inl r⟩⟩
      · rw [a3, if_neg (N_neg (by omega)), if_neg (own_o3 a1), ix_N (by omega), grd_pos (inbN (show o < 4 by omega) (by omega)), bnd_eq, q10, q5]
        by_cases cr : t.2 6 c = 0
        · rw [if_pos cr]
          by_cases cw : s.1 16 < s.2 10 o - t.2 7 c
          · rw [if_pos cw]
            by_cases cd : s.2 5 c = 0
            · rw [if_pos cd]
              exact Or.inr ⟨_, rfl, ⟨p1, p2, p3⟩, Or.inr ⟨c, hc, rfl, Or.inr ⟨cd, cr, o, a1, a3, cw⟩⟩⟩
            · rw [if_neg cd]
              by_cases cu : t.2 8 c = 0
              · rw [if_pos cu, bnd_eq]
                refine Or.inl ⟨_, rfl, p1, fun k k1 k2 k3 => ?_, fun f => ?_⟩
                · rw [own_sn k3]; exact p2 k k1 k2 k3
                · rw [own_sn (by decide), own_sn (by decide)]; exact p3 f
              · rw [if_neg cu]; exact Or.inl ⟨t, rfl, p1, p2, p3⟩
          · rw [if_neg cw]; exact Or.inl ⟨t, rfl, p1, p2, p3⟩
        · rw [if_neg cr]
          simp only [bnd_eq, grd_pos (inbN (show o < 4 by omega) (show o < 2147483648 by omega))]
          refine Or.inl ⟨_, rfl, p1, fun k k1 k2 k3 => ?_, fun f => ?_⟩
          · rw [own_sn k2, own_sn k1]; exact p2 k k1 k2 k3
          · rw [own_sn (by decide), own_sa, own_sa]
            by_cases qf : f = c
            · right
              refine ⟨by simp [qf], o, a1, by rw [qf]; exact a3, ?_⟩
              simp only [qf, if_true]
              rw [own_sn (by decide), q10]
            · simp only [qf, if_false]
              rw [own_sn (by decide)]
              exact p3 f)
    (fun k t hp => by
      obtain ⟨p1, p2, p3⟩ := hp
      show ∃ r, f_sweep_2 n (k + 1) (Int32.ofNat N) t = some r ∧ _
      rw [u_sweep_2, p1, j1, if_neg (nltN (by omega))]
      exact ⟨_, rfl, ⟨p1, p2, p3⟩, Or.inl rfl⟩) N 0 n s (by omega) (by omega) ⟨rfl, fun _ _ _ _ => rfl, fun _ => Or.inl ⟨rfl, rfl⟩⟩
  simp only at p1 p2 p3 p4
  refine ⟨v, t, e1, own_J6 h0 p1 p2 (fun f hf => ?_), p1, p2, p4, p3⟩
  rcases p3 f with ⟨r, -⟩ | ⟨r, -⟩
  · rw [r]; exact (j6 f hf).2
  · exact Or.inl r
theorem own_ldJ {N : Nat} {s : St} (h : own_J N s) {c o g : Nat} (hc : c < N) (ho : o < 4) (hg : g < 8) (hw : s.2 1 (o * 8 + g) = -1) (hsw : s.2 9 o = 0) (w x : Int32) :
    ∃ s', f_load (Int32.ofNat c) (Int32.ofNat o) (Int32.ofNat g) w x s = some s' ∧ own_J N s' ∧ s'.1 20 = Int32.ofNat ((c + 1) % N) ∧ (∀ k, k ≠ 20 → s'.1 k = s.1 k) ∧ s'.2 1 (o * 8 + g) = Int32.ofNat c ∧
      s'.2 2 c = Int32.ofNat o ∧ s'.2 3 c = Int32.ofNat g ∧ s'.2 4 c = (if w = 0 then s.2 0 (o * 8 + g) else x) ∧ s'.2 5 c = (if w = 0 then 0 else 1) ∧ s'.2 6 c = 1 ∧ s'.2 7 c = s.2 10 o + 1 ∧ s'.2 8 c = 0 ∧
      (∀ y, s'.2 10 y = if y = o then s.2 10 o + 1 else s.2 10 y) ∧ (∀ y, s'.2 14 y = if y = o then s.2 14 o + 1 else s.2 14 y) ∧ (∀ k, k = 0 ∨ k = 9 ∨ k = 11 ∨ k = 12 ∨ k = 13 → s'.2 k = s.2 k) ∧
      (∀ f, f ≠ c → ∀ k, 2 ≤ k → k ≤ 8 → s'.2 k f = s.2 k f) ∧ (∀ i, i ≠ o * 8 + g → s'.2 1 i = s.2 1 i ∨ (s'.2 1 i = -1 ∧ s.2 1 i = Int32.ofNat c)) := by
  have h0 := h
  obtain ⟨j1, j2, j3, ⟨H, hH, jH⟩, j5, j6, j7, j8⟩ := h
  have hb : inb (Int32.ofNat c) 32 := inbN (by omega) (by omega)
  have bo : inb (Int32.ofNat o) 4 := inbN (by omega) (by omega)
  have bi : inb (Int32.ofNat (o * 8 + g)) 32 := inbN (by omega) (by omega)
  have hne : Int32.ofNat N ≠ 0 := fun q => by
    rw [show (0 : Int32) = Int32.ofNat 0 from rfl, N_inj (by omega) (by omega)] at q; omega
  obtain ⟨u, eu, u1, uk, uJ, uw, ui⟩ : ∃ u : St, f_load (Int32.ofNat c) (Int32.ofNat o) (Int32.ofNat g) w x s = f_load_44 (Int32.ofNat c) (Int32.ofNat o) (Int32.ofNat g) w x u ∧ u.1 = s.1 ∧ (∀ k, k ≠ 1 → u.2 k = s.2 k) ∧
      own_JJ N (fun y => if y = c then -1 else s.2 2 y) (s.2 3) (u.2 1) ∧ u.2 1 (o * 8 + g) = -1 ∧ (∀ i, u.2 1 i = s.2 1 i ∨ (u.2 1 i = -1 ∧ s.2 1 i = Int32.ofNat c)) := by
    unfold f_load
    rw [grd_pos hb, ix_N (by omega)]
    rcases j5.1 c hc with r | ⟨o', g', a1, a2, a3, a4, a5⟩
    · rw [r, if_pos (by decide)]
      have e : (fun y => if y = c then -1 else s.2 2 y) = s.2 2 := by
        funext y; by_cases q : y = c
        · simp [q, r]
        · simp [q]
      exact ⟨s, rfl, rfl, fun _ _ => rfl, by rw [e]; exact j5, hw, fun _ => Or.inl rfl⟩
    · rw [a3, if_neg (N_neg (by omega)), if_neg (own_o3 a1), a4, own_and7 g' a2, own_idx, bnd_eq, grd_pos (inbN (show o' * 8 + g' < 32 by omega) (by omega)), ix_N (by omega), bnd_eq]
      have e : (fun y => if y = c then s.2 3 c else s.2 3 y) = s.2 3 := by
        funext y; by_cases q : y = c
        · simp [q]
        · simp [q]
      have J := own_JJfree j5 j3 hc a1 a2 a3 a4 (s.2 3 c)
      rw [e] at J
      refine ⟨_, rfl, rfl, fun k hk => own_sn hk _ _ _, by rw [own_sa]; exact J, ?_, fun i => ?_⟩
      · rw [own_sa]
        by_cases q : o * 8 + g = o' * 8 + g'
        · simp [q]
        · simp [q, hw]
      · rw [own_sa]
        by_cases q : i = o' * 8 + g'
        · right; rw [q]; exact ⟨by simp, a5⟩
        · left; simp [q]
  have u2 := uk 2 (by decide)
  have u3 := uk 3 (by decide)
  have u4 := uk 4 (by decide)
  have u5 := uk 5 (by decide)
  have u6 := uk 6 (by decide)
  have u7 := uk 7 (by decide)
  have u8 := uk 8 (by decide)
  have u0 := uk 0 (by decide)
  have u10 := uk 10 (by decide)
  have u14 := uk 14 (by decide)
  have L := own_JJload uJ j3 hc ho hg (by simp) uw
  have eO : (fun y => if y = c then Int32.ofNat o else (if y = c then -1 else s.2 2 y)) = fun y => if y = c then Int32.ofNat o else s.2 2 y := by
    funext y; by_cases q : y = c
    · simp [q]
    · simp [q]
  simp only [eO] at L
  obtain ⟨T, eT, t1, t1', tO, tG, tW, tV, tD, tR, tL, tU, tv, ta, tk⟩ : ∃ T : St, f_load_44 (Int32.ofNat c) (Int32.ofNat o) (Int32.ofNat g) w x u = some T ∧ T.1 20 = Int32.ofNat ((c + 1) % N) ∧ (∀ k, k ≠ 20 → T.1 k = s.1 k) ∧
      T.2 2 = (fun y => if y = c then Int32.ofNat o else s.2 2 y) ∧ T.2 3 = (fun y => if y = c then Int32.ofNat g else s.2 3 y) ∧ T.2 1 = (fun y => if y = o * 8 + g then Int32.ofNat c else u.2 1 y) ∧
      T.2 4 = (fun y => if y = c then (if w = 0 then s.2 0 (o * 8 + g) else x) else s.2 4 y) ∧ T.2 5 = (fun y => if y = c then (if w = 0 then 0 else 1) else s.2 5 y) ∧ T.2 6 = (fun y => if y = c then 1 else s.2 6 y) ∧
      T.2 7 = (fun y => if y = c then s.2 10 o + 1 else s.2 7 y) ∧ T.2 8 = (fun y => if y = c then 0 else s.2 8 y) ∧ T.2 10 = (fun y => if y = o then s.2 10 o + 1 else s.2 10 y) ∧ T.2 14 = (fun y => if y = o then s.2 14 o + 1 else s.2 14 y) ∧
      (∀ k, k = 0 ∨ k = 9 ∨ k = 11 ∨ k = 12 ∨ k = 13 → T.2 k = s.2 k) := by
    unfold f_load_44 f_load_160
    simp only [own_idx, grd_pos hb, grd_pos bo, grd_pos bi, bnd_eq, setA_1, u1, j1, grd_pos hne, N_succ, rem_N (show c + 1 < 2147483648 by omega) (show N < 2147483648 by omega) (show 0 < N by omega), ix_N (show c < 2147483648 by omega), ix_N (show o < 2147483648 by omega), ix_N (show o * 8 + g < 2147483648 by omega)]
    by_cases qw : w = 0
    · simp only [qw, if_true]
      refine ⟨_, rfl, by simp [setI_1], fun k hk => by simp [setI_1, setA_1, hk, u1], ?_, ?_, ?_, ?_, ?_, ?_, ?_, ?_, ?_, ?_, fun k hk => ?_⟩
      · funext y; simp [setI_2, setA_2, u2]
      · funext y; simp [setI_2, setA_2, u3]
      · funext y; simp [setI_2, setA_2]
      · funext y; simp [setI_2, setA_2, u4, u0]
      · funext y; simp [setI_2, setA_2, u5]
      · funext y; simp [setI_2, setA_2, u6]
      · funext y; simp [setI_2, setA_2, u7, u10]
      · funext y; simp [setI_2, setA_2, u8]
      · funext y; simp [setI_2, setA_2, u10]
      · funext y; simp [setI_2, setA_2, u14]
      · rw [← uk k (by omega)]
        funext y
        simp only [setI_2, setA_2]
        repeat rw [if_neg (by omega)]
    · simp only [qw, if_false]
      refine ⟨_, rfl, by simp [setI_1], fun k hk => by simp [setI_1, setA_1, hk, u1], ?_, ?_, ?_, ?_, ?_, ?_, ?_, ?_, ?_, ?_, fun k hk => ?_⟩
      · funext y; simp [setI_2, setA_2, u2]
      · funext y; simp [setI_2, setA_2, u3]
      · funext y; simp [setI_2, setA_2]
      · funext y; by_cases q : y = c <;> simp [setI_2, setA_2, u4, u0, q]
      · funext y; by_cases q : y = c <;> simp [setI_2, setA_2, u5, q]
      · funext y; simp [setI_2, setA_2, u6]
      · funext y; simp [setI_2, setA_2, u7, u10]
      · funext y; simp [setI_2, setA_2, u8]
      · funext y; simp [setI_2, setA_2, u10]
      · funext y; simp [setI_2, setA_2, u14]
      · rw [← uk k (by omega)]
        funext y
        simp only [setI_2, setA_2]
        repeat rw [if_neg (by omega)]
  refine ⟨T, eu.trans eT, ⟨?_, j2, j3, ⟨(c + 1) % N, Nat.mod_lt _ (by omega), t1⟩, ?_, fun f hf => ?_, ?_, fun p hp => ?_⟩, t1, t1', by rw [tW]; simp, by rw [tO]; simp, by rw [tG]; simp, by rw [tV]; simp, by rw [tD]; simp, by rw [tR]; simp, by rw [tL]; simp, by rw [tU]; simp,
    fun y => by rw [tv], fun y => by rw [ta], tk, fun f hf k k1 k2 => ?_, fun i hi => ?_⟩
  · rw [t1' _ (by decide)]; exact j1
  · rw [tO, tG, tW]; exact L
  · rw [tD, tR]
    by_cases q : f = c
    · simp only [q, if_true]
      by_cases qw : w = 0 <;> simp [qw]
    · simp only [q, if_false]; exact j6 f hf
  · rw [tO, tG, tV, tD, tk 0 (by omega)]
    intro f o' g' b1 b2 b3 b4 b5 b6
    by_cases q : f = c
    · simp only [q, if_true] at b4 b5 b6 ⊢
      rw [N_inj (by omega) (by omega)] at b4 b5
      subst b4; subst b5
      by_cases qw : w = 0
      · simp [qw]
      · simp [qw] at b6
    · simp only [q, if_false] at b4 b5 b6 ⊢
      exact j7 f o' g' b1 b2 b3 b4 b5 b6
  · rw [tk 9 (by omega), tW]
    refine ⟨(j8 p hp).1, fun q g' hg' => ?_⟩
    have ne : p ≠ o := fun r => by rw [r, hsw] at q; exact absurd q (by decide)
    have ne2 : ¬ p * 8 + g' = o * 8 + g := by omega
    simp only [ne2, if_false]
    rcases ui (p * 8 + g') with r | ⟨r, -⟩
    · rw [r]; exact (j8 p hp).2 q g' hg'
    · exact r
  · have : k = 2 ∨ k = 3 ∨ k = 4 ∨ k = 5 ∨ k = 6 ∨ k = 7 ∨ k = 8 := by omega
    rcases this with rfl | rfl | rfl | rfl | rfl | rfl | rfl
    · rw [tO]; simp [hf]
    · rw [tG]; simp [hf]
    · rw [tV]; simp [hf]
    · rw [tD]; simp [hf]
    · rw [tR]; simp [hf]
    · rw [tL]; simp [hf]
    · rw [tU]; simp [hf]
  · rw [tW]; simp only [hi, if_false]; exact ui i
/-- what a page holds, wherever it lies -/
def own_L (s : St) (o g : Nat) : Int32 := if s.2 1 (o * 8 + g) = -1 then s.2 0 (o * 8 + g) else s.2 4 (ix (s.2 1 (o * 8 + g)))
theorem own_Lw {s : St} {o g f : Nat} (e : s.2 1 (o * 8 + g) = Int32.ofNat f) (hf : f < 32) : own_L s o g = s.2 4 f := by
  unfold own_L; rw [e, if_neg (own_ne1 (by omega)), ix_N (by omega)]
theorem own_Ln {s : St} {o g : Nat} (e : s.2 1 (o * 8 + g) = -1) : own_L s o g = s.2 0 (o * 8 + g) := by
  unfold own_L; rw [e, if_pos rfl]
theorem own_cwbL {n N : Nat} (hn : 40 ≤ n) {s : St} (h : own_J N s) : ∃ (c : Nat) (s' : St), f_completeWriteBacks n s = some (Int32.ofNat c, s') ∧ c ≤ N ∧ own_J N s' ∧ s'.1 = s.1 ∧ (∀ k, k ≠ 0 → k ≠ 5 → k ≠ 8 → s'.2 k = s.2 k) ∧ (∀ o g, o < 4 → g < 8 → own_L s' o g = own_L s o g) ∧ ∀ f, s'.2 5 f = s.2 5 f ∨ s'.2 5 f = 0 := by
  obtain ⟨c, t, e, hc, J, e1, ek, edd, ed⟩ := own_cwbJ hn h
  refine ⟨c, t, e, hc, J, e1, ek, fun o g ho hg => ?_, edd⟩
  obtain ⟨j1, j2, j3, j4, j5, j6, j7, j8⟩ := h
  have w := ek 1 (by decide) (by decide) (by decide)
  have v := ek 4 (by decide) (by decide) (by decide)
  rcases j5.2 o g ho hg with r | ⟨f, b1, b2, b3, b4⟩
  · rw [own_Ln r, own_Ln (by rw [w]; exact r)]
    rcases ed (o * 8 + g) with q | ⟨f, o', g', a1, a2, a3, a4, a5, a6, a7⟩
    · exact q
    · have hw := own_JJw j5 j3 a1 a2 a3 a4 a5
      rw [← a6, r] at hw
      exact absurd hw.symm (own_ne1 (by omega))
  · rw [own_Lw b2 (by omega), own_Lw (f := f) (by rw [w]; exact b2) (by omega), v]
/-- an access to a page of a process that is not swapped out -/
theorem own_accJ {n N : Nat} (hn : 40 ≤ n) {s : St} (h : own_J N s) {o g : Nat} (ho : o < 4) (hg : g < 8) (hs : s.2 9 o = 0) (w x : Int32) :
    ∃ (st : Int32) (s' : St), f_access n (Int32.ofNat o) (Int32.ofNat g) w x s = some (st, s') ∧ own_J N s' ∧ s'.1 19 = s.1 19 + 1 ∧ (∀ k, k ≠ 19 → k ≠ 20 → k ≠ 21 → s'.1 k = s.1 k) ∧ s'.2 9 = s.2 9 ∧ s'.2 12 = s.2 12 ∧
    ((st = 1 ∧ (∃ f : Nat, f < N ∧ s.2 1 (o * 8 + g) = Int32.ofNat f ∧ s'.1 21 = Int32.ofNat f ∧ s'.2 6 f = 1 ∧ (∀ y, y ≠ f → s'.2 6 y = s.2 6 y) ∧ (w ≠ 0 → s'.2 5 f = 1 ∧ s'.2 8 f = 0) ∧ (w = 0 → ∀ z, s'.2 5 z = s.2 5 z ∨ s'.2 5 z = 0)) ∧ s'.1 20 = s.1 20 ∧
        (∀ k, k = 1 ∨ k = 2 ∨ k = 3 ∨ k = 7 ∨ k = 11 ∨ k = 13 → s'.2 k = s.2 k) ∧ (∀ y, s'.2 10 y = if y = o then s.2 10 o + 1 else s.2 10 y) ∧ (∀ y, s'.2 14 y = if y = o then s.2 14 o + 1 else s.2 14 y) ∧
        (∀ o' g', o' < 4 → g' < 8 → own_L s' o' g' = if o' = o ∧ g' = g ∧ w ≠ 0 then x else own_L s o' g')) ∨
     (st = 2 ∧ s.2 1 (o * 8 + g) = -1 ∧ (∃ c : Nat, c < N ∧ (s.2 2 c = -1 ∨ ∃ o' : Nat, o' < 4 ∧ s.2 2 c = Int32.ofNat o' ∧ (s.2 6 c = 0 ∧ s.1 16 < s.2 10 o' - s.2 7 c ∨ s.1 16 < s.2 10 o' - s.2 10 o')) ∧ s'.2 1 (o * 8 + g) = Int32.ofNat c ∧ s'.1 21 = Int32.ofNat c ∧ s'.1 20 = Int32.ofNat ((c + 1) % N) ∧
          s'.2 2 c = Int32.ofNat o ∧ s'.2 3 c = Int32.ofNat g ∧ s'.2 5 c = (if w = 0 then 0 else 1) ∧ s'.2 6 c = 1 ∧ s'.2 7 c = s.2 10 o + 1 ∧ s'.2 8 c = 0 ∧
          (∀ f, f ≠ c → s'.2 2 f = s.2 2 f ∧ s'.2 3 f = s.2 3 f ∧ ((s'.2 6 f = s.2 6 f ∧ s'.2 7 f = s.2 7 f) ∨ (s'.2 6 f = 0 ∧ ∃ o' : Nat, o' < 4 ∧ s.2 2 f = Int32.ofNat o' ∧ s'.2 7 f = s.2 10 o'))) ∧
          (∀ i, i ≠ o * 8 + g → s'.2 1 i = s.2 1 i ∨ (s'.2 1 i = -1 ∧ s.2 1 i = Int32.ofNat c))) ∧
        (∀ y, s'.2 10 y = if y = o then s.2 10 o + 1 else s.2 10 y) ∧ (∀ y, s'.2 14 y = if y = o then s.2 14 o + 1 else s.2 14 y) ∧ (∀ y, s'.2 11 y = if y = o then s.2 11 o + 1 else s.2 11 y) ∧ (∀ y, s'.2 13 y = if y = o then s.2 13 o + 1 else s.2 13 y) ∧
        (∀ o' g', o' < 4 → g' < 8 → own_L s' o' g' = if o' = o ∧ g' = g ∧ w ≠ 0 then x else own_L s o' g')) ∨
     (st = 3 ∧ s.2 1 (o * 8 + g) = -1 ∧ s'.1 20 = s.1 20 ∧ (∀ k, k = 1 ∨ k = 2 ∨ k = 3 ∨ k = 10 ∨ k = 14 → s'.2 k = s.2 k) ∧ (∀ y, s'.2 11 y = if y = o then s.2 11 o + 1 else s.2 11 y) ∧ (∀ y, s'.2 13 y = if y = o then s.2 13 o + 1 else s.2 13 y) ∧
        (∀ f, (s'.2 6 f = s.2 6 f ∧ s'.2 7 f = s.2 7 f) ∨ (s'.2 6 f = 0 ∧ ∃ o' : Nat, o' < 4 ∧ s.2 2 f = Int32.ofNat o' ∧ s'.2 7 f = s.2 10 o')) ∧
        (∀ o' g', o' < 4 → g' < 8 → own_L s' o' g' = own_L s o' g'))) := by
  have h0 := h
  obtain ⟨j1, j2, j3, j4, j5, j6, j7, j8⟩ := h
  have bo : inb (Int32.ofNat o) 4 := inbN (by omega) (by omega)
  have bi : inb (Int32.ofNat (o * 8 + g)) 32 := inbN (by omega) (by omega)
  -- the clock, then the write-backs
  have hJ1 : own_J N (setI s 19 (s.1 19 + 1)) := ⟨j1, j2, j3, j4, j5, j6, j7, j8⟩
  obtain ⟨cc, t, et, -, tJ, t1, tk, tL, td0⟩ := own_cwbL hn hJ1
  have td : ∀ f, t.2 5 f = s.2 5 f ∨ t.2 5 f = 0 := td0
  have tL' : ∀ o g, o < 4 → g < 8 → own_L t o g = own_L s o g := fun o g a b => tL o g a b
  have tk' : ∀ k, k ≠ 0 → k ≠ 5 → k ≠ 8 → t.2 k = s.2 k := fun k a b c => tk k a b c
  have tw := tk' 1 (by decide) (by decide) (by decide)
  have tn : t.1 19 = s.1 19 + 1 := by rw [t1]; simp [setI_1]
  have ti : ∀ k, k ≠ 19 → t.1 k = s.1 k := fun k hk => by rw [t1]; simp [setI_1, hk]
  have acc : f_access n (Int32.ofNat o) (Int32.ofNat g) w x s = (if t.2 1 (o * 8 + g) < 0 then f_access_90 n (Int32.ofNat o) (Int32.ofNat g) w x t else if t.2 1 (o * 8 + g) < 32 then
      (f_hit (t.2 1 (o * 8 + g)) (Int32.ofNat o) w x t).bind fun q14 => bnd (setI q14 21 (t.2 1 (o * 8 + g))) fun s16 => some ((1 : Int32), s16) else f_access_90 n (Int32.ofNat o) (Int32.ofNat g) w x t) := by
    unfold f_access
    rw [if_neg (N_neg (by omega)), if_neg (own_o3 ho), if_neg (N_neg (by omega)), if_neg (own_g7 hg), grd_pos bo, ix_N (by omega), if_pos hs, bnd_eq, et]
    simp only [Option.bind_some]
    rw [own_idx, grd_pos bi, ix_N (by omega), bnd_eq]
  rcases j5.2 o g ho hg with r | ⟨f, b1, b2, b3, b4⟩
  · -- not resident: a fault
    rw [tw, r, if_pos (by decide)] at acc
    rw [acc]
    unfold f_access_90
    rw [grd_pos bo, ix_N (by omega)]
    simp only [bnd_eq]
    obtain ⟨u, hu⟩ : ∃ u, u = setA (setA t 11 o (t.2 11 o + 1)) 13 o ((setA t 11 o (t.2 11 o + 1)).2 13 o + 1) := ⟨_, rfl⟩
    rw [← hu]
    have uk : ∀ k, k ≠ 11 → k ≠ 13 → u.2 k = t.2 k := fun k a b => by rw [hu, own_sn b, own_sn a]
    have u1 : u.1 = t.1 := by rw [hu]; rfl
    have uf : ∀ y, u.2 11 y = if y = o then s.2 11 o + 1 else s.2 11 y := fun y => by
      rw [hu, own_sn (by decide), own_sa, tk' 11 (by decide) (by decide) (by decide)]
    have us : ∀ y, u.2 13 y = if y = o then s.2 13 o + 1 else s.2 13 y := fun y => by
      rw [hu, own_sa, own_sn (by decide), tk' 13 (by decide) (by decide) (by decide)]
    have uJ : own_J N u := by
      obtain ⟨k1, k2, k3, k4, k5, k6, k7, k8⟩ := tJ
      refine ⟨by rw [u1]; exact k1, k2, k3, by rw [u1]; exact k4, ?_, fun f hf => ?_, ?_, fun p hp => ?_⟩
      · rw [uk 2 (by decide) (by decide), uk 3 (by decide) (by decide), uk 1 (by decide) (by decide)]; exact k5
      · rw [uk 5 (by decide) (by decide), uk 6 (by decide) (by decide)]; exact k6 f hf
      · rw [uk 2 (by decide) (by decide), uk 3 (by decide) (by decide), uk 4 (by decide) (by decide), uk 5 (by decide) (by decide), uk 0 (by decide) (by decide)]; exact k7
      · rw [uk 9 (by decide) (by decide), uk 1 (by decide) (by decide)]; exact k8 p hp
    have uL : ∀ o' g', o' < 4 → g' < 8 → own_L u o' g' = own_L s o' g' := fun o' g' a b => by
      rw [← tL' o' g' a b]; unfold own_L; rw [uk 1 (by decide) (by decide), uk 4 (by decide) (by decide), uk 0 (by decide) (by decide)]
    obtain ⟨v, y, ey, yJ, y1, yk, yv, yf⟩ := own_swpJ hn uJ
    rw [ey]
    simp only [Option.bind_some]
    have uks : ∀ k, k ≠ 0 → k ≠ 5 → k ≠ 8 → k ≠ 11 → k ≠ 13 → u.2 k = s.2 k := fun k a b c d e => (uk k d e).trans (tk' k a b c)
    have yks : ∀ k, k ≠ 0 → k ≠ 5 → k ≠ 8 → k ≠ 11 → k ≠ 13 → k ≠ 6 → k ≠ 7 → y.2 k = s.2 k := fun k a b c d e f g => (yk k f g c).trans (uks k a b c d e)
    have yn : y.1 19 = s.1 19 + 1 := by rw [y1, u1]; exact tn
    have yi : ∀ k, k ≠ 19 → y.1 k = s.1 k := fun k hk => by rw [y1, u1]; exact ti k hk
    have yL : ∀ o' g', o' < 4 → g' < 8 → own_L y o' g' = own_L s o' g' := fun o' g' a b => by
      rw [← uL o' g' a b]; unfold own_L; rw [yk 1 (by decide) (by decide) (by decide), yk 4 (by decide) (by decide) (by decide), yk 0 (by decide) (by decide) (by decide)]
    have yw := yks 1 (by decide) (by decide) (by decide) (by decide) (by decide) (by decide) (by decide)
    have yo := yks 2 (by decide) (by decide) (by decide) (by decide) (by decide) (by decide) (by decide)
    have yp := yks 3 (by decide) (by decide) (by decide) (by decide) (by decide) (by decide) (by decide)
    have yvt := yks 10 (by decide) (by decide) (by decide) (by decide) (by decide) (by decide) (by decide)
    have ysa := yks 14 (by decide) (by decide) (by decide) (by decide) (by decide) (by decide) (by decide)
    have ysw := yks 9 (by decide) (by decide) (by decide) (by decide) (by decide) (by decide) (by decide)
    have ysv := yks 12 (by decide) (by decide) (by decide) (by decide) (by decide) (by decide) (by decide)
    have yfl := yk 11 (by decide) (by decide) (by decide)
    have ysf := yk 13 (by decide) (by decide) (by decide)
    have urf := uks 6 (by decide) (by decide) (by decide) (by decide) (by decide)
    have ula := uks 7 (by decide) (by decide) (by decide) (by decide) (by decide)
    have uow := uks 2 (by decide) (by decide) (by decide) (by decide) (by decide)
    have uvt := uks 10 (by decide) (by decide) (by decide) (by decide) (by decide)
    have yf' : ∀ f, (y.2 6 f = s.2 6 f ∧ y.2 7 f = s.2 7 f) ∨ (y.2 6 f = 0 ∧ ∃ o' : Nat, o' < 4 ∧ s.2 2 f = Int32.ofNat o' ∧ y.2 7 f = s.2 10 o') := fun f => by
      have := yf f
      rw [urf, ula, uow, uvt] at this
      exact this
    rcases yv with rv | ⟨c, hc, rv, hv⟩
    · rw [rv, if_pos (by decide)]
      refine ⟨3, y, rfl, yJ, yn, fun k a _ _ => yi k a, ysw, ysv, Or.inr (Or.inr ⟨rfl, r, yi _ (by decide), fun k hk => ?_, fun z => by rw [yfl]; exact uf z, fun z => by rw [ysf]; exact us z, yf', yL⟩)⟩
      rcases hk with rfl | rfl | rfl | rfl | rfl
      · exact yw
      · exact yo
      · exact yp
      · exact yvt
      · exact ysa
    · rw [rv, if_neg (N_neg (by omega))]
      obtain ⟨T, eT, TJ, T1, T1', Tw, To, Tg, Tv, Td, Tr, Tl, Tu, Tvt, Tsa, Tk, Tf, Ti⟩ := own_ldJ yJ hc ho hg (by rw [yw]; exact r) (by rw [ysw]; exact hs) w x
      rw [eT]
      simp only [Option.bind_some, bnd_eq]
      refine ⟨2, setI T 21 (Int32.ofNat c), rfl, ?_, ?_, fun k a b d => ?_, (Tk 9 (by omega)).trans ysw, (Tk 12 (by omega)).trans ysv, Or.inr (Or.inl ⟨rfl, r, ⟨c, hc, ?_, Tw, by simp [setI_1], ?_, To, Tg, Td, Tr, ?_, Tu, fun f hf => ⟨?_, ?_, ?_⟩, fun i hi => ?_⟩, fun z => ?_, fun z => ?_, fun z => ?_, fun z => ?_, fun o' g' a b => ?_⟩)⟩
      · obtain ⟨k1, k2, k3, k4, k5, k6, k7, k8⟩ := TJ
        exact ⟨k1, k2, k3, k4, k5, k6, k7, k8⟩
      · rw [setI_1, if_neg (by decide), T1' _ (by decide)]; exact yn
      · rw [setI_1, if_neg d, T1' _ b]; exact yi k a
      · rcases hv with q | ⟨-, q2, o', q3, q4, q5⟩
        · left; rw [← uow]; exact q
        · right
          refine ⟨o', q3, by rw [← uow]; exact q4, ?_⟩
          rw [uvt, u1, ti _ (by decide)] at q5
          rcases yf' c with ⟨z1, z2⟩ | ⟨z1, o2, z2, z3, z4⟩
          · left; rw [z2] at q5; rw [z1] at q2; exact ⟨q2, q5⟩
          · right
            rw [uow, z3, N_inj (by omega) (by omega)] at q4
            subst q4
            rw [z4] at q5; exact q5
      · rw [setI_1, if_neg (by decide)]; exact T1
      · show T.2 7 c = _
        rw [Tl, yvt]
      · show T.2 2 f = _
        rw [Tf f hf _ (by decide) (by decide), yo]
      · show T.2 3 f = _
        rw [Tf f hf _ (by decide) (by decide), yp]
      · show (T.2 6 f = _ ∧ T.2 7 f = _) ∨ (T.2 6 f = 0 ∧ ∃ o' : Nat, o' < 4 ∧ _ ∧ T.2 7 f = _)
        rw [Tf f hf 6 (by decide) (by decide), Tf f hf 7 (by decide) (by decide)]
        exact yf' f
      · show T.2 1 i = _ ∨ (T.2 1 i = -1 ∧ _)
        have := Ti i hi
        rw [yw] at this
        exact this
      · show T.2 10 z = _
        rw [Tvt, yvt]
      · show T.2 14 z = _
        rw [Tsa, ysa]
      · show T.2 11 z = _
        rw [Tk 11 (by omega), yfl]; exact uf z
      · show T.2 13 z = _
        rw [Tk 13 (by omega), ysf]; exact us z
      · show own_L T o' g' = _
        have j3' : N ≤ 32 := j3
        by_cases q : o' = o ∧ g' = g
        · obtain ⟨rfl, rfl⟩ := q
          rw [own_Lw Tw (by omega), Tv]
          by_cases qw : w = 0
          · simp only [qw, if_true, ne_eq, not_true, and_false, if_false]
            rw [← yL o' g' a b, own_Ln (by rw [yw]; exact r)]
          · simp [qw]
        · have : ¬ (o' = o ∧ g' = g ∧ w ≠ 0) := fun z => q ⟨z.1, z.2.1⟩
          rw [if_neg this, ← yL o' g' a b]
          have ne : o' * 8 + g' ≠ o * 8 + g := fun z => q ⟨by omega, by omega⟩
          rcases Ti _ ne with z | ⟨z1, z2⟩
          · obtain ⟨k1, k2, k3, k4, k5, k6, k7, k8⟩ := yJ
            rcases k5.2 o' g' a b with m | ⟨f, m1, m2, m3, m4⟩
            · rw [own_Ln m, own_Ln (z.trans m), Tk 0 (by omega)]
            · have fc : f ≠ c := fun q => by
                subst q
                -- the frame's page would be the new one
                obtain ⟨l1, l2, l3, l4, l5, l6, l7, l8⟩ := TJ
                have ww := z.trans m2
                rcases l5.2 o' g' a b with n1 | ⟨f2, n1, n2, n3, n4⟩
                · rw [n1] at ww; exact own_ne1 (by omega) ww.symm
                · rw [ww, N_inj (by omega) (by omega)] at n2
                  subst n2
                  rw [To, N_inj (by omega) (by omega)] at n3
                  rw [Tg, N_inj (by omega) (by omega)] at n4
                  exact q ⟨n3.symm, n4.symm⟩
              rw [own_Lw m2 (by omega), own_Lw (z.trans m2) (by omega), Tf f fc _ (by decide) (by decide)]
          · rw [own_Ln z1, own_Lw z2 (by omega), Tk 0 (by omega)]
            obtain ⟨k1, k2, k3, k4, k5, k6, k7, k8⟩ := yJ
            rcases k5.2 o' g' a b with m | ⟨f, m1, m2, m3, m4⟩
            · rw [m] at z2; exact absurd z2.symm (own_ne1 (by omega))
            · rw [z2, N_inj (by omega) (by omega)] at m2
              subst m2
              refine k7 c o' g' hc a b m3 m4 ?_
              rcases hv with q | ⟨q1, -⟩
              · rw [uow] at q; rw [yo, q] at m3
                exact absurd m3.symm (own_ne1 (by omega))
              · rw [yk 5 (by decide) (by decide) (by decide)]; exact q1
  · -- resident: a hit
    rw [tw, b2, if_neg (N_neg (by omega)), if_pos (ltZ (z := 32) 32 rfl (by omega) (by omega))] at acc
    rw [acc]
    have bf : inb (Int32.ofNat f) 32 := inbN (by omega) (by omega)
    have tv := tk' 10 (by decide) (by decide) (by decide)
    have ta := tk' 14 (by decide) (by decide) (by decide)
    have tr := tk' 6 (by decide) (by decide) (by decide)
    obtain ⟨T, eT, T1, Tk, Tv, Ta, Tr, Td, Tu, TV⟩ : ∃ T : St, f_hit (Int32.ofNat f) (Int32.ofNat o) w x t = some T ∧ T.1 = t.1 ∧ (∀ k, k ≠ 10 → k ≠ 14 → k ≠ 6 → k ≠ 4 → k ≠ 5 → k ≠ 8 → T.2 k = t.2 k) ∧ T.2 10 = (fun z => if z = o then s.2 10 o + 1 else s.2 10 z) ∧ T.2 14 = (fun z => if z = o then s.2 14 o + 1 else s.2 14 z) ∧
        T.2 6 = (fun z => if z = f then 1 else s.2 6 z) ∧ T.2 5 = (fun z => if z = f ∧ w ≠ 0 then 1 else t.2 5 z) ∧ T.2 8 = (fun z => if z = f ∧ w ≠ 0 then 0 else t.2 8 z) ∧ T.2 4 = (fun z => if z = f ∧ w ≠ 0 then x else t.2 4 z) := by
      unfold f_hit
      simp only [grd_pos bo, grd_pos bf, bnd_eq, ix_N (show f < 2147483648 by omega), ix_N (show o < 2147483648 by omega)]
      by_cases qw : w = 0
      · simp only [qw, if_true]
        refine ⟨_, rfl, rfl, fun k h1 h2 h3 h4 h5 h6 => by rw [own_sn h3, own_sn h2, own_sn h1], ?_, ?_, ?_, ?_, ?_, ?_⟩
        · funext z; simp [setA_2, tv]
        · funext z; simp [setA_2, ta]
        · funext z; simp [setA_2, tr]
        · funext z; simp [setA_2]
        · funext z; simp [setA_2]
        · funext z; simp [setA_2]
      · simp only [qw, if_false]
        refine ⟨_, rfl, rfl, fun k h1 h2 h3 h4 h5 h6 => by rw [own_sn h6, own_sn h5, own_sn h4, own_sn h3, own_sn h2, own_sn h1], ?_, ?_, ?_, ?_, ?_, ?_⟩
        · funext z; simp [setA_2, tv]
        · funext z; simp [setA_2, ta]
        · funext z; simp [setA_2, tr]
        · funext z; simp [setA_2, qw]
        · funext z; simp [setA_2, qw]
        · funext z; simp [setA_2, qw]
    rw [eT]
    simp only [Option.bind_some, bnd_eq]
    have Tks : ∀ k, k ≠ 10 → k ≠ 14 → k ≠ 6 → k ≠ 4 → k ≠ 5 → k ≠ 8 → k ≠ 0 → T.2 k = s.2 k := fun k h1 h2 h3 h4 h5 h6 h7 => (Tk k h1 h2 h3 h4 h5 h6).trans (tk' k h7 h5 h6)
    have Tw := Tks 1 (by decide) (by decide) (by decide) (by decide) (by decide) (by decide) (by decide)
    have To := Tks 2 (by decide) (by decide) (by decide) (by decide) (by decide) (by decide) (by decide)
    have Tg := Tks 3 (by decide) (by decide) (by decide) (by decide) (by decide) (by decide) (by decide)
    have Tdk := Tk 0 (by decide) (by decide) (by decide) (by decide) (by decide) (by decide)
    refine ⟨1, setI T 21 (Int32.ofNat f), rfl, ?_, ?_, fun k a b d => ?_, Tks 9 (by decide) (by decide) (by decide) (by decide) (by decide) (by decide) (by decide), Tks 12 (by decide) (by decide) (by decide) (by decide) (by decide) (by decide) (by decide),
      Or.inl ⟨rfl, ⟨f, b1, b2, by simp [setI_1], ?_, fun z hz => ?_, fun qw => ⟨?_, ?_⟩, fun qw z => ?_⟩, ?_, fun k hk => ?_, fun z => ?_, fun z => ?_, fun o' g' a b => ?_⟩⟩
    · obtain ⟨k1, k2, k3, k4, k5, k6, k7, k8⟩ := tJ
      refine ⟨?_, k2, k3, ?_, ?_, fun z hz => ?_, ?_, fun p hp => ?_⟩
      · show T.1 15 = _
        rw [T1]; exact k1
      · show ∃ H, H < N ∧ T.1 20 = _
        rw [T1]; exact k4
      · show own_JJ N (T.2 2) (T.2 3) (T.2 1)
        rw [To, Tg, Tw]; exact j5
      · show (T.2 5 z = 0 ∨ T.2 5 z = 1) ∧ (T.2 6 z = 0 ∨ T.2 6 z = 1)
        rw [Td, Tr]
        constructor
        · by_cases q : z = f ∧ w ≠ 0
          · simp [q]
          · simp only [q, if_false]; exact (k6 z hz).1
        · by_cases q : z = f
          · simp [q]
          · simp only [q, if_false]; rw [← tr]; exact (k6 z hz).2
      · show own_DD N (T.2 2) (T.2 3) (T.2 4) (T.2 5) (T.2 0)
        rw [To, Tg, TV, Td, Tdk]
        intro z o' g' c1 c2 c3 c4 c5 c6
        by_cases q : z = f ∧ w ≠ 0
        · simp only [q, and_self, if_true, ne_eq, not_false_eq_true] at c6
          exact absurd c6 (by decide)
        · simp only [q, if_false] at c6 ⊢
          refine k7 z o' g' c1 c2 c3 ?_ ?_ c6
          · rw [tk' 2 (by decide) (by decide) (by decide)]; exact c4
          · rw [tk' 3 (by decide) (by decide) (by decide)]; exact c5
      · show (T.2 9 p = 0 ∨ T.2 9 p = 1) ∧ (T.2 9 p = 1 → ∀ g, g < 8 → T.2 1 (p * 8 + g) = -1)
        rw [Tks 9 (by decide) (by decide) (by decide) (by decide) (by decide) (by decide) (by decide), Tw]; exact j8 p hp
    · rw [setI_1, if_neg (by decide), T1]; exact tn
    · rw [setI_1, if_neg d, T1]; exact ti k a
    · show T.2 6 f = 1
      rw [Tr]; simp
    · show T.2 6 z = _
      rw [Tr]; simp [hz]
    · show T.2 5 f = 1
      rw [Td]; simp [qw]
    · show T.2 8 f = 0
      rw [Tu]; simp [qw]
    · show T.2 5 z = _ ∨ T.2 5 z = 0
      rw [Td]; simp only [qw, ne_eq, not_true, and_false, if_false]; exact td z
    · rw [setI_1, if_neg (by decide), T1]; exact ti _ (by decide)
    · show T.2 k = _
      refine Tks k ?_ ?_ ?_ ?_ ?_ ?_ ?_ <;> omega
    · show T.2 10 z = _
      rw [Tv]
    · show T.2 14 z = _
      rw [Ta]
    · show own_L T o' g' = _
      rcases j5.2 o' g' a b with m | ⟨f', m1, m2, m3, m4⟩
      · have : ¬ (o' = o ∧ g' = g ∧ w ≠ 0) := fun q => by
          obtain ⟨rfl, rfl, -⟩ := q
          rw [b2] at m; exact own_ne1 (by omega) m
        rw [if_neg this, ← tL' o' g' a b, own_Ln (by rw [Tw]; exact m), own_Ln (by rw [tw]; exact m), Tdk]
      · rw [own_Lw (f := f') (by rw [Tw]; exact m2) (by omega), TV]
        by_cases q : f' = f
        · subst q
          rw [b3, N_inj (by omega) (by omega)] at m3
          rw [b4, N_inj (by omega) (by omega)] at m4
          subst m3; subst m4
          by_cases qw : w = 0
          · simp only [qw, ne_eq, not_true, and_false, if_false]
            rw [← tL' o g a b, own_Lw (f := f') (by rw [tw]; exact m2) (by omega)]
          · simp [qw]
        · have n1 : ¬ (o' = o ∧ g' = g ∧ w ≠ 0) := fun z => by
            obtain ⟨rfl, rfl, -⟩ := z
            rw [b2, N_inj (by omega) (by omega)] at m2
            exact q m2.symm
          have n2 : ¬ (f' = f ∧ w ≠ 0) := fun z => q z.1
          simp only [n1, n2, if_false]
          rw [← tL' o' g' a b, own_Lw (f := f') (by rw [tw]; exact m2) (by omega)]
theorem own_tickJ {n N : Nat} (hn : 40 ≤ n) {s : St} (h : own_J N s) : ∃ (c : Nat) (s' : St), f_tick n s = some (Int32.ofNat c, s') ∧ c ≤ N ∧ own_J N s' ∧ s'.1 19 = s.1 19 + 1 ∧ (∀ k, k ≠ 19 → s'.1 k = s.1 k) ∧ (∀ k, k ≠ 0 → k ≠ 5 → k ≠ 8 → s'.2 k = s.2 k) ∧
    ∀ o g, o < 4 → g < 8 → own_L s' o g = own_L s o g := by
  obtain ⟨j1, j2, j3, j4, j5, j6, j7, j8⟩ := h
  have hJ1 : own_J N (setI s 19 (s.1 19 + 1)) := ⟨j1, j2, j3, j4, j5, j6, j7, j8⟩
  obtain ⟨c, t, et, hc, tJ, t1, tk, tL, -⟩ := own_cwbL hn hJ1
  unfold f_tick
  rw [bnd_eq, et]
  simp only [Option.bind_some]
  exact ⟨c, t, rfl, hc, tJ, by rw [t1]; simp [setI_1], fun k hk => by rw [t1]; simp [setI_1, hk], tk, tL⟩
/-! counting -/
def own_cnt (P : Nat → Bool) : Nat → Nat
  | 0 => 0
  | n + 1 => own_cnt P n + if P n then 1 else 0
theorem own_cnt_le (P : Nat → Bool) : ∀ n, own_cnt P n ≤ n := by
  intro n
  induction n with
  | zero => exact Nat.le_refl _
  | succ n ih => simp only [own_cnt]; split <;> omega
theorem own_cnt_congr {P Q : Nat → Bool} : ∀ n, (∀ i, i < n → P i = Q i) → own_cnt P n = own_cnt Q n := by
  intro n
  induction n with
  | zero => intro _; rfl
  | succ n ih => intro h; simp only [own_cnt]; rw [ih (fun i hi => h i (by omega)), h n (by omega)]
theorem own_cnt_drop {P Q : Nat → Bool} {c : Nat} (h1 : P c = true) (h2 : Q c = false) (h3 : ∀ i, i ≠ c → P i = Q i) : ∀ n, c < n → own_cnt P n = own_cnt Q n + 1 := by
  intro n
  induction n with
  | zero => intro h; omega
  | succ n ih =>
    intro h
    simp only [own_cnt]
    by_cases q : c = n
    · subst q
      rw [h1, h2, own_cnt_congr c (fun i hi => h3 i (by omega))]
      simp
    · rw [ih (by omega), h3 n (fun r => q r.symm)]; omega
theorem own_cnt_pos {P : Nat → Bool} {c : Nat} (h : P c = true) : ∀ n, c < n → 0 < own_cnt P n := by
  intro n
  induction n with
  | zero => intro q; omega
  | succ n ih =>
    intro q
    simp only [own_cnt]
    by_cases e : c = n
    · subst e; rw [h]; simp
    · have := ih (by omega); omega
theorem own_cnt_zero {P : Nat → Bool} : ∀ n, (∀ i, i < n → P i = false) → own_cnt P n = 0 := by
  intro n
  induction n with
  | zero => intro _; rfl
  | succ n ih => intro h; simp only [own_cnt]; rw [ih (fun i hi => h i (by omega)), h n (by omega)]; rfl
theorem own_neg1 {N : Nat} {O G W : Nat → Int32} (h : own_JJ N O G W) {f : Nat} (hf : f < N) : (O f < 0 ↔ O f = -1) := by
  rcases h.1 f hf with r | ⟨o, g, a1, a2, a3, a4, a5⟩
  · rw [r]; decide
  · rw [a3]; exact ⟨fun q => absurd q (N_neg (by omega)), fun q => absurd q (own_ne1 (by omega))⟩
theorem own_cfE {n N : Nat} (hn : 40 ≤ n) {s : St} (j1 : s.1 15 = Int32.ofNat N) (j3 : N ≤ 32) (h0 : own_JJ N (s.2 2) (s.2 3) (s.2 1)) : f_countFree n s = some (Int32.ofNat (own_cnt (fun f => decide (s.2 2 f = -1)) N)) := by
  obtain ⟨r, e1, e2⟩ := loopP (F := fun k i (c : Int32) => f_countFree_4 n s k c i) (N := N) (P := fun i c => c = Int32.ofNat (own_cnt (fun f => decide (s.2 2 f = -1)) i)) (Q := fun r => r = Int32.ofNat (own_cnt (fun f => decide (s.2 2 f = -1)) N))
    (fun k i c hi hp => Or.inl (by
      show ∃ s', f_countFree_4 n s (k + 1) c (Int32.ofNat i) = f_countFree_4 n s k s' (Int32.ofNat i + 1) ∧ _
      rw [u_countFree_4, j1, if_pos (ltN hi (by omega)), grd_pos (inbN (show i < 32 by omega) (by omega)), ix_N (by omega)]
      simp only [own_cnt]
      by_cases q : s.2 2 i = -1
      · rw [if_pos ((own_neg1 h0 hi).mpr q)]
        exact ⟨_, rfl, by rw [hp, N_succ]; simp [q]⟩
      · rw [if_neg (fun z => q ((own_neg1 h0 hi).mp z))]
        exact ⟨_, rfl, by rw [hp]; simp [q]⟩))
    (fun k c hp => ⟨c, by
      show f_countFree_4 n s (k + 1) c (Int32.ofNat N) = _
      rw [u_countFree_4, j1, if_neg (nltN (by omega))], hp⟩) N 0 n 0 (by omega) (by omega) rfl
  subst e2; exact e1
theorem own_bcE {n : Nat} (hn : 40 ≤ n) (s : St) {M : Nat} (hM : M < 256) : f_bitCount n s (Int32.ofNat M) = some (Int32.ofNat (own_cnt (fun g => M.testBit g) 8)) := by
  have tb : ∀ M, M < 256 → ∀ g, g < 8 → (Int32.ofNat M &&& ((1 : Int32) <<< (Int32.ofNat g &&& 31)) = 0 ↔ M.testBit g = false) := by decide +kernel
  obtain ⟨r, e1, e2⟩ := loopP (F := fun k i (c : Int32) => f_bitCount_4 n s k (Int32.ofNat M) c i) (N := 8) (P := fun i c => c = Int32.ofNat (own_cnt (fun g => M.testBit g) i)) (Q := fun r => r = Int32.ofNat (own_cnt (fun g => M.testBit g) 8))
    (fun k i c hi hp => Or.inl (by
      show ∃ s', f_bitCount_4 n s (k + 1) (Int32.ofNat M) c (Int32.ofNat i) = f_bitCount_4 n s k (Int32.ofNat M) s' (Int32.ofNat i + 1) ∧ _
      rw [u_bitCount_4, if_pos (ltZ (z := 8) 8 rfl hi (by omega))]
      simp only [own_cnt]
      by_cases q : M.testBit i = false
      · rw [if_pos ((tb M hM i hi).mpr q)]
        exact ⟨_, rfl, by rw [hp]; simp [q]⟩
      · rw [if_neg (fun z => q ((tb M hM i hi).mp z))]
        exact ⟨_, rfl, by rw [hp, N_succ]; simp at q; simp [q]⟩))
    (fun k c hp => ⟨c, by
      show f_bitCount_4 n s (k + 1) (Int32.ofNat M) c (Int32.ofNat 8) = _
      rw [u_bitCount_4, if_neg (by decide)], hp⟩) 8 0 n 0 (by omega) (by omega) rfl
  subst e2; exact e1
theorem own_lfE {n N : Nat} (hn : 40 ≤ n) {s : St} (j1 : s.1 15 = Int32.ofNat N) (j3 : N ≤ 32) (h0 : own_JJ N (s.2 2) (s.2 3) (s.2 1)) (hp : 0 < own_cnt (fun f => decide (s.2 2 f = -1)) N) : ∃ c, c < N ∧ s.2 2 c = -1 ∧ f_lowestFree n s = some (Int32.ofNat c) := by
  obtain ⟨r, e1, c, e2, e3, e4⟩ := loopP (F := fun k i (c : Unit) => f_lowestFree_2 n s k i) (N := N) (P := fun i _ => ∀ f, f < i → s.2 2 f ≠ -1) (Q := fun r => ∃ c, r = Int32.ofNat c ∧ c < N ∧ s.2 2 c = -1)
    (fun k i c hi hq => by
      show (∃ s' : Unit, f_lowestFree_2 n s (k + 1) (Int32.ofNat i) = f_lowestFree_2 n s k (Int32.ofNat i + 1) ∧ _) ∨ ∃ r, f_lowestFree_2 n s (k + 1) (Int32.ofNat i) = some r ∧ _
      rw [u_lowestFree_2, j1, if_pos (ltN hi (by omega)), grd_pos (inbN (show i < 32 by omega) (by omega)), ix_N (by omega)]
      by_cases q : s.2 2 i = -1
      · rw [if_pos ((own_neg1 h0 hi).mpr q)]
        exact Or.inr ⟨_, rfl, i, rfl, hi, q⟩
      · rw [if_neg (fun z => q ((own_neg1 h0 hi).mp z))]
        refine Or.inl ⟨(), rfl, fun f hf => ?_⟩
        by_cases e : f = i
        · rw [e]; exact q
        · exact hq f (by omega))
    (fun k c hq => by
      exfalso
      rw [own_cnt_zero N (fun i hi => by simp [hq i hi])] at hp
      omega) N 0 n () (by omega) (by omega) (fun f hf => by omega)
  subst e2; exact ⟨c, e3, e4, e1⟩
theorem own_orE : ∀ M, M < 256 → ∀ g, g < 8 → Int32.ofNat M ||| ((1 : Int32) <<< (Int32.ofNat g &&& 31)) = Int32.ofNat (M ||| 2 ^ g) ∧ M ||| 2 ^ g < 256 := by decide +kernel
theorem own_outJ {n N : Nat} (hn : 40 ≤ n) {s : St} (h : own_J N s) {p : Nat} (hp : p < 4) :
    ∃ s', f_doSwapOut n (Int32.ofNat p) s = some s' ∧ own_J N s' ∧ s'.1 = s.1 ∧ (∀ q, s'.2 9 q = if q = p then 1 else s.2 9 q) ∧ (∀ k, k = 10 ∨ k = 11 ∨ k = 13 ∨ k = 14 → s'.2 k = s.2 k) ∧
      (∀ g, g < 8 → s'.2 1 (p * 8 + g) = -1) ∧ (∀ x, (∀ g, g < 8 → x ≠ p * 8 + g) → s'.2 1 x = s.2 1 x ∧ s'.2 0 x = s.2 0 x) ∧ (∀ f, s.2 2 f ≠ Int32.ofNat p → ∀ k, 2 ≤ k → k ≤ 8 → s'.2 k f = s.2 k f) ∧
      (∀ f, f < N → s.2 2 f = Int32.ofNat p → s'.2 2 f = -1) ∧ (∃ M, M < 256 ∧ s'.2 12 p = Int32.ofNat M ∧ (∀ g, g < 8 → M.testBit g = decide (s.2 1 (p * 8 + g) ≠ -1)) ∧ own_cnt (fun g => M.testBit g) 8 ≤ own_cnt (fun f => decide (s'.2 2 f = -1)) N) ∧ (∀ q, q ≠ p → s'.2 12 q = s.2 12 q) ∧
      (∀ o g, o < 4 → g < 8 → own_L s' o g = own_L s o g) := by
  have h0 := h
  obtain ⟨j1, j2, j3, j4, j5, j6, j7, j8⟩ := h
  have bp : inb (Int32.ofNat p) 4 := inbN hp (by omega)
  obtain ⟨R, e1, t, eR, p1, p2, p3, p4, p5, p6, p7, p8, ⟨M, hM, m1, m2⟩, ⟨M2, hM2, n1, n2⟩, p10⟩ := loopP (F := fun k i t => f_doSwapOut_9 n k (Int32.ofNat p) i t) (N := N)
    (P := fun i t => t.1 = s.1 ∧ (∀ k, k = 9 ∨ k = 10 ∨ k = 11 ∨ k = 13 ∨ k = 14 → t.2 k = s.2 k) ∧ own_JJ N (t.2 2) (t.2 3) (t.2 1) ∧ (∀ f, f < N → (t.2 5 f = 0 ∨ t.2 5 f = 1) ∧ (t.2 6 f = 0 ∨ t.2 6 f = 1)) ∧
      own_DD N (t.2 2) (t.2 3) (t.2 4) (t.2 5) (t.2 0) ∧ (∀ f, (s.2 2 f ≠ Int32.ofNat p ∨ i ≤ f) → ∀ k, 2 ≤ k → k ≤ 8 → t.2 k f = s.2 k f) ∧ (∀ f, f < i → s.2 2 f = Int32.ofNat p → t.2 2 f = -1) ∧
      (∀ x, (∀ g, g < 8 → x ≠ p * 8 + g) → t.2 1 x = s.2 1 x ∧ t.2 0 x = s.2 0 x) ∧
      (∃ M, M < 256 ∧ t.2 12 p = Int32.ofNat M ∧ ∀ g, g < 8 → (t.2 1 (p * 8 + g) = s.2 1 (p * 8 + g) ∧ t.2 0 (p * 8 + g) = s.2 0 (p * 8 + g) ∧ M.testBit g = false) ∨ (t.2 1 (p * 8 + g) = -1 ∧ M.testBit g = true ∧ ∃ f, f < N ∧ s.2 1 (p * 8 + g) = Int32.ofNat f ∧ t.2 0 (p * 8 + g) = s.2 4 f)) ∧
      (∃ M, M < 256 ∧ t.2 12 p = Int32.ofNat M ∧ own_cnt (fun f => decide (t.2 2 f = -1)) N = own_cnt (fun f => decide (s.2 2 f = -1)) N + own_cnt (fun g => M.testBit g) 8) ∧
      (∀ q, q ≠ p → t.2 12 q = s.2 12 q))
    (Q := fun R => ∃ t : St, R = setA t 9 p 1 ∧ t.1 = s.1 ∧ (∀ k, k = 9 ∨ k = 10 ∨ k = 11 ∨ k = 13 ∨ k = 14 → t.2 k = s.2 k) ∧ own_JJ N (t.2 2) (t.2 3) (t.2 1) ∧ (∀ f, f < N → (t.2 5 f = 0 ∨ t.2 5 f = 1) ∧ (t.2 6 f = 0 ∨ t.2 6 f = 1)) ∧
      own_DD N (t.2 2) (t.2 3) (t.2 4) (t.2 5) (t.2 0) ∧ (∀ f, (s.2 2 f ≠ Int32.ofNat p ∨ N ≤ f) → ∀ k, 2 ≤ k → k ≤ 8 → t.2 k f = s.2 k f) ∧ (∀ f, f < N → s.2 2 f = Int32.ofNat p → t.2 2 f = -1) ∧
      (∀ x, (∀ g, g < 8 → x ≠ p * 8 + g) → t.2 1 x = s.2 1 x ∧ t.2 0 x = s.2 0 x) ∧
      (∃ M, M < 256 ∧ t.2 12 p = Int32.ofNat M ∧ ∀ g, g < 8 → (t.2 1 (p * 8 + g) = s.2 1 (p * 8 + g) ∧ t.2 0 (p * 8 + g) = s.2 0 (p * 8 + g) ∧ M.testBit g = false) ∨ (t.2 1 (p * 8 + g) = -1 ∧ M.testBit g = true ∧ ∃ f, f < N ∧ s.2 1 (p * 8 + g) = Int32.ofNat f ∧ t.2 0 (p * 8 + g) = s.2 4 f)) ∧
      (∃ M, M < 256 ∧ t.2 12 p = Int32.ofNat M ∧ own_cnt (fun f => decide (t.2 2 f = -1)) N = own_cnt (fun f => decide (s.2 2 f = -1)) N + own_cnt (fun g => M.testBit g) 8) ∧
      (∀ q, q ≠ p → t.2 12 q = s.2 12 q))
    (fun k i t hi hP => Or.inl (by
      obtain ⟨p1, p2, p3, p4, p5, p6, p7, p8, ⟨M, hM, m1, m2⟩, ⟨M2, hM2, n1, n2⟩, p10⟩ := hP
      have eM : M = M2 := by
        rw [m1, N_inj (by omega) (by omega)] at n1; exact n1
      subst eM
      show ∃ s', f_doSwapOut_9 n (k + 1) (Int32.ofNat p) (Int32.ofNat i) t = f_doSwapOut_9 n k (Int32.ofNat p) (Int32.ofNat i + 1) s' ∧ _
      have hb : inb (Int32.ofNat i) 32 := inbN (by omega) (by omega)
      have tO := p6 i (Or.inr (Nat.le_refl _)) 2 (by decide) (by decide)
      have tG := p6 i (Or.inr (Nat.le_refl _)) 3 (by decide) (by decide)
      have tV := p6 i (Or.inr (Nat.le_refl _)) 4 (by decide) (by decide)
      rw [u_doSwapOut_9, p1, j1, if_pos (ltN hi (by omega)), grd_pos hb, ix_N (by omega), tO]
      by_cases hO : s.2 2 i = Int32.ofNat p
      · rw [if_pos hO]
        obtain ⟨g, hg, a4, a5⟩ : ∃ g, g < 8 ∧ s.2 3 i = Int32.ofNat g ∧ s.2 1 (p * 8 + g) = Int32.ofNat i := by
          rcases j5.1 i hi with r | ⟨o, g, a1, a2, a3, a4, a5⟩
          · rw [hO] at r; exact absurd r (own_ne1 (by omega))
          · rw [hO, N_inj (by omega) (by omega)] at a3
            subst a3; exact ⟨g, a2, a4, a5⟩
        have bi : inb (Int32.ofNat (p * 8 + g)) 32 := inbN (by omega) (by omega)
        obtain ⟨o1, o2⟩ := own_orE M hM g hg
        obtain ⟨T, hT⟩ : ∃ T : St, T = setA (setA (setA (setA (setA (setA (setA (setA (setA (setA t 0 (p * 8 + g) (s.2 4 i)) 12 p (Int32.ofNat (M ||| 2 ^ g))) 1 (p * 8 + g) (-1)) 2 i (-1)) 3 i 0) 4 i 0) 5 i 0) 6 i 0) 7 i 0) 8 i 0 := ⟨_, rfl⟩
        have T2 : T.2 2 = fun x => if x = i then -1 else t.2 2 x := by rw [hT]; funext x; simp [setA_2]
        have T3 : T.2 3 = fun x => if x = i then 0 else t.2 3 x := by rw [hT]; funext x; simp [setA_2]
        have T1 : T.2 1 = fun x => if x = p * 8 + g then -1 else t.2 1 x := by rw [hT]; funext x; simp [setA_2]
        have T0 : T.2 0 = fun x => if x = p * 8 + g then s.2 4 i else t.2 0 x := by rw [hT]; funext x; simp [setA_2]
        have T5 : T.2 5 = fun x => if x = i then 0 else t.2 5 x := by rw [hT]; funext x; simp [setA_2]
        have T6 : T.2 6 = fun x => if x = i then 0 else t.2 6 x := by rw [hT]; funext x; simp [setA_2]
        have T12 : T.2 12 = fun x => if x = p then Int32.ofNat (M ||| 2 ^ g) else t.2 12 x := by rw [hT]; funext x; simp [setA_2]
        have Tf : ∀ f, f ≠ i → ∀ k, 2 ≤ k → k ≤ 8 → T.2 k f = t.2 k f := fun f hf k k1 k2 => by
          rw [hT]; simp only [setA_2]
          repeat rw [if_neg (by omega)]
        have Tk : ∀ k, k = 9 ∨ k = 10 ∨ k = 11 ∨ k = 13 ∨ k = 14 → T.2 k = t.2 k := fun k hk => by
          rw [hT]; funext x; simp only [setA_2]
          repeat rw [if_neg (by omega)]
        refine ⟨T, ?_, by rw [hT]; exact p1, fun k hk => (Tk k hk).trans (p2 k hk), ?_, fun f hf => ?_, ?_, fun f hf k k1 k2 => ?_, fun f hf e => ?_, fun x hx => ?_, ⟨M ||| 2 ^ g, o2, by rw [T12]; simp, fun g' hg' => ?_⟩, ⟨M ||| 2 ^ g, o2, by rw [T12]; simp, ?_⟩, fun q hq => by rw [T12]; simp only [hq, if_false]; exact p10 q hq⟩
        · rw [tG, a4, own_and7 g hg, own_idx, grd_pos bi, tV]
          simp only [bnd_eq, grd_pos bp, f_freeFrame, grd_pos hb, ix_N (show p * 8 + g < 2147483648 by omega), ix_N (show p < 2147483648 by omega), ix_N (show i < 2147483648 by omega), Option.bind_some]
          rw [own_sn (show (12 : Nat) ≠ 0 by decide), m1, o1, hT]
        · rw [T2, T3, T1]
          exact own_JJfree p3 j3 hi hp hg (tO.trans hO) (tG.trans a4) 0
        · rw [T5, T6]
          by_cases q : f = i
          · simp [q]
          · simp only [q, if_false]; exact p4 f hf
        · rw [T2, T3, T5, T0]
          intro f o' g' b1 b2 b3 b4 b5 b6
          by_cases q : f = i
          · simp only [q, if_true] at b4
            exact absurd b4.symm (own_ne1 (by omega))
          · simp only [q, if_false] at b4 b5 b6
            have ne : ¬ o' * 8 + g' = p * 8 + g := fun r => by
              have w1 := own_JJw p3 j3 b1 b2 b3 b4 b5
              have w2 := own_JJw p3 j3 hi hp hg (tO.trans hO) (tG.trans a4)
              rw [r, w2, N_inj (by omega) (by omega)] at w1
              exact q w1.symm
            simp only [ne, if_false]
            rw [Tf f q _ (by decide) (by decide)]
            exact p5 f o' g' b1 b2 b3 b4 b5 b6
        · have : f ≠ i := fun r => by
            subst r
            rcases hf with z | z
            · exact z hO
            · omega
          rw [Tf f this k k1 k2]
          refine p6 f ?_ k k1 k2
          rcases hf with z | z
          · exact Or.inl z
          · exact Or.inr (by omega)
        · rw [T2]
          by_cases q : f = i
          · simp [q]
          · simp only [q, if_false]; exact p7 f (by omega) e
        · rw [T1, T0]
          have := hx g hg
          simp only [this, if_false]; exact p8 x hx
        · rw [T1, T0]
          by_cases q : g' = g
          · subst q
            right
            refine ⟨by simp, ?_, i, hi, a5, by simp⟩
            rw [Nat.testBit_or, Nat.testBit_two_pow_self, Bool.or_true]
          · have ne : ¬ p * 8 + g' = p * 8 + g := by omega
            have tb : (M ||| 2 ^ g).testBit g' = M.testBit g' := by
              rw [Nat.testBit_or, Nat.testBit_two_pow_of_ne (fun r => q r.symm), Bool.or_false]
            simp only [ne, if_false, tb]; exact m2 g' hg'
        · have bg : M.testBit g = false := by
            rcases m2 g hg with ⟨-, -, z⟩ | ⟨z, -⟩
            · exact z
            · rw [own_JJw p3 j3 hi hp hg (tO.trans hO) (tG.trans a4)] at z
              exact absurd z (own_ne1 (by omega))
          have d1 := own_cnt_drop (P := fun f => decide (T.2 2 f = -1)) (Q := fun f => decide (t.2 2 f = -1)) (c := i) (by rw [T2]; simp) (by rw [tO, hO]; simp [own_ne1 (show p < 2147483648 by omega)]) (fun z hz => by rw [T2]; simp [hz]) N hi
          have d2 := own_cnt_drop (P := fun z => (M ||| 2 ^ g).testBit z) (Q := fun z => M.testBit z) (c := g) (by rw [Nat.testBit_or, Nat.testBit_two_pow_self, Bool.or_true]) bg (fun z hz => by rw [Nat.testBit_or, Nat.testBit_two_pow_of_ne (fun r => hz r.symm), Bool.or_false]) 8 hg
          omega
      · rw [if_neg hO]
        refine ⟨t, rfl, p1, p2, p3, p4, p5, fun f hf => p6 f ?_, fun f hf e => ?_, p8, ⟨M, hM, m1, m2⟩, ⟨M, hM, m1, n2⟩, p10⟩
        · rcases hf with z | z
          · exact Or.inl z
          · exact Or.inr (by omega)
        · by_cases q : f = i
          · rw [q] at e; exact absurd e hO
          · exact p7 f (by omega) e))
    (fun k t hP => by
      obtain ⟨p1, p2, p3, p4, p5, p6, p7, p8, m, m', p10⟩ := hP
      show ∃ R, f_doSwapOut_9 n (k + 1) (Int32.ofNat p) (Int32.ofNat N) t = some R ∧ _
      rw [u_doSwapOut_9, p1, j1, if_neg (nltN (by omega)), grd_pos bp, bnd_eq, ix_N (by omega)]
      exact ⟨_, rfl, t, rfl, p1, p2, p3, p4, p5, p6, p7, p8, m, m', p10⟩) N 0 n (setA s 12 p 0) (by omega) (by omega)
    ⟨rfl, fun k hk => own_sn (by omega) _ _ _, by rw [own_sn (by decide), own_sn (by decide), own_sn (by decide)]; exact j5, fun f hf => by rw [own_sn (by decide), own_sn (by decide)]; exact j6 f hf,
      by rw [own_sn (by decide), own_sn (by decide), own_sn (by decide), own_sn (by decide), own_sn (by decide)]; exact j7, fun f _ k k1 k2 => by rw [own_sn (by omega)], fun f hf => by omega, fun x _ => ⟨by rw [own_sn (by decide)], by rw [own_sn (by decide)]⟩,
      ⟨0, by omega, by rw [own_sa]; simp, fun g hg => Or.inl ⟨by rw [own_sn (by decide)], by rw [own_sn (by decide)], Nat.zero_testBit g⟩⟩,
      ⟨0, by omega, by rw [own_sa]; simp, by rw [own_sn (by decide), own_cnt_zero 8 (fun g _ => Nat.zero_testBit g)]; rfl⟩, fun q hq => by rw [own_sa]; simp [hq]⟩
  have allN : ∀ g, g < 8 → t.2 1 (p * 8 + g) = -1 := fun g hg => by
    rcases p3.2 p g hp hg with r | ⟨f, b1, b2, b3, b4⟩
    · exact r
    · exfalso
      by_cases q : s.2 2 f = Int32.ofNat p
      · rw [p7 f b1 q] at b3; exact own_ne1 (by omega) b3.symm
      · rw [p6 f (Or.inl q) _ (by decide) (by decide)] at b3; exact q b3
  subst eR
  refine ⟨setA t 9 p 1, ?_, ⟨by rw [setA_1, p1]; exact j1, j2, j3, by rw [setA_1, p1]; exact j4, ?_, fun f hf => ?_, ?_, fun q hq => ?_⟩, p1, fun q => ?_, fun k hk => ?_, fun g hg => ?_, fun x hx => ?_, fun f hf k k1 k2 => ?_, fun f hf e => ?_, ⟨M, hM, ?_, fun g hg => ?_, ?_⟩, fun q hq => ?_, fun o g ho hg => ?_⟩
  · unfold f_doSwapOut
    rw [grd_pos bp, bnd_eq, ix_N (by omega)]
    exact e1
  · rw [own_sn (by decide), own_sn (by decide), own_sn (by decide)]; exact p3
  · rw [own_sn (by decide), own_sn (by decide)]; exact p4 f hf
  · rw [own_sn (by decide), own_sn (by decide), own_sn (by decide), own_sn (by decide), own_sn (by decide)]; exact p5
  · rw [own_sa, own_sn (show (1 : Nat) ≠ 9 by decide), p2 9 (by omega)]
    by_cases z : q = p
    · subst z
      exact ⟨Or.inr (by simp), fun _ => allN⟩
    · simp only [z, if_false]
      refine ⟨(j8 q hq).1, fun e g hg => ?_⟩
      rw [(p8 _ (fun g' hg' => by omega)).1]
      exact (j8 q hq).2 e g hg
  · rw [own_sa, p2 9 (by omega)]
  · rw [own_sn (by omega), p2 k (by omega)]
  · rw [own_sn (by decide)]; exact allN g hg
  · rw [own_sn (by decide), own_sn (by decide)]; exact p8 x hx
  · rw [own_sn (by omega)]; exact p6 f (Or.inl hf) k k1 k2
  · rw [own_sn (by decide)]; exact p7 f hf e
  · rw [own_sn (by decide)]; exact m1
  · rcases m2 g hg with ⟨z1, -, z3⟩ | ⟨z1, z2, f, z3, z4, z5⟩
    · rw [z3, ← z1, allN g hg]; simp
    · rw [z2, z4]; simp [own_ne1 (show f < 2147483648 by omega)]
  · have eM : M = M2 := by
      rw [m1, N_inj (by omega) (by omega)] at n1; exact n1
    subst eM
    rw [own_sn (by decide)]; omega
  · rw [own_sn (by decide)]; exact p10 q hq
  · unfold own_L
    rw [own_sn (show (1 : Nat) ≠ 9 by decide), own_sn (show (0 : Nat) ≠ 9 by decide), own_sn (show (4 : Nat) ≠ 9 by decide)]
    by_cases q : o = p
    · subst q
      rw [allN g hg, if_pos rfl]
      rcases m2 g hg with ⟨z1, z2, z3⟩ | ⟨z1, z2, f, z3, z4, z5⟩
      · rw [← z1, allN g hg, if_pos rfl, z2]
      · rw [z4, if_neg (own_ne1 (by omega)), ix_N (by omega), z5]
    · obtain ⟨z1, z2⟩ := p8 (o * 8 + g) (fun g' hg' => by omega)
      rw [z1, z2]
      rcases j5.2 o g ho hg with r | ⟨f, b1, b2, b3, b4⟩
      · rw [r, if_pos rfl, if_pos rfl]
      · rw [b2, if_neg (own_ne1 (by omega)), if_neg (own_ne1 (by omega)), ix_N (by omega)]
        exact p6 f (Or.inl (fun z => by rw [b3, N_inj (by omega) (by omega)] at z; exact q z)) _ (by decide) (by decide)
theorem own_cnt_mono (P : Nat → Bool) : ∀ b a, a ≤ b → own_cnt P a ≤ own_cnt P b := by
  intro b
  induction b with
  | zero => intro a h; have : a = 0 := by omega
            subst this; exact Nat.le_refl _
  | succ b ih =>
    intro a h
    by_cases q : a = b + 1
    · subst q; exact Nat.le_refl _
    · have := ih a (by omega)
      simp only [own_cnt]; omega
theorem own_inJ {n N : Nat} (hn : 40 ≤ n) {s : St} (h : own_J N s) {p M : Nat} (hp : p < 4) (hM : M < 256) (hsv : s.2 12 p = Int32.ofNat M) (hs : s.2 9 p = 1) (hfree : own_cnt (fun g => M.testBit g) 8 ≤ own_cnt (fun f => decide (s.2 2 f = -1)) N) :
    ∃ s', f_doSwapIn n (Int32.ofNat p) s = some s' ∧ own_J N s' ∧ s'.1 = s.1 ∧ (∀ q, s'.2 9 q = if q = p then 0 else s.2 9 q) ∧ (∀ q, s'.2 12 q = if q = p then 0 else s.2 12 q) ∧ (∀ k, k = 0 ∨ k = 10 ∨ k = 11 ∨ k = 13 ∨ k = 14 → s'.2 k = s.2 k) ∧
      (∀ x, (∀ g, g < 8 → x ≠ p * 8 + g) → s'.2 1 x = s.2 1 x) ∧ (∀ f, s.2 2 f ≠ -1 → ∀ k, 2 ≤ k → k ≤ 8 → s'.2 k f = s.2 k f) ∧
      (∀ g, g < 8 → if M.testBit g = true then ∃ f, f < N ∧ s'.2 1 (p * 8 + g) = Int32.ofNat f ∧ s'.2 2 f = Int32.ofNat p ∧ s'.2 3 f = Int32.ofNat g ∧ s'.2 4 f = s.2 0 (p * 8 + g) ∧ s'.2 5 f = 0 ∧ s'.2 6 f = 0 ∧ s'.2 7 f = s.2 10 p ∧ s'.2 8 f = 0 else s'.2 1 (p * 8 + g) = -1) ∧
      (∀ o g, o < 4 → g < 8 → own_L s' o g = own_L s o g) := by
  have h0 := h
  obtain ⟨j1, j2, j3, j4, j5, j6, j7, j8⟩ := h
  have bp : inb (Int32.ofNat p) 4 := inbN hp (by omega)
  have tb : ∀ M, M < 256 → ∀ g, g < 8 → (Int32.ofNat M &&& ((1 : Int32) <<< (Int32.ofNat g &&& 31)) = 0 ↔ M.testBit g = false) := by decide +kernel
  obtain ⟨R, e1, t, eR, p1, p2, p3, p4, p5, p6, p7, p8⟩ := loopP (F := fun k i t => f_doSwapIn_2 n k (Int32.ofNat p) i t) (N := 8)
    (P := fun v t => t.1 = s.1 ∧ (∀ k, k = 0 ∨ k = 9 ∨ k = 12 ∨ k = 10 ∨ k = 11 ∨ k = 13 ∨ k = 14 → t.2 k = s.2 k) ∧ own_JJ N (t.2 2) (t.2 3) (t.2 1) ∧ (∀ f, f < N → (t.2 5 f = 0 ∨ t.2 5 f = 1) ∧ (t.2 6 f = 0 ∨ t.2 6 f = 1)) ∧
      own_DD N (t.2 2) (t.2 3) (t.2 4) (t.2 5) (s.2 0) ∧ (∀ f, s.2 2 f ≠ -1 → ∀ k, 2 ≤ k → k ≤ 8 → t.2 k f = s.2 k f) ∧ (∀ x, (∀ g, g < 8 → x ≠ p * 8 + g) → t.2 1 x = s.2 1 x) ∧
      (∀ g, g < 8 → if g < v ∧ M.testBit g = true then ∃ f, f < N ∧ t.2 1 (p * 8 + g) = Int32.ofNat f ∧ t.2 2 f = Int32.ofNat p ∧ t.2 3 f = Int32.ofNat g ∧ t.2 4 f = s.2 0 (p * 8 + g) ∧ t.2 5 f = 0 ∧ t.2 6 f = 0 ∧ t.2 7 f = s.2 10 p ∧ t.2 8 f = 0 else t.2 1 (p * 8 + g) = -1) ∧
      own_cnt (fun f => decide (t.2 2 f = -1)) N + own_cnt (fun g => M.testBit g) v = own_cnt (fun f => decide (s.2 2 f = -1)) N)
    (Q := fun R => ∃ t : St, R = setA (setA t 12 p 0) 9 p 0 ∧ t.1 = s.1 ∧ (∀ k, k = 0 ∨ k = 9 ∨ k = 12 ∨ k = 10 ∨ k = 11 ∨ k = 13 ∨ k = 14 → t.2 k = s.2 k) ∧ own_JJ N (t.2 2) (t.2 3) (t.2 1) ∧ (∀ f, f < N → (t.2 5 f = 0 ∨ t.2 5 f = 1) ∧ (t.2 6 f = 0 ∨ t.2 6 f = 1)) ∧
      own_DD N (t.2 2) (t.2 3) (t.2 4) (t.2 5) (s.2 0) ∧ (∀ f, s.2 2 f ≠ -1 → ∀ k, 2 ≤ k → k ≤ 8 → t.2 k f = s.2 k f) ∧ (∀ x, (∀ g, g < 8 → x ≠ p * 8 + g) → t.2 1 x = s.2 1 x) ∧
      (∀ g, g < 8 → if g < 8 ∧ M.testBit g = true then ∃ f, f < N ∧ t.2 1 (p * 8 + g) = Int32.ofNat f ∧ t.2 2 f = Int32.ofNat p ∧ t.2 3 f = Int32.ofNat g ∧ t.2 4 f = s.2 0 (p * 8 + g) ∧ t.2 5 f = 0 ∧ t.2 6 f = 0 ∧ t.2 7 f = s.2 10 p ∧ t.2 8 f = 0 else t.2 1 (p * 8 + g) = -1))
    (fun k v t hv hP => Or.inl (by
      obtain ⟨p1, p2, p3, p4, p5, p6, p7, p8, p9⟩ := hP
      show ∃ s', f_doSwapIn_2 n (k + 1) (Int32.ofNat p) (Int32.ofNat v) t = f_doSwapIn_2 n k (Int32.ofNat p) (Int32.ofNat v + 1) s' ∧ _
      rw [u_doSwapIn_2, if_pos (ltZ (z := 8) 8 rfl hv (by omega)), grd_pos bp, ix_N (by omega), p2 12 (by omega), hsv]
      by_cases hbit : M.testBit v = false
      · rw [if_pos ((tb M hM v hv).mpr hbit)]
        refine ⟨t, rfl, p1, p2, p3, p4, p5, p6, p7, fun g hg => ?_, ?_⟩
        · have := p8 g hg
          by_cases q : g = v
          · subst q
            rw [if_neg (fun z => by omega)] at this
            rw [if_neg (fun z => by rw [hbit] at z; exact absurd z.2 (by decide))]; exact this
          · have e : (g < v + 1 ∧ M.testBit g = true) ↔ (g < v ∧ M.testBit g = true) := ⟨fun z => ⟨by omega, z.2⟩, fun z => ⟨by omega, z.2⟩⟩
            simp only [e]; exact this
        · simp only [own_cnt, hbit]; simpa using p9
      · rw [if_neg (fun z => hbit ((tb M hM v hv).mp z))]
        have hbit' : M.testBit v = true := by simpa using hbit
        have bs : own_cnt (fun g => M.testBit g) (v + 1) = own_cnt (fun g => M.testBit g) v + 1 := by simp [own_cnt, hbit']
        have mono := own_cnt_mono (fun g => M.testBit g) 8 (v + 1) (by omega)
        obtain ⟨c, hc, cO, ec⟩ := own_lfE hn (s := t) (N := N) (by rw [p1]; exact j1) j3 p3 (by omega)
        have hb : inb (Int32.ofNat c) 32 := inbN (by omega) (by omega)
        have bi : inb (Int32.ofNat (p * 8 + v)) 32 := inbN (by omega) (by omega)
        have wv : t.2 1 (p * 8 + v) = -1 := by
          have := p8 v hv
          rwa [if_neg (fun z => by omega)] at this
        obtain ⟨T, hT⟩ : ∃ T : St, T = setA (setA (setA (setA (setA (setA (setA (setA t 2 c (Int32.ofNat p)) 3 c (Int32.ofNat v)) 1 (p * 8 + v) (Int32.ofNat c)) 4 c (s.2 0 (p * 8 + v))) 5 c 0) 6 c 0) 8 c 0) 7 c (s.2 10 p) := ⟨_, rfl⟩
        have T2 : T.2 2 = fun x => if x = c then Int32.ofNat p else t.2 2 x := by rw [hT]; funext x; simp [setA_2]
        have T3 : T.2 3 = fun x => if x = c then Int32.ofNat v else t.2 3 x := by rw [hT]; funext x; simp [setA_2]
        have T1 : T.2 1 = fun x => if x = p * 8 + v then Int32.ofNat c else t.2 1 x := by rw [hT]; funext x; simp [setA_2]
        have T4 : T.2 4 = fun x => if x = c then s.2 0 (p * 8 + v) else t.2 4 x := by rw [hT]; funext x; simp [setA_2]
        have T5 : T.2 5 = fun x => if x = c then 0 else t.2 5 x := by rw [hT]; funext x; simp [setA_2]
        have T6 : T.2 6 = fun x => if x = c then 0 else t.2 6 x := by rw [hT]; funext x; simp [setA_2]
        have T7 : T.2 7 = fun x => if x = c then s.2 10 p else t.2 7 x := by rw [hT]; funext x; simp [setA_2]
        have T8 : T.2 8 = fun x => if x = c then 0 else t.2 8 x := by rw [hT]; funext x; simp [setA_2]
        have Tf : ∀ f, f ≠ c → ∀ k, 2 ≤ k → k ≤ 8 → T.2 k f = t.2 k f := fun f hf k k1 k2 => by
          rw [hT]; simp only [setA_2]
          repeat rw [if_neg (by omega)]
        have Tk : ∀ k, k = 0 ∨ k = 9 ∨ k = 12 ∨ k = 10 ∨ k = 11 ∨ k = 13 ∨ k = 14 → T.2 k = t.2 k := fun k hk => by
          rw [hT]; funext x; simp only [setA_2]
          repeat rw [if_neg (by omega)]
        refine ⟨T, ?_, by rw [hT]; exact p1, fun k hk => (Tk k hk).trans (p2 k hk), ?_, fun f hf => ?_, ?_, fun f hf k k1 k2 => ?_, fun x hx => ?_, fun g hg => ?_, ?_⟩
        · rw [ec]
          simp only [Option.bind_some]
          rw [if_neg (N_neg (by omega)), grd_pos hb]
          simp only [bnd_eq, own_idx, grd_pos bi, ix_N (show c < 2147483648 by omega), ix_N (show p * 8 + v < 2147483648 by omega), ix_N (show p < 2147483648 by omega)]
          rw [own_sn (show (0 : Nat) ≠ 1 by decide), own_sn (show (0 : Nat) ≠ 3 by decide), own_sn (show (0 : Nat) ≠ 2 by decide), p2 0 (by omega), own_sn (show (10 : Nat) ≠ 8 by decide), own_sn (show (10 : Nat) ≠ 6 by decide), own_sn (show (10 : Nat) ≠ 5 by decide), own_sn (show (10 : Nat) ≠ 4 by decide),
            own_sn (show (10 : Nat) ≠ 1 by decide), own_sn (show (10 : Nat) ≠ 3 by decide), own_sn (show (10 : Nat) ≠ 2 by decide), p2 10 (by omega), hT]
        · rw [T2, T3, T1]
          exact own_JJload p3 j3 hc hp hv cO wv
        · rw [T5, T6]
          by_cases q : f = c
          · simp [q]
          · simp only [q, if_false]; exact p4 f hf
        · rw [T2, T3, T4, T5]
          intro f o' g' b1 b2 b3 b4 b5 b6
          by_cases q : f = c
          · simp only [q, if_true] at b4 b5 ⊢
            rw [N_inj (by omega) (by omega)] at b4 b5
            subst b4; subst b5; rfl
          · simp only [q, if_false] at b4 b5 b6 ⊢
            exact p5 f o' g' b1 b2 b3 b4 b5 b6
        · have : f ≠ c := fun r => by
            subst r
            have := p6 f hf 2 (by decide) (by decide)
            rw [cO] at this; exact hf this.symm
          rw [Tf f this k k1 k2]; exact p6 f hf k k1 k2
        · rw [T1]
          have := hx v hv
          simp only [this, if_false]; exact p7 x hx
        · by_cases q : g = v
          · subst q
            rw [if_pos ⟨by omega, hbit'⟩]
            exact ⟨c, hc, by rw [T1]; simp, by rw [T2]; simp, by rw [T3]; simp, by rw [T4]; simp, by rw [T5]; simp, by rw [T6]; simp, by rw [T7]; simp, by rw [T8]; simp⟩
          · have e : (g < v + 1 ∧ M.testBit g = true) ↔ (g < v ∧ M.testBit g = true) := ⟨fun z => ⟨by omega, z.2⟩, fun z => ⟨by omega, z.2⟩⟩
            have ne : ¬ p * 8 + g = p * 8 + v := by omega
            simp only [e]
            have := p8 g hg
            by_cases q2 : g < v ∧ M.testBit g = true
            · rw [if_pos q2] at this ⊢
              obtain ⟨f, f1, f2, f3, f4, f5, f6, f7, f8, f9⟩ := this
              have fc : f ≠ c := fun r => by
                subst r; rw [cO] at f3; exact own_ne1 (by omega) f3.symm
              refine ⟨f, f1, by rw [T1]; simp only [ne, if_false]; exact f2, ?_, ?_, ?_, ?_, ?_, ?_, ?_⟩
              · rw [Tf f fc _ (by decide) (by decide)]; exact f3
              · rw [Tf f fc _ (by decide) (by decide)]; exact f4
              · rw [Tf f fc _ (by decide) (by decide)]; exact f5
              · rw [Tf f fc _ (by decide) (by decide)]; exact f6
              · rw [Tf f fc _ (by decide) (by decide)]; exact f7
              · rw [Tf f fc _ (by decide) (by decide)]; exact f8
              · rw [Tf f fc _ (by decide) (by decide)]; exact f9
            · rw [if_neg q2] at this ⊢
              rw [T1]; simp only [ne, if_false]; exact this
        · have d := own_cnt_drop (P := fun f => decide (t.2 2 f = -1)) (Q := fun f => decide (T.2 2 f = -1)) (c := c) (by simp [cO]) (by rw [T2]; simp [own_ne1 (show p < 2147483648 by omega)]) (fun i hi => by rw [T2]; simp [hi]) N hc
          omega))
    (fun k t hP => by
      obtain ⟨p1, p2, p3, p4, p5, p6, p7, p8, p9⟩ := hP
      show ∃ R, f_doSwapIn_2 n (k + 1) (Int32.ofNat p) (Int32.ofNat 8) t = some R ∧ _
      rw [u_doSwapIn_2, if_neg (by decide), grd_pos bp]
      simp only [bnd_eq, ix_N (show p < 2147483648 by omega)]
      exact ⟨_, rfl, t, rfl, p1, p2, p3, p4, p5, p6, p7, p8⟩) 8 0 n s (by omega) (by omega)
    ⟨rfl, fun _ _ => rfl, j5, j6, j7, fun _ _ _ _ _ => rfl, fun _ _ => rfl, fun g hg => by rw [if_neg (fun z => by omega)]; exact (j8 p hp).2 hs g hg, by simp [own_cnt]⟩
  subst eR
  have Rk : ∀ k, k ≠ 12 → k ≠ 9 → (setA (setA t 12 p 0) 9 p 0).2 k = t.2 k := fun k a b => by rw [own_sn b, own_sn a]
  have sw : ∀ g, g < 8 → s.2 1 (p * 8 + g) = -1 := (j8 p hp).2 hs
  refine ⟨setA (setA t 12 p 0) 9 p 0, e1, ⟨by rw [setA_1, setA_1, p1]; exact j1, j2, j3, by rw [setA_1, setA_1, p1]; exact j4, ?_, fun f hf => ?_, ?_, fun q hq => ?_⟩, p1, fun q => ?_, fun q => ?_, fun k hk => ?_, fun x hx => ?_, fun f hf k k1 k2 => ?_, fun g hg => ?_, fun o g ho hg => ?_⟩
  · rw [Rk _ (by decide) (by decide), Rk _ (by decide) (by decide), Rk _ (by decide) (by decide)]; exact p3
  · rw [Rk _ (by decide) (by decide), Rk _ (by decide) (by decide)]; exact p4 f hf
  · rw [Rk 2 (by decide) (by decide), Rk 3 (by decide) (by decide), Rk 4 (by decide) (by decide), Rk 5 (by decide) (by decide), Rk 0 (by decide) (by decide), p2 0 (by omega)]; exact p5
  · rw [own_sa, own_sn (show (9 : Nat) ≠ 12 by decide), p2 9 (by omega), Rk 1 (by decide) (by decide)]
    by_cases z : q = p
    · simp [z]
    · simp only [z, if_false]
      refine ⟨(j8 q hq).1, fun e g hg => ?_⟩
      rw [p7 _ (fun g' hg' => by omega)]
      exact (j8 q hq).2 e g hg
  · rw [own_sa, own_sn (show (9 : Nat) ≠ 12 by decide), p2 9 (by omega)]
  · rw [own_sn (show (12 : Nat) ≠ 9 by decide), own_sa, p2 12 (by omega)]
  · rw [Rk k (by omega) (by omega), p2 k (by omega)]
  · rw [Rk _ (by decide) (by decide)]; exact p7 x hx
  · rw [Rk k (by omega) (by omega)]; exact p6 f hf k k1 k2
  · have := p8 g hg
    by_cases q : M.testBit g = true
    · rw [if_pos ⟨hg, q⟩] at this
      rw [if_pos q]
      rw [Rk 1 (by decide) (by decide), Rk 2 (by decide) (by decide), Rk 3 (by decide) (by decide), Rk 4 (by decide) (by decide), Rk 5 (by decide) (by decide), Rk 6 (by decide) (by decide), Rk 7 (by decide) (by decide), Rk 8 (by decide) (by decide)]
      exact this
    · rw [if_neg (fun z => q z.2)] at this
      rw [if_neg q, Rk 1 (by decide) (by decide)]; exact this
  · unfold own_L
    rw [Rk 1 (by decide) (by decide), Rk 0 (by decide) (by decide), Rk 4 (by decide) (by decide), p2 0 (by omega)]
    by_cases q : o = p
    · subst q
      rw [sw g hg, if_pos rfl]
      have := p8 g hg
      by_cases q2 : M.testBit g = true
      · rw [if_pos ⟨hg, q2⟩] at this
        obtain ⟨f, f1, f2, f3, f4, f5, -⟩ := this
        rw [f2, if_neg (own_ne1 (by omega)), ix_N (by omega), f5]
      · rw [if_neg (fun z => q2 z.2)] at this
        rw [this, if_pos rfl]
    · rw [p7 (o * 8 + g) (fun g' hg' => by omega)]
      rcases j5.2 o g ho hg with r | ⟨f, b1, b2, b3, b4⟩
      · rw [r, if_pos rfl, if_pos rfl]
      · rw [b2, if_neg (own_ne1 (by omega)), if_neg (own_ne1 (by omega)), ix_N (by omega)]
        exact p6 f (by rw [b3]; exact own_ne1 (by omega)) _ (by decide) (by decide)

theorem own_cmp (a : Int64) : XT.cmpL a a = 0 := by
  unfold XT.cmpL
  rw [if_neg (Int64.lt_irrefl), if_pos (by trivial)]
theorem own_64 {a : Nat} (h : a < 2147483648) : (Int32.ofNat a).toInt64 = Int64.ofNat a := by
  rw [← Int64.toInt_inj, Int32.toInt_toInt64, N_toInt h, Int64.toInt_ofNat_of_lt (by omega)]
theorem own_64a (a b : Nat) : Int64.ofNat a + Int64.ofNat b = Int64.ofNat (a + b) := (Int64.ofNat_add a b).symm
theorem own_64s (a : Nat) : Int64.ofNat a + 1 = Int64.ofNat (a + 1) := (Int64.ofNat_add a 1).symm
theorem own_piE (s : St) {q : Nat} (hq : q < 4) : f_procInfo s (Int32.ofNat q) 0 = some (s.2 10 q) ∧ f_procInfo s (Int32.ofNat q) 1 = some (s.2 11 q) ∧ f_procInfo s (Int32.ofNat q) 2 = some (if s.2 9 q = 0 then 0 else 1) ∧ f_procInfo s (Int32.ofNat q) 3 = some (s.2 12 q) ∧
    f_procInfo s (Int32.ofNat q) 4 = some (s.2 13 q) ∧ f_procInfo s (Int32.ofNat q) 5 = some (s.2 14 q) := by
  have hb : inb (Int32.ofNat q) 4 := inbN hq (by omega)
  have n0 := N_neg (i := q) (by omega)
  have n3 := own_o3 hq
  have i := ix_N (i := q) (by omega)
  refine ⟨?_, ?_, ?_, ?_, ?_, ?_⟩
  · simp [f_procInfo, n0, n3, grd_pos hb, i]
  · simp [f_procInfo, n0, n3, grd_pos hb, i]
  · by_cases z : s.2 9 q = 0 <;> simp [f_procInfo, n0, n3, grd_pos hb, i, z]
  · simp [f_procInfo, n0, n3, grd_pos hb, i]
  · simp [f_procInfo, n0, n3, grd_pos hb, i]
  · simp [f_procInfo, n0, n3, grd_pos hb, i]
theorem own_foE (s : St) {o g : Nat} (ho : o < 4) (hg : g < 8) : f_frameOf s (Int32.ofNat o) (Int32.ofNat g) = some (s.2 1 (o * 8 + g)) := by
  unfold f_frameOf
  rw [if_neg (N_neg (by omega)), if_neg (own_o3 ho), if_neg (N_neg (by omega)), if_neg (own_g7 hg), own_idx, grd_pos (inbN (show o * 8 + g < 32 by omega) (by omega)), ix_N (by omega)]
theorem own_wneg {N : Nat} {s : St} (h : own_J N s) {o g : Nat} (ho : o < 4) (hg : g < 8) : (s.2 1 (o * 8 + g) < 0 ↔ s.2 1 (o * 8 + g) = -1) := by
  obtain ⟨j1, j2, j3, j4, j5, j6, j7, j8⟩ := h
  rcases j5.2 o g ho hg with r | ⟨f, b1, b2, b3, b4⟩
  · rw [r]; decide
  · rw [b2]; exact ⟨fun q => absurd q (N_neg (by omega)), fun q => absurd q (own_ne1 (by omega))⟩
theorem own_JI {N : Nat} {s : St} (h : own_J N s) (k : Nat) (v : Int32) (h1 : k ≠ 15) (h2 : k ≠ 20) : own_J N (setI s k v) := by
  obtain ⟨j1, j2, j3, j4, j5, j6, j7, j8⟩ := h
  refine ⟨?_, j2, j3, ?_, j5, j6, j7, j8⟩
  · rw [setI_1, if_neg (fun q => h1 q.symm)]; exact j1
  · obtain ⟨H, a, b⟩ := j4
    exact ⟨H, a, by rw [setI_1, if_neg (fun q => h2 q.symm)]; exact b⟩
theorem own_rd {n : Nat} {a b st : Int32} {s s' : St} (e : f_access n a b 0 0 s = some (st, s')) (hi : st = 1 ∨ st = 2 → inb (s'.1 21) 32) : ∃ r, f_read n a b s = some (r, setI s' 22 st) ∧ (st ≠ 1 → st ≠ 2 → r = 0) := by
  unfold f_read
  rw [e]
  simp only [Option.bind_some, bnd_eq]
  by_cases q : st = 1
  · rw [if_pos q]
    unfold f_read_24
    rw [grd_pos (show inb ((setI s' 22 st).1 21) 32 from hi (Or.inl q))]
    exact ⟨_, rfl, fun z => absurd q z⟩
  · rw [if_neg q]
    by_cases q2 : st = 2
    · rw [if_pos q2]
      unfold f_read_24
      rw [grd_pos (show inb ((setI s' 22 st).1 21) 32 from hi (Or.inr q2))]
      exact ⟨_, rfl, fun _ z => absurd q2 z⟩
    · rw [if_neg q2]
      exact ⟨_, rfl, fun _ _ => rfl⟩
theorem own_wr {n : Nat} {a b st x : Int32} {s s' : St} (e : f_access n a b 1 x s = some (st, s')) : f_write n a b x s = some (st, setI s' 22 st) := by
  unfold f_write
  rw [e]
  simp only [Option.bind_some, bnd_eq]
theorem own_121 {n : Nat} (hn : 40 ≤ n) (x : Int32) (s : St) : ∃ s', f_control_121 n n x 0 s = some (x, s') ∧ s'.1 = s.1 ∧ (∀ k, k ≠ 13 → k ≠ 14 → s'.2 k = s.2 k) ∧ ∀ q, q < 4 → s'.2 13 q = 0 ∧ s'.2 14 q = 0 := by
  have q := loopN (F := fun k i s => f_control_121 n k x i s) (N := 4) (f := fun i s => setA (setA s 13 i 0) 14 i 0) (fin := fun s => some (x, s))
    (fun k i s hi => by
      show f_control_121 n (k + 1) x (Int32.ofNat i) s = f_control_121 n k x (Int32.ofNat i + 1) _
      rw [u_control_121, if_pos (ltZ (z := 4) 4 rfl hi (by omega)), grd_pos (inbN (n := 4) hi (by omega)), bnd_eq, bnd_eq, ix_N (by omega)])
    (fun k s => by
      show f_control_121 n (k + 1) x (Int32.ofNat 4) s = _
      rw [u_control_121, if_neg (by decide)]) 4 0 n s (by omega) (by omega)
  rw [itr_pt (f := fun i s => setA (setA s 13 i 0) 14 i 0) (u := fun j v => if j = 13 ∨ j = 14 then 0 else v) (fun _ _ => rfl) (fun i s j y => by
    simp only [setA_2]
    by_cases e : y = i
    · by_cases e1 : j = 13
      · simp [e, e1]
      · by_cases e2 : j = 14
        · simp [e, e2]
        · simp [e1, e2]
    · simp [e])] at q
  refine ⟨_, q, rfl, fun k h1 h2 => ?_, fun z hz => ?_⟩
  · funext y
    show (if 0 ≤ y ∧ y < 0 + 4 then (if k = 13 ∨ k = 14 then 0 else s.2 k y) else s.2 k y) = s.2 k y
    have : ¬ (k = 13 ∨ k = 14) := fun r => r.elim h1 h2
    simp [this]
  · have : 0 ≤ z ∧ z < 0 + 4 := by omega
    simp [this]

theorem own_M (p b n : Nat) : (BitVec.ofNat 64 (2 ^ b - 1) <<< p).getLsbD n = (decide (n < 64) && (decide (p ≤ n) && decide (n < p + b))) := by
  rw [BitVec.getLsbD_shiftLeft, BitVec.getLsbD_ofNat, Nat.testBit_two_pow_sub_one]
  by_cases h1 : n < 64 <;> by_cases h2 : p ≤ n <;> by_cases h3 : n < p + b <;> simp [h1, h2, h3] <;> omega
theorem own_bv (x : BitVec 64) (v p q b : Nat) (hv : v < 2 ^ b) (hp : p + b ≤ 64) (hq : q + b ≤ 64) (h : q = p ∨ q + b ≤ p ∨ p + b ≤ q) :
    ((x &&& ((BitVec.ofNat 64 (2 ^ b - 1) <<< p) ^^^ (-1#64))) ||| ((BitVec.ofNat 64 v <<< p) &&& (BitVec.ofNat 64 (2 ^ b - 1) <<< p))).toNat / 2 ^ q % 2 ^ b = if q = p then v else x.toNat / 2 ^ q % 2 ^ b := by
  have allOnes : (-1#64 : BitVec 64) = BitVec.allOnes 64 := by decide
  refine Nat.eq_of_testBit_eq (fun k => ?_)
  by_cases hk : k < b
  · have e1 : ∀ y : BitVec 64, (y.toNat / 2 ^ q % 2 ^ b).testBit k = y.getLsbD (q + k) := fun y => by
      rw [Nat.testBit_mod_two_pow, Nat.testBit_div_two_pow, BitVec.testBit_toNat]; simp [hk, Nat.add_comm]
    rw [e1, BitVec.getLsbD_or, BitVec.getLsbD_and, BitVec.getLsbD_and, BitVec.getLsbD_xor, own_M, allOnes, BitVec.getLsbD_allOnes, BitVec.getLsbD_shiftLeft, BitVec.getLsbD_ofNat]
    have l : q + k < 64 := by omega
    by_cases hqp : q = p
    · subst hqp
      rw [if_pos rfl]
      have : q ≤ q + k := by omega
      have t : q + k < q + b := by omega
      have u : ¬ q + k < q := by omega
      have k64 : k < 64 := by omega
      have s1 : q + k - q = k := by omega
      simp only [l, t, this, u, k64, s1, decide_true, decide_false, Bool.true_and, Bool.not_false, Bool.and_true, Bool.true_xor, Bool.not_true, Bool.and_false, Bool.false_or, Bool.xor_true]
      try simp
    · rw [if_neg hqp, e1]
      have : ¬ (p ≤ q + k ∧ q + k < p + b) := by omega
      by_cases a : p ≤ q + k
      · have b' : ¬ q + k < p + b := fun z => this ⟨a, z⟩
        simp [l, a, b']
      · simp [l, a]
  · have z : ∀ y : Nat, (y / 2 ^ q % 2 ^ b).testBit k = false := fun y => by
      rw [Nat.testBit_mod_two_pow]; simp [hk]
    rw [z]
    by_cases hqp : q = p
    · rw [if_pos hqp]
      exact (Nat.testBit_lt_two_pow (Nat.lt_of_lt_of_le hv (Nat.pow_le_pow_right (n := 2) (by omega) (by omega)))).symm
    · rw [if_neg hqp, z]
/-- the field of b bits at place p -/
def own_gv (x : Int64) (p b : Nat) : Nat := x.toBitVec.toNat / 2 ^ p % 2 ^ b
theorem own_sh8 : ∀ i, i < 8 → (Int32.ofNat i * 8).toInt64 &&& 63 = Int64.ofNat (i * 8) ∧ (Int32.ofNat i * 8).toInt64.toUInt64 &&& Int64.toUInt64 63 = UInt64.ofNat (i * 8) := by decide +kernel
theorem own_sh16 : ∀ i, i < 4 → (Int32.ofNat i * 16).toInt64 &&& 63 = Int64.ofNat (i * 16) ∧ (Int32.ofNat i * 16).toInt64.toUInt64 &&& Int64.toUInt64 63 = UInt64.ofNat (i * 16) := by decide +kernel
theorem own_shl (x : Int64) {p : Nat} (hp : p < 64) : (x <<< Int64.ofNat p).toBitVec = x.toBitVec <<< p := by
  rw [Int64.toBitVec_shiftLeft]
  have : ∀ p, p < 64 → (Int64.ofNat p).toBitVec.smod 64#64 = BitVec.ofNat 64 p := by decide +kernel
  have e : (Int64.ofNat p).toBitVec.smod 64#64 = BitVec.ofNat 64 p := this p hp
  show x.toBitVec <<< ((Int64.ofNat p).toBitVec.smod 64#64) = _
  rw [e, BitVec.shiftLeft_eq', BitVec.toNat_ofNat, Nat.mod_eq_of_lt (by omega)]
theorem own_shr (x : Int64) {p : Nat} (hp : p < 64) : (x.toUInt64 >>> UInt64.ofNat p).toInt64.toBitVec = x.toBitVec >>> p := by
  show (x.toUInt64 >>> UInt64.ofNat p).toBitVec = _
  rw [UInt64.toBitVec_shiftRight]
  have : ∀ p, p < 64 → (UInt64.ofNat p).toBitVec % 64#64 = BitVec.ofNat 64 p := by decide +kernel
  show x.toBitVec >>> ((UInt64.ofNat p).toBitVec % 64#64) = _
  rw [this p hp, BitVec.ushiftRight_eq', BitVec.toNat_ofNat, Nat.mod_eq_of_lt (by omega)]
theorem own_hv {v : Nat} (h : v < 65536) : (Int32.ofNat v).toInt64.toBitVec = BitVec.ofNat 64 v := by
  have : (Int32.ofNat v).toInt64 = Int64.ofNat v := by
    rw [← Int64.toInt_inj, Int32.toInt_toInt64, N_toInt (by omega), Int64.toInt_ofNat_of_lt (by omega)]
  rw [this]; rfl
theorem own_getE (x : Int64) {p b : Nat} (hp : p < 64) (hb : b ≤ 16) : ((x.toUInt64 >>> UInt64.ofNat p).toInt64 &&& Int64.ofNat (2 ^ b - 1)).toInt32 = Int32.ofNat (own_gv x p b) := by
  have hl : own_gv x p b < 65536 := Nat.lt_of_lt_of_le (Nat.mod_lt _ (Nat.two_pow_pos b)) (Nat.pow_le_pow_right (n := 2) (by omega) hb)
  have e : ((x.toUInt64 >>> UInt64.ofNat p).toInt64 &&& Int64.ofNat (2 ^ b - 1)) = Int64.ofNat (own_gv x p b) := by
    apply Int64.toBitVec_inj.mp
    rw [Int64.toBitVec_and, own_shr x hp]
    apply BitVec.eq_of_toNat_eq
    have m1 : (Int64.ofNat (2 ^ b - 1)).toBitVec.toNat = 2 ^ b - 1 := by
      show (BitVec.ofNat 64 (2 ^ b - 1)).toNat = _
      rw [BitVec.toNat_ofNat, Nat.mod_eq_of_lt]
      have : 2 ^ b ≤ 2 ^ 16 := Nat.pow_le_pow_right (n := 2) (by omega) hb
      omega
    have m2 : (Int64.ofNat (own_gv x p b)).toBitVec.toNat = own_gv x p b := by
      show (BitVec.ofNat 64 (own_gv x p b)).toNat = _
      rw [BitVec.toNat_ofNat, Nat.mod_eq_of_lt (by omega)]
    rw [BitVec.toNat_and, m1, m2, BitVec.toNat_ushiftRight, Nat.and_two_pow_sub_one_eq_mod, Nat.shiftRight_eq_div_pow]
    rfl
  rw [e, ← Int32.toInt_inj, N_toInt (by omega), Int64.toInt_toInt32, Int64.toInt_ofNat_of_lt (by omega)]
  exact bmod_eq (by omega) (by omega)

theorem own_ushrL (x : Int64) (y : Int32) : XT.ushrL x y = (x.toUInt64 >>> (y.toInt64.toUInt64 &&& Int64.toUInt64 63)).toInt64 := rfl
theorem own_get8 (x : Int64) {i : Nat} (hi : i < 8) : f_hget x (Int32.ofNat i) 8 = some (Int32.ofNat (own_gv x (i * 8) 8)) := by
  unfold f_hget
  rw [own_ushrL, (own_sh8 i hi).2, show ((1 : Int64) <<< ((8 : Int32).toInt64 &&& 63)) - 1 = Int64.ofNat (2 ^ 8 - 1) by decide, own_getE x (by omega) (by omega)]
theorem own_get16 (x : Int64) {i : Nat} (hi : i < 4) : f_hget x (Int32.ofNat i) 16 = some (Int32.ofNat (own_gv x (i * 16) 16)) := by
  unfold f_hget
  rw [own_ushrL, (own_sh16 i hi).2, show ((1 : Int64) <<< ((16 : Int32).toInt64 &&& 63)) - 1 = Int64.ofNat (2 ^ 16 - 1) by decide, own_getE x (by omega) (by omega)]
theorem own_putG (x : Int64) {p b v : Nat} (hp : p + b ≤ 64) (hb : 1 ≤ b) (hv : v < 2 ^ b) (h16 : v < 65536) : ∀ q, q + b ≤ 64 → (q = p ∨ q + b ≤ p ∨ p + b ≤ q) →
    own_gv ((x &&& ((Int64.ofNat (2 ^ b - 1) <<< Int64.ofNat p) ^^^ -1)) ||| (((Int32.ofNat v).toInt64 <<< Int64.ofNat p) &&& (Int64.ofNat (2 ^ b - 1) <<< Int64.ofNat p))) q b = if q = p then v else own_gv x q b := by
  intro q hq h
  have e := own_bv x.toBitVec v p q b hv hp hq h
  unfold own_gv
  rw [Int64.toBitVec_or, Int64.toBitVec_and, Int64.toBitVec_and, Int64.toBitVec_xor, own_shl _ (by omega), own_shl _ (by omega), own_hv h16]
  exact e
theorem own_put8 (x : Int64) {i v : Nat} (hi : i < 8) (hv : v < 256) : ∃ x', f_hput x (Int32.ofNat i) 8 (Int32.ofNat v) = some x' ∧ ∀ j, j < 8 → own_gv x' (j * 8) 8 = if j = i then v else own_gv x (j * 8) 8 := by
  unfold f_hput
  rw [(own_sh8 i hi).1, show ((1 : Int64) <<< ((8 : Int32).toInt64 &&& 63)) - 1 = Int64.ofNat (2 ^ 8 - 1) by decide, bnd_eq]
  refine ⟨_, rfl, fun j hj => ?_⟩
  rw [own_putG x (p := i * 8) (b := 8) (by omega) (by omega) hv (by omega) (j * 8) (by omega) (by omega)]
  by_cases q : j = i
  · rw [if_pos q, if_pos (by omega)]
  · rw [if_neg q, if_neg (by omega)]
theorem own_put16 (x : Int64) {i v : Nat} (hi : i < 4) (hv : v < 65536) : ∃ x', f_hput x (Int32.ofNat i) 16 (Int32.ofNat v) = some x' ∧ ∀ j, j < 4 → own_gv x' (j * 16) 16 = if j = i then v else own_gv x (j * 16) 16 := by
  unfold f_hput
  rw [(own_sh16 i hi).1, show ((1 : Int64) <<< ((16 : Int32).toInt64 &&& 63)) - 1 = Int64.ofNat (2 ^ 16 - 1) by decide, bnd_eq]
  refine ⟨_, rfl, fun j hj => ?_⟩
  rw [own_putG x (p := i * 16) (b := 16) (by omega) (by omega) hv hv (j * 16) (by omega) (by omega)]
  by_cases q : j = i
  · rw [if_pos q, if_pos (by omega)]
  · rw [if_neg q, if_neg (by omega)]
theorem own_gvlt (x : Int64) (p b : Nat) : own_gv x p b < 2 ^ b := Nat.mod_lt _ (Nat.two_pow_pos b)
/-- when the page was last touched, as the law keeps it -/
def own_T (x8 x10 : Int64) (o g : Nat) : Nat := if o < 2 then own_gv x8 ((o * 2 + g) * 16) 16 else own_gv x10 ((o * 2 + g - 4) * 16) 16
def own_V (x6 : Int64) (o g : Nat) : Nat := own_gv x6 ((o * 2 + g) * 8) 8
def own_X (N Wn B : Nat) (x6 x8 x10 : Int64) (s : St) : Prop :=
  own_J N s ∧ (∀ q, q < 4 → ∃ M, M < 256 ∧ s.2 12 q = Int32.ofNat M) ∧ s.1 16 = Int32.ofNat Wn ∧ ∃ vt : Nat → Nat, (∀ q, q < 4 → s.2 10 q = Int32.ofNat (vt q) ∧ vt q ≤ B) ∧ (∀ o g, o < 4 → g < 2 → own_L s o g = Int32.ofNat (own_V x6 o g)) ∧
  (∀ o g, o < 4 → g < 2 → own_T x8 x10 o g ≤ vt o) ∧
  ∀ f o g, f < N → o < 4 → g < 2 → s.2 2 f = Int32.ofNat o → s.2 3 f = Int32.ofNat g → s.2 6 f = 0 → ∃ l, s.2 7 f = Int32.ofNat l ∧ own_T x8 x10 o g ≤ l ∧ l ≤ vt o
theorem own_Xs {N Wn B : Nat} {x6 x8 x10 : Int64} {s : St} (h : own_X N Wn B x6 x8 x10 s) : own_X N Wn (B + 1) x6 x8 x10 s := by
  obtain ⟨a, b, c, vt, d, e⟩ := h
  exact ⟨a, b, c, vt, fun q hq => ⟨(d q hq).1, by have := (d q hq).2; omega⟩, e⟩
theorem own_tickX {n N Wn B : Nat} (hn : 40 ≤ n) {x6 x8 x10 : Int64} {s : St} (h : own_X N Wn B x6 x8 x10 s) : ∃ r s', f_tick n s = some (r, s') ∧ own_X N Wn B x6 x8 x10 s' := by
  obtain ⟨J, S, w, vt, a, b, c, d⟩ := h
  obtain ⟨r, s', e, -, J', -, i1, ek, eL⟩ := own_tickJ hn J
  have k := fun k h1 h2 h3 => ek k h1 h2 h3
  refine ⟨_, s', e, J', fun q hq => ?_, by rw [i1 _ (by decide)]; exact w, vt, fun q hq => ?_, fun o g ho hg => ?_, c, fun f o g hf ho hg e1 e2 e3 => ?_⟩
  · rw [k 12 (by decide) (by decide) (by decide)]; exact S q hq
  · rw [k 10 (by decide) (by decide) (by decide)]; exact a q hq
  · rw [eL o g ho (by omega)]; exact b o g ho hg
  · rw [k 2 (by decide) (by decide) (by decide)] at e1
    rw [k 3 (by decide) (by decide) (by decide)] at e2
    rw [k 6 (by decide) (by decide) (by decide)] at e3
    rw [k 7 (by decide) (by decide) (by decide)]
    exact d f o g hf ho hg e1 e2 e3
theorem own_outX {n N Wn B : Nat} (hn : 40 ≤ n) {x6 x8 x10 : Int64} {s : St} (h : own_X N Wn B x6 x8 x10 s) {p : Nat} (hp : p < 4) : ∃ s', f_doSwapOut n (Int32.ofNat p) s = some s' ∧ own_X N Wn B x6 x8 x10 s' := by
  obtain ⟨J, S, w, vt, a, b, c, d⟩ := h
  obtain ⟨s', e, J', e1, -, ek, -, -, ef, eo, ⟨M, hM, m1, -⟩, ev, eL⟩ := own_outJ hn J hp
  refine ⟨s', e, J', fun q hq => ?_, by rw [e1]; exact w, vt, fun q hq => ?_, fun o g ho hg => ?_, c, fun f o g hf ho hg e2 e3 e4 => ?_⟩
  · by_cases z : q = p
    · rw [z]; exact ⟨M, hM, m1⟩
    · rw [ev q z]; exact S q hq
  · rw [ek 10 (by omega)]; exact a q hq
  · rw [eL o g ho (by omega)]; exact b o g ho hg
  · by_cases z : s.2 2 f = Int32.ofNat p
    · rw [eo f hf z] at e2; exact absurd e2.symm (own_ne1 (by omega))
    · rw [ef f z _ (by decide) (by decide)] at e2 e3 e4
      rw [ef f z _ (by decide) (by decide)]
      exact d f o g hf ho hg e2 e3 e4
theorem own_inX {n N Wn B : Nat} (hn : 40 ≤ n) {x6 x8 x10 : Int64} {s : St} (h : own_X N Wn B x6 x8 x10 s) {p M : Nat} (hp : p < 4) (hM : M < 256) (m1 : s.2 12 p = Int32.ofNat M) (sw : s.2 9 p = 1) (hc : own_cnt (fun g => M.testBit g) 8 ≤ own_cnt (fun f => decide (s.2 2 f = -1)) N) :
    ∃ s', f_doSwapIn n (Int32.ofNat p) s = some s' ∧ own_X N Wn B x6 x8 x10 s' := by
  obtain ⟨J, S, w, vt, a, b, c, d⟩ := h
  obtain ⟨s', e, J', e1, -, ev, ek, ew, ef, eg, eL⟩ := own_inJ hn J hp hM m1 sw hc
  have J0 := J
  obtain ⟨j1, j2, j3, j4, j5, j6, j7, j8⟩ := J
  refine ⟨s', e, J', fun q hq => ?_, by rw [e1]; exact w, vt, fun q hq => ?_, fun o g ho hg => ?_, c, fun f o g hf ho hg e2 e3 e4 => ?_⟩
  · rw [ev]
    by_cases z : q = p
    · exact ⟨0, by omega, by simp [z]⟩
    · simp only [z, if_false]; exact S q hq
  · rw [ek 10 (by omega)]; exact a q hq
  · rw [eL o g ho (by omega)]; exact b o g ho hg
  · by_cases z : s.2 2 f = -1
    · have W' := own_JJw J'.2.2.2.2.1 j3 hf ho (show g < 8 by omega) e2 e3
      by_cases y : o = p
      · subst y
        have := eg g (by omega)
        by_cases t : M.testBit g = true
        · rw [if_pos t] at this
          obtain ⟨f', f1, f2, -, -, -, -, -, f8, -⟩ := this
          rw [W', N_inj (by omega) (by omega)] at f2
          subst f2
          exact ⟨vt o, by rw [f8]; exact (a o ho).1, c o g ho hg, Nat.le_refl _⟩
        · rw [if_neg t, W'] at this
          exact absurd this (own_ne1 (by omega))
      · rw [ew (o * 8 + g) (fun g' hg' => by omega)] at W'
        rcases j5.2 o g ho (by omega) with r | ⟨f', y1, y2, y3, y4⟩
        · rw [r] at W'; exact absurd W'.symm (own_ne1 (by omega))
        · rw [W', N_inj (by omega) (by omega)] at y2
          subst y2
          rw [z] at y3; exact absurd y3.symm (own_ne1 (by omega))
    · rw [ef f z _ (by decide) (by decide)] at e2 e3 e4
      rw [ef f z _ (by decide) (by decide)]
      exact d f o g hf ho hg e2 e3 e4
theorem own_121X {n N Wn B : Nat} (hn : 40 ≤ n) {x6 x8 x10 : Int64} {s : St} (h : own_X N Wn B x6 x8 x10 s) (x : Int32) : ∃ r s', f_control_121 n n x 0 s = some (r, s') ∧ own_X N Wn B x6 x8 x10 s' := by
  obtain ⟨s', e, e1, ek, -⟩ := own_121 hn x s
  obtain ⟨⟨j1, j2, j3, j4, j5, j6, j7, j8⟩, S, w, vt, a, b, c, d⟩ := h
  have k := fun k h1 h2 => ek k h1 h2
  refine ⟨x, s', e, ⟨by rw [e1]; exact j1, j2, j3, by rw [e1]; exact j4, ?_, fun f hf => ?_, ?_, fun o ho => ?_⟩, fun q hq => ?_, by rw [e1]; exact w, vt, fun q hq => ?_, fun o g ho hg => ?_, c, fun f o g hf ho hg e1 e2 e3 => ?_⟩
  · rw [k 2 (by decide) (by decide), k 3 (by decide) (by decide), k 1 (by decide) (by decide)]; exact j5
  · rw [k 5 (by decide) (by decide), k 6 (by decide) (by decide)]; exact j6 f hf
  · rw [k 2 (by decide) (by decide), k 3 (by decide) (by decide), k 4 (by decide) (by decide), k 5 (by decide) (by decide), k 0 (by decide) (by decide)]; exact j7
  · rw [k 9 (by decide) (by decide), k 1 (by decide) (by decide)]; exact j8 o ho
  · rw [k 12 (by decide) (by decide)]; exact S q hq
  · rw [k 10 (by decide) (by decide)]; exact a q hq
  · rw [← b o g ho hg]; unfold own_L
    rw [k 1 (by decide) (by decide), k 4 (by decide) (by decide), k 0 (by decide) (by decide)]
  · rw [k 2 (by decide) (by decide)] at e1
    rw [k 3 (by decide) (by decide)] at e2
    rw [k 6 (by decide) (by decide)] at e3
    rw [k 7 (by decide) (by decide)]
    exact d f o g hf ho hg e1 e2 e3
theorem own_soX {n N Wn B : Nat} (hn : 40 ≤ n) {x6 x8 x10 : Int64} {s : St} (h : own_X N Wn B x6 x8 x10 s) {p : Nat} (hp : p < 4) : ∃ r s', f_swapOut n (Int32.ofNat p) s = some (r, s') ∧ own_X N Wn B x6 x8 x10 s' := by
  unfold f_swapOut
  obtain ⟨s', e, H⟩ := own_outX hn h hp
  rw [if_neg (N_neg (by omega)), if_neg (own_o3 hp), grd_pos (inbN hp (by omega)), e]
  split
  · exact ⟨_, _, rfl, H⟩
  · exact ⟨_, _, rfl, h⟩
theorem own_roomX {n N Wn B : Nat} (hn : 40 ≤ n) {x6 x8 x10 : Int64} {s : St} (h : own_X N Wn B x6 x8 x10 s) {p : Nat} (hp : p < 4) (sw : s.2 9 p = 1) (c d : Int32) : ∃ r s', ((f_bitCount n s (s.2 12 p)).bind fun q5 => (f_countFree n s).bind fun q7 => if q7 < q5 then some (c, s) else (f_doSwapIn n (Int32.ofNat p) s).bind fun q10 => some (d, q10)) = some (r, s') ∧ own_X N Wn B x6 x8 x10 s' := by
  obtain ⟨M, hM, m1⟩ := h.2.1 p hp
  obtain ⟨j1, j2, j3, j4, j5, j6, j7, j8⟩ := h.1
  have l1 := own_cnt_le (fun g => M.testBit g) 8
  have l2 := own_cnt_le (fun f => decide (s.2 2 f = -1)) N
  rw [m1, own_bcE hn s hM, own_cfE hn j1 j3 j5]
  simp only [Option.bind_some]
  by_cases q : own_cnt (fun f => decide (s.2 2 f = -1)) N < own_cnt (fun g => M.testBit g) 8
  · rw [if_pos (ltN q (by omega))]; exact ⟨_, _, rfl, h⟩
  · obtain ⟨s', e, H⟩ := own_inX hn h hp hM m1 sw (by omega)
    rw [if_neg (fun z => q ((N_lt (by omega) (by omega)).mp z)), e]
    exact ⟨_, _, rfl, H⟩
theorem own_siX {n N Wn B : Nat} (hn : 40 ≤ n) {x6 x8 x10 : Int64} {s : St} (h : own_X N Wn B x6 x8 x10 s) {p : Nat} (hp : p < 4) : ∃ r s', f_swapIn n (Int32.ofNat p) s = some (r, s') ∧ own_X N Wn B x6 x8 x10 s' := by
  unfold f_swapIn
  rw [if_neg (N_neg (by omega)), if_neg (own_o3 hp), grd_pos (inbN hp (by omega)), ix_N (by omega)]
  rcases (h.1.2.2.2.2.2.2.2 p hp).1 with sw | sw
  · rw [if_pos sw]; exact ⟨_, _, rfl, h⟩
  · rw [if_neg (by rw [sw]; decide)]
    exact own_roomX hn h hp sw 3 6
theorem own_ctlX {n N Wn B : Nat} (hn : 40 ≤ n) {x6 x8 x10 : Int64} {s : St} (h : own_X N Wn B x6 x8 x10 s) : ∃ r s', f_control n s = some (r, s') ∧ own_X N Wn B x6 x8 x10 s' := by
  have d28 : ∀ l c : Int32, (l = -1 ∨ ∃ q, q < 4 ∧ l = Int32.ofNat q ∧ s.2 9 q = 1) → ∃ r s', f_decide_28 n l c s = some (r, s') ∧ own_X N Wn B x6 x8 x10 s' := fun l c hl => by
    unfold f_decide_28
    rcases hl with z | ⟨q, hq, z1, z2⟩
    · rw [z, if_pos (by decide)]; exact ⟨_, _, rfl, h⟩
    · rw [z1, if_neg (N_neg (by omega)), if_neg (own_o3 hq)]
      by_cases hc : c = 0
      · rw [if_pos hc]; exact ⟨_, _, rfl, h⟩
      · rw [if_neg hc, grd_pos (inbN hq (by omega)), ix_N (by omega)]
        exact own_roomX hn h hq z2 0 _
  have go : ∀ (m i k : Nat) (a b l t c : Int32), i + m = 4 → m < k → (b = -1 ∨ ∃ q, q < 4 ∧ b = Int32.ofNat q) → (l = -1 ∨ ∃ q, q < 4 ∧ l = Int32.ofNat q ∧ s.2 9 q = 1) → ∃ r s', f_control_15 n k a b l t c (Int32.ofNat i) s = some (r, s') ∧ own_X N Wn B x6 x8 x10 s' := by
    intro m
    induction m with
    | zero =>
      intro i k a b l t c hi hk hb hl
      obtain ⟨k, rfl⟩ : ∃ z, k = z + 1 := ⟨k - 1, by omega⟩
      have : i = 4 := by omega
      subst this
      rw [u_control_15, if_neg (by decide)]
      obtain ⟨r, s1, e, H⟩ : ∃ r s', f_decide n t a b l c s = some (r, s') ∧ own_X N Wn B x6 x8 x10 s' := by
        unfold f_decide
        by_cases q1 : t = 0
        · rw [if_pos q1]; exact d28 l c hl
        · rw [if_neg q1]
          by_cases q2 : a < 2
          · rw [if_pos q2]; exact d28 l c hl
          · rw [if_neg q2]
            rcases hb with z | ⟨q, hq, z⟩
            · rw [z, if_pos (by decide)]; exact d28 l c hl
            · obtain ⟨s', e, H⟩ := own_outX hn h hq
              rw [z, if_neg (N_neg (by omega)), if_neg (own_o3 hq), e]
              exact ⟨_, _, rfl, H⟩
      rw [e]
      exact own_121X hn H r
    | succ m ih =>
      intro i k a b l t c hi hk hb hl
      obtain ⟨k, rfl⟩ : ∃ z, k = z + 1 := ⟨k - 1, by omega⟩
      have hi4 : i < 4 := by omega
      have hbi : inb (Int32.ofNat i) 4 := inbN hi4 (by omega)
      have st := fun a t c => ih (i + 1) k a (Int32.ofNat i) l t c (by omega) (by omega) (Or.inr ⟨i, hi4, rfl⟩) hl
      rw [u_control_15, if_pos (ltZ (z := 4) 4 rfl hi4 (by omega)), grd_pos hbi, ix_N (by omega)]
      have c72 : ∀ a t c, ∃ r s', f_control_72 n (f_control_15 n k) a (Int32.ofNat i) l t c (Int32.ofNat i) s = some (r, s') ∧ own_X N Wn B x6 x8 x10 s' := fun a t c => by
        unfold f_control_72
        rw [grd_pos hbi, N_succ]
        split
        · exact st _ _ _
        · exact st _ _ _
      rcases (h.1.2.2.2.2.2.2.2 i hi4).1 with sw | sw
      · rw [if_pos sw]
        split
        · exact c72 _ _ _
        · exact c72 _ _ _
      · rw [if_neg (by rw [sw]; decide), N_succ]
        split
        · exact ih (i + 1) k a b (Int32.ofNat i) t c (by omega) (by omega) hb (Or.inr ⟨i, hi4, rfl, sw⟩)
        · exact ih (i + 1) k a b l t c (by omega) (by omega) hb hl
  exact go 4 0 n 0 (-1) (-1) 0 1 (by omega) (by omega) (Or.inl rfl) (Or.inl rfl)

/-! ### one access -/
theorem own_half : ∀ k, k < 8 → Int32.ofNat k >>> ((1 : Int32) &&& 31) = Int32.ofNat (k / 2) ∧ Int32.ofNat k &&& 1 = Int32.ofNat (k % 2) := by decide +kernel
/-- a packed word of what is resident -/
def own_pre (s : St) (k : Nat) : Nat := if s.2 1 (k / 2 * 8 + k % 2) = -1 then 0 else ix (s.2 1 (k / 2 * 8 + k % 2)) + 1
theorem own_preE {N : Nat} {s : St} (h : own_J N s) {k : Nat} (hk : k < 8) : s.2 1 (k / 2 * 8 + k % 2) + 1 = Int32.ofNat (own_pre s k) ∧ own_pre s k < 256 ∧ (own_pre s k = 0 ↔ s.2 1 (k / 2 * 8 + k % 2) = -1) := by
  obtain ⟨j1, j2, j3, j4, j5, j6, j7, j8⟩ := h
  unfold own_pre
  rcases j5.2 (k / 2) (k % 2) (by omega) (by omega) with r | ⟨f, b1, b2, b3, b4⟩
  · rw [r, if_pos rfl]; decide
  · rw [b2, if_neg (own_ne1 (by omega)), ix_N (by omega), N_succ]
    exact ⟨rfl, by omega, fun z => by omega, fun z => absurd z (own_ne1 (by omega))⟩
abbrev own_K : Type := Int32 → Int64 → Int64 → Int64 → Int32 → St → Option (Int32 × St)
theorem own_236 {n N sn : Nat} {sf : Nat → Int32} (hn : 40 ≤ n) (K : own_K) {s : St} (h : own_J N s) (x2 x12 x13 x15 x16 x17 x18 : Int32) (x6 x8 x10 x21 : Int64) : ∀ (m i k : Nat) (x19 : Int64), i + m = 8 → m < k → (∀ j, j < i → own_gv x19 (j * 8) 8 = own_pre s j) →
    ∃ x19', (∀ j, j < 8 → own_gv x19' (j * 8) 8 = own_pre s j) ∧ f_law_236 n sn sf K k x2 x6 x8 x10 x12 x13 x15 x16 x17 x18 x19 x21 (Int32.ofNat i) s = f_law_278 n sn sf K n x2 x6 x8 x10 x12 x13 x15 x16 x17 x18 x19' x21 0 s := by
  intro m
  induction m with
  | zero =>
    intro i k x19 hi hk hp
    obtain ⟨k, rfl⟩ : ∃ y, k = y + 1 := ⟨k - 1, by omega⟩
    have : i = 8 := by omega
    subst this
    rw [u_law_236, if_neg (by decide)]
    exact ⟨x19, hp, rfl⟩
  | succ m ih =>
    intro i k x19 hi hk hp
    obtain ⟨k, rfl⟩ : ∃ y, k = y + 1 := ⟨k - 1, by omega⟩
    have hi8 : i < 8 := by omega
    obtain ⟨e1, e2⟩ := own_half i hi8
    obtain ⟨p1, p2, -⟩ := own_preE h hi8
    obtain ⟨y, y1, y2⟩ := own_put8 x19 hi8 p2
    rw [u_law_236, if_pos (ltZ (z := 8) 8 rfl hi8 (by omega)), e1, e2, own_foE s (show i / 2 < 4 by omega) (show i % 2 < 8 by omega)]
    simp only [Option.bind_some]
    rw [p1, y1]
    simp only [Option.bind_some]
    rw [N_succ]
    refine ih (i + 1) k y (by omega) (by omega) (fun j hj => ?_)
    rw [y2 j (by omega)]
    by_cases q : j = i
    · rw [if_pos q, q]
    · rw [if_neg q]; exact hp j (by omega)
theorem own_278 {n sn : Nat} {sf : Nat → Int32} (K : own_K) {s : St} {vt : Nat → Nat} {B : Nat} (hv : ∀ q, q < 4 → s.2 10 q = Int32.ofNat (vt q) ∧ vt q ≤ B) (hB : B < 1000) (x2 x12 x13 x15 x16 x17 x18 : Int32) (x6 x8 x10 x19 : Int64) : ∀ (m i k : Nat) (x21 : Int64), i + m = 4 → m < k → (∀ j, j < i → own_gv x21 (j * 16) 16 = vt j) →
    ∃ x21', (∀ j, j < 4 → own_gv x21' (j * 16) 16 = vt j) ∧ f_law_278 n sn sf K k x2 x6 x8 x10 x12 x13 x15 x16 x17 x18 x19 x21 (Int32.ofNat i) s =
      (if (1 : Int32) < x13 then (f_write n x16 x17 (x15 &&& (255 : Int32)) s).bind fun q7 => f_law_352 n sn sf K x2 x6 x8 x10 x12 x13 x16 x18 x19 x21' (0 : Int32) (x15 &&& (255 : Int32)) q7.2
        else (f_read n x16 x17 s).bind fun q9 => f_law_352 n sn sf K x2 x6 x8 x10 x12 x13 x16 x18 x19 x21' q9.1 (x15 &&& (255 : Int32)) q9.2) := by
  intro m
  induction m with
  | zero =>
    intro i k x21 hi hk hp
    obtain ⟨k, rfl⟩ : ∃ y, k = y + 1 := ⟨k - 1, by omega⟩
    have : i = 4 := by omega
    subst this
    rw [u_law_278, if_neg (by decide)]
    exact ⟨x21, hp, rfl⟩
  | succ m ih =>
    intro i k x21 hi hk hp
    obtain ⟨k, rfl⟩ : ∃ y, k = y + 1 := ⟨k - 1, by omega⟩
    have hi4 : i < 4 := by omega
    obtain ⟨v1, v2⟩ := hv i hi4
    obtain ⟨y, y1, y2⟩ := own_put16 x21 hi4 (show vt i < 65536 by omega)
    rw [u_law_278, if_pos (ltZ (z := 4) 4 rfl hi4 (by omega)), (own_piE s hi4).1]
    simp only [Option.bind_some]
    rw [v1, y1]
    simp only [Option.bind_some]
    rw [N_succ]
    refine ih (i + 1) k y (by omega) (by omega) (fun j hj => ?_)
    rw [y2 j (by omega)]
    by_cases q : j = i
    · rw [if_pos q, q]
    · rw [if_neg q]; exact hp j (by omega)
/-- the look at the pages that went -/
theorem own_456 {n N sn Wn : Nat} {sf : Nat → Int32} (K : own_K) {s s0 : St} (h : own_J N s) (x12 : Int32) (x6 x8 x10 x19 x21 : Int64) {vt : Nat → Nat} (hW : Wn < 1000) (h19 : ∀ j, j < 8 → own_gv x19 (j * 8) 8 = own_pre s0 j) (h21 : ∀ j, j < 4 → own_gv x21 (j * 16) 16 = vt j) (h0 : own_J N s0)
    (hv : ∀ q, q < 4 → vt q < 1000)
    (hg : ∀ o g, o < 4 → g < 2 → s0.2 1 (o * 8 + g) ≠ -1 → s.2 1 (o * 8 + g) = -1 → s.2 9 o = 0 → Wn + own_T x8 x10 o g < vt o ∧ s.2 0 (o * 8 + g) = Int32.ofNat (own_V x6 o g)) :
    ∀ (m i k : Nat), i + m = 8 → m < k → f_law_456 n sn sf K k (Int32.ofNat Wn) x6 x8 x10 x12 x19 x21 (Int32.ofNat i) s = K (Int32.ofNat Wn) x6 x8 x10 (x12 + 1) s := by
  intro m
  induction m with
  | zero =>
    intro i k hi hk
    obtain ⟨k, rfl⟩ : ∃ y, k = y + 1 := ⟨k - 1, by omega⟩
    have : i = 8 := by omega
    subst this
    rw [u_law_456, if_neg (by decide)]
  | succ m ih =>
    intro i k hi hk
    obtain ⟨k, rfl⟩ : ∃ y, k = y + 1 := ⟨k - 1, by omega⟩
    have hi8 : i < 8 := by omega
    obtain ⟨e1, e2⟩ := own_half i hi8
    obtain ⟨p1, p2, p3⟩ := own_preE h0 hi8
    have ho : i / 2 < 4 := by omega
    have hg2 : i % 2 < 2 := by omega
    have go := ih (i + 1) k (by omega) (by omega)
    have sl : i / 2 * 2 + i % 2 = i := by omega
    rw [u_law_456, if_pos (ltZ (z := 8) 8 rfl hi8 (by omega)), own_get8 x19 hi8]
    simp only [Option.bind_some]
    rw [h19 i hi8, N_succ]
    by_cases q1 : own_pre s0 i = 0
    · rw [q1, if_pos (show Int32.ofNat 0 = 0 from rfl)]; exact go
    · have n1 : ¬ Int32.ofNat (own_pre s0 i) = 0 := fun z => q1 ((N_inj (j := 0) (by omega) (by omega)).mp z)
      rw [if_neg n1, e1, e2, own_foE s ho (show i % 2 < 8 by omega)]
      simp only [Option.bind_some]
      by_cases q2 : s.2 1 (i / 2 * 8 + i % 2) = -1
      · rw [if_pos q2, (own_piE s ho).2.2.1]
        simp only [Option.bind_some]
        rcases (h.2.2.2.2.2.2.2 (i / 2) ho).1 with sw | sw
        · have es : (if s.2 9 (i / 2) = 0 then (0 : Int32) else 1) = 0 := if_pos sw
          obtain ⟨g1, g2⟩ := hg (i / 2) (i % 2) ho hg2 (fun z => q1 (p3.mpr z)) q2 sw
          have hvi := hv (i / 2) ho
          have fin : f_law_547 n sn sf K (f_law_456 n sn sf K k) (Int32.ofNat Wn) x6 x8 x10 x12 x19 x21 (Int32.ofNat i) (Int32.ofNat (i / 2)) (Int32.ofNat (own_T x8 x10 (i / 2) (i % 2))) s = K (Int32.ofNat Wn) x6 x8 x10 (x12 + 1) s := by
            unfold f_law_547
            rw [own_get16 x21 ho]
            simp only [Option.bind_some]
            have sb : Int32.ofNat (own_gv x21 (i / 2 * 16) 16) - Int32.ofNat (own_T x8 x10 (i / 2) (i % 2)) = Int32.ofNat (vt (i / 2) - own_T x8 x10 (i / 2) (i % 2)) := by
              rw [h21 _ ho, ← Int32.toInt_inj, sub_I] <;> rw [N_toInt (by omega), N_toInt (by omega)]
              · rw [N_toInt (by omega)]; omega
              · omega
              · omega
            rw [sb, if_pos (ltN (by omega) (by omega)), e2, (show f_diskValue s (Int32.ofNat (i / 2)) (Int32.ofNat (i % 2)) = some (s.2 0 (i / 2 * 8 + i % 2)) by
              unfold f_diskValue
              rw [if_neg (N_neg (by omega)), if_neg (own_o3 ho), if_neg (N_neg (by omega)), if_neg (own_g7 (by omega)), own_idx, grd_pos (inbN (show i / 2 * 8 + i % 2 < 32 by omega) (by omega)), ix_N (by omega)]), own_get8 x6 hi8]
            simp only [Option.bind_some]
            rw [g2, if_pos (by unfold own_V; rw [sl]), N_succ]
            exact go
          rw [es, if_pos rfl]
          by_cases q4 : i < 4
          · rw [if_pos (ltZ (z := 4) 4 rfl q4 (by omega)), own_get16 x8 q4, Option.bind_some]
            have : own_gv x8 (i * 16) 16 = own_T x8 x10 (i / 2) (i % 2) := by
              unfold own_T; rw [if_pos (by omega), sl]
            rw [this]; exact fin
          · have es4 : Int32.ofNat i - 4 = Int32.ofNat (i - 4) := by
              rw [← Int32.toInt_inj, show (4 : Int32) = Int32.ofNat 4 from rfl, sub_I] <;> rw [N_toInt (by omega), N_toInt (by omega)]
              · rw [N_toInt (by omega)]; omega
              · omega
              · omega
            rw [if_neg (fun z => by rw [show (4 : Int32) = Int32.ofNat 4 from rfl, N_lt (by omega) (by omega)] at z; omega), es4, own_get16 x10 (show i - 4 < 4 by omega), Option.bind_some]
            have : own_gv x10 ((i - 4) * 16) 16 = own_T x8 x10 (i / 2) (i % 2) := by
              unfold own_T; rw [if_neg (by omega), sl]
            rw [this]; exact fin
        · have es : (if s.2 9 (i / 2) = 0 then (0 : Int32) else 1) = 1 := if_neg (by rw [sw]; decide)
          rw [es, if_neg (by decide)]; exact go
      · rw [if_neg q2]; exact go

theorem own_416 {n sn : Nat} {sf : Nat → Int32} (K : own_K) {p v w : Nat} (hp : p < 4) (hv : v < 2) (hw : w < 1000) (x2 x12 : Int32) (x6 x8 x10 x19 x21 : Int64) (s : St) : ∃ x8' x10', f_law_416 n sn sf K x2 x6 x8 x10 x12 (Int32.ofNat (p * 2 + v)) x19 x21 (Int32.ofNat w) s = f_law_453 n sn sf K x2 x6 x8' x10' x12 x19 x21 s ∧
    ∀ o g, o < 4 → g < 2 → own_T x8' x10' o g = if o = p ∧ g = v then w else own_T x8 x10 o g := by
  unfold f_law_416
  by_cases q : p * 2 + v < 4
  · obtain ⟨y, y1, y2⟩ := own_put16 x8 q (show w < 65536 by omega)
    rw [if_pos (ltZ (z := 4) 4 rfl q (by omega)), y1, Option.bind_some]
    refine ⟨y, x10, rfl, fun o g ho hg => ?_⟩
    unfold own_T
    by_cases z : o < 2
    · rw [if_pos z, if_pos z, y2 _ (by omega)]
      by_cases a : o = p ∧ g = v
      · rw [if_pos a, if_pos (by omega)]
      · rw [if_neg a, if_neg (by omega)]
    · rw [if_neg z, if_neg z, if_neg (by omega)]
  · have es4 : Int32.ofNat (p * 2 + v) - 4 = Int32.ofNat (p * 2 + v - 4) := by
      rw [← Int32.toInt_inj, show (4 : Int32) = Int32.ofNat 4 from rfl, sub_I] <;> rw [N_toInt (by omega), N_toInt (by omega)]
      · rw [N_toInt (by omega)]; omega
      · omega
      · omega
    obtain ⟨y, y1, y2⟩ := own_put16 x10 (show p * 2 + v - 4 < 4 by omega) (show w < 65536 by omega)
    rw [if_neg (fun z => by rw [show (4 : Int32) = Int32.ofNat 4 from rfl, N_lt (by omega) (by omega)] at z; omega), es4, y1, Option.bind_some]
    refine ⟨x8, y, rfl, fun o g ho hg => ?_⟩
    unfold own_T
    by_cases z : o < 2
    · rw [if_pos z, if_pos z, if_neg (by omega)]
    · rw [if_neg z, if_neg z, y2 _ (by omega)]
      by_cases a : o = p ∧ g = v
      · rw [if_pos a, if_pos (by omega)]
      · rw [if_neg a, if_neg (by omega)]
theorem own_XI {N Wn B : Nat} {x6 x8 x10 : Int64} {s : St} (h : own_X N Wn B x6 x8 x10 s) (v : Int32) : own_X N Wn B x6 x8 x10 (setI s 22 v) := by
  obtain ⟨a, b, c, d⟩ := h
  exact ⟨own_JI a _ _ (by decide) (by decide), b, by rw [setI_1, if_neg (by decide)]; exact c, d⟩
/-- the law's turn with an access -/
theorem own_accX {n N Wn B sn : Nat} {sf : Nat → Int32} (hn : 40 ≤ n) (hN : N ≤ 32) (hW1 : 1 ≤ Wn) (hW : Wn < 1000) (hB : B < 900) {x6 x8 x10 : Int64} {s : St} (h : own_X N Wn B x6 x8 x10 s) (K : own_K) {op p v : Nat} (hop : op < 4) (hp : p < 4) (hv : v < 2) (x12 x15 : Int32) :
    ∃ s' x6' x8' x10', own_X N Wn (B + 1) x6' x8' x10' s' ∧ f_law_236 n sn sf K n (Int32.ofNat Wn) x6 x8 x10 x12 (Int32.ofNat op) x15 (Int32.ofNat p) (Int32.ofNat v) (Int32.ofNat (p * 2 + v)) 0 0 0 s = K (Int32.ofNat Wn) x6' x8' x10' (x12 + 1) s' := by
  have h0 := h
  obtain ⟨J, S, w, vt, a, b, c, d⟩ := h
  obtain ⟨x19, h19, e19⟩ := own_236 (sn := sn) (sf := sf) hn K J (Int32.ofNat Wn) x12 (Int32.ofNat op) x15 (Int32.ofNat p) (Int32.ofNat v) (Int32.ofNat (p * 2 + v)) x6 x8 x10 0 8 0 n 0 (by omega) (by omega) (fun j hj => by omega)
  obtain ⟨x21, h21, e21⟩ := own_278 (n := n) (sn := sn) (sf := sf) K a (by omega) (Int32.ofNat Wn) x12 (Int32.ofNat op) x15 (Int32.ofNat p) (Int32.ofNat v) (Int32.ofNat (p * 2 + v)) x6 x8 x10 x19 4 0 n 0 (by omega) (by omega) (fun j hj => by omega)
  obtain ⟨xv, hxv, hx⟩ : ∃ xv : Nat, x15 &&& 255 = Int32.ofNat xv ∧ xv ≤ 255 := by
    have := and_rng x15 (m := 255) (by omega)
    rw [show Int32.ofNat 255 = (255 : Int32) from rfl] at this
    obtain ⟨y, y1, -, y3⟩ := own_nat (x := x15 &&& 255) (lo := 0) (hi := 255) (by omega) (by omega)
    exact ⟨y, y1, y3⟩
  rw [show (0 : Int32) = Int32.ofNat 0 from rfl, e19, show (0 : Int32) = Int32.ofNat 0 from rfl, e21]
  have vlt : ∀ q, q < 4 → vt q < 1000 := fun q hq => by have := (a q hq).2; omega
  -- the end of every road: the look
  have look : ∀ (s' : St) (y6 y8 y10 : Int64), own_X N Wn (B + 1) y6 y8 y10 s' → (∀ o g, o < 4 → g < 2 → s.2 1 (o * 8 + g) ≠ -1 → s'.2 1 (o * 8 + g) = -1 → s'.2 9 o = 0 → Wn + own_T y8 y10 o g < vt o ∧ s'.2 0 (o * 8 + g) = Int32.ofNat (own_V y6 o g)) →
      ∃ s1 x6' x8' x10', own_X N Wn (B + 1) x6' x8' x10' s1 ∧ f_law_453 n sn sf K (Int32.ofNat Wn) y6 y8 y10 x12 x19 x21 s' = K (Int32.ofNat Wn) x6' x8' x10' (x12 + 1) s1 := by
    intro s' y6 y8 y10 X g
    refine ⟨s', y6, y8, y10, X, ?_⟩
    unfold f_law_453
    exact own_456 (s0 := s) K X.1 x12 y6 y8 y10 x19 x21 hW h19 h21 J vlt g 8 0 n (by omega) (by omega)
  -- where nothing is taken down
  have plain3 : ∀ (s' : St) (st : Int32), st ≠ 1 → st ≠ 2 → own_X N Wn (B + 1) x6 x8 x10 s' → s'.2 1 = s.2 1 → ∀ r y : Int32, ∃ s1 x6' x8' x10', own_X N Wn (B + 1) x6' x8' x10' s1 ∧
      f_law_352 n sn sf K (Int32.ofNat Wn) x6 x8 x10 x12 (Int32.ofNat op) (Int32.ofNat p) (Int32.ofNat (p * 2 + v)) x19 x21 r y (setI s' 22 st) = K (Int32.ofNat Wn) x6' x8' x10' (x12 + 1) s1 := by
    intro s' st n1 n2 X ew r y
    unfold f_law_352 f_lastStatus
    rw [Option.bind_some, show (setI s' 22 st).1 22 = st by simp [setI_1], if_neg n1, if_neg n2]
    refine look _ _ _ _ (own_XI X st) (fun o g ho hg z1 z2 => ?_)
    rw [setI_2, ew] at z2
    exact absurd z2 z1
  -- what is taken down at a hit or a fault
  have take : ∀ (s' : St) (st : Int32), (st = 1 ∨ st = 2) → s'.2 10 p = Int32.ofNat (vt p + 1) → (op < 2 → ∀ r y : Int32, r = own_L s p v → (∀ y8 y10, (∀ o g, o < 4 → g < 2 → own_T y8 y10 o g = if o = p ∧ g = v then vt p + 1 else own_T x8 x10 o g) → own_X N Wn (B + 1) x6 y8 y10 s' ∧
        (∀ o g, o < 4 → g < 2 → s.2 1 (o * 8 + g) ≠ -1 → s'.2 1 (o * 8 + g) = -1 → s'.2 9 o = 0 → Wn + own_T y8 y10 o g < vt o ∧ s'.2 0 (o * 8 + g) = Int32.ofNat (own_V x6 o g))) →
        ∃ s1 x6' x8' x10', own_X N Wn (B + 1) x6' x8' x10' s1 ∧ f_law_352 n sn sf K (Int32.ofNat Wn) x6 x8 x10 x12 (Int32.ofNat op) (Int32.ofNat p) (Int32.ofNat (p * 2 + v)) x19 x21 r y (setI s' 22 st) = K (Int32.ofNat Wn) x6' x8' x10' (x12 + 1) s1) ∧
      (2 ≤ op → ∀ r : Int32, (∀ y6 y8 y10, (∀ o g, o < 4 → g < 2 → own_V y6 o g = if o = p ∧ g = v then xv else own_V x6 o g) → (∀ o g, o < 4 → g < 2 → own_T y8 y10 o g = if o = p ∧ g = v then vt p + 1 else own_T x8 x10 o g) → own_X N Wn (B + 1) y6 y8 y10 s' ∧
        (∀ o g, o < 4 → g < 2 → s.2 1 (o * 8 + g) ≠ -1 → s'.2 1 (o * 8 + g) = -1 → s'.2 9 o = 0 → Wn + own_T y8 y10 o g < vt o ∧ s'.2 0 (o * 8 + g) = Int32.ofNat (own_V y6 o g))) →
        ∃ s1 x6' x8' x10', own_X N Wn (B + 1) x6' x8' x10' s1 ∧ f_law_352 n sn sf K (Int32.ofNat Wn) x6 x8 x10 x12 (Int32.ofNat op) (Int32.ofNat p) (Int32.ofNat (p * 2 + v)) x19 x21 r (Int32.ofNat xv) (setI s' 22 st) = K (Int32.ofNat Wn) x6' x8' x10' (x12 + 1) s1) := by
    intro s' st hst evt
    have hvp := (a p hp).2
    have head : ∀ r y : Int32, f_law_352 n sn sf K (Int32.ofNat Wn) x6 x8 x10 x12 (Int32.ofNat op) (Int32.ofNat p) (Int32.ofNat (p * 2 + v)) x19 x21 r y (setI s' 22 st) = f_law_371 n sn sf K (Int32.ofNat Wn) x6 x8 x10 x12 (Int32.ofNat op) (Int32.ofNat p) (Int32.ofNat (p * 2 + v)) x19 x21 r y (setI s' 22 st) := fun r y => by
      unfold f_law_352 f_lastStatus
      rw [Option.bind_some, show (setI s' 22 st).1 22 = st by simp [setI_1]]
      rcases hst with z | z
      · rw [if_pos z]
      · rw [if_neg (by rw [z]; decide), if_pos z]
    refine ⟨fun o2 r y hr go => ?_, fun o2 r go => ?_⟩
    · rw [head]
      unfold f_law_371
      rw [(own_piE _ hp).1, Option.bind_some, setI_2, evt, if_neg (fun z => by rw [show (1 : Int32) = Int32.ofNat 1 from rfl, N_lt (by omega) (by omega)] at z; omega), own_get8 x6 (show p * 2 + v < 8 by omega), Option.bind_some, if_pos (by rw [hr, b p v hp hv]; rfl)]
      obtain ⟨y8, y10, e, eT⟩ := own_416 (n := n) (sn := sn) (sf := sf) K hp hv (show vt p + 1 < 1000 by omega) (Int32.ofNat Wn) x12 x6 x8 x10 x19 x21 (setI s' 22 st)
      obtain ⟨X, g⟩ := go y8 y10 eT
      rw [e]
      exact look _ _ _ _ (own_XI X st) g
    · rw [head]
      unfold f_law_371
      obtain ⟨y6, z1, z2⟩ := own_put8 x6 (show p * 2 + v < 8 by omega) (show xv < 256 by omega)
      rw [(own_piE _ hp).1, Option.bind_some, setI_2, evt, if_pos (show (1 : Int32) < Int32.ofNat op from ltN (i := 1) (by omega) (by omega)), z1, Option.bind_some]
      obtain ⟨y8, y10, e, eT⟩ := own_416 (n := n) (sn := sn) (sf := sf) K hp hv (show vt p + 1 < 1000 by omega) (Int32.ofNat Wn) x12 y6 x8 x10 x19 x21 (setI s' 22 st)
      obtain ⟨X, g⟩ := go y6 y8 y10 (fun o g ho hg => by
        unfold own_V
        rw [z2 _ (by omega)]
        by_cases q : o = p ∧ g = v
        · rw [if_pos q, if_pos (by omega)]
        · rw [if_neg q, if_neg (by omega)]) eT
      rw [e]
      exact look _ _ _ _ (own_XI X st) g
  have pvt := (a p hp)
  have Jc := J
  obtain ⟨j1, j2, j3, j4, j5, j6, j7, j8⟩ := Jc
  -- the state behind an access that stood
  have mkX : ∀ (s' : St) (y6 y8 y10 : Int64), own_J N s' → s'.2 12 = s.2 12 → s'.1 16 = s.1 16 → (∀ y, s'.2 10 y = if y = p then s.2 10 p + 1 else s.2 10 y) → (∀ o g, o < 4 → g < 2 → own_L s' o g = Int32.ofNat (own_V y6 o g)) →
      (∀ o g, o < 4 → g < 2 → own_T y8 y10 o g = if o = p ∧ g = v then vt p + 1 else own_T x8 x10 o g) →
      (∀ f o g, f < N → o < 4 → g < 2 → s'.2 2 f = Int32.ofNat o → s'.2 3 f = Int32.ofNat g → s'.2 6 f = 0 → ¬ (o = p ∧ g = v) ∧ s.2 2 f = Int32.ofNat o ∧ s.2 3 f = Int32.ofNat g ∧ (s.2 6 f = 0 ∧ s'.2 7 f = s.2 7 f ∨ s'.2 7 f = Int32.ofNat (vt o))) → own_X N Wn (B + 1) y6 y8 y10 s' := by
    intro s' y6 y8 y10 J' k12 kw kv kL kT kf
    refine ⟨J', by rw [k12]; exact S, kw.trans w, fun q => if q = p then vt p + 1 else vt q, fun q hq => ?_, kL, fun o g ho hg => ?_, fun f o g hf ho hg e1 e2 e3 => ?_⟩
    · rw [kv]
      by_cases z : q = p
      · simp only [z, if_true]; exact ⟨by rw [pvt.1, N_succ], by have := pvt.2; omega⟩
      · simp only [z, if_false]; exact ⟨(a q hq).1, by have := (a q hq).2; omega⟩
    · rw [kT o g ho hg]
      have cc := c o g ho hg
      by_cases z : o = p
      · subst z
        simp only [if_true]
        by_cases y : g = v
        · simp [y]
        · simp only [y, and_false, if_false]; omega
      · simp only [z, false_and, if_false]; exact cc
    · obtain ⟨n1, n2, n3, n4⟩ := kf f o g hf ho hg e1 e2 e3
      have up : vt o ≤ (if o = p then vt p + 1 else vt o) := by
        by_cases z : o = p
        · rw [if_pos z, z]; omega
        · rw [if_neg z]; exact Nat.le_refl _
      rw [kT o g ho hg, if_neg n1]
      rcases n4 with ⟨z1, z2⟩ | z2
      · obtain ⟨l, l1, l2, l3⟩ := d f o g hf ho hg n2 n3 z1
        exact ⟨l, z2.trans l1, l2, Nat.le_trans l3 up⟩
      · exact ⟨vt o, z2, c o g ho hg, up⟩
  have core : ∀ wr x : Int32, (wr = 0 ∨ wr ≠ 0 ∧ x = Int32.ofNat xv) → ∃ st s', f_access n (Int32.ofNat p) (Int32.ofNat v) wr x s = some (st, s') ∧ (st = 1 ∨ st = 2 → inb (s'.1 21) 32) ∧
      ((st ≠ 1 ∧ st ≠ 2 ∧ own_X N Wn (B + 1) x6 x8 x10 s' ∧ s'.2 1 = s.2 1) ∨
       ((st = 1 ∨ st = 2) ∧ s'.2 10 p = Int32.ofNat (vt p + 1) ∧ s'.2 4 (ix (s'.1 21)) = own_L s' p v ∧ (wr = 0 → own_L s' p v = own_L s p v) ∧
        ∀ y6 y8 y10, (∀ o g, o < 4 → g < 2 → own_V y6 o g = if o = p ∧ g = v ∧ wr ≠ 0 then xv else own_V x6 o g) → (∀ o g, o < 4 → g < 2 → own_T y8 y10 o g = if o = p ∧ g = v then vt p + 1 else own_T x8 x10 o g) → own_X N Wn (B + 1) y6 y8 y10 s' ∧
          (∀ o g, o < 4 → g < 2 → s.2 1 (o * 8 + g) ≠ -1 → s'.2 1 (o * 8 + g) = -1 → s'.2 9 o = 0 → Wn + own_T y8 y10 o g < vt o ∧ s'.2 0 (o * 8 + g) = Int32.ofNat (own_V y6 o g)))) := by
    intro wr x hwx
    rcases (j8 p hp).1 with sw | sw
    · obtain ⟨st, s', e, J', n1, i1, w9, w12, out⟩ := own_accJ hn J hp (show v < 8 by omega) sw wr x
      have kw : s'.1 16 = s.1 16 := i1 _ (by decide) (by decide) (by decide)
      -- what the pages hold
      have kL : (∀ o' g', o' < 4 → g' < 8 → own_L s' o' g' = if o' = p ∧ g' = v ∧ wr ≠ 0 then x else own_L s o' g') → ∀ y6, (∀ o g, o < 4 → g < 2 → own_V y6 o g = if o = p ∧ g = v ∧ wr ≠ 0 then xv else own_V x6 o g) → ∀ o g, o < 4 → g < 2 → own_L s' o g = Int32.ofNat (own_V y6 o g) := by
        intro eL y6 eV o g ho hg
        rw [eL o g ho (by omega), eV o g ho hg]
        by_cases q : o = p ∧ g = v ∧ wr ≠ 0
        · rw [if_pos q, if_pos q]
          rcases hwx with z | ⟨-, z⟩
          · exact absurd z q.2.2
          · exact z
        · rw [if_neg q, if_neg q]; exact b o g ho hg
      rcases out with ⟨rfl, ⟨f, f1, f2, f3, f4, f5, f6, f7⟩, o1, o2, o3, o4, o5⟩ | ⟨rfl, r1, ⟨cf, c1, c2, c3, c4, c5, c6, c7, c8, c9, c10, c11, c12, c13⟩, o3, o4, o5, o6, o7⟩ | ⟨rfl, r1, o1, o2, o5, o6, o7, o8⟩
      · -- a hit
        refine ⟨1, s', e, fun _ => by rw [f3]; exact inbN (by omega) (by omega), Or.inr ⟨Or.inl rfl, ?_, ?_, fun z => ?_, fun y6 y8 y10 eV eT => ⟨?_, fun o g ho hg z1 z2 => ?_⟩⟩⟩
        · rw [o3]; simp only [if_true]; rw [pvt.1, N_succ]
        · rw [f3, ix_N (by omega), own_Lw (f := f) (by rw [o2 1 (by omega)]; exact f2) (by omega)]
        · rw [o5 p v hp (by omega), if_neg (fun y => y.2.2 z)]
        · refine mkX s' y6 y8 y10 J' w12 kw o3 (kL o5 y6 eV) eT (fun f' o g hf ho hg e1 e2 e3 => ?_)
          rw [o2 2 (by omega)] at e1
          rw [o2 3 (by omega)] at e2
          have ne : f' ≠ f := fun z => by rw [z, f4] at e3; exact absurd e3 (by decide)
          refine ⟨fun z => ?_, e1, e2, Or.inl ⟨by rw [← f5 f' ne]; exact e3, by rw [o2 7 (by omega)]⟩⟩
          have ww := own_JJw j5 j3 hf ho (show g < 8 by omega) e1 e2
          rw [z.1, z.2, f2, N_inj (by omega) (by omega)] at ww
          exact ne ww.symm
        · rw [o2 1 (by omega)] at z2; exact absurd z2 z1
      · -- a fault
        have W' : ∀ o g, o < 4 → g < 2 → s'.2 1 (o * 8 + g) = -1 → ¬ (o = p ∧ g = v) := fun o g ho hg z1 z2 => by
          rw [z2.1, z2.2, c3] at z1; exact own_ne1 (by omega) z1
        refine ⟨2, s', e, fun _ => by rw [c4]; exact inbN (by omega) (by omega), Or.inr ⟨Or.inr rfl, ?_, ?_, fun z => ?_, fun y6 y8 y10 eV eT => ⟨?_, fun o g ho hg z1 z2 z3 => ?_⟩⟩⟩
        · rw [o3]; simp only [if_true]; rw [pvt.1, N_succ]
        · rw [c4, ix_N (by omega), own_Lw c3 (by omega)]
        · rw [o7 p v hp (by omega), if_neg (fun y => y.2.2 z)]
        · refine mkX s' y6 y8 y10 J' w12 kw o3 (kL o7 y6 eV) eT (fun f' o g hf ho hg e1 e2 e3 => ?_)
          have ne : f' ≠ cf := fun z => by rw [z, c9] at e3; exact absurd e3 (by decide)
          obtain ⟨q1, q2, q3⟩ := c12 f' ne
          have ww := own_JJw J'.2.2.2.2.1 j3 hf ho (show g < 8 by omega) e1 e2
          refine ⟨fun z => ?_, q1.symm.trans e1, q2.symm.trans e2, ?_⟩
          · rw [z.1, z.2, c3, N_inj (by omega) (by omega)] at ww
            exact ne ww.symm
          · rcases q3 with ⟨y1, y2⟩ | ⟨y1, o', y2, y3, y4⟩
            · exact Or.inl ⟨y1.symm.trans e3, y2⟩
            · right
              rw [← q1, e1, N_inj (by omega) (by omega)] at y3
              subst y3
              rw [y4]; exact (a o ho).1
        · have npv := W' o g ho hg z2
          have nei : o * 8 + g ≠ p * 8 + v := fun z => npv ⟨by omega, by omega⟩
          have wc : s.2 1 (o * 8 + g) = Int32.ofNat cf := by
            rcases c13 _ nei with y | ⟨-, y⟩
            · rw [y] at z2; exact absurd z2 z1
            · exact y
          have own : s.2 2 cf = Int32.ofNat o ∧ s.2 3 cf = Int32.ofNat g := by
            rcases j5.2 o g ho (by omega) with y | ⟨f', y1, y2, y3, y4⟩
            · exact absurd y z1
            · rw [wc, N_inj (by omega) (by omega)] at y2
              subst y2; exact ⟨y3, y4⟩
          refine ⟨?_, ?_⟩
          · rw [eT o g ho hg, if_neg npv]
            rcases c2 with y | ⟨o', y1, y2, y3⟩
            · rw [own.1] at y; exact absurd y (own_ne1 (by omega))
            · rw [own.1, N_inj (by omega) (by omega)] at y2
              subst y2
              have hvo := vlt o ho
              rcases y3 with ⟨q1, q2⟩ | q2
              · obtain ⟨l, l1, l2, l3⟩ := d cf o g c1 ho hg own.1 own.2 q1
                rw [w, (a o ho).1, l1, lt_I, sub_I] at q2 <;> rw [N_toInt (by omega), N_toInt (by omega)] at *
                · rw [N_toInt (by omega)] at q2; omega
                all_goals omega
              · rw [w, Int32.sub_self] at q2
                exact absurd q2 (N_neg (by omega))
          · have l := kL o7 y6 eV o g ho hg
            rw [own_Ln z2] at l; exact l
      · -- no frame
        refine ⟨3, s', e, fun z => absurd z (by decide), Or.inl ⟨by decide, by decide, ?_, o2 1 (by omega)⟩⟩
        refine ⟨J', by rw [w12]; exact S, kw.trans w, vt, fun q hq => ?_, fun o g ho hg => ?_, c, fun f o g hf ho hg e1 e2 e3 => ?_⟩
        · rw [o2 10 (by omega)]; exact ⟨(a q hq).1, by have := (a q hq).2; omega⟩
        · rw [o8 o g ho (by omega)]; exact b o g ho hg
        · rw [o2 2 (by omega)] at e1
          rw [o2 3 (by omega)] at e2
          rcases o7 f with ⟨y1, y2⟩ | ⟨y1, o', y2, y3, y4⟩
          · rw [y2]; exact d f o g hf ho hg e1 e2 (y1.symm.trans e3)
          · rw [e1, N_inj (by omega) (by omega)] at y3
            subst y3
            exact ⟨vt o, by rw [y4]; exact (a o ho).1, c o g ho hg, Nat.le_refl _⟩
    · refine ⟨4, s, ?_, fun z => absurd z (by decide), Or.inl ⟨by decide, by decide, own_Xs h0, rfl⟩⟩
      unfold f_access
      rw [if_neg (N_neg (by omega)), if_neg (own_o3 hp), if_neg (N_neg (by omega)), if_neg (own_g7 (by omega)), grd_pos (inbN hp (by omega)), ix_N (by omega), if_neg (by rw [sw]; decide)]
  by_cases o2 : op < 2
  · obtain ⟨st, s', e, hi, out⟩ := core 0 0 (Or.inl rfl)
    rw [if_neg (fun z => by rw [show (1 : Int32) = Int32.ofNat 1 from rfl, N_lt (by omega) (by omega)] at z; omega)]
    rcases out with ⟨n1, n2, X, ew⟩ | ⟨hst, evt, ev, eL, go⟩
    · obtain ⟨r, er, -⟩ := own_rd e hi
      rw [er, Option.bind_some]
      exact plain3 s' st n1 n2 X ew r _
    · have er : f_read n (Int32.ofNat p) (Int32.ofNat v) s = some (own_L s p v, setI s' 22 st) := by
        have r24 : f_read_24 n (setI s' 22 st) = some (own_L s p v, setI s' 22 st) := by
          unfold f_read_24
          rw [grd_pos (show inb ((setI s' 22 st).1 21) 32 from hi hst)]
          show some (s'.2 4 (ix (s'.1 21)), _) = _
          rw [ev, eL rfl]
        unfold f_read
        rw [e, Option.bind_some, bnd_eq]
        rcases hst with z | z
        · rw [if_pos z, r24]
        · have z1 : ¬ st = 1 := by rw [z]; decide
          rw [if_neg z1, if_pos z, r24]
      rw [er, Option.bind_some]
      exact (take s' st hst evt).1 o2 _ _ rfl (fun y8 y10 eT => go x6 y8 y10 (fun o g _ _ => by simp) eT)
  · obtain ⟨st, s', e, hi, out⟩ := core 1 (Int32.ofNat xv) (Or.inr ⟨by decide, rfl⟩)
    rw [if_pos (show (1 : Int32) < Int32.ofNat op from ltN (i := 1) (by omega) (by omega)), hxv, own_wr e, Option.bind_some]
    rcases out with ⟨n1, n2, X, ew⟩ | ⟨hst, evt, ev, eL, go⟩
    · exact plain3 s' st n1 n2 X ew _ _
    · exact (take s' st hst evt).2 (by omega) _ (fun y6 y8 y10 eV eT => go y6 y8 y10 (fun o g ho hg => by rw [eV o g ho hg]; simp) eT)
theorem own_cell {sn : Nat} (hs : sn ≤ 260) (sf : Nat → Int32) {k : Nat} (hk : k < 1000) : ∃ y, f_hcell sn sf (Int32.ofNat k) = some y := by
  unfold f_hcell
  by_cases q : k < sn
  · rw [if_pos (show Int32.ofNat k < sn.toInt32 from ltN q (by omega)), grd_pos (inbN q (by omega))]; exact ⟨_, rfl⟩
  · rw [if_neg (fun z => q ((N_lt (i := k) (j := sn) (by omega) (by omega)).mp z))]; exact ⟨_, rfl⟩
theorem own_loop {n N Wn sn : Nat} (hn : 40 ≤ n) (hN : N ≤ 32) (hW1 : 1 ≤ Wn) (hW : Wn < 1000) (hs : sn ≤ 260) (sf : Nat → Int32) : ∀ (m i k : Nat) (x6 x8 x10 : Int64) (s : St), 4 + 3 * i + 3 * m ≥ sn → i ≤ 90 → m < k → own_X N Wn i x6 x8 x10 s → ∃ w, f_law_68 n sn sf k (Int32.ofNat Wn) x6 x8 x10 (Int32.ofNat i) s = some (1, w) := by
  have ei : ∀ c i : Nat, Int32.ofNat c + 3 * Int32.ofNat i = Int32.ofNat (c + 3 * i) := fun c i => by rw [show (3 : Int32) = Int32.ofNat 3 from rfl, N_mul, N_add]
  have nr : ∀ (x : Int32) (m : Nat), m < 2147483648 → ∃ a, x &&& Int32.ofNat m = Int32.ofNat a ∧ a ≤ m := fun x m hm => by
    have := and_rng x (m := m) hm
    obtain ⟨a, a1, -, a3⟩ := own_nat (x := x &&& Int32.ofNat m) (lo := 0) (hi := m) (by omega) (by omega)
    exact ⟨a, a1, a3⟩
  intro m
  induction m with
  | zero =>
    intro i k x6 x8 x10 s hi hi2 hk X
    obtain ⟨k, rfl⟩ : ∃ y, k = y + 1 := ⟨k - 1, by omega⟩
    have e4 : (4 : Int32) + 3 * Int32.ofNat i = Int32.ofNat (4 + 3 * i) := ei 4 i
    rw [u_law_68, if_pos (ltZ (z := 300) 300 rfl (by omega) (by omega)), e4, if_neg (fun z => by rw [show sn.toInt32 = Int32.ofNat sn from rfl, N_lt (by omega) (by omega)] at z; omega)]
    exact ⟨_, rfl⟩
  | succ m ih =>
    intro i k x6 x8 x10 s hi hi2 hk X
    obtain ⟨k, rfl⟩ : ∃ y, k = y + 1 := ⟨k - 1, by omega⟩
    have e4 : (4 : Int32) + 3 * Int32.ofNat i = Int32.ofNat (4 + 3 * i) := ei 4 i
    have e5 : (5 : Int32) + 3 * Int32.ofNat i = Int32.ofNat (5 + 3 * i) := ei 5 i
    have e6 : (6 : Int32) + 3 * Int32.ofNat i = Int32.ofNat (6 + 3 * i) := ei 6 i
    rw [u_law_68, if_pos (ltZ (z := 300) 300 rfl (by omega) (by omega)), e4, e5, e6]
    by_cases c : 4 + 3 * i < sn
    · rw [if_pos (show Int32.ofNat (4 + 3 * i) < sn.toInt32 from ltN c (by omega))]
      obtain ⟨q3, c3⟩ := own_cell hs sf (show 4 + 3 * i < 1000 by omega)
      obtain ⟨q5, c5⟩ := own_cell hs sf (show 5 + 3 * i < 1000 by omega)
      obtain ⟨q7, c7⟩ := own_cell hs sf (show 6 + 3 * i < 1000 by omega)
      rw [c3, Option.bind_some, c5, Option.bind_some, c7, Option.bind_some]
      have go := fun s' (y6 y8 y10 : Int64) X' => ih (i + 1) k y6 y8 y10 s' (by omega) (by omega) (by omega) X'
      obtain ⟨op, o1, o2⟩ := nr q3 7 (by omega)
      obtain ⟨p, p1, p2⟩ := nr q5 3 (by omega)
      obtain ⟨v, v1, v2⟩ := nr (q5 >>> ((2 : Int32) &&& 31)) 1 (by omega)
      rw [show Int32.ofNat 7 = (7 : Int32) from rfl] at o1
      rw [show Int32.ofNat 3 = (3 : Int32) from rfl] at p1
      rw [show Int32.ofNat 1 = (1 : Int32) from rfl] at v1
      have esl : Int32.ofNat p * 2 + Int32.ofNat v = Int32.ofNat (p * 2 + v) := by rw [show (2 : Int32) = Int32.ofNat 2 from rfl, N_mul, N_add]
      rw [o1, p1, v1, esl, N_succ]
      have tk : ∃ w, f_law_140 n sn sf (f_law_68 n sn sf k) (Int32.ofNat Wn) x6 x8 x10 (Int32.ofNat i) s = some (1, w) := by
        obtain ⟨r, s', e, X'⟩ := own_tickX hn X
        unfold f_law_140
        rw [e, Option.bind_some, N_succ]
        exact go s' _ _ _ (own_Xs X')
      by_cases t4 : Int32.ofNat op = 4
      · rw [if_pos t4]; exact tk
      rw [if_neg t4]
      by_cases t6 : Int32.ofNat op = 6
      · rw [if_pos t6]; exact tk
      rw [if_neg t6]
      by_cases t5 : Int32.ofNat op = 5
      · obtain ⟨r, s', e, X'⟩ := own_ctlX hn X
        rw [if_pos t5, e, Option.bind_some]
        exact go s' _ _ _ (own_Xs X')
      rw [if_neg t5]
      by_cases t7 : Int32.ofNat op = 7
      · rw [if_pos t7]
        by_cases y : q7 &&& 1 = 0
        · obtain ⟨r, s', e, X'⟩ := own_soX hn X (show p < 4 by omega)
          rw [if_pos y, e, Option.bind_some]
          exact go s' _ _ _ (own_Xs X')
        · obtain ⟨r, s', e, X'⟩ := own_siX hn X (show p < 4 by omega)
          rw [if_neg y, e, Option.bind_some]
          exact go s' _ _ _ (own_Xs X')
      rw [if_neg t7, bnd_eq]
      have hop : op < 4 := by
        have d4 : op ≠ 4 := fun z => t4 (by rw [z]; rfl)
        have d5 : op ≠ 5 := fun z => t5 (by rw [z]; rfl)
        have d6 : op ≠ 6 := fun z => t6 (by rw [z]; rfl)
        have d7 : op ≠ 7 := fun z => t7 (by rw [z]; rfl)
        omega
      obtain ⟨s', y6, y8, y10, X', e⟩ := own_accX (sn := sn) (sf := sf) hn hN hW1 hW (show i < 900 by omega) X (f_law_68 n sn sf k) hop (show p < 4 by omega) (show v < 2 by omega) (Int32.ofNat i) q7
      rw [e, N_succ]
      exact go s' y6 y8 y10 X'
    · rw [if_neg (fun z => c ((N_lt (i := 4 + 3 * i) (j := sn) (by omega) (by omega)).mp z))]; exact ⟨_, rfl⟩
theorem plain (sn : Nat) (sf : Nat → Int32) (hs : sn ≤ 260) : ∃ n w, f_law n sn sf = some (1, w) := by
  obtain ⟨q0, c0⟩ := own_cell hs sf (show 0 < 1000 by omega)
  obtain ⟨q1, c1⟩ := own_cell hs sf (show 1 < 1000 by omega)
  obtain ⟨q2, c2⟩ := own_cell hs sf (show 2 < 1000 by omega)
  obtain ⟨q3, c3⟩ := own_cell hs sf (show 3 < 1000 by omega)
  have nr : ∀ (x : Int32) (m : Nat), m < 2147483648 → ∃ a, x &&& Int32.ofNat m = Int32.ofNat a ∧ a ≤ m := fun x m hm => by
    have := and_rng x (m := m) hm
    obtain ⟨a, a1, -, a3⟩ := own_nat (x := x &&& Int32.ofNat m) (lo := 0) (hi := m) (by omega) (by omega)
    exact ⟨a, a1, a3⟩
  obtain ⟨a, a1, a2⟩ := nr q0 3 (by omega)
  obtain ⟨b, b1, b2⟩ := nr q1 7 (by omega)
  obtain ⟨n, hn⟩ : ∃ n : Nat, n = 100 := ⟨_, rfl⟩
  obtain ⟨s, e, h1, h2, h3, h4, h5, h6, h7, h8⟩ := own_ctor (n := n) (by omega) (4 + (q0 &&& 3)) (1 + (q1 &&& 7)) (1 + (q2 &&& 3)) (1 + (q3 &&& 3))
  have ea : (4 : Int32) + (q0 &&& 3) = Int32.ofNat (4 + a) := by
    rw [show (3 : Int32) = Int32.ofNat 3 from rfl, a1, show (4 : Int32) = Int32.ofNat 4 from rfl, N_add]
  have eb : (1 : Int32) + (q1 &&& 7) = Int32.ofNat (1 + b) := by
    rw [show (7 : Int32) = Int32.ofNat 7 from rfl, b1, show (1 : Int32) = Int32.ofNat 1 from rfl, N_add]
  have ca : ∀ a, a ≤ 3 → own_cl (Int32.ofNat (4 + a)) 4 32 = Int32.ofNat (4 + a) := fun a ha => by
    have : a = 0 ∨ a = 1 ∨ a = 2 ∨ a = 3 := by omega
    rcases this with rfl | rfl | rfl | rfl <;> decide
  have cb : ∀ b, b ≤ 7 → own_cl (Int32.ofNat (1 + b)) 1 64 = Int32.ofNat (1 + b) := fun b hb => by
    have : b = 0 ∨ b = 1 ∨ b = 2 ∨ b = 3 ∨ b = 4 ∨ b = 5 ∨ b = 6 ∨ b = 7 := by omega
    rcases this with rfl | rfl | rfl | rfl | rfl | rfl | rfl | rfl <;> decide
  rw [ea, ca a a2] at h1
  rw [eb, cb b b2] at h2
  have z : ∀ j x, x < 32 → j ≠ 1 → j ≠ 2 → s.2 j x = 0 := fun j x hx a b => by
    rw [h8 j x hx, if_neg (fun q => q.elim a b)]
  have hw : ∀ x, x < 32 → s.2 1 x = -1 := fun x hx => by rw [h8 _ x hx, if_pos (Or.inl rfl)]
  have ho : ∀ x, x < 32 → s.2 2 x = -1 := fun x hx => by rw [h8 _ x hx, if_pos (Or.inr rfl)]
  have J : own_J (4 + a) s := by
    refine ⟨h1, by omega, by omega, ⟨0, by omega, h5⟩, ⟨fun f hf => Or.inl (ho f (by omega)), fun o g a b => Or.inl (hw _ (by omega))⟩, fun f hf => ⟨Or.inl (z _ _ (by omega) (by decide) (by decide)), Or.inl (z _ _ (by omega) (by decide) (by decide))⟩, fun f o g a b c d => ?_, fun o a => ⟨Or.inl (z _ _ (by omega) (by decide) (by decide)), fun _ g b => hw _ (by omega)⟩⟩
    rw [ho f (by omega)] at d
    exact absurd d.symm (own_ne1 (by omega))
  have g0 : ∀ p b, own_gv 0 p b = 0 := fun p b => by
    unfold own_gv
    show 0 / 2 ^ p % 2 ^ b = 0
    rw [Nat.zero_div, Nat.zero_mod]
  have T0 : ∀ o g, own_T 0 0 o g = 0 := fun o g => by
    unfold own_T; rw [g0, g0, ite_self]
  have X : own_X (4 + a) (1 + b) 0 0 0 0 s := by
    refine ⟨J, fun q hq => ⟨0, by omega, z _ _ (by omega) (by decide) (by decide)⟩, h2, fun _ => 0, fun q hq => ⟨z _ _ (by omega) (by decide) (by decide), Nat.le_refl _⟩, fun o g a b => ?_, fun o g _ _ => by rw [T0]; exact Nat.le_refl _, fun f o g a b c d => ?_⟩
    · unfold own_V
      rw [g0, own_Ln (hw _ (by omega)), z _ _ (by omega) (by decide) (by decide)]; rfl
    · rw [ho f (by omega)] at d
      exact absurd d.symm (own_ne1 (by omega))
  obtain ⟨w, ew⟩ := own_loop (n := n) (by omega) (show 4 + a ≤ 32 by omega) (show 1 ≤ 1 + b by omega) (by omega) hs sf 86 0 n 0 0 0 s (by omega) (by omega) (by omega) X
  refine ⟨n, w, ?_⟩
  have d0 : f_hcell sn sf 0 = some q0 := c0
  have d1 : f_hcell sn sf 1 = some q1 := c1
  have d2 : f_hcell sn sf 2 = some q2 := c2
  have d3 : f_hcell sn sf 3 = some q3 := c3
  unfold f_law f_law_54
  rw [d0, Option.bind_some, d1, Option.bind_some, d2, Option.bind_some, d3, Option.bind_some, e, Option.bind_some, eb]
  exact ew
theorem main_1_1 : Claimed_1_1 := comes_1 plain fun _ _ _ _ _ _ h hF => ⟨h.1, hF⟩
theorem main_1_2 : Claimed_1_2 := comes_1 plain fun _ _ _ _ _ _ h hF => ⟨h.2.1, hF⟩

end Jvm.Pilot.@@N@@
namespace Jvm.Pilot.@@N@@
open Jvm Jvm.ClassFile Sem Op Lib Jvm.Free Jvm.Stand Jvm.Pilot.@@N@@.Jvm.D
/-! MADE BY PROGRAM (witnessworld.py) out of the Statement's table words and the real class files: 11 classes; the members and pool entries that the words name. The judged class is class 1, her method 4. -/
namespace start1
open Jvm.ClassFile
def u (s : String) : CpInfo := .utf8 (stringToUtf16 s)
/-- a pool by its gaps: so many unusable entries, then the entry; so many at the end -/
def gap : Nat → List CpInfo → List CpInfo
  | 0, r => r
  | n + 1, r => .unusable :: gap n r
def poolList (es : List (Nat × CpInfo)) (last : Nat) : List CpInfo := es.foldr (fun e r => gap e.1 (e.2 :: r)) (gap last [])
def pool (es : List (Nat × CpInfo)) (last : Nat) : Array CpInfo := ⟨poolList es last⟩
def fileOf (pool : Array CpInfo) (this : Nat) (attrs : Array Attribute := #[]) (ms : Array MethodInfo := #[]) (fl : Nat := 33) (sup : Nat := 0) (ifs : Array Nat := #[]) (fds : Array FieldInfo := #[]) : ClassFile where
  minorVersion := 0
  majorVersion := 65
  constantPool := pool
  accessFlags := fl
  thisClass := this
  superClass := sup
  interfaces := ifs
  fields := fds
  methods := ms
  attributes := attrs
def plain (name : String) (sup : Option ClassId) : Class where
  name := name
  kind := .ordinary
  loader := none
  accessFlags := 33
  super := sup
  interfaces := #[]
  cf := none
  fields := #[]
  methods := #[]
  instanceTypes := #[]
  staticTypes := #[]
  resolved := #[]
  callSites := []
  init := .initialized
  statics := none
  mirror := none

def pool0 : Array CpInfo := pool [(5, u "<init>"), (0, u "()V"), (1, .class_ 10), (1, u "java/lang/Object")] 113

def k0c0 : Code := { maxStack := 0, maxLocals := 1, code := object_method_1_code, exceptionTable := #[], attributes := #[] }
def k0m0 : Method := { name := "<init>", desc := "()V", sig := { parameters := [], returnType := none }, accessFlags := 1, code := some k0c0 }
/-- java/lang/Object -/
def k0 : Class := { plain "java/lang/Object" none with
  accessFlags := 33
  interfaces := #[]
  cf := some (fileOf pool0 8 #[] #[{ accessFlags := 1, nameIndex := 5, descriptorIndex := 6, attributes := #[] }] 33 0 #[] #[])
  fields := #[]
  methods := #[k0m0]
  instanceTypes := #[]
  staticTypes := #[]
  resolved := Array.replicate 124 none
  statics := none }

def pool1 : Array CpInfo := pool [(2, .class_ 4), (1, u "java/lang/Object"), (0, u "<init>"), (0, u "()V"), (0, .long 18446744073709551615), (1, .methodref 10 11), (0, .class_ 12), (0, .nameAndType 13 14), (0, u "WorkingSetPagerOwnLaw"), (0, u "cell"), (0, u "([II)I"), (0, .class_ 16), (0, u "WorkingSetPager"), (0, .methodref 15 18), (0, .nameAndType 5 19), (0, u "(IIII)V"), (0, .methodref 15 21), (0, .nameAndType 22 23), (0, u "tick"), (0, u "()I"), (0, .methodref 15 25), (0, .nameAndType 26 23), (0, u "control"), (0, .methodref 15 28), (0, .nameAndType 29 30), (0, u "swapOut"), (0, u "(I)I"), (0, .methodref 15 32), (0, .nameAndType 33 30), (0, u "swapIn"), (0, .methodref 15 35), (0, .nameAndType 36 37), (0, u "frameOf"), (0, u "(II)I"), (0, .methodref 10 39), (0, .nameAndType 40 41), (0, u "put"), (0, u "(JIII)J"), (0, .methodref 15 43), (0, .nameAndType 44 37), (0, u "procInfo"), (0, .methodref 15 46), (0, .nameAndType 47 37), (0, u "read"), (0, .methodref 15 49), (0, .nameAndType 50 51), (0, u "write"), (0, u "(III)I"), (0, .methodref 15 53), (0, .nameAndType 54 23), (0, u "lastStatus"), (0, .methodref 10 56), (0, .nameAndType 57 58), (0, u "get"), (0, u "(JII)I"), (0, .methodref 15 60), (0, .nameAndType 61 37), (0, u "diskValue"), (3, u "law"), (0, u "([I)Z")] 4

def k1m0 : Method := { name := "<init>", desc := "()V", sig := { parameters := [], returnType := none }, accessFlags := 1, code := none }
def k1c1 : Code := { maxStack := 2, maxLocals := 2, code := method_2_code, exceptionTable := #[], attributes := #[] }
def k1m1 : Method := { name := "cell", desc := "([II)I", sig := { parameters := [(.array .int), .int], returnType := some .int }, accessFlags := 10, code := some k1c1 }
def k1c2 : Code := { maxStack := 6, maxLocals := 4, code := method_3_code, exceptionTable := #[], attributes := #[] }
def k1m2 : Method := { name := "get", desc := "(JII)I", sig := { parameters := [.long, .int, .int], returnType := some .int }, accessFlags := 10, code := some k1c2 }
def k1c3 : Code := { maxStack := 6, maxLocals := 7, code := method_4_code, exceptionTable := #[], attributes := #[] }
def k1m3 : Method := { name := "put", desc := "(JIII)J", sig := { parameters := [.long, .int, .int, .int], returnType := some .long }, accessFlags := 10, code := some k1c3 }
def k1c4 : Code := { maxStack := 8, maxLocals := 29, code := code, exceptionTable := #[], attributes := #[] }
def k1m4 : Method := { name := "law", desc := "([I)Z", sig := { parameters := [(.array .int)], returnType := some .boolean }, accessFlags := 9, code := some k1c4 }
/-- WorkingSetPagerOwnLaw -/
def k1 : Class := { plain "WorkingSetPagerOwnLaw" (some 0) with
  accessFlags := 49
  interfaces := #[]
  cf := some (fileOf pool1 10 #[] #[{ accessFlags := 1, nameIndex := 5, descriptorIndex := 6, attributes := #[] }, { accessFlags := 10, nameIndex := 13, descriptorIndex := 14, attributes := #[] }, { accessFlags := 10, nameIndex := 57, descriptorIndex := 58, attributes := #[] }, { accessFlags := 10, nameIndex := 40, descriptorIndex := 41, attributes := #[] }, { accessFlags := 9, nameIndex := 65, descriptorIndex := 66, attributes := #[] }] 49 2 #[] #[])
  fields := #[]
  methods := #[k1m0, k1m1, k1m2, k1m3, k1m4]
  instanceTypes := #[]
  staticTypes := #[]
  resolved := Array.replicate 71 none
  statics := none }

def pool2 : Array CpInfo := pool [(1, .methodref 2 3), (0, .class_ 4), (0, .nameAndType 5 6), (0, u "java/lang/Object"), (0, u "<init>"), (0, u "()V"), (0, .fieldref 8 9), (0, .class_ 10), (0, .nameAndType 11 12), (0, u "WorkingSetPager"), (0, u "disk"), (0, u "[I"), (0, .fieldref 8 14), (0, .nameAndType 15 12), (0, u "where"), (0, .fieldref 8 17), (0, .nameAndType 18 12), (0, u "fOwner"), (0, .fieldref 8 20), (0, .nameAndType 21 12), (0, u "fPage"), (0, .fieldref 8 23), (0, .nameAndType 24 12), (0, u "fValue"), (0, .fieldref 8 26), (0, .nameAndType 27 12), (0, u "fDirty"), (0, .fieldref 8 29), (0, .nameAndType 30 12), (0, u "fRef"), (0, .fieldref 8 32), (0, .nameAndType 33 12), (0, u "fLast"), (0, .fieldref 8 35), (0, .nameAndType 36 12), (0, u "fDue"), (0, .fieldref 8 38), (0, .nameAndType 39 40), (0, u "swapped"), (0, u "[Z"), (0, .fieldref 8 42), (0, .nameAndType 43 12), (0, u "vt"), (0, .fieldref 8 45), (0, .nameAndType 46 12), (0, u "faults"), (0, .fieldref 8 48), (0, .nameAndType 49 12), (0, u "saved"), (0, .fieldref 8 51), (0, .nameAndType 52 12), (0, u "sf"), (0, .fieldref 8 54), (0, .nameAndType 55 12), (0, u "sa"), (0, .methodref 8 57), (0, .nameAndType 58 59), (0, u "clamp"), (0, u "(III)I"), (0, .fieldref 8 61), (0, .nameAndType 62 63), (0, u "nF"), (0, u "I"), (0, .fieldref 8 65), (0, .nameAndType 66 63), (0, u "win"), (0, .fieldref 8 68), (0, .nameAndType 69 63), (0, u "delay"), (0, .fieldref 8 71), (0, .nameAndType 72 63), (0, u "pffK"), (0, .methodref 8 74), (0, .nameAndType 75 76), (0, u "access"), (0, u "(IIZI)I"), (0, .fieldref 8 78), (0, .nameAndType 79 63), (0, u "lastSt"), (0, .fieldref 8 81), (0, .nameAndType 82 63), (0, u "accFrame"), (0, .fieldref 8 84), (0, .nameAndType 85 63), (0, u "now"), (0, .methodref 8 87), (0, .nameAndType 88 89), (0, u "completeWriteBacks"), (0, u "()I"), (0, .methodref 8 91), (0, .nameAndType 92 93), (0, u "hit"), (0, u "(IIZI)V"), (0, .methodref 8 95), (0, .nameAndType 96 89), (0, u "sweep"), (0, .methodref 8 98), (0, .nameAndType 99 100), (0, u "load"), (0, u "(IIIZI)V"), (0, .fieldref 8 102), (0, .nameAndType 103 63), (0, u "hand"), (0, .methodref 8 105), (0, .nameAndType 106 107), (0, u "doSwapOut"), (0, u "(I)V"), (0, .methodref 8 109), (0, .nameAndType 110 107), (0, u "freeFrame"), (0, .methodref 8 112), (0, .nameAndType 113 114), (0, u "bitCount"), (0, u "(I)I"), (0, .methodref 8 116), (0, .nameAndType 117 89), (0, u "countFree"), (0, .methodref 8 119), (0, .nameAndType 120 107), (0, u "doSwapIn"), (0, .methodref 8 122), (0, .nameAndType 123 89), (0, u "lowestFree"), (0, .methodref 8 125), (0, .nameAndType 126 127), (0, u "decide"), (0, u "(ZIIIZ)I"), (0, u "ST_NONE"), (2, u "ST_HIT"), (1, u "ST_FAULT"), (1, u "ST_NOFRAME"), (1, u "ST_SWAPPED"), (1, u "ST_BAD"), (1, u "ST_OK"), (1, u "ST_NOT_SWAPPED"), (1, u "CTL_NONE"), (0, u "CTL_OUT"), (1, u "CTL_IN"), (1, u "PI_VT"), (0, u "PI_FAULTS"), (0, u "PI_STATE"), (0, u "PI_SAVED"), (0, u "PI_SF"), (0, u "PI_SA"), (0, u "(IIII)V"), (3, u "read"), (0, u "(II)I"), (0, u "write"), (0, u "lastStatus"), (0, u "tick"), (0, u "swapOut"), (0, u "swapIn"), (0, u "control"), (0, u "frameOf"), (3, u "procInfo"), (0, u "diskValue")] 2

def k2c0 : Code := { maxStack := 5, maxLocals := 6, code := prog_1_method_1_code, exceptionTable := #[], attributes := #[] }
def k2m0 : Method := { name := "<init>", desc := "(IIII)V", sig := { parameters := [.int, .int, .int, .int], returnType := none }, accessFlags := 1, code := some k2c0 }
def k2c1 : Code := { maxStack := 2, maxLocals := 4, code := prog_1_method_2_code, exceptionTable := #[], attributes := #[] }
def k2m1 : Method := { name := "clamp", desc := "(III)I", sig := { parameters := [.int, .int, .int], returnType := some .int }, accessFlags := 2, code := some k2c1 }
def k2c2 : Code := { maxStack := 5, maxLocals := 4, code := prog_1_method_3_code, exceptionTable := #[], attributes := #[] }
def k2m2 : Method := { name := "read", desc := "(II)I", sig := { parameters := [.int, .int], returnType := some .int }, accessFlags := 1, code := some k2c2 }
def k2c3 : Code := { maxStack := 5, maxLocals := 5, code := prog_1_method_4_code, exceptionTable := #[], attributes := #[] }
def k2m3 : Method := { name := "write", desc := "(III)I", sig := { parameters := [.int, .int, .int], returnType := some .int }, accessFlags := 1, code := some k2c3 }
def k2c4 : Code := { maxStack := 1, maxLocals := 1, code := prog_1_method_5_code, exceptionTable := #[], attributes := #[] }
def k2m4 : Method := { name := "lastStatus", desc := "()I", sig := { parameters := [], returnType := some .int }, accessFlags := 1, code := some k2c4 }
def k2c5 : Code := { maxStack := 3, maxLocals := 1, code := prog_1_method_6_code, exceptionTable := #[], attributes := #[] }
def k2m5 : Method := { name := "tick", desc := "()I", sig := { parameters := [], returnType := some .int }, accessFlags := 1, code := some k2c5 }
def k2c6 : Code := { maxStack := 6, maxLocals := 7, code := prog_1_method_7_code, exceptionTable := #[], attributes := #[] }
def k2m6 : Method := { name := "access", desc := "(IIZI)I", sig := { parameters := [.int, .int, .boolean, .int], returnType := some .int }, accessFlags := 2, code := some k2c6 }
def k2c7 : Code := { maxStack := 4, maxLocals := 5, code := prog_1_method_8_code, exceptionTable := #[], attributes := #[] }
def k2m7 : Method := { name := "hit", desc := "(IIZI)V", sig := { parameters := [.int, .int, .boolean, .int], returnType := none }, accessFlags := 2, code := some k2c7 }
def k2c8 : Code := { maxStack := 4, maxLocals := 5, code := prog_1_method_9_code, exceptionTable := #[], attributes := #[] }
def k2m8 : Method := { name := "sweep", desc := "()I", sig := { parameters := [], returnType := some .int }, accessFlags := 2, code := some k2c8 }
def k2c9 : Code := { maxStack := 5, maxLocals := 8, code := prog_1_method_10_code, exceptionTable := #[], attributes := #[] }
def k2m9 : Method := { name := "load", desc := "(IIIZI)V", sig := { parameters := [.int, .int, .int, .boolean, .int], returnType := none }, accessFlags := 2, code := some k2c9 }
def k2c10 : Code := { maxStack := 4, maxLocals := 4, code := prog_1_method_11_code, exceptionTable := #[], attributes := #[] }
def k2m10 : Method := { name := "completeWriteBacks", desc := "()I", sig := { parameters := [], returnType := some .int }, accessFlags := 2, code := some k2c10 }
def k2c11 : Code := { maxStack := 3, maxLocals := 2, code := prog_1_method_12_code, exceptionTable := #[], attributes := #[] }
def k2m11 : Method := { name := "freeFrame", desc := "(I)V", sig := { parameters := [.int], returnType := none }, accessFlags := 2, code := some k2c11 }
def k2c12 : Code := { maxStack := 2, maxLocals := 2, code := prog_1_method_13_code, exceptionTable := #[], attributes := #[] }
def k2m12 : Method := { name := "swapOut", desc := "(I)I", sig := { parameters := [.int], returnType := some .int }, accessFlags := 1, code := some k2c12 }
def k2c13 : Code := { maxStack := 5, maxLocals := 4, code := prog_1_method_14_code, exceptionTable := #[], attributes := #[] }
def k2m13 : Method := { name := "doSwapOut", desc := "(I)V", sig := { parameters := [.int], returnType := none }, accessFlags := 2, code := some k2c13 }
def k2c14 : Code := { maxStack := 3, maxLocals := 4, code := prog_1_method_15_code, exceptionTable := #[], attributes := #[] }
def k2m14 : Method := { name := "swapIn", desc := "(I)I", sig := { parameters := [.int], returnType := some .int }, accessFlags := 1, code := some k2c14 }
def k2c15 : Code := { maxStack := 5, maxLocals := 4, code := prog_1_method_16_code, exceptionTable := #[], attributes := #[] }
def k2m15 : Method := { name := "doSwapIn", desc := "(I)V", sig := { parameters := [.int], returnType := none }, accessFlags := 2, code := some k2c15 }
def k2c16 : Code := { maxStack := 2, maxLocals := 2, code := prog_1_method_17_code, exceptionTable := #[], attributes := #[] }
def k2m16 : Method := { name := "lowestFree", desc := "()I", sig := { parameters := [], returnType := some .int }, accessFlags := 2, code := some k2c16 }
def k2c17 : Code := { maxStack := 2, maxLocals := 3, code := prog_1_method_18_code, exceptionTable := #[], attributes := #[] }
def k2m17 : Method := { name := "countFree", desc := "()I", sig := { parameters := [], returnType := some .int }, accessFlags := 2, code := some k2c17 }
def k2c18 : Code := { maxStack := 3, maxLocals := 4, code := prog_1_method_19_code, exceptionTable := #[], attributes := #[] }
def k2m18 : Method := { name := "bitCount", desc := "(I)I", sig := { parameters := [.int], returnType := some .int }, accessFlags := 2, code := some k2c18 }
def k2c19 : Code := { maxStack := 6, maxLocals := 8, code := prog_1_method_20_code, exceptionTable := #[], attributes := #[] }
def k2m19 : Method := { name := "control", desc := "()I", sig := { parameters := [], returnType := some .int }, accessFlags := 1, code := some k2c19 }
def k2c20 : Code := { maxStack := 3, maxLocals := 8, code := prog_1_method_21_code, exceptionTable := #[], attributes := #[] }
def k2m20 : Method := { name := "decide", desc := "(ZIIIZ)I", sig := { parameters := [.boolean, .int, .int, .int, .boolean], returnType := some .int }, accessFlags := 2, code := some k2c20 }
def k2c21 : Code := { maxStack := 3, maxLocals := 3, code := prog_1_method_22_code, exceptionTable := #[], attributes := #[] }
def k2m21 : Method := { name := "frameOf", desc := "(II)I", sig := { parameters := [.int, .int], returnType := some .int }, accessFlags := 1, code := some k2c21 }
def k2c22 : Code := { maxStack := 2, maxLocals := 3, code := prog_1_method_28_code, exceptionTable := #[], attributes := #[] }
def k2m22 : Method := { name := "procInfo", desc := "(II)I", sig := { parameters := [.int, .int], returnType := some .int }, accessFlags := 1, code := some k2c22 }
def k2c23 : Code := { maxStack := 3, maxLocals := 3, code := prog_1_method_29_code, exceptionTable := #[], attributes := #[] }
def k2m23 : Method := { name := "diskValue", desc := "(II)I", sig := { parameters := [.int, .int], returnType := some .int }, accessFlags := 1, code := some k2c23 }
/-- WorkingSetPager -/
def k2 : Class := { plain "WorkingSetPager" (some 0) with
  accessFlags := 49
  interfaces := #[]
  cf := some (fileOf pool2 8 #[] #[{ accessFlags := 1, nameIndex := 5, descriptorIndex := 156, attributes := #[] }, { accessFlags := 2, nameIndex := 58, descriptorIndex := 59, attributes := #[] }, { accessFlags := 1, nameIndex := 160, descriptorIndex := 161, attributes := #[] }, { accessFlags := 1, nameIndex := 162, descriptorIndex := 59, attributes := #[] }, { accessFlags := 1, nameIndex := 163, descriptorIndex := 89, attributes := #[] }, { accessFlags := 1, nameIndex := 164, descriptorIndex := 89, attributes := #[] }, { accessFlags := 2, nameIndex := 75, descriptorIndex := 76, attributes := #[] }, { accessFlags := 2, nameIndex := 92, descriptorIndex := 93, attributes := #[] }, { accessFlags := 2, nameIndex := 96, descriptorIndex := 89, attributes := #[] }, { accessFlags := 2, nameIndex := 99, descriptorIndex := 100, attributes := #[] }, { accessFlags := 2, nameIndex := 88, descriptorIndex := 89, attributes := #[] }, { accessFlags := 2, nameIndex := 110, descriptorIndex := 107, attributes := #[] }, { accessFlags := 1, nameIndex := 165, descriptorIndex := 114, attributes := #[] }, { accessFlags := 2, nameIndex := 106, descriptorIndex := 107, attributes := #[] }, { accessFlags := 1, nameIndex := 166, descriptorIndex := 114, attributes := #[] }, { accessFlags := 2, nameIndex := 120, descriptorIndex := 107, attributes := #[] }, { accessFlags := 2, nameIndex := 123, descriptorIndex := 89, attributes := #[] }, { accessFlags := 2, nameIndex := 117, descriptorIndex := 89, attributes := #[] }, { accessFlags := 2, nameIndex := 113, descriptorIndex := 114, attributes := #[] }, { accessFlags := 1, nameIndex := 167, descriptorIndex := 89, attributes := #[] }, { accessFlags := 2, nameIndex := 126, descriptorIndex := 127, attributes := #[] }, { accessFlags := 1, nameIndex := 168, descriptorIndex := 161, attributes := #[] }, { accessFlags := 1, nameIndex := 172, descriptorIndex := 161, attributes := #[] }, { accessFlags := 1, nameIndex := 173, descriptorIndex := 161, attributes := #[] }] 49 2 #[] #[{ accessFlags := 25, nameIndex := 128, descriptorIndex := 63, attributes := #[] }, { accessFlags := 25, nameIndex := 131, descriptorIndex := 63, attributes := #[] }, { accessFlags := 25, nameIndex := 133, descriptorIndex := 63, attributes := #[] }, { accessFlags := 25, nameIndex := 135, descriptorIndex := 63, attributes := #[] }, { accessFlags := 25, nameIndex := 137, descriptorIndex := 63, attributes := #[] }, { accessFlags := 25, nameIndex := 139, descriptorIndex := 63, attributes := #[] }, { accessFlags := 25, nameIndex := 141, descriptorIndex := 63, attributes := #[] }, { accessFlags := 25, nameIndex := 143, descriptorIndex := 63, attributes := #[] }, { accessFlags := 25, nameIndex := 145, descriptorIndex := 63, attributes := #[] }, { accessFlags := 25, nameIndex := 146, descriptorIndex := 63, attributes := #[] }, { accessFlags := 25, nameIndex := 148, descriptorIndex := 63, attributes := #[] }, { accessFlags := 25, nameIndex := 150, descriptorIndex := 63, attributes := #[] }, { accessFlags := 25, nameIndex := 151, descriptorIndex := 63, attributes := #[] }, { accessFlags := 25, nameIndex := 152, descriptorIndex := 63, attributes := #[] }, { accessFlags := 25, nameIndex := 153, descriptorIndex := 63, attributes := #[] }, { accessFlags := 25, nameIndex := 154, descriptorIndex := 63, attributes := #[] }, { accessFlags := 25, nameIndex := 155, descriptorIndex := 63, attributes := #[] }, { accessFlags := 2, nameIndex := 62, descriptorIndex := 63, attributes := #[] }, { accessFlags := 2, nameIndex := 66, descriptorIndex := 63, attributes := #[] }, { accessFlags := 2, nameIndex := 69, descriptorIndex := 63, attributes := #[] }, { accessFlags := 2, nameIndex := 72, descriptorIndex := 63, attributes := #[] }, { accessFlags := 2, nameIndex := 85, descriptorIndex := 63, attributes := #[] }, { accessFlags := 2, nameIndex := 103, descriptorIndex := 63, attributes := #[] }, { accessFlags := 2, nameIndex := 79, descriptorIndex := 63, attributes := #[] }, { accessFlags := 2, nameIndex := 82, descriptorIndex := 63, attributes := #[] }, { accessFlags := 2, nameIndex := 11, descriptorIndex := 12, attributes := #[] }, { accessFlags := 2, nameIndex := 15, descriptorIndex := 12, attributes := #[] }, { accessFlags := 2, nameIndex := 18, descriptorIndex := 12, attributes := #[] }, { accessFlags := 2, nameIndex := 21, descriptorIndex := 12, attributes := #[] }, { accessFlags := 2, nameIndex := 24, descriptorIndex := 12, attributes := #[] }, { accessFlags := 2, nameIndex := 27, descriptorIndex := 12, attributes := #[] }, { accessFlags := 2, nameIndex := 30, descriptorIndex := 12, attributes := #[] }, { accessFlags := 2, nameIndex := 33, descriptorIndex := 12, attributes := #[] }, { accessFlags := 2, nameIndex := 36, descriptorIndex := 12, attributes := #[] }, { accessFlags := 2, nameIndex := 39, descriptorIndex := 40, attributes := #[] }, { accessFlags := 2, nameIndex := 43, descriptorIndex := 12, attributes := #[] }, { accessFlags := 2, nameIndex := 46, descriptorIndex := 12, attributes := #[] }, { accessFlags := 2, nameIndex := 49, descriptorIndex := 12, attributes := #[] }, { accessFlags := 2, nameIndex := 52, descriptorIndex := 12, attributes := #[] }, { accessFlags := 2, nameIndex := 55, descriptorIndex := 12, attributes := #[] }])
  fields := #[{ name := "ST_NONE", type := .int, accessFlags := 25, slot := 0, constantValue := 0 }, { name := "ST_HIT", type := .int, accessFlags := 25, slot := 1, constantValue := 0 }, { name := "ST_FAULT", type := .int, accessFlags := 25, slot := 2, constantValue := 0 }, { name := "ST_NOFRAME", type := .int, accessFlags := 25, slot := 3, constantValue := 0 }, { name := "ST_SWAPPED", type := .int, accessFlags := 25, slot := 4, constantValue := 0 }, { name := "ST_BAD", type := .int, accessFlags := 25, slot := 5, constantValue := 0 }, { name := "ST_OK", type := .int, accessFlags := 25, slot := 6, constantValue := 0 }, { name := "ST_NOT_SWAPPED", type := .int, accessFlags := 25, slot := 7, constantValue := 0 }, { name := "CTL_NONE", type := .int, accessFlags := 25, slot := 8, constantValue := 0 }, { name := "CTL_OUT", type := .int, accessFlags := 25, slot := 9, constantValue := 0 }, { name := "CTL_IN", type := .int, accessFlags := 25, slot := 10, constantValue := 0 }, { name := "PI_VT", type := .int, accessFlags := 25, slot := 11, constantValue := 0 }, { name := "PI_FAULTS", type := .int, accessFlags := 25, slot := 12, constantValue := 0 }, { name := "PI_STATE", type := .int, accessFlags := 25, slot := 13, constantValue := 0 }, { name := "PI_SAVED", type := .int, accessFlags := 25, slot := 14, constantValue := 0 }, { name := "PI_SF", type := .int, accessFlags := 25, slot := 15, constantValue := 0 }, { name := "PI_SA", type := .int, accessFlags := 25, slot := 16, constantValue := 0 }, { name := "nF", type := .int, accessFlags := 2, slot := 0, constantValue := 0 }, { name := "win", type := .int, accessFlags := 2, slot := 1, constantValue := 0 }, { name := "delay", type := .int, accessFlags := 2, slot := 2, constantValue := 0 }, { name := "pffK", type := .int, accessFlags := 2, slot := 3, constantValue := 0 }, { name := "now", type := .int, accessFlags := 2, slot := 4, constantValue := 0 }, { name := "hand", type := .int, accessFlags := 2, slot := 5, constantValue := 0 }, { name := "lastSt", type := .int, accessFlags := 2, slot := 6, constantValue := 0 }, { name := "accFrame", type := .int, accessFlags := 2, slot := 7, constantValue := 0 }, { name := "disk", type := (.array .int), accessFlags := 2, slot := 8, constantValue := 0 }, { name := "where", type := (.array .int), accessFlags := 2, slot := 9, constantValue := 0 }, { name := "fOwner", type := (.array .int), accessFlags := 2, slot := 10, constantValue := 0 }, { name := "fPage", type := (.array .int), accessFlags := 2, slot := 11, constantValue := 0 }, { name := "fValue", type := (.array .int), accessFlags := 2, slot := 12, constantValue := 0 }, { name := "fDirty", type := (.array .int), accessFlags := 2, slot := 13, constantValue := 0 }, { name := "fRef", type := (.array .int), accessFlags := 2, slot := 14, constantValue := 0 }, { name := "fLast", type := (.array .int), accessFlags := 2, slot := 15, constantValue := 0 }, { name := "fDue", type := (.array .int), accessFlags := 2, slot := 16, constantValue := 0 }, { name := "swapped", type := (.array .boolean), accessFlags := 2, slot := 17, constantValue := 0 }, { name := "vt", type := (.array .int), accessFlags := 2, slot := 18, constantValue := 0 }, { name := "faults", type := (.array .int), accessFlags := 2, slot := 19, constantValue := 0 }, { name := "saved", type := (.array .int), accessFlags := 2, slot := 20, constantValue := 0 }, { name := "sf", type := (.array .int), accessFlags := 2, slot := 21, constantValue := 0 }, { name := "sa", type := (.array .int), accessFlags := 2, slot := 22, constantValue := 0 }]
  methods := #[k2m0, k2m1, k2m2, k2m3, k2m4, k2m5, k2m6, k2m7, k2m8, k2m9, k2m10, k2m11, k2m12, k2m13, k2m14, k2m15, k2m16, k2m17, k2m18, k2m19, k2m20, k2m21, k2m22, k2m23]
  instanceTypes := #[.int, .int, .int, .int, .int, .int, .int, .int, (.array .int), (.array .int), (.array .int), (.array .int), (.array .int), (.array .int), (.array .int), (.array .int), (.array .int), (.array .boolean), (.array .int), (.array .int), (.array .int), (.array .int), (.array .int)]
  staticTypes := #[.int, .int, .int, .int, .int, .int, .int, .int, .int, .int, .int, .int, .int, .int, .int, .int, .int]
  resolved := Array.replicate 176 none
  statics := none }

def pool3 : Array CpInfo := pool [(1, u "java/lang/Cloneable"), (0, .class_ 1), (0, u "java/lang/Object"), (0, .class_ 3)] 3

/-- java/lang/Cloneable -/
def k3 : Class := { plain "java/lang/Cloneable" (some 0) with
  accessFlags := 1537
  interfaces := #[]
  cf := some (fileOf pool3 2 #[] #[] 1537 4 #[] #[])
  fields := #[]
  methods := #[]
  instanceTypes := #[]
  staticTypes := #[]
  resolved := Array.replicate 8 none
  statics := none }

def pool4 : Array CpInfo := pool [(1, u "java/io/Serializable"), (0, .class_ 1), (0, u "java/lang/Object"), (0, .class_ 3)] 3

/-- java/io/Serializable -/
def k4 : Class := { plain "java/io/Serializable" (some 0) with
  accessFlags := 1537
  interfaces := #[]
  cf := some (fileOf pool4 2 #[] #[] 1537 4 #[] #[])
  fields := #[]
  methods := #[]
  instanceTypes := #[]
  staticTypes := #[]
  resolved := Array.replicate 8 none
  statics := none }

/-- the primitive boolean -/
def k5 : Class := { plain "boolean" none with kind := .primitive 'Z', accessFlags := 0x411 }
/-- [Z -/
def k6 : Class := { plain "[Z" (some 0) with kind := .array 5 .boolean, interfaces := #[3, 4], accessFlags := 1041 }

/-- the primitive byte -/
def k7 : Class := { plain "byte" none with kind := .primitive 'B', accessFlags := 0x411 }
/-- [B -/
def k8 : Class := { plain "[B" (some 0) with kind := .array 7 .byte, interfaces := #[3, 4], accessFlags := 1041 }

/-- the primitive int -/
def k9 : Class := { plain "int" none with kind := .primitive 'I', accessFlags := 0x411 }
/-- [I -/
def k10 : Class := { plain "[I" (some 0) with kind := .array 9 .int, interfaces := #[3, 4], accessFlags := 1041 }

def heap : Heap := #[{ cls := 10, slots := #[.int 1, .int 2, .int 3], vm := .none }]
def classes : Array Class := #[k0, k1, k2, k3, k4, k5, k6, k7, k8, k9, k10]
def interned : List (Array UInt16 × Addr) := []
def slotsUsed : Nat := 3
def theMethod : MethodId := ⟨1, 4⟩
def args0 : Array Value := #[.ref 0]
def aboutOver (below : List Frame) : State where
  vm := { classes := classes, interned := interned.toArray }
  heap := heap
  slotsUsed := slotsUsed
  threads := #[{ frames := .invoking theMethod args0 :: below }]
def below0 : List Frame := [.native { method := ⟨0, 0⟩, args := #[] }]
def about1 : State := aboutOver below0
def p0 : Program := .bare "" "" ""
def e0 : Env := launch0.env 0 0 0
theorem w_frames : about1.frames = Frame.invoking theMethod args0 :: below0 := rfl
set_option maxRecDepth 65536 in
theorem w_args : argsFit about1.vm theMethod args0 = true := by decide +kernel
set_option maxRecDepth 65536 in
theorem w_heap : heapFits about1 = true := by decide +kernel
set_option maxRecDepth 65536 in
theorem w_runnable : about1.curStatus? = some .runnable := by decide +kernel
set_option maxRecDepth 65536 in
theorem w_alone : about1.alone = true := by decide +kernel
set_option maxRecDepth 65536 in
theorem w_named : about1.methodNamed? x = some theMethod := by decide +kernel
set_option maxRecDepth 65536 in
theorem w_hears : about1.hears theMethod below0 = true := by decide +kernel
set_option maxRecDepth 65536 in
theorem w_ripe : about1.ripe theMethod args0 below0 = true := by decide +kernel
theorem w_running : about1.status = .running := rfl
set_option maxRecDepth 65536 in
theorem w_room : about1.hasRoom e0.platform room_1 = true :=
  launch0.hasRoom_least _ room_1 (by decide +kernel) (by decide +kernel) (by decide +kernel) (by decide +kernel) (by decide +kernel) (by decide +kernel)
theorem allAtoms_all (ts : List Jvm.Cond) (a : Array Jvm.Value) (st : Jvm.State) : (allAtoms ts).before a st = ts.all (fun c => c.before a st) := by
  induction ts with
  | nil => rfl
  | cons c t ih =>
    show (Jvm.Cond.and c (allAtoms t)).before a st = _
    rw [Jvm.Cond.before_and, ih, List.all_cons]
def words1 : List Jvm.Cond := Jvm.Cond.code x code maxLocals ret :: tables_1
/-- a 'code' word, met by the world's own term for the bytes: nothing is compared byte by byte -/
theorem code_word {y : MethodName} {bytes : ByteArray} {mx : Nat} {rt : Option FieldType} {a : Array Value} {s : State} {m : MethodId} {meth : Method} {c : Code} (h1 : s.methodNamed? y = some m) (h2 : s.vm.method? m = some meth) (h3 : meth.code = some c) (h4 : c.code = bytes)
    (h5 : (c.maxLocals == mx && c.exceptionTable.isEmpty && decide (c.maxStack ≤ mostOperands) && decide (meth.sig.returnType = rt) && !meth.locks && decide (parseMethodDescriptor y.desc = some meth.sig)) = true) : (Jvm.Cond.code y bytes mx rt).before a s = true := by
  simp only [Bool.and_eq_true, beq_iff_eq, Bool.not_eq_true', decide_eq_true_eq] at h5
  obtain ⟨⟨⟨⟨⟨g1, g2⟩, g3⟩, g4⟩, g5⟩, g6⟩ := h5
  simp [Cond.before, Cond.holds, Cond.value, h1, h2, h3, h4, g1, g2, g3, g4, g5, g6]
def isCode : Jvm.Cond → Bool
  | .code _ _ _ _ => true
  | _ => false
theorem all_split {L : List Jvm.Cond} {P : Jvm.Cond → Bool} (h1 : L.all (fun c => isCode c || P c) = true) (h2 : ∀ c ∈ L.filter isCode, P c = true) : L.all P = true := by
  refine List.all_eq_true.mpr fun c hc => ?_
  have h := List.all_eq_true.mp h1 c hc
  rcases Bool.eq_false_or_eq_true (isCode c) with hi | hi
  · exact h2 c (List.mem_filter.mpr ⟨hc, hi⟩)
  · simpa [hi] using h
set_option maxRecDepth 65536 in
theorem w_c0 : (Jvm.Cond.code x code maxLocals ret).before args0 about1 = true := code_word (m := ⟨1, 4⟩) (meth := k1m4) (c := k1c4) (by decide +kernel) rfl rfl rfl (by decide +kernel)
set_option maxRecDepth 65536 in
theorem w_c1 : (Jvm.Cond.code ({ cls := "WorkingSetPagerOwnLaw", name := "cell", desc := "([II)I" } : Jvm.MethodName) method_2_code (2 : Nat) (Option.some Jvm.ClassFile.FieldType.int)).before args0 about1 = true := code_word (m := ⟨1, 1⟩) (meth := k1m1) (c := k1c1) (by decide +kernel) rfl rfl rfl (by decide +kernel)
set_option maxRecDepth 65536 in
theorem w_c2 : (Jvm.Cond.code ({ cls := "WorkingSetPager", name := "<init>", desc := "(IIII)V" } : Jvm.MethodName) prog_1_method_1_code (6 : Nat) (Option.none : Option Jvm.ClassFile.FieldType)).before args0 about1 = true := code_word (m := ⟨2, 0⟩) (meth := k2m0) (c := k2c0) (by decide +kernel) rfl rfl rfl (by decide +kernel)
set_option maxRecDepth 65536 in
theorem w_c3 : (Jvm.Cond.code ({ cls := "java/lang/Object", name := "<init>", desc := "()V" } : Jvm.MethodName) object_method_1_code (1 : Nat) (Option.none : Option Jvm.ClassFile.FieldType)).before args0 about1 = true := code_word (m := ⟨0, 0⟩) (meth := k0m0) (c := k0c0) (by decide +kernel) rfl rfl rfl (by decide +kernel)
set_option maxRecDepth 65536 in
theorem w_c4 : (Jvm.Cond.code ({ cls := "WorkingSetPager", name := "clamp", desc := "(III)I" } : Jvm.MethodName) prog_1_method_2_code (4 : Nat) (Option.some Jvm.ClassFile.FieldType.int)).before args0 about1 = true := code_word (m := ⟨2, 1⟩) (meth := k2m1) (c := k2c1) (by decide +kernel) rfl rfl rfl (by decide +kernel)
set_option maxRecDepth 65536 in
theorem w_c5 : (Jvm.Cond.code ({ cls := "WorkingSetPager", name := "frameOf", desc := "(II)I" } : Jvm.MethodName) prog_1_method_22_code (3 : Nat) (Option.some Jvm.ClassFile.FieldType.int)).before args0 about1 = true := code_word (m := ⟨2, 21⟩) (meth := k2m21) (c := k2c21) (by decide +kernel) rfl rfl rfl (by decide +kernel)
set_option maxRecDepth 65536 in
theorem w_c6 : (Jvm.Cond.code ({ cls := "WorkingSetPagerOwnLaw", name := "put", desc := "(JIII)J" } : Jvm.MethodName) method_4_code (7 : Nat) (Option.some Jvm.ClassFile.FieldType.long)).before args0 about1 = true := code_word (m := ⟨1, 3⟩) (meth := k1m3) (c := k1c3) (by decide +kernel) rfl rfl rfl (by decide +kernel)
set_option maxRecDepth 65536 in
theorem w_c7 : (Jvm.Cond.code ({ cls := "WorkingSetPager", name := "procInfo", desc := "(II)I" } : Jvm.MethodName) prog_1_method_28_code (3 : Nat) (Option.some Jvm.ClassFile.FieldType.int)).before args0 about1 = true := code_word (m := ⟨2, 22⟩) (meth := k2m22) (c := k2c22) (by decide +kernel) rfl rfl rfl (by decide +kernel)
set_option maxRecDepth 65536 in
theorem w_c8 : (Jvm.Cond.code ({ cls := "WorkingSetPager", name := "write", desc := "(III)I" } : Jvm.MethodName) prog_1_method_4_code (5 : Nat) (Option.some Jvm.ClassFile.FieldType.int)).before args0 about1 = true := code_word (m := ⟨2, 3⟩) (meth := k2m3) (c := k2c3) (by decide +kernel) rfl rfl rfl (by decide +kernel)
set_option maxRecDepth 65536 in
theorem w_c9 : (Jvm.Cond.code ({ cls := "WorkingSetPager", name := "access", desc := "(IIZI)I" } : Jvm.MethodName) prog_1_method_7_code (7 : Nat) (Option.some Jvm.ClassFile.FieldType.int)).before args0 about1 = true := code_word (m := ⟨2, 6⟩) (meth := k2m6) (c := k2c6) (by decide +kernel) rfl rfl rfl (by decide +kernel)
set_option maxRecDepth 65536 in
theorem w_c10 : (Jvm.Cond.code ({ cls := "WorkingSetPager", name := "completeWriteBacks", desc := "()I" } : Jvm.MethodName) prog_1_method_11_code (4 : Nat) (Option.some Jvm.ClassFile.FieldType.int)).before args0 about1 = true := code_word (m := ⟨2, 10⟩) (meth := k2m10) (c := k2c10) (by decide +kernel) rfl rfl rfl (by decide +kernel)
set_option maxRecDepth 65536 in
theorem w_c11 : (Jvm.Cond.code ({ cls := "WorkingSetPager", name := "sweep", desc := "()I" } : Jvm.MethodName) prog_1_method_9_code (5 : Nat) (Option.some Jvm.ClassFile.FieldType.int)).before args0 about1 = true := code_word (m := ⟨2, 8⟩) (meth := k2m8) (c := k2c8) (by decide +kernel) rfl rfl rfl (by decide +kernel)
set_option maxRecDepth 65536 in
theorem w_c12 : (Jvm.Cond.code ({ cls := "WorkingSetPager", name := "load", desc := "(IIIZI)V" } : Jvm.MethodName) prog_1_method_10_code (8 : Nat) (Option.none : Option Jvm.ClassFile.FieldType)).before args0 about1 = true := code_word (m := ⟨2, 9⟩) (meth := k2m9) (c := k2c9) (by decide +kernel) rfl rfl rfl (by decide +kernel)
set_option maxRecDepth 65536 in
theorem w_c13 : (Jvm.Cond.code ({ cls := "WorkingSetPager", name := "lastStatus", desc := "()I" } : Jvm.MethodName) prog_1_method_5_code (1 : Nat) (Option.some Jvm.ClassFile.FieldType.int)).before args0 about1 = true := code_word (m := ⟨2, 4⟩) (meth := k2m4) (c := k2c4) (by decide +kernel) rfl rfl rfl (by decide +kernel)
set_option maxRecDepth 65536 in
theorem w_c14 : (Jvm.Cond.code ({ cls := "WorkingSetPagerOwnLaw", name := "get", desc := "(JII)I" } : Jvm.MethodName) method_3_code (4 : Nat) (Option.some Jvm.ClassFile.FieldType.int)).before args0 about1 = true := code_word (m := ⟨1, 2⟩) (meth := k1m2) (c := k1c2) (by decide +kernel) rfl rfl rfl (by decide +kernel)
set_option maxRecDepth 65536 in
theorem w_c15 : (Jvm.Cond.code ({ cls := "WorkingSetPager", name := "read", desc := "(II)I" } : Jvm.MethodName) prog_1_method_3_code (4 : Nat) (Option.some Jvm.ClassFile.FieldType.int)).before args0 about1 = true := code_word (m := ⟨2, 2⟩) (meth := k2m2) (c := k2c2) (by decide +kernel) rfl rfl rfl (by decide +kernel)
set_option maxRecDepth 65536 in
theorem w_c16 : (Jvm.Cond.code ({ cls := "WorkingSetPager", name := "hit", desc := "(IIZI)V" } : Jvm.MethodName) prog_1_method_8_code (5 : Nat) (Option.none : Option Jvm.ClassFile.FieldType)).before args0 about1 = true := code_word (m := ⟨2, 7⟩) (meth := k2m7) (c := k2c7) (by decide +kernel) rfl rfl rfl (by decide +kernel)
set_option maxRecDepth 65536 in
theorem w_c17 : (Jvm.Cond.code ({ cls := "WorkingSetPager", name := "tick", desc := "()I" } : Jvm.MethodName) prog_1_method_6_code (1 : Nat) (Option.some Jvm.ClassFile.FieldType.int)).before args0 about1 = true := code_word (m := ⟨2, 5⟩) (meth := k2m5) (c := k2c5) (by decide +kernel) rfl rfl rfl (by decide +kernel)
set_option maxRecDepth 65536 in
theorem w_c18 : (Jvm.Cond.code ({ cls := "WorkingSetPager", name := "control", desc := "()I" } : Jvm.MethodName) prog_1_method_20_code (8 : Nat) (Option.some Jvm.ClassFile.FieldType.int)).before args0 about1 = true := code_word (m := ⟨2, 19⟩) (meth := k2m19) (c := k2c19) (by decide +kernel) rfl rfl rfl (by decide +kernel)
set_option maxRecDepth 65536 in
theorem w_c19 : (Jvm.Cond.code ({ cls := "WorkingSetPager", name := "decide", desc := "(ZIIIZ)I" } : Jvm.MethodName) prog_1_method_21_code (8 : Nat) (Option.some Jvm.ClassFile.FieldType.int)).before args0 about1 = true := code_word (m := ⟨2, 20⟩) (meth := k2m20) (c := k2c20) (by decide +kernel) rfl rfl rfl (by decide +kernel)
set_option maxRecDepth 65536 in
theorem w_c20 : (Jvm.Cond.code ({ cls := "WorkingSetPager", name := "swapIn", desc := "(I)I" } : Jvm.MethodName) prog_1_method_15_code (4 : Nat) (Option.some Jvm.ClassFile.FieldType.int)).before args0 about1 = true := code_word (m := ⟨2, 14⟩) (meth := k2m14) (c := k2c14) (by decide +kernel) rfl rfl rfl (by decide +kernel)
set_option maxRecDepth 65536 in
theorem w_c21 : (Jvm.Cond.code ({ cls := "WorkingSetPager", name := "doSwapOut", desc := "(I)V" } : Jvm.MethodName) prog_1_method_14_code (4 : Nat) (Option.none : Option Jvm.ClassFile.FieldType)).before args0 about1 = true := code_word (m := ⟨2, 13⟩) (meth := k2m13) (c := k2c13) (by decide +kernel) rfl rfl rfl (by decide +kernel)
set_option maxRecDepth 65536 in
theorem w_c22 : (Jvm.Cond.code ({ cls := "WorkingSetPager", name := "freeFrame", desc := "(I)V" } : Jvm.MethodName) prog_1_method_12_code (2 : Nat) (Option.none : Option Jvm.ClassFile.FieldType)).before args0 about1 = true := code_word (m := ⟨2, 11⟩) (meth := k2m11) (c := k2c11) (by decide +kernel) rfl rfl rfl (by decide +kernel)
set_option maxRecDepth 65536 in
theorem w_c23 : (Jvm.Cond.code ({ cls := "WorkingSetPager", name := "swapOut", desc := "(I)I" } : Jvm.MethodName) prog_1_method_13_code (2 : Nat) (Option.some Jvm.ClassFile.FieldType.int)).before args0 about1 = true := code_word (m := ⟨2, 12⟩) (meth := k2m12) (c := k2c12) (by decide +kernel) rfl rfl rfl (by decide +kernel)
set_option maxRecDepth 65536 in
theorem w_c24 : (Jvm.Cond.code ({ cls := "WorkingSetPager", name := "bitCount", desc := "(I)I" } : Jvm.MethodName) prog_1_method_19_code (4 : Nat) (Option.some Jvm.ClassFile.FieldType.int)).before args0 about1 = true := code_word (m := ⟨2, 18⟩) (meth := k2m18) (c := k2c18) (by decide +kernel) rfl rfl rfl (by decide +kernel)
set_option maxRecDepth 65536 in
theorem w_c25 : (Jvm.Cond.code ({ cls := "WorkingSetPager", name := "countFree", desc := "()I" } : Jvm.MethodName) prog_1_method_18_code (3 : Nat) (Option.some Jvm.ClassFile.FieldType.int)).before args0 about1 = true := code_word (m := ⟨2, 17⟩) (meth := k2m17) (c := k2c17) (by decide +kernel) rfl rfl rfl (by decide +kernel)
set_option maxRecDepth 65536 in
theorem w_c26 : (Jvm.Cond.code ({ cls := "WorkingSetPager", name := "doSwapIn", desc := "(I)V" } : Jvm.MethodName) prog_1_method_16_code (4 : Nat) (Option.none : Option Jvm.ClassFile.FieldType)).before args0 about1 = true := code_word (m := ⟨2, 15⟩) (meth := k2m15) (c := k2c15) (by decide +kernel) rfl rfl rfl (by decide +kernel)
set_option maxRecDepth 65536 in
theorem w_c27 : (Jvm.Cond.code ({ cls := "WorkingSetPager", name := "lowestFree", desc := "()I" } : Jvm.MethodName) prog_1_method_17_code (2 : Nat) (Option.some Jvm.ClassFile.FieldType.int)).before args0 about1 = true := code_word (m := ⟨2, 16⟩) (meth := k2m16) (c := k2c16) (by decide +kernel) rfl rfl rfl (by decide +kernel)
set_option maxRecDepth 65536 in
theorem w_c28 : (Jvm.Cond.code ({ cls := "WorkingSetPager", name := "diskValue", desc := "(II)I" } : Jvm.MethodName) prog_1_method_29_code (3 : Nat) (Option.some Jvm.ClassFile.FieldType.int)).before args0 about1 = true := code_word (m := ⟨2, 23⟩) (meth := k2m23) (c := k2c23) (by decide +kernel) rfl rfl rfl (by decide +kernel)
def codes1 : List Jvm.Cond := [Jvm.Cond.code x code maxLocals ret, Jvm.Cond.code ({ cls := "WorkingSetPagerOwnLaw", name := "cell", desc := "([II)I" } : Jvm.MethodName) method_2_code (2 : Nat) (Option.some Jvm.ClassFile.FieldType.int), Jvm.Cond.code ({ cls := "WorkingSetPager", name := "<init>", desc := "(IIII)V" } : Jvm.MethodName) prog_1_method_1_code (6 : Nat) (Option.none : Option Jvm.ClassFile.FieldType), Jvm.Cond.code ({ cls := "java/lang/Object", name := "<init>", desc := "()V" } : Jvm.MethodName) object_method_1_code (1 : Nat) (Option.none : Option Jvm.ClassFile.FieldType), Jvm.Cond.code ({ cls := "WorkingSetPager", name := "clamp", desc := "(III)I" } : Jvm.MethodName) prog_1_method_2_code (4 : Nat) (Option.some Jvm.ClassFile.FieldType.int), Jvm.Cond.code ({ cls := "WorkingSetPager", name := "frameOf", desc := "(II)I" } : Jvm.MethodName) prog_1_method_22_code (3 : Nat) (Option.some Jvm.ClassFile.FieldType.int), Jvm.Cond.code ({ cls := "WorkingSetPagerOwnLaw", name := "put", desc := "(JIII)J" } : Jvm.MethodName) method_4_code (7 : Nat) (Option.some Jvm.ClassFile.FieldType.long), Jvm.Cond.code ({ cls := "WorkingSetPager", name := "procInfo", desc := "(II)I" } : Jvm.MethodName) prog_1_method_28_code (3 : Nat) (Option.some Jvm.ClassFile.FieldType.int), Jvm.Cond.code ({ cls := "WorkingSetPager", name := "write", desc := "(III)I" } : Jvm.MethodName) prog_1_method_4_code (5 : Nat) (Option.some Jvm.ClassFile.FieldType.int), Jvm.Cond.code ({ cls := "WorkingSetPager", name := "access", desc := "(IIZI)I" } : Jvm.MethodName) prog_1_method_7_code (7 : Nat) (Option.some Jvm.ClassFile.FieldType.int), Jvm.Cond.code ({ cls := "WorkingSetPager", name := "completeWriteBacks", desc := "()I" } : Jvm.MethodName) prog_1_method_11_code (4 : Nat) (Option.some Jvm.ClassFile.FieldType.int), Jvm.Cond.code ({ cls := "WorkingSetPager", name := "sweep", desc := "()I" } : Jvm.MethodName) prog_1_method_9_code (5 : Nat) (Option.some Jvm.ClassFile.FieldType.int), Jvm.Cond.code ({ cls := "WorkingSetPager", name := "load", desc := "(IIIZI)V" } : Jvm.MethodName) prog_1_method_10_code (8 : Nat) (Option.none : Option Jvm.ClassFile.FieldType), Jvm.Cond.code ({ cls := "WorkingSetPager", name := "lastStatus", desc := "()I" } : Jvm.MethodName) prog_1_method_5_code (1 : Nat) (Option.some Jvm.ClassFile.FieldType.int), Jvm.Cond.code ({ cls := "WorkingSetPagerOwnLaw", name := "get", desc := "(JII)I" } : Jvm.MethodName) method_3_code (4 : Nat) (Option.some Jvm.ClassFile.FieldType.int), Jvm.Cond.code ({ cls := "WorkingSetPager", name := "read", desc := "(II)I" } : Jvm.MethodName) prog_1_method_3_code (4 : Nat) (Option.some Jvm.ClassFile.FieldType.int), Jvm.Cond.code ({ cls := "WorkingSetPager", name := "hit", desc := "(IIZI)V" } : Jvm.MethodName) prog_1_method_8_code (5 : Nat) (Option.none : Option Jvm.ClassFile.FieldType), Jvm.Cond.code ({ cls := "WorkingSetPager", name := "tick", desc := "()I" } : Jvm.MethodName) prog_1_method_6_code (1 : Nat) (Option.some Jvm.ClassFile.FieldType.int), Jvm.Cond.code ({ cls := "WorkingSetPager", name := "control", desc := "()I" } : Jvm.MethodName) prog_1_method_20_code (8 : Nat) (Option.some Jvm.ClassFile.FieldType.int), Jvm.Cond.code ({ cls := "WorkingSetPager", name := "decide", desc := "(ZIIIZ)I" } : Jvm.MethodName) prog_1_method_21_code (8 : Nat) (Option.some Jvm.ClassFile.FieldType.int), Jvm.Cond.code ({ cls := "WorkingSetPager", name := "swapIn", desc := "(I)I" } : Jvm.MethodName) prog_1_method_15_code (4 : Nat) (Option.some Jvm.ClassFile.FieldType.int), Jvm.Cond.code ({ cls := "WorkingSetPager", name := "doSwapOut", desc := "(I)V" } : Jvm.MethodName) prog_1_method_14_code (4 : Nat) (Option.none : Option Jvm.ClassFile.FieldType), Jvm.Cond.code ({ cls := "WorkingSetPager", name := "freeFrame", desc := "(I)V" } : Jvm.MethodName) prog_1_method_12_code (2 : Nat) (Option.none : Option Jvm.ClassFile.FieldType), Jvm.Cond.code ({ cls := "WorkingSetPager", name := "swapOut", desc := "(I)I" } : Jvm.MethodName) prog_1_method_13_code (2 : Nat) (Option.some Jvm.ClassFile.FieldType.int), Jvm.Cond.code ({ cls := "WorkingSetPager", name := "bitCount", desc := "(I)I" } : Jvm.MethodName) prog_1_method_19_code (4 : Nat) (Option.some Jvm.ClassFile.FieldType.int), Jvm.Cond.code ({ cls := "WorkingSetPager", name := "countFree", desc := "()I" } : Jvm.MethodName) prog_1_method_18_code (3 : Nat) (Option.some Jvm.ClassFile.FieldType.int), Jvm.Cond.code ({ cls := "WorkingSetPager", name := "doSwapIn", desc := "(I)V" } : Jvm.MethodName) prog_1_method_16_code (4 : Nat) (Option.none : Option Jvm.ClassFile.FieldType), Jvm.Cond.code ({ cls := "WorkingSetPager", name := "lowestFree", desc := "()I" } : Jvm.MethodName) prog_1_method_17_code (2 : Nat) (Option.some Jvm.ClassFile.FieldType.int), Jvm.Cond.code ({ cls := "WorkingSetPager", name := "diskValue", desc := "(II)I" } : Jvm.MethodName) prog_1_method_29_code (3 : Nat) (Option.some Jvm.ClassFile.FieldType.int)]
set_option maxRecDepth 65536 in
theorem codes_eq : words1.filter isCode = codes1 := rfl
theorem w_codes : ∀ c ∈ words1.filter isCode, c.before args0 about1 = true := by
  rw [codes_eq]
  intro c hc
  simp only [codes1, List.mem_cons, List.not_mem_nil, or_false] at hc
  rcases hc with rfl | rfl | rfl | rfl | rfl | rfl | rfl | rfl | rfl | rfl | rfl | rfl | rfl | rfl | rfl | rfl | rfl | rfl | rfl | rfl | rfl | rfl | rfl | rfl | rfl | rfl | rfl | rfl | rfl
  · exact w_c0
  · exact w_c1
  · exact w_c2
  · exact w_c3
  · exact w_c4
  · exact w_c5
  · exact w_c6
  · exact w_c7
  · exact w_c8
  · exact w_c9
  · exact w_c10
  · exact w_c11
  · exact w_c12
  · exact w_c13
  · exact w_c14
  · exact w_c15
  · exact w_c16
  · exact w_c17
  · exact w_c18
  · exact w_c19
  · exact w_c20
  · exact w_c21
  · exact w_c22
  · exact w_c23
  · exact w_c24
  · exact w_c25
  · exact w_c26
  · exact w_c27
  · exact w_c28
set_option maxRecDepth 65536 in
theorem w_t1 : (words1.take 24).all (fun c => isCode c || c.before args0 about1) = true := by decide +kernel
set_option maxRecDepth 65536 in
theorem w_t2 : ((words1.drop 24).take 24).all (fun c => isCode c || c.before args0 about1) = true := by decide +kernel
set_option maxRecDepth 65536 in
theorem w_t3 : (((words1.drop 24).drop 24).take 24).all (fun c => isCode c || c.before args0 about1) = true := by decide +kernel
set_option maxRecDepth 65536 in
theorem w_t4 : ((((words1.drop 24).drop 24).drop 24).take 24).all (fun c => isCode c || c.before args0 about1) = true := by decide +kernel
set_option maxRecDepth 65536 in
theorem w_t5 : (((((words1.drop 24).drop 24).drop 24).drop 24).take 24).all (fun c => isCode c || c.before args0 about1) = true := by decide +kernel
set_option maxRecDepth 65536 in
theorem w_t6 : ((((((words1.drop 24).drop 24).drop 24).drop 24).drop 24).take 24).all (fun c => isCode c || c.before args0 about1) = true := by decide +kernel
set_option maxRecDepth 65536 in
theorem w_t7 : (((((((words1.drop 24).drop 24).drop 24).drop 24).drop 24).drop 24).take 24).all (fun c => isCode c || c.before args0 about1) = true := by decide +kernel
set_option maxRecDepth 65536 in
theorem w_t8 : (((((((words1.drop 24).drop 24).drop 24).drop 24).drop 24).drop 24).drop 24).all (fun c => isCode c || c.before args0 about1) = true := by decide +kernel
theorem w_tables : (allAtoms (Jvm.Cond.code x code maxLocals ret :: tables_1)).before args0 about1 = true := by
  rw [allAtoms_all]
  show words1.all (fun c => c.before args0 about1) = true
  refine all_split ?_ w_codes
  rw [← List.take_append_drop 24 words1, List.all_append, w_t1, ← List.take_append_drop 24 (words1.drop 24), List.all_append, w_t2, ← List.take_append_drop 24 ((words1.drop 24).drop 24), List.all_append, w_t3, ← List.take_append_drop 24 (((words1.drop 24).drop 24).drop 24), List.all_append, w_t4, ← List.take_append_drop 24 ((((words1.drop 24).drop 24).drop 24).drop 24), List.all_append, w_t5, ← List.take_append_drop 24 (((((words1.drop 24).drop 24).drop 24).drop 24).drop 24), List.all_append, w_t6, ← List.take_append_drop 24 ((((((words1.drop 24).drop 24).drop 24).drop 24).drop 24).drop 24), List.all_append, w_t7, w_t8]
  rfl
set_option maxRecDepth 65536 in
theorem w_rest : rest_1_c.before args0 about1 = true := by decide +kernel
set_option maxRecDepth 65536 in
theorem w_case : (Jvm.Cond.and given_1 narrow_1).before args0 about1 = true := by decide +kernel
theorem w_applies : (headSpec (Jvm.Cond.code x code maxLocals ret :: tables_1) room_1).applies x e0.platform about1 = true :=
  (Spec.applies_iff w_frames).mpr ⟨w_running, w_runnable, w_alone, w_named, w_hears, w_ripe, w_room, w_tables⟩
theorem atStart : AtStart classFile x code maxLocals ret World_1 tables_1 room_1 Calls_1 rest_1 Pre_1 launch0 p0 e0 about1 theMethod args0 below0 :=
  ⟨lists_1, trivial, launch0.admits_env _ _ _, launch0.least_env, fairChoices_fair.cas, fairChoices_fair.clock, w_frames, w_args, w_heap, w_applies, trivial, w_rest, w_case⟩
end start1
theorem witness_1 : WitnessClaimed_1 := ⟨start1.p0, start1.e0, start1.about1, start1.theMethod, start1.args0, start1.below0, start1.atStart⟩
end Jvm.Pilot.@@N@@
