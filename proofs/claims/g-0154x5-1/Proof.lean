import JvmDerived
import JvmDerived.Pilot.@@N@@Statement
import JvmDerived.Pilot.@@N@@Code
set_option linter.unusedVariables false
set_option linter.unusedSimpArgs false
namespace Jvm.Own
open Sem ClassFile Op Lib Jvm.Stand Jvm.Free Jvm.LawKit Jvm.RoadKit
/-! ## 1. Small heaps: a list of cells: an object of the one class (its fields in order), or an array (of booleans, of ints) -/
abbrev MCell := List Value ⊕ (Bool × List Int32)
abbrev MHeap := List MCell
abbrev Fd := String × String × FieldType
/-- start, its arguments, launch, the script's place, the heap's first length, the class, its fields, its slots -/
abbrev Ctx := State × Array Value × Launch × Option Nat × Nat × String × List Fd × Nat
abbrev gZ (G : Ctx) : State := G.1
abbrev gA (G : Ctx) : Array Value := G.2.1
abbrev gL (G : Ctx) : Launch := G.2.2.1
abbrev gS (G : Ctx) : Option Nat := G.2.2.2.1
abbrev gN (G : Ctx) : Nat := G.2.2.2.2.1
abbrev gC (G : Ctx) : String := G.2.2.2.2.2.1
abbrev gF (G : Ctx) : List Fd := G.2.2.2.2.2.2.1
abbrev gK (G : Ctx) : Nat := G.2.2.2.2.2.2.2
/-- a method: name, bytes, locals, result, frames and words that it needs -/
abbrev Mi := MethodName × ByteArray × Nat × Option FieldType × Nat × Nat
abbrev mN (M : Mi) : MethodName := M.1
abbrev mB (M : Mi) : ByteArray := M.2.1
abbrev mL (M : Mi) : Nat := M.2.2.1
abbrev mR (M : Mi) : Option FieldType := M.2.2.2.1
abbrev mF (M : Mi) : Nat := M.2.2.2.2.1
abbrev mW (M : Mi) : Nat := M.2.2.2.2.2
def rhoA (sa : Option Nat) (n0 i : Nat) : Nat := match sa with
  | none => n0 + i
  | some a => match i with
    | 0 => a
    | j + 1 => n0 + j
def k0A (sa : Option Nat) : Nat := match sa with
  | none => 0
  | some _ => 1
def rho (G : Ctx) (i : Nat) : Nat := rhoA (gS G) (gN G) i
def k0 (G : Ctx) : Nat := k0A (gS G)
def tr (G : Ctx) : Value → Value
  | .ref i => .ref (rho G i)
  | v => v
def trS (G : Ctx) : Slot → Slot
  | .val v => .val (tr G v)
  | s => s
theorem tr_cat (G : Ctx) (v : Value) : (tr G v).category = v.category := by cases v <;> rfl
theorem tr_cats (G : Ctx) (S : List Value) : ((S.map (tr G)).map fun v => v.category).sum = (S.map fun v => v.category).sum := by
  rw [List.map_map]
  congr 1
  exact List.map_congr_left fun v _ => tr_cat G v
def kd : Bool → FieldType
  | true => .boolean
  | false => .int
def CellAt (G : Ctx) (hr : Heap) (a : Nat) : MCell → Prop
  | .inl fs => Exa (gZ G) hr a (gC G) ∧ fs.length = (gF G).length ∧ ∀ (j : Nat) (n d : String) (ty : FieldType) (v : Value), (gF G)[j]? = some (n, d, ty) → fs[j]? = some v → Fld (gZ G) hr a (gC G) n d (tr G v)
  | .inr bx => ∃ c : Cell, Arr (gZ G) hr a c (kd bx.1) ∧ c.slots = (bx.2.map Value.int).toArray
def Rel (G : Ctx) (hr : Heap) (h : MHeap) : Prop :=
  hr.size + k0 G = gN G + h.length ∧ k0 G ≤ h.length ∧ (∀ a, gS G = some a → a < gN G) ∧ ∀ i c, h[i]? = some c → CellAt G hr (rho G i) c
/-- what the sheet says of the class -/
def GOk (G : Ctx) : Prop :=
  (∀ (j : Nat) (n d : String) (ty : FieldType), (gF G)[j]? = some (n, d, ty) → Laid (gZ G) (gA G) (gC G) (gC G) n d ∧ parseFieldDescriptor d = some ty) ∧
  (∀ (j j' : Nat) (f f' : Fd), (gF G)[j]? = some f → (gF G)[j']? = some f' → j ≠ j' → f.1 ≠ f'.1) ∧
  (Cond.instantiable (gC G) (gK G)).before (gA G) (gZ G) = true ∧ (Cond.initialized (gC G)).before (gA G) (gZ G) = true
theorem rhoA_inj {sa : Option Nat} {n0 i j : Nat} (h : ∀ a, sa = some a → a < n0) (e : rhoA sa n0 i = rhoA sa n0 j) : i = j := by
  cases sa with
  | none => simp only [rhoA] at e; omega
  | some a =>
    have := h a rfl
    cases i <;> cases j <;> simp only [rhoA] at e <;> omega
theorem rho_inj {G : Ctx} {i j : Nat} (h : ∀ a, gS G = some a → a < gN G) (e : rho G i = rho G j) : i = j := rhoA_inj h e
theorem rhoA_new {sa : Option Nat} {n0 i : Nat} (h : k0A sa ≤ i) : rhoA sa n0 i = n0 + (i - k0A sa) := by
  cases sa with
  | none => simp only [rhoA, k0A]; omega
  | some a =>
    cases i with
    | zero => simp only [k0A] at h; omega
    | succ j => simp only [rhoA, k0A]; omega
theorem rho_new {G : Ctx} {i : Nat} (h : k0 G ≤ i) : rho G i = gN G + (i - k0 G) := rhoA_new h
theorem rho_ge {G : Ctx} {i : Nat} (h : k0 G ≤ i) : gN G ≤ rho G i := by rw [rho_new h]; omega
theorem CellAt.other {G : Ctx} {hr hr' : Heap} {a b : Nat} {sl : Nat} {v : Value} (W : Wr hr hr' a sl v) (hne : b ≠ a) : ∀ {c : MCell}, CellAt G hr b c → CellAt G hr' b c
  | .inl _, ⟨h1, h2, h3⟩ => ⟨h1.wr W, h2, fun j n d ty v hf hv => Fld.other W (h3 j n d ty v hf hv) (Or.inl hne)⟩
  | .inr _, ⟨c, h1, h2⟩ => ⟨c, h1.other W hne, h2⟩
theorem CellAt.ext {G : Ctx} {hr hr' : Heap} {b : Nat} (E : Ext hr hr') : ∀ {c : MCell}, CellAt G hr b c → CellAt G hr' b c
  | .inl _, ⟨h1, h2, h3⟩ => ⟨h1.ext E, h2, fun j n d ty v hf hv => Fld.ext E (h3 j n d ty v hf hv)⟩
  | .inr _, ⟨c, h1, h2⟩ => ⟨c, h1.ext E, h2⟩
theorem Rel.push {G : Ctx} {hr hr' : Heap} {h : MHeap} {c : MCell} (R : Rel G hr h) (E : Ext hr hr') (hs : hr'.size = hr.size + 1) (hc : CellAt G hr' hr.size c) : Rel G hr' (h ++ [c]) := by
  obtain ⟨h1, h2, h3, h4⟩ := R
  refine ⟨by rw [List.length_append, List.length_singleton]; omega, by rw [List.length_append]; omega, h3, fun i c' hi => ?_⟩
  rcases Nat.lt_or_ge i h.length with q | q
  · rw [List.getElem?_append_left q] at hi
    exact (h4 i c' hi).ext E
  · have hi2 := hi
    rw [List.getElem?_append_right q] at hi2
    have : i - h.length = 0 := by
      rcases Nat.eq_zero_or_pos (i - h.length) with z | z
      · exact z
      · rw [List.getElem?_eq_none (by simp; omega)] at hi2; cases hi2
    have e : i = h.length := by omega
    subst e
    rw [Nat.sub_self] at hi2
    cases hi2
    have : rho G h.length = hr.size := by rw [rho_new h2]; omega
    rw [this]; exact hc
theorem Rel.wrArr {G : Ctx} {hr hr' : Heap} {h : MHeap} {i j : Nat} {b : Bool} {xs : List Int32} {x : Int32} (R : Rel G hr h) (hi : h[i]? = some (.inr (b, xs))) (W : Wr hr hr' (rho G i) j (.int x)) : Rel G hr' (h.set i (.inr (b, xs.set j x))) := by
  obtain ⟨h1, h2, h3, h4⟩ := R
  refine ⟨by rw [W.size, List.length_set]; exact h1, by rw [List.length_set]; exact h2, h3, fun k c' hk => ?_⟩
  by_cases e : i = k
  · subst e
    rw [List.getElem?_set_self (List.getElem?_eq_some_iff.mp hi).1] at hk
    cases hk
    obtain ⟨c, A, hs⟩ := h4 i _ hi
    refine ⟨c.setSlot j (.int x), A.same W, ?_⟩
    show c.slots.setIfInBounds j (.int x) = _
    rw [hs]
    simp [List.map_set]
  · rw [List.getElem?_set_ne e] at hk
    exact (h4 k c' hk).other W fun q => e (rho_inj h3 q).symm
theorem Rel.wrFld {G : Ctx} {hr hr' : Heap} {h : MHeap} {i j : Nat} {fs : List Value} {n d : String} {ty : FieldType} {v : Value} (R : Rel G hr h) (K : GOk G) (hi : h[i]? = some (.inl fs)) (hF : (gF G)[j]? = some (n, d, ty)) (W : Wr hr hr' (rho G i) (Jvm.RoadKit.slotOf (gZ G) (gC G) n d) (tr G v)) : Rel G hr' (h.set i (.inl (fs.set j v))) := by
  obtain ⟨h1, h2, h3, h4⟩ := R
  refine ⟨by rw [W.size, List.length_set]; exact h1, by rw [List.length_set]; exact h2, h3, fun k c' hk => ?_⟩
  by_cases e : i = k
  · subst e
    rw [List.getElem?_set_self (List.getElem?_eq_some_iff.mp hi).1] at hk
    cases hk
    obtain ⟨e1, e2, e3⟩ := h4 i _ hi
    refine ⟨e1.wr W, by rw [List.length_set]; exact e2, fun j' n' d' ty' v' hf' hv' => ?_⟩
    by_cases q : j = j'
    · subst q
      cases hF.symm.trans hf'
      have hlt : j < fs.length := by rw [e2]; exact (List.getElem?_eq_some_iff.mp hF).1
      rw [List.getElem?_set_self hlt] at hv'
      cases hv'
      obtain ⟨w, hw⟩ : ∃ w, fs[j]? = some w := ⟨_, List.getElem?_eq_getElem hlt⟩
      exact Fld.same W (e3 j n d ty w hF hw)
    · rw [List.getElem?_set_ne q] at hv'
      refine Fld.other W (e3 j' n' d' ty' v' hf' hv') (Or.inr ?_)
      exact slot_ne (K.1 j' n' d' ty' hf').1 (K.1 j n d ty hF).1 (K.2.1 j' j _ _ hf' hF (Ne.symm q)) (K.1 j' n' d' ty' hf').2 (K.1 j n d ty hF).2
  · rw [List.getElem?_set_ne e] at hk
    exact (h4 k c' hk).other W fun q => e (rho_inj h3 q).symm
def csl (k : Nat) : MCell → Nat
  | .inl _ => k
  | .inr bx => bx.2.length
def hsl (k : Nat) (h : MHeap) : Nat := (h.map (csl k)).sum
theorem hsl_push (k : Nat) (h : MHeap) (c : MCell) : hsl k (h ++ [c]) = hsl k h + csl k c := by simp [hsl]
theorem hsl_set (k : Nat) : ∀ (h : MHeap) (i : Nat) (c c' : MCell), h[i]? = some c → csl k c' = csl k c → hsl k (h.set i c') = hsl k h
  | [], _, _, _, h, _ => by simp at h
  | a :: t, 0, c, c', h, e => by simp at h; subst h; simp [hsl, e]
  | a :: t, i + 1, c, c', h, e => by
    have := hsl_set k t i c c' (by simpa using h) e
    simp only [hsl, List.set_cons_succ, List.map_cons, List.sum_cons] at this ⊢
    omega
/-! ## 2. Storing a local variable, on lists -/
def lsetAt (l : List Slot) (i : Nat) (x : Slot) : Option (List Slot) := if i < l.length then some (l.set i x) else none
def lstoreSelf (l : List Slot) (i : Nat) (v : Value) : Option (List Slot) :=
  match lsetAt l i (.val v) with
  | none => none
  | some l => if v.category = 2 then
      (match l[i + 1]? with
      | none => none
      | some (.val old) => if old.category = 2 then (match lsetAt l (i + 2) .unset with | none => none | some l2 => lsetAt l2 (i + 1) .second) else lsetAt l (i + 1) .second
      | some _ => lsetAt l (i + 1) .second)
    else some l
def mst (l : List Slot) (i : Nat) (v : Value) : Option (List Slot) :=
  match l[i]? with
  | none => none
  | some .second => (match lsetAt l (i - 1) .unset with | none => none | some l2 => lstoreSelf l2 i v)
  | some (.val old) => if old.category = 2 then (match lsetAt l (i + 1) .unset with | none => none | some l2 => lstoreSelf l2 i v) else lstoreSelf l i v
  | some .unset => lstoreSelf l i v
def arL (G : Ctx) (l : List Slot) : Array Slot := (l.map (trS G)).toArray
theorem setAt_map (G : Ctx) (l : List Slot) (i : Nat) (x : Slot) : setAt (arL G l) i (trS G x) = (lsetAt l i x).map (arL G) := by
  unfold setAt lsetAt arL
  by_cases h : i < l.length <;> simp [h, List.map_set]
theorem arL_get (G : Ctx) (l : List Slot) (i : Nat) : (arL G l)[i]? = (l[i]?).map (trS G) := by simp [arL]
theorem storeSelf_map (G : Ctx) (l : List Slot) (i : Nat) (v : Value) : storeSelf (arL G l) i (tr G v) = (lstoreSelf l i v).map (arL G) := by
  unfold storeSelf lstoreSelf
  have e := setAt_map G l i (.val v)
  simp only [trS] at e
  rw [e]
  cases h1 : lsetAt l i (.val v) with
  | none => rfl
  | some l1 =>
    simp only [Option.map_some, Option.bind_eq_bind, Option.bind_some, tr_cat]
    by_cases hc : v.category = 2
    · simp only [hc, if_true, arL_get]
      cases h2 : l1[i + 1]? with
      | none => rfl
      | some sl =>
        simp only [Option.map_some, Option.bind_some]
        have u2 := setAt_map G l1 (i + 2) .unset
        have s1 := setAt_map G l1 (i + 1) .second
        simp only [trS] at u2 s1
        cases sl with
        | unset => exact s1
        | second => exact s1
        | val old =>
          simp only [trS, tr_cat]
          by_cases hq : old.category = 2
          · simp only [hq, if_true, u2]
            cases h3 : lsetAt l1 (i + 2) .unset with
            | none => rfl
            | some l2 =>
              have s2 := setAt_map G l2 (i + 1) .second
              simp only [trS] at s2
              exact s2
          · simp only [hq, if_false]
            exact s1
    · simp only [hc, if_false]
      rfl
theorem mst_map (G : Ctx) (l : List Slot) (i : Nat) (v : Value) : storeLocals (arL G l) i (tr G v) = (mst l i v).map (arL G) := by
  unfold storeLocals mst
  simp only [arL_get]
  cases h1 : l[i]? with
  | none => rfl
  | some sl =>
    simp only [Option.map_some, Option.bind_eq_bind, Option.bind_some]
    have u1 := setAt_map G l (i - 1) .unset
    have u2 := setAt_map G l (i + 1) .unset
    simp only [trS] at u1 u2
    cases sl with
    | unset => exact storeSelf_map G l i v
    | second =>
      simp only [trS, u1]
      cases h3 : lsetAt l (i - 1) .unset with
      | none => rfl
      | some l2 => exact storeSelf_map G l2 i v
    | val old =>
      simp only [trS, tr_cat]
      by_cases hq : old.category = 2
      · simp only [hq, if_true, u2]
        cases h3 : lsetAt l (i + 1) .unset with
        | none => rfl
        | some l2 => exact storeSelf_map G l2 i v
      · simp only [hq, if_false]
        exact storeSelf_map G l i v
theorem lsetAt_len {l l' : List Slot} {i : Nat} {x : Slot} (h : lsetAt l i x = some l') : l'.length = l.length := by
  unfold lsetAt at h; split at h
  · cases h; simp
  · cases h
theorem lstoreSelf_len {l l' : List Slot} {i : Nat} {v : Value} (h : lstoreSelf l i v = some l') : l'.length = l.length := by
  unfold lstoreSelf at h
  split at h
  · cases h
  · rename_i l1 h1
    have e1 := lsetAt_len h1
    split at h
    · split at h
      · cases h
      · split at h
        · split at h
          · cases h
          · rename_i h2; rw [lsetAt_len h, lsetAt_len h2, e1]
        · rw [lsetAt_len h, e1]
      · rw [lsetAt_len h, e1]
    · cases h; exact e1
theorem mst_len {l l' : List Slot} {i : Nat} {v : Value} (h : mst l i v = some l') : l'.length = l.length := by
  unfold mst at h
  split at h
  · cases h
  · split at h
    · cases h
    · rename_i h2; rw [lstoreSelf_len h, lsetAt_len h2]
  · split at h
    · split at h
      · cases h
      · rename_i h2; rw [lstoreSelf_len h, lsetAt_len h2]
    · exact lstoreSelf_len h
  · exact lstoreSelf_len h
theorem st_of {G : Ctx} {l l' : List Slot} {i : Nat} {v : Value} (h : mst l i v = some l') : storeLocals (arL G l) i (tr G v) = some (arL G l') := by rw [mst_map, h]; rfl
theorem ld_of {G : Ctx} {l : List Slot} {i : Nat} {s : Slot} (h : l[i]? = some s) : (arL G l)[i]? = some (trS G s) := by rw [arL_get, h]; rfl
/-! ## 3. What a run of a body from a point does -/
def Ev (G : Ctx) (M : Mi) (pc : Nat) (L : List Slot) (S : List Value) (h : MHeap) (r : Option Value × MHeap) : Prop :=
  (h.length ≤ r.2.length ∧ hsl (gK G) h ≤ hsl (gK G) r.2) ∧
  ∀ (p : Program) (e : Env) (R : Room) (s : State) (m : MethodId) (args : Array Value) (below : List Frame) (meth : Method) (c : Code) (T : State) (locs : List Loc) (cells slots : Nat),
    Stand p (gL G) e R s m args below meth c T locs cells slots → p.tables.exec = Jvm.exec → (gZ G).Warmed39 s.vm → s.vm.findClass (mN M).cls = some m.cls →
    c.code = mB M → c.maxLocals = mL M → meth.sig.returnType = mR M → meth.name = (mN M).name → L.length = mL M → mF M ≤ R.frames → mW M ≤ R.locals →
    s.heap.size + cells = T.heap.size → Rel G T.heap h → Fr (gN G) locs → cells + (r.2.length - h.length) ≤ R.cells → slots + (hsl (gK G) r.2 - hsl (gK G) h) ≤ R.slots →
    ∃ T' locs', Stand p (gL G) e R s m args below meth c T' locs' (cells + (r.2.length - h.length)) (slots + (hsl (gK G) r.2 - hsl (gK G) h)) ∧ Rel G T'.heap r.2 ∧ Fr (gN G) locs' ∧
      ∀ fs, (∀ (f : JFrame) (acts : List Action), f.method = m → f.locked = none → f.entered = [] → (doReturn e (T'.setTop f) acts (r.1.map (tr G))).1 = T'.setFrames fs) →
        Steps p.tables e below (T.setTop (mkF m pc (arL G L) (S.map (tr G)))) (T'.setFrames fs)
/-- a whole call -/
def EvC (G : Ctx) (y : Mi) (args : List Value) (h : MHeap) (r : Option Value × MHeap) : Prop :=
  (h.length ≤ r.2.length ∧ hsl (gK G) h ≤ hsl (gK G) r.2) ∧
  ∀ (ws : List Jvm.Cond) (R : Room) (hr : Heap), mF y ≤ R.frames → mW y ≤ R.locals → r.2.length - h.length ≤ R.cells → hsl (gK G) r.2 - hsl (gK G) h ≤ R.slots → Rel G hr h →
    MetFree (gL G) (mN y) (head1 (Jvm.Cond.code (mN y) (mB y) (mL y) (mR y) :: ws) R) (fun a U => a = (args.map (tr G)).toArray ∧ (gZ G).Warmed39 U.vm ∧ U.heap = hr) (fun _ _ _ _ _ => True)
      (fun _ U o U' => ∃ v L, o = .returned v ∧ (v = r.1.map (tr G) ∧ Fr (gN G) L ∧ Rel G U'.heap r.2) ∧ FrameEnd U o U' L (r.2.length - h.length) (hsl (gK G) r.2 - hsl (gK G) h))
section Rules
variable {G : Ctx} {M : Mi} {pc : Nat} {L : List Slot} {S : List Value} {h : MHeap} {r : Option Value × MHeap}
theorem Ev.gen {pc' : Nat} {L' : List Slot} {S' : List Value} {h' : MHeap} (hm1 : h.length ≤ h'.length) (hm2 : hsl (gK G) h ≤ hsl (gK G) h') (hL : L'.length = L.length) (hn : Ev G M pc' L' S' h' r)
    (st : ∀ {p : Program} {e : Env} {R : Room} {s : State} {m : MethodId} {args : Array Value} {below : List Frame} {meth : Method} {c : Code} {T : State} {locs : List Loc} {cells slots : Nat},
      Stand p (gL G) e R s m args below meth c T locs cells slots → p.tables.exec = Jvm.exec → (gZ G).Warmed39 s.vm → s.vm.findClass (mN M).cls = some m.cls →
      c.code = mB M → c.maxLocals = mL M → meth.name = (mN M).name → L.length = mL M → mF M ≤ R.frames → mW M ≤ R.locals →
      s.heap.size + cells = T.heap.size → Rel G T.heap h → Fr (gN G) locs → cells + (h'.length - h.length) ≤ R.cells → slots + (hsl (gK G) h' - hsl (gK G) h) ≤ R.slots →
      ∃ T' locs', Stand p (gL G) e R s m args below meth c T' locs' (cells + (h'.length - h.length)) (slots + (hsl (gK G) h' - hsl (gK G) h)) ∧ Rel G T'.heap h' ∧ Fr (gN G) locs' ∧
        ∀ target, Steps p.tables e below (T'.setTop (mkF m pc' (arL G L') (S'.map (tr G)))) target → Steps p.tables e below (T.setTop (mkF m pc (arL G L) (S.map (tr G)))) target) :
    Ev G M pc L S h r := by
  obtain ⟨⟨g1, g2⟩, hn⟩ := hn
  refine ⟨⟨Nat.le_trans hm1 g1, Nat.le_trans hm2 g2⟩, ?_⟩
  intro p e R s m args below meth c T locs cells slots X hx hZ hown hby hml hret hnm hLm hfr hlo hsz hR hF hc hs
  obtain ⟨T1, locs1, X1, R1, F1, st1⟩ := st X hx hZ hown hby hml hnm hLm hfr hlo hsz hR hF (by omega) (by omega)
  have hsz1 : s.heap.size + (cells + (h'.length - h.length)) = T1.heap.size := by
    have a1 := hR.1
    have a2 := R1.1
    omega
  obtain ⟨T2, locs2, X2, R2, F2, st2⟩ := hn p e R s m args below meth c T1 locs1 _ _ X1 hx hZ hown hby hml hret hnm (hL.trans hLm) hfr hlo hsz1 R1 F1 (by omega) (by omega)
  refine ⟨T2, locs2, ?_, R2, F2, fun fs hl => st1 _ (st2 fs hl)⟩
  have e1 : cells + (h'.length - h.length) + (r.2.length - h'.length) = cells + (r.2.length - h.length) := by omega
  have e2 : slots + (hsl (gK G) h' - hsl (gK G) h) + (hsl (gK G) r.2 - hsl (gK G) h') = slots + (hsl (gK G) r.2 - hsl (gK G) h) := by omega
  rw [e1, e2] at X2
  exact X2
/-- a step that leaves the heap -/
theorem Ev.same {pc' : Nat} {L' : List Slot} {S' : List Value} (hL : L'.length = L.length) (hn : Ev G M pc' L' S' h r)
    (st : ∀ {p : Program} {e : Env} {R : Room} {s : State} {m : MethodId} {args : Array Value} {below : List Frame} {meth : Method} {c : Code} {T : State} {locs : List Loc} {cells slots : Nat},
      Stand p (gL G) e R s m args below meth c T locs cells slots → p.tables.exec = Jvm.exec → (gZ G).Warmed39 s.vm → s.vm.findClass (mN M).cls = some m.cls →
      c.code = mB M → c.maxLocals = mL M → L.length = mL M → mF M ≤ R.frames → mW M ≤ R.locals → Rel G T.heap h →
      ∃ T', Stand p (gL G) e R s m args below meth c T' locs cells slots ∧ T'.heap = T.heap ∧
        ∀ target, Steps p.tables e below (T'.setTop (mkF m pc' (arL G L') (S'.map (tr G)))) target → Steps p.tables e below (T.setTop (mkF m pc (arL G L) (S.map (tr G)))) target) :
    Ev G M pc L S h r := by
  refine Ev.gen (Nat.le_refl _) (Nat.le_refl _) hL hn ?_
  intro p e R s m args below meth c T locs cells slots X hx hZ hown hby hml hnm hLm hfr hlo hsz hR hF hc hs
  obtain ⟨T', X', e', st'⟩ := st X hx hZ hown hby hml hLm hfr hlo hR
  refine ⟨T', locs, ?_, by rw [e']; exact hR, hF, st'⟩
  rw [Nat.sub_self, Nat.sub_self, Nat.add_zero, Nat.add_zero]
  exact X'
/-- a step that leaves all but the frame -/
theorem Ev.pure {pc' : Nat} {L' : List Slot} {S' : List Value} (hL : L'.length = L.length) (hn : Ev G M pc' L' S' h r)
    (st : ∀ {p : Program} {e : Env} {R : Room} {s : State} {m : MethodId} {args : Array Value} {below : List Frame} {meth : Method} {c : Code} {T : State} {locs : List Loc} {cells slots : Nat},
      Stand p (gL G) e R s m args below meth c T locs cells slots → p.tables.exec = Jvm.exec → (gZ G).Warmed39 s.vm → s.vm.findClass (mN M).cls = some m.cls →
      c.code = mB M → ∀ target, Steps p.tables e below (T.setTop (mkF m pc' (arL G L') (S'.map (tr G)))) target → Steps p.tables e below (T.setTop (mkF m pc (arL G L) (S.map (tr G)))) target) :
    Ev G M pc L S h r :=
  Ev.same hL hn fun {p e R s m args below meth c T locs cells slots} X hx hZ hown hby hml hLm hfr hlo hR => ⟨T, X, rfl, st X hx hZ hown hby⟩
/-! ### loads, stores, constants -/
theorem Ev.iload {k : Nat} {v : Int32} (hd : decode (mB M) pc = .ok (.iload k, 2)) (hl : L[k]? = some (.val (.int v))) (hn : Ev G M (pc + 2) L (.int v :: S) h r) : Ev G M pc L S h r :=
  Ev.pure rfl hn fun {_ _ _ _ m _ _ _ _ _ _ _ _} X hx hZ hown hby target q => XS.iload (g := mkF m pc (arL G L) (List.map (tr G) S)) X.here hx rfl (hb hby hd) (ld_of hl) q
theorem Ev.iloadN {k : Fin 4} {v : Int32} (hd : decode (mB M) pc = .ok (.iload_n k, 1)) (hl : L[k.val]? = some (.val (.int v))) (hn : Ev G M (pc + 1) L (.int v :: S) h r) : Ev G M pc L S h r :=
  Ev.pure rfl hn fun {_ _ _ _ m _ _ _ _ _ _ _ _} X hx hZ hown hby target q => XS.iloadN (g := mkF m pc (arL G L) (List.map (tr G) S)) X.here hx rfl (hb hby hd) (ld_of hl) q
theorem Ev.aload {k : Nat} {v : Nat} (hd : decode (mB M) pc = .ok (.aload k, 2)) (hl : L[k]? = some (.val (.ref v))) (hn : Ev G M (pc + 2) L (.ref v :: S) h r) : Ev G M pc L S h r :=
  Ev.pure rfl hn fun {_ _ _ _ m _ _ _ _ _ _ _ _} X hx hZ hown hby target q => XS.aload (g := mkF m pc (arL G L) (List.map (tr G) S)) X.here hx rfl (hb hby hd) (ld_of hl) rfl q
theorem Ev.aloadN {k : Fin 4} {v : Nat} (hd : decode (mB M) pc = .ok (.aload_n k, 1)) (hl : L[k.val]? = some (.val (.ref v))) (hn : Ev G M (pc + 1) L (.ref v :: S) h r) : Ev G M pc L S h r :=
  Ev.pure rfl hn fun {_ _ _ _ m _ _ _ _ _ _ _ _} X hx hZ hown hby target q => XS.aloadN (g := mkF m pc (arL G L) (List.map (tr G) S)) X.here hx rfl (hb hby hd) (ld_of hl) rfl q
theorem Ev.lload {k : Nat} {v : Int64} (hd : decode (mB M) pc = .ok (.lload k, 2)) (hl : L[k]? = some (.val (.long v))) (hn : Ev G M (pc + 2) L (.long v :: S) h r) : Ev G M pc L S h r :=
  Ev.pure rfl hn fun {_ _ _ _ m _ _ _ _ _ _ _ _} X hx hZ hown hby target q => XT.lload (g := mkF m pc (arL G L) (List.map (tr G) S)) X.here hx rfl (hb hby hd) (ld_of hl) q
theorem Ev.lloadN {k : Fin 4} {v : Int64} (hd : decode (mB M) pc = .ok (.lload_n k, 1)) (hl : L[k.val]? = some (.val (.long v))) (hn : Ev G M (pc + 1) L (.long v :: S) h r) : Ev G M pc L S h r :=
  Ev.pure rfl hn fun {_ _ _ _ m _ _ _ _ _ _ _ _} X hx hZ hown hby target q => XT.lloadN (g := mkF m pc (arL G L) (List.map (tr G) S)) X.here hx rfl (hb hby hd) (ld_of hl) q
theorem Ev.istore {k : Nat} {v : Int32} {L' : List Slot} (hd : decode (mB M) pc = .ok (.istore k, 2)) (hl : mst L k (.int v) = some L') (hn : Ev G M (pc + 2) L' S h r) : Ev G M pc L (.int v :: S) h r :=
  Ev.pure (mst_len hl) hn fun {_ _ _ _ m _ _ _ _ _ _ _ _} X hx hZ hown hby target q => XS.istore (g := mkF m pc (arL G L) (List.map (tr G) (Value.int v :: S))) X.here hx rfl (hb hby hd) rfl (st_of hl) q
theorem Ev.istoreN {k : Fin 4} {v : Int32} {L' : List Slot} (hd : decode (mB M) pc = .ok (.istore_n k, 1)) (hl : mst L k.val (.int v) = some L') (hn : Ev G M (pc + 1) L' S h r) : Ev G M pc L (.int v :: S) h r :=
  Ev.pure (mst_len hl) hn fun {_ _ _ _ m _ _ _ _ _ _ _ _} X hx hZ hown hby target q => XS.istoreN (g := mkF m pc (arL G L) (List.map (tr G) (Value.int v :: S))) X.here hx rfl (hb hby hd) rfl (st_of hl) q
theorem Ev.astore {k v : Nat} {L' : List Slot} (hd : decode (mB M) pc = .ok (.astore k, 2)) (hl : mst L k (.ref v) = some L') (hn : Ev G M (pc + 2) L' S h r) : Ev G M pc L (.ref v :: S) h r :=
  Ev.pure (mst_len hl) hn fun {_ _ _ _ m _ _ _ _ _ _ _ _} X hx hZ hown hby target q => XS.astore (g := mkF m pc (arL G L) (List.map (tr G) (Value.ref v :: S))) X.here hx rfl (hb hby hd) rfl rfl (st_of hl) q
theorem Ev.astoreN {k : Fin 4} {v : Nat} {L' : List Slot} (hd : decode (mB M) pc = .ok (.astore_n k, 1)) (hl : mst L k.val (.ref v) = some L') (hn : Ev G M (pc + 1) L' S h r) : Ev G M pc L (.ref v :: S) h r :=
  Ev.pure (mst_len hl) hn fun {_ _ _ _ m _ _ _ _ _ _ _ _} X hx hZ hown hby target q => XS.astoreN (g := mkF m pc (arL G L) (List.map (tr G) (Value.ref v :: S))) X.here hx rfl (hb hby hd) rfl rfl (st_of hl) q
theorem Ev.lstore {k : Nat} {v : Int64} {L' : List Slot} (hd : decode (mB M) pc = .ok (.lstore k, 2)) (hl : mst L k (.long v) = some L') (hn : Ev G M (pc + 2) L' S h r) : Ev G M pc L (.long v :: S) h r :=
  Ev.pure (mst_len hl) hn fun {_ _ _ _ m _ _ _ _ _ _ _ _} X hx hZ hown hby target q => XT.lstore (g := mkF m pc (arL G L) (List.map (tr G) (Value.long v :: S))) X.here hx rfl (hb hby hd) rfl (st_of hl) q
theorem Ev.lstoreN {k : Fin 4} {v : Int64} {L' : List Slot} (hd : decode (mB M) pc = .ok (.lstore_n k, 1)) (hl : mst L k.val (.long v) = some L') (hn : Ev G M (pc + 1) L' S h r) : Ev G M pc L (.long v :: S) h r :=
  Ev.pure (mst_len hl) hn fun {_ _ _ _ m _ _ _ _ _ _ _ _} X hx hZ hown hby target q => XT.lstoreN (g := mkF m pc (arL G L) (List.map (tr G) (Value.long v :: S))) X.here hx rfl (hb hby hd) rfl (st_of hl) q
theorem Ev.iconst {i : Int} {z : Int32} (hd : decode (mB M) pc = .ok (.iconst i, 1)) (hz : Int32.ofInt i = z) (hn : Ev G M (pc + 1) L (.int z :: S) h r) : Ev G M pc L S h r :=
  Ev.pure rfl (hz ▸ hn) fun {_ _ _ _ m _ _ _ _ _ _ _ _} X hx hZ hown hby target q => XS.iconst (g := mkF m pc (arL G L) (List.map (tr G) S)) X.here hx rfl (hb hby hd) q
theorem Ev.bipush {i : Int} {z : Int32} (hd : decode (mB M) pc = .ok (.bipush i, 2)) (hz : (Int8.ofInt i).toInt32 = z) (hn : Ev G M (pc + 2) L (.int z :: S) h r) : Ev G M pc L S h r :=
  Ev.pure rfl (hz ▸ hn) fun {_ _ _ _ m _ _ _ _ _ _ _ _} X hx hZ hown hby target q => XS.bipush (g := mkF m pc (arL G L) (List.map (tr G) S)) X.here hx rfl (hb hby hd) q
theorem Ev.sipush {i : Int} {z : Int32} (hd : decode (mB M) pc = .ok (.sipush i, 3)) (hz : (Int16.ofInt i).toInt32 = z) (hn : Ev G M (pc + 3) L (.int z :: S) h r) : Ev G M pc L S h r :=
  Ev.pure rfl (hz ▸ hn) fun {_ _ _ _ m _ _ _ _ _ _ _ _} X hx hZ hown hby target q => XS.sipush (g := mkF m pc (arL G L) (List.map (tr G) S)) X.here hx rfl (hb hby hd) q
theorem Ev.lconst {k : Fin 2} {z : Int64} (hd : decode (mB M) pc = .ok (.lconst k, 1)) (hz : Int64.ofNat k = z) (hn : Ev G M (pc + 1) L (.long z :: S) h r) : Ev G M pc L S h r :=
  Ev.pure rfl (hz ▸ hn) fun {_ _ _ _ m _ _ _ _ _ _ _ _} X hx hZ hown hby target q => XT.lconst (g := mkF m pc (arL G L) (List.map (tr G) S)) X.here hx rfl (hb hby hd) q
theorem Ev.ldc {k : Nat} {v : Int32} (w : (Jvm.Cond.constant (mN M).cls k v).before (gA G) (gZ G) = true) (hd : decode (mB M) pc = .ok (.ldc k, 2)) (hn : Ev G M (pc + 2) L (.int v :: S) h r) : Ev G M pc L S h r :=
  Ev.pure rfl hn fun {_ _ _ _ m _ _ _ _ _ _ _ _} X hx hZ hown hby target q => X.ldcInt hx hown (mvT hZ w) (g := mkF m pc (arL G L) (List.map (tr G) S)) rfl (hb hby hd) target q
theorem Ev.ldcW {k : Nat} {v : Int32} (w : (Jvm.Cond.constant (mN M).cls k v).before (gA G) (gZ G) = true) (hd : decode (mB M) pc = .ok (.ldc_w k, 3)) (hn : Ev G M (pc + 3) L (.int v :: S) h r) : Ev G M pc L S h r :=
  Ev.pure rfl hn fun {_ _ _ _ m _ _ _ _ _ _ _ _} X hx hZ hown hby target q => X.ldcwInt hx hown (mvT hZ w) (g := mkF m pc (arL G L) (List.map (tr G) S)) rfl (hb hby hd) target q
theorem Ev.ldcL {k : Nat} {v : Int64} (w : (Jvm.Cond.constantLong (mN M).cls k v).before (gA G) (gZ G) = true) (hd : decode (mB M) pc = .ok (.ldc2_w k, 3)) (hn : Ev G M (pc + 3) L (.long v :: S) h r) : Ev G M pc L S h r :=
  Ev.pure rfl hn fun {_ _ _ _ m _ _ _ _ _ _ _ _} X hx hZ hown hby target q => X.ldc2Long hx hown (mvT hZ w) (g := mkF m pc (arL G L) (List.map (tr G) S)) rfl (hb hby hd) target q
/-! ### reckoning -/
theorem Ev.iadd {x y : Int32} (hd : decode (mB M) pc = .ok (.iadd, 1)) (hn : Ev G M (pc + 1) L (.int (x + y) :: S) h r) : Ev G M pc L (.int y :: .int x :: S) h r :=
  Ev.pure rfl hn fun {_ _ _ _ m _ _ _ _ _ _ _ _} X hx hZ hown hby target q => XS.iadd (g := mkF m pc (arL G L) (List.map (tr G) (Value.int y :: Value.int x :: S))) X.here hx rfl (hb hby hd) rfl q
theorem Ev.isub {x y : Int32} (hd : decode (mB M) pc = .ok (.isub, 1)) (hn : Ev G M (pc + 1) L (.int (x - y) :: S) h r) : Ev G M pc L (.int y :: .int x :: S) h r :=
  Ev.pure rfl hn fun {_ _ _ _ m _ _ _ _ _ _ _ _} X hx hZ hown hby target q => XS.isub (g := mkF m pc (arL G L) (List.map (tr G) (Value.int y :: Value.int x :: S))) X.here hx rfl (hb hby hd) rfl q
theorem Ev.imul {x y : Int32} (hd : decode (mB M) pc = .ok (.imul, 1)) (hn : Ev G M (pc + 1) L (.int (x * y) :: S) h r) : Ev G M pc L (.int y :: .int x :: S) h r :=
  Ev.pure rfl hn fun {_ _ _ _ m _ _ _ _ _ _ _ _} X hx hZ hown hby target q => XS.imul (g := mkF m pc (arL G L) (List.map (tr G) (Value.int y :: Value.int x :: S))) X.here hx rfl (hb hby hd) rfl q
theorem Ev.idiv {x y : Int32} (hd : decode (mB M) pc = .ok (.idiv, 1)) (hy : y ≠ 0) (hn : Ev G M (pc + 1) L (.int (x / y) :: S) h r) : Ev G M pc L (.int y :: .int x :: S) h r :=
  Ev.pure rfl hn fun {_ _ _ _ m _ _ _ _ _ _ _ _} X hx hZ hown hby target q => XS.idiv (g := mkF m pc (arL G L) (List.map (tr G) (Value.int y :: Value.int x :: S))) X.here hx rfl (hb hby hd) rfl hy q
theorem Ev.irem {x y : Int32} (hd : decode (mB M) pc = .ok (.irem, 1)) (hy : y ≠ 0) (hn : Ev G M (pc + 1) L (.int (x % y) :: S) h r) : Ev G M pc L (.int y :: .int x :: S) h r :=
  Ev.pure rfl hn fun {_ _ _ _ m _ _ _ _ _ _ _ _} X hx hZ hown hby target q => iremM (g := mkF m pc (arL G L) (List.map (tr G) (Value.int y :: Value.int x :: S))) X hx rfl (hb hby hd) rfl hy q
theorem Ev.ineg {x : Int32} (hd : decode (mB M) pc = .ok (.ineg, 1)) (hn : Ev G M (pc + 1) L (.int (-x) :: S) h r) : Ev G M pc L (.int x :: S) h r :=
  Ev.pure rfl hn fun {_ _ _ _ m _ _ _ _ _ _ _ _} X hx hZ hown hby target q => XS.ineg (g := mkF m pc (arL G L) (List.map (tr G) (Value.int x :: S))) X.here hx rfl (hb hby hd) rfl q
theorem Ev.iand {x y : Int32} (hd : decode (mB M) pc = .ok (.iand, 1)) (hn : Ev G M (pc + 1) L (.int (x &&& y) :: S) h r) : Ev G M pc L (.int y :: .int x :: S) h r :=
  Ev.pure rfl hn fun {_ _ _ _ m _ _ _ _ _ _ _ _} X hx hZ hown hby target q => XS.iand (g := mkF m pc (arL G L) (List.map (tr G) (Value.int y :: Value.int x :: S))) X.here hx rfl (hb hby hd) rfl q
theorem Ev.ior {x y : Int32} (hd : decode (mB M) pc = .ok (.ior, 1)) (hn : Ev G M (pc + 1) L (.int (x ||| y) :: S) h r) : Ev G M pc L (.int y :: .int x :: S) h r :=
  Ev.pure rfl hn fun {_ _ _ _ m _ _ _ _ _ _ _ _} X hx hZ hown hby target q => XT.ior (g := mkF m pc (arL G L) (List.map (tr G) (Value.int y :: Value.int x :: S))) X.here hx rfl (hb hby hd) rfl q
theorem Ev.ixor {x y : Int32} (hd : decode (mB M) pc = .ok (.ixor, 1)) (hn : Ev G M (pc + 1) L (.int (x ^^^ y) :: S) h r) : Ev G M pc L (.int y :: .int x :: S) h r :=
  Ev.pure rfl hn fun {_ _ _ _ m _ _ _ _ _ _ _ _} X hx hZ hown hby target q => XT.ixor (g := mkF m pc (arL G L) (List.map (tr G) (Value.int y :: Value.int x :: S))) X.here hx rfl (hb hby hd) rfl q
theorem Ev.ishl {x y : Int32} (hd : decode (mB M) pc = .ok (.ishl, 1)) (hn : Ev G M (pc + 1) L (.int (x <<< (y &&& 31)) :: S) h r) : Ev G M pc L (.int y :: .int x :: S) h r :=
  Ev.pure rfl hn fun {_ _ _ _ m _ _ _ _ _ _ _ _} X hx hZ hown hby target q => XT.ishl (g := mkF m pc (arL G L) (List.map (tr G) (Value.int y :: Value.int x :: S))) X.here hx rfl (hb hby hd) rfl q
theorem Ev.ishr {x y : Int32} (hd : decode (mB M) pc = .ok (.ishr, 1)) (hn : Ev G M (pc + 1) L (.int (x >>> (y &&& 31)) :: S) h r) : Ev G M pc L (.int y :: .int x :: S) h r :=
  Ev.pure rfl hn fun {_ _ _ _ m _ _ _ _ _ _ _ _} X hx hZ hown hby target q => XT.ishr (g := mkF m pc (arL G L) (List.map (tr G) (Value.int y :: Value.int x :: S))) X.here hx rfl (hb hby hd) rfl q
theorem Ev.iushr {x y : Int32} (hd : decode (mB M) pc = .ok (.iushr, 1)) (hn : Ev G M (pc + 1) L (.int (XT.ushr x y) :: S) h r) : Ev G M pc L (.int y :: .int x :: S) h r :=
  Ev.pure rfl hn fun {_ _ _ _ m _ _ _ _ _ _ _ _} X hx hZ hown hby target q => XT.iushr (g := mkF m pc (arL G L) (List.map (tr G) (Value.int y :: Value.int x :: S))) X.here hx rfl (hb hby hd) rfl q
theorem Ev.ladd {x y : Int64} (hd : decode (mB M) pc = .ok (.ladd, 1)) (hn : Ev G M (pc + 1) L (.long (x + y) :: S) h r) : Ev G M pc L (.long y :: .long x :: S) h r :=
  Ev.pure rfl hn fun {_ _ _ _ m _ _ _ _ _ _ _ _} X hx hZ hown hby target q => XT.ladd (g := mkF m pc (arL G L) (List.map (tr G) (Value.long y :: Value.long x :: S))) X.here hx rfl (hb hby hd) rfl q
theorem Ev.lsub {x y : Int64} (hd : decode (mB M) pc = .ok (.lsub, 1)) (hn : Ev G M (pc + 1) L (.long (x - y) :: S) h r) : Ev G M pc L (.long y :: .long x :: S) h r :=
  Ev.pure rfl hn fun {_ _ _ _ m _ _ _ _ _ _ _ _} X hx hZ hown hby target q => XT.lsub (g := mkF m pc (arL G L) (List.map (tr G) (Value.long y :: Value.long x :: S))) X.here hx rfl (hb hby hd) rfl q
theorem Ev.lmul {x y : Int64} (hd : decode (mB M) pc = .ok (.lmul, 1)) (hn : Ev G M (pc + 1) L (.long (x * y) :: S) h r) : Ev G M pc L (.long y :: .long x :: S) h r :=
  Ev.pure rfl hn fun {_ _ _ _ m _ _ _ _ _ _ _ _} X hx hZ hown hby target q => XT.lmul (g := mkF m pc (arL G L) (List.map (tr G) (Value.long y :: Value.long x :: S))) X.here hx rfl (hb hby hd) rfl q
theorem Ev.ldiv {x y : Int64} (hd : decode (mB M) pc = .ok (.ldiv, 1)) (hy : y ≠ 0) (hn : Ev G M (pc + 1) L (.long (x / y) :: S) h r) : Ev G M pc L (.long y :: .long x :: S) h r :=
  Ev.pure rfl hn fun {_ _ _ _ m _ _ _ _ _ _ _ _} X hx hZ hown hby target q => XT.ldiv (g := mkF m pc (arL G L) (List.map (tr G) (Value.long y :: Value.long x :: S))) X.here hx rfl (hb hby hd) rfl hy q
theorem Ev.lneg {x : Int64} (hd : decode (mB M) pc = .ok (.lneg, 1)) (hn : Ev G M (pc + 1) L (.long (-x) :: S) h r) : Ev G M pc L (.long x :: S) h r :=
  Ev.pure rfl hn fun {_ _ _ _ m _ _ _ _ _ _ _ _} X hx hZ hown hby target q => XT.lneg (g := mkF m pc (arL G L) (List.map (tr G) (Value.long x :: S))) X.here hx rfl (hb hby hd) rfl q
theorem Ev.land {x y : Int64} (hd : decode (mB M) pc = .ok (.land, 1)) (hn : Ev G M (pc + 1) L (.long (x &&& y) :: S) h r) : Ev G M pc L (.long y :: .long x :: S) h r :=
  Ev.pure rfl hn fun {_ _ _ _ m _ _ _ _ _ _ _ _} X hx hZ hown hby target q => XT.land (g := mkF m pc (arL G L) (List.map (tr G) (Value.long y :: Value.long x :: S))) X.here hx rfl (hb hby hd) rfl q
theorem Ev.lor {x y : Int64} (hd : decode (mB M) pc = .ok (.lor, 1)) (hn : Ev G M (pc + 1) L (.long (x ||| y) :: S) h r) : Ev G M pc L (.long y :: .long x :: S) h r :=
  Ev.pure rfl hn fun {_ _ _ _ m _ _ _ _ _ _ _ _} X hx hZ hown hby target q => XT.lor (g := mkF m pc (arL G L) (List.map (tr G) (Value.long y :: Value.long x :: S))) X.here hx rfl (hb hby hd) rfl q
theorem Ev.lxor {x y : Int64} (hd : decode (mB M) pc = .ok (.lxor, 1)) (hn : Ev G M (pc + 1) L (.long (x ^^^ y) :: S) h r) : Ev G M pc L (.long y :: .long x :: S) h r :=
  Ev.pure rfl hn fun {_ _ _ _ m _ _ _ _ _ _ _ _} X hx hZ hown hby target q => XT.lxor (g := mkF m pc (arL G L) (List.map (tr G) (Value.long y :: Value.long x :: S))) X.here hx rfl (hb hby hd) rfl q
theorem Ev.lshl {x : Int64} {y : Int32} (hd : decode (mB M) pc = .ok (.lshl, 1)) (hn : Ev G M (pc + 1) L (.long (x <<< (y.toInt64 &&& 63)) :: S) h r) : Ev G M pc L (.int y :: .long x :: S) h r :=
  Ev.pure rfl hn fun {_ _ _ _ m _ _ _ _ _ _ _ _} X hx hZ hown hby target q => XT.lshl (g := mkF m pc (arL G L) (List.map (tr G) (Value.int y :: Value.long x :: S))) X.here hx rfl (hb hby hd) rfl q
theorem Ev.lushr {x : Int64} {y : Int32} (hd : decode (mB M) pc = .ok (.lushr, 1)) (hn : Ev G M (pc + 1) L (.long (XT.ushrL x y) :: S) h r) : Ev G M pc L (.int y :: .long x :: S) h r :=
  Ev.pure rfl hn fun {_ _ _ _ m _ _ _ _ _ _ _ _} X hx hZ hown hby target q => XT.lushr (g := mkF m pc (arL G L) (List.map (tr G) (Value.int y :: Value.long x :: S))) X.here hx rfl (hb hby hd) rfl q
theorem Ev.lcmp {x y : Int64} (hd : decode (mB M) pc = .ok (.lcmp, 1)) (hn : Ev G M (pc + 1) L (.int (XT.cmpL x y) :: S) h r) : Ev G M pc L (.long y :: .long x :: S) h r :=
  Ev.pure rfl hn fun {_ _ _ _ m _ _ _ _ _ _ _ _} X hx hZ hown hby target q => XT.lcmp (g := mkF m pc (arL G L) (List.map (tr G) (Value.long y :: Value.long x :: S))) X.here hx rfl (hb hby hd) rfl q
theorem Ev.i2l {x : Int32} (hd : decode (mB M) pc = .ok (.i2l, 1)) (hn : Ev G M (pc + 1) L (.long x.toInt64 :: S) h r) : Ev G M pc L (.int x :: S) h r :=
  Ev.pure rfl hn fun {_ _ _ _ m _ _ _ _ _ _ _ _} X hx hZ hown hby target q => XT.i2l (g := mkF m pc (arL G L) (List.map (tr G) (Value.int x :: S))) X.here hx rfl (hb hby hd) rfl q
theorem Ev.l2i {x : Int64} (hd : decode (mB M) pc = .ok (.l2i, 1)) (hn : Ev G M (pc + 1) L (.int x.toInt32 :: S) h r) : Ev G M pc L (.long x :: S) h r :=
  Ev.pure rfl hn fun {_ _ _ _ m _ _ _ _ _ _ _ _} X hx hZ hown hby target q => XT.l2i (g := mkF m pc (arL G L) (List.map (tr G) (Value.long x :: S))) X.here hx rfl (hb hby hd) rfl q
theorem Ev.i2b {x : Int32} (hd : decode (mB M) pc = .ok (.i2b, 1)) (hn : Ev G M (pc + 1) L (.int x.toInt8.toInt32 :: S) h r) : Ev G M pc L (.int x :: S) h r :=
  Ev.pure rfl hn fun {_ _ _ _ m _ _ _ _ _ _ _ _} X hx hZ hown hby target q => XT.i2b (g := mkF m pc (arL G L) (List.map (tr G) (Value.int x :: S))) X.here hx rfl (hb hby hd) rfl q
theorem Ev.iinc {k : Nat} {i : Int} {x z : Int32} {L' : List Slot} (hd : decode (mB M) pc = .ok (.iinc k i, 3)) (hl : L[k]? = some (.val (.int x))) (hz : Int32.ofInt i = z) (hl' : mst L k (.int (x + z)) = some L') (hn : Ev G M (pc + 3) L' S h r) : Ev G M pc L S h r :=
  Ev.pure (mst_len hl') hn fun {_ _ _ _ m _ _ _ _ _ _ _ _} X hx hZ hown hby target q => XS.iinc (g := mkF m pc (arL G L) (List.map (tr G) S)) X.here hx rfl (hb hby hd) (ld_of hl) (by rw [hz]; exact st_of hl') q
theorem iincW {tb : Tables} [Ours tb] {e : Env} {below : List Frame} {T target : State} {m : MethodId} {c : Code} {g : JFrame} (h : At T m c below) (hx : tb.exec = Jvm.exec) (hg : g.method = m) {k : Nat} {cst : Int} {x : Int32} {l' : Array Slot} (hd : decode c.code g.pc = .ok (.iinc k cst, 6)) (hl : g.locals[k]? = some (.val (.int x))) (hl' : storeLocals g.locals k (.int (x + Int32.ofInt cst)) = some l')
    (hr : Steps tb e below (T.setTop { g with pc := g.pc + 6, locals := l' }) target) : Steps tb e below (T.setTop g) target := by
  subst hg
  jvm_step h [h.top, hx, hd, hl, hl']
  exact hr
theorem Ev.iincW {k : Nat} {i : Int} {x z : Int32} {L' : List Slot} (hd : decode (mB M) pc = .ok (.iinc k i, 6)) (hl : L[k]? = some (.val (.int x))) (hz : Int32.ofInt i = z) (hl' : mst L k (.int (x + z)) = some L') (hn : Ev G M (pc + 6) L' S h r) : Ev G M pc L S h r :=
  Ev.pure (mst_len hl') hn fun {_ _ _ _ m _ _ _ _ _ _ _ _} X hx hZ hown hby target q => Own.iincW (g := mkF m pc (arL G L) (List.map (tr G) S)) X.here hx rfl (hb hby hd) (ld_of hl) (by rw [hz]; exact st_of hl') q
theorem Ev.dup {x : Value} (hd : decode (mB M) pc = .ok (.dup, 1)) (hc : x.category = 1) (hn : Ev G M (pc + 1) L (x :: x :: S) h r) : Ev G M pc L (x :: S) h r :=
  Ev.pure rfl hn fun {_ _ _ _ m _ _ _ _ _ _ _ _} X hx hZ hown hby target q => XS.dup (g := mkF m pc (arL G L) (List.map (tr G) (x :: S))) X.here hx rfl (hb hby hd) rfl ((tr_cat G x).trans hc) q
theorem Ev.dup2 {x y : Value} (hd : decode (mB M) pc = .ok (.dup2, 1)) (hc : x.category = 1) (hc' : y.category = 1) (hn : Ev G M (pc + 1) L (x :: y :: x :: y :: S) h r) : Ev G M pc L (x :: y :: S) h r :=
  Ev.pure rfl hn fun {_ _ _ _ m _ _ _ _ _ _ _ _} X hx hZ hown hby target q => XT.dup2 (g := mkF m pc (arL G L) (List.map (tr G) (x :: y :: S))) X.here hx rfl (hb hby hd) rfl ((tr_cat G x).trans hc) ((tr_cat G y).trans hc') q
theorem Ev.pop {x : Value} (hd : decode (mB M) pc = .ok (.pop, 1)) (hc : x.category = 1) (hn : Ev G M (pc + 1) L S h r) : Ev G M pc L (x :: S) h r :=
  Ev.pure rfl hn fun {_ _ _ _ m _ _ _ _ _ _ _ _} X hx hZ hown hby target q => XT.pop (g := mkF m pc (arL G L) (List.map (tr G) (x :: S))) X.here hx rfl (hb hby hd) rfl ((tr_cat G x).trans hc) q
/-! ### branches -/
theorem Ev.goto {o : Int} {t : Nat} (hd : decode (mB M) pc = .ok (.goto o, 3)) (hp : (pc : Int) + o = (t : Int)) (hn : Ev G M t L S h r) : Ev G M pc L S h r :=
  Ev.pure rfl hn fun {_ _ _ _ m _ _ _ _ _ _ _ _} X hx hZ hown hby target q => XS.goto (g := mkF m pc (arL G L) (List.map (tr G) S)) X.here hx rfl rfl (hb hby hd) (by rw [hp]; exact Int.natCast_nonneg t) (by rw [hp]; rfl) q
theorem Ev.ifc {cd : ClassFile.Cond} {x : Int32} {o : Int} {t : Nat} (hd : decode (mB M) pc = .ok (.ifCond cd o, 3)) (hp : (pc : Int) + o = (t : Int)) (h1 : ifCond.holds cd x = true → Ev G M t L S h r) (h2 : ifCond.holds cd x = false → Ev G M (pc + 3) L S h r) : Ev G M pc L (.int x :: S) h r := by
  cases hc : ifCond.holds cd x with
  | true => exact Ev.pure rfl (h1 hc) fun {_ _ _ _ m _ _ _ _ _ _ _ _} X hx hZ hown hby target q => XS.ifYes (g := mkF m pc (arL G L) (List.map (tr G) (Value.int x :: S))) X.here hx rfl rfl (hb hby hd) rfl hc (by rw [hp]; exact Int.natCast_nonneg t) (by rw [hp]; rfl) q
  | false => exact Ev.pure rfl (h2 hc) fun {_ _ _ _ m _ _ _ _ _ _ _ _} X hx hZ hown hby target q => XS.ifNo (g := mkF m pc (arL G L) (List.map (tr G) (Value.int x :: S))) X.here hx rfl (hb hby hd) rfl hc q
theorem Ev.icc {cd : ClassFile.Cond} {x y : Int32} {o : Int} {t : Nat} (hd : decode (mB M) pc = .ok (.if_icmp cd o, 3)) (hp : (pc : Int) + o = (t : Int)) (h1 : if_icmp.holds cd x y = true → Ev G M t L S h r) (h2 : if_icmp.holds cd x y = false → Ev G M (pc + 3) L S h r) : Ev G M pc L (.int y :: .int x :: S) h r := by
  cases hc : if_icmp.holds cd x y with
  | true => exact Ev.pure rfl (h1 hc) fun {_ _ _ _ m _ _ _ _ _ _ _ _} X hx hZ hown hby target q => XS.icmpYes (g := mkF m pc (arL G L) (List.map (tr G) (Value.int y :: Value.int x :: S))) X.here hx rfl rfl (hb hby hd) rfl hc (by rw [hp]; exact Int.natCast_nonneg t) (by rw [hp]; rfl) q
  | false => exact Ev.pure rfl (h2 hc) fun {_ _ _ _ m _ _ _ _ _ _ _ _} X hx hZ hown hby target q => XS.icmpNo (g := mkF m pc (arL G L) (List.map (tr G) (Value.int y :: Value.int x :: S))) X.here hx rfl (hb hby hd) rfl hc q
theorem Ev.iclt {x y : Int32} {o : Int} {t : Nat} (hd : decode (mB M) pc = .ok (.if_icmp .lt o, 3)) (hp : (pc : Int) + o = (t : Int)) (h1 : x < y → Ev G M t L S h r) (h2 : ¬ x < y → Ev G M (pc + 3) L S h r) : Ev G M pc L (.int y :: .int x :: S) h r :=
  Ev.icc hd hp (fun q => h1 (by simpa [if_icmp.holds] using q)) (fun q => h2 (by simpa [if_icmp.holds] using q))
theorem Ev.icge {x y : Int32} {o : Int} {t : Nat} (hd : decode (mB M) pc = .ok (.if_icmp .ge o, 3)) (hp : (pc : Int) + o = (t : Int)) (h1 : x < y → Ev G M (pc + 3) L S h r) (h2 : ¬ x < y → Ev G M t L S h r) : Ev G M pc L (.int y :: .int x :: S) h r :=
  Ev.icc hd hp (fun q => h2 (by simpa [if_icmp.holds] using q)) (fun q => h1 (by simpa [if_icmp.holds] using q))
theorem Ev.icgt {x y : Int32} {o : Int} {t : Nat} (hd : decode (mB M) pc = .ok (.if_icmp .gt o, 3)) (hp : (pc : Int) + o = (t : Int)) (h1 : y < x → Ev G M t L S h r) (h2 : ¬ y < x → Ev G M (pc + 3) L S h r) : Ev G M pc L (.int y :: .int x :: S) h r :=
  Ev.icc hd hp (fun q => h1 (by simpa [if_icmp.holds] using q)) (fun q => h2 (by simpa [if_icmp.holds] using q))
theorem Ev.icle {x y : Int32} {o : Int} {t : Nat} (hd : decode (mB M) pc = .ok (.if_icmp .le o, 3)) (hp : (pc : Int) + o = (t : Int)) (h1 : y < x → Ev G M (pc + 3) L S h r) (h2 : ¬ y < x → Ev G M t L S h r) : Ev G M pc L (.int y :: .int x :: S) h r :=
  Ev.icc hd hp (fun q => h2 (by simpa [if_icmp.holds] using q)) (fun q => h1 (by simpa [if_icmp.holds] using q))
theorem Ev.iceq {x y : Int32} {o : Int} {t : Nat} (hd : decode (mB M) pc = .ok (.if_icmp .eq o, 3)) (hp : (pc : Int) + o = (t : Int)) (h1 : x = y → Ev G M t L S h r) (h2 : ¬ x = y → Ev G M (pc + 3) L S h r) : Ev G M pc L (.int y :: .int x :: S) h r :=
  Ev.icc hd hp (fun q => h1 (by simpa [if_icmp.holds] using q)) (fun q => h2 (by simpa [if_icmp.holds] using q))
theorem Ev.icne {x y : Int32} {o : Int} {t : Nat} (hd : decode (mB M) pc = .ok (.if_icmp .ne o, 3)) (hp : (pc : Int) + o = (t : Int)) (h1 : x = y → Ev G M (pc + 3) L S h r) (h2 : ¬ x = y → Ev G M t L S h r) : Ev G M pc L (.int y :: .int x :: S) h r :=
  Ev.icc hd hp (fun q => h2 (by simpa [if_icmp.holds] using q)) (fun q => h1 (by simpa [if_icmp.holds] using q))
theorem Ev.iflt {x : Int32} {o : Int} {t : Nat} (hd : decode (mB M) pc = .ok (.ifCond .lt o, 3)) (hp : (pc : Int) + o = (t : Int)) (h1 : x < 0 → Ev G M t L S h r) (h2 : ¬ x < 0 → Ev G M (pc + 3) L S h r) : Ev G M pc L (.int x :: S) h r :=
  Ev.ifc hd hp (fun q => h1 (by simpa [ifCond.holds] using q)) (fun q => h2 (by simpa [ifCond.holds] using q))
theorem Ev.ifge {x : Int32} {o : Int} {t : Nat} (hd : decode (mB M) pc = .ok (.ifCond .ge o, 3)) (hp : (pc : Int) + o = (t : Int)) (h1 : x < 0 → Ev G M (pc + 3) L S h r) (h2 : ¬ x < 0 → Ev G M t L S h r) : Ev G M pc L (.int x :: S) h r :=
  Ev.ifc hd hp (fun q => h2 (by simpa [ifCond.holds] using q)) (fun q => h1 (by simpa [ifCond.holds] using q))
theorem Ev.ifgt {x : Int32} {o : Int} {t : Nat} (hd : decode (mB M) pc = .ok (.ifCond .gt o, 3)) (hp : (pc : Int) + o = (t : Int)) (h1 : 0 < x → Ev G M t L S h r) (h2 : ¬ 0 < x → Ev G M (pc + 3) L S h r) : Ev G M pc L (.int x :: S) h r :=
  Ev.ifc hd hp (fun q => h1 (by simpa [ifCond.holds] using q)) (fun q => h2 (by simpa [ifCond.holds] using q))
theorem Ev.ifle {x : Int32} {o : Int} {t : Nat} (hd : decode (mB M) pc = .ok (.ifCond .le o, 3)) (hp : (pc : Int) + o = (t : Int)) (h1 : 0 < x → Ev G M (pc + 3) L S h r) (h2 : ¬ 0 < x → Ev G M t L S h r) : Ev G M pc L (.int x :: S) h r :=
  Ev.ifc hd hp (fun q => h2 (by simpa [ifCond.holds] using q)) (fun q => h1 (by simpa [ifCond.holds] using q))
theorem Ev.ifeq {x : Int32} {o : Int} {t : Nat} (hd : decode (mB M) pc = .ok (.ifCond .eq o, 3)) (hp : (pc : Int) + o = (t : Int)) (h1 : x = 0 → Ev G M t L S h r) (h2 : ¬ x = 0 → Ev G M (pc + 3) L S h r) : Ev G M pc L (.int x :: S) h r :=
  Ev.ifc hd hp (fun q => h1 (by simpa [ifCond.holds] using q)) (fun q => h2 (by simpa [ifCond.holds] using q))
theorem Ev.ifne {x : Int32} {o : Int} {t : Nat} (hd : decode (mB M) pc = .ok (.ifCond .ne o, 3)) (hp : (pc : Int) + o = (t : Int)) (h1 : x = 0 → Ev G M (pc + 3) L S h r) (h2 : ¬ x = 0 → Ev G M t L S h r) : Ev G M pc L (.int x :: S) h r :=
  Ev.ifc hd hp (fun q => h2 (by simpa [ifCond.holds] using q)) (fun q => h1 (by simpa [ifCond.holds] using q))
theorem Ev.tswIn {x : Int32} {dflt low high : Int} {offs : Array Int} {len t : Nat} {o : Int} (hd : decode (mB M) pc = .ok (.tableswitch dflt low high offs, len)) (hin : ¬ (x.toInt < low ∨ x.toInt > high)) (ho : offs[(x.toInt - low).toNat]? = some o) (hp : (pc : Int) + o = (t : Int)) (hn : Ev G M t L S h r) : Ev G M pc L (.int x :: S) h r :=
  Ev.pure rfl hn fun {_ _ _ _ m _ _ _ _ _ _ _ _} X hx hZ hown hby target q => XS.tswIn (g := mkF m pc (arL G L) (List.map (tr G) (Value.int x :: S))) X.here hx rfl rfl (hb hby hd) rfl hin ho (by rw [hp]; exact Int.natCast_nonneg t) (by rw [hp]; rfl) q
theorem Ev.tswOut {x : Int32} {dflt low high : Int} {offs : Array Int} {len t : Nat} (hd : decode (mB M) pc = .ok (.tableswitch dflt low high offs, len)) (hout : x.toInt < low ∨ x.toInt > high) (hp : (pc : Int) + dflt = (t : Int)) (hn : Ev G M t L S h r) : Ev G M pc L (.int x :: S) h r :=
  Ev.pure rfl hn fun {_ _ _ _ m _ _ _ _ _ _ _ _} X hx hZ hown hby target q => XS.tswOut (g := mkF m pc (arL G L) (List.map (tr G) (Value.int x :: S))) X.here hx rfl rfl (hb hby hd) rfl hout (by rw [hp]; exact Int.natCast_nonneg t) (by rw [hp]; rfl) q
/-! ### fields -/
theorem Ev.getfield {idx j i : Nat} {n d : String} {ty : FieldType} {fs : List Value} {v : Value} (w : (Jvm.Cond.fieldLink (mN M).cls idx (gC G) n d).before (gA G) (gZ G) = true) (hd : decode (mB M) pc = .ok (.getfield idx, 3))
    (hF : (gF G)[j]? = some (n, d, ty)) (hi : h[i]? = some (.inl fs)) (hv : fs[j]? = some v) (hn : Ev G M (pc + 3) L (v :: S) h r) : Ev G M pc L (.ref i :: S) h r := by
  refine Ev.same rfl hn ?_
  intro p e R s m args below meth c T locs cells slots X hx hZ hown hby hml hLm hfr hlo hR
  obtain ⟨-, -, h3⟩ := hR.2.2.2 i _ hi
  obtain ⟨T', X', e', st⟩ := getF X hx hZ hown (host := "") (Or.inl w) Via.refl rfl (h3 j n d ty v hF hv) (g := mkF m pc (arL G L) ((Value.ref i :: S).map (tr G))) rfl rfl (hb hby hd)
  exact ⟨T', X', e', st⟩
def mput : FieldType → Value → Option Value
  | .int, .int z => some (.int z)
  | .boolean, .int z => some (.int (z &&& 1))
  | .array _, .ref a => some (.ref a)
  | _, _ => none
theorem mput_spec {G : Ctx} {ty : FieldType} {v v' : Value} (h : mput ty v = some v') : narrow ty (tr G v) = tr G v' ∧ fits ty (tr G v') = true := by
  unfold mput at h
  split at h
  · cases h; exact ⟨rfl, rfl⟩
  · cases h; exact ⟨rfl, fits_nar_bool _⟩
  · cases h; exact ⟨rfl, rfl⟩
  · cases h
theorem Ev.putfield {idx j i : Nat} {n d : String} {ty : FieldType} {fs : List Value} {v v' : Value} (K : GOk G) (w : (Jvm.Cond.fieldLink (mN M).cls idx (gC G) n d).before (gA G) (gZ G) = true)
    (wl : (Jvm.Cond.lays (gC G) (gC G) n d).before (gA G) (gZ G) = true ∨ ((Jvm.Cond.laysFinal (gC G) (gC G) n d).before (gA G) (gZ G) = true ∧ (mN M).cls = gC G ∧ (mN M).name = "<init>"))
    (hd : decode (mB M) pc = .ok (.putfield idx, 3)) (hF : (gF G)[j]? = some (n, d, ty)) (hk : k0 G ≤ i) (hi : h[i]? = some (.inl fs)) (hp : mput ty v = some v') (hn : Ev G M (pc + 3) L S (h.set i (.inl (fs.set j v'))) r) : Ev G M pc L (v :: .ref i :: S) h r := by
  have hs := hsl_set (gK G) h i (.inl fs) (.inl (fs.set j v')) hi rfl
  refine Ev.gen (by rw [List.length_set]; exact Nat.le_refl _) (by rw [hs]; exact Nat.le_refl _) rfl hn ?_
  intro p e R s m args below meth c T locs cells slots X hx hZ hown hby hml hnm hLm hfr hlo hsz hR hFr hc hsq
  obtain ⟨e1, e2, e3⟩ := hR.2.2.2 i _ hi
  obtain ⟨q1, q2⟩ := mput_spec (G := G) hp
  have hlt : j < fs.length := by rw [e2]; exact (List.getElem?_eq_some_iff.mp hF).1
  have F := e3 j n d ty _ hF (List.getElem?_eq_getElem hlt)
  obtain ⟨T', h', X', eT', W, st⟩ := putFN X hx hZ hown w Via.refl rfl F e1 (wl.imp id fun ⟨a, b, c⟩ => ⟨a, b, by rw [hnm]; exact c⟩) K.2.2.1 (K.1 j n d ty hF).2 q1 q2 (g := mkF m pc (arL G L) ((v :: Value.ref i :: S).map (tr G))) rfl rfl (hb hby hd)
  refine ⟨T', _, ?_, ?_, Fr.snoc X' hFr (rho_ge hk), st⟩
  · rw [hs, List.length_set, Nat.sub_self, Nat.sub_self, Nat.add_zero, Nat.add_zero]; exact X'
  · rw [eT']; exact hR.wrFld K hi hF W
/-! ### arrays -/
theorem get_arr {xs : List Int32} {c : Cell} (hs : c.slots = (xs.map Value.int).toArray) (k : Nat) : c.slots[k]? = (xs[k]?).map Value.int := by rw [hs]; simp
theorem arr_size {xs : List Int32} {c : Cell} (hs : c.slots = (xs.map Value.int).toArray) : c.slots.size = xs.length := by rw [hs]; simp
theorem Ev.arraylength {i : Nat} {b : Bool} {xs : List Int32} (hd : decode (mB M) pc = .ok (.arraylength, 1)) (hi : h[i]? = some (.inr (b, xs))) (hn : Ev G M (pc + 1) L (.int xs.length.toInt32 :: S) h r) : Ev G M pc L (.ref i :: S) h r := by
  refine Ev.same rfl hn ?_
  intro p e R s m args below meth c T locs cells slots X hx hZ hown hby hml hLm hfr hlo hR
  obtain ⟨cl, A, hs⟩ := hR.2.2.2 i _ hi
  refine ⟨T, X, rfl, fun target k => X.arraylength hx A.1 (State.isArrayOf_alike hZ.alike A.2.1) (g := mkF m pc (arL G L) ((Value.ref i :: S).map (tr G))) rfl rfl (hb hby hd) target ?_⟩
  rw [arr_size hs]; exact k
theorem Ev.iaload {i : Nat} {xs : List Int32} {j v : Int32} (hd : decode (mB M) pc = .ok (.iaload, 1)) (hi : h[i]? = some (.inr (false, xs))) (hj : ¬ j < 0) (hv : xs[j.toNatClampNeg]? = some v) (hn : Ev G M (pc + 1) L (.int v :: S) h r) : Ev G M pc L (.int j :: .ref i :: S) h r := by
  refine Ev.same rfl hn ?_
  intro p e R s m args below meth c T locs cells slots X hx hZ hown hby hml hLm hfr hlo hR
  obtain ⟨cl, A, hs⟩ := hR.2.2.2 i _ hi
  have hlt := (List.getElem?_eq_some_iff.mp hv).1
  exact ⟨T, X, rfl, fun target k => X.iaload hx A.1 (State.isArrayOf_alike hZ.alike A.2.1) A.2.2 (fun q => q.elim hj fun q => absurd (arr_size hs ▸ q) (Nat.not_le.mpr hlt)) (by rw [get_arr hs, hv]; rfl) (g := mkF m pc (arL G L) ((Value.int j :: Value.ref i :: S).map (tr G))) rfl rfl (hb hby hd) target k⟩
theorem Ev.baload {i : Nat} {xs : List Int32} {j v : Int32} (hd : decode (mB M) pc = .ok (.baload, 1)) (hi : h[i]? = some (.inr (true, xs))) (hj : ¬ j < 0) (hv : xs[j.toNatClampNeg]? = some v) (hn : Ev G M (pc + 1) L (.int v :: S) h r) : Ev G M pc L (.int j :: .ref i :: S) h r := by
  refine Ev.same rfl hn ?_
  intro p e R s m args below meth c T locs cells slots X hx hZ hown hby hml hLm hfr hlo hR
  obtain ⟨cl, A, hs⟩ := hR.2.2.2 i _ hi
  have hlt := (List.getElem?_eq_some_iff.mp hv).1
  exact ⟨T, X, rfl, fun target k => X.baloadBooleans hx A.1 (State.isArrayOf_alike hZ.alike A.2.1) A.2.2 (fun q => q.elim hj fun q => absurd (arr_size hs ▸ q) (Nat.not_le.mpr hlt)) (by rw [get_arr hs, hv]; rfl) (g := mkF m pc (arL G L) ((Value.int j :: Value.ref i :: S).map (tr G))) rfl rfl (hb hby hd) target k⟩
theorem Ev.iastore {i : Nat} {xs : List Int32} {j v : Int32} (hd : decode (mB M) pc = .ok (.iastore, 1)) (hk : k0 G ≤ i) (hi : h[i]? = some (.inr (false, xs))) (hj : ¬ j < 0) (hlt : j.toNatClampNeg < xs.length) (hn : Ev G M (pc + 1) L S (h.set i (.inr (false, xs.set j.toNatClampNeg v))) r) : Ev G M pc L (.int v :: .int j :: .ref i :: S) h r := by
  have hs := hsl_set (gK G) h i (.inr (false, xs)) (.inr (false, xs.set j.toNatClampNeg v)) hi (by simp [csl])
  refine Ev.gen (by rw [List.length_set]; exact Nat.le_refl _) (by rw [hs]; exact Nat.le_refl _) rfl hn ?_
  intro p e R s m args below meth c T locs cells slots X hx hZ hown hby hml hnm hLm hfr hlo hsz hR hFr hc hsq
  obtain ⟨cl, A, hsz'⟩ := hR.2.2.2 i _ hi
  obtain ⟨T', h', X', eT', W, st⟩ := stI X hx hZ rfl A (j := j) (x := v) (fun q => q.elim hj fun q => absurd (arr_size hsz' ▸ q) (Nat.not_le.mpr hlt)) (g := mkF m pc (arL G L) ((Value.int v :: Value.int j :: Value.ref i :: S).map (tr G))) rfl rfl (hb hby hd)
  refine ⟨T', _, ?_, ?_, Fr.snoc X' hFr (rho_ge hk), st⟩
  · rw [hs, List.length_set, Nat.sub_self, Nat.sub_self, Nat.add_zero, Nat.add_zero]; exact X'
  · rw [eT']; exact hR.wrArr hi W
theorem Ev.bastore {i : Nat} {xs : List Int32} {j v : Int32} (hd : decode (mB M) pc = .ok (.bastore, 1)) (hk : k0 G ≤ i) (hi : h[i]? = some (.inr (true, xs))) (hj : ¬ j < 0) (hlt : j.toNatClampNeg < xs.length) (hn : Ev G M (pc + 1) L S (h.set i (.inr (true, xs.set j.toNatClampNeg (v &&& 1)))) r) : Ev G M pc L (.int v :: .int j :: .ref i :: S) h r := by
  have hs := hsl_set (gK G) h i (.inr (true, xs)) (.inr (true, xs.set j.toNatClampNeg (v &&& 1))) hi (by simp [csl])
  refine Ev.gen (by rw [List.length_set]; exact Nat.le_refl _) (by rw [hs]; exact Nat.le_refl _) rfl hn ?_
  intro p e R s m args below meth c T locs cells slots X hx hZ hown hby hml hnm hLm hfr hlo hsz hR hFr hc hsq
  obtain ⟨cl, A, hsz'⟩ := hR.2.2.2 i _ hi
  obtain ⟨T', h', X', eT', W, st⟩ := stZ X hx hZ rfl A (j := j) (x := v) (fun q => q.elim hj fun q => absurd (arr_size hsz' ▸ q) (Nat.not_le.mpr hlt)) (g := mkF m pc (arL G L) ((Value.int v :: Value.int j :: Value.ref i :: S).map (tr G))) rfl rfl (hb hby hd)
  refine ⟨T', _, ?_, ?_, Fr.snoc X' hFr (rho_ge hk), st⟩
  · rw [hs, List.length_set, Nat.sub_self, Nat.sub_self, Nat.add_zero, Nat.add_zero]; exact X'
  · rw [eT']; exact hR.wrArr hi W
/-! ### making -/
theorem Ev.new {idx : Nat} {fs : List Value} (K : GOk G) (w : (Jvm.Cond.classLink (mN M).cls idx (gC G)).before (gA G) (gZ G) = true) (hd : decode (mB M) pc = .ok (.new idx, 3)) (hf : fs = (gF G).map fun f => defaultValue f.2.2)
    (hn : Ev G M (pc + 3) L (.ref h.length :: S) (h ++ [.inl fs]) r) : Ev G M pc L S h r := by
  subst hf
  have hs := hsl_push (gK G) h (.inl ((gF G).map fun f => defaultValue f.2.2))
  refine Ev.gen (by simp) (by rw [hs]; exact Nat.le_add_right _ _) rfl hn ?_
  intro p e R s m args below meth c T locs cells slots X hx hZ hown hby hml hnm hLm hfr hlo hsz hR hFr hc hsq
  have el : (h ++ [(.inl ((gF G).map fun f => defaultValue f.2.2) : MCell)]).length - h.length = 1 := by simp
  have es : hsl (gK G) (h ++ [.inl ((gF G).map fun f => defaultValue f.2.2)]) - hsl (gK G) h = gK G := by rw [hs]; simp [csl]
  rw [el] at hc
  rw [es] at hsq
  obtain ⟨T', h', X', eT', E, A, D, -, st⟩ := newO X hx hZ hown w K.2.2.1 K.2.2.2 rfl (g := mkF m pc (arL G L) (S.map (tr G))) rfl (hb hby hd) hc hsq
  rw [el, es]
  have hrho : rho G h.length = T.heap.size := by rw [rho_new hR.2.1]; have := hR.1; have := hR.2.1; omega
  refine ⟨T', _, X', ?_, hFr, fun target k => st target ?_⟩
  · rw [eT']
    refine hR.push E ?_ ⟨A, by simp, fun j n d ty v hf hv => ?_⟩
    · have h1 := X'.heapSize
      have h2 : T.heap.size < h'.size := A.lt
      rw [eT'] at h1
      omega
    · rw [List.getElem?_map, hf] at hv
      cases hv
      have := D (K.1 j n d ty hf).1 (K.1 j n d ty hf).2
      have e : tr G (defaultValue ty) = defaultValue ty := by cases ty <;> rfl
      rw [e]; exact this
  · rw [← hrho]; exact k
theorem Ev.newarray {aty : ArrayType} {b : Bool} {n : Int32} {k : Nat} (w : (Jvm.Cond.arrayClass (newarray.typeOf aty)).before (gA G) (gZ G) = true) (hb' : newarray.typeOf aty = kd b) (hd : decode (mB M) pc = .ok (.newarray aty, 2)) (hn0 : ¬ n < 0) (hk : n.toNatClampNeg = k) (hcap : k ≤ 67108864)
    (hn : Ev G M (pc + 2) L (.ref h.length :: S) (h ++ [.inr (b, List.replicate k 0)]) r) : Ev G M pc L (.int n :: S) h r := by
  subst hk
  have hs := hsl_push (gK G) h (.inr (b, List.replicate n.toNatClampNeg 0))
  refine Ev.gen (by simp) (by rw [hs]; exact Nat.le_add_right _ _) rfl hn ?_
  intro p e R s m args below meth c T locs cells slots X hx hZ hown hby hml hnm hLm hfr hlo hsz hR hFr hc hsq
  have el : (h ++ [(.inr (b, List.replicate n.toNatClampNeg 0) : MCell)]).length - h.length = 1 := by simp
  have es : hsl (gK G) (h ++ [.inr (b, List.replicate n.toNatClampNeg 0)]) - hsl (gK G) h = n.toNatClampNeg := by rw [hs]; simp [csl]
  rw [el] at hc
  rw [es] at hsq
  obtain ⟨T', h', cA, X', eT', E, A, st⟩ := newP X hx hZ w rfl (g := mkF m pc (arL G L) ((Value.int n :: S).map (tr G))) rfl (hb hby hd) rfl hn0 (cap := n.toNatClampNeg) (Nat.le_refl _) (by omega) hc hsq
  rw [el, es]
  have hrho : rho G h.length = T.heap.size := by rw [rho_new hR.2.1]; have := hR.1; have := hR.2.1; omega
  refine ⟨T', _, X', ?_, hFr, fun target k => st target ?_⟩
  · rw [eT']
    refine hR.push E ?_ ⟨_, hb' ▸ A, ?_⟩
    · have h1 := X'.heapSize
      have h2 : T.heap.size < h'.size := A.lt
      rw [eT'] at h1
      omega
    · have e0 : defaultValue (kd b) = .int 0 := by cases b <;> rfl
      show Array.replicate n.toNatClampNeg (defaultValue (kd b)) = _
      rw [e0]
      simp
  · rw [← hrho]; exact k
theorem Ev.initO {idx i : Nat} (w1 : (Jvm.Cond.methodLink (mN M).cls idx Lib.objectInit).before (gA G) (gZ G) = true) (w2 : (Jvm.Cond.instanceMethod Lib.objectInit).before (gA G) (gZ G) = true) (w3 : (Jvm.Cond.code Lib.objectInit ⟨#[0xb1]⟩ 1 none).before (gA G) (gZ G) = true)
    (hd : decode (mB M) pc = .ok (.invokespecial idx, 3)) (hf : 1 ≤ mF M) (hl : (S.map fun v => v.category).sum + 12 ≤ mW M) (hn : Ev G M (pc + 3) L S h r) : Ev G M pc L (.ref i :: S) h r := by
  refine Ev.same rfl hn ?_
  intro p e R s m args below meth c T locs cells slots X hx hZ hown hby hml hLm hfr hlo hR
  obtain ⟨T', X', e', st⟩ := RoadKit.initO X hx hZ hown w1 w2 w3 rfl (g := mkF m pc (arL G L) ((Value.ref i :: S).map (tr G))) rfl (by rw [hml, ← hLm]; simp [arL]) (a := rho G i) (rest := S.map (tr G)) rfl (hb hby hd) (Nat.le_trans hf hfr) (W := (S.map fun v => v.category).sum) (by rw [tr_cats]; show 2 * 0 + _ ≤ _; omega) (by omega)
  exact ⟨T', X', e', st⟩
/-! ### calls -/
def notMH (y : Mi) : Prop := (mN y).cls ≠ "java/lang/invoke/MethodHandle" ∧ (mN y).cls ≠ "java/lang/invoke/VarHandle"
theorem mapRev (G : Ctx) (args : List Value) : (args.reverse).map (tr G) = (args.map (tr G)).reverse := by simp
theorem vList (G : Ctx) (v : Option Value) (S : List Value) : (v.map (tr G)).toList ++ S.map (tr G) = (v.toList ++ S).map (tr G) := by cases v <;> simp
theorem back_of_evc {p : Program} {e : Env} {R : Room} {s : State} {args0 : Array Value} {below : List Frame} {y : Mi} {args : List Value} {r1 : Option Value × MHeap} {hr : Heap} {W : Nat} (hC : EvC G y args h r1) (hR : Rel G hr h) (hZ : (gZ G).Warmed39 s.vm)
    (wc : (Jvm.Cond.code (mN y) (mB y) (mL y) (mR y)).before (gA G) (gZ G) = true) (wz : (Jvm.Cond.initialized (mN y).cls).before (gA G) (gZ G) = true) (hf : mF y + 1 ≤ R.frames) (hl : W + (mL y + 11) + mW y ≤ R.locals) :
    Back (gL G) R p e below s args0 (mN y) 3 W (fun A a => a = (args.map (tr G)).toArray ∧ A.U.heap = hr ∧ A.cells + (r1.2.length - h.length) ≤ R.cells ∧ A.slots + (hsl (gK G) r1.2 - hsl (gK G) h) ≤ R.slots)
      (fun A _ v B => ∃ L, (v = r1.1.map (tr G) ∧ Fr (gN G) L ∧ Rel G B.U.heap r1.2) ∧ B.locs = A.locs ++ L ∧ B.cells = A.cells + (r1.2.length - h.length) ∧ B.slots = A.slots + (hsl (gK G) r1.2 - hsl (gK G) h)) :=
  backOf (Q := fun v hp L => v = r1.1.map (tr G) ∧ Fr (gN G) L ∧ Rel G hp r1.2) (rm := { frames := mF y, cells := r1.2.length - h.length, slots := hsl (gK G) r1.2 - hsl (gK G) h, locals := mW y })
    (hC.2 [] { frames := mF y, cells := r1.2.length - h.length, slots := hsl (gK G) r1.2 - hsl (gK G) h, locals := mW y } hr (Nat.le_refl _) (Nat.le_refl _) (Nat.le_refl _) (Nat.le_refl _) hR) hZ wc wz hf hl
/-- a private method of the class -/
theorem Ev.priv {y : Mi} {idx i : Nat} {args rest : List Value} {v : Option Value} {h1 : MHeap} {fs : List Value} (K : GOk G) (hcls : (mN y).cls = gC G) (hy : notMH y)
    (wl : (Jvm.Cond.methodLink (mN M).cls idx (mN y)).before (gA G) (gZ G) = true) (wi : (Jvm.Cond.instanceMethod (mN y)).before (gA G) (gZ G) = true) (wp : (Jvm.Cond.privateMethod (mN y)).before (gA G) (gZ G) = true)
    (wc : (Jvm.Cond.code (mN y) (mB y) (mL y) (mR y)).before (gA G) (gZ G) = true) (hlen : ∀ sig, parseMethodDescriptor (mN y).desc = some sig → args.length = sig.parameters.length)
    (hd : decode (mB M) pc = .ok (.invokevirtual idx, 3)) (hi : h[i]? = some (.inl fs)) (hC : EvC G y (.ref i :: args) h (v, h1)) (hfr : mF y + 1 ≤ mF M) (hlo : (rest.map fun v => v.category).sum + (mL y + 11) + mW y ≤ mW M)
    (hS : S = args.reverse ++ .ref i :: rest) (hn : Ev G M (pc + 3) L (v.toList ++ rest) h1 r) : Ev G M pc L S h r := by
  subst hS
  refine Ev.gen hC.1.1 hC.1.2 rfl hn ?_
  intro p e R s m args0 below meth c T locs cells slots X hx hZ hown hby hml hnm hLm hfr' hlo' hsz hR hFr hc hsq
  obtain ⟨e1, -, -⟩ := hR.2.2.2 i _ hi
  obtain ⟨cell, hcell, hobj⟩ := e1.cell
  have hwi : (Jvm.Cond.instanceMethod (mN y)).before args0 s = true := mvT hZ wi
  have hpr := Jvm.Cond.privateMethod_at (mvP hZ wp (args := #[]))
  have hsel : (Jvm.Cond.selects (mN y).cls (mN y) (mN y)).before args0 s = true := by
    obtain ⟨c0, k0', q1, q2, -, q4, -⟩ := Jvm.Cond.instantiable_spec (mvT hZ K.2.2.1 (args := #[]) (s := s))
    refine selects_self_of_private (c := c0) (k := k0') (by rw [hcls]; exact q1) q2 ?_ hpr hwi hy
    simp only [Bool.or_eq_false_iff] at q4
    exact q4.1
  obtain ⟨v', vm1, ⟨T', L', k', n'⟩, -, X', ⟨Lc, ⟨rfl, hF', hR'⟩, l1, l2, l3⟩, st⟩ := X.privateBack hx (y := mN y) hown (mvT hZ wl) hwi hsel hpr (mvT hZ wc) hy
    (back_of_evc (W := (rest.map fun v => v.category).sum) hC hR hZ wc (hcls ▸ K.2.2.2) (Nat.le_trans hfr hfr') (Nat.le_trans hlo hlo')) (g := mkF m pc (arL G L) ((args.reverse ++ Value.ref i :: rest).map (tr G))) rfl (by rw [hml, ← hLm]; simp [arL]) (Steps.refl _) hcell hobj
    (argsL := args.map (tr G)) (rest := rest.map (tr G)) (fun sig hsig => by rw [List.length_map]; exact hlen sig hsig) (by simp [tr]) (by rw [tr_cats]; show 2 * 0 + _ ≤ _; omega) (hb hby hd) (fun vm1 hW1 => ⟨rfl, rfl, hc, hsq⟩)
  dsimp only [Pt.U, Pt.locs, Pt.cells, Pt.slots] at X' l1 l2 l3 st hR'
  subst l1 l2 l3
  refine ⟨T', _, X', hR', hFr.app hF', fun target k => st.trans ?_⟩
  rw [vList]
  exact k
/-- a method of the class that no one overrides -/
theorem Ev.virt {y : Mi} {idx i : Nat} {args rest : List Value} {v : Option Value} {h1 : MHeap} {fs : List Value} (K : GOk G) (hcls : (mN y).cls = gC G) (hy : notMH y)
    (wl : (Jvm.Cond.methodLink (mN M).cls idx (mN y)).before (gA G) (gZ G) = true) (wd : (Jvm.Cond.declares (mN y)).before (gA G) (gZ G) = true) (wi : (Jvm.Cond.instanceMethod (mN y)).before (gA G) (gZ G) = true) (ws : (Jvm.Cond.selects (gC G) (mN y) (mN y)).before (gA G) (gZ G) = true)
    (wc : (Jvm.Cond.code (mN y) (mB y) (mL y) (mR y)).before (gA G) (gZ G) = true) (hlen : ∀ sig, parseMethodDescriptor (mN y).desc = some sig → args.length = sig.parameters.length)
    (hd : decode (mB M) pc = .ok (.invokevirtual idx, 3)) (hi : h[i]? = some (.inl fs)) (hC : EvC G y (.ref i :: args) h (v, h1)) (hfr : mF y + 1 ≤ mF M) (hlo : (rest.map fun v => v.category).sum + (mL y + 11) + mW y ≤ mW M)
    (hS : S = args.reverse ++ .ref i :: rest) (hn : Ev G M (pc + 3) L (v.toList ++ rest) h1 r) : Ev G M pc L S h r := by
  subst hS
  refine Ev.gen hC.1.1 hC.1.2 rfl hn ?_
  intro p e R s m args0 below meth c T locs cells slots X hx hZ hown hby hml hnm hLm hfr' hlo' hsz hR hFr hc hsq
  obtain ⟨e1, -, -⟩ := hR.2.2.2 i _ hi
  obtain ⟨cq, kq, qa, qb, qc⟩ := isOf (T := T) hZ rfl e1
  obtain ⟨v', vm1, ⟨T', L', k', n'⟩, -, X', ⟨Lc, ⟨rfl, hF', hR'⟩, l1, l2, l3⟩, st⟩ := X.virtualBack hx (y := mN y) (z := mN y) hown (mvT hZ wl) (mvT hZ wd) (notFace_of_selects (args := #[]) (mvT hZ ws)) (mvT hZ ws) (mvT hZ wi) hy
    (back_of_evc (W := (rest.map fun v => v.category).sum) hC hR hZ wc (hcls ▸ K.2.2.2) (Nat.le_trans hfr hfr') (Nat.le_trans hlo hlo')) qa qc (g := mkF m pc (arL G L) ((args.reverse ++ Value.ref i :: rest).map (tr G))) rfl (by rw [hml, ← hLm]; simp [arL]) (Steps.refl _)
    (argsL := args.map (tr G)) (rest := rest.map (tr G)) (fun sig hsig => by rw [List.length_map]; exact hlen sig hsig) (by simp [tr]) (by rw [tr_cats]; show 2 * 0 + _ ≤ _; omega) (hb hby hd) (fun vm1 hW1 => ⟨rfl, rfl, hc, hsq⟩)
  dsimp only [Pt.U, Pt.locs, Pt.cells, Pt.slots] at X' l1 l2 l3 st hR'
  subst l1 l2 l3
  refine ⟨T', _, X', hR', hFr.app hF', fun target k => st.trans ?_⟩
  rw [vList]
  exact k
/-- a constructor -/
theorem Ev.ctor {y : Mi} {idx i : Nat} {args rest : List Value} {v : Option Value} {h1 : MHeap} (hy1 : (mN y).name = "<init>") (hret : mR y = none) (hy : notMH y)
    (wl : (Jvm.Cond.methodLink (mN M).cls idx (mN y)).before (gA G) (gZ G) = true) (wi : (Jvm.Cond.instanceMethod (mN y)).before (gA G) (gZ G) = true)
    (wc : (Jvm.Cond.code (mN y) (mB y) (mL y) (mR y)).before (gA G) (gZ G) = true) (wz : (Jvm.Cond.initialized (mN y).cls).before (gA G) (gZ G) = true) (hlen : ∀ sig, parseMethodDescriptor (mN y).desc = some sig → args.length = sig.parameters.length)
    (hd : decode (mB M) pc = .ok (.invokespecial idx, 3)) (hC : EvC G y (.ref i :: args) h (v, h1)) (hfr : mF y + 1 ≤ mF M) (hlo : (rest.map fun v => v.category).sum + (mL y + 11) + mW y ≤ mW M)
    (hS : S = args.reverse ++ .ref i :: rest) (hn : Ev G M (pc + 3) L (v.toList ++ rest) h1 r) : Ev G M pc L S h r := by
  subst hS
  refine Ev.gen hC.1.1 hC.1.2 rfl hn ?_
  intro p e R s m args0 below meth c T locs cells slots X hx hZ hown hby hml hnm hLm hfr' hlo' hsz hR hFr hc hsq
  obtain ⟨v', vm1, ⟨T', L', k', n'⟩, -, X', ⟨Lc, ⟨rfl, hF', hR'⟩, l1, l2, l3⟩, st⟩ := X.specialBack hx (y := mN y) hy1 hown (mvT hZ wl) (mvT hZ wi) (mvT hZ (hret ▸ wc)) hy
    (back_of_evc (W := (rest.map fun v => v.category).sum) hC hR hZ wc wz (Nat.le_trans hfr hfr') (Nat.le_trans hlo hlo')) (g := mkF m pc (arL G L) ((args.reverse ++ Value.ref i :: rest).map (tr G))) rfl (by rw [hml, ← hLm]; simp [arL]) (Steps.refl _)
    (a := rho G i) (argsL := args.map (tr G)) (rest := rest.map (tr G)) (fun sig hsig => by rw [List.length_map]; exact hlen sig hsig) (by simp [tr]) (by rw [tr_cats]; show 2 * 0 + _ ≤ _; omega) (hb hby hd) (fun vm1 hW1 => ⟨rfl, rfl, hc, hsq⟩)
  dsimp only [Pt.U, Pt.locs, Pt.cells, Pt.slots] at X' l1 l2 l3 st hR'
  subst l1 l2 l3
  refine ⟨T', _, X', hR', hFr.app hF', fun target k => st.trans ?_⟩
  rw [vList]
  exact k
/-- a static method -/
theorem Ev.stat {y : Mi} {idx : Nat} {args rest : List Value} {v : Option Value} {h1 : MHeap} (hy : notMH y)
    (wl : (Jvm.Cond.methodLink (mN M).cls idx (mN y)).before (gA G) (gZ G) = true) (wst : (Jvm.Cond.static (mN y)).before (gA G) (gZ G) = true) (wz : (Jvm.Cond.initialized (mN y).cls).before (gA G) (gZ G) = true)
    (wc : (Jvm.Cond.code (mN y) (mB y) (mL y) (mR y)).before (gA G) (gZ G) = true) (hlen : ∀ sig, parseMethodDescriptor (mN y).desc = some sig → args.length = sig.parameters.length)
    (hd : decode (mB M) pc = .ok (.invokestatic idx, 3)) (hC : EvC G y args h (v, h1)) (hfr : mF y + 1 ≤ mF M) (hlo : (rest.map fun v => v.category).sum + (mL y + 11) + mW y ≤ mW M)
    (hS : S = args.reverse ++ rest) (hn : Ev G M (pc + 3) L (v.toList ++ rest) h1 r) : Ev G M pc L S h r := by
  subst hS
  refine Ev.gen hC.1.1 hC.1.2 rfl hn ?_
  intro p e R s m args0 below meth c T locs cells slots X hx hZ hown hby hml hnm hLm hfr' hlo' hsz hR hFr hc hsq
  obtain ⟨v', vm1, ⟨T', L', k', n'⟩, -, X', ⟨Lc, ⟨rfl, hF', hR'⟩, l1, l2, l3⟩, st⟩ := Jvm.LawKit.callS X hx (y := mN y) hown (mvT hZ wl) (mvT hZ wst) (mvT hZ wz) (mvT hZ wc) hy
    (back_of_evc (W := (rest.map fun v => v.category).sum) hC hR hZ wc wz (Nat.le_trans hfr hfr') (Nat.le_trans hlo hlo')) (g := mkF m pc (arL G L) ((args.reverse ++ rest).map (tr G))) rfl (by rw [hml, ← hLm]; simp [arL])
    (argsL := args.map (tr G)) (rest := rest.map (tr G)) (fun sig hsig => by rw [List.length_map]; exact hlen sig hsig) (by simp) (by rw [tr_cats]; show 2 * 0 + _ ≤ _; omega) (hb hby hd) (fun vm1 hW1 => ⟨rfl, rfl, hc, hsq⟩)
  dsimp only [Pt.U, Pt.locs, Pt.cells, Pt.slots] at X' l1 l2 l3 st hR'
  subst l1 l2 l3
  refine ⟨T', _, X', hR', hFr.app hF', fun target k => st target ?_⟩
  rw [vList]
  exact k
/-! ### returns -/
theorem Ev.ret {v : Option Value} (st : ∀ {p : Program} {e : Env} {R : Room} {s : State} {m : MethodId} {args : Array Value} {below : List Frame} {meth : Method} {c : Code} {T : State} {locs : List Loc} {cells slots : Nat},
      Stand p (gL G) e R s m args below meth c T locs cells slots → p.tables.exec = Jvm.exec → c.code = mB M → meth.sig.returnType = mR M → ∀ fs,
      (∀ (f : JFrame) (acts : List Action), f.method = m → f.locked = none → f.entered = [] → (doReturn e (T.setTop f) acts (v.map (tr G))).1 = T.setFrames fs) → Steps p.tables e below (T.setTop (mkF m pc (arL G L) (S.map (tr G)))) (T.setFrames fs)) :
    Ev G M pc L S h (v, h) := by
  refine ⟨⟨Nat.le_refl _, Nat.le_refl _⟩, ?_⟩
  intro p e R s m args below meth c T locs cells slots X hx hZ hown hby hml hret hnm hLm hfr hlo hsz hR hF hc hs
  refine ⟨T, locs, ?_, hR, hF, st X hx hby hret⟩
  rw [Nat.sub_self, Nat.sub_self, Nat.add_zero, Nat.add_zero]
  exact X
theorem Ev.ireturn {z : Int32} (hret : mR M = some .int) (hd : decode (mB M) pc = .ok (.ireturn, 1)) : Ev G M pc L (.int z :: S) h (some (.int z), h) :=
  Ev.ret fun X hx hby hr fs hl => retOut X hx (hr.trans hret) rfl (Or.inl ⟨rfl, Or.inl rfl, z, rfl⟩) (hb hby hd) hl
theorem Ev.zreturn {z : Int32} (hret : mR M = some .boolean) (hd : decode (mB M) pc = .ok (.ireturn, 1)) : Ev G M pc L (.int z :: S) h (some (.int (z &&& 1)), h) :=
  Ev.ret fun X hx hby hr fs hl => retN X hx (t := .boolean) (hr.trans hret) (Or.inl rfl) (hb hby hd) hl
theorem Ev.lreturn {z : Int64} (hret : mR M = some .long) (hd : decode (mB M) pc = .ok (.lreturn, 1)) : Ev G M pc L (.long z :: S) h (some (.long z), h) :=
  Ev.ret fun X hx hby hr fs hl => retOut X hx (hr.trans hret) rfl (Or.inr (Or.inl ⟨rfl, rfl, z, rfl⟩)) (hb hby hd) hl
theorem Ev.vreturn (hret : mR M = none) (hd : decode (mB M) pc = .ok (.return_, 1)) : Ev G M pc L [] h (none, h) :=
  Ev.ret fun X hx hby hr fs hl => X.returnOut hx (hr.trans hret) (hb hby hd) hl
/-! ### entering -/
def margs : List Value → List Slot
  | [] => []
  | v :: vs => if v.category = 2 then .val v :: .second :: margs vs else .val v :: margs vs
theorem margs_fold (vs : List Value) : ∀ acc : Array Slot, vs.foldl (init := acc) (fun acc v => if v.category = 2 then (acc.push (.val v)).push .second else acc.push (.val v)) = acc ++ (margs vs).toArray := by
  induction vs with
  | nil => intro acc; simp [margs]
  | cons v vs ih =>
    intro acc
    rw [List.foldl_cons, ih]
    by_cases h : v.category = 2
    · simp [margs, h]
    · simp [margs, h]
theorem margs_map (G : Ctx) : ∀ vs : List Value, margs (vs.map (tr G)) = (margs vs).map (trS G)
  | [] => rfl
  | v :: vs => by
    have ih := margs_map G vs
    by_cases h : v.category = 2
    · simp only [List.map_cons, margs, tr_cat, h, if_true, ih]; rfl
    · simp only [List.map_cons, margs, tr_cat, h, if_false, ih]; rfl
def ment (args : List Value) (k : Nat) : List Slot := margs args ++ List.replicate (k - (margs args).length) .unset
theorem entry_eq (G : Ctx) (m : MethodId) (args : List Value) (k : Nat) : entryFrame m (args.map (tr G)).toArray k = mkF m 0 (arL G (ment args k)) [] := by
  have e : argsToLocals (args.map (tr G)).toArray k = arL G (ment args k) := by
    unfold argsToLocals arL ment
    have q := margs_fold (args.map (tr G)) #[]
    rw [List.foldl_toArray']
    · rw [q, margs_map]
      simp [trS]
    · simp
  unfold entryFrame
  rw [e]
theorem EvC.enter {y : Mi} {args : List Value} {L0 : List Slot} (hp : plainFor (mN y) = true) (hv : mR y = none → r.1 = none) (hL : ment args (mL y) = L0) (hlen : L0.length = mL y) (hn : Ev G y 0 L0 [] h r) : EvC G y args h r := by
  subst hL
  refine ⟨hn.1, fun ws R hr hf hl hc hs hR => ?_⟩
  refine MetFree.of_bodySF hp hisR ?_
  intro p e s m args' below meth c s₁ Bd hml0 hP hK
  obtain ⟨rfl, hZ, hh⟩ := hP
  have X0 : Stand p (gL G) e R s m _ below meth c s₁ [] 0 0 := Stand.of_body Bd
  have e0 : s₁.heap = hr := by rw [← hh, Bd.state]; rfl
  obtain ⟨T', locs', X', R', F', st⟩ := hn.2 p e R s m _ below meth c s₁ [] 0 0 X0 Bd.exec hZ (findClass_of_methodNamed Bd.named) Bd.bytes hml0 Bd.returns (name_of_methodNamed Bd.named Bd.method).1 hlen hf hl (by rw [e0, hh]; rfl) (by rw [e0]; exact hR) (Fr.nil _) (by omega) (by omega)
  rw [Nat.zero_add, Nat.zero_add] at X'
  obtain ⟨fs, hret, hrun, hended, hW, hsame⟩ := X'.leave (v := r.1.map (tr G)) (fun q => by rw [hv (Bd.returns.symm.trans q)]; rfl)
  refine ⟨_, _, castTop (entry_eq G m args (mL y)) (st fs hret), hrun, hended, _, _, rfl, ⟨rfl, F', ?_⟩, ⟨_, rfl⟩, hW, hsame⟩
  exact R'
end Rules
end Jvm.Own
namespace Jvm.Own
open Sem ClassFile Op Lib Jvm.Stand Jvm.Free Jvm.LawKit Jvm.RoadKit
/-! ## 4. An object as two functions: its ints by the field's number, its arrays by the field's number and the place -/
abbrev St := (Nat → Int32) × (Nat → Nat → Int32)
def setI (s : St) (j : Nat) (z : Int32) : St := (fun k => if k = j then z else s.1 k, s.2)
def setA (s : St) (j i : Nat) (z : Int32) : St := (s.1, fun k x => if k = j ∧ x = i then z else s.2 k x)
def zeroS : St := (fun _ => 0, fun _ _ => 0)
theorem setI_1 (s : St) (j : Nat) (z : Int32) (k : Nat) : (setI s j z).1 k = if k = j then z else s.1 k := rfl
theorem setI_2 (s : St) (j : Nat) (z : Int32) : (setI s j z).2 = s.2 := rfl
theorem setA_1 (s : St) (j i : Nat) (z : Int32) : (setA s j i z).1 = s.1 := rfl
theorem setA_2 (s : St) (j i : Nat) (z : Int32) (k x : Nat) : (setA s j i z).2 k x = if k = j ∧ x = i then z else s.2 k x := rfl
def ix (j : Int32) : Nat := j.toNatClampNeg
/-- the place j lies in an array of n -/
def inb (j : Int32) (n : Nat) : Prop := ¬ j < 0 ∧ ix j < n
instance (j : Int32) (n : Nat) : Decidable (inb j n) := inferInstanceAs (Decidable (_ ∧ _))
def bnd {α β : Type} (x : α) (f : α → β) : β := f x
theorem bnd_eq {α β : Type} (x : α) (f : α → β) : bnd x f = f x := rfl
def tab (n : Nat) (f : Nat → Int32) : List Int32 := (List.range n).map f
theorem tab_len (n : Nat) (f : Nat → Int32) : (tab n f).length = n := by simp [tab]
theorem tab_get {n : Nat} {f : Nat → Int32} {i : Nat} (h : i < n) : (tab n f)[i]? = some (f i) := by simp [tab, h]
theorem tab_set {n : Nat} {f : Nat → Int32} {i : Nat} {z : Int32} : (tab n f).set i z = tab n (fun x => if x = i then z else f x) := by
  apply List.ext_getElem?
  intro k
  rw [List.getElem?_set]
  by_cases h : i = k
  · subst h
    by_cases q : i < n
    · simp [tab, q]
    · simp [tab, q]
  · by_cases q : k < n
    · simp [tab, q, h, Ne.symm h]
    · simp [tab, q, h]
theorem tab_zero (n : Nat) : tab n (fun _ => 0) = List.replicate n 0 := by
  apply List.ext_getElem?
  intro k
  by_cases q : k < n <;> simp [tab, q]
theorem tab_of (xs : List Int32) : xs = tab xs.length (fun i => xs.getD i 0) := by
  apply List.ext_getElem?
  intro k
  by_cases q : k < xs.length
  · simp [tab, q]
  · simp [tab, q]
def isA : FieldType → Bool
  | .array _ => true
  | _ => false
def isB : FieldType → Bool
  | .boolean => true
  | _ => false
def fv1 (r : Nat → Nat) (s : St) (j : Nat) (f : Fd) : Value := match f.2.2 with
  | .array _ => .ref (r j)
  | _ => .int (s.1 j)
def fvA (r : Nat → Nat) (s : St) : Nat → List Fd → List Value
  | _, [] => []
  | j, f :: fs => fv1 r s j f :: fvA r s (j + 1) fs
theorem fvA_get (r : Nat → Nat) (s : St) : ∀ (F : List Fd) (k j : Nat), (fvA r s k F)[j]? = (F[j]?).map (fv1 r s (k + j))
  | [], _, _ => by simp [fvA]
  | f :: fs, k, 0 => by simp [fvA]
  | f :: fs, k, j + 1 => by
    have := fvA_get r s fs (k + 1) j
    simp only [fvA, List.getElem?_cons_succ, this]
    rw [show k + 1 + j = k + (j + 1) by omega]
theorem fvA_len (r : Nat → Nat) (s : St) : ∀ (F : List Fd) (k : Nat), (fvA r s k F).length = F.length
  | [], _ => rfl
  | f :: fs, k => by simp [fvA, fvA_len r s fs (k + 1)]
theorem fvA_set {r : Nat → Nat} {s : St} {F : List Fd} {j : Nat} {f : Fd} {z : Int32} (hF : F[j]? = some f) (ht : isA f.2.2 = false) : (fvA r s 0 F).set j (.int z) = fvA r (setI s j z) 0 F := by
  apply List.ext_getElem?
  intro k
  rw [List.getElem?_set, fvA_get, fvA_get, Nat.zero_add]
  by_cases h : j = k
  · subst h
    simp only [if_true, fvA_len, (List.getElem?_eq_some_iff.mp hF).1, hF, Option.map_some]
    congr 1
    unfold fv1
    split
    · rename_i t e; rw [e] at ht; cases ht
    · simp [setI_1]
  · simp only [h, if_false]
    cases F[k]? with
    | none => rfl
    | some g =>
      simp only [Option.map_some]
      congr 1
      unfold fv1
      split
      · rfl
      · rw [setI_1, if_neg (Ne.symm h)]
theorem fvA_same (r : Nat → Nat) {s s' : St} (h : s.1 = s'.1) : ∀ (F : List Fd) (k : Nat), fvA r s k F = fvA r s' k F
  | [], _ => rfl
  | f :: fs, k => by
    simp only [fvA, fvA_same r h fs (k + 1)]
    congr 1
    unfold fv1
    split
    · rfl
    · rw [h]
/-- the heap K s shows the object at o, its arrays at r, as s tells -/
def View (G : Ctx) (Ln : Nat → Nat) (K : St → MHeap) (o : Nat) (r : Nat → Nat) : Prop :=
  k0 G ≤ o ∧ (∀ s, (K s)[o]? = some (.inl (fvA r s 0 (gF G)))) ∧
  (∀ s j f z, (gF G)[j]? = some f → isA f.2.2 = false → (K s).set o (.inl ((fvA r s 0 (gF G)).set j (.int z))) = K (setI s j z)) ∧
  (∀ j n d t, (gF G)[j]? = some (n, d, .array t) → k0 G ≤ r j ∧ (∀ s, (K s)[r j]? = some (.inr (isB t, tab (Ln j) (s.2 j)))) ∧ ∀ s i z, i < Ln j → (K s).set (r j) (.inr (isB t, (tab (Ln j) (s.2 j)).set i z)) = K (setA s j i z))
section ViewRules
variable {G : Ctx} {M : Mi} {pc : Nat} {L : List Slot} {S : List Value} {rr : Option Value × MHeap} {Ln : Nat → Nat} {K : St → MHeap} {o : Nat} {r : Nat → Nat} {s : St}
theorem Ev.gI {idx j : Nat} {n d : String} {ty : FieldType} (V : View G Ln K o r) (w : (Jvm.Cond.fieldLink (mN M).cls idx (gC G) n d).before (gA G) (gZ G) = true) (hd : decode (mB M) pc = .ok (.getfield idx, 3)) (hF : (gF G)[j]? = some (n, d, ty)) (ht : isA ty = false)
    (hn : Ev G M (pc + 3) L (.int (s.1 j) :: S) (K s) rr) : Ev G M pc L (.ref o :: S) (K s) rr :=
  Ev.getfield w hd hF (V.2.1 s) (v := .int (s.1 j)) (by rw [fvA_get, hF, Nat.zero_add]; simp only [Option.map_some, fv1]; cases ty <;> first | rfl | cases ht) hn
theorem Ev.gAr {idx j : Nat} {n d : String} {t : FieldType} (V : View G Ln K o r) (w : (Jvm.Cond.fieldLink (mN M).cls idx (gC G) n d).before (gA G) (gZ G) = true) (hd : decode (mB M) pc = .ok (.getfield idx, 3)) (hF : (gF G)[j]? = some (n, d, .array t))
    (hn : Ev G M (pc + 3) L (.ref (r j) :: S) (K s) rr) : Ev G M pc L (.ref o :: S) (K s) rr :=
  Ev.getfield w hd hF (V.2.1 s) (v := .ref (r j)) (by rw [fvA_get, hF, Nat.zero_add]; rfl) hn
theorem Ev.pI {idx j : Nat} {n d : String} {z : Int32} (V : View G Ln K o r) (Kk : GOk G) (w : (Jvm.Cond.fieldLink (mN M).cls idx (gC G) n d).before (gA G) (gZ G) = true)
    (wl : (Jvm.Cond.lays (gC G) (gC G) n d).before (gA G) (gZ G) = true ∨ ((Jvm.Cond.laysFinal (gC G) (gC G) n d).before (gA G) (gZ G) = true ∧ (mN M).cls = gC G ∧ (mN M).name = "<init>"))
    (hd : decode (mB M) pc = .ok (.putfield idx, 3)) (hF : (gF G)[j]? = some (n, d, .int)) (hn : Ev G M (pc + 3) L S (K (setI s j z)) rr) : Ev G M pc L (.int z :: .ref o :: S) (K s) rr := by
  refine Ev.putfield Kk w wl hd hF V.1 (V.2.1 s) (v' := .int z) rfl ?_
  rw [V.2.2.1 s j _ z hF rfl]; exact hn
theorem Ev.pZ {idx j : Nat} {n d : String} {z : Int32} (V : View G Ln K o r) (Kk : GOk G) (w : (Jvm.Cond.fieldLink (mN M).cls idx (gC G) n d).before (gA G) (gZ G) = true)
    (wl : (Jvm.Cond.lays (gC G) (gC G) n d).before (gA G) (gZ G) = true ∨ ((Jvm.Cond.laysFinal (gC G) (gC G) n d).before (gA G) (gZ G) = true ∧ (mN M).cls = gC G ∧ (mN M).name = "<init>"))
    (hd : decode (mB M) pc = .ok (.putfield idx, 3)) (hF : (gF G)[j]? = some (n, d, .boolean)) (hn : Ev G M (pc + 3) L S (K (setI s j (z &&& 1))) rr) : Ev G M pc L (.int z :: .ref o :: S) (K s) rr := by
  refine Ev.putfield Kk w wl hd hF V.1 (V.2.1 s) (v' := .int (z &&& 1)) rfl ?_
  rw [V.2.2.1 s j _ _ hF rfl]; exact hn
theorem Ev.ial {j : Nat} {n d : String} {i : Int32} {N : Nat} (V : View G Ln K o r) (hF : (gF G)[j]? = some (n, d, .array .int)) (hN : Ln j = N) (hd : decode (mB M) pc = .ok (.iaload, 1)) (hb : inb i N) (hn : Ev G M (pc + 1) L (.int (s.2 j (ix i)) :: S) (K s) rr) : Ev G M pc L (.int i :: .ref (r j) :: S) (K s) rr :=
  Ev.iaload hd ((V.2.2.2 j n d _ hF).2.1 s) hb.1 (tab_get (hN ▸ hb.2)) hn
theorem Ev.bal {j : Nat} {n d : String} {i : Int32} {N : Nat} (V : View G Ln K o r) (hF : (gF G)[j]? = some (n, d, .array .boolean)) (hN : Ln j = N) (hd : decode (mB M) pc = .ok (.baload, 1)) (hb : inb i N) (hn : Ev G M (pc + 1) L (.int (s.2 j (ix i)) :: S) (K s) rr) : Ev G M pc L (.int i :: .ref (r j) :: S) (K s) rr :=
  Ev.baload hd ((V.2.2.2 j n d _ hF).2.1 s) hb.1 (tab_get (hN ▸ hb.2)) hn
theorem Ev.ias {j : Nat} {n d : String} {i z : Int32} {N : Nat} (V : View G Ln K o r) (hF : (gF G)[j]? = some (n, d, .array .int)) (hN : Ln j = N) (hd : decode (mB M) pc = .ok (.iastore, 1)) (hb : inb i N) (hn : Ev G M (pc + 1) L S (K (setA s j (ix i) z)) rr) : Ev G M pc L (.int z :: .int i :: .ref (r j) :: S) (K s) rr := by
  obtain ⟨q1, q2, q3⟩ := V.2.2.2 j n d _ hF
  refine Ev.iastore hd q1 (q2 s) hb.1 (by rw [tab_len, hN]; exact hb.2) ?_
  have := q3 s (ix i) z (hN ▸ hb.2)
  exact this ▸ hn
theorem Ev.bas {j : Nat} {n d : String} {i z : Int32} {N : Nat} (V : View G Ln K o r) (hF : (gF G)[j]? = some (n, d, .array .boolean)) (hN : Ln j = N) (hd : decode (mB M) pc = .ok (.bastore, 1)) (hb : inb i N) (hn : Ev G M (pc + 1) L S (K (setA s j (ix i) (z &&& 1))) rr) : Ev G M pc L (.int z :: .int i :: .ref (r j) :: S) (K s) rr := by
  obtain ⟨q1, q2, q3⟩ := V.2.2.2 j n d _ hF
  refine Ev.bastore hd q1 (q2 s) hb.1 (by rw [tab_len, hN]; exact hb.2) ?_
  have := q3 s (ix i) (z &&& 1) (hN ▸ hb.2)
  exact this ▸ hn
theorem Ev.sal {h : MHeap} {i : Int32} {N k : Nat} {f : Nat → Int32} (hs : h[k]? = some (.inr (false, tab N f))) (hd : decode (mB M) pc = .ok (.iaload, 1)) (hb : inb i N) (hn : Ev G M (pc + 1) L (.int (f (ix i)) :: S) h rr) : Ev G M pc L (.int i :: .ref k :: S) h rr :=
  Ev.iaload hd hs hb.1 (tab_get hb.2) hn
theorem Ev.sln {h : MHeap} {N k : Nat} {f : Nat → Int32} (hs : h[k]? = some (.inr (false, tab N f))) (hd : decode (mB M) pc = .ok (.arraylength, 1)) (hn : Ev G M (pc + 1) L (.int N.toInt32 :: S) h rr) : Ev G M pc L (.ref k :: S) h rr :=
  Ev.arraylength hd hs (by rw [tab_len]; exact hn)
theorem Ev.zret1 {h : MHeap} (hret : mR M = some .boolean) (hd : decode (mB M) pc = .ok (.ireturn, 1)) : Ev G M pc L (.int 1 :: S) h (some (.int 1), h) := Ev.zreturn hret hd
theorem Ev.zret0 {h : MHeap} (hret : mR M = some .boolean) (hd : decode (mB M) pc = .ok (.ireturn, 1)) : Ev G M pc L (.int 0 :: S) h (some (.int 0), h) := Ev.zreturn hret hd
/-- a slot over which an int may be stored at once -/
def one1 : Slot → Bool
  | .unset => true
  | .val v => v.category == 1
  | .second => false
theorem mst_one {l : List Slot} {i : Nat} {v : Value} {o : Slot} (ho : l[i]? = some o) (h1 : one1 o = true) (hv : v.category = 1) : mst l i v = some (l.set i (.val v)) := by
  have hlt := (List.getElem?_eq_some_iff.mp ho).1
  have e : lstoreSelf l i v = some (l.set i (.val v)) := by simp [lstoreSelf, lsetAt, hlt, hv]
  unfold mst
  rw [ho]
  cases o with
  | unset => exact e
  | second => cases h1
  | val w =>
    have : w.category = 1 := by simpa [one1] using h1
    simp only [this]
    exact e
theorem Ev.istD {k : Nat} {v : Int32} {L' : List Slot} {o : Slot} {h : MHeap} (hd : decode (mB M) pc = .ok (.istore k, 2)) (ho : L[k]? = some o) (h1 : one1 o = true) (hl : L.set k (.val (.int v)) = L') (hn : Ev G M (pc + 2) L' S h rr) : Ev G M pc L (.int v :: S) h rr :=
  Ev.istore hd (by rw [mst_one ho h1 rfl, hl]) hn
theorem Ev.istDN {k : Fin 4} {v : Int32} {L' : List Slot} {o : Slot} {h : MHeap} (hd : decode (mB M) pc = .ok (.istore_n k, 1)) (ho : L[k.val]? = some o) (h1 : one1 o = true) (hl : L.set k.val (.val (.int v)) = L') (hn : Ev G M (pc + 1) L' S h rr) : Ev G M pc L (.int v :: S) h rr :=
  Ev.istoreN hd (by rw [mst_one ho h1 rfl, hl]) hn
/-- a pair of slots over which a long may be stored at once -/
def two2 (a b : Slot) : Prop := (one1 a = true ∧ one1 b = true) ∨ (∃ x, a = .val (.long x) ∧ b = .second)
theorem set_set2 {l : List Slot} {i : Nat} {a b c : Slot} : ((l.set (i + 1) a).set i b).set (i + 1) c = (l.set i b).set (i + 1) c := by
  rw [List.set_comm _ _ (by omega : i + 1 ≠ i), List.set_set]
theorem mst_two {l : List Slot} {i : Nat} {v : Int64} {o o' : Slot} (ho : l[i]? = some o) (ho' : l[i + 1]? = some o') (h2 : two2 o o') : mst l i (.long v) = some ((l.set i (.val (.long v))).set (i + 1) .second) := by
  have hlt := (List.getElem?_eq_some_iff.mp ho).1
  have hlt' := (List.getElem?_eq_some_iff.mp ho').1
  rcases h2 with ⟨h1, h1'⟩ | ⟨x, rfl, rfl⟩
  · have e : lstoreSelf l i (.long v) = some ((l.set i (.val (.long v))).set (i + 1) .second) := by
      have q : (l.set i (.val (.long v)))[i + 1]? = some o' := by rw [List.getElem?_set_ne (by omega)]; exact ho'
      have hcat : (Value.long v).category = 2 := rfl
      simp only [lstoreSelf, lsetAt, hlt, if_true, hcat, q]
      cases o' with
      | unset => simp [hlt']
      | second => cases h1'
      | val w =>
        have : w.category = 1 := by simpa [one1] using h1'
        simp [this, hlt']
    unfold mst
    rw [ho]
    cases o with
    | unset => exact e
    | second => cases h1
    | val w =>
      have : w.category = 1 := by simpa [one1] using h1
      simp only [this]
      exact e
  · unfold mst
    rw [ho]
    have q : ((l.set (i + 1) Slot.unset).set i (.val (.long v)))[i + 1]? = some .unset := by
      rw [List.getElem?_set_ne (by omega), List.getElem?_set_self hlt']
    simp only [Value.category, if_true, lsetAt, hlt', lstoreSelf, List.length_set, hlt, q, set_set2]
theorem Ev.lstD {k : Nat} {v : Int64} {L' : List Slot} {o o' : Slot} {h : MHeap} (hd : decode (mB M) pc = .ok (.lstore k, 2)) (ho : L[k]? = some o) (ho' : L[k + 1]? = some o') (h2 : two2 o o') (hl : (L.set k (.val (.long v))).set (k + 1) .second = L') (hn : Ev G M (pc + 2) L' S h rr) : Ev G M pc L (.long v :: S) h rr :=
  Ev.lstore hd (by rw [mst_two ho ho' h2, hl]) hn
theorem Ev.lstDN {k : Fin 4} {v : Int64} {L' : List Slot} {o o' : Slot} {h : MHeap} (hd : decode (mB M) pc = .ok (.lstore_n k, 1)) (ho : L[k.val]? = some o) (ho' : L[k.val + 1]? = some o') (h2 : two2 o o') (hl : (L.set k.val (.val (.long v))).set (k.val + 1) .second = L') (hn : Ev G M (pc + 1) L' S h rr) : Ev G M pc L (.long v :: S) h rr :=
  Ev.lstoreN hd (by rw [mst_two ho ho' h2, hl]) hn
end ViewRules
/-! ## 5. One object among others -/
/-- al: the array fields in the order in which the constructor makes them, each with 'of booleans' -/
def rA (o : Nat) (al : List (Nat × Bool)) (j : Nat) : Nat := o + 1 + al.findIdx (fun q => q.1 == j)
def arr1 (Ln : Nat → Nat) (s : St) (q : Nat × Bool) : MCell := .inr (q.2, tab (Ln q.1) (s.2 q.1))
def KO (F : List Fd) (al : List (Nat × Bool)) (Ln : Nat → Nat) (o : Nat) (s : St) : MHeap := .inl (fvA (rA o al) s 0 F) :: al.map (arr1 Ln s)
def KH (F : List Fd) (al : List (Nat × Bool)) (Ln : Nat → Nat) (pre post : MHeap) (s : St) : MHeap := pre ++ (KO F al Ln pre.length s ++ post)
def alOk (F : List Fd) (al : List (Nat × Bool)) : Bool := (List.range F.length).all (fun j => match F[j]? with
  | some (_, _, .array t) => al[al.findIdx (fun q => q.1 == j)]? == some (j, isB t)
  | _ => true)
theorem KO_len {F : List Fd} {al : List (Nat × Bool)} {Ln : Nat → Nat} {o : Nat} {s : St} : (KO F al Ln o s).length = al.length + 1 := by simp [KO]
theorem app_get (pre post l : MHeap) (k : Nat) (h : k < l.length) : (pre ++ (l ++ post))[pre.length + k]? = l[k]? := by
  rw [List.getElem?_append_right (by omega), Nat.add_sub_cancel_left, List.getElem?_append_left h]
theorem app_set (pre post l : MHeap) (k : Nat) (c : MCell) (h : k < l.length) : (pre ++ (l ++ post)).set (pre.length + k) c = pre ++ (l.set k c ++ post) := by
  rw [List.set_append_right _ _ (by omega), Nat.add_sub_cancel_left, List.set_append_left _ _ h]
theorem view_of {G : Ctx} {al : List (Nat × Bool)} {Ln : Nat → Nat} {pre post : MHeap} (hk : k0 G ≤ pre.length) (h1 : alOk (gF G) al = true) (h2 : (al.map (·.1)).Nodup) :
    View G Ln (KH (gF G) al Ln pre post) pre.length (rA pre.length al) := by
  refine ⟨hk, fun s => ?_, fun s j f z hF ht => ?_, fun j n d t hF => ?_⟩
  · have := app_get pre post (KO (gF G) al Ln pre.length s) 0 (by rw [KO_len]; omega)
    exact this
  · have := app_set pre post (KO (gF G) al Ln pre.length s) 0 (.inl ((fvA (rA pre.length al) s 0 (gF G)).set j (.int z))) (by rw [KO_len]; omega)
    refine Eq.trans this ?_
    show pre ++ ((.inl _ :: al.map (arr1 Ln s)) ++ post) = pre ++ ((.inl _ :: al.map (arr1 Ln (setI s j z))) ++ post)
    rw [fvA_set hF ht]
    rfl
  · have hj : j < (gF G).length := (List.getElem?_eq_some_iff.mp hF).1
    have hq := List.all_eq_true.mp h1 j (List.mem_range.mpr hj)
    simp only [hF, beq_iff_eq] at hq
    have hlt := (List.getElem?_eq_some_iff.mp hq).1
    have hlen : ∀ s, al.findIdx (fun q => q.1 == j) + 1 < (KO (gF G) al Ln pre.length s).length := fun s => by rw [KO_len]; omega
    have hr : rA pre.length al j = pre.length + (al.findIdx (fun q => q.1 == j) + 1) := by unfold rA; omega
    refine ⟨by rw [hr]; omega, fun s => ?_, fun s i z hi => ?_⟩
    · rw [hr]
      refine (app_get pre post _ _ (hlen s)).trans ?_
      show (al.map (arr1 Ln s))[al.findIdx fun q => q.1 == j]? = _
      rw [List.getElem?_map, hq]
      rfl
    · rw [hr]
      refine (app_set pre post _ _ _ (hlen s)).trans ?_
      show pre ++ ((.inl (fvA (rA pre.length al) s 0 (gF G)) :: (al.map (arr1 Ln s)).set (al.findIdx fun q => q.1 == j) (.inr (isB t, (tab (Ln j) (s.2 j)).set i z))) ++ post) = pre ++ ((.inl (fvA (rA pre.length al) (setA s j i z) 0 (gF G)) :: al.map (arr1 Ln (setA s j i z))) ++ post)
      rw [fvA_same (s := s) (s' := setA s j i z) _ rfl]
      congr 3
      apply List.ext_getElem?
      intro k
      rw [List.getElem?_set, List.getElem?_map, List.getElem?_map, List.length_map]
      by_cases e : al.findIdx (fun q => q.1 == j) = k
      · subst e
        simp only [if_true, hlt, hq, Option.map_some, arr1, tab_set]
        congr 4
        funext x
        rw [setA_2]
        simp
      · simp only [e, if_false]
        cases hk2 : al[k]? with
        | none => rfl
        | some q =>
          simp only [Option.map_some, arr1]
          have ne : q.1 ≠ j := fun hqj => by
            have a1 : (al.map (·.1))[al.findIdx (fun q => q.1 == j)]? = some j := by rw [List.getElem?_map, hq]; rfl
            have a2 : (al.map (·.1))[k]? = some j := by rw [List.getElem?_map, hk2]; simp [hqj]
            have := (List.getElem?_inj (by rw [List.length_map]; exact hlt) h2).mp (a1.trans a2.symm)
            exact e this
          congr 4
          funext x
          rw [setA_2]
          simp [ne]
/-! ### while the constructor makes the arrays -/
def cons (pre : MHeap) (fs : List Value) (as : List (Bool × List Int32)) : MHeap := pre ++ (.inl fs :: as.map .inr)
section ConsRules
variable {G : Ctx} {M : Mi} {pc : Nat} {L : List Slot} {S : List Value} {rr : Option Value × MHeap} {pre : MHeap} {fs fs' : List Value} {as : List (Bool × List Int32)}
theorem cons_get : (cons pre fs as)[pre.length]? = some (.inl fs) := by unfold cons; rw [List.getElem?_append_right (Nat.le_refl _), Nat.sub_self]; rfl
theorem cons_set (c : List Value) : (cons pre fs as).set pre.length (.inl c) = cons pre c as := by unfold cons; rw [List.set_append_right _ _ (Nat.le_refl _), Nat.sub_self]; rfl
theorem cons_len : (cons pre fs as).length = pre.length + 1 + as.length := by simp [cons]; omega
theorem cons_push (b : Bool) (xs : List Int32) : cons pre fs as ++ [.inr (b, xs)] = cons pre fs (as ++ [(b, xs)]) := by simp [cons]
theorem Ev.cput {idx j : Nat} {n d : String} {ty : FieldType} {v v' : Value} (K : GOk G) (hk : k0 G ≤ pre.length) (w : (Jvm.Cond.fieldLink (mN M).cls idx (gC G) n d).before (gA G) (gZ G) = true)
    (wl : (Jvm.Cond.lays (gC G) (gC G) n d).before (gA G) (gZ G) = true ∨ ((Jvm.Cond.laysFinal (gC G) (gC G) n d).before (gA G) (gZ G) = true ∧ (mN M).cls = gC G ∧ (mN M).name = "<init>"))
    (hd : decode (mB M) pc = .ok (.putfield idx, 3)) (hF : (gF G)[j]? = some (n, d, ty)) (hp : mput ty v = some v') (hs : fs.set j v' = fs') (hn : Ev G M (pc + 3) L S (cons pre fs' as) rr) : Ev G M pc L (v :: .ref pre.length :: S) (cons pre fs as) rr := by
  subst hs
  refine Ev.putfield K w wl hd hF hk cons_get hp ?_
  rw [cons_set]; exact hn
theorem Ev.cget {idx j : Nat} {n d : String} {ty : FieldType} {v : Value} (w : (Jvm.Cond.fieldLink (mN M).cls idx (gC G) n d).before (gA G) (gZ G) = true) (hd : decode (mB M) pc = .ok (.getfield idx, 3)) (hF : (gF G)[j]? = some (n, d, ty)) (hv : fs[j]? = some v)
    (hn : Ev G M (pc + 3) L (v :: S) (cons pre fs as) rr) : Ev G M pc L (.ref pre.length :: S) (cons pre fs as) rr := Ev.getfield w hd hF cons_get hv hn
theorem Ev.cnew {aty : ArrayType} {b : Bool} {n : Int32} {k q : Nat} {as' : List (Bool × List Int32)} (w : (Jvm.Cond.arrayClass (newarray.typeOf aty)).before (gA G) (gZ G) = true) (hb' : newarray.typeOf aty = kd b) (hd : decode (mB M) pc = .ok (.newarray aty, 2)) (hn0 : ¬ n < 0) (hk : n.toNatClampNeg = k) (hcap : k ≤ 67108864)
    (hq : as.length = q) (has : as ++ [(b, tab k (fun _ => 0))] = as') (hn : Ev G M (pc + 2) L (.ref (pre.length + 1 + q) :: S) (cons pre fs as') rr) : Ev G M pc L (.int n :: S) (cons pre fs as) rr := by
  subst hq has
  refine Ev.newarray w hb' hd hn0 hk hcap ?_
  rw [cons_push, cons_len, ← tab_zero]; exact hn
end ConsRules
theorem forall_get {P : Nat → Fd → Prop} : ∀ (F : List Fd) (k : Nat), (∀ j f, F[j]? = some f → P (k + j) f) → True := fun _ _ _ => trivial
def AllF (P : Fd → Prop) : List Fd → Prop
  | [] => True
  | f :: fs => P f ∧ AllF P fs
theorem AllF.mem {P : Fd → Prop} : ∀ {F : List Fd}, AllF P F → ∀ f ∈ F, P f
  | _ :: _, ⟨h1, h2⟩, f, hf => (List.mem_cons.mp hf).elim (fun e => e ▸ h1) (AllF.mem h2 f)
theorem gok_of {G : Ctx} (h1 : AllF (fun f => Laid (gZ G) (gA G) (gC G) (gC G) f.1 f.2.1 ∧ parseFieldDescriptor f.2.1 = some f.2.2) (gF G)) (h2 : ((gF G).map (·.1)).Nodup)
    (h3 : (Jvm.Cond.instantiable (gC G) (gK G)).before (gA G) (gZ G) = true) (h4 : (Jvm.Cond.initialized (gC G)).before (gA G) (gZ G) = true) : GOk G := by
  refine ⟨fun j n d ty hF => h1.mem _ (List.mem_of_getElem? hF), fun j j' f f' hF hF' ne e => ne ?_, h3, h4⟩
  have a1 : ((gF G).map (·.1))[j]? = some f.1 := by rw [List.getElem?_map, hF]; rfl
  have a2 : ((gF G).map (·.1))[j']? = some f.1 := by rw [List.getElem?_map, hF', e]; rfl
  exact (List.getElem?_inj (by rw [List.length_map]; exact (List.getElem?_eq_some_iff.mp hF).1) h2).mp (a1.trans a2.symm)
end Jvm.Own
namespace Jvm.Own
open Sem ClassFile Op Lib Jvm.Stand Jvm.Free Jvm.LawKit Jvm.RoadKit
def grd {α : Type} (c : Prop) [Decidable c] (x : Option α) : Option α := if c then x else none
theorem grd_some {α : Type} {c : Prop} [Decidable c] {x : Option α} {w : α} (h : grd c x = some w) : c ∧ x = some w := by
  unfold grd at h; split at h
  · exact ⟨by assumption, h⟩
  · cases h
theorem grd_pos {α : Type} {c : Prop} [Decidable c] {x : Option α} (h : c) : grd c x = x := if_pos h
theorem KH_len (F : List Fd) (al : List (Nat × Bool)) (Ln : Nat → Nat) (pre post : MHeap) (s : St) : (KH F al Ln pre post s).length = pre.length + (al.length + 1 + post.length) := by simp [KH, KO]; omega
theorem hsl_app (k : Nat) (a b : MHeap) : hsl k (a ++ b) = hsl k a + hsl k b := by simp [hsl]
theorem hsl_arr (k : Nat) (Ln : Nat → Nat) (s : St) : ∀ al : List (Nat × Bool), hsl k (al.map (arr1 Ln s)) = (al.map fun q => Ln q.1).sum
  | [] => rfl
  | q :: al => by
    have := hsl_arr k Ln s al
    simp only [hsl, List.map_cons, List.sum_cons] at this ⊢
    rw [this]
    simp [arr1, csl, tab_len]
theorem hsl_KH (k : Nat) (F : List Fd) (al : List (Nat × Bool)) (Ln : Nat → Nat) (pre post : MHeap) (s : St) : hsl k (KH F al Ln pre post s) = hsl k pre + (k + (al.map fun q => Ln q.1).sum + hsl k post) := by
  unfold KH
  rw [hsl_app, hsl_app]
  have : hsl k (KO F al Ln pre.length s) = k + (al.map fun q => Ln q.1).sum := by
    have := hsl_arr k Ln s al
    simp only [KO, hsl, List.map_cons, List.sum_cons, csl] at this ⊢
    rw [this]
  rw [this]
theorem ne_lit {x z : Int32} {k : Int} (h : ¬ x = z) (e : z.toInt = k) : x.toInt ≠ k := fun q => h (Int32.toInt_inj.mp (q.trans e.symm))
section
variable {G : Ctx} {M : Mi} {pc : Nat} {L : List Slot} {S : List Value} {rr : Option Value × MHeap}
theorem Ev.astD {k v : Nat} {L' : List Slot} {o : Slot} {h : MHeap} (hd : decode (mB M) pc = .ok (.astore k, 2)) (ho : L[k]? = some o) (h1 : one1 o = true) (hl : L.set k (.val (.ref v)) = L') (hn : Ev G M (pc + 2) L' S h rr) : Ev G M pc L (.ref v :: S) h rr :=
  Ev.astore hd (by rw [mst_one ho h1 rfl, hl]) hn
theorem Ev.astDN {k : Fin 4} {v : Nat} {L' : List Slot} {o : Slot} {h : MHeap} (hd : decode (mB M) pc = .ok (.astore_n k, 1)) (ho : L[k.val]? = some o) (h1 : one1 o = true) (hl : L.set k.val (.val (.ref v)) = L') (hn : Ev G M (pc + 1) L' S h rr) : Ev G M pc L (.ref v :: S) h rr :=
  Ev.astoreN hd (by rw [mst_one ho h1 rfl, hl]) hn
end
end Jvm.Own
namespace Jvm.Own
open Sem ClassFile Op Lib Jvm.Stand Jvm.Free Jvm.LawKit Jvm.RoadKit
section
variable {G : Ctx} {M : Mi} {pc : Nat} {L : List Slot} {S : List Value} {rr : Option Value × MHeap}
theorem mst_T {l : List Slot} {i : Nat} {v : Value} {o o' : Slot} (ho : l[i]? = some o) (ho' : l[i + 1]? = some o') (h2 : two2 o o') (hv : v.category = 1) : ∃ b, one1 b = true ∧ mst l i v = some ((l.set i (.val v)).set (i + 1) b) := by
  have hlt := (List.getElem?_eq_some_iff.mp ho).1
  have hlt' := (List.getElem?_eq_some_iff.mp ho').1
  rcases h2 with ⟨h1, h1'⟩ | ⟨x, rfl, rfl⟩
  · refine ⟨o', h1', ?_⟩
    rw [mst_one ho h1 hv]
    congr 1
    apply List.ext_getElem?
    intro k
    by_cases e : i + 1 = k
    · subst e
      rw [List.getElem?_set_self (by simpa using hlt'), List.getElem?_set_ne (by omega), ho']
    · rw [List.getElem?_set_ne e]
  · refine ⟨.unset, rfl, ?_⟩
    unfold mst
    rw [ho]
    have c2 : (Value.long x).category = 2 := rfl
    simp only [c2, if_true, lsetAt, hlt', lstoreSelf, List.length_set, hlt, hv]
    rw [List.set_comm _ _ (by omega : i + 1 ≠ i)]
    simp
theorem Ev.istT {k : Nat} {v : Int32} {L' : Slot → List Slot} {o o' : Slot} {h : MHeap} (hd : decode (mB M) pc = .ok (.istore k, 2)) (ho : L[k]? = some o) (ho' : L[k + 1]? = some o') (h2 : two2 o o') (hl : ∀ b, (L.set k (.val (.int v))).set (k + 1) b = L' b) (hn : ∀ b, one1 b = true → Ev G M (pc + 2) (L' b) S h rr) : Ev G M pc L (.int v :: S) h rr := by
  obtain ⟨b, h1, e⟩ := mst_T (v := .int v) ho ho' h2 rfl
  exact Ev.istore hd e (by rw [hl]; exact hn b h1)
theorem Ev.istTN {k : Fin 4} {v : Int32} {L' : Slot → List Slot} {o o' : Slot} {h : MHeap} (hd : decode (mB M) pc = .ok (.istore_n k, 1)) (ho : L[k.val]? = some o) (ho' : L[k.val + 1]? = some o') (h2 : two2 o o') (hl : ∀ b, (L.set k.val (.val (.int v))).set (k.val + 1) b = L' b) (hn : ∀ b, one1 b = true → Ev G M (pc + 1) (L' b) S h rr) : Ev G M pc L (.int v :: S) h rr := by
  obtain ⟨b, h1, e⟩ := mst_T (v := .int v) ho ho' h2 rfl
  exact Ev.istoreN hd e (by rw [hl]; exact hn b h1)
end
section
variable {G : Ctx} {Ln : Nat → Nat} {K : St → MHeap} {o len : Nat} {r : Nat → Nat} {F : List Fd} {al : List (Nat × Bool)}
theorem View.le (V : View G Ln K o r) (s : St) : k0 G ≤ (K s).length := Nat.le_trans V.1 (Nat.le_of_lt (List.getElem?_eq_some_iff.mp (V.2.1 s)).1)
theorem View.app (V : View G Ln K o r) (X : MHeap) : View G Ln (fun s => K s ++ X) o r := by
  refine ⟨V.1, fun s => ?_, fun s j f z hF ht => ?_, fun j n d t hF => ?_⟩
  · show (K s ++ X)[o]? = _
    rw [List.getElem?_append_left (List.getElem?_eq_some_iff.mp (V.2.1 s)).1]; exact V.2.1 s
  · show (K s ++ X).set o _ = _
    rw [List.set_append_left _ _ (List.getElem?_eq_some_iff.mp (V.2.1 s)).1, V.2.2.1 s j f z hF ht]
  · obtain ⟨q1, q2, q3⟩ := V.2.2.2 j n d t hF
    refine ⟨q1, fun s => ?_, fun s i z hi => ?_⟩
    · show (K s ++ X)[r j]? = _
      rw [List.getElem?_append_left (List.getElem?_eq_some_iff.mp (q2 s)).1]; exact q2 s
    · show (K s ++ X).set (r j) _ = _
      rw [List.set_append_left _ _ (List.getElem?_eq_some_iff.mp (q2 s)).1, q3 s i z hi]
theorem View.app2 (V : View G Ln K o r) (hl : ∀ s, (K s).length = len) (t : St) : View G Ln (fun s => KH F al Ln (K s) [] t) o r := by
  have e : (fun s => KH F al Ln (K s) [] t) = fun s => K s ++ (KO F al Ln len t ++ []) := by
    funext s; unfold KH; rw [hl]
  rw [e]
  exact V.app _
theorem app2_get (V : View G Ln K o r) {s t : St} {c : MCell} (h : (K s)[0]? = some c) : (KH F al Ln (K s) [] t)[0]? = some c := by
  unfold KH
  rw [List.getElem?_append_left (List.getElem?_eq_some_iff.mp h).1]; exact h
end
end Jvm.Own
namespace Jvm.Own
open Sem ClassFile Op Lib Jvm.Stand Jvm.Free Jvm.LawKit Jvm.RoadKit
def toI : Value → Int32
  | .int z => z
  | _ => 0
theorem script_rel {s : State} {a : Nat} {cl : Cell} {args : Array Value} {l : Launch} {C : String} {F : List Fd} {k : Nat} (hf : Fit s) (A : Arr s s.heap a cl .int) :
    ∃ xs : List Int32, xs.length = cl.slots.size ∧ Rel (s, args, l, some a, s.heap.size, C, F, k) s.heap [.inr (false, tab xs.length (fun i => xs.getD i 0))] := by
  have hl : (cl.slots.toList.map toI).length = cl.slots.size := by simp
  refine ⟨cl.slots.toList.map toI, hl, rfl, Nat.le_refl _, fun a' q => by cases q; exact A.lt, fun i c q => ?_⟩
  match i, q with
  | 0, q =>
    cases q
    refine ⟨cl, A, ?_⟩
    rw [← tab_of]
    apply Array.ext'
    apply List.ext_getElem?
    intro j
    simp only [List.map_map, List.getElem?_map]
    cases hj : cl.slots.toList[j]? with
    | none => rfl
    | some v =>
      have hj' : cl.slots[j]? = some v := by simpa using hj
      obtain ⟨hlt, hv⟩ := Array.getElem?_eq_some_iff.mp hj'
      have q := hf A.1 hlt
      obtain ⟨hs, kk, hk, comp, hkind⟩ := A.2.1
      have e : s.slotType? cl.cls cl.vm j = some .int := by
        cases hq : cl.vm <;> first | exact absurd hq (hs _) | simp [State.slotType?, hk, hkind]
      have q2 : fits .int v = true := by rw [hv] at q; simpa [State.fitsSlot, e] using q
      obtain ⟨z, rfl⟩ := fit_I q2 (Or.inl rfl)
      rfl
theorem script_len {s : State} {args : Array Value} {t : Term} {a : Nat} {cl : Cell} (A : Arr s s.heap a cl .int) (ea : t.eval args s none [] s = some (.ref a)) (h1 : (Jvm.Cond.isInt (.length t)).value args s none s [] = some true) (h2 : (Jvm.Cond.le (.length t) (.int 260)).value args s none s [] = some true) : cl.slots.size ≤ 260 := by
  obtain ⟨z, ez⟩ := is_v h1
  have ha := A.fin (Vm.Alike.refl s.vm)
  have hlen : cl.slots.size < 2 ^ 31 := by
    rcases Nat.lt_or_ge cl.slots.size (2 ^ 31) with q | q
    · exact q
    · simp [Term.eval, ea, ha, Nat.not_lt.mpr q] at ez
  have e1 := len_f ea ha hlen
  have q : cl.slots.size.toInt32 ≤ 260 := by
    have := Cond.le_ints e1 (Term.int_eval (260 : Int32)) (args := args) (first := s) (o := none) (s := s) (idx := [])
    exact gotT this h2
  have q2 := Int32.le_iff_toInt_le.mp q
  rw [len_toInt hlen] at q2
  have : (260 : Int32).toInt = 260 := by decide
  omega
end Jvm.Own
namespace Jvm.Own
open Sem ClassFile Op Lib Jvm.Stand Jvm.Free Jvm.LawKit Jvm.RoadKit
def decs (b : ByteArray) : List (Nat × Instr × Nat) → Bool
  | [] => true
  | q :: t => decide (decode b q.1 = .ok (q.2.1, q.2.2)) && decs b t
theorem dget {b : ByteArray} : ∀ {l : List (Nat × Instr × Nat)}, decs b l = true → ∀ {k p : Nat} {i : Instr} {n : Nat}, l[k]? = some (p, i, n) → decode b p = .ok (i, n)
  | [], _, k, _, _, _, hk => by simp at hk
  | q :: t, h, 0, p, i, n, hk => by
    simp only [decs, Bool.and_eq_true, decide_eq_true_eq] at h
    simp only [List.getElem?_cons_zero, Option.some.injEq] at hk
    subst hk
    exact h.1
  | q :: t, h, k + 1, p, i, n, hk => by
    simp only [decs, Bool.and_eq_true] at h
    exact dget h.2 (by simpa using hk)
end Jvm.Own
namespace Jvm.Own
/-! ## 6. Ints of 32 bits and naturals -/
theorem N_toInt {i : Nat} (h : i < 2147483648) : (Int32.ofNat i).toInt = i := Int32.toInt_ofNat_of_lt h
theorem N_lt {i j : Nat} (hi : i < 2147483648) (hj : j < 2147483648) : Int32.ofNat i < Int32.ofNat j ↔ i < j := by
  rw [Int32.lt_iff_toInt_lt, N_toInt hi, N_toInt hj]; omega
theorem N_inj {i j : Nat} (hi : i < 2147483648) (hj : j < 2147483648) : Int32.ofNat i = Int32.ofNat j ↔ i = j := by
  rw [← Int32.toInt_inj, N_toInt hi, N_toInt hj]; omega
theorem N_succ (i : Nat) : Int32.ofNat i + 1 = Int32.ofNat (i + 1) := (Int32.ofNat_add i 1).symm
theorem N_add (i j : Nat) : Int32.ofNat i + Int32.ofNat j = Int32.ofNat (i + j) := (Int32.ofNat_add i j).symm
theorem N_mul (i j : Nat) : Int32.ofNat i * Int32.ofNat j = Int32.ofNat (i * j) := (Int32.ofNat_mul i j).symm
theorem N_neg {i : Nat} (h : i < 2147483648) : ¬ Int32.ofNat i < 0 := by
  rw [Int32.lt_iff_toInt_lt, N_toInt h]; simp
theorem ix_N {i : Nat} (h : i < 2147483648) : ix (Int32.ofNat i) = i := by
  unfold ix Int32.toNatClampNeg; rw [N_toInt h]; simp
theorem inb_N {i n : Nat} (h : i < 2147483648) : inb (Int32.ofNat i) n ↔ i < n := by
  unfold inb; rw [ix_N h]; exact ⟨fun q => q.2, fun q => ⟨N_neg h, q⟩⟩
theorem ix_toInt {x : Int32} (h : ¬ x < 0) : (ix x : Int) = x.toInt := by
  unfold ix Int32.toNatClampNeg
  rw [Int32.lt_iff_toInt_lt] at h
  have : (0 : Int32).toInt = 0 := rfl
  omega
theorem ix_lt (x : Int32) : ix x < 2147483648 := by
  unfold ix Int32.toNatClampNeg
  have := Int32.toInt_lt x
  omega
theorem N_ix {x : Int32} (h : ¬ x < 0) : Int32.ofNat (ix x) = x := by
  rw [← Int32.toInt_inj, N_toInt (ix_lt x), ix_toInt h]
theorem ix_eq {x y : Int32} (hx : ¬ x < 0) (hy : ¬ y < 0) : ix x = ix y ↔ x = y := by
  refine ⟨fun e => ?_, fun e => e ▸ rfl⟩
  rw [← N_ix hx, ← N_ix hy, e]
theorem rng (x : Int32) : -2147483648 ≤ x.toInt ∧ x.toInt < 2147483648 := ⟨Int32.le_toInt x, Int32.toInt_lt x⟩
theorem lt_I {x y : Int32} : x < y ↔ x.toInt < y.toInt := Int32.lt_iff_toInt_lt
theorem le_I {x y : Int32} : x ≤ y ↔ x.toInt ≤ y.toInt := Int32.le_iff_toInt_le
theorem eq_I {x y : Int32} : x = y ↔ x.toInt = y.toInt := Int32.toInt_inj.symm
theorem bmod_eq {x : Int} (h1 : -2147483648 ≤ x) (h2 : x < 2147483648) : x.bmod (2 ^ 32) = x := by
  apply Int.bmod_eq_of_le <;> omega
theorem add_I {x y : Int32} (h1 : -2147483648 ≤ x.toInt + y.toInt) (h2 : x.toInt + y.toInt < 2147483648) : (x + y).toInt = x.toInt + y.toInt := by
  rw [Int32.toInt_add]; exact bmod_eq h1 h2
theorem sub_I {x y : Int32} (h1 : -2147483648 ≤ x.toInt - y.toInt) (h2 : x.toInt - y.toInt < 2147483648) : (x - y).toInt = x.toInt - y.toInt := by
  rw [Int32.toInt_sub]; exact bmod_eq h1 h2
theorem mul_I {x y : Int32} (h1 : -2147483648 ≤ x.toInt * y.toInt) (h2 : x.toInt * y.toInt < 2147483648) : (x * y).toInt = x.toInt * y.toInt := by
  rw [Int32.toInt_mul]; exact bmod_eq h1 h2
theorem inb_I {x : Int32} {n : Nat} (h1 : 0 ≤ x.toInt) (h2 : x.toInt < n) : inb x n := by
  have h : ¬ x < 0 := by rw [lt_I]; have : (0 : Int32).toInt = 0 := rfl; omega
  refine ⟨h, ?_⟩
  have := ix_toInt h
  omega
/-- an int between 0 and n is one of them -/
theorem cases_N {x : Int32} {n : Nat} (hn : n < 2147483648) (h0 : ¬ x < 0) (h1 : x < Int32.ofNat n) : ∃ i, i < n ∧ x = Int32.ofNat i := by
  refine ⟨ix x, ?_, (N_ix h0).symm⟩
  have a := ix_toInt h0
  rw [lt_I, N_toInt hn] at h1
  omega
/-! ## 7. Loops that count from i to N -/
def itr {α : Type} (f : Nat → α → α) : Nat → Nat → α → α
  | _, 0, s => s
  | i, m + 1, s => itr f (i + 1) m (f i s)
theorem loopN {α β : Type} {F : Nat → Int32 → α → Option β} {N : Nat} {f : Nat → α → α} {fin : α → Option β}
    (hF : ∀ k i s, i < N → F (k + 1) (Int32.ofNat i) s = F k (Int32.ofNat i + 1) (f i s)) (hE : ∀ k s, F (k + 1) (Int32.ofNat N) s = fin s) :
    ∀ m i k s, i + m = N → m < k → F k (Int32.ofNat i) s = fin (itr f i m s) := by
  intro m
  induction m with
  | zero =>
    intro i k s hi hk
    obtain ⟨k, rfl⟩ : ∃ k', k = k' + 1 := ⟨k - 1, by omega⟩
    have : i = N := by omega
    subst this
    exact hE k s
  | succ m ih =>
    intro i k s hi hk
    obtain ⟨k, rfl⟩ : ∃ k', k = k' + 1 := ⟨k - 1, by omega⟩
    rw [hF k i s (by omega), N_succ]
    exact ih (i + 1) k _ (by omega) (by omega)
theorem itr_ind {α : Type} {f : Nat → α → α} {P : Nat → α → Prop} {N : Nat} (h : ∀ i s, i < N → P i s → P (i + 1) (f i s)) : ∀ m i s, i + m = N → P i s → P N (itr f i m s) := by
  intro m
  induction m with
  | zero => intro i s hi hp; have : i = N := by omega
            subst this; exact hp
  | succ m ih => intro i s hi hp; exact ih (i + 1) _ (by omega) (h i s (by omega) hp)
theorem itr_pt {f : Nat → St → St} {u : Nat → Int32 → Int32} (h1 : ∀ i s, (f i s).1 = s.1) (h2 : ∀ i s k x, (f i s).2 k x = if x = i then u k (s.2 k x) else s.2 k x) :
    ∀ m i s, itr f i m s = (s.1, fun k x => if i ≤ x ∧ x < i + m then u k (s.2 k x) else s.2 k x) := by
  intro m
  induction m with
  | zero =>
    intro i s
    refine Prod.ext rfl ?_
    funext k x
    have : ¬ (i ≤ x ∧ x < i + 0) := by omega
    simp only [this, if_false]
    rfl
  | succ m ih =>
    intro i s
    show itr f (i + 1) m (f i s) = _
    rw [ih]
    refine Prod.ext (h1 i s) ?_
    funext k x
    simp only [h2]
    by_cases e : x = i
    · subst e
      have a : ¬ (x + 1 ≤ x ∧ x < x + 1 + m) := by omega
      have b : x ≤ x ∧ x < x + (m + 1) := by omega
      simp only [a, b, if_false, if_true, and_self]
    · have : (i + 1 ≤ x ∧ x < i + 1 + m) ↔ (i ≤ x ∧ x < i + (m + 1)) := by omega
      simp only [this, e, if_false]
theorem itr_fill (K : Nat) (z : Int32) (m : Nat) (s : St) : itr (fun i s => setA s K i z) 0 m s = (s.1, fun k x => if k = K ∧ x < m then z else s.2 k x) := by
  rw [itr_pt (f := fun i s => setA s K i z) (u := fun k v => if k = K then z else v) (fun _ _ => rfl) (fun i s j x => by
    simp only [setA_2]
    by_cases e : x = i <;> by_cases e1 : j = K <;> simp [e, e1])]
  refine Prod.ext rfl ?_
  funext k x
  have : (0 ≤ x ∧ x < 0 + m) ↔ x < m := by omega
  simp only [this]
  by_cases e : x < m <;> by_cases e1 : k = K <;> simp [e, e1]
theorem and_rng (x : Int32) {m : Nat} (hm : m < 2147483648) : 0 ≤ (x &&& Int32.ofNat m).toInt ∧ (x &&& Int32.ofNat m).toInt ≤ m := by
  have h1 : (x &&& Int32.ofNat m).toBitVec.toNat ≤ m := by
    rw [Int32.toBitVec_and, BitVec.toNat_and]
    refine Nat.le_trans Nat.and_le_right ?_
    show (BitVec.ofNat 32 m).toNat ≤ m
    rw [BitVec.toNat_ofNat]
    exact Nat.mod_le _ _
  have h2 : (x &&& Int32.ofNat m).toInt = ((x &&& Int32.ofNat m).toBitVec.toNat : Int) := by
    show (x &&& Int32.ofNat m).toBitVec.toInt = _
    exact BitVec.toInt_eq_toNat_of_lt (by omega)
  omega
theorem idx8 {o p : Int32} (h0 : ¬ o < 0) (h3 : ¬ 3 < o) : inb (o * 8 + (p &&& 7)) 32 := by
  have a := and_rng p (m := 7) (by omega)
  rw [show Int32.ofNat 7 = (7 : Int32) from rfl] at a
  rw [lt_I] at h0 h3
  have e0 : (0 : Int32).toInt = 0 := rfl
  have e3 : (3 : Int32).toInt = 3 := rfl
  have e8 : (8 : Int32).toInt = 8 := rfl
  have em : (o * 8).toInt = o.toInt * 8 := by rw [mul_I] <;> rw [e8] <;> omega
  have ea : (o * 8 + (p &&& 7)).toInt = o.toInt * 8 + (p &&& 7).toInt := by rw [add_I] <;> rw [em] <;> omega
  exact inb_I (by omega) (by omega)
theorem idx8' {o p : Int32} (h0 : ¬ o < 0) (h3 : ¬ 3 < o) (g0 : ¬ p < 0) (g7 : ¬ 7 < p) : inb (o * 8 + p) 32 ∧ (o * 8 + p).toInt = o.toInt * 8 + p.toInt := by
  rw [lt_I] at h0 h3 g0 g7
  have e0 : (0 : Int32).toInt = 0 := rfl
  have e3 : (3 : Int32).toInt = 3 := rfl
  have e7 : (7 : Int32).toInt = 7 := rfl
  have e8 : (8 : Int32).toInt = 8 := rfl
  have em : (o * 8).toInt = o.toInt * 8 := by rw [mul_I] <;> rw [e8] <;> omega
  have ea : (o * 8 + p).toInt = o.toInt * 8 + p.toInt := by rw [add_I] <;> rw [em] <;> omega
  exact ⟨inb_I (by omega) (by omega), ea⟩
theorem inb_le {x : Int32} {m : Int32} {n : Nat} (h0 : ¬ x < 0) (h1 : ¬ m < x) (hm : m.toInt < n) : inb x n := by
  rw [lt_I] at h0 h1
  have e0 : (0 : Int32).toInt = 0 := rfl
  exact inb_I (by omega) (by omega)
theorem inb_lt {x : Int32} {m : Int32} {n : Nat} (h0 : ¬ x < 0) (h1 : x < m) (hm : m.toInt ≤ n) : inb x n := by
  rw [lt_I] at h0 h1
  have e0 : (0 : Int32).toInt = 0 := rfl
  exact inb_I (by omega) (by omega)
theorem rem_N {a N : Nat} (ha : a < 2147483648) (hN : N < 2147483648) (h0 : 0 < N) : Int32.ofNat a % Int32.ofNat N = Int32.ofNat (a % N) := by
  have h1 : a % N < N := Nat.mod_lt _ h0
  rw [← Int32.toInt_inj, Int32.toInt_mod, N_toInt ha, N_toInt hN, N_toInt (by omega)]
  rw [Int.tmod_eq_emod_of_nonneg (by omega)]
  rfl
/-- the rule of a loop that counts from i to N: P before each turn; Q of what it gives -/
theorem loopP {α β : Type} {F : Nat → Int32 → α → Option β} {N : Nat} {P : Nat → α → Prop} {Q : β → Prop}
    (hF : ∀ k i s, i < N → P i s → (∃ s', F (k + 1) (Int32.ofNat i) s = F k (Int32.ofNat i + 1) s' ∧ P (i + 1) s') ∨ ∃ r, F (k + 1) (Int32.ofNat i) s = some r ∧ Q r)
    (hE : ∀ k s, P N s → ∃ r, F (k + 1) (Int32.ofNat N) s = some r ∧ Q r) :
    ∀ m i k s, i + m = N → m < k → P i s → ∃ r, F k (Int32.ofNat i) s = some r ∧ Q r := by
  intro m
  induction m with
  | zero =>
    intro i k s hi hk hp
    obtain ⟨k, rfl⟩ : ∃ k', k = k' + 1 := ⟨k - 1, by omega⟩
    have : i = N := by omega
    subst this
    exact hE k s hp
  | succ m ih =>
    intro i k s hi hk hp
    obtain ⟨k, rfl⟩ : ∃ k', k = k' + 1 := ⟨k - 1, by omega⟩
    rcases hF k i s (by omega) hp with ⟨s', e, hp'⟩ | h
    · rw [e, N_succ]
      exact ih (i + 1) k s' (by omega) (by omega) hp'
    · exact h
theorem ltN {i j : Nat} (h : i < j) (hj : j < 2147483648) : Int32.ofNat i < Int32.ofNat j := (N_lt (by omega) hj).mpr h
theorem ltZ {i : Nat} {z : Int32} (N : Nat) (hz : Int32.ofNat N = z) (h : i < N) (hN : N < 2147483648) : Int32.ofNat i < z := hz ▸ ltN h hN
theorem nltN {i : Nat} (hi : i < 2147483648) : ¬ Int32.ofNat i < Int32.ofNat i := fun q => by rw [N_lt hi hi] at q; omega
theorem inbN {i n : Nat} (h : i < n) (hi : i < 2147483648) : inb (Int32.ofNat i) n := (inb_N hi).mpr h
def own_cl (a lo hi : Int32) : Int32 := if a < lo then lo else if hi < a then hi else a
theorem own_cl_rng {a lo hi : Int32} (h : ¬ hi < lo) : lo.toInt ≤ (own_cl a lo hi).toInt ∧ (own_cl a lo hi).toInt ≤ hi.toInt := by
  unfold own_cl
  rw [lt_I] at h
  split
  · omega
  · rename_i q; rw [lt_I] at q
    split
    · omega
    · rename_i q2; rw [lt_I] at q2; omega
theorem own_nat {x : Int32} {lo hi : Nat} (h1 : (lo : Int) ≤ x.toInt) (h2 : x.toInt ≤ hi) : ∃ N : Nat, x = Int32.ofNat N ∧ lo ≤ N ∧ N ≤ hi := by
  have := rng x
  refine ⟨x.toInt.toNat, ?_, by omega, by omega⟩
  rw [← Int32.toInt_inj, N_toInt (by omega)]; omega
theorem own_clN (a : Int32) {lo hi : Nat} (h : lo ≤ hi) (hi' : hi < 2147483648) : ∃ N : Nat, own_cl a (Int32.ofNat lo) (Int32.ofNat hi) = Int32.ofNat N ∧ lo ≤ N ∧ N ≤ hi := by
  have q := own_cl_rng (a := a) (lo := Int32.ofNat lo) (hi := Int32.ofNat hi) (fun q => by rw [N_lt (by omega) (by omega)] at q; omega)
  rw [N_toInt (by omega), N_toInt (by omega)] at q
  exact own_nat q.1 q.2
end Jvm.Own
namespace Jvm.Pilot.@@N@@
open Jvm Jvm.ClassFile Sem Op Lib Jvm.Free Jvm.Stand Jvm.LawKit Jvm.RoadKit Bundle Jvm.Pilot.@@N@@.Jvm.D Jvm.Own
/-! ### the class and its words (printed by a program of this repo) -/
abbrev GT := State × Array Value × Launch × Option Addr × Nat
def flds : List Fd := [("disk", "[I", FieldType.array FieldType.int), ("where", "[I", FieldType.array FieldType.int), ("fOwner", "[I", FieldType.array FieldType.int), ("fPage", "[I", FieldType.array FieldType.int), ("fValue", "[I", FieldType.array FieldType.int), ("fDirty", "[I", FieldType.array FieldType.int), ("fRef", "[I", FieldType.array FieldType.int), ("fLast", "[I", FieldType.array FieldType.int), ("fDue", "[I", FieldType.array FieldType.int), ("swapped", "[Z", FieldType.array FieldType.boolean), ("vt", "[I", FieldType.array FieldType.int), ("faults", "[I", FieldType.array FieldType.int), ("saved", "[I", FieldType.array FieldType.int), ("sf", "[I", FieldType.array FieldType.int), ("sa", "[I", FieldType.array FieldType.int), ("nF", "I", FieldType.int), ("win", "I", FieldType.int), ("delay", "I", FieldType.int), ("pffK", "I", FieldType.int), ("now", "I", FieldType.int), ("hand", "I", FieldType.int), ("accFrame", "I", FieldType.int), ("lastSt", "I", FieldType.int)]
def GG (g : GT) : Ctx := (g.1, g.2.1, g.2.2.1, g.2.2.2.1, g.2.2.2.2, "WorkingSetPager", flds, 23)
def HW (g : GT) : Prop := ∀ d ∈ tables_1, d.before g.2.1 g.1 = true
def al : List (Nat × Bool) := [(0, false), (1, false), (2, false), (3, false), (4, false), (5, false), (6, false), (7, false), (8, false), (9, true), (10, false), (11, false), (12, false), (13, false), (14, false)]
def Ln (j : Nat) : Nat := [32, 32, 32, 32, 32, 32, 32, 32, 32, 4, 4, 4, 4, 4, 4, 0, 0, 0, 0, 0, 0, 0, 0].getD j 0
def dfl : List Value := [.null, .null, .null, .null, .null, .null, .null, .null, .null, .null, .null, .null, .null, .null, .null, .int 0, .int 0, .int 0, .int 0, .int 0, .int 0, .int 0, .int 0]
theorem ww {g : GT} (hw : HW g) (k : Nat) {d : Jvm.Cond} (h : tables_1[k]? = some d) : d.before (gA (GG g)) (gZ (GG g)) = true := hw _ (List.mem_of_getElem? h)
theorem fld_nd : (flds.map (·.1)).Nodup := by decide +kernel
theorem al_ok : alOk flds al = true := by decide +kernel
theorem al_nd : (al.map (·.1)).Nodup := by decide +kernel
theorem gok {g : GT} (hw : HW g) : GOk (GG g) := gok_of ⟨⟨Or.inl (ww hw 11 rfl), by decide⟩, ⟨Or.inl (ww hw 13 rfl), by decide⟩, ⟨Or.inl (ww hw 15 rfl), by decide⟩, ⟨Or.inl (ww hw 17 rfl), by decide⟩, ⟨Or.inl (ww hw 19 rfl), by decide⟩, ⟨Or.inl (ww hw 21 rfl), by decide⟩, ⟨Or.inl (ww hw 23 rfl), by decide⟩, ⟨Or.inl (ww hw 25 rfl), by decide⟩, ⟨Or.inl (ww hw 27 rfl), by decide⟩, ⟨Or.inl (ww hw 30 rfl), by decide⟩, ⟨Or.inl (ww hw 32 rfl), by decide⟩, ⟨Or.inl (ww hw 34 rfl), by decide⟩, ⟨Or.inl (ww hw 36 rfl), by decide⟩, ⟨Or.inl (ww hw 38 rfl), by decide⟩, ⟨Or.inl (ww hw 40 rfl), by decide⟩, ⟨Or.inl (ww hw 46 rfl), by decide⟩, ⟨Or.inl (ww hw 48 rfl), by decide⟩, ⟨Or.inl (ww hw 50 rfl), by decide⟩, ⟨Or.inl (ww hw 52 rfl), by decide⟩, ⟨Or.inl (ww hw 63 rfl), by decide⟩, ⟨Or.inl (ww hw 73 rfl), by decide⟩, ⟨Or.inl (ww hw 79 rfl), by decide⟩, ⟨Or.inl (ww hw 81 rfl), by decide⟩, trivial⟩ fld_nd (ww hw 1 rfl) (ww hw 2 rfl)
theorem pcls : plainName "WorkingSetPager" = true := by first | (simp [plainName, overriddenIn]; done) | decide +kernel
theorem pclsL : plainName "WorkingSetPagerL3" = true := by first | (simp [plainName, overriddenIn]; done) | decide +kernel
theorem nmh : "WorkingSetPager" ≠ "java/lang/invoke/MethodHandle" ∧ "WorkingSetPager" ≠ "java/lang/invoke/VarHandle" := by decide
theorem nmhL : "WorkingSetPagerL3" ≠ "java/lang/invoke/MethodHandle" ∧ "WorkingSetPagerL3" ≠ "java/lang/invoke/VarHandle" := by decide
def M_clamp : Mi := ((⟨"WorkingSetPager", "clamp", "(III)I"⟩ : MethodName), prog_1_method_2_code, 4, (some .int), 0, 0)
theorem pl_clamp : plainFor (mN M_clamp) = true := plainFor_of_name pcls
theorem nm_clamp : notMH M_clamp := nmh
theorem pd_clamp : parseMethodDescriptor (mN M_clamp).desc = some ⟨[.int, .int, .int], some .int⟩ := by decide +kernel
def M_ctor : Mi := ((⟨"WorkingSetPager", "<init>", "(IIII)V"⟩ : MethodName), prog_1_method_1_code, 6, none, 1, 16)
theorem pl_ctor : plainFor (mN M_ctor) = true := plainFor_of_name pcls
theorem nm_ctor : notMH M_ctor := nmh
theorem pd_ctor : parseMethodDescriptor (mN M_ctor).desc = some ⟨[.int, .int, .int, .int], none⟩ := by decide +kernel
def M_completeWriteBacks : Mi := ((⟨"WorkingSetPager", "completeWriteBacks", "()I"⟩ : MethodName), prog_1_method_11_code, 4, (some .int), 0, 0)
theorem pl_completeWriteBacks : plainFor (mN M_completeWriteBacks) = true := plainFor_of_name pcls
theorem nm_completeWriteBacks : notMH M_completeWriteBacks := nmh
theorem pd_completeWriteBacks : parseMethodDescriptor (mN M_completeWriteBacks).desc = some ⟨[], some .int⟩ := by decide +kernel
def M_hit : Mi := ((⟨"WorkingSetPager", "hit", "(IIZI)V"⟩ : MethodName), prog_1_method_8_code, 5, none, 0, 0)
theorem pl_hit : plainFor (mN M_hit) = true := plainFor_of_name pcls
theorem nm_hit : notMH M_hit := nmh
theorem pd_hit : parseMethodDescriptor (mN M_hit).desc = some ⟨[.int, .int, .boolean, .int], none⟩ := by decide +kernel
def M_sweep : Mi := ((⟨"WorkingSetPager", "sweep", "()I"⟩ : MethodName), prog_1_method_9_code, 5, (some .int), 0, 0)
theorem pl_sweep : plainFor (mN M_sweep) = true := plainFor_of_name pcls
theorem nm_sweep : notMH M_sweep := nmh
theorem pd_sweep : parseMethodDescriptor (mN M_sweep).desc = some ⟨[], some .int⟩ := by decide +kernel
def M_load : Mi := ((⟨"WorkingSetPager", "load", "(IIIZI)V"⟩ : MethodName), prog_1_method_10_code, 8, none, 0, 0)
theorem pl_load : plainFor (mN M_load) = true := plainFor_of_name pcls
theorem nm_load : notMH M_load := nmh
theorem pd_load : parseMethodDescriptor (mN M_load).desc = some ⟨[.int, .int, .int, .boolean, .int], none⟩ := by decide +kernel
def M_access : Mi := ((⟨"WorkingSetPager", "access", "(IIZI)I"⟩ : MethodName), prog_1_method_7_code, 7, (some .int), 1, 19)
theorem pl_access : plainFor (mN M_access) = true := plainFor_of_name pcls
theorem nm_access : notMH M_access := nmh
theorem pd_access : parseMethodDescriptor (mN M_access).desc = some ⟨[.int, .int, .boolean, .int], some .int⟩ := by decide +kernel
def M_write : Mi := ((⟨"WorkingSetPager", "write", "(III)I"⟩ : MethodName), prog_1_method_4_code, 5, (some .int), 2, 37)
theorem pl_write : plainFor (mN M_write) = true := plainFor_of_name pcls
theorem nm_write : notMH M_write := nmh
theorem pd_write : parseMethodDescriptor (mN M_write).desc = some ⟨[.int, .int, .int], some .int⟩ := by decide +kernel
def M_read : Mi := ((⟨"WorkingSetPager", "read", "(II)I"⟩ : MethodName), prog_1_method_3_code, 4, (some .int), 2, 37)
theorem pl_read : plainFor (mN M_read) = true := plainFor_of_name pcls
theorem nm_read : notMH M_read := nmh
theorem pd_read : parseMethodDescriptor (mN M_read).desc = some ⟨[.int, .int], some .int⟩ := by decide +kernel
def M_lastStatus : Mi := ((⟨"WorkingSetPager", "lastStatus", "()I"⟩ : MethodName), prog_1_method_5_code, 1, (some .int), 0, 0)
theorem pl_lastStatus : plainFor (mN M_lastStatus) = true := plainFor_of_name pcls
theorem nm_lastStatus : notMH M_lastStatus := nmh
theorem pd_lastStatus : parseMethodDescriptor (mN M_lastStatus).desc = some ⟨[], some .int⟩ := by decide +kernel
def M_hand : Mi := ((⟨"WorkingSetPager", "hand", "()I"⟩ : MethodName), prog_1_method_26_code, 1, (some .int), 0, 0)
theorem pl_hand : plainFor (mN M_hand) = true := plainFor_of_name pcls
theorem nm_hand : notMH M_hand := nmh
theorem pd_hand : parseMethodDescriptor (mN M_hand).desc = some ⟨[], some .int⟩ := by decide +kernel
def M_frameInfo : Mi := ((⟨"WorkingSetPager", "frameInfo", "(I)I"⟩ : MethodName), prog_1_method_23_code, 4, (some .int), 0, 0)
theorem pl_frameInfo : plainFor (mN M_frameInfo) = true := plainFor_of_name pcls
theorem nm_frameInfo : notMH M_frameInfo := nmh
theorem pd_frameInfo : parseMethodDescriptor (mN M_frameInfo).desc = some ⟨[.int], some .int⟩ := by decide +kernel
def M_dueTime : Mi := ((⟨"WorkingSetPager", "dueTime", "(I)I"⟩ : MethodName), prog_1_method_25_code, 2, (some .int), 0, 0)
theorem pl_dueTime : plainFor (mN M_dueTime) = true := plainFor_of_name pcls
theorem nm_dueTime : notMH M_dueTime := nmh
theorem pd_dueTime : parseMethodDescriptor (mN M_dueTime).desc = some ⟨[.int], some .int⟩ := by decide +kernel
def M_frameOf : Mi := ((⟨"WorkingSetPager", "frameOf", "(II)I"⟩ : MethodName), prog_1_method_22_code, 3, (some .int), 0, 0)
theorem pl_frameOf : plainFor (mN M_frameOf) = true := plainFor_of_name pcls
theorem nm_frameOf : notMH M_frameOf := nmh
theorem pd_frameOf : parseMethodDescriptor (mN M_frameOf).desc = some ⟨[.int, .int], some .int⟩ := by decide +kernel
def M_diskValue : Mi := ((⟨"WorkingSetPager", "diskValue", "(II)I"⟩ : MethodName), prog_1_method_29_code, 3, (some .int), 0, 0)
theorem pl_diskValue : plainFor (mN M_diskValue) = true := plainFor_of_name pcls
theorem nm_diskValue : notMH M_diskValue := nmh
theorem pd_diskValue : parseMethodDescriptor (mN M_diskValue).desc = some ⟨[.int, .int], some .int⟩ := by decide +kernel
def M_tick : Mi := ((⟨"WorkingSetPager", "tick", "()I"⟩ : MethodName), prog_1_method_6_code, 1, (some .int), 1, 15)
theorem pl_tick : plainFor (mN M_tick) = true := plainFor_of_name pcls
theorem nm_tick : notMH M_tick := nmh
theorem pd_tick : parseMethodDescriptor (mN M_tick).desc = some ⟨[], some .int⟩ := by decide +kernel
def M_now : Mi := ((⟨"WorkingSetPager", "now", "()I"⟩ : MethodName), prog_1_method_27_code, 1, (some .int), 0, 0)
theorem pl_now : plainFor (mN M_now) = true := plainFor_of_name pcls
theorem nm_now : notMH M_now := nmh
theorem pd_now : parseMethodDescriptor (mN M_now).desc = some ⟨[], some .int⟩ := by decide +kernel
def M_procInfo : Mi := ((⟨"WorkingSetPager", "procInfo", "(II)I"⟩ : MethodName), prog_1_method_28_code, 3, (some .int), 0, 0)
theorem pl_procInfo : plainFor (mN M_procInfo) = true := plainFor_of_name pcls
theorem nm_procInfo : notMH M_procInfo := nmh
theorem pd_procInfo : parseMethodDescriptor (mN M_procInfo).desc = some ⟨[.int, .int], some .int⟩ := by decide +kernel
def M_law : Mi := (x, code, maxLocals, ret, 3, 54)
theorem pl_law : plainFor (mN M_law) = true := plainFor_of_name (by first | (simp [plainName, overriddenIn, x]; done) | decide +kernel)
def c2 : List (Nat × Instr × Nat) := [(0, .iload_n 1, 1), (1, .iload_n 2, 1), (2, .if_icmp .ge 5, 3), (5, .iload_n 2, 1), (6, .ireturn, 1), (7, .iload_n 1, 1), (8, .iload_n 3, 1), (9, .if_icmp .le 5, 3), (12, .iload_n 3, 1), (13, .ireturn, 1), (14, .iload_n 1, 1), (15, .ireturn, 1)]
theorem D2 : decs prog_1_method_2_code c2 = true := by decide +kernel
theorem d2 (k : Nat) {p : Nat} {i : Instr} {n : Nat} (h : c2[k]? = some (p, i, n)) : decode prog_1_method_2_code p = .ok (i, n) := dget D2 h
def c0 : List (Nat × Instr × Nat) := [(0, .aload_n 0, 1), (1, .invokespecial 1, 3), (4, .aload_n 0, 1), (5, .bipush 32, 2), (7, .newarray .int, 2), (9, .putfield 7, 3), (12, .aload_n 0, 1), (13, .bipush 32, 2), (15, .newarray .int, 2), (17, .putfield 13, 3), (20, .aload_n 0, 1), (21, .bipush 32, 2), (23, .newarray .int, 2), (25, .putfield 16, 3), (28, .aload_n 0, 1), (29, .bipush 32, 2), (31, .newarray .int, 2), (33, .putfield 19, 3), (36, .aload_n 0, 1), (37, .bipush 32, 2), (39, .newarray .int, 2), (41, .putfield 22, 3), (44, .aload_n 0, 1), (45, .bipush 32, 2), (47, .newarray .int, 2), (49, .putfield 25, 3), (52, .aload_n 0, 1), (53, .bipush 32, 2), (55, .newarray .int, 2), (57, .putfield 28, 3), (60, .aload_n 0, 1), (61, .bipush 32, 2), (63, .newarray .int, 2), (65, .putfield 31, 3), (68, .aload_n 0, 1), (69, .bipush 32, 2), (71, .newarray .int, 2), (73, .putfield 34, 3), (76, .aload_n 0, 1), (77, .iconst 4, 1), (78, .newarray .boolean, 2), (80, .putfield 37, 3), (83, .aload_n 0, 1), (84, .iconst 4, 1), (85, .newarray .int, 2), (87, .putfield 41, 3), (90, .aload_n 0, 1), (91, .iconst 4, 1), (92, .newarray .int, 2), (94, .putfield 44, 3), (97, .aload_n 0, 1), (98, .iconst 4, 1), (99, .newarray .int, 2), (101, .putfield 47, 3), (104, .aload_n 0, 1), (105, .iconst 4, 1), (106, .newarray .int, 2), (108, .putfield 50, 3), (111, .aload_n 0, 1), (112, .iconst 4, 1), (113, .newarray .int, 2), (115, .putfield 53, 3), (118, .aload_n 0, 1), (119, .aload_n 0, 1), (120, .iload_n 1, 1), (121, .iconst 4, 1), (122, .bipush 32, 2), (124, .invokevirtual 56, 3), (127, .putfield 60, 3), (130, .aload_n 0, 1), (131, .aload_n 0, 1), (132, .iload_n 2, 1), (133, .iconst 1, 1), (134, .bipush 64, 2), (136, .invokevirtual 56, 3), (139, .putfield 64, 3), (142, .aload_n 0, 1), (143, .aload_n 0, 1), (144, .iload_n 3, 1), (145, .iconst 1, 1), (146, .bipush 8, 2), (148, .invokevirtual 56, 3), (151, .putfield 67, 3), (154, .aload_n 0, 1), (155, .aload_n 0, 1), (156, .iload 4, 2), (158, .iconst 1, 1), (159, .bipush 16, 2), (161, .invokevirtual 56, 3), (164, .putfield 70, 3), (167, .iconst 0, 1), (168, .istore 5, 2), (170, .iload 5, 2), (172, .bipush 32, 2), (174, .if_icmp .ge 25, 3), (177, .aload_n 0, 1), (178, .getfield 16, 3), (181, .iload 5, 2), (183, .iconst (-1), 1), (184, .iastore, 1), (185, .aload_n 0, 1), (186, .getfield 13, 3), (189, .iload 5, 2), (191, .iconst (-1), 1), (192, .iastore, 1), (193, .iinc 5 1, 3), (196, .goto (-26), 3), (199, .return_, 1)]
theorem D0 : decs prog_1_method_1_code c0 = true := by decide +kernel
theorem d0 (k : Nat) {p : Nat} {i : Instr} {n : Nat} (h : c0[k]? = some (p, i, n)) : decode prog_1_method_1_code p = .ok (i, n) := dget D0 h
def c5 : List (Nat × Instr × Nat) := [(0, .iconst 0, 1), (1, .istore_n 1, 1), (2, .iconst 0, 1), (3, .istore_n 2, 1), (4, .iload_n 2, 1), (5, .aload_n 0, 1), (6, .getfield 60, 3), (9, .if_icmp .ge 92, 3), (12, .aload_n 0, 1), (13, .getfield 16, 3), (16, .iload_n 2, 1), (17, .iaload, 1), (18, .istore_n 3, 1), (19, .iload_n 3, 1), (20, .ifCond .lt 75, 3), (23, .iload_n 3, 1), (24, .iconst 3, 1), (25, .if_icmp .le 6, 3), (28, .goto 67, 3), (31, .aload_n 0, 1), (32, .getfield 34, 3), (35, .iload_n 2, 1), (36, .iaload, 1), (37, .ifCond .eq 58, 3), (40, .aload_n 0, 1), (41, .getfield 34, 3), (44, .iload_n 2, 1), (45, .iaload, 1), (46, .aload_n 0, 1), (47, .getfield 83, 3), (50, .if_icmp .gt 45, 3), (53, .aload_n 0, 1), (54, .getfield 7, 3), (57, .iload_n 3, 1), (58, .bipush 8, 2), (60, .imul, 1), (61, .aload_n 0, 1), (62, .getfield 19, 3), (65, .iload_n 2, 1), (66, .iaload, 1), (67, .bipush 7, 2), (69, .iand, 1), (70, .iadd, 1), (71, .aload_n 0, 1), (72, .getfield 22, 3), (75, .iload_n 2, 1), (76, .iaload, 1), (77, .iastore, 1), (78, .aload_n 0, 1), (79, .getfield 25, 3), (82, .iload_n 2, 1), (83, .iconst 0, 1), (84, .iastore, 1), (85, .aload_n 0, 1), (86, .getfield 34, 3), (89, .iload_n 2, 1), (90, .iconst 0, 1), (91, .iastore, 1), (92, .iinc 1 1, 3), (95, .iinc 2 1, 3), (98, .goto (-94), 3), (101, .iload_n 1, 1), (102, .ireturn, 1)]
theorem D5 : decs prog_1_method_11_code c5 = true := by decide +kernel
theorem d5 (k : Nat) {p : Nat} {i : Instr} {n : Nat} (h : c5[k]? = some (p, i, n)) : decode prog_1_method_11_code p = .ok (i, n) := dget D5 h
def c11 : List (Nat × Instr × Nat) := [(0, .aload_n 0, 1), (1, .getfield 41, 3), (4, .iload_n 2, 1), (5, .dup2, 1), (6, .iaload, 1), (7, .iconst 1, 1), (8, .iadd, 1), (9, .iastore, 1), (10, .aload_n 0, 1), (11, .getfield 53, 3), (14, .iload_n 2, 1), (15, .dup2, 1), (16, .iaload, 1), (17, .iconst 1, 1), (18, .iadd, 1), (19, .iastore, 1), (20, .aload_n 0, 1), (21, .getfield 28, 3), (24, .iload_n 1, 1), (25, .iconst 1, 1), (26, .iastore, 1), (27, .iload_n 3, 1), (28, .ifCond .eq 25, 3), (31, .aload_n 0, 1), (32, .getfield 22, 3), (35, .iload_n 1, 1), (36, .iload 4, 2), (38, .iastore, 1), (39, .aload_n 0, 1), (40, .getfield 25, 3), (43, .iload_n 1, 1), (44, .iconst 1, 1), (45, .iastore, 1), (46, .aload_n 0, 1), (47, .getfield 34, 3), (50, .iload_n 1, 1), (51, .iconst 0, 1), (52, .iastore, 1), (53, .return_, 1)]
theorem D11 : decs prog_1_method_8_code c11 = true := by decide +kernel
theorem d11 (k : Nat) {p : Nat} {i : Instr} {n : Nat} (h : c11[k]? = some (p, i, n)) : decode prog_1_method_8_code p = .ok (i, n) := dget D11 h
def c6 : List (Nat × Instr × Nat) := [(0, .iconst 0, 1), (1, .istore_n 1, 1), (2, .iload_n 1, 1), (3, .aload_n 0, 1), (4, .getfield 60, 3), (7, .if_icmp .ge 135, 3), (10, .aload_n 0, 1), (11, .getfield 101, 3), (14, .iload_n 1, 1), (15, .iadd, 1), (16, .aload_n 0, 1), (17, .getfield 60, 3), (20, .irem, 1), (21, .istore_n 2, 1), (22, .aload_n 0, 1), (23, .getfield 16, 3), (26, .iload_n 2, 1), (27, .iaload, 1), (28, .istore_n 3, 1), (29, .iload_n 3, 1), (30, .ifCond .lt 8, 3), (33, .iload_n 3, 1), (34, .iconst 3, 1), (35, .if_icmp .le 5, 3), (38, .iload_n 2, 1), (39, .ireturn, 1), (40, .aload_n 0, 1), (41, .getfield 28, 3), (44, .iload_n 2, 1), (45, .iaload, 1), (46, .ifCond .eq 25, 3), (49, .aload_n 0, 1), (50, .getfield 28, 3), (53, .iload_n 2, 1), (54, .iconst 0, 1), (55, .iastore, 1), (56, .aload_n 0, 1), (57, .getfield 31, 3), (60, .iload_n 2, 1), (61, .aload_n 0, 1), (62, .getfield 41, 3), (65, .iload_n 3, 1), (66, .iaload, 1), (67, .iastore, 1), (68, .goto 68, 3), (71, .aload_n 0, 1), (72, .getfield 41, 3), (75, .iload_n 3, 1), (76, .iaload, 1), (77, .aload_n 0, 1), (78, .getfield 31, 3), (81, .iload_n 2, 1), (82, .iaload, 1), (83, .isub, 1), (84, .istore 4, 2), (86, .iload 4, 2), (88, .aload_n 0, 1), (89, .getfield 64, 3), (92, .if_icmp .gt 6, 3), (95, .goto 41, 3), (98, .aload_n 0, 1), (99, .getfield 25, 3), (102, .iload_n 2, 1), (103, .iaload, 1), (104, .ifCond .eq 30, 3), (107, .aload_n 0, 1), (108, .getfield 34, 3), (111, .iload_n 2, 1), (112, .iaload, 1), (113, .ifCond .ne 23, 3), (116, .aload_n 0, 1), (117, .getfield 34, 3), (120, .iload_n 2, 1), (121, .aload_n 0, 1), (122, .getfield 83, 3), (125, .aload_n 0, 1), (126, .getfield 67, 3), (129, .iadd, 1), (130, .iastore, 1), (131, .goto 5, 3), (134, .iload_n 2, 1), (135, .ireturn, 1), (136, .iinc 1 1, 3), (139, .goto (-137), 3), (142, .iconst (-1), 1), (143, .ireturn, 1)]
theorem D6 : decs prog_1_method_9_code c6 = true := by decide +kernel
theorem d6 (k : Nat) {p : Nat} {i : Instr} {n : Nat} (h : c6[k]? = some (p, i, n)) : decode prog_1_method_9_code p = .ok (i, n) := dget D6 h
def c7 : List (Nat × Instr × Nat) := [(0, .aload_n 0, 1), (1, .getfield 16, 3), (4, .iload_n 1, 1), (5, .iaload, 1), (6, .istore 6, 2), (8, .iload 6, 2), (10, .ifCond .lt 34, 3), (13, .iload 6, 2), (15, .iconst 3, 1), (16, .if_icmp .gt 28, 3), (19, .iload 6, 2), (21, .bipush 8, 2), (23, .imul, 1), (24, .aload_n 0, 1), (25, .getfield 19, 3), (28, .iload_n 1, 1), (29, .iaload, 1), (30, .bipush 7, 2), (32, .iand, 1), (33, .iadd, 1), (34, .istore 7, 2), (36, .aload_n 0, 1), (37, .getfield 13, 3), (40, .iload 7, 2), (42, .iconst (-1), 1), (43, .iastore, 1), (44, .aload_n 0, 1), (45, .getfield 16, 3), (48, .iload_n 1, 1), (49, .iload_n 2, 1), (50, .iastore, 1), (51, .aload_n 0, 1), (52, .getfield 19, 3), (55, .iload_n 1, 1), (56, .iload_n 3, 1), (57, .iastore, 1), (58, .aload_n 0, 1), (59, .getfield 13, 3), (62, .iload_n 2, 1), (63, .bipush 8, 2), (65, .imul, 1), (66, .iload_n 3, 1), (67, .iadd, 1), (68, .iload_n 1, 1), (69, .iastore, 1), (70, .aload_n 0, 1), (71, .getfield 22, 3), (74, .iload_n 1, 1), (75, .aload_n 0, 1), (76, .getfield 7, 3), (79, .iload_n 2, 1), (80, .bipush 8, 2), (82, .imul, 1), (83, .iload_n 3, 1), (84, .iadd, 1), (85, .iaload, 1), (86, .iastore, 1), (87, .aload_n 0, 1), (88, .getfield 25, 3), (91, .iload_n 1, 1), (92, .iconst 0, 1), (93, .iastore, 1), (94, .aload_n 0, 1), (95, .getfield 34, 3), (98, .iload_n 1, 1), (99, .iconst 0, 1), (100, .iastore, 1), (101, .aload_n 0, 1), (102, .getfield 41, 3), (105, .iload_n 2, 1), (106, .dup2, 1), (107, .iaload, 1), (108, .iconst 1, 1), (109, .iadd, 1), (110, .iastore, 1), (111, .aload_n 0, 1), (112, .getfield 53, 3), (115, .iload_n 2, 1), (116, .dup2, 1), (117, .iaload, 1), (118, .iconst 1, 1), (119, .iadd, 1), (120, .iastore, 1), (121, .aload_n 0, 1), (122, .getfield 28, 3), (125, .iload_n 1, 1), (126, .iconst 1, 1), (127, .iastore, 1), (128, .aload_n 0, 1), (129, .getfield 31, 3), (132, .iload_n 1, 1), (133, .aload_n 0, 1), (134, .getfield 41, 3), (137, .iload_n 2, 1), (138, .iaload, 1), (139, .iastore, 1), (140, .iload 4, 2), (142, .ifCond .eq 18, 3), (145, .aload_n 0, 1), (146, .getfield 22, 3), (149, .iload_n 1, 1), (150, .iload 5, 2), (152, .iastore, 1), (153, .aload_n 0, 1), (154, .getfield 25, 3), (157, .iload_n 1, 1), (158, .iconst 1, 1), (159, .iastore, 1), (160, .aload_n 0, 1), (161, .iload_n 1, 1), (162, .iconst 1, 1), (163, .iadd, 1), (164, .aload_n 0, 1), (165, .getfield 60, 3), (168, .irem, 1), (169, .putfield 101, 3), (172, .return_, 1)]
theorem D7 : decs prog_1_method_10_code c7 = true := by decide +kernel
theorem d7 (k : Nat) {p : Nat} {i : Instr} {n : Nat} (h : c7[k]? = some (p, i, n)) : decode prog_1_method_10_code p = .ok (i, n) := dget D7 h
def c4 : List (Nat × Instr × Nat) := [(0, .iload_n 1, 1), (1, .ifCond .lt 18, 3), (4, .iload_n 1, 1), (5, .iconst 3, 1), (6, .if_icmp .gt 13, 3), (9, .iload_n 2, 1), (10, .ifCond .lt 9, 3), (13, .iload_n 2, 1), (14, .bipush 7, 2), (16, .if_icmp .le 5, 3), (19, .iconst 5, 1), (20, .ireturn, 1), (21, .aload_n 0, 1), (22, .getfield 37, 3), (25, .iload_n 1, 1), (26, .baload, 1), (27, .ifCond .eq 5, 3), (30, .iconst 4, 1), (31, .ireturn, 1), (32, .aload_n 0, 1), (33, .dup, 1), (34, .getfield 83, 3), (37, .iconst 1, 1), (38, .iadd, 1), (39, .putfield 83, 3), (42, .aload_n 0, 1), (43, .invokevirtual 86, 3), (46, .pop, 1), (47, .aload_n 0, 1), (48, .getfield 13, 3), (51, .iload_n 1, 1), (52, .bipush 8, 2), (54, .imul, 1), (55, .iload_n 2, 1), (56, .iadd, 1), (57, .iaload, 1), (58, .istore 5, 2), (60, .iload 5, 2), (62, .ifCond .lt 28, 3), (65, .iload 5, 2), (67, .bipush 32, 2), (69, .if_icmp .ge 21, 3), (72, .aload_n 0, 1), (73, .iload 5, 2), (75, .iload_n 1, 1), (76, .iload_n 3, 1), (77, .iload 4, 2), (79, .invokevirtual 90, 3), (82, .aload_n 0, 1), (83, .iload 5, 2), (85, .putfield 80, 3), (88, .iconst 1, 1), (89, .ireturn, 1), (90, .aload_n 0, 1), (91, .getfield 44, 3), (94, .iload_n 1, 1), (95, .dup2, 1), (96, .iaload, 1), (97, .iconst 1, 1), (98, .iadd, 1), (99, .iastore, 1), (100, .aload_n 0, 1), (101, .getfield 50, 3), (104, .iload_n 1, 1), (105, .dup2, 1), (106, .iaload, 1), (107, .iconst 1, 1), (108, .iadd, 1), (109, .iastore, 1), (110, .aload_n 0, 1), (111, .invokevirtual 94, 3), (114, .istore 6, 2), (116, .iload 6, 2), (118, .ifCond .ge 5, 3), (121, .iconst 3, 1), (122, .ireturn, 1), (123, .aload_n 0, 1), (124, .iload 6, 2), (126, .iload_n 1, 1), (127, .iload_n 2, 1), (128, .iload_n 3, 1), (129, .iload 4, 2), (131, .invokevirtual 97, 3), (134, .aload_n 0, 1), (135, .iload 6, 2), (137, .putfield 80, 3), (140, .iconst 2, 1), (141, .ireturn, 1)]
theorem D4 : decs prog_1_method_7_code c4 = true := by decide +kernel
theorem d4 (k : Nat) {p : Nat} {i : Instr} {n : Nat} (h : c4[k]? = some (p, i, n)) : decode prog_1_method_7_code p = .ok (i, n) := dget D4 h
def c3 : List (Nat × Instr × Nat) := [(0, .aload_n 0, 1), (1, .iload_n 1, 1), (2, .iload_n 2, 1), (3, .iconst 1, 1), (4, .iload_n 3, 1), (5, .invokevirtual 73, 3), (8, .istore 4, 2), (10, .aload_n 0, 1), (11, .iload 4, 2), (13, .putfield 77, 3), (16, .iload 4, 2), (18, .ireturn, 1)]
theorem D3 : decs prog_1_method_4_code c3 = true := by decide +kernel
theorem d3 (k : Nat) {p : Nat} {i : Instr} {n : Nat} (h : c3[k]? = some (p, i, n)) : decode prog_1_method_4_code p = .ok (i, n) := dget D3 h
def c8 : List (Nat × Instr × Nat) := [(0, .aload_n 0, 1), (1, .iload_n 1, 1), (2, .iload_n 2, 1), (3, .iconst 0, 1), (4, .iconst 0, 1), (5, .invokevirtual 73, 3), (8, .istore_n 3, 1), (9, .aload_n 0, 1), (10, .iload_n 3, 1), (11, .putfield 77, 3), (14, .iload_n 3, 1), (15, .iconst 1, 1), (16, .if_icmp .eq 8, 3), (19, .iload_n 3, 1), (20, .iconst 2, 1), (21, .if_icmp .ne 13, 3), (24, .aload_n 0, 1), (25, .getfield 22, 3), (28, .aload_n 0, 1), (29, .getfield 80, 3), (32, .iaload, 1), (33, .ireturn, 1), (34, .iconst 0, 1), (35, .ireturn, 1)]
theorem D8 : decs prog_1_method_3_code c8 = true := by decide +kernel
theorem d8 (k : Nat) {p : Nat} {i : Instr} {n : Nat} (h : c8[k]? = some (p, i, n)) : decode prog_1_method_3_code p = .ok (i, n) := dget D8 h
def c9 : List (Nat × Instr × Nat) := [(0, .aload_n 0, 1), (1, .getfield 77, 3), (4, .ireturn, 1)]
theorem D9 : decs prog_1_method_5_code c9 = true := by decide +kernel
theorem d9 (k : Nat) {p : Nat} {i : Instr} {n : Nat} (h : c9[k]? = some (p, i, n)) : decode prog_1_method_5_code p = .ok (i, n) := dget D9 h
def c10 : List (Nat × Instr × Nat) := [(0, .aload_n 0, 1), (1, .getfield 101, 3), (4, .ireturn, 1)]
theorem D10 : decs prog_1_method_26_code c10 = true := by decide +kernel
theorem d10 (k : Nat) {p : Nat} {i : Instr} {n : Nat} (h : c10[k]? = some (p, i, n)) : decode prog_1_method_26_code p = .ok (i, n) := dget D10 h
def c12 : List (Nat × Instr × Nat) := [(0, .iload_n 1, 1), (1, .ifCond .lt 11, 3), (4, .iload_n 1, 1), (5, .aload_n 0, 1), (6, .getfield 60, 3), (9, .if_icmp .lt 5, 3), (12, .iconst (-1), 1), (13, .ireturn, 1), (14, .aload_n 0, 1), (15, .getfield 16, 3), (18, .iload_n 1, 1), (19, .iaload, 1), (20, .istore_n 2, 1), (21, .iload_n 2, 1), (22, .ifCond .ge 5, 3), (25, .iconst 0, 1), (26, .ireturn, 1), (27, .bipush 32, 2), (29, .iload_n 2, 1), (30, .bipush 8, 2), (32, .imul, 1), (33, .iadd, 1), (34, .aload_n 0, 1), (35, .getfield 19, 3), (38, .iload_n 1, 1), (39, .iaload, 1), (40, .iadd, 1), (41, .bipush 64, 2), (43, .aload_n 0, 1), (44, .getfield 25, 3), (47, .iload_n 1, 1), (48, .iaload, 1), (49, .imul, 1), (50, .iadd, 1), (51, .sipush 128, 3), (54, .aload_n 0, 1), (55, .getfield 28, 3), (58, .iload_n 1, 1), (59, .iaload, 1), (60, .imul, 1), (61, .iadd, 1), (62, .istore_n 3, 1), (63, .aload_n 0, 1), (64, .getfield 34, 3), (67, .iload_n 1, 1), (68, .iaload, 1), (69, .ifCond .eq 9, 3), (72, .iinc 3 256, 6), (78, .iload_n 3, 1), (79, .ireturn, 1)]
theorem D12 : decs prog_1_method_23_code c12 = true := by decide +kernel
theorem d12 (k : Nat) {p : Nat} {i : Instr} {n : Nat} (h : c12[k]? = some (p, i, n)) : decode prog_1_method_23_code p = .ok (i, n) := dget D12 h
def c13 : List (Nat × Instr × Nat) := [(0, .iload_n 1, 1), (1, .ifCond .lt 20, 3), (4, .iload_n 1, 1), (5, .aload_n 0, 1), (6, .getfield 60, 3), (9, .if_icmp .ge 12, 3), (12, .aload_n 0, 1), (13, .getfield 16, 3), (16, .iload_n 1, 1), (17, .iaload, 1), (18, .ifCond .ge 5, 3), (21, .iconst 0, 1), (22, .ireturn, 1), (23, .aload_n 0, 1), (24, .getfield 34, 3), (27, .iload_n 1, 1), (28, .iaload, 1), (29, .ireturn, 1)]
theorem D13 : decs prog_1_method_25_code c13 = true := by decide +kernel
theorem d13 (k : Nat) {p : Nat} {i : Instr} {n : Nat} (h : c13[k]? = some (p, i, n)) : decode prog_1_method_25_code p = .ok (i, n) := dget D13 h
def c14 : List (Nat × Instr × Nat) := [(0, .iload_n 1, 1), (1, .ifCond .lt 18, 3), (4, .iload_n 1, 1), (5, .iconst 3, 1), (6, .if_icmp .gt 13, 3), (9, .iload_n 2, 1), (10, .ifCond .lt 9, 3), (13, .iload_n 2, 1), (14, .bipush 7, 2), (16, .if_icmp .le 5, 3), (19, .iconst (-1), 1), (20, .ireturn, 1), (21, .aload_n 0, 1), (22, .getfield 13, 3), (25, .iload_n 1, 1), (26, .bipush 8, 2), (28, .imul, 1), (29, .iload_n 2, 1), (30, .iadd, 1), (31, .iaload, 1), (32, .ireturn, 1)]
theorem D14 : decs prog_1_method_22_code c14 = true := by decide +kernel
theorem d14 (k : Nat) {p : Nat} {i : Instr} {n : Nat} (h : c14[k]? = some (p, i, n)) : decode prog_1_method_22_code p = .ok (i, n) := dget D14 h
def c15 : List (Nat × Instr × Nat) := [(0, .iload_n 1, 1), (1, .ifCond .lt 18, 3), (4, .iload_n 1, 1), (5, .iconst 3, 1), (6, .if_icmp .gt 13, 3), (9, .iload_n 2, 1), (10, .ifCond .lt 9, 3), (13, .iload_n 2, 1), (14, .bipush 7, 2), (16, .if_icmp .le 5, 3), (19, .iconst 0, 1), (20, .ireturn, 1), (21, .aload_n 0, 1), (22, .getfield 7, 3), (25, .iload_n 1, 1), (26, .bipush 8, 2), (28, .imul, 1), (29, .iload_n 2, 1), (30, .iadd, 1), (31, .iaload, 1), (32, .ireturn, 1)]
theorem D15 : decs prog_1_method_29_code c15 = true := by decide +kernel
theorem d15 (k : Nat) {p : Nat} {i : Instr} {n : Nat} (h : c15[k]? = some (p, i, n)) : decode prog_1_method_29_code p = .ok (i, n) := dget D15 h
def c16 : List (Nat × Instr × Nat) := [(0, .aload_n 0, 1), (1, .dup, 1), (2, .getfield 83, 3), (5, .iconst 1, 1), (6, .iadd, 1), (7, .putfield 83, 3), (10, .aload_n 0, 1), (11, .invokevirtual 86, 3), (14, .ireturn, 1)]
theorem D16 : decs prog_1_method_6_code c16 = true := by decide +kernel
theorem d16 (k : Nat) {p : Nat} {i : Instr} {n : Nat} (h : c16[k]? = some (p, i, n)) : decode prog_1_method_6_code p = .ok (i, n) := dget D16 h
def c17 : List (Nat × Instr × Nat) := [(0, .aload_n 0, 1), (1, .getfield 83, 3), (4, .ireturn, 1)]
theorem D17 : decs prog_1_method_27_code c17 = true := by decide +kernel
theorem d17 (k : Nat) {p : Nat} {i : Instr} {n : Nat} (h : c17[k]? = some (p, i, n)) : decode prog_1_method_27_code p = .ok (i, n) := dget D17 h
def c18 : List (Nat × Instr × Nat) := [(0, .iload_n 1, 1), (1, .ifCond .lt 8, 3), (4, .iload_n 1, 1), (5, .iconst 3, 1), (6, .if_icmp .le 5, 3), (9, .iconst (-1), 1), (10, .ireturn, 1), (11, .iload_n 2, 1), (12, .ifCond .ne 10, 3), (15, .aload_n 0, 1), (16, .getfield 41, 3), (19, .iload_n 1, 1), (20, .iaload, 1), (21, .ireturn, 1), (22, .iload_n 2, 1), (23, .iconst 1, 1), (24, .if_icmp .ne 10, 3), (27, .aload_n 0, 1), (28, .getfield 44, 3), (31, .iload_n 1, 1), (32, .iaload, 1), (33, .ireturn, 1), (34, .iload_n 2, 1), (35, .iconst 2, 1), (36, .if_icmp .ne 18, 3), (39, .aload_n 0, 1), (40, .getfield 37, 3), (43, .iload_n 1, 1), (44, .baload, 1), (45, .ifCond .eq 7, 3), (48, .iconst 1, 1), (49, .goto 4, 3), (52, .iconst 0, 1), (53, .ireturn, 1), (54, .iload_n 2, 1), (55, .iconst 3, 1), (56, .if_icmp .ne 10, 3), (59, .aload_n 0, 1), (60, .getfield 47, 3), (63, .iload_n 1, 1), (64, .iaload, 1), (65, .ireturn, 1), (66, .iload_n 2, 1), (67, .iconst 4, 1), (68, .if_icmp .ne 10, 3), (71, .aload_n 0, 1), (72, .getfield 50, 3), (75, .iload_n 1, 1), (76, .iaload, 1), (77, .ireturn, 1), (78, .iload_n 2, 1), (79, .iconst 5, 1), (80, .if_icmp .ne 10, 3), (83, .aload_n 0, 1), (84, .getfield 53, 3), (87, .iload_n 1, 1), (88, .iaload, 1), (89, .ireturn, 1), (90, .iconst (-1), 1), (91, .ireturn, 1)]
theorem D18 : decs prog_1_method_28_code c18 = true := by decide +kernel
theorem d18 (k : Nat) {p : Nat} {i : Instr} {n : Nat} (h : c18[k]? = some (p, i, n)) : decode prog_1_method_28_code p = .ok (i, n) := dget D18 h
def H0 : MHeap := []
def KL (s : St) : MHeap := KH flds al Ln H0 [] s
def f_clamp (s : St) (a0 : Int32) (a1 : Int32) (a2 : Int32) : Option (Int32) :=
  if a0 < a1 then
    some a1
  else
    if a2 < a0 then
      some a2
    else
      some a0
set_option maxRecDepth 100000 in
theorem e_clamp {g : GT} {s : St} {a0 : Int32} {a1 : Int32} {a2 : Int32} {w : Int32} (hw : HW g) {K : St → MHeap} {o : Nat} {r : Nat → Nat} (V : View (GG g) Ln K o r) (hr : f_clamp s a0 a1 a2 = some w) : EvC (GG g) M_clamp [.ref o, .int a0, .int a1, .int a2] (K s) ((some (.int w)), (K s)) := by
  refine EvC.enter (L0 := [.val (.ref o), .val (.int a0), .val (.int a1), .val (.int a2)]) pl_clamp (fun h => nomatch h) rfl rfl ?_
  unfold f_clamp at hr
  refine Ev.iloadN (d2 0 rfl) rfl ?_
  refine Ev.iloadN (d2 1 rfl) rfl ?_
  refine Ev.icge (t := 7) (d2 2 rfl) rfl (fun c1 => ?_) (fun c1 => ?_)
  · replace hr := (if_pos c1).symm.trans hr
    refine Ev.iloadN (d2 3 rfl) rfl ?_
    cases hr
    exact Ev.ireturn rfl (d2 4 rfl)
  · replace hr := (if_neg c1).symm.trans hr
    refine Ev.iloadN (d2 5 rfl) rfl ?_
    refine Ev.iloadN (d2 6 rfl) rfl ?_
    refine Ev.icle (t := 14) (d2 7 rfl) rfl (fun c2 => ?_) (fun c2 => ?_)
    · replace hr := (if_pos c2).symm.trans hr
      refine Ev.iloadN (d2 8 rfl) rfl ?_
      cases hr
      exact Ev.ireturn rfl (d2 9 rfl)
    · replace hr := (if_neg c2).symm.trans hr
      refine Ev.iloadN (d2 10 rfl) rfl ?_
      cases hr
      exact Ev.ireturn rfl (d2 11 rfl)
def f_ctor_170 (n : Nat) : Nat → Int32 → St → Option (St)
  | 0 => fun _ _ => none
  | k + 1 => fun x5 s =>
    if x5 < (32 : Int32) then
      grd (inb x5 32) <|
      bnd (setA s 2 (ix x5) (-1 : Int32)) fun s3 =>
      bnd (setA s3 1 (ix x5) (-1 : Int32)) fun s4 =>
      f_ctor_170 n k (x5 + (1 : Int32)) s4
    else
      some s
set_option maxRecDepth 100000 in
theorem e_ctor_170 {g : GT} {n : Nat} (hw : HW g) {K : St → MHeap} {o : Nat} {r : Nat → Nat} (V : View (GG g) Ln K o r) (k : Nat) : ∀ (x5 : Int32) (s : St) (y1 : Slot) (hy1 : one1 y1 = true) (y2 : Slot) (hy2 : one1 y2 = true) (y3 : Slot) (hy3 : one1 y3 = true) (y4 : Slot) (hy4 : one1 y4 = true) (w : St), f_ctor_170 n k x5 s = some w → Ev (GG g) M_ctor 170 [.val (.ref o), y1, y2, y3, y4, .val (.int x5)] [] (K s) (none, (K w)) := by
  induction k with
  | zero => intro x5 s y1 hy1 y2 hy2 y3 hy3 y4 hy4 w hr; rw [f_ctor_170] at hr; cases hr
  | succ k ih =>
    intro x5 s y1 hy1 y2 hy2 y3 hy3 y4 hy4 w hr
    rw [f_ctor_170] at hr
    refine Ev.iload (d0 92 rfl) rfl ?_
    refine Ev.bipush (z := 32) (d0 93 rfl) rfl ?_
    refine Ev.icge (t := 199) (d0 94 rfl) rfl (fun c1 => ?_) (fun c1 => ?_)
    · replace hr := (if_pos c1).symm.trans hr
      refine Ev.aloadN (d0 95 rfl) rfl ?_
      refine Ev.gAr V (ww hw 14 rfl) (d0 96 rfl) (j := 2) rfl ?_
      refine Ev.iload (d0 97 rfl) rfl ?_
      refine Ev.iconst (z := -1) (d0 98 rfl) rfl ?_
      obtain ⟨b2, hr⟩ := grd_some hr
      refine Ev.ias V (j := 2) rfl rfl (d0 99 rfl) b2 ?_
      revert hr
      generalize setA s 2 (ix x5) (-1 : Int32) = s3
      intro hr
      replace hr := (bnd_eq _ _).symm.trans hr
      refine Ev.aloadN (d0 100 rfl) rfl ?_
      refine Ev.gAr V (ww hw 12 rfl) (d0 101 rfl) (j := 1) rfl ?_
      refine Ev.iload (d0 102 rfl) rfl ?_
      refine Ev.iconst (z := -1) (d0 103 rfl) rfl ?_
      refine Ev.ias V (j := 1) rfl rfl (d0 104 rfl) b2 ?_
      revert hr
      generalize setA s3 1 (ix x5) (-1 : Int32) = s4
      intro hr
      replace hr := (bnd_eq _ _).symm.trans hr
      refine Ev.iinc (z := 1) (L' := [.val (.ref o), y1, y2, y3, y4, .val (.int (x5 + (1 : Int32)))]) (d0 105 rfl) rfl rfl rfl ?_
      refine Ev.goto (t := 170) (d0 106 rfl) rfl ?_
      exact ih (x5 + (1 : Int32)) s4 y1 hy1 y2 hy2 y3 hy3 y4 hy4 _ hr
    · replace hr := (if_neg c1).symm.trans hr
      cases hr
      exact Ev.vreturn rfl (d0 107 rfl)
def f_ctor_118 (n : Nat) (x1 : Int32) (x2 : Int32) (x3 : Int32) (x4 : Int32) (s : St) : Option (St) :=
  (f_clamp s x1 (4 : Int32) (32 : Int32)).bind fun q1 =>
  bnd (setI s 15 q1) fun s3 =>
  (f_clamp s3 x2 (1 : Int32) (64 : Int32)).bind fun q4 =>
  bnd (setI s3 16 q4) fun s6 =>
  (f_clamp s6 x3 (1 : Int32) (8 : Int32)).bind fun q7 =>
  bnd (setI s6 17 q7) fun s9 =>
  (f_clamp s9 x4 (1 : Int32) (16 : Int32)).bind fun q10 =>
  bnd (setI s9 18 q10) fun s12 =>
  f_ctor_170 n n (0 : Int32) s12
set_option maxRecDepth 100000 in
theorem e_ctor_118 {g : GT} {n : Nat} (hw : HW g) {K : St → MHeap} {o : Nat} {r : Nat → Nat} (V : View (GG g) Ln K o r) (x1 : Int32) (x2 : Int32) (x3 : Int32) (x4 : Int32) (s : St) (y5 : Slot) (hy5 : one1 y5 = true) (w : St) (hr : f_ctor_118 n x1 x2 x3 x4 s = some w) : Ev (GG g) M_ctor 118 [.val (.ref o), .val (.int x1), .val (.int x2), .val (.int x3), .val (.int x4), y5] [] (K s) (none, (K w)) := by
  unfold f_ctor_118 at hr
  refine Ev.aloadN (d0 62 rfl) rfl ?_
  refine Ev.aloadN (d0 63 rfl) rfl ?_
  refine Ev.iloadN (d0 64 rfl) rfl ?_
  refine Ev.iconst (z := 4) (d0 65 rfl) rfl ?_
  refine Ev.bipush (z := 32) (d0 66 rfl) rfl ?_
  obtain ⟨q1, hq2, hr⟩ := Option.bind_eq_some_iff.mp hr
  refine Ev.priv (y := M_clamp) (args := [.int x1, .int (4 : Int32), .int (32 : Int32)]) (rest := [.ref o]) (gok hw) rfl nm_clamp (ww hw 41 rfl) (ww hw 42 rfl) (ww hw 43 rfl) (ww hw 44 rfl) (lenOf pd_clamp rfl) (d0 67 rfl) (V.2.1 s) (e_clamp hw V hq2) (by decide) (Nat.le_of_ble_eq_true rfl) rfl ?_
  refine Ev.pI V (gok hw) (ww hw 45 rfl) (Or.inl (ww hw 46 rfl)) (d0 68 rfl) (j := 15) rfl ?_
  revert hr
  generalize setI s 15 q1 = s3
  intro hr
  replace hr := (bnd_eq _ _).symm.trans hr
  refine Ev.aloadN (d0 69 rfl) rfl ?_
  refine Ev.aloadN (d0 70 rfl) rfl ?_
  refine Ev.iloadN (d0 71 rfl) rfl ?_
  refine Ev.iconst (z := 1) (d0 72 rfl) rfl ?_
  refine Ev.bipush (z := 64) (d0 73 rfl) rfl ?_
  obtain ⟨q4, hq5, hr⟩ := Option.bind_eq_some_iff.mp hr
  refine Ev.priv (y := M_clamp) (args := [.int x2, .int (1 : Int32), .int (64 : Int32)]) (rest := [.ref o]) (gok hw) rfl nm_clamp (ww hw 41 rfl) (ww hw 42 rfl) (ww hw 43 rfl) (ww hw 44 rfl) (lenOf pd_clamp rfl) (d0 74 rfl) (V.2.1 s3) (e_clamp hw V hq5) (by decide) (Nat.le_of_ble_eq_true rfl) rfl ?_
  refine Ev.pI V (gok hw) (ww hw 47 rfl) (Or.inl (ww hw 48 rfl)) (d0 75 rfl) (j := 16) rfl ?_
  revert hr
  generalize setI s3 16 q4 = s6
  intro hr
  replace hr := (bnd_eq _ _).symm.trans hr
  refine Ev.aloadN (d0 76 rfl) rfl ?_
  refine Ev.aloadN (d0 77 rfl) rfl ?_
  refine Ev.iloadN (d0 78 rfl) rfl ?_
  refine Ev.iconst (z := 1) (d0 79 rfl) rfl ?_
  refine Ev.bipush (z := 8) (d0 80 rfl) rfl ?_
  obtain ⟨q7, hq8, hr⟩ := Option.bind_eq_some_iff.mp hr
  refine Ev.priv (y := M_clamp) (args := [.int x3, .int (1 : Int32), .int (8 : Int32)]) (rest := [.ref o]) (gok hw) rfl nm_clamp (ww hw 41 rfl) (ww hw 42 rfl) (ww hw 43 rfl) (ww hw 44 rfl) (lenOf pd_clamp rfl) (d0 81 rfl) (V.2.1 s6) (e_clamp hw V hq8) (by decide) (Nat.le_of_ble_eq_true rfl) rfl ?_
  refine Ev.pI V (gok hw) (ww hw 49 rfl) (Or.inl (ww hw 50 rfl)) (d0 82 rfl) (j := 17) rfl ?_
  revert hr
  generalize setI s6 17 q7 = s9
  intro hr
  replace hr := (bnd_eq _ _).symm.trans hr
  refine Ev.aloadN (d0 83 rfl) rfl ?_
  refine Ev.aloadN (d0 84 rfl) rfl ?_
  refine Ev.iload (d0 85 rfl) rfl ?_
  refine Ev.iconst (z := 1) (d0 86 rfl) rfl ?_
  refine Ev.bipush (z := 16) (d0 87 rfl) rfl ?_
  obtain ⟨q10, hq11, hr⟩ := Option.bind_eq_some_iff.mp hr
  refine Ev.priv (y := M_clamp) (args := [.int x4, .int (1 : Int32), .int (16 : Int32)]) (rest := [.ref o]) (gok hw) rfl nm_clamp (ww hw 41 rfl) (ww hw 42 rfl) (ww hw 43 rfl) (ww hw 44 rfl) (lenOf pd_clamp rfl) (d0 88 rfl) (V.2.1 s9) (e_clamp hw V hq11) (by decide) (Nat.le_of_ble_eq_true rfl) rfl ?_
  refine Ev.pI V (gok hw) (ww hw 51 rfl) (Or.inl (ww hw 52 rfl)) (d0 89 rfl) (j := 18) rfl ?_
  revert hr
  generalize setI s9 18 q10 = s12
  intro hr
  replace hr := (bnd_eq _ _).symm.trans hr
  refine Ev.iconst (z := 0) (d0 90 rfl) rfl ?_
  refine Ev.istD (L' := [.val (.ref o), .val (.int x1), .val (.int x2), .val (.int x3), .val (.int x4), .val (.int (0 : Int32))]) (d0 91 rfl) rfl hy5 rfl ?_
  exact e_ctor_170 hw V  n (0 : Int32) s12 (.val (.int x1)) rfl (.val (.int x2)) rfl (.val (.int x3)) rfl (.val (.int x4)) rfl _ hr
def f_ctor (n : Nat) (a0 : Int32) (a1 : Int32) (a2 : Int32) (a3 : Int32) : Option (St) :=
  f_ctor_118 n a0 a1 a2 a3 zeroS
set_option maxRecDepth 100000 in
theorem e_ctor {g : GT} {n : Nat} {a0 : Int32} {a1 : Int32} {a2 : Int32} {a3 : Int32} {w : St} (hw : HW g) {pre : MHeap} (hk : k0 (GG g) ≤ pre.length) (hr : f_ctor n a0 a1 a2 a3 = some w) : EvC (GG g) M_ctor [.ref pre.length, .int a0, .int a1, .int a2, .int a3] (pre ++ [.inl dfl]) (none, KH flds al Ln pre [] w) := by
  refine EvC.enter (L0 := [.val (.ref pre.length), .val (.int a0), .val (.int a1), .val (.int a2), .val (.int a3), .unset]) pl_ctor (fun _ => rfl) rfl rfl ?_
  unfold f_ctor at hr
  refine Ev.aloadN (d0 0 rfl) rfl ?_
  refine Ev.initO (ww hw 6 rfl) (ww hw 7 rfl) (ww hw 8 rfl) (d0 1 rfl) (by decide) (Nat.le_of_ble_eq_true rfl) ?_
  show Ev (GG g) M_ctor 4 _ _ (cons pre dfl []) _
  refine Ev.aloadN (d0 2 rfl) rfl ?_
  refine Ev.bipush (z := 32) (d0 3 rfl) rfl ?_
  refine Ev.cnew (aty := .int) (b := false) (k := 32) (q := 0) (as' := [(false, tab 32 (fun _ => 0))]) (ww hw 9 rfl) rfl (d0 4 rfl) (by decide) rfl (by decide) rfl rfl ?_
  refine Ev.cput (v' := .ref (pre.length + 1 + 0)) (fs' := [.ref (pre.length + 1 + 0), .null, .null, .null, .null, .null, .null, .null, .null, .null, .null, .null, .null, .null, .null, .int 0, .int 0, .int 0, .int 0, .int 0, .int 0, .int 0, .int 0]) (gok hw) hk (ww hw 10 rfl) (Or.inl (ww hw 11 rfl)) (d0 5 rfl) (j := 0) rfl rfl rfl ?_
  refine Ev.aloadN (d0 6 rfl) rfl ?_
  refine Ev.bipush (z := 32) (d0 7 rfl) rfl ?_
  refine Ev.cnew (aty := .int) (b := false) (k := 32) (q := 1) (as' := [(false, tab 32 (fun _ => 0)), (false, tab 32 (fun _ => 0))]) (ww hw 9 rfl) rfl (d0 8 rfl) (by decide) rfl (by decide) rfl rfl ?_
  refine Ev.cput (v' := .ref (pre.length + 1 + 1)) (fs' := [.ref (pre.length + 1 + 0), .ref (pre.length + 1 + 1), .null, .null, .null, .null, .null, .null, .null, .null, .null, .null, .null, .null, .null, .int 0, .int 0, .int 0, .int 0, .int 0, .int 0, .int 0, .int 0]) (gok hw) hk (ww hw 12 rfl) (Or.inl (ww hw 13 rfl)) (d0 9 rfl) (j := 1) rfl rfl rfl ?_
  refine Ev.aloadN (d0 10 rfl) rfl ?_
  refine Ev.bipush (z := 32) (d0 11 rfl) rfl ?_
  refine Ev.cnew (aty := .int) (b := false) (k := 32) (q := 2) (as' := [(false, tab 32 (fun _ => 0)), (false, tab 32 (fun _ => 0)), (false, tab 32 (fun _ => 0))]) (ww hw 9 rfl) rfl (d0 12 rfl) (by decide) rfl (by decide) rfl rfl ?_
  refine Ev.cput (v' := .ref (pre.length + 1 + 2)) (fs' := [.ref (pre.length + 1 + 0), .ref (pre.length + 1 + 1), .ref (pre.length + 1 + 2), .null, .null, .null, .null, .null, .null, .null, .null, .null, .null, .null, .null, .int 0, .int 0, .int 0, .int 0, .int 0, .int 0, .int 0, .int 0]) (gok hw) hk (ww hw 14 rfl) (Or.inl (ww hw 15 rfl)) (d0 13 rfl) (j := 2) rfl rfl rfl ?_
  refine Ev.aloadN (d0 14 rfl) rfl ?_
  refine Ev.bipush (z := 32) (d0 15 rfl) rfl ?_
  refine Ev.cnew (aty := .int) (b := false) (k := 32) (q := 3) (as' := [(false, tab 32 (fun _ => 0)), (false, tab 32 (fun _ => 0)), (false, tab 32 (fun _ => 0)), (false, tab 32 (fun _ => 0))]) (ww hw 9 rfl) rfl (d0 16 rfl) (by decide) rfl (by decide) rfl rfl ?_
  refine Ev.cput (v' := .ref (pre.length + 1 + 3)) (fs' := [.ref (pre.length + 1 + 0), .ref (pre.length + 1 + 1), .ref (pre.length + 1 + 2), .ref (pre.length + 1 + 3), .null, .null, .null, .null, .null, .null, .null, .null, .null, .null, .null, .int 0, .int 0, .int 0, .int 0, .int 0, .int 0, .int 0, .int 0]) (gok hw) hk (ww hw 16 rfl) (Or.inl (ww hw 17 rfl)) (d0 17 rfl) (j := 3) rfl rfl rfl ?_
  refine Ev.aloadN (d0 18 rfl) rfl ?_
  refine Ev.bipush (z := 32) (d0 19 rfl) rfl ?_
  refine Ev.cnew (aty := .int) (b := false) (k := 32) (q := 4) (as' := [(false, tab 32 (fun _ => 0)), (false, tab 32 (fun _ => 0)), (false, tab 32 (fun _ => 0)), (false, tab 32 (fun _ => 0)), (false, tab 32 (fun _ => 0))]) (ww hw 9 rfl) rfl (d0 20 rfl) (by decide) rfl (by decide) rfl rfl ?_
  refine Ev.cput (v' := .ref (pre.length + 1 + 4)) (fs' := [.ref (pre.length + 1 + 0), .ref (pre.length + 1 + 1), .ref (pre.length + 1 + 2), .ref (pre.length + 1 + 3), .ref (pre.length + 1 + 4), .null, .null, .null, .null, .null, .null, .null, .null, .null, .null, .int 0, .int 0, .int 0, .int 0, .int 0, .int 0, .int 0, .int 0]) (gok hw) hk (ww hw 18 rfl) (Or.inl (ww hw 19 rfl)) (d0 21 rfl) (j := 4) rfl rfl rfl ?_
  refine Ev.aloadN (d0 22 rfl) rfl ?_
  refine Ev.bipush (z := 32) (d0 23 rfl) rfl ?_
  refine Ev.cnew (aty := .int) (b := false) (k := 32) (q := 5) (as' := [(false, tab 32 (fun _ => 0)), (false, tab 32 (fun _ => 0)), (false, tab 32 (fun _ => 0)), (false, tab 32 (fun _ => 0)), (false, tab 32 (fun _ => 0)), (false, tab 32 (fun _ => 0))]) (ww hw 9 rfl) rfl (d0 24 rfl) (by decide) rfl (by decide) rfl rfl ?_
  refine Ev.cput (v' := .ref (pre.length + 1 + 5)) (fs' := [.ref (pre.length + 1 + 0), .ref (pre.length + 1 + 1), .ref (pre.length + 1 + 2), .ref (pre.length + 1 + 3), .ref (pre.length + 1 + 4), .ref (pre.length + 1 + 5), .null, .null, .null, .null, .null, .null, .null, .null, .null, .int 0, .int 0, .int 0, .int 0, .int 0, .int 0, .int 0, .int 0]) (gok hw) hk (ww hw 20 rfl) (Or.inl (ww hw 21 rfl)) (d0 25 rfl) (j := 5) rfl rfl rfl ?_
  refine Ev.aloadN (d0 26 rfl) rfl ?_
  refine Ev.bipush (z := 32) (d0 27 rfl) rfl ?_
  refine Ev.cnew (aty := .int) (b := false) (k := 32) (q := 6) (as' := [(false, tab 32 (fun _ => 0)), (false, tab 32 (fun _ => 0)), (false, tab 32 (fun _ => 0)), (false, tab 32 (fun _ => 0)), (false, tab 32 (fun _ => 0)), (false, tab 32 (fun _ => 0)), (false, tab 32 (fun _ => 0))]) (ww hw 9 rfl) rfl (d0 28 rfl) (by decide) rfl (by decide) rfl rfl ?_
  refine Ev.cput (v' := .ref (pre.length + 1 + 6)) (fs' := [.ref (pre.length + 1 + 0), .ref (pre.length + 1 + 1), .ref (pre.length + 1 + 2), .ref (pre.length + 1 + 3), .ref (pre.length + 1 + 4), .ref (pre.length + 1 + 5), .ref (pre.length + 1 + 6), .null, .null, .null, .null, .null, .null, .null, .null, .int 0, .int 0, .int 0, .int 0, .int 0, .int 0, .int 0, .int 0]) (gok hw) hk (ww hw 22 rfl) (Or.inl (ww hw 23 rfl)) (d0 29 rfl) (j := 6) rfl rfl rfl ?_
  refine Ev.aloadN (d0 30 rfl) rfl ?_
  refine Ev.bipush (z := 32) (d0 31 rfl) rfl ?_
  refine Ev.cnew (aty := .int) (b := false) (k := 32) (q := 7) (as' := [(false, tab 32 (fun _ => 0)), (false, tab 32 (fun _ => 0)), (false, tab 32 (fun _ => 0)), (false, tab 32 (fun _ => 0)), (false, tab 32 (fun _ => 0)), (false, tab 32 (fun _ => 0)), (false, tab 32 (fun _ => 0)), (false, tab 32 (fun _ => 0))]) (ww hw 9 rfl) rfl (d0 32 rfl) (by decide) rfl (by decide) rfl rfl ?_
  refine Ev.cput (v' := .ref (pre.length + 1 + 7)) (fs' := [.ref (pre.length + 1 + 0), .ref (pre.length + 1 + 1), .ref (pre.length + 1 + 2), .ref (pre.length + 1 + 3), .ref (pre.length + 1 + 4), .ref (pre.length + 1 + 5), .ref (pre.length + 1 + 6), .ref (pre.length + 1 + 7), .null, .null, .null, .null, .null, .null, .null, .int 0, .int 0, .int 0, .int 0, .int 0, .int 0, .int 0, .int 0]) (gok hw) hk (ww hw 24 rfl) (Or.inl (ww hw 25 rfl)) (d0 33 rfl) (j := 7) rfl rfl rfl ?_
  refine Ev.aloadN (d0 34 rfl) rfl ?_
  refine Ev.bipush (z := 32) (d0 35 rfl) rfl ?_
  refine Ev.cnew (aty := .int) (b := false) (k := 32) (q := 8) (as' := [(false, tab 32 (fun _ => 0)), (false, tab 32 (fun _ => 0)), (false, tab 32 (fun _ => 0)), (false, tab 32 (fun _ => 0)), (false, tab 32 (fun _ => 0)), (false, tab 32 (fun _ => 0)), (false, tab 32 (fun _ => 0)), (false, tab 32 (fun _ => 0)), (false, tab 32 (fun _ => 0))]) (ww hw 9 rfl) rfl (d0 36 rfl) (by decide) rfl (by decide) rfl rfl ?_
  refine Ev.cput (v' := .ref (pre.length + 1 + 8)) (fs' := [.ref (pre.length + 1 + 0), .ref (pre.length + 1 + 1), .ref (pre.length + 1 + 2), .ref (pre.length + 1 + 3), .ref (pre.length + 1 + 4), .ref (pre.length + 1 + 5), .ref (pre.length + 1 + 6), .ref (pre.length + 1 + 7), .ref (pre.length + 1 + 8), .null, .null, .null, .null, .null, .null, .int 0, .int 0, .int 0, .int 0, .int 0, .int 0, .int 0, .int 0]) (gok hw) hk (ww hw 26 rfl) (Or.inl (ww hw 27 rfl)) (d0 37 rfl) (j := 8) rfl rfl rfl ?_
  refine Ev.aloadN (d0 38 rfl) rfl ?_
  refine Ev.iconst (z := 4) (d0 39 rfl) rfl ?_
  refine Ev.cnew (aty := .boolean) (b := true) (k := 4) (q := 9) (as' := [(false, tab 32 (fun _ => 0)), (false, tab 32 (fun _ => 0)), (false, tab 32 (fun _ => 0)), (false, tab 32 (fun _ => 0)), (false, tab 32 (fun _ => 0)), (false, tab 32 (fun _ => 0)), (false, tab 32 (fun _ => 0)), (false, tab 32 (fun _ => 0)), (false, tab 32 (fun _ => 0)), (true, tab 4 (fun _ => 0))]) (ww hw 28 rfl) rfl (d0 40 rfl) (by decide) rfl (by decide) rfl rfl ?_
  refine Ev.cput (v' := .ref (pre.length + 1 + 9)) (fs' := [.ref (pre.length + 1 + 0), .ref (pre.length + 1 + 1), .ref (pre.length + 1 + 2), .ref (pre.length + 1 + 3), .ref (pre.length + 1 + 4), .ref (pre.length + 1 + 5), .ref (pre.length + 1 + 6), .ref (pre.length + 1 + 7), .ref (pre.length + 1 + 8), .ref (pre.length + 1 + 9), .null, .null, .null, .null, .null, .int 0, .int 0, .int 0, .int 0, .int 0, .int 0, .int 0, .int 0]) (gok hw) hk (ww hw 29 rfl) (Or.inl (ww hw 30 rfl)) (d0 41 rfl) (j := 9) rfl rfl rfl ?_
  refine Ev.aloadN (d0 42 rfl) rfl ?_
  refine Ev.iconst (z := 4) (d0 43 rfl) rfl ?_
  refine Ev.cnew (aty := .int) (b := false) (k := 4) (q := 10) (as' := [(false, tab 32 (fun _ => 0)), (false, tab 32 (fun _ => 0)), (false, tab 32 (fun _ => 0)), (false, tab 32 (fun _ => 0)), (false, tab 32 (fun _ => 0)), (false, tab 32 (fun _ => 0)), (false, tab 32 (fun _ => 0)), (false, tab 32 (fun _ => 0)), (false, tab 32 (fun _ => 0)), (true, tab 4 (fun _ => 0)), (false, tab 4 (fun _ => 0))]) (ww hw 9 rfl) rfl (d0 44 rfl) (by decide) rfl (by decide) rfl rfl ?_
  refine Ev.cput (v' := .ref (pre.length + 1 + 10)) (fs' := [.ref (pre.length + 1 + 0), .ref (pre.length + 1 + 1), .ref (pre.length + 1 + 2), .ref (pre.length + 1 + 3), .ref (pre.length + 1 + 4), .ref (pre.length + 1 + 5), .ref (pre.length + 1 + 6), .ref (pre.length + 1 + 7), .ref (pre.length + 1 + 8), .ref (pre.length + 1 + 9), .ref (pre.length + 1 + 10), .null, .null, .null, .null, .int 0, .int 0, .int 0, .int 0, .int 0, .int 0, .int 0, .int 0]) (gok hw) hk (ww hw 31 rfl) (Or.inl (ww hw 32 rfl)) (d0 45 rfl) (j := 10) rfl rfl rfl ?_
  refine Ev.aloadN (d0 46 rfl) rfl ?_
  refine Ev.iconst (z := 4) (d0 47 rfl) rfl ?_
  refine Ev.cnew (aty := .int) (b := false) (k := 4) (q := 11) (as' := [(false, tab 32 (fun _ => 0)), (false, tab 32 (fun _ => 0)), (false, tab 32 (fun _ => 0)), (false, tab 32 (fun _ => 0)), (false, tab 32 (fun _ => 0)), (false, tab 32 (fun _ => 0)), (false, tab 32 (fun _ => 0)), (false, tab 32 (fun _ => 0)), (false, tab 32 (fun _ => 0)), (true, tab 4 (fun _ => 0)), (false, tab 4 (fun _ => 0)), (false, tab 4 (fun _ => 0))]) (ww hw 9 rfl) rfl (d0 48 rfl) (by decide) rfl (by decide) rfl rfl ?_
  refine Ev.cput (v' := .ref (pre.length + 1 + 11)) (fs' := [.ref (pre.length + 1 + 0), .ref (pre.length + 1 + 1), .ref (pre.length + 1 + 2), .ref (pre.length + 1 + 3), .ref (pre.length + 1 + 4), .ref (pre.length + 1 + 5), .ref (pre.length + 1 + 6), .ref (pre.length + 1 + 7), .ref (pre.length + 1 + 8), .ref (pre.length + 1 + 9), .ref (pre.length + 1 + 10), .ref (pre.length + 1 + 11), .null, .null, .null, .int 0, .int 0, .int 0, .int 0, .int 0, .int 0, .int 0, .int 0]) (gok hw) hk (ww hw 33 rfl) (Or.inl (ww hw 34 rfl)) (d0 49 rfl) (j := 11) rfl rfl rfl ?_
  refine Ev.aloadN (d0 50 rfl) rfl ?_
  refine Ev.iconst (z := 4) (d0 51 rfl) rfl ?_
  refine Ev.cnew (aty := .int) (b := false) (k := 4) (q := 12) (as' := [(false, tab 32 (fun _ => 0)), (false, tab 32 (fun _ => 0)), (false, tab 32 (fun _ => 0)), (false, tab 32 (fun _ => 0)), (false, tab 32 (fun _ => 0)), (false, tab 32 (fun _ => 0)), (false, tab 32 (fun _ => 0)), (false, tab 32 (fun _ => 0)), (false, tab 32 (fun _ => 0)), (true, tab 4 (fun _ => 0)), (false, tab 4 (fun _ => 0)), (false, tab 4 (fun _ => 0)), (false, tab 4 (fun _ => 0))]) (ww hw 9 rfl) rfl (d0 52 rfl) (by decide) rfl (by decide) rfl rfl ?_
  refine Ev.cput (v' := .ref (pre.length + 1 + 12)) (fs' := [.ref (pre.length + 1 + 0), .ref (pre.length + 1 + 1), .ref (pre.length + 1 + 2), .ref (pre.length + 1 + 3), .ref (pre.length + 1 + 4), .ref (pre.length + 1 + 5), .ref (pre.length + 1 + 6), .ref (pre.length + 1 + 7), .ref (pre.length + 1 + 8), .ref (pre.length + 1 + 9), .ref (pre.length + 1 + 10), .ref (pre.length + 1 + 11), .ref (pre.length + 1 + 12), .null, .null, .int 0, .int 0, .int 0, .int 0, .int 0, .int 0, .int 0, .int 0]) (gok hw) hk (ww hw 35 rfl) (Or.inl (ww hw 36 rfl)) (d0 53 rfl) (j := 12) rfl rfl rfl ?_
  refine Ev.aloadN (d0 54 rfl) rfl ?_
  refine Ev.iconst (z := 4) (d0 55 rfl) rfl ?_
  refine Ev.cnew (aty := .int) (b := false) (k := 4) (q := 13) (as' := [(false, tab 32 (fun _ => 0)), (false, tab 32 (fun _ => 0)), (false, tab 32 (fun _ => 0)), (false, tab 32 (fun _ => 0)), (false, tab 32 (fun _ => 0)), (false, tab 32 (fun _ => 0)), (false, tab 32 (fun _ => 0)), (false, tab 32 (fun _ => 0)), (false, tab 32 (fun _ => 0)), (true, tab 4 (fun _ => 0)), (false, tab 4 (fun _ => 0)), (false, tab 4 (fun _ => 0)), (false, tab 4 (fun _ => 0)), (false, tab 4 (fun _ => 0))]) (ww hw 9 rfl) rfl (d0 56 rfl) (by decide) rfl (by decide) rfl rfl ?_
  refine Ev.cput (v' := .ref (pre.length + 1 + 13)) (fs' := [.ref (pre.length + 1 + 0), .ref (pre.length + 1 + 1), .ref (pre.length + 1 + 2), .ref (pre.length + 1 + 3), .ref (pre.length + 1 + 4), .ref (pre.length + 1 + 5), .ref (pre.length + 1 + 6), .ref (pre.length + 1 + 7), .ref (pre.length + 1 + 8), .ref (pre.length + 1 + 9), .ref (pre.length + 1 + 10), .ref (pre.length + 1 + 11), .ref (pre.length + 1 + 12), .ref (pre.length + 1 + 13), .null, .int 0, .int 0, .int 0, .int 0, .int 0, .int 0, .int 0, .int 0]) (gok hw) hk (ww hw 37 rfl) (Or.inl (ww hw 38 rfl)) (d0 57 rfl) (j := 13) rfl rfl rfl ?_
  refine Ev.aloadN (d0 58 rfl) rfl ?_
  refine Ev.iconst (z := 4) (d0 59 rfl) rfl ?_
  refine Ev.cnew (aty := .int) (b := false) (k := 4) (q := 14) (as' := [(false, tab 32 (fun _ => 0)), (false, tab 32 (fun _ => 0)), (false, tab 32 (fun _ => 0)), (false, tab 32 (fun _ => 0)), (false, tab 32 (fun _ => 0)), (false, tab 32 (fun _ => 0)), (false, tab 32 (fun _ => 0)), (false, tab 32 (fun _ => 0)), (false, tab 32 (fun _ => 0)), (true, tab 4 (fun _ => 0)), (false, tab 4 (fun _ => 0)), (false, tab 4 (fun _ => 0)), (false, tab 4 (fun _ => 0)), (false, tab 4 (fun _ => 0)), (false, tab 4 (fun _ => 0))]) (ww hw 9 rfl) rfl (d0 60 rfl) (by decide) rfl (by decide) rfl rfl ?_
  refine Ev.cput (v' := .ref (pre.length + 1 + 14)) (fs' := [.ref (pre.length + 1 + 0), .ref (pre.length + 1 + 1), .ref (pre.length + 1 + 2), .ref (pre.length + 1 + 3), .ref (pre.length + 1 + 4), .ref (pre.length + 1 + 5), .ref (pre.length + 1 + 6), .ref (pre.length + 1 + 7), .ref (pre.length + 1 + 8), .ref (pre.length + 1 + 9), .ref (pre.length + 1 + 10), .ref (pre.length + 1 + 11), .ref (pre.length + 1 + 12), .ref (pre.length + 1 + 13), .ref (pre.length + 1 + 14), .int 0, .int 0, .int 0, .int 0, .int 0, .int 0, .int 0, .int 0]) (gok hw) hk (ww hw 39 rfl) (Or.inl (ww hw 40 rfl)) (d0 61 rfl) (j := 14) rfl rfl rfl ?_
  show Ev (GG g) M_ctor 118 [.val (.ref pre.length), .val (.int a0), .val (.int a1), .val (.int a2), .val (.int a3), .unset] [] (KH flds al Ln pre [] zeroS) _
  exact e_ctor_118 hw (K := KH flds al Ln pre []) (o := pre.length) (r := rA pre.length al) (view_of hk al_ok al_nd) a0 a1 a2 a3 zeroS .unset rfl _ hr
def f_completeWriteBacks_4 (n : Nat) : Nat → Int32 → Int32 → St → Option (Int32 × St)
  | 0 => fun _ _ _ => none
  | k + 1 => fun x1 x2 s =>
    if x2 < (s.1 15) then
      grd (inb x2 32) <|
      if (s.2 2 (ix x2)) < 0 then
        f_completeWriteBacks_4 n k x1 (x2 + (1 : Int32)) s
      else
        if (3 : Int32) < (s.2 2 (ix x2)) then
          f_completeWriteBacks_4 n k x1 (x2 + (1 : Int32)) s
        else
          if (s.2 8 (ix x2)) = 0 then
            f_completeWriteBacks_4 n k x1 (x2 + (1 : Int32)) s
          else
            if (s.1 19) < (s.2 8 (ix x2)) then
              f_completeWriteBacks_4 n k x1 (x2 + (1 : Int32)) s
            else
              grd (inb (((s.2 2 (ix x2)) * (8 : Int32)) + ((s.2 3 (ix x2)) &&& (7 : Int32))) 32) <|
              bnd (setA s 0 (ix (((s.2 2 (ix x2)) * (8 : Int32)) + ((s.2 3 (ix x2)) &&& (7 : Int32)))) (s.2 4 (ix x2))) fun s8 =>
              bnd (setA s8 5 (ix x2) (0 : Int32)) fun s9 =>
              bnd (setA s9 8 (ix x2) (0 : Int32)) fun s10 =>
              f_completeWriteBacks_4 n k (x1 + (1 : Int32)) (x2 + (1 : Int32)) s10
    else
      some (x1, s)
set_option maxRecDepth 100000 in
theorem e_completeWriteBacks_4 {g : GT} {n : Nat} (hw : HW g) {K : St → MHeap} {o : Nat} {r : Nat → Nat} (V : View (GG g) Ln K o r) (k : Nat) : ∀ (x1 : Int32) (x2 : Int32) (s : St) (y3 : Slot) (hy3 : one1 y3 = true) (w : Int32 × St), f_completeWriteBacks_4 n k x1 x2 s = some w → Ev (GG g) M_completeWriteBacks 4 [.val (.ref o), .val (.int x1), .val (.int x2), y3] [] (K s) ((some (.int w.1)), (K w.2)) := by
  induction k with
  | zero => intro x1 x2 s y3 hy3 w hr; rw [f_completeWriteBacks_4] at hr; cases hr
  | succ k ih =>
    intro x1 x2 s y3 hy3 w hr
    rw [f_completeWriteBacks_4] at hr
    refine Ev.iloadN (d5 4 rfl) rfl ?_
    refine Ev.aloadN (d5 5 rfl) rfl ?_
    refine Ev.gI V (ww hw 45 rfl) (d5 6 rfl) (j := 15) rfl rfl ?_
    refine Ev.icge (t := 101) (d5 7 rfl) rfl (fun c1 => ?_) (fun c1 => ?_)
    · replace hr := (if_pos c1).symm.trans hr
      refine Ev.aloadN (d5 8 rfl) rfl ?_
      refine Ev.gAr V (ww hw 14 rfl) (d5 9 rfl) (j := 2) rfl ?_
      refine Ev.iloadN (d5 10 rfl) rfl ?_
      obtain ⟨b2, hr⟩ := grd_some hr
      refine Ev.ial V (j := 2) rfl rfl (d5 11 rfl) b2 ?_
      refine Ev.istDN (L' := [.val (.ref o), .val (.int x1), .val (.int x2), .val (.int (s.2 2 (ix x2)))]) (d5 12 rfl) rfl hy3 rfl ?_
      refine Ev.iloadN (d5 13 rfl) rfl ?_
      refine Ev.iflt (t := 95) (d5 14 rfl) rfl (fun c3 => ?_) (fun c3 => ?_)
      · replace hr := (if_pos c3).symm.trans hr
        refine Ev.iinc (z := 1) (L' := [.val (.ref o), .val (.int x1), .val (.int (x2 + (1 : Int32))), .val (.int (s.2 2 (ix x2)))]) (d5 59 rfl) rfl rfl rfl ?_
        refine Ev.goto (t := 4) (d5 60 rfl) rfl ?_
        exact ih x1 (x2 + (1 : Int32)) s (.val (.int (s.2 2 (ix x2)))) rfl _ hr
      · replace hr := (if_neg c3).symm.trans hr
        refine Ev.iloadN (d5 15 rfl) rfl ?_
        refine Ev.iconst (z := 3) (d5 16 rfl) rfl ?_
        refine Ev.icle (t := 31) (d5 17 rfl) rfl (fun c4 => ?_) (fun c4 => ?_)
        · replace hr := (if_pos c4).symm.trans hr
          refine Ev.goto (t := 95) (d5 18 rfl) rfl ?_
          refine Ev.iinc (z := 1) (L' := [.val (.ref o), .val (.int x1), .val (.int (x2 + (1 : Int32))), .val (.int (s.2 2 (ix x2)))]) (d5 59 rfl) rfl rfl rfl ?_
          refine Ev.goto (t := 4) (d5 60 rfl) rfl ?_
          exact ih x1 (x2 + (1 : Int32)) s (.val (.int (s.2 2 (ix x2)))) rfl _ hr
        · replace hr := (if_neg c4).symm.trans hr
          refine Ev.aloadN (d5 19 rfl) rfl ?_
          refine Ev.gAr V (ww hw 26 rfl) (d5 20 rfl) (j := 8) rfl ?_
          refine Ev.iloadN (d5 21 rfl) rfl ?_
          refine Ev.ial V (j := 8) rfl rfl (d5 22 rfl) b2 ?_
          refine Ev.ifeq (t := 95) (d5 23 rfl) rfl (fun c5 => ?_) (fun c5 => ?_)
          · replace hr := (if_pos c5).symm.trans hr
            refine Ev.iinc (z := 1) (L' := [.val (.ref o), .val (.int x1), .val (.int (x2 + (1 : Int32))), .val (.int (s.2 2 (ix x2)))]) (d5 59 rfl) rfl rfl rfl ?_
            refine Ev.goto (t := 4) (d5 60 rfl) rfl ?_
            exact ih x1 (x2 + (1 : Int32)) s (.val (.int (s.2 2 (ix x2)))) rfl _ hr
          · replace hr := (if_neg c5).symm.trans hr
            refine Ev.aloadN (d5 24 rfl) rfl ?_
            refine Ev.gAr V (ww hw 26 rfl) (d5 25 rfl) (j := 8) rfl ?_
            refine Ev.iloadN (d5 26 rfl) rfl ?_
            refine Ev.ial V (j := 8) rfl rfl (d5 27 rfl) b2 ?_
            refine Ev.aloadN (d5 28 rfl) rfl ?_
            refine Ev.gI V (ww hw 62 rfl) (d5 29 rfl) (j := 19) rfl rfl ?_
            refine Ev.icgt (t := 95) (d5 30 rfl) rfl (fun c6 => ?_) (fun c6 => ?_)
            · replace hr := (if_pos c6).symm.trans hr
              refine Ev.iinc (z := 1) (L' := [.val (.ref o), .val (.int x1), .val (.int (x2 + (1 : Int32))), .val (.int (s.2 2 (ix x2)))]) (d5 59 rfl) rfl rfl rfl ?_
              refine Ev.goto (t := 4) (d5 60 rfl) rfl ?_
              exact ih x1 (x2 + (1 : Int32)) s (.val (.int (s.2 2 (ix x2)))) rfl _ hr
            · replace hr := (if_neg c6).symm.trans hr
              refine Ev.aloadN (d5 31 rfl) rfl ?_
              refine Ev.gAr V (ww hw 10 rfl) (d5 32 rfl) (j := 0) rfl ?_
              refine Ev.iloadN (d5 33 rfl) rfl ?_
              refine Ev.bipush (z := 8) (d5 34 rfl) rfl ?_
              refine Ev.imul (d5 35 rfl) ?_
              refine Ev.aloadN (d5 36 rfl) rfl ?_
              refine Ev.gAr V (ww hw 16 rfl) (d5 37 rfl) (j := 3) rfl ?_
              refine Ev.iloadN (d5 38 rfl) rfl ?_
              refine Ev.ial V (j := 3) rfl rfl (d5 39 rfl) b2 ?_
              refine Ev.bipush (z := 7) (d5 40 rfl) rfl ?_
              refine Ev.iand (d5 41 rfl) ?_
              refine Ev.iadd (d5 42 rfl) ?_
              refine Ev.aloadN (d5 43 rfl) rfl ?_
              refine Ev.gAr V (ww hw 18 rfl) (d5 44 rfl) (j := 4) rfl ?_
              refine Ev.iloadN (d5 45 rfl) rfl ?_
              refine Ev.ial V (j := 4) rfl rfl (d5 46 rfl) b2 ?_
              obtain ⟨b7, hr⟩ := grd_some hr
              refine Ev.ias V (j := 0) rfl rfl (d5 47 rfl) b7 ?_
              revert hr
              generalize setA s 0 (ix (((s.2 2 (ix x2)) * (8 : Int32)) + ((s.2 3 (ix x2)) &&& (7 : Int32)))) (s.2 4 (ix x2)) = s8
              intro hr
              replace hr := (bnd_eq _ _).symm.trans hr
              refine Ev.aloadN (d5 48 rfl) rfl ?_
              refine Ev.gAr V (ww hw 20 rfl) (d5 49 rfl) (j := 5) rfl ?_
              refine Ev.iloadN (d5 50 rfl) rfl ?_
              refine Ev.iconst (z := 0) (d5 51 rfl) rfl ?_
              refine Ev.ias V (j := 5) rfl rfl (d5 52 rfl) b2 ?_
              revert hr
              generalize setA s8 5 (ix x2) (0 : Int32) = s9
              intro hr
              replace hr := (bnd_eq _ _).symm.trans hr
              refine Ev.aloadN (d5 53 rfl) rfl ?_
              refine Ev.gAr V (ww hw 26 rfl) (d5 54 rfl) (j := 8) rfl ?_
              refine Ev.iloadN (d5 55 rfl) rfl ?_
              refine Ev.iconst (z := 0) (d5 56 rfl) rfl ?_
              refine Ev.ias V (j := 8) rfl rfl (d5 57 rfl) b2 ?_
              revert hr
              generalize setA s9 8 (ix x2) (0 : Int32) = s10
              intro hr
              replace hr := (bnd_eq _ _).symm.trans hr
              refine Ev.iinc (z := 1) (L' := [.val (.ref o), .val (.int (x1 + (1 : Int32))), .val (.int x2), .val (.int (s.2 2 (ix x2)))]) (d5 58 rfl) rfl rfl rfl ?_
              refine Ev.iinc (z := 1) (L' := [.val (.ref o), .val (.int (x1 + (1 : Int32))), .val (.int (x2 + (1 : Int32))), .val (.int (s.2 2 (ix x2)))]) (d5 59 rfl) rfl rfl rfl ?_
              refine Ev.goto (t := 4) (d5 60 rfl) rfl ?_
              exact ih (x1 + (1 : Int32)) (x2 + (1 : Int32)) s10 (.val (.int (s.2 2 (ix x2)))) rfl _ hr
    · replace hr := (if_neg c1).symm.trans hr
      refine Ev.iloadN (d5 61 rfl) rfl ?_
      cases hr
      exact Ev.ireturn rfl (d5 62 rfl)
def f_completeWriteBacks (n : Nat) (s : St) : Option (Int32 × St) :=
  f_completeWriteBacks_4 n n (0 : Int32) (0 : Int32) s
set_option maxRecDepth 100000 in
theorem e_completeWriteBacks {g : GT} {n : Nat} {s : St} {w : Int32 × St} (hw : HW g) {K : St → MHeap} {o : Nat} {r : Nat → Nat} (V : View (GG g) Ln K o r) (hr : f_completeWriteBacks n s = some w) : EvC (GG g) M_completeWriteBacks [.ref o] (K s) ((some (.int w.1)), (K w.2)) := by
  refine EvC.enter (L0 := [.val (.ref o), .unset, .unset, .unset]) pl_completeWriteBacks (fun h => nomatch h) rfl rfl ?_
  unfold f_completeWriteBacks at hr
  refine Ev.iconst (z := 0) (d5 0 rfl) rfl ?_
  refine Ev.istDN (L' := [.val (.ref o), .val (.int (0 : Int32)), .unset, .unset]) (d5 1 rfl) rfl rfl rfl ?_
  refine Ev.iconst (z := 0) (d5 2 rfl) rfl ?_
  refine Ev.istDN (L' := [.val (.ref o), .val (.int (0 : Int32)), .val (.int (0 : Int32)), .unset]) (d5 3 rfl) rfl rfl rfl ?_
  exact e_completeWriteBacks_4 hw V  n (0 : Int32) (0 : Int32) s .unset rfl _ hr
def f_hit (a0 : Int32) (a1 : Int32) (a2 : Int32) (a3 : Int32) (s : St) : Option (St) :=
  grd (inb a1 4) <|
  bnd (setA s 10 (ix a1) ((s.2 10 (ix a1)) + (1 : Int32))) fun s2 =>
  bnd (setA s2 14 (ix a1) ((s2.2 14 (ix a1)) + (1 : Int32))) fun s3 =>
  grd (inb a0 32) <|
  bnd (setA s3 6 (ix a0) (1 : Int32)) fun s5 =>
  if a2 = 0 then
    some s5
  else
    bnd (setA s5 4 (ix a0) a3) fun s7 =>
    bnd (setA s7 5 (ix a0) (1 : Int32)) fun s8 =>
    bnd (setA s8 8 (ix a0) (0 : Int32)) fun s9 =>
    some s9
set_option maxRecDepth 100000 in
theorem e_hit {g : GT} {a0 : Int32} {a1 : Int32} {a2 : Int32} {a3 : Int32} {s : St} {w : St} (hw : HW g) {K : St → MHeap} {o : Nat} {r : Nat → Nat} (V : View (GG g) Ln K o r) (hr : f_hit a0 a1 a2 a3 s = some w) : EvC (GG g) M_hit [.ref o, .int a0, .int a1, .int a2, .int a3] (K s) (none, (K w)) := by
  refine EvC.enter (L0 := [.val (.ref o), .val (.int a0), .val (.int a1), .val (.int a2), .val (.int a3)]) pl_hit (fun _ => rfl) rfl rfl ?_
  unfold f_hit at hr
  refine Ev.aloadN (d11 0 rfl) rfl ?_
  refine Ev.gAr V (ww hw 31 rfl) (d11 1 rfl) (j := 10) rfl ?_
  refine Ev.iloadN (d11 2 rfl) rfl ?_
  refine Ev.dup2 (d11 3 rfl) rfl rfl ?_
  obtain ⟨b1, hr⟩ := grd_some hr
  refine Ev.ial V (j := 10) rfl rfl (d11 4 rfl) b1 ?_
  refine Ev.iconst (z := 1) (d11 5 rfl) rfl ?_
  refine Ev.iadd (d11 6 rfl) ?_
  refine Ev.ias V (j := 10) rfl rfl (d11 7 rfl) b1 ?_
  revert hr
  generalize setA s 10 (ix a1) ((s.2 10 (ix a1)) + (1 : Int32)) = s2
  intro hr
  replace hr := (bnd_eq _ _).symm.trans hr
  refine Ev.aloadN (d11 8 rfl) rfl ?_
  refine Ev.gAr V (ww hw 39 rfl) (d11 9 rfl) (j := 14) rfl ?_
  refine Ev.iloadN (d11 10 rfl) rfl ?_
  refine Ev.dup2 (d11 11 rfl) rfl rfl ?_
  refine Ev.ial V (j := 14) rfl rfl (d11 12 rfl) b1 ?_
  refine Ev.iconst (z := 1) (d11 13 rfl) rfl ?_
  refine Ev.iadd (d11 14 rfl) ?_
  refine Ev.ias V (j := 14) rfl rfl (d11 15 rfl) b1 ?_
  revert hr
  generalize setA s2 14 (ix a1) ((s2.2 14 (ix a1)) + (1 : Int32)) = s3
  intro hr
  replace hr := (bnd_eq _ _).symm.trans hr
  refine Ev.aloadN (d11 16 rfl) rfl ?_
  refine Ev.gAr V (ww hw 22 rfl) (d11 17 rfl) (j := 6) rfl ?_
  refine Ev.iloadN (d11 18 rfl) rfl ?_
  refine Ev.iconst (z := 1) (d11 19 rfl) rfl ?_
  obtain ⟨b4, hr⟩ := grd_some hr
  refine Ev.ias V (j := 6) rfl rfl (d11 20 rfl) b4 ?_
  revert hr
  generalize setA s3 6 (ix a0) (1 : Int32) = s5
  intro hr
  replace hr := (bnd_eq _ _).symm.trans hr
  refine Ev.iloadN (d11 21 rfl) rfl ?_
  refine Ev.ifeq (t := 53) (d11 22 rfl) rfl (fun c6 => ?_) (fun c6 => ?_)
  · replace hr := (if_pos c6).symm.trans hr
    cases hr
    exact Ev.vreturn rfl (d11 38 rfl)
  · replace hr := (if_neg c6).symm.trans hr
    refine Ev.aloadN (d11 23 rfl) rfl ?_
    refine Ev.gAr V (ww hw 18 rfl) (d11 24 rfl) (j := 4) rfl ?_
    refine Ev.iloadN (d11 25 rfl) rfl ?_
    refine Ev.iload (d11 26 rfl) rfl ?_
    refine Ev.ias V (j := 4) rfl rfl (d11 27 rfl) b4 ?_
    revert hr
    generalize setA s5 4 (ix a0) a3 = s7
    intro hr
    replace hr := (bnd_eq _ _).symm.trans hr
    refine Ev.aloadN (d11 28 rfl) rfl ?_
    refine Ev.gAr V (ww hw 20 rfl) (d11 29 rfl) (j := 5) rfl ?_
    refine Ev.iloadN (d11 30 rfl) rfl ?_
    refine Ev.iconst (z := 1) (d11 31 rfl) rfl ?_
    refine Ev.ias V (j := 5) rfl rfl (d11 32 rfl) b4 ?_
    revert hr
    generalize setA s7 5 (ix a0) (1 : Int32) = s8
    intro hr
    replace hr := (bnd_eq _ _).symm.trans hr
    refine Ev.aloadN (d11 33 rfl) rfl ?_
    refine Ev.gAr V (ww hw 26 rfl) (d11 34 rfl) (j := 8) rfl ?_
    refine Ev.iloadN (d11 35 rfl) rfl ?_
    refine Ev.iconst (z := 0) (d11 36 rfl) rfl ?_
    refine Ev.ias V (j := 8) rfl rfl (d11 37 rfl) b4 ?_
    revert hr
    generalize setA s8 8 (ix a0) (0 : Int32) = s9
    intro hr
    replace hr := (bnd_eq _ _).symm.trans hr
    cases hr
    exact Ev.vreturn rfl (d11 38 rfl)
def f_sweep_2 (n : Nat) : Nat → Int32 → St → Option (Int32 × St)
  | 0 => fun _ _ => none
  | k + 1 => fun x1 s =>
    if x1 < (s.1 15) then
      grd ((s.1 15) ≠ 0) <|
      grd (inb (((s.1 20) + x1) % (s.1 15)) 32) <|
      bnd (s.2 2 (ix (((s.1 20) + x1) % (s.1 15)))) fun v4 =>
      if v4 < 0 then
        some ((((s.1 20) + x1) % (s.1 15)), s)
      else
        if (3 : Int32) < v4 then
          some ((((s.1 20) + x1) % (s.1 15)), s)
        else
          if (s.2 6 (ix (((s.1 20) + x1) % (s.1 15)))) = 0 then
            grd (inb v4 4) <|
            bnd ((s.2 10 (ix v4)) - (s.2 7 (ix (((s.1 20) + x1) % (s.1 15))))) fun v9 =>
            if (s.1 16) < v9 then
              if (s.2 5 (ix (((s.1 20) + x1) % (s.1 15)))) = 0 then
                some ((((s.1 20) + x1) % (s.1 15)), s)
              else
                if (s.2 8 (ix (((s.1 20) + x1) % (s.1 15)))) = 0 then
                  bnd (setA s 8 (ix (((s.1 20) + x1) % (s.1 15))) ((s.1 19) + (s.1 17))) fun s13 =>
                  f_sweep_2 n k (x1 + (1 : Int32)) s13
                else
                  f_sweep_2 n k (x1 + (1 : Int32)) s
            else
              f_sweep_2 n k (x1 + (1 : Int32)) s
          else
            bnd (setA s 6 (ix (((s.1 20) + x1) % (s.1 15))) (0 : Int32)) fun s14 =>
            grd (inb v4 4) <|
            bnd (setA s14 7 (ix (((s.1 20) + x1) % (s.1 15))) (s14.2 10 (ix v4))) fun s16 =>
            f_sweep_2 n k (x1 + (1 : Int32)) s16
    else
      some ((-1 : Int32), s)
set_option maxRecDepth 100000 in
theorem e_sweep_2 {g : GT} {n : Nat} (hw : HW g) {K : St → MHeap} {o : Nat} {r : Nat → Nat} (V : View (GG g) Ln K o r) (k : Nat) : ∀ (x1 : Int32) (s : St) (y2 : Slot) (hy2 : one1 y2 = true) (y3 : Slot) (hy3 : one1 y3 = true) (y4 : Slot) (hy4 : one1 y4 = true) (w : Int32 × St), f_sweep_2 n k x1 s = some w → Ev (GG g) M_sweep 2 [.val (.ref o), .val (.int x1), y2, y3, y4] [] (K s) ((some (.int w.1)), (K w.2)) := by
  induction k with
  | zero => intro x1 s y2 hy2 y3 hy3 y4 hy4 w hr; rw [f_sweep_2] at hr; cases hr
  | succ k ih =>
    intro x1 s y2 hy2 y3 hy3 y4 hy4 w hr
    rw [f_sweep_2] at hr
    refine Ev.iloadN (d6 2 rfl) rfl ?_
    refine Ev.aloadN (d6 3 rfl) rfl ?_
    refine Ev.gI V (ww hw 45 rfl) (d6 4 rfl) (j := 15) rfl rfl ?_
    refine Ev.icge (t := 142) (d6 5 rfl) rfl (fun c1 => ?_) (fun c1 => ?_)
    · replace hr := (if_pos c1).symm.trans hr
      refine Ev.aloadN (d6 6 rfl) rfl ?_
      refine Ev.gI V (ww hw 72 rfl) (d6 7 rfl) (j := 20) rfl rfl ?_
      refine Ev.iloadN (d6 8 rfl) rfl ?_
      refine Ev.iadd (d6 9 rfl) ?_
      refine Ev.aloadN (d6 10 rfl) rfl ?_
      refine Ev.gI V (ww hw 45 rfl) (d6 11 rfl) (j := 15) rfl rfl ?_
      obtain ⟨c2, hr⟩ := grd_some hr
      refine Ev.irem (d6 12 rfl) c2 ?_
      refine Ev.istDN (L' := [.val (.ref o), .val (.int x1), .val (.int (((s.1 20) + x1) % (s.1 15))), y3, y4]) (d6 13 rfl) rfl hy2 rfl ?_
      refine Ev.aloadN (d6 14 rfl) rfl ?_
      refine Ev.gAr V (ww hw 14 rfl) (d6 15 rfl) (j := 2) rfl ?_
      refine Ev.iloadN (d6 16 rfl) rfl ?_
      obtain ⟨b3, hr⟩ := grd_some hr
      refine Ev.ial V (j := 2) rfl rfl (d6 17 rfl) b3 ?_
      revert hr
      generalize (s.2 2 (ix (((s.1 20) + x1) % (s.1 15)))) = v4
      intro hr
      replace hr := (bnd_eq _ _).symm.trans hr
      refine Ev.istDN (L' := [.val (.ref o), .val (.int x1), .val (.int (((s.1 20) + x1) % (s.1 15))), .val (.int v4), y4]) (d6 18 rfl) rfl hy3 rfl ?_
      refine Ev.iloadN (d6 19 rfl) rfl ?_
      refine Ev.iflt (t := 38) (d6 20 rfl) rfl (fun c5 => ?_) (fun c5 => ?_)
      · replace hr := (if_pos c5).symm.trans hr
        refine Ev.iloadN (d6 24 rfl) rfl ?_
        cases hr
        exact Ev.ireturn rfl (d6 25 rfl)
      · replace hr := (if_neg c5).symm.trans hr
        refine Ev.iloadN (d6 21 rfl) rfl ?_
        refine Ev.iconst (z := 3) (d6 22 rfl) rfl ?_
        refine Ev.icle (t := 40) (d6 23 rfl) rfl (fun c6 => ?_) (fun c6 => ?_)
        · replace hr := (if_pos c6).symm.trans hr
          refine Ev.iloadN (d6 24 rfl) rfl ?_
          cases hr
          exact Ev.ireturn rfl (d6 25 rfl)
        · replace hr := (if_neg c6).symm.trans hr
          refine Ev.aloadN (d6 26 rfl) rfl ?_
          refine Ev.gAr V (ww hw 22 rfl) (d6 27 rfl) (j := 6) rfl ?_
          refine Ev.iloadN (d6 28 rfl) rfl ?_
          refine Ev.ial V (j := 6) rfl rfl (d6 29 rfl) b3 ?_
          refine Ev.ifeq (t := 71) (d6 30 rfl) rfl (fun c7 => ?_) (fun c7 => ?_)
          · replace hr := (if_pos c7).symm.trans hr
            refine Ev.aloadN (d6 45 rfl) rfl ?_
            refine Ev.gAr V (ww hw 31 rfl) (d6 46 rfl) (j := 10) rfl ?_
            refine Ev.iloadN (d6 47 rfl) rfl ?_
            obtain ⟨b8, hr⟩ := grd_some hr
            refine Ev.ial V (j := 10) rfl rfl (d6 48 rfl) b8 ?_
            refine Ev.aloadN (d6 49 rfl) rfl ?_
            refine Ev.gAr V (ww hw 24 rfl) (d6 50 rfl) (j := 7) rfl ?_
            refine Ev.iloadN (d6 51 rfl) rfl ?_
            refine Ev.ial V (j := 7) rfl rfl (d6 52 rfl) b3 ?_
            refine Ev.isub (d6 53 rfl) ?_
            revert hr
            generalize ((s.2 10 (ix v4)) - (s.2 7 (ix (((s.1 20) + x1) % (s.1 15))))) = v9
            intro hr
            replace hr := (bnd_eq _ _).symm.trans hr
            refine Ev.istD (L' := [.val (.ref o), .val (.int x1), .val (.int (((s.1 20) + x1) % (s.1 15))), .val (.int v4), .val (.int v9)]) (d6 54 rfl) rfl hy4 rfl ?_
            refine Ev.iload (d6 55 rfl) rfl ?_
            refine Ev.aloadN (d6 56 rfl) rfl ?_
            refine Ev.gI V (ww hw 47 rfl) (d6 57 rfl) (j := 16) rfl rfl ?_
            refine Ev.icgt (t := 98) (d6 58 rfl) rfl (fun c10 => ?_) (fun c10 => ?_)
            · replace hr := (if_pos c10).symm.trans hr
              refine Ev.aloadN (d6 60 rfl) rfl ?_
              refine Ev.gAr V (ww hw 20 rfl) (d6 61 rfl) (j := 5) rfl ?_
              refine Ev.iloadN (d6 62 rfl) rfl ?_
              refine Ev.ial V (j := 5) rfl rfl (d6 63 rfl) b3 ?_
              refine Ev.ifeq (t := 134) (d6 64 rfl) rfl (fun c11 => ?_) (fun c11 => ?_)
              · replace hr := (if_pos c11).symm.trans hr
                refine Ev.iloadN (d6 80 rfl) rfl ?_
                cases hr
                exact Ev.ireturn rfl (d6 81 rfl)
              · replace hr := (if_neg c11).symm.trans hr
                refine Ev.aloadN (d6 65 rfl) rfl ?_
                refine Ev.gAr V (ww hw 26 rfl) (d6 66 rfl) (j := 8) rfl ?_
                refine Ev.iloadN (d6 67 rfl) rfl ?_
                refine Ev.ial V (j := 8) rfl rfl (d6 68 rfl) b3 ?_
                refine Ev.ifne (t := 136) (d6 69 rfl) rfl (fun c12 => ?_) (fun c12 => ?_)
                · replace hr := (if_pos c12).symm.trans hr
                  refine Ev.aloadN (d6 70 rfl) rfl ?_
                  refine Ev.gAr V (ww hw 26 rfl) (d6 71 rfl) (j := 8) rfl ?_
                  refine Ev.iloadN (d6 72 rfl) rfl ?_
                  refine Ev.aloadN (d6 73 rfl) rfl ?_
                  refine Ev.gI V (ww hw 62 rfl) (d6 74 rfl) (j := 19) rfl rfl ?_
                  refine Ev.aloadN (d6 75 rfl) rfl ?_
                  refine Ev.gI V (ww hw 49 rfl) (d6 76 rfl) (j := 17) rfl rfl ?_
                  refine Ev.iadd (d6 77 rfl) ?_
                  refine Ev.ias V (j := 8) rfl rfl (d6 78 rfl) b3 ?_
                  revert hr
                  generalize setA s 8 (ix (((s.1 20) + x1) % (s.1 15))) ((s.1 19) + (s.1 17)) = s13
                  intro hr
                  replace hr := (bnd_eq _ _).symm.trans hr
                  refine Ev.goto (t := 136) (d6 79 rfl) rfl ?_
                  refine Ev.iinc (z := 1) (L' := [.val (.ref o), .val (.int (x1 + (1 : Int32))), .val (.int (((s.1 20) + x1) % (s.1 15))), .val (.int v4), .val (.int v9)]) (d6 82 rfl) rfl rfl rfl ?_
                  refine Ev.goto (t := 2) (d6 83 rfl) rfl ?_
                  exact ih (x1 + (1 : Int32)) s13 (.val (.int (((s.1 20) + x1) % (s.1 15)))) rfl (.val (.int v4)) rfl (.val (.int v9)) rfl _ hr
                · replace hr := (if_neg c12).symm.trans hr
                  refine Ev.iinc (z := 1) (L' := [.val (.ref o), .val (.int (x1 + (1 : Int32))), .val (.int (((s.1 20) + x1) % (s.1 15))), .val (.int v4), .val (.int v9)]) (d6 82 rfl) rfl rfl rfl ?_
                  refine Ev.goto (t := 2) (d6 83 rfl) rfl ?_
                  exact ih (x1 + (1 : Int32)) s (.val (.int (((s.1 20) + x1) % (s.1 15)))) rfl (.val (.int v4)) rfl (.val (.int v9)) rfl _ hr
            · replace hr := (if_neg c10).symm.trans hr
              refine Ev.goto (t := 136) (d6 59 rfl) rfl ?_
              refine Ev.iinc (z := 1) (L' := [.val (.ref o), .val (.int (x1 + (1 : Int32))), .val (.int (((s.1 20) + x1) % (s.1 15))), .val (.int v4), .val (.int v9)]) (d6 82 rfl) rfl rfl rfl ?_
              refine Ev.goto (t := 2) (d6 83 rfl) rfl ?_
              exact ih (x1 + (1 : Int32)) s (.val (.int (((s.1 20) + x1) % (s.1 15)))) rfl (.val (.int v4)) rfl (.val (.int v9)) rfl _ hr
          · replace hr := (if_neg c7).symm.trans hr
            refine Ev.aloadN (d6 31 rfl) rfl ?_
            refine Ev.gAr V (ww hw 22 rfl) (d6 32 rfl) (j := 6) rfl ?_
            refine Ev.iloadN (d6 33 rfl) rfl ?_
            refine Ev.iconst (z := 0) (d6 34 rfl) rfl ?_
            refine Ev.ias V (j := 6) rfl rfl (d6 35 rfl) b3 ?_
            revert hr
            generalize setA s 6 (ix (((s.1 20) + x1) % (s.1 15))) (0 : Int32) = s14
            intro hr
            replace hr := (bnd_eq _ _).symm.trans hr
            refine Ev.aloadN (d6 36 rfl) rfl ?_
            refine Ev.gAr V (ww hw 24 rfl) (d6 37 rfl) (j := 7) rfl ?_
            refine Ev.iloadN (d6 38 rfl) rfl ?_
            refine Ev.aloadN (d6 39 rfl) rfl ?_
            refine Ev.gAr V (ww hw 31 rfl) (d6 40 rfl) (j := 10) rfl ?_
            refine Ev.iloadN (d6 41 rfl) rfl ?_
            obtain ⟨b15, hr⟩ := grd_some hr
            refine Ev.ial V (j := 10) rfl rfl (d6 42 rfl) b15 ?_
            refine Ev.ias V (j := 7) rfl rfl (d6 43 rfl) b3 ?_
            revert hr
            generalize setA s14 7 (ix (((s.1 20) + x1) % (s.1 15))) (s14.2 10 (ix v4)) = s16
            intro hr
            replace hr := (bnd_eq _ _).symm.trans hr
            refine Ev.goto (t := 136) (d6 44 rfl) rfl ?_
            refine Ev.iinc (z := 1) (L' := [.val (.ref o), .val (.int (x1 + (1 : Int32))), .val (.int (((s.1 20) + x1) % (s.1 15))), .val (.int v4), y4]) (d6 82 rfl) rfl rfl rfl ?_
            refine Ev.goto (t := 2) (d6 83 rfl) rfl ?_
            exact ih (x1 + (1 : Int32)) s16 (.val (.int (((s.1 20) + x1) % (s.1 15)))) rfl (.val (.int v4)) rfl y4 hy4 _ hr
    · replace hr := (if_neg c1).symm.trans hr
      refine Ev.iconst (z := -1) (d6 84 rfl) rfl ?_
      cases hr
      exact Ev.ireturn rfl (d6 85 rfl)
def f_sweep (n : Nat) (s : St) : Option (Int32 × St) :=
  f_sweep_2 n n (0 : Int32) s
set_option maxRecDepth 100000 in
theorem e_sweep {g : GT} {n : Nat} {s : St} {w : Int32 × St} (hw : HW g) {K : St → MHeap} {o : Nat} {r : Nat → Nat} (V : View (GG g) Ln K o r) (hr : f_sweep n s = some w) : EvC (GG g) M_sweep [.ref o] (K s) ((some (.int w.1)), (K w.2)) := by
  refine EvC.enter (L0 := [.val (.ref o), .unset, .unset, .unset, .unset]) pl_sweep (fun h => nomatch h) rfl rfl ?_
  unfold f_sweep at hr
  refine Ev.iconst (z := 0) (d6 0 rfl) rfl ?_
  refine Ev.istDN (L' := [.val (.ref o), .val (.int (0 : Int32)), .unset, .unset, .unset]) (d6 1 rfl) rfl rfl rfl ?_
  exact e_sweep_2 hw V  n (0 : Int32) s .unset rfl .unset rfl .unset rfl _ hr
def f_load_160 (x1 : Int32) (s : St) : Option (St) :=
  grd ((s.1 15) ≠ 0) <|
  bnd (setI s 20 ((x1 + (1 : Int32)) % (s.1 15))) fun s2 =>
  some s2
set_option maxRecDepth 100000 in
theorem e_load_160 {g : GT} (hw : HW g) {K : St → MHeap} {o : Nat} {r : Nat → Nat} (V : View (GG g) Ln K o r) (x1 : Int32) (s : St) (y2 : Slot) (hy2 : one1 y2 = true) (y3 : Slot) (hy3 : one1 y3 = true) (y4 : Slot) (hy4 : one1 y4 = true) (y5 : Slot) (hy5 : one1 y5 = true) (y6 : Slot) (hy6 : one1 y6 = true) (y7 : Slot) (hy7 : one1 y7 = true) (w : St) (hr : f_load_160 x1 s = some w) : Ev (GG g) M_load 160 [.val (.ref o), .val (.int x1), y2, y3, y4, y5, y6, y7] [] (K s) (none, (K w)) := by
  unfold f_load_160 at hr
  refine Ev.aloadN (d7 108 rfl) rfl ?_
  refine Ev.iloadN (d7 109 rfl) rfl ?_
  refine Ev.iconst (z := 1) (d7 110 rfl) rfl ?_
  refine Ev.iadd (d7 111 rfl) ?_
  refine Ev.aloadN (d7 112 rfl) rfl ?_
  refine Ev.gI V (ww hw 45 rfl) (d7 113 rfl) (j := 15) rfl rfl ?_
  obtain ⟨c1, hr⟩ := grd_some hr
  refine Ev.irem (d7 114 rfl) c1 ?_
  refine Ev.pI V (gok hw) (ww hw 72 rfl) (Or.inl (ww hw 73 rfl)) (d7 115 rfl) (j := 20) rfl ?_
  revert hr
  generalize setI s 20 ((x1 + (1 : Int32)) % (s.1 15)) = s2
  intro hr
  replace hr := (bnd_eq _ _).symm.trans hr
  cases hr
  exact Ev.vreturn rfl (d7 116 rfl)
def f_load_44 (x1 : Int32) (x2 : Int32) (x3 : Int32) (x4 : Int32) (x5 : Int32) (s : St) : Option (St) :=
  grd (inb x1 32) <|
  bnd (setA s 2 (ix x1) x2) fun s2 =>
  bnd (setA s2 3 (ix x1) x3) fun s3 =>
  grd (inb ((x2 * (8 : Int32)) + x3) 32) <|
  bnd (setA s3 1 (ix ((x2 * (8 : Int32)) + x3)) x1) fun s5 =>
  bnd (setA s5 4 (ix x1) (s5.2 0 (ix ((x2 * (8 : Int32)) + x3)))) fun s6 =>
  bnd (setA s6 5 (ix x1) (0 : Int32)) fun s7 =>
  bnd (setA s7 8 (ix x1) (0 : Int32)) fun s8 =>
  grd (inb x2 4) <|
  bnd (setA s8 10 (ix x2) ((s8.2 10 (ix x2)) + (1 : Int32))) fun s10 =>
  bnd (setA s10 14 (ix x2) ((s10.2 14 (ix x2)) + (1 : Int32))) fun s11 =>
  bnd (setA s11 6 (ix x1) (1 : Int32)) fun s12 =>
  bnd (setA s12 7 (ix x1) (s12.2 10 (ix x2))) fun s13 =>
  if x4 = 0 then
    f_load_160 x1 s13
  else
    bnd (setA s13 4 (ix x1) x5) fun s15 =>
    bnd (setA s15 5 (ix x1) (1 : Int32)) fun s16 =>
    f_load_160 x1 s16
set_option maxRecDepth 100000 in
theorem e_load_44 {g : GT} (hw : HW g) {K : St → MHeap} {o : Nat} {r : Nat → Nat} (V : View (GG g) Ln K o r) (x1 : Int32) (x2 : Int32) (x3 : Int32) (x4 : Int32) (x5 : Int32) (s : St) (y6 : Slot) (hy6 : one1 y6 = true) (y7 : Slot) (hy7 : one1 y7 = true) (w : St) (hr : f_load_44 x1 x2 x3 x4 x5 s = some w) : Ev (GG g) M_load 44 [.val (.ref o), .val (.int x1), .val (.int x2), .val (.int x3), .val (.int x4), .val (.int x5), y6, y7] [] (K s) (none, (K w)) := by
  unfold f_load_44 at hr
  refine Ev.aloadN (d7 26 rfl) rfl ?_
  refine Ev.gAr V (ww hw 14 rfl) (d7 27 rfl) (j := 2) rfl ?_
  refine Ev.iloadN (d7 28 rfl) rfl ?_
  refine Ev.iloadN (d7 29 rfl) rfl ?_
  obtain ⟨b1, hr⟩ := grd_some hr
  refine Ev.ias V (j := 2) rfl rfl (d7 30 rfl) b1 ?_
  revert hr
  generalize setA s 2 (ix x1) x2 = s2
  intro hr
  replace hr := (bnd_eq _ _).symm.trans hr
  refine Ev.aloadN (d7 31 rfl) rfl ?_
  refine Ev.gAr V (ww hw 16 rfl) (d7 32 rfl) (j := 3) rfl ?_
  refine Ev.iloadN (d7 33 rfl) rfl ?_
  refine Ev.iloadN (d7 34 rfl) rfl ?_
  refine Ev.ias V (j := 3) rfl rfl (d7 35 rfl) b1 ?_
  revert hr
  generalize setA s2 3 (ix x1) x3 = s3
  intro hr
  replace hr := (bnd_eq _ _).symm.trans hr
  refine Ev.aloadN (d7 36 rfl) rfl ?_
  refine Ev.gAr V (ww hw 12 rfl) (d7 37 rfl) (j := 1) rfl ?_
  refine Ev.iloadN (d7 38 rfl) rfl ?_
  refine Ev.bipush (z := 8) (d7 39 rfl) rfl ?_
  refine Ev.imul (d7 40 rfl) ?_
  refine Ev.iloadN (d7 41 rfl) rfl ?_
  refine Ev.iadd (d7 42 rfl) ?_
  refine Ev.iloadN (d7 43 rfl) rfl ?_
  obtain ⟨b4, hr⟩ := grd_some hr
  refine Ev.ias V (j := 1) rfl rfl (d7 44 rfl) b4 ?_
  revert hr
  generalize setA s3 1 (ix ((x2 * (8 : Int32)) + x3)) x1 = s5
  intro hr
  replace hr := (bnd_eq _ _).symm.trans hr
  refine Ev.aloadN (d7 45 rfl) rfl ?_
  refine Ev.gAr V (ww hw 18 rfl) (d7 46 rfl) (j := 4) rfl ?_
  refine Ev.iloadN (d7 47 rfl) rfl ?_
  refine Ev.aloadN (d7 48 rfl) rfl ?_
  refine Ev.gAr V (ww hw 10 rfl) (d7 49 rfl) (j := 0) rfl ?_
  refine Ev.iloadN (d7 50 rfl) rfl ?_
  refine Ev.bipush (z := 8) (d7 51 rfl) rfl ?_
  refine Ev.imul (d7 52 rfl) ?_
  refine Ev.iloadN (d7 53 rfl) rfl ?_
  refine Ev.iadd (d7 54 rfl) ?_
  refine Ev.ial V (j := 0) rfl rfl (d7 55 rfl) b4 ?_
  refine Ev.ias V (j := 4) rfl rfl (d7 56 rfl) b1 ?_
  revert hr
  generalize setA s5 4 (ix x1) (s5.2 0 (ix ((x2 * (8 : Int32)) + x3))) = s6
  intro hr
  replace hr := (bnd_eq _ _).symm.trans hr
  refine Ev.aloadN (d7 57 rfl) rfl ?_
  refine Ev.gAr V (ww hw 20 rfl) (d7 58 rfl) (j := 5) rfl ?_
  refine Ev.iloadN (d7 59 rfl) rfl ?_
  refine Ev.iconst (z := 0) (d7 60 rfl) rfl ?_
  refine Ev.ias V (j := 5) rfl rfl (d7 61 rfl) b1 ?_
  revert hr
  generalize setA s6 5 (ix x1) (0 : Int32) = s7
  intro hr
  replace hr := (bnd_eq _ _).symm.trans hr
  refine Ev.aloadN (d7 62 rfl) rfl ?_
  refine Ev.gAr V (ww hw 26 rfl) (d7 63 rfl) (j := 8) rfl ?_
  refine Ev.iloadN (d7 64 rfl) rfl ?_
  refine Ev.iconst (z := 0) (d7 65 rfl) rfl ?_
  refine Ev.ias V (j := 8) rfl rfl (d7 66 rfl) b1 ?_
  revert hr
  generalize setA s7 8 (ix x1) (0 : Int32) = s8
  intro hr
  replace hr := (bnd_eq _ _).symm.trans hr
  refine Ev.aloadN (d7 67 rfl) rfl ?_
  refine Ev.gAr V (ww hw 31 rfl) (d7 68 rfl) (j := 10) rfl ?_
  refine Ev.iloadN (d7 69 rfl) rfl ?_
  refine Ev.dup2 (d7 70 rfl) rfl rfl ?_
  obtain ⟨b9, hr⟩ := grd_some hr
  refine Ev.ial V (j := 10) rfl rfl (d7 71 rfl) b9 ?_
  refine Ev.iconst (z := 1) (d7 72 rfl) rfl ?_
  refine Ev.iadd (d7 73 rfl) ?_
  refine Ev.ias V (j := 10) rfl rfl (d7 74 rfl) b9 ?_
  revert hr
  generalize setA s8 10 (ix x2) ((s8.2 10 (ix x2)) + (1 : Int32)) = s10
  intro hr
  replace hr := (bnd_eq _ _).symm.trans hr
  refine Ev.aloadN (d7 75 rfl) rfl ?_
  refine Ev.gAr V (ww hw 39 rfl) (d7 76 rfl) (j := 14) rfl ?_
  refine Ev.iloadN (d7 77 rfl) rfl ?_
  refine Ev.dup2 (d7 78 rfl) rfl rfl ?_
  refine Ev.ial V (j := 14) rfl rfl (d7 79 rfl) b9 ?_
  refine Ev.iconst (z := 1) (d7 80 rfl) rfl ?_
  refine Ev.iadd (d7 81 rfl) ?_
  refine Ev.ias V (j := 14) rfl rfl (d7 82 rfl) b9 ?_
  revert hr
  generalize setA s10 14 (ix x2) ((s10.2 14 (ix x2)) + (1 : Int32)) = s11
  intro hr
  replace hr := (bnd_eq _ _).symm.trans hr
  refine Ev.aloadN (d7 83 rfl) rfl ?_
  refine Ev.gAr V (ww hw 22 rfl) (d7 84 rfl) (j := 6) rfl ?_
  refine Ev.iloadN (d7 85 rfl) rfl ?_
  refine Ev.iconst (z := 1) (d7 86 rfl) rfl ?_
  refine Ev.ias V (j := 6) rfl rfl (d7 87 rfl) b1 ?_
  revert hr
  generalize setA s11 6 (ix x1) (1 : Int32) = s12
  intro hr
  replace hr := (bnd_eq _ _).symm.trans hr
  refine Ev.aloadN (d7 88 rfl) rfl ?_
  refine Ev.gAr V (ww hw 24 rfl) (d7 89 rfl) (j := 7) rfl ?_
  refine Ev.iloadN (d7 90 rfl) rfl ?_
  refine Ev.aloadN (d7 91 rfl) rfl ?_
  refine Ev.gAr V (ww hw 31 rfl) (d7 92 rfl) (j := 10) rfl ?_
  refine Ev.iloadN (d7 93 rfl) rfl ?_
  refine Ev.ial V (j := 10) rfl rfl (d7 94 rfl) b9 ?_
  refine Ev.ias V (j := 7) rfl rfl (d7 95 rfl) b1 ?_
  revert hr
  generalize setA s12 7 (ix x1) (s12.2 10 (ix x2)) = s13
  intro hr
  replace hr := (bnd_eq _ _).symm.trans hr
  refine Ev.iload (d7 96 rfl) rfl ?_
  refine Ev.ifeq (t := 160) (d7 97 rfl) rfl (fun c14 => ?_) (fun c14 => ?_)
  · replace hr := (if_pos c14).symm.trans hr
    exact e_load_160 hw V  x1 s13 (.val (.int x2)) rfl (.val (.int x3)) rfl (.val (.int x4)) rfl (.val (.int x5)) rfl y6 hy6 y7 hy7 _ hr
  · replace hr := (if_neg c14).symm.trans hr
    refine Ev.aloadN (d7 98 rfl) rfl ?_
    refine Ev.gAr V (ww hw 18 rfl) (d7 99 rfl) (j := 4) rfl ?_
    refine Ev.iloadN (d7 100 rfl) rfl ?_
    refine Ev.iload (d7 101 rfl) rfl ?_
    refine Ev.ias V (j := 4) rfl rfl (d7 102 rfl) b1 ?_
    revert hr
    generalize setA s13 4 (ix x1) x5 = s15
    intro hr
    replace hr := (bnd_eq _ _).symm.trans hr
    refine Ev.aloadN (d7 103 rfl) rfl ?_
    refine Ev.gAr V (ww hw 20 rfl) (d7 104 rfl) (j := 5) rfl ?_
    refine Ev.iloadN (d7 105 rfl) rfl ?_
    refine Ev.iconst (z := 1) (d7 106 rfl) rfl ?_
    refine Ev.ias V (j := 5) rfl rfl (d7 107 rfl) b1 ?_
    revert hr
    generalize setA s15 5 (ix x1) (1 : Int32) = s16
    intro hr
    replace hr := (bnd_eq _ _).symm.trans hr
    exact e_load_160 hw V  x1 s16 (.val (.int x2)) rfl (.val (.int x3)) rfl (.val (.int x4)) rfl (.val (.int x5)) rfl y6 hy6 y7 hy7 _ hr
def f_load (a0 : Int32) (a1 : Int32) (a2 : Int32) (a3 : Int32) (a4 : Int32) (s : St) : Option (St) :=
  grd (inb a0 32) <|
  if (s.2 2 (ix a0)) < 0 then
    f_load_44 a0 a1 a2 a3 a4 s
  else
    if (3 : Int32) < (s.2 2 (ix a0)) then
      f_load_44 a0 a1 a2 a3 a4 s
    else
      bnd (((s.2 2 (ix a0)) * (8 : Int32)) + ((s.2 3 (ix a0)) &&& (7 : Int32))) fun v4 =>
      grd (inb v4 32) <|
      bnd (setA s 1 (ix v4) (-1 : Int32)) fun s6 =>
      f_load_44 a0 a1 a2 a3 a4 s6
set_option maxRecDepth 100000 in
theorem e_load {g : GT} {a0 : Int32} {a1 : Int32} {a2 : Int32} {a3 : Int32} {a4 : Int32} {s : St} {w : St} (hw : HW g) {K : St → MHeap} {o : Nat} {r : Nat → Nat} (V : View (GG g) Ln K o r) (hr : f_load a0 a1 a2 a3 a4 s = some w) : EvC (GG g) M_load [.ref o, .int a0, .int a1, .int a2, .int a3, .int a4] (K s) (none, (K w)) := by
  refine EvC.enter (L0 := [.val (.ref o), .val (.int a0), .val (.int a1), .val (.int a2), .val (.int a3), .val (.int a4), .unset, .unset]) pl_load (fun _ => rfl) rfl rfl ?_
  unfold f_load at hr
  refine Ev.aloadN (d7 0 rfl) rfl ?_
  refine Ev.gAr V (ww hw 14 rfl) (d7 1 rfl) (j := 2) rfl ?_
  refine Ev.iloadN (d7 2 rfl) rfl ?_
  obtain ⟨b1, hr⟩ := grd_some hr
  refine Ev.ial V (j := 2) rfl rfl (d7 3 rfl) b1 ?_
  refine Ev.istD (L' := [.val (.ref o), .val (.int a0), .val (.int a1), .val (.int a2), .val (.int a3), .val (.int a4), .val (.int (s.2 2 (ix a0))), .unset]) (d7 4 rfl) rfl rfl rfl ?_
  refine Ev.iload (d7 5 rfl) rfl ?_
  refine Ev.iflt (t := 44) (d7 6 rfl) rfl (fun c2 => ?_) (fun c2 => ?_)
  · replace hr := (if_pos c2).symm.trans hr
    exact e_load_44 hw V  a0 a1 a2 a3 a4 s (.val (.int (s.2 2 (ix a0)))) rfl .unset rfl _ hr
  · replace hr := (if_neg c2).symm.trans hr
    refine Ev.iload (d7 7 rfl) rfl ?_
    refine Ev.iconst (z := 3) (d7 8 rfl) rfl ?_
    refine Ev.icgt (t := 44) (d7 9 rfl) rfl (fun c3 => ?_) (fun c3 => ?_)
    · replace hr := (if_pos c3).symm.trans hr
      exact e_load_44 hw V  a0 a1 a2 a3 a4 s (.val (.int (s.2 2 (ix a0)))) rfl .unset rfl _ hr
    · replace hr := (if_neg c3).symm.trans hr
      refine Ev.iload (d7 10 rfl) rfl ?_
      refine Ev.bipush (z := 8) (d7 11 rfl) rfl ?_
      refine Ev.imul (d7 12 rfl) ?_
      refine Ev.aloadN (d7 13 rfl) rfl ?_
      refine Ev.gAr V (ww hw 16 rfl) (d7 14 rfl) (j := 3) rfl ?_
      refine Ev.iloadN (d7 15 rfl) rfl ?_
      refine Ev.ial V (j := 3) rfl rfl (d7 16 rfl) b1 ?_
      refine Ev.bipush (z := 7) (d7 17 rfl) rfl ?_
      refine Ev.iand (d7 18 rfl) ?_
      refine Ev.iadd (d7 19 rfl) ?_
      revert hr
      generalize (((s.2 2 (ix a0)) * (8 : Int32)) + ((s.2 3 (ix a0)) &&& (7 : Int32))) = v4
      intro hr
      replace hr := (bnd_eq _ _).symm.trans hr
      refine Ev.istD (L' := [.val (.ref o), .val (.int a0), .val (.int a1), .val (.int a2), .val (.int a3), .val (.int a4), .val (.int (s.2 2 (ix a0))), .val (.int v4)]) (d7 20 rfl) rfl rfl rfl ?_
      refine Ev.aloadN (d7 21 rfl) rfl ?_
      refine Ev.gAr V (ww hw 12 rfl) (d7 22 rfl) (j := 1) rfl ?_
      refine Ev.iload (d7 23 rfl) rfl ?_
      refine Ev.iconst (z := -1) (d7 24 rfl) rfl ?_
      obtain ⟨b5, hr⟩ := grd_some hr
      refine Ev.ias V (j := 1) rfl rfl (d7 25 rfl) b5 ?_
      revert hr
      generalize setA s 1 (ix v4) (-1 : Int32) = s6
      intro hr
      replace hr := (bnd_eq _ _).symm.trans hr
      exact e_load_44 hw V  a0 a1 a2 a3 a4 s6 (.val (.int (s.2 2 (ix a0)))) rfl (.val (.int v4)) rfl _ hr
def f_access_90 (n : Nat) (x1 : Int32) (x2 : Int32) (x3 : Int32) (x4 : Int32) (s : St) : Option (Int32 × St) :=
  grd (inb x1 4) <|
  bnd (setA s 11 (ix x1) ((s.2 11 (ix x1)) + (1 : Int32))) fun s2 =>
  bnd (setA s2 13 (ix x1) ((s2.2 13 (ix x1)) + (1 : Int32))) fun s3 =>
  (f_sweep n s3).bind fun q4 =>
  if q4.1 < 0 then
    some ((3 : Int32), q4.2)
  else
    (f_load q4.1 x1 x2 x3 x4 q4.2).bind fun q7 =>
    bnd (setI q7 21 q4.1) fun s9 =>
    some ((2 : Int32), s9)
set_option maxRecDepth 100000 in
theorem e_access_90 {g : GT} {n : Nat} (hw : HW g) {K : St → MHeap} {o : Nat} {r : Nat → Nat} (V : View (GG g) Ln K o r) (x1 : Int32) (x2 : Int32) (x3 : Int32) (x4 : Int32) (s : St) (y5 : Slot) (hy5 : one1 y5 = true) (y6 : Slot) (hy6 : one1 y6 = true) (w : Int32 × St) (hr : f_access_90 n x1 x2 x3 x4 s = some w) : Ev (GG g) M_access 90 [.val (.ref o), .val (.int x1), .val (.int x2), .val (.int x3), .val (.int x4), y5, y6] [] (K s) ((some (.int w.1)), (K w.2)) := by
  unfold f_access_90 at hr
  refine Ev.aloadN (d4 53 rfl) rfl ?_
  refine Ev.gAr V (ww hw 33 rfl) (d4 54 rfl) (j := 11) rfl ?_
  refine Ev.iloadN (d4 55 rfl) rfl ?_
  refine Ev.dup2 (d4 56 rfl) rfl rfl ?_
  obtain ⟨b1, hr⟩ := grd_some hr
  refine Ev.ial V (j := 11) rfl rfl (d4 57 rfl) b1 ?_
  refine Ev.iconst (z := 1) (d4 58 rfl) rfl ?_
  refine Ev.iadd (d4 59 rfl) ?_
  refine Ev.ias V (j := 11) rfl rfl (d4 60 rfl) b1 ?_
  revert hr
  generalize setA s 11 (ix x1) ((s.2 11 (ix x1)) + (1 : Int32)) = s2
  intro hr
  replace hr := (bnd_eq _ _).symm.trans hr
  refine Ev.aloadN (d4 61 rfl) rfl ?_
  refine Ev.gAr V (ww hw 37 rfl) (d4 62 rfl) (j := 13) rfl ?_
  refine Ev.iloadN (d4 63 rfl) rfl ?_
  refine Ev.dup2 (d4 64 rfl) rfl rfl ?_
  refine Ev.ial V (j := 13) rfl rfl (d4 65 rfl) b1 ?_
  refine Ev.iconst (z := 1) (d4 66 rfl) rfl ?_
  refine Ev.iadd (d4 67 rfl) ?_
  refine Ev.ias V (j := 13) rfl rfl (d4 68 rfl) b1 ?_
  revert hr
  generalize setA s2 13 (ix x1) ((s2.2 13 (ix x1)) + (1 : Int32)) = s3
  intro hr
  replace hr := (bnd_eq _ _).symm.trans hr
  refine Ev.aloadN (d4 69 rfl) rfl ?_
  obtain ⟨q4, hq5, hr⟩ := Option.bind_eq_some_iff.mp hr
  refine Ev.priv (y := M_sweep) (args := []) (rest := []) (gok hw) rfl nm_sweep (ww hw 68 rfl) (ww hw 69 rfl) (ww hw 70 rfl) (ww hw 71 rfl) (lenOf pd_sweep rfl) (d4 70 rfl) (V.2.1 s3) (e_sweep hw V hq5) (by decide) (Nat.le_of_ble_eq_true rfl) rfl ?_
  refine Ev.istD (L' := [.val (.ref o), .val (.int x1), .val (.int x2), .val (.int x3), .val (.int x4), y5, .val (.int q4.1)]) (d4 71 rfl) rfl hy6 rfl ?_
  refine Ev.iload (d4 72 rfl) rfl ?_
  refine Ev.ifge (t := 123) (d4 73 rfl) rfl (fun c6 => ?_) (fun c6 => ?_)
  · replace hr := (if_pos c6).symm.trans hr
    refine Ev.iconst (z := 3) (d4 74 rfl) rfl ?_
    cases hr
    exact Ev.ireturn rfl (d4 75 rfl)
  · replace hr := (if_neg c6).symm.trans hr
    refine Ev.aloadN (d4 76 rfl) rfl ?_
    refine Ev.iload (d4 77 rfl) rfl ?_
    refine Ev.iloadN (d4 78 rfl) rfl ?_
    refine Ev.iloadN (d4 79 rfl) rfl ?_
    refine Ev.iloadN (d4 80 rfl) rfl ?_
    refine Ev.iload (d4 81 rfl) rfl ?_
    obtain ⟨q7, hq8, hr⟩ := Option.bind_eq_some_iff.mp hr
    refine Ev.priv (y := M_load) (args := [.int q4.1, .int x1, .int x2, .int x3, .int x4]) (rest := []) (gok hw) rfl nm_load (ww hw 74 rfl) (ww hw 75 rfl) (ww hw 76 rfl) (ww hw 77 rfl) (lenOf pd_load rfl) (d4 82 rfl) (V.2.1 q4.2) (e_load hw V hq8) (by decide) (Nat.le_of_ble_eq_true rfl) rfl ?_
    refine Ev.aloadN (d4 83 rfl) rfl ?_
    refine Ev.iload (d4 84 rfl) rfl ?_
    refine Ev.pI V (gok hw) (ww hw 78 rfl) (Or.inl (ww hw 79 rfl)) (d4 85 rfl) (j := 21) rfl ?_
    revert hr
    generalize setI q7 21 q4.1 = s9
    intro hr
    replace hr := (bnd_eq _ _).symm.trans hr
    refine Ev.iconst (z := 2) (d4 86 rfl) rfl ?_
    cases hr
    exact Ev.ireturn rfl (d4 87 rfl)
def f_access (n : Nat) (a0 : Int32) (a1 : Int32) (a2 : Int32) (a3 : Int32) (s : St) : Option (Int32 × St) :=
  if a0 < 0 then
    some ((5 : Int32), s)
  else
    if (3 : Int32) < a0 then
      some ((5 : Int32), s)
    else
      if a1 < 0 then
        some ((5 : Int32), s)
      else
        if (7 : Int32) < a1 then
          some ((5 : Int32), s)
        else
          grd (inb a0 4) <|
          if (s.2 9 (ix a0)) = 0 then
            bnd (setI s 19 ((s.1 19) + (1 : Int32))) fun s7 =>
            (f_completeWriteBacks n s7).bind fun q8 =>
            grd (inb ((a0 * (8 : Int32)) + a1) 32) <|
            bnd (q8.2.2 1 (ix ((a0 * (8 : Int32)) + a1))) fun v11 =>
            if v11 < 0 then
              f_access_90 n a0 a1 a2 a3 q8.2
            else
              if v11 < (32 : Int32) then
                (f_hit v11 a0 a2 a3 q8.2).bind fun q14 =>
                bnd (setI q14 21 v11) fun s16 =>
                some ((1 : Int32), s16)
              else
                f_access_90 n a0 a1 a2 a3 q8.2
          else
            some ((4 : Int32), s)
set_option maxRecDepth 100000 in
theorem e_access {g : GT} {n : Nat} {a0 : Int32} {a1 : Int32} {a2 : Int32} {a3 : Int32} {s : St} {w : Int32 × St} (hw : HW g) {K : St → MHeap} {o : Nat} {r : Nat → Nat} (V : View (GG g) Ln K o r) (hr : f_access n a0 a1 a2 a3 s = some w) : EvC (GG g) M_access [.ref o, .int a0, .int a1, .int a2, .int a3] (K s) ((some (.int w.1)), (K w.2)) := by
  refine EvC.enter (L0 := [.val (.ref o), .val (.int a0), .val (.int a1), .val (.int a2), .val (.int a3), .unset, .unset]) pl_access (fun h => nomatch h) rfl rfl ?_
  unfold f_access at hr
  refine Ev.iloadN (d4 0 rfl) rfl ?_
  refine Ev.iflt (t := 19) (d4 1 rfl) rfl (fun c1 => ?_) (fun c1 => ?_)
  · replace hr := (if_pos c1).symm.trans hr
    refine Ev.iconst (z := 5) (d4 10 rfl) rfl ?_
    cases hr
    exact Ev.ireturn rfl (d4 11 rfl)
  · replace hr := (if_neg c1).symm.trans hr
    refine Ev.iloadN (d4 2 rfl) rfl ?_
    refine Ev.iconst (z := 3) (d4 3 rfl) rfl ?_
    refine Ev.icgt (t := 19) (d4 4 rfl) rfl (fun c2 => ?_) (fun c2 => ?_)
    · replace hr := (if_pos c2).symm.trans hr
      refine Ev.iconst (z := 5) (d4 10 rfl) rfl ?_
      cases hr
      exact Ev.ireturn rfl (d4 11 rfl)
    · replace hr := (if_neg c2).symm.trans hr
      refine Ev.iloadN (d4 5 rfl) rfl ?_
      refine Ev.iflt (t := 19) (d4 6 rfl) rfl (fun c3 => ?_) (fun c3 => ?_)
      · replace hr := (if_pos c3).symm.trans hr
        refine Ev.iconst (z := 5) (d4 10 rfl) rfl ?_
        cases hr
        exact Ev.ireturn rfl (d4 11 rfl)
      · replace hr := (if_neg c3).symm.trans hr
        refine Ev.iloadN (d4 7 rfl) rfl ?_
        refine Ev.bipush (z := 7) (d4 8 rfl) rfl ?_
        refine Ev.icle (t := 21) (d4 9 rfl) rfl (fun c4 => ?_) (fun c4 => ?_)
        · replace hr := (if_pos c4).symm.trans hr
          refine Ev.iconst (z := 5) (d4 10 rfl) rfl ?_
          cases hr
          exact Ev.ireturn rfl (d4 11 rfl)
        · replace hr := (if_neg c4).symm.trans hr
          refine Ev.aloadN (d4 12 rfl) rfl ?_
          refine Ev.gAr V (ww hw 29 rfl) (d4 13 rfl) (j := 9) rfl ?_
          refine Ev.iloadN (d4 14 rfl) rfl ?_
          obtain ⟨b5, hr⟩ := grd_some hr
          refine Ev.bal V (j := 9) rfl rfl (d4 15 rfl) b5 ?_
          refine Ev.ifeq (t := 32) (d4 16 rfl) rfl (fun c6 => ?_) (fun c6 => ?_)
          · replace hr := (if_pos c6).symm.trans hr
            refine Ev.aloadN (d4 19 rfl) rfl ?_
            refine Ev.dup (d4 20 rfl) rfl ?_
            refine Ev.gI V (ww hw 62 rfl) (d4 21 rfl) (j := 19) rfl rfl ?_
            refine Ev.iconst (z := 1) (d4 22 rfl) rfl ?_
            refine Ev.iadd (d4 23 rfl) ?_
            refine Ev.pI V (gok hw) (ww hw 62 rfl) (Or.inl (ww hw 63 rfl)) (d4 24 rfl) (j := 19) rfl ?_
            revert hr
            generalize setI s 19 ((s.1 19) + (1 : Int32)) = s7
            intro hr
            replace hr := (bnd_eq _ _).symm.trans hr
            refine Ev.aloadN (d4 25 rfl) rfl ?_
            obtain ⟨q8, hq9, hr⟩ := Option.bind_eq_some_iff.mp hr
            refine Ev.priv (y := M_completeWriteBacks) (args := []) (rest := []) (gok hw) rfl nm_completeWriteBacks (ww hw 64 rfl) (ww hw 65 rfl) (ww hw 66 rfl) (ww hw 67 rfl) (lenOf pd_completeWriteBacks rfl) (d4 26 rfl) (V.2.1 s7) (e_completeWriteBacks hw V hq9) (by decide) (Nat.le_of_ble_eq_true rfl) rfl ?_
            refine Ev.pop (d4 27 rfl) rfl ?_
            refine Ev.aloadN (d4 28 rfl) rfl ?_
            refine Ev.gAr V (ww hw 12 rfl) (d4 29 rfl) (j := 1) rfl ?_
            refine Ev.iloadN (d4 30 rfl) rfl ?_
            refine Ev.bipush (z := 8) (d4 31 rfl) rfl ?_
            refine Ev.imul (d4 32 rfl) ?_
            refine Ev.iloadN (d4 33 rfl) rfl ?_
            refine Ev.iadd (d4 34 rfl) ?_
            obtain ⟨b10, hr⟩ := grd_some hr
            refine Ev.ial V (j := 1) rfl rfl (d4 35 rfl) b10 ?_
            revert hr
            generalize (q8.2.2 1 (ix ((a0 * (8 : Int32)) + a1))) = v11
            intro hr
            replace hr := (bnd_eq _ _).symm.trans hr
            refine Ev.istD (L' := [.val (.ref o), .val (.int a0), .val (.int a1), .val (.int a2), .val (.int a3), .val (.int v11), .unset]) (d4 36 rfl) rfl rfl rfl ?_
            refine Ev.iload (d4 37 rfl) rfl ?_
            refine Ev.iflt (t := 90) (d4 38 rfl) rfl (fun c12 => ?_) (fun c12 => ?_)
            · replace hr := (if_pos c12).symm.trans hr
              exact e_access_90 hw V  a0 a1 a2 a3 q8.2 (.val (.int v11)) rfl .unset rfl _ hr
            · replace hr := (if_neg c12).symm.trans hr
              refine Ev.iload (d4 39 rfl) rfl ?_
              refine Ev.bipush (z := 32) (d4 40 rfl) rfl ?_
              refine Ev.icge (t := 90) (d4 41 rfl) rfl (fun c13 => ?_) (fun c13 => ?_)
              · replace hr := (if_pos c13).symm.trans hr
                refine Ev.aloadN (d4 42 rfl) rfl ?_
                refine Ev.iload (d4 43 rfl) rfl ?_
                refine Ev.iloadN (d4 44 rfl) rfl ?_
                refine Ev.iloadN (d4 45 rfl) rfl ?_
                refine Ev.iload (d4 46 rfl) rfl ?_
                obtain ⟨q14, hq15, hr⟩ := Option.bind_eq_some_iff.mp hr
                refine Ev.priv (y := M_hit) (args := [.int v11, .int a0, .int a2, .int a3]) (rest := []) (gok hw) rfl nm_hit (ww hw 97 rfl) (ww hw 98 rfl) (ww hw 99 rfl) (ww hw 100 rfl) (lenOf pd_hit rfl) (d4 47 rfl) (V.2.1 q8.2) (e_hit hw V hq15) (by decide) (Nat.le_of_ble_eq_true rfl) rfl ?_
                refine Ev.aloadN (d4 48 rfl) rfl ?_
                refine Ev.iload (d4 49 rfl) rfl ?_
                refine Ev.pI V (gok hw) (ww hw 78 rfl) (Or.inl (ww hw 79 rfl)) (d4 50 rfl) (j := 21) rfl ?_
                revert hr
                generalize setI q14 21 v11 = s16
                intro hr
                replace hr := (bnd_eq _ _).symm.trans hr
                refine Ev.iconst (z := 1) (d4 51 rfl) rfl ?_
                cases hr
                exact Ev.ireturn rfl (d4 52 rfl)
              · replace hr := (if_neg c13).symm.trans hr
                exact e_access_90 hw V  a0 a1 a2 a3 q8.2 (.val (.int v11)) rfl .unset rfl _ hr
          · replace hr := (if_neg c6).symm.trans hr
            refine Ev.iconst (z := 4) (d4 17 rfl) rfl ?_
            cases hr
            exact Ev.ireturn rfl (d4 18 rfl)
def f_write (n : Nat) (a0 : Int32) (a1 : Int32) (a2 : Int32) (s : St) : Option (Int32 × St) :=
  (f_access n a0 a1 (1 : Int32) a2 s).bind fun q1 =>
  bnd (setI q1.2 22 q1.1) fun s3 =>
  some (q1.1, s3)
set_option maxRecDepth 100000 in
theorem e_write {g : GT} {n : Nat} {a0 : Int32} {a1 : Int32} {a2 : Int32} {s : St} {w : Int32 × St} (hw : HW g) {K : St → MHeap} {o : Nat} {r : Nat → Nat} (V : View (GG g) Ln K o r) (hr : f_write n a0 a1 a2 s = some w) : EvC (GG g) M_write [.ref o, .int a0, .int a1, .int a2] (K s) ((some (.int w.1)), (K w.2)) := by
  refine EvC.enter (L0 := [.val (.ref o), .val (.int a0), .val (.int a1), .val (.int a2), .unset]) pl_write (fun h => nomatch h) rfl rfl ?_
  unfold f_write at hr
  refine Ev.aloadN (d3 0 rfl) rfl ?_
  refine Ev.iloadN (d3 1 rfl) rfl ?_
  refine Ev.iloadN (d3 2 rfl) rfl ?_
  refine Ev.iconst (z := 1) (d3 3 rfl) rfl ?_
  refine Ev.iloadN (d3 4 rfl) rfl ?_
  obtain ⟨q1, hq2, hr⟩ := Option.bind_eq_some_iff.mp hr
  refine Ev.priv (y := M_access) (args := [.int a0, .int a1, .int (1 : Int32), .int a2]) (rest := []) (gok hw) rfl nm_access (ww hw 58 rfl) (ww hw 59 rfl) (ww hw 60 rfl) (ww hw 61 rfl) (lenOf pd_access rfl) (d3 5 rfl) (V.2.1 s) (e_access hw V hq2) (by decide) (Nat.le_of_ble_eq_true rfl) rfl ?_
  refine Ev.istD (L' := [.val (.ref o), .val (.int a0), .val (.int a1), .val (.int a2), .val (.int q1.1)]) (d3 6 rfl) rfl rfl rfl ?_
  refine Ev.aloadN (d3 7 rfl) rfl ?_
  refine Ev.iload (d3 8 rfl) rfl ?_
  refine Ev.pI V (gok hw) (ww hw 80 rfl) (Or.inl (ww hw 81 rfl)) (d3 9 rfl) (j := 22) rfl ?_
  revert hr
  generalize setI q1.2 22 q1.1 = s3
  intro hr
  replace hr := (bnd_eq _ _).symm.trans hr
  refine Ev.iload (d3 10 rfl) rfl ?_
  cases hr
  exact Ev.ireturn rfl (d3 11 rfl)
def f_read_24 (n : Nat) (s : St) : Option (Int32 × St) :=
  grd (inb (s.1 21) 32) <|
  some ((s.2 4 (ix (s.1 21))), s)
set_option maxRecDepth 100000 in
theorem e_read_24 {g : GT} {n : Nat} (hw : HW g) {K : St → MHeap} {o : Nat} {r : Nat → Nat} (V : View (GG g) Ln K o r) (s : St) (y1 : Slot) (hy1 : one1 y1 = true) (y2 : Slot) (hy2 : one1 y2 = true) (y3 : Slot) (hy3 : one1 y3 = true) (w : Int32 × St) (hr : f_read_24 n s = some w) : Ev (GG g) M_read 24 [.val (.ref o), y1, y2, y3] [] (K s) ((some (.int w.1)), (K w.2)) := by
  unfold f_read_24 at hr
  refine Ev.aloadN (d8 16 rfl) rfl ?_
  refine Ev.gAr V (ww hw 18 rfl) (d8 17 rfl) (j := 4) rfl ?_
  refine Ev.aloadN (d8 18 rfl) rfl ?_
  refine Ev.gI V (ww hw 78 rfl) (d8 19 rfl) (j := 21) rfl rfl ?_
  obtain ⟨b1, hr⟩ := grd_some hr
  refine Ev.ial V (j := 4) rfl rfl (d8 20 rfl) b1 ?_
  cases hr
  exact Ev.ireturn rfl (d8 21 rfl)
def f_read (n : Nat) (a0 : Int32) (a1 : Int32) (s : St) : Option (Int32 × St) :=
  (f_access n a0 a1 (0 : Int32) (0 : Int32) s).bind fun q1 =>
  bnd (setI q1.2 22 q1.1) fun s3 =>
  if q1.1 = (1 : Int32) then
    f_read_24 n s3
  else
    if q1.1 = (2 : Int32) then
      f_read_24 n s3
    else
      some ((0 : Int32), s3)
set_option maxRecDepth 100000 in
theorem e_read {g : GT} {n : Nat} {a0 : Int32} {a1 : Int32} {s : St} {w : Int32 × St} (hw : HW g) {K : St → MHeap} {o : Nat} {r : Nat → Nat} (V : View (GG g) Ln K o r) (hr : f_read n a0 a1 s = some w) : EvC (GG g) M_read [.ref o, .int a0, .int a1] (K s) ((some (.int w.1)), (K w.2)) := by
  refine EvC.enter (L0 := [.val (.ref o), .val (.int a0), .val (.int a1), .unset]) pl_read (fun h => nomatch h) rfl rfl ?_
  unfold f_read at hr
  refine Ev.aloadN (d8 0 rfl) rfl ?_
  refine Ev.iloadN (d8 1 rfl) rfl ?_
  refine Ev.iloadN (d8 2 rfl) rfl ?_
  refine Ev.iconst (z := 0) (d8 3 rfl) rfl ?_
  refine Ev.iconst (z := 0) (d8 4 rfl) rfl ?_
  obtain ⟨q1, hq2, hr⟩ := Option.bind_eq_some_iff.mp hr
  refine Ev.priv (y := M_access) (args := [.int a0, .int a1, .int (0 : Int32), .int (0 : Int32)]) (rest := []) (gok hw) rfl nm_access (ww hw 58 rfl) (ww hw 59 rfl) (ww hw 60 rfl) (ww hw 61 rfl) (lenOf pd_access rfl) (d8 5 rfl) (V.2.1 s) (e_access hw V hq2) (by decide) (Nat.le_of_ble_eq_true rfl) rfl ?_
  refine Ev.istDN (L' := [.val (.ref o), .val (.int a0), .val (.int a1), .val (.int q1.1)]) (d8 6 rfl) rfl rfl rfl ?_
  refine Ev.aloadN (d8 7 rfl) rfl ?_
  refine Ev.iloadN (d8 8 rfl) rfl ?_
  refine Ev.pI V (gok hw) (ww hw 80 rfl) (Or.inl (ww hw 81 rfl)) (d8 9 rfl) (j := 22) rfl ?_
  revert hr
  generalize setI q1.2 22 q1.1 = s3
  intro hr
  replace hr := (bnd_eq _ _).symm.trans hr
  refine Ev.iloadN (d8 10 rfl) rfl ?_
  refine Ev.iconst (z := 1) (d8 11 rfl) rfl ?_
  refine Ev.iceq (t := 24) (d8 12 rfl) rfl (fun c4 => ?_) (fun c4 => ?_)
  · replace hr := (if_pos c4).symm.trans hr
    exact e_read_24 hw V  s3 (.val (.int a0)) rfl (.val (.int a1)) rfl (.val (.int q1.1)) rfl _ hr
  · replace hr := (if_neg c4).symm.trans hr
    refine Ev.iloadN (d8 13 rfl) rfl ?_
    refine Ev.iconst (z := 2) (d8 14 rfl) rfl ?_
    refine Ev.icne (t := 34) (d8 15 rfl) rfl (fun c5 => ?_) (fun c5 => ?_)
    · replace hr := (if_pos c5).symm.trans hr
      exact e_read_24 hw V  s3 (.val (.int a0)) rfl (.val (.int a1)) rfl (.val (.int q1.1)) rfl _ hr
    · replace hr := (if_neg c5).symm.trans hr
      refine Ev.iconst (z := 0) (d8 22 rfl) rfl ?_
      cases hr
      exact Ev.ireturn rfl (d8 23 rfl)
def f_lastStatus (s : St) : Option (Int32) :=
  some (s.1 22)
set_option maxRecDepth 100000 in
theorem e_lastStatus {g : GT} {s : St} {w : Int32} (hw : HW g) {K : St → MHeap} {o : Nat} {r : Nat → Nat} (V : View (GG g) Ln K o r) (hr : f_lastStatus s = some w) : EvC (GG g) M_lastStatus [.ref o] (K s) ((some (.int w)), (K s)) := by
  refine EvC.enter (L0 := [.val (.ref o)]) pl_lastStatus (fun h => nomatch h) rfl rfl ?_
  unfold f_lastStatus at hr
  refine Ev.aloadN (d9 0 rfl) rfl ?_
  refine Ev.gI V (ww hw 80 rfl) (d9 1 rfl) (j := 22) rfl rfl ?_
  cases hr
  exact Ev.ireturn rfl (d9 2 rfl)
def f_hand (s : St) : Option (Int32) :=
  some (s.1 20)
set_option maxRecDepth 100000 in
theorem e_hand {g : GT} {s : St} {w : Int32} (hw : HW g) {K : St → MHeap} {o : Nat} {r : Nat → Nat} (V : View (GG g) Ln K o r) (hr : f_hand s = some w) : EvC (GG g) M_hand [.ref o] (K s) ((some (.int w)), (K s)) := by
  refine EvC.enter (L0 := [.val (.ref o)]) pl_hand (fun h => nomatch h) rfl rfl ?_
  unfold f_hand at hr
  refine Ev.aloadN (d10 0 rfl) rfl ?_
  refine Ev.gI V (ww hw 72 rfl) (d10 1 rfl) (j := 20) rfl rfl ?_
  cases hr
  exact Ev.ireturn rfl (d10 2 rfl)
def f_frameInfo (s : St) (a0 : Int32) : Option (Int32) :=
  if a0 < 0 then
    some (-1 : Int32)
  else
    if a0 < (s.1 15) then
      grd (inb a0 32) <|
      if (s.2 2 (ix a0)) < 0 then
        some (0 : Int32)
      else
        bnd (((((32 : Int32) + ((s.2 2 (ix a0)) * (8 : Int32))) + (s.2 3 (ix a0))) + ((64 : Int32) * (s.2 5 (ix a0)))) + ((128 : Int32) * (s.2 6 (ix a0)))) fun v5 =>
        if (s.2 8 (ix a0)) = 0 then
          some v5
        else
          some (v5 + (256 : Int32))
    else
      some (-1 : Int32)
set_option maxRecDepth 100000 in
theorem e_frameInfo {g : GT} {s : St} {a0 : Int32} {w : Int32} (hw : HW g) {K : St → MHeap} {o : Nat} {r : Nat → Nat} (V : View (GG g) Ln K o r) (hr : f_frameInfo s a0 = some w) : EvC (GG g) M_frameInfo [.ref o, .int a0] (K s) ((some (.int w)), (K s)) := by
  refine EvC.enter (L0 := [.val (.ref o), .val (.int a0), .unset, .unset]) pl_frameInfo (fun h => nomatch h) rfl rfl ?_
  unfold f_frameInfo at hr
  refine Ev.iloadN (d12 0 rfl) rfl ?_
  refine Ev.iflt (t := 12) (d12 1 rfl) rfl (fun c1 => ?_) (fun c1 => ?_)
  · replace hr := (if_pos c1).symm.trans hr
    refine Ev.iconst (z := -1) (d12 6 rfl) rfl ?_
    cases hr
    exact Ev.ireturn rfl (d12 7 rfl)
  · replace hr := (if_neg c1).symm.trans hr
    refine Ev.iloadN (d12 2 rfl) rfl ?_
    refine Ev.aloadN (d12 3 rfl) rfl ?_
    refine Ev.gI V (ww hw 45 rfl) (d12 4 rfl) (j := 15) rfl rfl ?_
    refine Ev.iclt (t := 14) (d12 5 rfl) rfl (fun c2 => ?_) (fun c2 => ?_)
    · replace hr := (if_pos c2).symm.trans hr
      refine Ev.aloadN (d12 8 rfl) rfl ?_
      refine Ev.gAr V (ww hw 14 rfl) (d12 9 rfl) (j := 2) rfl ?_
      refine Ev.iloadN (d12 10 rfl) rfl ?_
      obtain ⟨b3, hr⟩ := grd_some hr
      refine Ev.ial V (j := 2) rfl rfl (d12 11 rfl) b3 ?_
      refine Ev.istDN (L' := [.val (.ref o), .val (.int a0), .val (.int (s.2 2 (ix a0))), .unset]) (d12 12 rfl) rfl rfl rfl ?_
      refine Ev.iloadN (d12 13 rfl) rfl ?_
      refine Ev.ifge (t := 27) (d12 14 rfl) rfl (fun c4 => ?_) (fun c4 => ?_)
      · replace hr := (if_pos c4).symm.trans hr
        refine Ev.iconst (z := 0) (d12 15 rfl) rfl ?_
        cases hr
        exact Ev.ireturn rfl (d12 16 rfl)
      · replace hr := (if_neg c4).symm.trans hr
        refine Ev.bipush (z := 32) (d12 17 rfl) rfl ?_
        refine Ev.iloadN (d12 18 rfl) rfl ?_
        refine Ev.bipush (z := 8) (d12 19 rfl) rfl ?_
        refine Ev.imul (d12 20 rfl) ?_
        refine Ev.iadd (d12 21 rfl) ?_
        refine Ev.aloadN (d12 22 rfl) rfl ?_
        refine Ev.gAr V (ww hw 16 rfl) (d12 23 rfl) (j := 3) rfl ?_
        refine Ev.iloadN (d12 24 rfl) rfl ?_
        refine Ev.ial V (j := 3) rfl rfl (d12 25 rfl) b3 ?_
        refine Ev.iadd (d12 26 rfl) ?_
        refine Ev.bipush (z := 64) (d12 27 rfl) rfl ?_
        refine Ev.aloadN (d12 28 rfl) rfl ?_
        refine Ev.gAr V (ww hw 20 rfl) (d12 29 rfl) (j := 5) rfl ?_
        refine Ev.iloadN (d12 30 rfl) rfl ?_
        refine Ev.ial V (j := 5) rfl rfl (d12 31 rfl) b3 ?_
        refine Ev.imul (d12 32 rfl) ?_
        refine Ev.iadd (d12 33 rfl) ?_
        refine Ev.sipush (z := 128) (d12 34 rfl) rfl ?_
        refine Ev.aloadN (d12 35 rfl) rfl ?_
        refine Ev.gAr V (ww hw 22 rfl) (d12 36 rfl) (j := 6) rfl ?_
        refine Ev.iloadN (d12 37 rfl) rfl ?_
        refine Ev.ial V (j := 6) rfl rfl (d12 38 rfl) b3 ?_
        refine Ev.imul (d12 39 rfl) ?_
        refine Ev.iadd (d12 40 rfl) ?_
        revert hr
        generalize (((((32 : Int32) + ((s.2 2 (ix a0)) * (8 : Int32))) + (s.2 3 (ix a0))) + ((64 : Int32) * (s.2 5 (ix a0)))) + ((128 : Int32) * (s.2 6 (ix a0)))) = v5
        intro hr
        replace hr := (bnd_eq _ _).symm.trans hr
        refine Ev.istDN (L' := [.val (.ref o), .val (.int a0), .val (.int (s.2 2 (ix a0))), .val (.int v5)]) (d12 41 rfl) rfl rfl rfl ?_
        refine Ev.aloadN (d12 42 rfl) rfl ?_
        refine Ev.gAr V (ww hw 26 rfl) (d12 43 rfl) (j := 8) rfl ?_
        refine Ev.iloadN (d12 44 rfl) rfl ?_
        refine Ev.ial V (j := 8) rfl rfl (d12 45 rfl) b3 ?_
        refine Ev.ifeq (t := 78) (d12 46 rfl) rfl (fun c6 => ?_) (fun c6 => ?_)
        · replace hr := (if_pos c6).symm.trans hr
          refine Ev.iloadN (d12 48 rfl) rfl ?_
          cases hr
          exact Ev.ireturn rfl (d12 49 rfl)
        · replace hr := (if_neg c6).symm.trans hr
          refine Ev.iincW (z := 256) (L' := [.val (.ref o), .val (.int a0), .val (.int (s.2 2 (ix a0))), .val (.int (v5 + (256 : Int32)))]) (d12 47 rfl) rfl rfl rfl ?_
          refine Ev.iloadN (d12 48 rfl) rfl ?_
          cases hr
          exact Ev.ireturn rfl (d12 49 rfl)
    · replace hr := (if_neg c2).symm.trans hr
      refine Ev.iconst (z := -1) (d12 6 rfl) rfl ?_
      cases hr
      exact Ev.ireturn rfl (d12 7 rfl)
def f_dueTime (s : St) (a0 : Int32) : Option (Int32) :=
  if a0 < 0 then
    some (0 : Int32)
  else
    if a0 < (s.1 15) then
      grd (inb a0 32) <|
      if (s.2 2 (ix a0)) < 0 then
        some (0 : Int32)
      else
        some (s.2 8 (ix a0))
    else
      some (0 : Int32)
set_option maxRecDepth 100000 in
theorem e_dueTime {g : GT} {s : St} {a0 : Int32} {w : Int32} (hw : HW g) {K : St → MHeap} {o : Nat} {r : Nat → Nat} (V : View (GG g) Ln K o r) (hr : f_dueTime s a0 = some w) : EvC (GG g) M_dueTime [.ref o, .int a0] (K s) ((some (.int w)), (K s)) := by
  refine EvC.enter (L0 := [.val (.ref o), .val (.int a0)]) pl_dueTime (fun h => nomatch h) rfl rfl ?_
  unfold f_dueTime at hr
  refine Ev.iloadN (d13 0 rfl) rfl ?_
  refine Ev.iflt (t := 21) (d13 1 rfl) rfl (fun c1 => ?_) (fun c1 => ?_)
  · replace hr := (if_pos c1).symm.trans hr
    refine Ev.iconst (z := 0) (d13 11 rfl) rfl ?_
    cases hr
    exact Ev.ireturn rfl (d13 12 rfl)
  · replace hr := (if_neg c1).symm.trans hr
    refine Ev.iloadN (d13 2 rfl) rfl ?_
    refine Ev.aloadN (d13 3 rfl) rfl ?_
    refine Ev.gI V (ww hw 45 rfl) (d13 4 rfl) (j := 15) rfl rfl ?_
    refine Ev.icge (t := 21) (d13 5 rfl) rfl (fun c2 => ?_) (fun c2 => ?_)
    · replace hr := (if_pos c2).symm.trans hr
      refine Ev.aloadN (d13 6 rfl) rfl ?_
      refine Ev.gAr V (ww hw 14 rfl) (d13 7 rfl) (j := 2) rfl ?_
      refine Ev.iloadN (d13 8 rfl) rfl ?_
      obtain ⟨b3, hr⟩ := grd_some hr
      refine Ev.ial V (j := 2) rfl rfl (d13 9 rfl) b3 ?_
      refine Ev.ifge (t := 23) (d13 10 rfl) rfl (fun c4 => ?_) (fun c4 => ?_)
      · replace hr := (if_pos c4).symm.trans hr
        refine Ev.iconst (z := 0) (d13 11 rfl) rfl ?_
        cases hr
        exact Ev.ireturn rfl (d13 12 rfl)
      · replace hr := (if_neg c4).symm.trans hr
        refine Ev.aloadN (d13 13 rfl) rfl ?_
        refine Ev.gAr V (ww hw 26 rfl) (d13 14 rfl) (j := 8) rfl ?_
        refine Ev.iloadN (d13 15 rfl) rfl ?_
        refine Ev.ial V (j := 8) rfl rfl (d13 16 rfl) b3 ?_
        cases hr
        exact Ev.ireturn rfl (d13 17 rfl)
    · replace hr := (if_neg c2).symm.trans hr
      refine Ev.iconst (z := 0) (d13 11 rfl) rfl ?_
      cases hr
      exact Ev.ireturn rfl (d13 12 rfl)
def f_frameOf (s : St) (a0 : Int32) (a1 : Int32) : Option (Int32) :=
  if a0 < 0 then
    some (-1 : Int32)
  else
    if (3 : Int32) < a0 then
      some (-1 : Int32)
    else
      if a1 < 0 then
        some (-1 : Int32)
      else
        if (7 : Int32) < a1 then
          some (-1 : Int32)
        else
          grd (inb ((a0 * (8 : Int32)) + a1) 32) <|
          some (s.2 1 (ix ((a0 * (8 : Int32)) + a1)))
set_option maxRecDepth 100000 in
theorem e_frameOf {g : GT} {s : St} {a0 : Int32} {a1 : Int32} {w : Int32} (hw : HW g) {K : St → MHeap} {o : Nat} {r : Nat → Nat} (V : View (GG g) Ln K o r) (hr : f_frameOf s a0 a1 = some w) : EvC (GG g) M_frameOf [.ref o, .int a0, .int a1] (K s) ((some (.int w)), (K s)) := by
  refine EvC.enter (L0 := [.val (.ref o), .val (.int a0), .val (.int a1)]) pl_frameOf (fun h => nomatch h) rfl rfl ?_
  unfold f_frameOf at hr
  refine Ev.iloadN (d14 0 rfl) rfl ?_
  refine Ev.iflt (t := 19) (d14 1 rfl) rfl (fun c1 => ?_) (fun c1 => ?_)
  · replace hr := (if_pos c1).symm.trans hr
    refine Ev.iconst (z := -1) (d14 10 rfl) rfl ?_
    cases hr
    exact Ev.ireturn rfl (d14 11 rfl)
  · replace hr := (if_neg c1).symm.trans hr
    refine Ev.iloadN (d14 2 rfl) rfl ?_
    refine Ev.iconst (z := 3) (d14 3 rfl) rfl ?_
    refine Ev.icgt (t := 19) (d14 4 rfl) rfl (fun c2 => ?_) (fun c2 => ?_)
    · replace hr := (if_pos c2).symm.trans hr
      refine Ev.iconst (z := -1) (d14 10 rfl) rfl ?_
      cases hr
      exact Ev.ireturn rfl (d14 11 rfl)
    · replace hr := (if_neg c2).symm.trans hr
      refine Ev.iloadN (d14 5 rfl) rfl ?_
      refine Ev.iflt (t := 19) (d14 6 rfl) rfl (fun c3 => ?_) (fun c3 => ?_)
      · replace hr := (if_pos c3).symm.trans hr
        refine Ev.iconst (z := -1) (d14 10 rfl) rfl ?_
        cases hr
        exact Ev.ireturn rfl (d14 11 rfl)
      · replace hr := (if_neg c3).symm.trans hr
        refine Ev.iloadN (d14 7 rfl) rfl ?_
        refine Ev.bipush (z := 7) (d14 8 rfl) rfl ?_
        refine Ev.icle (t := 21) (d14 9 rfl) rfl (fun c4 => ?_) (fun c4 => ?_)
        · replace hr := (if_pos c4).symm.trans hr
          refine Ev.iconst (z := -1) (d14 10 rfl) rfl ?_
          cases hr
          exact Ev.ireturn rfl (d14 11 rfl)
        · replace hr := (if_neg c4).symm.trans hr
          refine Ev.aloadN (d14 12 rfl) rfl ?_
          refine Ev.gAr V (ww hw 12 rfl) (d14 13 rfl) (j := 1) rfl ?_
          refine Ev.iloadN (d14 14 rfl) rfl ?_
          refine Ev.bipush (z := 8) (d14 15 rfl) rfl ?_
          refine Ev.imul (d14 16 rfl) ?_
          refine Ev.iloadN (d14 17 rfl) rfl ?_
          refine Ev.iadd (d14 18 rfl) ?_
          obtain ⟨b5, hr⟩ := grd_some hr
          refine Ev.ial V (j := 1) rfl rfl (d14 19 rfl) b5 ?_
          cases hr
          exact Ev.ireturn rfl (d14 20 rfl)
def f_diskValue (s : St) (a0 : Int32) (a1 : Int32) : Option (Int32) :=
  if a0 < 0 then
    some (0 : Int32)
  else
    if (3 : Int32) < a0 then
      some (0 : Int32)
    else
      if a1 < 0 then
        some (0 : Int32)
      else
        if (7 : Int32) < a1 then
          some (0 : Int32)
        else
          grd (inb ((a0 * (8 : Int32)) + a1) 32) <|
          some (s.2 0 (ix ((a0 * (8 : Int32)) + a1)))
set_option maxRecDepth 100000 in
theorem e_diskValue {g : GT} {s : St} {a0 : Int32} {a1 : Int32} {w : Int32} (hw : HW g) {K : St → MHeap} {o : Nat} {r : Nat → Nat} (V : View (GG g) Ln K o r) (hr : f_diskValue s a0 a1 = some w) : EvC (GG g) M_diskValue [.ref o, .int a0, .int a1] (K s) ((some (.int w)), (K s)) := by
  refine EvC.enter (L0 := [.val (.ref o), .val (.int a0), .val (.int a1)]) pl_diskValue (fun h => nomatch h) rfl rfl ?_
  unfold f_diskValue at hr
  refine Ev.iloadN (d15 0 rfl) rfl ?_
  refine Ev.iflt (t := 19) (d15 1 rfl) rfl (fun c1 => ?_) (fun c1 => ?_)
  · replace hr := (if_pos c1).symm.trans hr
    refine Ev.iconst (z := 0) (d15 10 rfl) rfl ?_
    cases hr
    exact Ev.ireturn rfl (d15 11 rfl)
  · replace hr := (if_neg c1).symm.trans hr
    refine Ev.iloadN (d15 2 rfl) rfl ?_
    refine Ev.iconst (z := 3) (d15 3 rfl) rfl ?_
    refine Ev.icgt (t := 19) (d15 4 rfl) rfl (fun c2 => ?_) (fun c2 => ?_)
    · replace hr := (if_pos c2).symm.trans hr
      refine Ev.iconst (z := 0) (d15 10 rfl) rfl ?_
      cases hr
      exact Ev.ireturn rfl (d15 11 rfl)
    · replace hr := (if_neg c2).symm.trans hr
      refine Ev.iloadN (d15 5 rfl) rfl ?_
      refine Ev.iflt (t := 19) (d15 6 rfl) rfl (fun c3 => ?_) (fun c3 => ?_)
      · replace hr := (if_pos c3).symm.trans hr
        refine Ev.iconst (z := 0) (d15 10 rfl) rfl ?_
        cases hr
        exact Ev.ireturn rfl (d15 11 rfl)
      · replace hr := (if_neg c3).symm.trans hr
        refine Ev.iloadN (d15 7 rfl) rfl ?_
        refine Ev.bipush (z := 7) (d15 8 rfl) rfl ?_
        refine Ev.icle (t := 21) (d15 9 rfl) rfl (fun c4 => ?_) (fun c4 => ?_)
        · replace hr := (if_pos c4).symm.trans hr
          refine Ev.iconst (z := 0) (d15 10 rfl) rfl ?_
          cases hr
          exact Ev.ireturn rfl (d15 11 rfl)
        · replace hr := (if_neg c4).symm.trans hr
          refine Ev.aloadN (d15 12 rfl) rfl ?_
          refine Ev.gAr V (ww hw 10 rfl) (d15 13 rfl) (j := 0) rfl ?_
          refine Ev.iloadN (d15 14 rfl) rfl ?_
          refine Ev.bipush (z := 8) (d15 15 rfl) rfl ?_
          refine Ev.imul (d15 16 rfl) ?_
          refine Ev.iloadN (d15 17 rfl) rfl ?_
          refine Ev.iadd (d15 18 rfl) ?_
          obtain ⟨b5, hr⟩ := grd_some hr
          refine Ev.ial V (j := 0) rfl rfl (d15 19 rfl) b5 ?_
          cases hr
          exact Ev.ireturn rfl (d15 20 rfl)
def f_tick (n : Nat) (s : St) : Option (Int32 × St) :=
  bnd (setI s 19 ((s.1 19) + (1 : Int32))) fun s1 =>
  (f_completeWriteBacks n s1).bind fun q2 =>
  some (q2.1, q2.2)
set_option maxRecDepth 100000 in
theorem e_tick {g : GT} {n : Nat} {s : St} {w : Int32 × St} (hw : HW g) {K : St → MHeap} {o : Nat} {r : Nat → Nat} (V : View (GG g) Ln K o r) (hr : f_tick n s = some w) : EvC (GG g) M_tick [.ref o] (K s) ((some (.int w.1)), (K w.2)) := by
  refine EvC.enter (L0 := [.val (.ref o)]) pl_tick (fun h => nomatch h) rfl rfl ?_
  unfold f_tick at hr
  refine Ev.aloadN (d16 0 rfl) rfl ?_
  refine Ev.dup (d16 1 rfl) rfl ?_
  refine Ev.gI V (ww hw 62 rfl) (d16 2 rfl) (j := 19) rfl rfl ?_
  refine Ev.iconst (z := 1) (d16 3 rfl) rfl ?_
  refine Ev.iadd (d16 4 rfl) ?_
  refine Ev.pI V (gok hw) (ww hw 62 rfl) (Or.inl (ww hw 63 rfl)) (d16 5 rfl) (j := 19) rfl ?_
  revert hr
  generalize setI s 19 ((s.1 19) + (1 : Int32)) = s1
  intro hr
  replace hr := (bnd_eq _ _).symm.trans hr
  refine Ev.aloadN (d16 6 rfl) rfl ?_
  obtain ⟨q2, hq3, hr⟩ := Option.bind_eq_some_iff.mp hr
  refine Ev.priv (y := M_completeWriteBacks) (args := []) (rest := []) (gok hw) rfl nm_completeWriteBacks (ww hw 64 rfl) (ww hw 65 rfl) (ww hw 66 rfl) (ww hw 67 rfl) (lenOf pd_completeWriteBacks rfl) (d16 7 rfl) (V.2.1 s1) (e_completeWriteBacks hw V hq3) (by decide) (Nat.le_of_ble_eq_true rfl) rfl ?_
  cases hr
  exact Ev.ireturn rfl (d16 8 rfl)
def f_now (s : St) : Option (Int32) :=
  some (s.1 19)
set_option maxRecDepth 100000 in
theorem e_now {g : GT} {s : St} {w : Int32} (hw : HW g) {K : St → MHeap} {o : Nat} {r : Nat → Nat} (V : View (GG g) Ln K o r) (hr : f_now s = some w) : EvC (GG g) M_now [.ref o] (K s) ((some (.int w)), (K s)) := by
  refine EvC.enter (L0 := [.val (.ref o)]) pl_now (fun h => nomatch h) rfl rfl ?_
  unfold f_now at hr
  refine Ev.aloadN (d17 0 rfl) rfl ?_
  refine Ev.gI V (ww hw 62 rfl) (d17 1 rfl) (j := 19) rfl rfl ?_
  cases hr
  exact Ev.ireturn rfl (d17 2 rfl)
def f_procInfo (s : St) (a0 : Int32) (a1 : Int32) : Option (Int32) :=
  if a0 < 0 then
    some (-1 : Int32)
  else
    if (3 : Int32) < a0 then
      some (-1 : Int32)
    else
      if a1 = 0 then
        grd (inb a0 4) <|
        some (s.2 10 (ix a0))
      else
        if a1 = (1 : Int32) then
          grd (inb a0 4) <|
          some (s.2 11 (ix a0))
        else
          if a1 = (2 : Int32) then
            grd (inb a0 4) <|
            if (s.2 9 (ix a0)) = 0 then
              some (0 : Int32)
            else
              some (1 : Int32)
          else
            if a1 = (3 : Int32) then
              grd (inb a0 4) <|
              some (s.2 12 (ix a0))
            else
              if a1 = (4 : Int32) then
                grd (inb a0 4) <|
                some (s.2 13 (ix a0))
              else
                if a1 = (5 : Int32) then
                  grd (inb a0 4) <|
                  some (s.2 14 (ix a0))
                else
                  some (-1 : Int32)
set_option maxRecDepth 100000 in
theorem e_procInfo {g : GT} {s : St} {a0 : Int32} {a1 : Int32} {w : Int32} (hw : HW g) {K : St → MHeap} {o : Nat} {r : Nat → Nat} (V : View (GG g) Ln K o r) (hr : f_procInfo s a0 a1 = some w) : EvC (GG g) M_procInfo [.ref o, .int a0, .int a1] (K s) ((some (.int w)), (K s)) := by
  refine EvC.enter (L0 := [.val (.ref o), .val (.int a0), .val (.int a1)]) pl_procInfo (fun h => nomatch h) rfl rfl ?_
  unfold f_procInfo at hr
  refine Ev.iloadN (d18 0 rfl) rfl ?_
  refine Ev.iflt (t := 9) (d18 1 rfl) rfl (fun c1 => ?_) (fun c1 => ?_)
  · replace hr := (if_pos c1).symm.trans hr
    refine Ev.iconst (z := -1) (d18 5 rfl) rfl ?_
    cases hr
    exact Ev.ireturn rfl (d18 6 rfl)
  · replace hr := (if_neg c1).symm.trans hr
    refine Ev.iloadN (d18 2 rfl) rfl ?_
    refine Ev.iconst (z := 3) (d18 3 rfl) rfl ?_
    refine Ev.icle (t := 11) (d18 4 rfl) rfl (fun c2 => ?_) (fun c2 => ?_)
    · replace hr := (if_pos c2).symm.trans hr
      refine Ev.iconst (z := -1) (d18 5 rfl) rfl ?_
      cases hr
      exact Ev.ireturn rfl (d18 6 rfl)
    · replace hr := (if_neg c2).symm.trans hr
      refine Ev.iloadN (d18 7 rfl) rfl ?_
      refine Ev.ifne (t := 22) (d18 8 rfl) rfl (fun c3 => ?_) (fun c3 => ?_)
      · replace hr := (if_pos c3).symm.trans hr
        refine Ev.aloadN (d18 9 rfl) rfl ?_
        refine Ev.gAr V (ww hw 31 rfl) (d18 10 rfl) (j := 10) rfl ?_
        refine Ev.iloadN (d18 11 rfl) rfl ?_
        obtain ⟨b4, hr⟩ := grd_some hr
        refine Ev.ial V (j := 10) rfl rfl (d18 12 rfl) b4 ?_
        cases hr
        exact Ev.ireturn rfl (d18 13 rfl)
      · replace hr := (if_neg c3).symm.trans hr
        refine Ev.iloadN (d18 14 rfl) rfl ?_
        refine Ev.iconst (z := 1) (d18 15 rfl) rfl ?_
        refine Ev.icne (t := 34) (d18 16 rfl) rfl (fun c5 => ?_) (fun c5 => ?_)
        · replace hr := (if_pos c5).symm.trans hr
          refine Ev.aloadN (d18 17 rfl) rfl ?_
          refine Ev.gAr V (ww hw 33 rfl) (d18 18 rfl) (j := 11) rfl ?_
          refine Ev.iloadN (d18 19 rfl) rfl ?_
          obtain ⟨b6, hr⟩ := grd_some hr
          refine Ev.ial V (j := 11) rfl rfl (d18 20 rfl) b6 ?_
          cases hr
          exact Ev.ireturn rfl (d18 21 rfl)
        · replace hr := (if_neg c5).symm.trans hr
          refine Ev.iloadN (d18 22 rfl) rfl ?_
          refine Ev.iconst (z := 2) (d18 23 rfl) rfl ?_
          refine Ev.icne (t := 54) (d18 24 rfl) rfl (fun c7 => ?_) (fun c7 => ?_)
          · replace hr := (if_pos c7).symm.trans hr
            refine Ev.aloadN (d18 25 rfl) rfl ?_
            refine Ev.gAr V (ww hw 29 rfl) (d18 26 rfl) (j := 9) rfl ?_
            refine Ev.iloadN (d18 27 rfl) rfl ?_
            obtain ⟨b8, hr⟩ := grd_some hr
            refine Ev.bal V (j := 9) rfl rfl (d18 28 rfl) b8 ?_
            refine Ev.ifeq (t := 52) (d18 29 rfl) rfl (fun c9 => ?_) (fun c9 => ?_)
            · replace hr := (if_pos c9).symm.trans hr
              refine Ev.iconst (z := 0) (d18 32 rfl) rfl ?_
              cases hr
              exact Ev.ireturn rfl (d18 33 rfl)
            · replace hr := (if_neg c9).symm.trans hr
              refine Ev.iconst (z := 1) (d18 30 rfl) rfl ?_
              refine Ev.goto (t := 53) (d18 31 rfl) rfl ?_
              cases hr
              exact Ev.ireturn rfl (d18 33 rfl)
          · replace hr := (if_neg c7).symm.trans hr
            refine Ev.iloadN (d18 34 rfl) rfl ?_
            refine Ev.iconst (z := 3) (d18 35 rfl) rfl ?_
            refine Ev.icne (t := 66) (d18 36 rfl) rfl (fun c10 => ?_) (fun c10 => ?_)
            · replace hr := (if_pos c10).symm.trans hr
              refine Ev.aloadN (d18 37 rfl) rfl ?_
              refine Ev.gAr V (ww hw 35 rfl) (d18 38 rfl) (j := 12) rfl ?_
              refine Ev.iloadN (d18 39 rfl) rfl ?_
              obtain ⟨b11, hr⟩ := grd_some hr
              refine Ev.ial V (j := 12) rfl rfl (d18 40 rfl) b11 ?_
              cases hr
              exact Ev.ireturn rfl (d18 41 rfl)
            · replace hr := (if_neg c10).symm.trans hr
              refine Ev.iloadN (d18 42 rfl) rfl ?_
              refine Ev.iconst (z := 4) (d18 43 rfl) rfl ?_
              refine Ev.icne (t := 78) (d18 44 rfl) rfl (fun c12 => ?_) (fun c12 => ?_)
              · replace hr := (if_pos c12).symm.trans hr
                refine Ev.aloadN (d18 45 rfl) rfl ?_
                refine Ev.gAr V (ww hw 37 rfl) (d18 46 rfl) (j := 13) rfl ?_
                refine Ev.iloadN (d18 47 rfl) rfl ?_
                obtain ⟨b13, hr⟩ := grd_some hr
                refine Ev.ial V (j := 13) rfl rfl (d18 48 rfl) b13 ?_
                cases hr
                exact Ev.ireturn rfl (d18 49 rfl)
              · replace hr := (if_neg c12).symm.trans hr
                refine Ev.iloadN (d18 50 rfl) rfl ?_
                refine Ev.iconst (z := 5) (d18 51 rfl) rfl ?_
                refine Ev.icne (t := 90) (d18 52 rfl) rfl (fun c14 => ?_) (fun c14 => ?_)
                · replace hr := (if_pos c14).symm.trans hr
                  refine Ev.aloadN (d18 53 rfl) rfl ?_
                  refine Ev.gAr V (ww hw 39 rfl) (d18 54 rfl) (j := 14) rfl ?_
                  refine Ev.iloadN (d18 55 rfl) rfl ?_
                  obtain ⟨b15, hr⟩ := grd_some hr
                  refine Ev.ial V (j := 14) rfl rfl (d18 56 rfl) b15 ?_
                  cases hr
                  exact Ev.ireturn rfl (d18 57 rfl)
                · replace hr := (if_neg c14).symm.trans hr
                  refine Ev.iconst (z := -1) (d18 58 rfl) rfl ?_
                  cases hr
                  exact Ev.ireturn rfl (d18 59 rfl)
def f_law_726 (n : Nat) (z0 : Int32) (z1 : Int32) (s : St) : Option (Int32 × St) :=
  some (((z1 &&& z0) &&& 1), s)
set_option maxRecDepth 100000 in
theorem e_law_726 {g : GT} {n : Nat} (hw : HW g) {K : St → MHeap} {o : Nat} {r : Nat → Nat} (V : View (GG g) Ln K o r) (z0 : Int32) (z1 : Int32) (s : St) (y0 : Slot) (hy0 : one1 y0 = true) (y1 : Slot) (hy1 : one1 y1 = true) (y2 : Slot) (hy2 : one1 y2 = true) (y3 : Slot) (hy3 : one1 y3 = true) (y4 : Slot) (hy4 : one1 y4 = true) (y5 : Slot) (hy5 : one1 y5 = true) (w : Int32 × St) (hr : f_law_726 n z0 z1 s = some w) : Ev (GG g) M_law 726 [y0, y1, y2, y3, y4, y5] [.int z0, .int z1] (K s) ((some (.int w.1)), (K w.2)) := by
  unfold f_law_726 at hr
  refine Ev.iand at_726 ?_
  refine Ev.istD (L' := [y0, y1, y2, y3, y4, .val (.int (z1 &&& z0))]) at_727 rfl hy5 rfl ?_
  refine Ev.iload at_729 rfl ?_
  cases hr
  exact Ev.zreturn rfl at_731
def f_law_704 (n : Nat) (x3 : Int32) (z0 : Int32) (z1 : Int32) (s : St) : Option (Int32 × St) :=
  (f_procInfo s x3 (0 : Int32)).bind fun q1 =>
  if q1 = (9 : Int32) then
    f_law_726 n (1 : Int32) (z1 &&& z0) s
  else
    f_law_726 n (0 : Int32) (z1 &&& z0) s
set_option maxRecDepth 100000 in
theorem e_law_704 {g : GT} {n : Nat} (hw : HW g) {K : St → MHeap} {o : Nat} {r : Nat → Nat} (V : View (GG g) Ln K o r) (x3 : Int32) (z0 : Int32) (z1 : Int32) (s : St) (y0 : Slot) (hy0 : one1 y0 = true) (y1 : Slot) (hy1 : one1 y1 = true) (y2 : Slot) (hy2 : one1 y2 = true) (y5 : Slot) (hy5 : one1 y5 = true) (w : Int32 × St) (hr : f_law_704 n x3 z0 z1 s = some w) : Ev (GG g) M_law 704 [y0, y1, y2, .val (.int x3), .val (.ref o), y5] [.int z0, .int z1] (K s) ((some (.int w.1)), (K w.2)) := by
  unfold f_law_704 at hr
  refine Ev.iand at_704 ?_
  refine Ev.istD (L' := [y0, y1, y2, .val (.int x3), .val (.ref o), .val (.int (z1 &&& z0))]) at_705 rfl hy5 rfl ?_
  refine Ev.iload at_707 rfl ?_
  refine Ev.aload at_709 rfl ?_
  refine Ev.iloadN at_711 rfl ?_
  refine Ev.iconst (z := 0) at_712 rfl ?_
  obtain ⟨q1, hq2, hr⟩ := Option.bind_eq_some_iff.mp hr
  refine Ev.virt (y := M_procInfo) (args := [.int x3, .int (0 : Int32)]) (rest := [.int (z1 &&& z0)]) (gok hw) rfl nm_procInfo (ww hw 131 rfl) (ww hw 132 rfl) (ww hw 133 rfl) (ww hw 134 rfl) (ww hw 135 rfl) (lenOf pd_procInfo rfl) at_713 (V.2.1 s) (e_procInfo hw V hq2) (by decide) (Nat.le_of_ble_eq_true rfl) rfl ?_
  refine Ev.bipush (z := 9) at_716 rfl ?_
  refine Ev.icne (t := 725) at_718 rfl (fun c3 => ?_) (fun c3 => ?_)
  · replace hr := (if_pos c3).symm.trans hr
    refine Ev.iconst (z := 1) at_721 rfl ?_
    refine Ev.goto (t := 726) at_722 rfl ?_
    exact e_law_726 hw V  (1 : Int32) (z1 &&& z0) s y0 hy0 y1 hy1 y2 hy2 (.val (.int x3)) rfl (.val (.ref o)) rfl (.val (.int (z1 &&& z0))) rfl _ hr
  · replace hr := (if_neg c3).symm.trans hr
    refine Ev.iconst (z := 0) at_725 rfl ?_
    exact e_law_726 hw V  (0 : Int32) (z1 &&& z0) s y0 hy0 y1 hy1 y2 hy2 (.val (.int x3)) rfl (.val (.ref o)) rfl (.val (.int (z1 &&& z0))) rfl _ hr
def f_law_682 (n : Nat) (x3 : Int32) (z0 : Int32) (z1 : Int32) (s : St) : Option (Int32 × St) :=
  (f_procInfo s x3 (1 : Int32)).bind fun q1 =>
  if q1 = (8 : Int32) then
    f_law_704 n x3 (1 : Int32) (z1 &&& z0) s
  else
    f_law_704 n x3 (0 : Int32) (z1 &&& z0) s
set_option maxRecDepth 100000 in
theorem e_law_682 {g : GT} {n : Nat} (hw : HW g) {K : St → MHeap} {o : Nat} {r : Nat → Nat} (V : View (GG g) Ln K o r) (x3 : Int32) (z0 : Int32) (z1 : Int32) (s : St) (y0 : Slot) (hy0 : one1 y0 = true) (y1 : Slot) (hy1 : one1 y1 = true) (y2 : Slot) (hy2 : one1 y2 = true) (y5 : Slot) (hy5 : one1 y5 = true) (w : Int32 × St) (hr : f_law_682 n x3 z0 z1 s = some w) : Ev (GG g) M_law 682 [y0, y1, y2, .val (.int x3), .val (.ref o), y5] [.int z0, .int z1] (K s) ((some (.int w.1)), (K w.2)) := by
  unfold f_law_682 at hr
  refine Ev.iand at_682 ?_
  refine Ev.istD (L' := [y0, y1, y2, .val (.int x3), .val (.ref o), .val (.int (z1 &&& z0))]) at_683 rfl hy5 rfl ?_
  refine Ev.iload at_685 rfl ?_
  refine Ev.aload at_687 rfl ?_
  refine Ev.iloadN at_689 rfl ?_
  refine Ev.iconst (z := 1) at_690 rfl ?_
  obtain ⟨q1, hq2, hr⟩ := Option.bind_eq_some_iff.mp hr
  refine Ev.virt (y := M_procInfo) (args := [.int x3, .int (1 : Int32)]) (rest := [.int (z1 &&& z0)]) (gok hw) rfl nm_procInfo (ww hw 131 rfl) (ww hw 132 rfl) (ww hw 133 rfl) (ww hw 134 rfl) (ww hw 135 rfl) (lenOf pd_procInfo rfl) at_691 (V.2.1 s) (e_procInfo hw V hq2) (by decide) (Nat.le_of_ble_eq_true rfl) rfl ?_
  refine Ev.bipush (z := 8) at_694 rfl ?_
  refine Ev.icne (t := 703) at_696 rfl (fun c3 => ?_) (fun c3 => ?_)
  · replace hr := (if_pos c3).symm.trans hr
    refine Ev.iconst (z := 1) at_699 rfl ?_
    refine Ev.goto (t := 704) at_700 rfl ?_
    exact e_law_704 hw V  x3 (1 : Int32) (z1 &&& z0) s y0 hy0 y1 hy1 y2 hy2 (.val (.int (z1 &&& z0))) rfl _ hr
  · replace hr := (if_neg c3).symm.trans hr
    refine Ev.iconst (z := 0) at_703 rfl ?_
    exact e_law_704 hw V  x3 (0 : Int32) (z1 &&& z0) s y0 hy0 y1 hy1 y2 hy2 (.val (.int (z1 &&& z0))) rfl _ hr
def f_law_662 (n : Nat) (x3 : Int32) (z0 : Int32) (z1 : Int32) (s : St) : Option (Int32 × St) :=
  (f_now s).bind fun q1 =>
  if q1 = (11 : Int32) then
    f_law_682 n x3 (1 : Int32) (z1 &&& z0) s
  else
    f_law_682 n x3 (0 : Int32) (z1 &&& z0) s
set_option maxRecDepth 100000 in
theorem e_law_662 {g : GT} {n : Nat} (hw : HW g) {K : St → MHeap} {o : Nat} {r : Nat → Nat} (V : View (GG g) Ln K o r) (x3 : Int32) (z0 : Int32) (z1 : Int32) (s : St) (y0 : Slot) (hy0 : one1 y0 = true) (y1 : Slot) (hy1 : one1 y1 = true) (y2 : Slot) (hy2 : one1 y2 = true) (y5 : Slot) (hy5 : one1 y5 = true) (w : Int32 × St) (hr : f_law_662 n x3 z0 z1 s = some w) : Ev (GG g) M_law 662 [y0, y1, y2, .val (.int x3), .val (.ref o), y5] [.int z0, .int z1] (K s) ((some (.int w.1)), (K w.2)) := by
  unfold f_law_662 at hr
  refine Ev.iand at_662 ?_
  refine Ev.istD (L' := [y0, y1, y2, .val (.int x3), .val (.ref o), .val (.int (z1 &&& z0))]) at_663 rfl hy5 rfl ?_
  refine Ev.iload at_665 rfl ?_
  refine Ev.aload at_667 rfl ?_
  obtain ⟨q1, hq2, hr⟩ := Option.bind_eq_some_iff.mp hr
  refine Ev.virt (y := M_now) (args := []) (rest := [.int (z1 &&& z0)]) (gok hw) rfl nm_now (ww hw 126 rfl) (ww hw 127 rfl) (ww hw 128 rfl) (ww hw 129 rfl) (ww hw 130 rfl) (lenOf pd_now rfl) at_669 (V.2.1 s) (e_now hw V hq2) (by decide) (Nat.le_of_ble_eq_true rfl) rfl ?_
  refine Ev.bipush (z := 11) at_672 rfl ?_
  refine Ev.icne (t := 681) at_674 rfl (fun c3 => ?_) (fun c3 => ?_)
  · replace hr := (if_pos c3).symm.trans hr
    refine Ev.iconst (z := 1) at_677 rfl ?_
    refine Ev.goto (t := 682) at_678 rfl ?_
    exact e_law_682 hw V  x3 (1 : Int32) (z1 &&& z0) s y0 hy0 y1 hy1 y2 hy2 (.val (.int (z1 &&& z0))) rfl _ hr
  · replace hr := (if_neg c3).symm.trans hr
    refine Ev.iconst (z := 0) at_681 rfl ?_
    exact e_law_682 hw V  x3 (0 : Int32) (z1 &&& z0) s y0 hy0 y1 hy1 y2 hy2 (.val (.int (z1 &&& z0))) rfl _ hr
def f_law_643 (n : Nat) (x3 : Int32) (z0 : Int32) (z1 : Int32) (s : St) : Option (Int32 × St) :=
  (f_hand s).bind fun q1 =>
  if q1 = (2 : Int32) then
    f_law_662 n x3 (1 : Int32) (z1 &&& z0) s
  else
    f_law_662 n x3 (0 : Int32) (z1 &&& z0) s
set_option maxRecDepth 100000 in
theorem e_law_643 {g : GT} {n : Nat} (hw : HW g) {K : St → MHeap} {o : Nat} {r : Nat → Nat} (V : View (GG g) Ln K o r) (x3 : Int32) (z0 : Int32) (z1 : Int32) (s : St) (y0 : Slot) (hy0 : one1 y0 = true) (y1 : Slot) (hy1 : one1 y1 = true) (y2 : Slot) (hy2 : one1 y2 = true) (y5 : Slot) (hy5 : one1 y5 = true) (w : Int32 × St) (hr : f_law_643 n x3 z0 z1 s = some w) : Ev (GG g) M_law 643 [y0, y1, y2, .val (.int x3), .val (.ref o), y5] [.int z0, .int z1] (K s) ((some (.int w.1)), (K w.2)) := by
  unfold f_law_643 at hr
  refine Ev.iand at_643 ?_
  refine Ev.istD (L' := [y0, y1, y2, .val (.int x3), .val (.ref o), .val (.int (z1 &&& z0))]) at_644 rfl hy5 rfl ?_
  refine Ev.iload at_646 rfl ?_
  refine Ev.aload at_648 rfl ?_
  obtain ⟨q1, hq2, hr⟩ := Option.bind_eq_some_iff.mp hr
  refine Ev.virt (y := M_hand) (args := []) (rest := [.int (z1 &&& z0)]) (gok hw) rfl nm_hand (ww hw 92 rfl) (ww hw 93 rfl) (ww hw 94 rfl) (ww hw 95 rfl) (ww hw 96 rfl) (lenOf pd_hand rfl) at_650 (V.2.1 s) (e_hand hw V hq2) (by decide) (Nat.le_of_ble_eq_true rfl) rfl ?_
  refine Ev.iconst (z := 2) at_653 rfl ?_
  refine Ev.icne (t := 661) at_654 rfl (fun c3 => ?_) (fun c3 => ?_)
  · replace hr := (if_pos c3).symm.trans hr
    refine Ev.iconst (z := 1) at_657 rfl ?_
    refine Ev.goto (t := 662) at_658 rfl ?_
    exact e_law_662 hw V  x3 (1 : Int32) (z1 &&& z0) s y0 hy0 y1 hy1 y2 hy2 (.val (.int (z1 &&& z0))) rfl _ hr
  · replace hr := (if_neg c3).symm.trans hr
    refine Ev.iconst (z := 0) at_661 rfl ?_
    exact e_law_662 hw V  x3 (0 : Int32) (z1 &&& z0) s y0 hy0 y1 hy1 y2 hy2 (.val (.int (z1 &&& z0))) rfl _ hr
def f_law_623 (n : Nat) (x3 : Int32) (z0 : Int32) (z1 : Int32) (s : St) : Option (Int32 × St) :=
  (f_frameOf s x3 (2 : Int32)).bind fun q1 =>
  if q1 = 0 then
    f_law_643 n x3 (1 : Int32) (z1 &&& z0) s
  else
    f_law_643 n x3 (0 : Int32) (z1 &&& z0) s
set_option maxRecDepth 100000 in
theorem e_law_623 {g : GT} {n : Nat} (hw : HW g) {K : St → MHeap} {o : Nat} {r : Nat → Nat} (V : View (GG g) Ln K o r) (x3 : Int32) (z0 : Int32) (z1 : Int32) (s : St) (y0 : Slot) (hy0 : one1 y0 = true) (y1 : Slot) (hy1 : one1 y1 = true) (y2 : Slot) (hy2 : one1 y2 = true) (y5 : Slot) (hy5 : one1 y5 = true) (w : Int32 × St) (hr : f_law_623 n x3 z0 z1 s = some w) : Ev (GG g) M_law 623 [y0, y1, y2, .val (.int x3), .val (.ref o), y5] [.int z0, .int z1] (K s) ((some (.int w.1)), (K w.2)) := by
  unfold f_law_623 at hr
  refine Ev.iand at_623 ?_
  refine Ev.istD (L' := [y0, y1, y2, .val (.int x3), .val (.ref o), .val (.int (z1 &&& z0))]) at_624 rfl hy5 rfl ?_
  refine Ev.iload at_626 rfl ?_
  refine Ev.aload at_628 rfl ?_
  refine Ev.iloadN at_630 rfl ?_
  refine Ev.iconst (z := 2) at_631 rfl ?_
  obtain ⟨q1, hq2, hr⟩ := Option.bind_eq_some_iff.mp hr
  refine Ev.virt (y := M_frameOf) (args := [.int x3, .int (2 : Int32)]) (rest := [.int (z1 &&& z0)]) (gok hw) rfl nm_frameOf (ww hw 111 rfl) (ww hw 112 rfl) (ww hw 113 rfl) (ww hw 114 rfl) (ww hw 115 rfl) (lenOf pd_frameOf rfl) at_632 (V.2.1 s) (e_frameOf hw V hq2) (by decide) (Nat.le_of_ble_eq_true rfl) rfl ?_
  refine Ev.ifne (t := 642) at_635 rfl (fun c3 => ?_) (fun c3 => ?_)
  · replace hr := (if_pos c3).symm.trans hr
    refine Ev.iconst (z := 1) at_638 rfl ?_
    refine Ev.goto (t := 643) at_639 rfl ?_
    exact e_law_643 hw V  x3 (1 : Int32) (z1 &&& z0) s y0 hy0 y1 hy1 y2 hy2 (.val (.int (z1 &&& z0))) rfl _ hr
  · replace hr := (if_neg c3).symm.trans hr
    refine Ev.iconst (z := 0) at_642 rfl ?_
    exact e_law_643 hw V  x3 (0 : Int32) (z1 &&& z0) s y0 hy0 y1 hy1 y2 hy2 (.val (.int (z1 &&& z0))) rfl _ hr
def f_law_602 (n : Nat) (x3 : Int32) (z0 : Int32) (z1 : Int32) (s : St) : Option (Int32 × St) :=
  (f_frameOf s x3 (1 : Int32)).bind fun q1 =>
  if q1 = (-1 : Int32) then
    f_law_623 n x3 (1 : Int32) (z1 &&& z0) s
  else
    f_law_623 n x3 (0 : Int32) (z1 &&& z0) s
set_option maxRecDepth 100000 in
theorem e_law_602 {g : GT} {n : Nat} (hw : HW g) {K : St → MHeap} {o : Nat} {r : Nat → Nat} (V : View (GG g) Ln K o r) (x3 : Int32) (z0 : Int32) (z1 : Int32) (s : St) (y0 : Slot) (hy0 : one1 y0 = true) (y1 : Slot) (hy1 : one1 y1 = true) (y2 : Slot) (hy2 : one1 y2 = true) (y5 : Slot) (hy5 : one1 y5 = true) (w : Int32 × St) (hr : f_law_602 n x3 z0 z1 s = some w) : Ev (GG g) M_law 602 [y0, y1, y2, .val (.int x3), .val (.ref o), y5] [.int z0, .int z1] (K s) ((some (.int w.1)), (K w.2)) := by
  unfold f_law_602 at hr
  refine Ev.iand at_602 ?_
  refine Ev.istD (L' := [y0, y1, y2, .val (.int x3), .val (.ref o), .val (.int (z1 &&& z0))]) at_603 rfl hy5 rfl ?_
  refine Ev.iload at_605 rfl ?_
  refine Ev.aload at_607 rfl ?_
  refine Ev.iloadN at_609 rfl ?_
  refine Ev.iconst (z := 1) at_610 rfl ?_
  obtain ⟨q1, hq2, hr⟩ := Option.bind_eq_some_iff.mp hr
  refine Ev.virt (y := M_frameOf) (args := [.int x3, .int (1 : Int32)]) (rest := [.int (z1 &&& z0)]) (gok hw) rfl nm_frameOf (ww hw 111 rfl) (ww hw 112 rfl) (ww hw 113 rfl) (ww hw 114 rfl) (ww hw 115 rfl) (lenOf pd_frameOf rfl) at_611 (V.2.1 s) (e_frameOf hw V hq2) (by decide) (Nat.le_of_ble_eq_true rfl) rfl ?_
  refine Ev.iconst (z := -1) at_614 rfl ?_
  refine Ev.icne (t := 622) at_615 rfl (fun c3 => ?_) (fun c3 => ?_)
  · replace hr := (if_pos c3).symm.trans hr
    refine Ev.iconst (z := 1) at_618 rfl ?_
    refine Ev.goto (t := 623) at_619 rfl ?_
    exact e_law_623 hw V  x3 (1 : Int32) (z1 &&& z0) s y0 hy0 y1 hy1 y2 hy2 (.val (.int (z1 &&& z0))) rfl _ hr
  · replace hr := (if_neg c3).symm.trans hr
    refine Ev.iconst (z := 0) at_622 rfl ?_
    exact e_law_623 hw V  x3 (0 : Int32) (z1 &&& z0) s y0 hy0 y1 hy1 y2 hy2 (.val (.int (z1 &&& z0))) rfl _ hr
def f_law_581 (n : Nat) (x3 : Int32) (z0 : Int32) (z1 : Int32) (s : St) : Option (Int32 × St) :=
  (f_frameOf s x3 (0 : Int32)).bind fun q1 =>
  if q1 = (1 : Int32) then
    f_law_602 n x3 (1 : Int32) (z1 &&& z0) s
  else
    f_law_602 n x3 (0 : Int32) (z1 &&& z0) s
set_option maxRecDepth 100000 in
theorem e_law_581 {g : GT} {n : Nat} (hw : HW g) {K : St → MHeap} {o : Nat} {r : Nat → Nat} (V : View (GG g) Ln K o r) (x3 : Int32) (z0 : Int32) (z1 : Int32) (s : St) (y0 : Slot) (hy0 : one1 y0 = true) (y1 : Slot) (hy1 : one1 y1 = true) (y2 : Slot) (hy2 : one1 y2 = true) (y5 : Slot) (hy5 : one1 y5 = true) (w : Int32 × St) (hr : f_law_581 n x3 z0 z1 s = some w) : Ev (GG g) M_law 581 [y0, y1, y2, .val (.int x3), .val (.ref o), y5] [.int z0, .int z1] (K s) ((some (.int w.1)), (K w.2)) := by
  unfold f_law_581 at hr
  refine Ev.iand at_581 ?_
  refine Ev.istD (L' := [y0, y1, y2, .val (.int x3), .val (.ref o), .val (.int (z1 &&& z0))]) at_582 rfl hy5 rfl ?_
  refine Ev.iload at_584 rfl ?_
  refine Ev.aload at_586 rfl ?_
  refine Ev.iloadN at_588 rfl ?_
  refine Ev.iconst (z := 0) at_589 rfl ?_
  obtain ⟨q1, hq2, hr⟩ := Option.bind_eq_some_iff.mp hr
  refine Ev.virt (y := M_frameOf) (args := [.int x3, .int (0 : Int32)]) (rest := [.int (z1 &&& z0)]) (gok hw) rfl nm_frameOf (ww hw 111 rfl) (ww hw 112 rfl) (ww hw 113 rfl) (ww hw 114 rfl) (ww hw 115 rfl) (lenOf pd_frameOf rfl) at_590 (V.2.1 s) (e_frameOf hw V hq2) (by decide) (Nat.le_of_ble_eq_true rfl) rfl ?_
  refine Ev.iconst (z := 1) at_593 rfl ?_
  refine Ev.icne (t := 601) at_594 rfl (fun c3 => ?_) (fun c3 => ?_)
  · replace hr := (if_pos c3).symm.trans hr
    refine Ev.iconst (z := 1) at_597 rfl ?_
    refine Ev.goto (t := 602) at_598 rfl ?_
    exact e_law_602 hw V  x3 (1 : Int32) (z1 &&& z0) s y0 hy0 y1 hy1 y2 hy2 (.val (.int (z1 &&& z0))) rfl _ hr
  · replace hr := (if_neg c3).symm.trans hr
    refine Ev.iconst (z := 0) at_601 rfl ?_
    exact e_law_602 hw V  x3 (0 : Int32) (z1 &&& z0) s y0 hy0 y1 hy1 y2 hy2 (.val (.int (z1 &&& z0))) rfl _ hr
def f_law_560 (n : Nat) (x1 : Int32) (x3 : Int32) (z0 : Int32) (z1 : Int32) (s : St) : Option (Int32 × St) :=
  (f_read n x3 (0 : Int32) s).bind fun q1 =>
  if q1.1 = x1 then
    f_law_581 n x3 (1 : Int32) (z1 &&& z0) q1.2
  else
    f_law_581 n x3 (0 : Int32) (z1 &&& z0) q1.2
set_option maxRecDepth 100000 in
theorem e_law_560 {g : GT} {n : Nat} (hw : HW g) {K : St → MHeap} {o : Nat} {r : Nat → Nat} (V : View (GG g) Ln K o r) (x1 : Int32) (x3 : Int32) (z0 : Int32) (z1 : Int32) (s : St) (y0 : Slot) (hy0 : one1 y0 = true) (y2 : Slot) (hy2 : one1 y2 = true) (y5 : Slot) (hy5 : one1 y5 = true) (w : Int32 × St) (hr : f_law_560 n x1 x3 z0 z1 s = some w) : Ev (GG g) M_law 560 [y0, .val (.int x1), y2, .val (.int x3), .val (.ref o), y5] [.int z0, .int z1] (K s) ((some (.int w.1)), (K w.2)) := by
  unfold f_law_560 at hr
  refine Ev.iand at_560 ?_
  refine Ev.istD (L' := [y0, .val (.int x1), y2, .val (.int x3), .val (.ref o), .val (.int (z1 &&& z0))]) at_561 rfl hy5 rfl ?_
  refine Ev.iload at_563 rfl ?_
  refine Ev.aload at_565 rfl ?_
  refine Ev.iloadN at_567 rfl ?_
  refine Ev.iconst (z := 0) at_568 rfl ?_
  obtain ⟨q1, hq2, hr⟩ := Option.bind_eq_some_iff.mp hr
  refine Ev.virt (y := M_read) (args := [.int x3, .int (0 : Int32)]) (rest := [.int (z1 &&& z0)]) (gok hw) rfl nm_read (ww hw 82 rfl) (ww hw 83 rfl) (ww hw 84 rfl) (ww hw 85 rfl) (ww hw 86 rfl) (lenOf pd_read rfl) at_569 (V.2.1 s) (e_read hw V hq2) (by decide) (Nat.le_of_ble_eq_true rfl) rfl ?_
  refine Ev.iloadN at_572 rfl ?_
  refine Ev.icne (t := 580) at_573 rfl (fun c3 => ?_) (fun c3 => ?_)
  · replace hr := (if_pos c3).symm.trans hr
    refine Ev.iconst (z := 1) at_576 rfl ?_
    refine Ev.goto (t := 581) at_577 rfl ?_
    exact e_law_581 hw V  x3 (1 : Int32) (z1 &&& z0) q1.2 y0 hy0 (.val (.int x1)) rfl y2 hy2 (.val (.int (z1 &&& z0))) rfl _ hr
  · replace hr := (if_neg c3).symm.trans hr
    refine Ev.iconst (z := 0) at_580 rfl ?_
    exact e_law_581 hw V  x3 (0 : Int32) (z1 &&& z0) q1.2 y0 hy0 (.val (.int x1)) rfl y2 hy2 (.val (.int (z1 &&& z0))) rfl _ hr
def f_law_541 (n : Nat) (x1 : Int32) (x3 : Int32) (z0 : Int32) (z1 : Int32) (s : St) : Option (Int32 × St) :=
  (f_lastStatus s).bind fun q1 =>
  if q1 = (2 : Int32) then
    f_law_560 n x1 x3 (1 : Int32) (z1 &&& z0) s
  else
    f_law_560 n x1 x3 (0 : Int32) (z1 &&& z0) s
set_option maxRecDepth 100000 in
theorem e_law_541 {g : GT} {n : Nat} (hw : HW g) {K : St → MHeap} {o : Nat} {r : Nat → Nat} (V : View (GG g) Ln K o r) (x1 : Int32) (x3 : Int32) (z0 : Int32) (z1 : Int32) (s : St) (y0 : Slot) (hy0 : one1 y0 = true) (y2 : Slot) (hy2 : one1 y2 = true) (y5 : Slot) (hy5 : one1 y5 = true) (w : Int32 × St) (hr : f_law_541 n x1 x3 z0 z1 s = some w) : Ev (GG g) M_law 541 [y0, .val (.int x1), y2, .val (.int x3), .val (.ref o), y5] [.int z0, .int z1] (K s) ((some (.int w.1)), (K w.2)) := by
  unfold f_law_541 at hr
  refine Ev.iand at_541 ?_
  refine Ev.istD (L' := [y0, .val (.int x1), y2, .val (.int x3), .val (.ref o), .val (.int (z1 &&& z0))]) at_542 rfl hy5 rfl ?_
  refine Ev.iload at_544 rfl ?_
  refine Ev.aload at_546 rfl ?_
  obtain ⟨q1, hq2, hr⟩ := Option.bind_eq_some_iff.mp hr
  refine Ev.virt (y := M_lastStatus) (args := []) (rest := [.int (z1 &&& z0)]) (gok hw) rfl nm_lastStatus (ww hw 87 rfl) (ww hw 88 rfl) (ww hw 89 rfl) (ww hw 90 rfl) (ww hw 91 rfl) (lenOf pd_lastStatus rfl) at_548 (V.2.1 s) (e_lastStatus hw V hq2) (by decide) (Nat.le_of_ble_eq_true rfl) rfl ?_
  refine Ev.iconst (z := 2) at_551 rfl ?_
  refine Ev.icne (t := 559) at_552 rfl (fun c3 => ?_) (fun c3 => ?_)
  · replace hr := (if_pos c3).symm.trans hr
    refine Ev.iconst (z := 1) at_555 rfl ?_
    refine Ev.goto (t := 560) at_556 rfl ?_
    exact e_law_560 hw V  x1 x3 (1 : Int32) (z1 &&& z0) s y0 hy0 y2 hy2 (.val (.int (z1 &&& z0))) rfl _ hr
  · replace hr := (if_neg c3).symm.trans hr
    refine Ev.iconst (z := 0) at_559 rfl ?_
    exact e_law_560 hw V  x1 x3 (0 : Int32) (z1 &&& z0) s y0 hy0 y2 hy2 (.val (.int (z1 &&& z0))) rfl _ hr
def f_law_521 (n : Nat) (x1 : Int32) (x3 : Int32) (z0 : Int32) (z1 : Int32) (s : St) : Option (Int32 × St) :=
  (f_read n x3 (2 : Int32) s).bind fun q1 =>
  if q1.1 = 0 then
    f_law_541 n x1 x3 (1 : Int32) (z1 &&& z0) q1.2
  else
    f_law_541 n x1 x3 (0 : Int32) (z1 &&& z0) q1.2
set_option maxRecDepth 100000 in
theorem e_law_521 {g : GT} {n : Nat} (hw : HW g) {K : St → MHeap} {o : Nat} {r : Nat → Nat} (V : View (GG g) Ln K o r) (x1 : Int32) (x3 : Int32) (z0 : Int32) (z1 : Int32) (s : St) (y0 : Slot) (hy0 : one1 y0 = true) (y2 : Slot) (hy2 : one1 y2 = true) (y5 : Slot) (hy5 : one1 y5 = true) (w : Int32 × St) (hr : f_law_521 n x1 x3 z0 z1 s = some w) : Ev (GG g) M_law 521 [y0, .val (.int x1), y2, .val (.int x3), .val (.ref o), y5] [.int z0, .int z1] (K s) ((some (.int w.1)), (K w.2)) := by
  unfold f_law_521 at hr
  refine Ev.iand at_521 ?_
  refine Ev.istD (L' := [y0, .val (.int x1), y2, .val (.int x3), .val (.ref o), .val (.int (z1 &&& z0))]) at_522 rfl hy5 rfl ?_
  refine Ev.iload at_524 rfl ?_
  refine Ev.aload at_526 rfl ?_
  refine Ev.iloadN at_528 rfl ?_
  refine Ev.iconst (z := 2) at_529 rfl ?_
  obtain ⟨q1, hq2, hr⟩ := Option.bind_eq_some_iff.mp hr
  refine Ev.virt (y := M_read) (args := [.int x3, .int (2 : Int32)]) (rest := [.int (z1 &&& z0)]) (gok hw) rfl nm_read (ww hw 82 rfl) (ww hw 83 rfl) (ww hw 84 rfl) (ww hw 85 rfl) (ww hw 86 rfl) (lenOf pd_read rfl) at_530 (V.2.1 s) (e_read hw V hq2) (by decide) (Nat.le_of_ble_eq_true rfl) rfl ?_
  refine Ev.ifne (t := 540) at_533 rfl (fun c3 => ?_) (fun c3 => ?_)
  · replace hr := (if_pos c3).symm.trans hr
    refine Ev.iconst (z := 1) at_536 rfl ?_
    refine Ev.goto (t := 541) at_537 rfl ?_
    exact e_law_541 hw V  x1 x3 (1 : Int32) (z1 &&& z0) q1.2 y0 hy0 y2 hy2 (.val (.int (z1 &&& z0))) rfl _ hr
  · replace hr := (if_neg c3).symm.trans hr
    refine Ev.iconst (z := 0) at_540 rfl ?_
    exact e_law_541 hw V  x1 x3 (0 : Int32) (z1 &&& z0) q1.2 y0 hy0 y2 hy2 (.val (.int (z1 &&& z0))) rfl _ hr
def f_law_495 (n : Nat) (x1 : Int32) (x3 : Int32) (z0 : Int32) (z1 : Int32) (s : St) : Option (Int32 × St) :=
  (f_frameInfo s (0 : Int32)).bind fun q1 =>
  if q1 = ((32 : Int32) + ((8 : Int32) * x3)) then
    f_law_521 n x1 x3 (1 : Int32) (z1 &&& z0) s
  else
    f_law_521 n x1 x3 (0 : Int32) (z1 &&& z0) s
set_option maxRecDepth 100000 in
theorem e_law_495 {g : GT} {n : Nat} (hw : HW g) {K : St → MHeap} {o : Nat} {r : Nat → Nat} (V : View (GG g) Ln K o r) (x1 : Int32) (x3 : Int32) (z0 : Int32) (z1 : Int32) (s : St) (y0 : Slot) (hy0 : one1 y0 = true) (y2 : Slot) (hy2 : one1 y2 = true) (y5 : Slot) (hy5 : one1 y5 = true) (w : Int32 × St) (hr : f_law_495 n x1 x3 z0 z1 s = some w) : Ev (GG g) M_law 495 [y0, .val (.int x1), y2, .val (.int x3), .val (.ref o), y5] [.int z0, .int z1] (K s) ((some (.int w.1)), (K w.2)) := by
  unfold f_law_495 at hr
  refine Ev.iand at_495 ?_
  refine Ev.istD (L' := [y0, .val (.int x1), y2, .val (.int x3), .val (.ref o), .val (.int (z1 &&& z0))]) at_496 rfl hy5 rfl ?_
  refine Ev.iload at_498 rfl ?_
  refine Ev.aload at_500 rfl ?_
  refine Ev.iconst (z := 0) at_502 rfl ?_
  obtain ⟨q1, hq2, hr⟩ := Option.bind_eq_some_iff.mp hr
  refine Ev.virt (y := M_frameInfo) (args := [.int (0 : Int32)]) (rest := [.int (z1 &&& z0)]) (gok hw) rfl nm_frameInfo (ww hw 101 rfl) (ww hw 102 rfl) (ww hw 103 rfl) (ww hw 104 rfl) (ww hw 105 rfl) (lenOf pd_frameInfo rfl) at_503 (V.2.1 s) (e_frameInfo hw V hq2) (by decide) (Nat.le_of_ble_eq_true rfl) rfl ?_
  refine Ev.bipush (z := 32) at_506 rfl ?_
  refine Ev.bipush (z := 8) at_508 rfl ?_
  refine Ev.iloadN at_510 rfl ?_
  refine Ev.imul at_511 ?_
  refine Ev.iadd at_512 ?_
  refine Ev.icne (t := 520) at_513 rfl (fun c3 => ?_) (fun c3 => ?_)
  · replace hr := (if_pos c3).symm.trans hr
    refine Ev.iconst (z := 1) at_516 rfl ?_
    refine Ev.goto (t := 521) at_517 rfl ?_
    exact e_law_521 hw V  x1 x3 (1 : Int32) (z1 &&& z0) s y0 hy0 y2 hy2 (.val (.int (z1 &&& z0))) rfl _ hr
  · replace hr := (if_neg c3).symm.trans hr
    refine Ev.iconst (z := 0) at_520 rfl ?_
    exact e_law_521 hw V  x1 x3 (0 : Int32) (z1 &&& z0) s y0 hy0 y2 hy2 (.val (.int (z1 &&& z0))) rfl _ hr
def f_law_474 (n : Nat) (x1 : Int32) (x2 : Int32) (x3 : Int32) (z0 : Int32) (z1 : Int32) (s : St) : Option (Int32 × St) :=
  (f_diskValue s x3 (1 : Int32)).bind fun q1 =>
  if q1 = x2 then
    f_law_495 n x1 x3 (1 : Int32) (z1 &&& z0) s
  else
    f_law_495 n x1 x3 (0 : Int32) (z1 &&& z0) s
set_option maxRecDepth 100000 in
theorem e_law_474 {g : GT} {n : Nat} (hw : HW g) {K : St → MHeap} {o : Nat} {r : Nat → Nat} (V : View (GG g) Ln K o r) (x1 : Int32) (x2 : Int32) (x3 : Int32) (z0 : Int32) (z1 : Int32) (s : St) (y0 : Slot) (hy0 : one1 y0 = true) (y5 : Slot) (hy5 : one1 y5 = true) (w : Int32 × St) (hr : f_law_474 n x1 x2 x3 z0 z1 s = some w) : Ev (GG g) M_law 474 [y0, .val (.int x1), .val (.int x2), .val (.int x3), .val (.ref o), y5] [.int z0, .int z1] (K s) ((some (.int w.1)), (K w.2)) := by
  unfold f_law_474 at hr
  refine Ev.iand at_474 ?_
  refine Ev.istD (L' := [y0, .val (.int x1), .val (.int x2), .val (.int x3), .val (.ref o), .val (.int (z1 &&& z0))]) at_475 rfl hy5 rfl ?_
  refine Ev.iload at_477 rfl ?_
  refine Ev.aload at_479 rfl ?_
  refine Ev.iloadN at_481 rfl ?_
  refine Ev.iconst (z := 1) at_482 rfl ?_
  obtain ⟨q1, hq2, hr⟩ := Option.bind_eq_some_iff.mp hr
  refine Ev.virt (y := M_diskValue) (args := [.int x3, .int (1 : Int32)]) (rest := [.int (z1 &&& z0)]) (gok hw) rfl nm_diskValue (ww hw 116 rfl) (ww hw 117 rfl) (ww hw 118 rfl) (ww hw 119 rfl) (ww hw 120 rfl) (lenOf pd_diskValue rfl) at_483 (V.2.1 s) (e_diskValue hw V hq2) (by decide) (Nat.le_of_ble_eq_true rfl) rfl ?_
  refine Ev.iloadN at_486 rfl ?_
  refine Ev.icne (t := 494) at_487 rfl (fun c3 => ?_) (fun c3 => ?_)
  · replace hr := (if_pos c3).symm.trans hr
    refine Ev.iconst (z := 1) at_490 rfl ?_
    refine Ev.goto (t := 495) at_491 rfl ?_
    exact e_law_495 hw V  x1 x3 (1 : Int32) (z1 &&& z0) s y0 hy0 (.val (.int x2)) rfl (.val (.int (z1 &&& z0))) rfl _ hr
  · replace hr := (if_neg c3).symm.trans hr
    refine Ev.iconst (z := 0) at_494 rfl ?_
    exact e_law_495 hw V  x1 x3 (0 : Int32) (z1 &&& z0) s y0 hy0 (.val (.int x2)) rfl (.val (.int (z1 &&& z0))) rfl _ hr
def f_law_453 (n : Nat) (x1 : Int32) (x2 : Int32) (x3 : Int32) (z0 : Int32) (z1 : Int32) (s : St) : Option (Int32 × St) :=
  (f_diskValue s x3 (0 : Int32)).bind fun q1 =>
  if q1 = x1 then
    f_law_474 n x1 x2 x3 (1 : Int32) (z1 &&& z0) s
  else
    f_law_474 n x1 x2 x3 (0 : Int32) (z1 &&& z0) s
set_option maxRecDepth 100000 in
theorem e_law_453 {g : GT} {n : Nat} (hw : HW g) {K : St → MHeap} {o : Nat} {r : Nat → Nat} (V : View (GG g) Ln K o r) (x1 : Int32) (x2 : Int32) (x3 : Int32) (z0 : Int32) (z1 : Int32) (s : St) (y0 : Slot) (hy0 : one1 y0 = true) (y5 : Slot) (hy5 : one1 y5 = true) (w : Int32 × St) (hr : f_law_453 n x1 x2 x3 z0 z1 s = some w) : Ev (GG g) M_law 453 [y0, .val (.int x1), .val (.int x2), .val (.int x3), .val (.ref o), y5] [.int z0, .int z1] (K s) ((some (.int w.1)), (K w.2)) := by
  unfold f_law_453 at hr
  refine Ev.iand at_453 ?_
  refine Ev.istD (L' := [y0, .val (.int x1), .val (.int x2), .val (.int x3), .val (.ref o), .val (.int (z1 &&& z0))]) at_454 rfl hy5 rfl ?_
  refine Ev.iload at_456 rfl ?_
  refine Ev.aload at_458 rfl ?_
  refine Ev.iloadN at_460 rfl ?_
  refine Ev.iconst (z := 0) at_461 rfl ?_
  obtain ⟨q1, hq2, hr⟩ := Option.bind_eq_some_iff.mp hr
  refine Ev.virt (y := M_diskValue) (args := [.int x3, .int (0 : Int32)]) (rest := [.int (z1 &&& z0)]) (gok hw) rfl nm_diskValue (ww hw 116 rfl) (ww hw 117 rfl) (ww hw 118 rfl) (ww hw 119 rfl) (ww hw 120 rfl) (lenOf pd_diskValue rfl) at_462 (V.2.1 s) (e_diskValue hw V hq2) (by decide) (Nat.le_of_ble_eq_true rfl) rfl ?_
  refine Ev.iloadN at_465 rfl ?_
  refine Ev.icne (t := 473) at_466 rfl (fun c3 => ?_) (fun c3 => ?_)
  · replace hr := (if_pos c3).symm.trans hr
    refine Ev.iconst (z := 1) at_469 rfl ?_
    refine Ev.goto (t := 474) at_470 rfl ?_
    exact e_law_474 hw V  x1 x2 x3 (1 : Int32) (z1 &&& z0) s y0 hy0 (.val (.int (z1 &&& z0))) rfl _ hr
  · replace hr := (if_neg c3).symm.trans hr
    refine Ev.iconst (z := 0) at_473 rfl ?_
    exact e_law_474 hw V  x1 x2 x3 (0 : Int32) (z1 &&& z0) s y0 hy0 (.val (.int (z1 &&& z0))) rfl _ hr
def f_law_434 (n : Nat) (x1 : Int32) (x2 : Int32) (x3 : Int32) (z0 : Int32) (z1 : Int32) (s : St) : Option (Int32 × St) :=
  (f_tick n s).bind fun q1 =>
  if q1.1 = (2 : Int32) then
    f_law_453 n x1 x2 x3 (1 : Int32) (z1 &&& z0) q1.2
  else
    f_law_453 n x1 x2 x3 (0 : Int32) (z1 &&& z0) q1.2
set_option maxRecDepth 100000 in
theorem e_law_434 {g : GT} {n : Nat} (hw : HW g) {K : St → MHeap} {o : Nat} {r : Nat → Nat} (V : View (GG g) Ln K o r) (x1 : Int32) (x2 : Int32) (x3 : Int32) (z0 : Int32) (z1 : Int32) (s : St) (y0 : Slot) (hy0 : one1 y0 = true) (y5 : Slot) (hy5 : one1 y5 = true) (w : Int32 × St) (hr : f_law_434 n x1 x2 x3 z0 z1 s = some w) : Ev (GG g) M_law 434 [y0, .val (.int x1), .val (.int x2), .val (.int x3), .val (.ref o), y5] [.int z0, .int z1] (K s) ((some (.int w.1)), (K w.2)) := by
  unfold f_law_434 at hr
  refine Ev.iand at_434 ?_
  refine Ev.istD (L' := [y0, .val (.int x1), .val (.int x2), .val (.int x3), .val (.ref o), .val (.int (z1 &&& z0))]) at_435 rfl hy5 rfl ?_
  refine Ev.iload at_437 rfl ?_
  refine Ev.aload at_439 rfl ?_
  obtain ⟨q1, hq2, hr⟩ := Option.bind_eq_some_iff.mp hr
  refine Ev.virt (y := M_tick) (args := []) (rest := [.int (z1 &&& z0)]) (gok hw) rfl nm_tick (ww hw 121 rfl) (ww hw 122 rfl) (ww hw 123 rfl) (ww hw 124 rfl) (ww hw 125 rfl) (lenOf pd_tick rfl) at_441 (V.2.1 s) (e_tick hw V hq2) (by decide) (Nat.le_of_ble_eq_true rfl) rfl ?_
  refine Ev.iconst (z := 2) at_444 rfl ?_
  refine Ev.icne (t := 452) at_445 rfl (fun c3 => ?_) (fun c3 => ?_)
  · replace hr := (if_pos c3).symm.trans hr
    refine Ev.iconst (z := 1) at_448 rfl ?_
    refine Ev.goto (t := 453) at_449 rfl ?_
    exact e_law_453 hw V  x1 x2 x3 (1 : Int32) (z1 &&& z0) q1.2 y0 hy0 (.val (.int (z1 &&& z0))) rfl _ hr
  · replace hr := (if_neg c3).symm.trans hr
    refine Ev.iconst (z := 0) at_452 rfl ?_
    exact e_law_453 hw V  x1 x2 x3 (0 : Int32) (z1 &&& z0) q1.2 y0 hy0 (.val (.int (z1 &&& z0))) rfl _ hr
def f_law_414 (n : Nat) (x1 : Int32) (x2 : Int32) (x3 : Int32) (z0 : Int32) (z1 : Int32) (s : St) : Option (Int32 × St) :=
  (f_diskValue s x3 (0 : Int32)).bind fun q1 =>
  if q1 = 0 then
    f_law_434 n x1 x2 x3 (1 : Int32) (z1 &&& z0) s
  else
    f_law_434 n x1 x2 x3 (0 : Int32) (z1 &&& z0) s
set_option maxRecDepth 100000 in
theorem e_law_414 {g : GT} {n : Nat} (hw : HW g) {K : St → MHeap} {o : Nat} {r : Nat → Nat} (V : View (GG g) Ln K o r) (x1 : Int32) (x2 : Int32) (x3 : Int32) (z0 : Int32) (z1 : Int32) (s : St) (y0 : Slot) (hy0 : one1 y0 = true) (y5 : Slot) (hy5 : one1 y5 = true) (w : Int32 × St) (hr : f_law_414 n x1 x2 x3 z0 z1 s = some w) : Ev (GG g) M_law 414 [y0, .val (.int x1), .val (.int x2), .val (.int x3), .val (.ref o), y5] [.int z0, .int z1] (K s) ((some (.int w.1)), (K w.2)) := by
  unfold f_law_414 at hr
  refine Ev.iand at_414 ?_
  refine Ev.istD (L' := [y0, .val (.int x1), .val (.int x2), .val (.int x3), .val (.ref o), .val (.int (z1 &&& z0))]) at_415 rfl hy5 rfl ?_
  refine Ev.iload at_417 rfl ?_
  refine Ev.aload at_419 rfl ?_
  refine Ev.iloadN at_421 rfl ?_
  refine Ev.iconst (z := 0) at_422 rfl ?_
  obtain ⟨q1, hq2, hr⟩ := Option.bind_eq_some_iff.mp hr
  refine Ev.virt (y := M_diskValue) (args := [.int x3, .int (0 : Int32)]) (rest := [.int (z1 &&& z0)]) (gok hw) rfl nm_diskValue (ww hw 116 rfl) (ww hw 117 rfl) (ww hw 118 rfl) (ww hw 119 rfl) (ww hw 120 rfl) (lenOf pd_diskValue rfl) at_423 (V.2.1 s) (e_diskValue hw V hq2) (by decide) (Nat.le_of_ble_eq_true rfl) rfl ?_
  refine Ev.ifne (t := 433) at_426 rfl (fun c3 => ?_) (fun c3 => ?_)
  · replace hr := (if_pos c3).symm.trans hr
    refine Ev.iconst (z := 1) at_429 rfl ?_
    refine Ev.goto (t := 434) at_430 rfl ?_
    exact e_law_434 hw V  x1 x2 x3 (1 : Int32) (z1 &&& z0) s y0 hy0 (.val (.int (z1 &&& z0))) rfl _ hr
  · replace hr := (if_neg c3).symm.trans hr
    refine Ev.iconst (z := 0) at_433 rfl ?_
    exact e_law_434 hw V  x1 x2 x3 (0 : Int32) (z1 &&& z0) s y0 hy0 (.val (.int (z1 &&& z0))) rfl _ hr
def f_law_395 (n : Nat) (x1 : Int32) (x2 : Int32) (x3 : Int32) (z0 : Int32) (z1 : Int32) (s : St) : Option (Int32 × St) :=
  (f_hand s).bind fun q1 =>
  if q1 = (3 : Int32) then
    f_law_414 n x1 x2 x3 (1 : Int32) (z1 &&& z0) s
  else
    f_law_414 n x1 x2 x3 (0 : Int32) (z1 &&& z0) s
set_option maxRecDepth 100000 in
theorem e_law_395 {g : GT} {n : Nat} (hw : HW g) {K : St → MHeap} {o : Nat} {r : Nat → Nat} (V : View (GG g) Ln K o r) (x1 : Int32) (x2 : Int32) (x3 : Int32) (z0 : Int32) (z1 : Int32) (s : St) (y0 : Slot) (hy0 : one1 y0 = true) (y5 : Slot) (hy5 : one1 y5 = true) (w : Int32 × St) (hr : f_law_395 n x1 x2 x3 z0 z1 s = some w) : Ev (GG g) M_law 395 [y0, .val (.int x1), .val (.int x2), .val (.int x3), .val (.ref o), y5] [.int z0, .int z1] (K s) ((some (.int w.1)), (K w.2)) := by
  unfold f_law_395 at hr
  refine Ev.iand at_395 ?_
  refine Ev.istD (L' := [y0, .val (.int x1), .val (.int x2), .val (.int x3), .val (.ref o), .val (.int (z1 &&& z0))]) at_396 rfl hy5 rfl ?_
  refine Ev.iload at_398 rfl ?_
  refine Ev.aload at_400 rfl ?_
  obtain ⟨q1, hq2, hr⟩ := Option.bind_eq_some_iff.mp hr
  refine Ev.virt (y := M_hand) (args := []) (rest := [.int (z1 &&& z0)]) (gok hw) rfl nm_hand (ww hw 92 rfl) (ww hw 93 rfl) (ww hw 94 rfl) (ww hw 95 rfl) (ww hw 96 rfl) (lenOf pd_hand rfl) at_402 (V.2.1 s) (e_hand hw V hq2) (by decide) (Nat.le_of_ble_eq_true rfl) rfl ?_
  refine Ev.iconst (z := 3) at_405 rfl ?_
  refine Ev.icne (t := 413) at_406 rfl (fun c3 => ?_) (fun c3 => ?_)
  · replace hr := (if_pos c3).symm.trans hr
    refine Ev.iconst (z := 1) at_409 rfl ?_
    refine Ev.goto (t := 414) at_410 rfl ?_
    exact e_law_414 hw V  x1 x2 x3 (1 : Int32) (z1 &&& z0) s y0 hy0 (.val (.int (z1 &&& z0))) rfl _ hr
  · replace hr := (if_neg c3).symm.trans hr
    refine Ev.iconst (z := 0) at_413 rfl ?_
    exact e_law_414 hw V  x1 x2 x3 (0 : Int32) (z1 &&& z0) s y0 hy0 (.val (.int (z1 &&& z0))) rfl _ hr
def f_law_374 (n : Nat) (x1 : Int32) (x2 : Int32) (x3 : Int32) (z0 : Int32) (z1 : Int32) (s : St) : Option (Int32 × St) :=
  (f_frameOf s x3 (4 : Int32)).bind fun q1 =>
  if q1 = (2 : Int32) then
    f_law_395 n x1 x2 x3 (1 : Int32) (z1 &&& z0) s
  else
    f_law_395 n x1 x2 x3 (0 : Int32) (z1 &&& z0) s
set_option maxRecDepth 100000 in
theorem e_law_374 {g : GT} {n : Nat} (hw : HW g) {K : St → MHeap} {o : Nat} {r : Nat → Nat} (V : View (GG g) Ln K o r) (x1 : Int32) (x2 : Int32) (x3 : Int32) (z0 : Int32) (z1 : Int32) (s : St) (y0 : Slot) (hy0 : one1 y0 = true) (y5 : Slot) (hy5 : one1 y5 = true) (w : Int32 × St) (hr : f_law_374 n x1 x2 x3 z0 z1 s = some w) : Ev (GG g) M_law 374 [y0, .val (.int x1), .val (.int x2), .val (.int x3), .val (.ref o), y5] [.int z0, .int z1] (K s) ((some (.int w.1)), (K w.2)) := by
  unfold f_law_374 at hr
  refine Ev.iand at_374 ?_
  refine Ev.istD (L' := [y0, .val (.int x1), .val (.int x2), .val (.int x3), .val (.ref o), .val (.int (z1 &&& z0))]) at_375 rfl hy5 rfl ?_
  refine Ev.iload at_377 rfl ?_
  refine Ev.aload at_379 rfl ?_
  refine Ev.iloadN at_381 rfl ?_
  refine Ev.iconst (z := 4) at_382 rfl ?_
  obtain ⟨q1, hq2, hr⟩ := Option.bind_eq_some_iff.mp hr
  refine Ev.virt (y := M_frameOf) (args := [.int x3, .int (4 : Int32)]) (rest := [.int (z1 &&& z0)]) (gok hw) rfl nm_frameOf (ww hw 111 rfl) (ww hw 112 rfl) (ww hw 113 rfl) (ww hw 114 rfl) (ww hw 115 rfl) (lenOf pd_frameOf rfl) at_383 (V.2.1 s) (e_frameOf hw V hq2) (by decide) (Nat.le_of_ble_eq_true rfl) rfl ?_
  refine Ev.iconst (z := 2) at_386 rfl ?_
  refine Ev.icne (t := 394) at_387 rfl (fun c3 => ?_) (fun c3 => ?_)
  · replace hr := (if_pos c3).symm.trans hr
    refine Ev.iconst (z := 1) at_390 rfl ?_
    refine Ev.goto (t := 395) at_391 rfl ?_
    exact e_law_395 hw V  x1 x2 x3 (1 : Int32) (z1 &&& z0) s y0 hy0 (.val (.int (z1 &&& z0))) rfl _ hr
  · replace hr := (if_neg c3).symm.trans hr
    refine Ev.iconst (z := 0) at_394 rfl ?_
    exact e_law_395 hw V  x1 x2 x3 (0 : Int32) (z1 &&& z0) s y0 hy0 (.val (.int (z1 &&& z0))) rfl _ hr
def f_law_353 (n : Nat) (x1 : Int32) (x2 : Int32) (x3 : Int32) (z0 : Int32) (z1 : Int32) (s : St) : Option (Int32 × St) :=
  (f_frameOf s x3 (2 : Int32)).bind fun q1 =>
  if q1 = (-1 : Int32) then
    f_law_374 n x1 x2 x3 (1 : Int32) (z1 &&& z0) s
  else
    f_law_374 n x1 x2 x3 (0 : Int32) (z1 &&& z0) s
set_option maxRecDepth 100000 in
theorem e_law_353 {g : GT} {n : Nat} (hw : HW g) {K : St → MHeap} {o : Nat} {r : Nat → Nat} (V : View (GG g) Ln K o r) (x1 : Int32) (x2 : Int32) (x3 : Int32) (z0 : Int32) (z1 : Int32) (s : St) (y0 : Slot) (hy0 : one1 y0 = true) (y5 : Slot) (hy5 : one1 y5 = true) (w : Int32 × St) (hr : f_law_353 n x1 x2 x3 z0 z1 s = some w) : Ev (GG g) M_law 353 [y0, .val (.int x1), .val (.int x2), .val (.int x3), .val (.ref o), y5] [.int z0, .int z1] (K s) ((some (.int w.1)), (K w.2)) := by
  unfold f_law_353 at hr
  refine Ev.iand at_353 ?_
  refine Ev.istD (L' := [y0, .val (.int x1), .val (.int x2), .val (.int x3), .val (.ref o), .val (.int (z1 &&& z0))]) at_354 rfl hy5 rfl ?_
  refine Ev.iload at_356 rfl ?_
  refine Ev.aload at_358 rfl ?_
  refine Ev.iloadN at_360 rfl ?_
  refine Ev.iconst (z := 2) at_361 rfl ?_
  obtain ⟨q1, hq2, hr⟩ := Option.bind_eq_some_iff.mp hr
  refine Ev.virt (y := M_frameOf) (args := [.int x3, .int (2 : Int32)]) (rest := [.int (z1 &&& z0)]) (gok hw) rfl nm_frameOf (ww hw 111 rfl) (ww hw 112 rfl) (ww hw 113 rfl) (ww hw 114 rfl) (ww hw 115 rfl) (lenOf pd_frameOf rfl) at_362 (V.2.1 s) (e_frameOf hw V hq2) (by decide) (Nat.le_of_ble_eq_true rfl) rfl ?_
  refine Ev.iconst (z := -1) at_365 rfl ?_
  refine Ev.icne (t := 373) at_366 rfl (fun c3 => ?_) (fun c3 => ?_)
  · replace hr := (if_pos c3).symm.trans hr
    refine Ev.iconst (z := 1) at_369 rfl ?_
    refine Ev.goto (t := 374) at_370 rfl ?_
    exact e_law_374 hw V  x1 x2 x3 (1 : Int32) (z1 &&& z0) s y0 hy0 (.val (.int (z1 &&& z0))) rfl _ hr
  · replace hr := (if_neg c3).symm.trans hr
    refine Ev.iconst (z := 0) at_373 rfl ?_
    exact e_law_374 hw V  x1 x2 x3 (0 : Int32) (z1 &&& z0) s y0 hy0 (.val (.int (z1 &&& z0))) rfl _ hr
def f_law_332 (n : Nat) (x1 : Int32) (x2 : Int32) (x3 : Int32) (z0 : Int32) (z1 : Int32) (s : St) : Option (Int32 × St) :=
  (f_dueTime s (1 : Int32)).bind fun q1 =>
  if q1 = (9 : Int32) then
    f_law_353 n x1 x2 x3 (1 : Int32) (z1 &&& z0) s
  else
    f_law_353 n x1 x2 x3 (0 : Int32) (z1 &&& z0) s
set_option maxRecDepth 100000 in
theorem e_law_332 {g : GT} {n : Nat} (hw : HW g) {K : St → MHeap} {o : Nat} {r : Nat → Nat} (V : View (GG g) Ln K o r) (x1 : Int32) (x2 : Int32) (x3 : Int32) (z0 : Int32) (z1 : Int32) (s : St) (y0 : Slot) (hy0 : one1 y0 = true) (y5 : Slot) (hy5 : one1 y5 = true) (w : Int32 × St) (hr : f_law_332 n x1 x2 x3 z0 z1 s = some w) : Ev (GG g) M_law 332 [y0, .val (.int x1), .val (.int x2), .val (.int x3), .val (.ref o), y5] [.int z0, .int z1] (K s) ((some (.int w.1)), (K w.2)) := by
  unfold f_law_332 at hr
  refine Ev.iand at_332 ?_
  refine Ev.istD (L' := [y0, .val (.int x1), .val (.int x2), .val (.int x3), .val (.ref o), .val (.int (z1 &&& z0))]) at_333 rfl hy5 rfl ?_
  refine Ev.iload at_335 rfl ?_
  refine Ev.aload at_337 rfl ?_
  refine Ev.iconst (z := 1) at_339 rfl ?_
  obtain ⟨q1, hq2, hr⟩ := Option.bind_eq_some_iff.mp hr
  refine Ev.virt (y := M_dueTime) (args := [.int (1 : Int32)]) (rest := [.int (z1 &&& z0)]) (gok hw) rfl nm_dueTime (ww hw 106 rfl) (ww hw 107 rfl) (ww hw 108 rfl) (ww hw 109 rfl) (ww hw 110 rfl) (lenOf pd_dueTime rfl) at_340 (V.2.1 s) (e_dueTime hw V hq2) (by decide) (Nat.le_of_ble_eq_true rfl) rfl ?_
  refine Ev.bipush (z := 9) at_343 rfl ?_
  refine Ev.icne (t := 352) at_345 rfl (fun c3 => ?_) (fun c3 => ?_)
  · replace hr := (if_pos c3).symm.trans hr
    refine Ev.iconst (z := 1) at_348 rfl ?_
    refine Ev.goto (t := 353) at_349 rfl ?_
    exact e_law_353 hw V  x1 x2 x3 (1 : Int32) (z1 &&& z0) s y0 hy0 (.val (.int (z1 &&& z0))) rfl _ hr
  · replace hr := (if_neg c3).symm.trans hr
    refine Ev.iconst (z := 0) at_352 rfl ?_
    exact e_law_353 hw V  x1 x2 x3 (0 : Int32) (z1 &&& z0) s y0 hy0 (.val (.int (z1 &&& z0))) rfl _ hr
def f_law_311 (n : Nat) (x1 : Int32) (x2 : Int32) (x3 : Int32) (z0 : Int32) (z1 : Int32) (s : St) : Option (Int32 × St) :=
  (f_dueTime s (0 : Int32)).bind fun q1 =>
  if q1 = (9 : Int32) then
    f_law_332 n x1 x2 x3 (1 : Int32) (z1 &&& z0) s
  else
    f_law_332 n x1 x2 x3 (0 : Int32) (z1 &&& z0) s
set_option maxRecDepth 100000 in
theorem e_law_311 {g : GT} {n : Nat} (hw : HW g) {K : St → MHeap} {o : Nat} {r : Nat → Nat} (V : View (GG g) Ln K o r) (x1 : Int32) (x2 : Int32) (x3 : Int32) (z0 : Int32) (z1 : Int32) (s : St) (y0 : Slot) (hy0 : one1 y0 = true) (y5 : Slot) (hy5 : one1 y5 = true) (w : Int32 × St) (hr : f_law_311 n x1 x2 x3 z0 z1 s = some w) : Ev (GG g) M_law 311 [y0, .val (.int x1), .val (.int x2), .val (.int x3), .val (.ref o), y5] [.int z0, .int z1] (K s) ((some (.int w.1)), (K w.2)) := by
  unfold f_law_311 at hr
  refine Ev.iand at_311 ?_
  refine Ev.istD (L' := [y0, .val (.int x1), .val (.int x2), .val (.int x3), .val (.ref o), .val (.int (z1 &&& z0))]) at_312 rfl hy5 rfl ?_
  refine Ev.iload at_314 rfl ?_
  refine Ev.aload at_316 rfl ?_
  refine Ev.iconst (z := 0) at_318 rfl ?_
  obtain ⟨q1, hq2, hr⟩ := Option.bind_eq_some_iff.mp hr
  refine Ev.virt (y := M_dueTime) (args := [.int (0 : Int32)]) (rest := [.int (z1 &&& z0)]) (gok hw) rfl nm_dueTime (ww hw 106 rfl) (ww hw 107 rfl) (ww hw 108 rfl) (ww hw 109 rfl) (ww hw 110 rfl) (lenOf pd_dueTime rfl) at_319 (V.2.1 s) (e_dueTime hw V hq2) (by decide) (Nat.le_of_ble_eq_true rfl) rfl ?_
  refine Ev.bipush (z := 9) at_322 rfl ?_
  refine Ev.icne (t := 331) at_324 rfl (fun c3 => ?_) (fun c3 => ?_)
  · replace hr := (if_pos c3).symm.trans hr
    refine Ev.iconst (z := 1) at_327 rfl ?_
    refine Ev.goto (t := 332) at_328 rfl ?_
    exact e_law_332 hw V  x1 x2 x3 (1 : Int32) (z1 &&& z0) s y0 hy0 (.val (.int (z1 &&& z0))) rfl _ hr
  · replace hr := (if_neg c3).symm.trans hr
    refine Ev.iconst (z := 0) at_331 rfl ?_
    exact e_law_332 hw V  x1 x2 x3 (0 : Int32) (z1 &&& z0) s y0 hy0 (.val (.int (z1 &&& z0))) rfl _ hr
def f_law_284 (n : Nat) (x1 : Int32) (x2 : Int32) (x3 : Int32) (z0 : Int32) (z1 : Int32) (s : St) : Option (Int32 × St) :=
  (f_frameInfo s (1 : Int32)).bind fun q1 =>
  if q1 = ((353 : Int32) + ((8 : Int32) * x3)) then
    f_law_311 n x1 x2 x3 (1 : Int32) (z1 &&& z0) s
  else
    f_law_311 n x1 x2 x3 (0 : Int32) (z1 &&& z0) s
set_option maxRecDepth 100000 in
theorem e_law_284 {g : GT} {n : Nat} (hw : HW g) {K : St → MHeap} {o : Nat} {r : Nat → Nat} (V : View (GG g) Ln K o r) (x1 : Int32) (x2 : Int32) (x3 : Int32) (z0 : Int32) (z1 : Int32) (s : St) (y0 : Slot) (hy0 : one1 y0 = true) (y5 : Slot) (hy5 : one1 y5 = true) (w : Int32 × St) (hr : f_law_284 n x1 x2 x3 z0 z1 s = some w) : Ev (GG g) M_law 284 [y0, .val (.int x1), .val (.int x2), .val (.int x3), .val (.ref o), y5] [.int z0, .int z1] (K s) ((some (.int w.1)), (K w.2)) := by
  unfold f_law_284 at hr
  refine Ev.iand at_284 ?_
  refine Ev.istD (L' := [y0, .val (.int x1), .val (.int x2), .val (.int x3), .val (.ref o), .val (.int (z1 &&& z0))]) at_285 rfl hy5 rfl ?_
  refine Ev.iload at_287 rfl ?_
  refine Ev.aload at_289 rfl ?_
  refine Ev.iconst (z := 1) at_291 rfl ?_
  obtain ⟨q1, hq2, hr⟩ := Option.bind_eq_some_iff.mp hr
  refine Ev.virt (y := M_frameInfo) (args := [.int (1 : Int32)]) (rest := [.int (z1 &&& z0)]) (gok hw) rfl nm_frameInfo (ww hw 101 rfl) (ww hw 102 rfl) (ww hw 103 rfl) (ww hw 104 rfl) (ww hw 105 rfl) (lenOf pd_frameInfo rfl) at_292 (V.2.1 s) (e_frameInfo hw V hq2) (by decide) (Nat.le_of_ble_eq_true rfl) rfl ?_
  refine Ev.sipush (z := 353) at_295 rfl ?_
  refine Ev.bipush (z := 8) at_298 rfl ?_
  refine Ev.iloadN at_300 rfl ?_
  refine Ev.imul at_301 ?_
  refine Ev.iadd at_302 ?_
  refine Ev.icne (t := 310) at_303 rfl (fun c3 => ?_) (fun c3 => ?_)
  · replace hr := (if_pos c3).symm.trans hr
    refine Ev.iconst (z := 1) at_306 rfl ?_
    refine Ev.goto (t := 311) at_307 rfl ?_
    exact e_law_311 hw V  x1 x2 x3 (1 : Int32) (z1 &&& z0) s y0 hy0 (.val (.int (z1 &&& z0))) rfl _ hr
  · replace hr := (if_neg c3).symm.trans hr
    refine Ev.iconst (z := 0) at_310 rfl ?_
    exact e_law_311 hw V  x1 x2 x3 (0 : Int32) (z1 &&& z0) s y0 hy0 (.val (.int (z1 &&& z0))) rfl _ hr
def f_law_257 (n : Nat) (x1 : Int32) (x2 : Int32) (x3 : Int32) (z0 : Int32) (z1 : Int32) (s : St) : Option (Int32 × St) :=
  (f_frameInfo s (0 : Int32)).bind fun q1 =>
  if q1 = ((352 : Int32) + ((8 : Int32) * x3)) then
    f_law_284 n x1 x2 x3 (1 : Int32) (z1 &&& z0) s
  else
    f_law_284 n x1 x2 x3 (0 : Int32) (z1 &&& z0) s
set_option maxRecDepth 100000 in
theorem e_law_257 {g : GT} {n : Nat} (hw : HW g) {K : St → MHeap} {o : Nat} {r : Nat → Nat} (V : View (GG g) Ln K o r) (x1 : Int32) (x2 : Int32) (x3 : Int32) (z0 : Int32) (z1 : Int32) (s : St) (y0 : Slot) (hy0 : one1 y0 = true) (y5 : Slot) (hy5 : one1 y5 = true) (w : Int32 × St) (hr : f_law_257 n x1 x2 x3 z0 z1 s = some w) : Ev (GG g) M_law 257 [y0, .val (.int x1), .val (.int x2), .val (.int x3), .val (.ref o), y5] [.int z0, .int z1] (K s) ((some (.int w.1)), (K w.2)) := by
  unfold f_law_257 at hr
  refine Ev.iand at_257 ?_
  refine Ev.istD (L' := [y0, .val (.int x1), .val (.int x2), .val (.int x3), .val (.ref o), .val (.int (z1 &&& z0))]) at_258 rfl hy5 rfl ?_
  refine Ev.iload at_260 rfl ?_
  refine Ev.aload at_262 rfl ?_
  refine Ev.iconst (z := 0) at_264 rfl ?_
  obtain ⟨q1, hq2, hr⟩ := Option.bind_eq_some_iff.mp hr
  refine Ev.virt (y := M_frameInfo) (args := [.int (0 : Int32)]) (rest := [.int (z1 &&& z0)]) (gok hw) rfl nm_frameInfo (ww hw 101 rfl) (ww hw 102 rfl) (ww hw 103 rfl) (ww hw 104 rfl) (ww hw 105 rfl) (lenOf pd_frameInfo rfl) at_265 (V.2.1 s) (e_frameInfo hw V hq2) (by decide) (Nat.le_of_ble_eq_true rfl) rfl ?_
  refine Ev.sipush (z := 352) at_268 rfl ?_
  refine Ev.bipush (z := 8) at_271 rfl ?_
  refine Ev.iloadN at_273 rfl ?_
  refine Ev.imul at_274 ?_
  refine Ev.iadd at_275 ?_
  refine Ev.icne (t := 283) at_276 rfl (fun c3 => ?_) (fun c3 => ?_)
  · replace hr := (if_pos c3).symm.trans hr
    refine Ev.iconst (z := 1) at_279 rfl ?_
    refine Ev.goto (t := 284) at_280 rfl ?_
    exact e_law_284 hw V  x1 x2 x3 (1 : Int32) (z1 &&& z0) s y0 hy0 (.val (.int (z1 &&& z0))) rfl _ hr
  · replace hr := (if_neg c3).symm.trans hr
    refine Ev.iconst (z := 0) at_283 rfl ?_
    exact e_law_284 hw V  x1 x2 x3 (0 : Int32) (z1 &&& z0) s y0 hy0 (.val (.int (z1 &&& z0))) rfl _ hr
def f_law_238 (n : Nat) (x1 : Int32) (x2 : Int32) (x3 : Int32) (z0 : Int32) (z1 : Int32) (s : St) : Option (Int32 × St) :=
  (f_lastStatus s).bind fun q1 =>
  if q1 = (2 : Int32) then
    f_law_257 n x1 x2 x3 (1 : Int32) (z1 &&& z0) s
  else
    f_law_257 n x1 x2 x3 (0 : Int32) (z1 &&& z0) s
set_option maxRecDepth 100000 in
theorem e_law_238 {g : GT} {n : Nat} (hw : HW g) {K : St → MHeap} {o : Nat} {r : Nat → Nat} (V : View (GG g) Ln K o r) (x1 : Int32) (x2 : Int32) (x3 : Int32) (z0 : Int32) (z1 : Int32) (s : St) (y0 : Slot) (hy0 : one1 y0 = true) (y5 : Slot) (hy5 : one1 y5 = true) (w : Int32 × St) (hr : f_law_238 n x1 x2 x3 z0 z1 s = some w) : Ev (GG g) M_law 238 [y0, .val (.int x1), .val (.int x2), .val (.int x3), .val (.ref o), y5] [.int z0, .int z1] (K s) ((some (.int w.1)), (K w.2)) := by
  unfold f_law_238 at hr
  refine Ev.iand at_238 ?_
  refine Ev.istD (L' := [y0, .val (.int x1), .val (.int x2), .val (.int x3), .val (.ref o), .val (.int (z1 &&& z0))]) at_239 rfl hy5 rfl ?_
  refine Ev.iload at_241 rfl ?_
  refine Ev.aload at_243 rfl ?_
  obtain ⟨q1, hq2, hr⟩ := Option.bind_eq_some_iff.mp hr
  refine Ev.virt (y := M_lastStatus) (args := []) (rest := [.int (z1 &&& z0)]) (gok hw) rfl nm_lastStatus (ww hw 87 rfl) (ww hw 88 rfl) (ww hw 89 rfl) (ww hw 90 rfl) (ww hw 91 rfl) (lenOf pd_lastStatus rfl) at_245 (V.2.1 s) (e_lastStatus hw V hq2) (by decide) (Nat.le_of_ble_eq_true rfl) rfl ?_
  refine Ev.iconst (z := 2) at_248 rfl ?_
  refine Ev.icne (t := 256) at_249 rfl (fun c3 => ?_) (fun c3 => ?_)
  · replace hr := (if_pos c3).symm.trans hr
    refine Ev.iconst (z := 1) at_252 rfl ?_
    refine Ev.goto (t := 257) at_253 rfl ?_
    exact e_law_257 hw V  x1 x2 x3 (1 : Int32) (z1 &&& z0) s y0 hy0 (.val (.int (z1 &&& z0))) rfl _ hr
  · replace hr := (if_neg c3).symm.trans hr
    refine Ev.iconst (z := 0) at_256 rfl ?_
    exact e_law_257 hw V  x1 x2 x3 (0 : Int32) (z1 &&& z0) s y0 hy0 (.val (.int (z1 &&& z0))) rfl _ hr
def f_law_218 (n : Nat) (x1 : Int32) (x2 : Int32) (x3 : Int32) (z0 : Int32) (z1 : Int32) (s : St) : Option (Int32 × St) :=
  (f_read n x3 (4 : Int32) s).bind fun q1 =>
  if q1.1 = 0 then
    f_law_238 n x1 x2 x3 (1 : Int32) (z1 &&& z0) q1.2
  else
    f_law_238 n x1 x2 x3 (0 : Int32) (z1 &&& z0) q1.2
set_option maxRecDepth 100000 in
theorem e_law_218 {g : GT} {n : Nat} (hw : HW g) {K : St → MHeap} {o : Nat} {r : Nat → Nat} (V : View (GG g) Ln K o r) (x1 : Int32) (x2 : Int32) (x3 : Int32) (z0 : Int32) (z1 : Int32) (s : St) (y0 : Slot) (hy0 : one1 y0 = true) (y5 : Slot) (hy5 : one1 y5 = true) (w : Int32 × St) (hr : f_law_218 n x1 x2 x3 z0 z1 s = some w) : Ev (GG g) M_law 218 [y0, .val (.int x1), .val (.int x2), .val (.int x3), .val (.ref o), y5] [.int z0, .int z1] (K s) ((some (.int w.1)), (K w.2)) := by
  unfold f_law_218 at hr
  refine Ev.iand at_218 ?_
  refine Ev.istD (L' := [y0, .val (.int x1), .val (.int x2), .val (.int x3), .val (.ref o), .val (.int (z1 &&& z0))]) at_219 rfl hy5 rfl ?_
  refine Ev.iload at_221 rfl ?_
  refine Ev.aload at_223 rfl ?_
  refine Ev.iloadN at_225 rfl ?_
  refine Ev.iconst (z := 4) at_226 rfl ?_
  obtain ⟨q1, hq2, hr⟩ := Option.bind_eq_some_iff.mp hr
  refine Ev.virt (y := M_read) (args := [.int x3, .int (4 : Int32)]) (rest := [.int (z1 &&& z0)]) (gok hw) rfl nm_read (ww hw 82 rfl) (ww hw 83 rfl) (ww hw 84 rfl) (ww hw 85 rfl) (ww hw 86 rfl) (lenOf pd_read rfl) at_227 (V.2.1 s) (e_read hw V hq2) (by decide) (Nat.le_of_ble_eq_true rfl) rfl ?_
  refine Ev.ifne (t := 237) at_230 rfl (fun c3 => ?_) (fun c3 => ?_)
  · replace hr := (if_pos c3).symm.trans hr
    refine Ev.iconst (z := 1) at_233 rfl ?_
    refine Ev.goto (t := 238) at_234 rfl ?_
    exact e_law_238 hw V  x1 x2 x3 (1 : Int32) (z1 &&& z0) q1.2 y0 hy0 (.val (.int (z1 &&& z0))) rfl _ hr
  · replace hr := (if_neg c3).symm.trans hr
    refine Ev.iconst (z := 0) at_237 rfl ?_
    exact e_law_238 hw V  x1 x2 x3 (0 : Int32) (z1 &&& z0) q1.2 y0 hy0 (.val (.int (z1 &&& z0))) rfl _ hr
def f_law_198 (n : Nat) (x1 : Int32) (x2 : Int32) (x3 : Int32) (z0 : Int32) (z1 : Int32) (s : St) : Option (Int32 × St) :=
  (f_read n x3 (3 : Int32) s).bind fun q1 =>
  if q1.1 = 0 then
    f_law_218 n x1 x2 x3 (1 : Int32) (z1 &&& z0) q1.2
  else
    f_law_218 n x1 x2 x3 (0 : Int32) (z1 &&& z0) q1.2
set_option maxRecDepth 100000 in
theorem e_law_198 {g : GT} {n : Nat} (hw : HW g) {K : St → MHeap} {o : Nat} {r : Nat → Nat} (V : View (GG g) Ln K o r) (x1 : Int32) (x2 : Int32) (x3 : Int32) (z0 : Int32) (z1 : Int32) (s : St) (y0 : Slot) (hy0 : one1 y0 = true) (y5 : Slot) (hy5 : one1 y5 = true) (w : Int32 × St) (hr : f_law_198 n x1 x2 x3 z0 z1 s = some w) : Ev (GG g) M_law 198 [y0, .val (.int x1), .val (.int x2), .val (.int x3), .val (.ref o), y5] [.int z0, .int z1] (K s) ((some (.int w.1)), (K w.2)) := by
  unfold f_law_198 at hr
  refine Ev.iand at_198 ?_
  refine Ev.istD (L' := [y0, .val (.int x1), .val (.int x2), .val (.int x3), .val (.ref o), .val (.int (z1 &&& z0))]) at_199 rfl hy5 rfl ?_
  refine Ev.iload at_201 rfl ?_
  refine Ev.aload at_203 rfl ?_
  refine Ev.iloadN at_205 rfl ?_
  refine Ev.iconst (z := 3) at_206 rfl ?_
  obtain ⟨q1, hq2, hr⟩ := Option.bind_eq_some_iff.mp hr
  refine Ev.virt (y := M_read) (args := [.int x3, .int (3 : Int32)]) (rest := [.int (z1 &&& z0)]) (gok hw) rfl nm_read (ww hw 82 rfl) (ww hw 83 rfl) (ww hw 84 rfl) (ww hw 85 rfl) (ww hw 86 rfl) (lenOf pd_read rfl) at_207 (V.2.1 s) (e_read hw V hq2) (by decide) (Nat.le_of_ble_eq_true rfl) rfl ?_
  refine Ev.ifne (t := 217) at_210 rfl (fun c3 => ?_) (fun c3 => ?_)
  · replace hr := (if_pos c3).symm.trans hr
    refine Ev.iconst (z := 1) at_213 rfl ?_
    refine Ev.goto (t := 218) at_214 rfl ?_
    exact e_law_218 hw V  x1 x2 x3 (1 : Int32) (z1 &&& z0) q1.2 y0 hy0 (.val (.int (z1 &&& z0))) rfl _ hr
  · replace hr := (if_neg c3).symm.trans hr
    refine Ev.iconst (z := 0) at_217 rfl ?_
    exact e_law_218 hw V  x1 x2 x3 (0 : Int32) (z1 &&& z0) q1.2 y0 hy0 (.val (.int (z1 &&& z0))) rfl _ hr
def f_law_179 (n : Nat) (x1 : Int32) (x2 : Int32) (x3 : Int32) (z0 : Int32) (z1 : Int32) (s : St) : Option (Int32 × St) :=
  (f_lastStatus s).bind fun q1 =>
  if q1 = (1 : Int32) then
    f_law_198 n x1 x2 x3 (1 : Int32) (z1 &&& z0) s
  else
    f_law_198 n x1 x2 x3 (0 : Int32) (z1 &&& z0) s
set_option maxRecDepth 100000 in
theorem e_law_179 {g : GT} {n : Nat} (hw : HW g) {K : St → MHeap} {o : Nat} {r : Nat → Nat} (V : View (GG g) Ln K o r) (x1 : Int32) (x2 : Int32) (x3 : Int32) (z0 : Int32) (z1 : Int32) (s : St) (y0 : Slot) (hy0 : one1 y0 = true) (y5 : Slot) (hy5 : one1 y5 = true) (w : Int32 × St) (hr : f_law_179 n x1 x2 x3 z0 z1 s = some w) : Ev (GG g) M_law 179 [y0, .val (.int x1), .val (.int x2), .val (.int x3), .val (.ref o), y5] [.int z0, .int z1] (K s) ((some (.int w.1)), (K w.2)) := by
  unfold f_law_179 at hr
  refine Ev.iand at_179 ?_
  refine Ev.istD (L' := [y0, .val (.int x1), .val (.int x2), .val (.int x3), .val (.ref o), .val (.int (z1 &&& z0))]) at_180 rfl hy5 rfl ?_
  refine Ev.iload at_182 rfl ?_
  refine Ev.aload at_184 rfl ?_
  obtain ⟨q1, hq2, hr⟩ := Option.bind_eq_some_iff.mp hr
  refine Ev.virt (y := M_lastStatus) (args := []) (rest := [.int (z1 &&& z0)]) (gok hw) rfl nm_lastStatus (ww hw 87 rfl) (ww hw 88 rfl) (ww hw 89 rfl) (ww hw 90 rfl) (ww hw 91 rfl) (lenOf pd_lastStatus rfl) at_186 (V.2.1 s) (e_lastStatus hw V hq2) (by decide) (Nat.le_of_ble_eq_true rfl) rfl ?_
  refine Ev.iconst (z := 1) at_189 rfl ?_
  refine Ev.icne (t := 197) at_190 rfl (fun c3 => ?_) (fun c3 => ?_)
  · replace hr := (if_pos c3).symm.trans hr
    refine Ev.iconst (z := 1) at_193 rfl ?_
    refine Ev.goto (t := 198) at_194 rfl ?_
    exact e_law_198 hw V  x1 x2 x3 (1 : Int32) (z1 &&& z0) s y0 hy0 (.val (.int (z1 &&& z0))) rfl _ hr
  · replace hr := (if_neg c3).symm.trans hr
    refine Ev.iconst (z := 0) at_197 rfl ?_
    exact e_law_198 hw V  x1 x2 x3 (0 : Int32) (z1 &&& z0) s y0 hy0 (.val (.int (z1 &&& z0))) rfl _ hr
def f_law_159 (n : Nat) (x1 : Int32) (x2 : Int32) (x3 : Int32) (z0 : Int32) (z1 : Int32) (s : St) : Option (Int32 × St) :=
  (f_read n x3 (3 : Int32) s).bind fun q1 =>
  if q1.1 = 0 then
    f_law_179 n x1 x2 x3 (1 : Int32) (z1 &&& z0) q1.2
  else
    f_law_179 n x1 x2 x3 (0 : Int32) (z1 &&& z0) q1.2
set_option maxRecDepth 100000 in
theorem e_law_159 {g : GT} {n : Nat} (hw : HW g) {K : St → MHeap} {o : Nat} {r : Nat → Nat} (V : View (GG g) Ln K o r) (x1 : Int32) (x2 : Int32) (x3 : Int32) (z0 : Int32) (z1 : Int32) (s : St) (y0 : Slot) (hy0 : one1 y0 = true) (y5 : Slot) (hy5 : one1 y5 = true) (w : Int32 × St) (hr : f_law_159 n x1 x2 x3 z0 z1 s = some w) : Ev (GG g) M_law 159 [y0, .val (.int x1), .val (.int x2), .val (.int x3), .val (.ref o), y5] [.int z0, .int z1] (K s) ((some (.int w.1)), (K w.2)) := by
  unfold f_law_159 at hr
  refine Ev.iand at_159 ?_
  refine Ev.istD (L' := [y0, .val (.int x1), .val (.int x2), .val (.int x3), .val (.ref o), .val (.int (z1 &&& z0))]) at_160 rfl hy5 rfl ?_
  refine Ev.iload at_162 rfl ?_
  refine Ev.aload at_164 rfl ?_
  refine Ev.iloadN at_166 rfl ?_
  refine Ev.iconst (z := 3) at_167 rfl ?_
  obtain ⟨q1, hq2, hr⟩ := Option.bind_eq_some_iff.mp hr
  refine Ev.virt (y := M_read) (args := [.int x3, .int (3 : Int32)]) (rest := [.int (z1 &&& z0)]) (gok hw) rfl nm_read (ww hw 82 rfl) (ww hw 83 rfl) (ww hw 84 rfl) (ww hw 85 rfl) (ww hw 86 rfl) (lenOf pd_read rfl) at_168 (V.2.1 s) (e_read hw V hq2) (by decide) (Nat.le_of_ble_eq_true rfl) rfl ?_
  refine Ev.ifne (t := 178) at_171 rfl (fun c3 => ?_) (fun c3 => ?_)
  · replace hr := (if_pos c3).symm.trans hr
    refine Ev.iconst (z := 1) at_174 rfl ?_
    refine Ev.goto (t := 179) at_175 rfl ?_
    exact e_law_179 hw V  x1 x2 x3 (1 : Int32) (z1 &&& z0) q1.2 y0 hy0 (.val (.int (z1 &&& z0))) rfl _ hr
  · replace hr := (if_neg c3).symm.trans hr
    refine Ev.iconst (z := 0) at_178 rfl ?_
    exact e_law_179 hw V  x1 x2 x3 (0 : Int32) (z1 &&& z0) q1.2 y0 hy0 (.val (.int (z1 &&& z0))) rfl _ hr
def f_law_141 (n : Nat) (x1 : Int32) (x2 : Int32) (x3 : Int32) (z0 : Int32) (z1 : Int32) (s : St) : Option (Int32 × St) :=
  (f_hand s).bind fun q1 =>
  if q1 = 0 then
    f_law_159 n x1 x2 x3 (1 : Int32) (z1 &&& z0) s
  else
    f_law_159 n x1 x2 x3 (0 : Int32) (z1 &&& z0) s
set_option maxRecDepth 100000 in
theorem e_law_141 {g : GT} {n : Nat} (hw : HW g) {K : St → MHeap} {o : Nat} {r : Nat → Nat} (V : View (GG g) Ln K o r) (x1 : Int32) (x2 : Int32) (x3 : Int32) (z0 : Int32) (z1 : Int32) (s : St) (y0 : Slot) (hy0 : one1 y0 = true) (y5 : Slot) (hy5 : one1 y5 = true) (w : Int32 × St) (hr : f_law_141 n x1 x2 x3 z0 z1 s = some w) : Ev (GG g) M_law 141 [y0, .val (.int x1), .val (.int x2), .val (.int x3), .val (.ref o), y5] [.int z0, .int z1] (K s) ((some (.int w.1)), (K w.2)) := by
  unfold f_law_141 at hr
  refine Ev.iand at_141 ?_
  refine Ev.istD (L' := [y0, .val (.int x1), .val (.int x2), .val (.int x3), .val (.ref o), .val (.int (z1 &&& z0))]) at_142 rfl hy5 rfl ?_
  refine Ev.iload at_144 rfl ?_
  refine Ev.aload at_146 rfl ?_
  obtain ⟨q1, hq2, hr⟩ := Option.bind_eq_some_iff.mp hr
  refine Ev.virt (y := M_hand) (args := []) (rest := [.int (z1 &&& z0)]) (gok hw) rfl nm_hand (ww hw 92 rfl) (ww hw 93 rfl) (ww hw 94 rfl) (ww hw 95 rfl) (ww hw 96 rfl) (lenOf pd_hand rfl) at_148 (V.2.1 s) (e_hand hw V hq2) (by decide) (Nat.le_of_ble_eq_true rfl) rfl ?_
  refine Ev.ifne (t := 158) at_151 rfl (fun c3 => ?_) (fun c3 => ?_)
  · replace hr := (if_pos c3).symm.trans hr
    refine Ev.iconst (z := 1) at_154 rfl ?_
    refine Ev.goto (t := 159) at_155 rfl ?_
    exact e_law_159 hw V  x1 x2 x3 (1 : Int32) (z1 &&& z0) s y0 hy0 (.val (.int (z1 &&& z0))) rfl _ hr
  · replace hr := (if_neg c3).symm.trans hr
    refine Ev.iconst (z := 0) at_158 rfl ?_
    exact e_law_159 hw V  x1 x2 x3 (0 : Int32) (z1 &&& z0) s y0 hy0 (.val (.int (z1 &&& z0))) rfl _ hr
def f_law_122 (n : Nat) (x1 : Int32) (x2 : Int32) (x3 : Int32) (z0 : Int32) (z1 : Int32) (s : St) : Option (Int32 × St) :=
  (f_lastStatus s).bind fun q1 =>
  if q1 = (3 : Int32) then
    f_law_141 n x1 x2 x3 (1 : Int32) (z1 &&& z0) s
  else
    f_law_141 n x1 x2 x3 (0 : Int32) (z1 &&& z0) s
set_option maxRecDepth 100000 in
theorem e_law_122 {g : GT} {n : Nat} (hw : HW g) {K : St → MHeap} {o : Nat} {r : Nat → Nat} (V : View (GG g) Ln K o r) (x1 : Int32) (x2 : Int32) (x3 : Int32) (z0 : Int32) (z1 : Int32) (s : St) (y0 : Slot) (hy0 : one1 y0 = true) (y5 : Slot) (hy5 : one1 y5 = true) (w : Int32 × St) (hr : f_law_122 n x1 x2 x3 z0 z1 s = some w) : Ev (GG g) M_law 122 [y0, .val (.int x1), .val (.int x2), .val (.int x3), .val (.ref o), y5] [.int z0, .int z1] (K s) ((some (.int w.1)), (K w.2)) := by
  unfold f_law_122 at hr
  refine Ev.iand at_122 ?_
  refine Ev.istD (L' := [y0, .val (.int x1), .val (.int x2), .val (.int x3), .val (.ref o), .val (.int (z1 &&& z0))]) at_123 rfl hy5 rfl ?_
  refine Ev.iload at_125 rfl ?_
  refine Ev.aload at_127 rfl ?_
  obtain ⟨q1, hq2, hr⟩ := Option.bind_eq_some_iff.mp hr
  refine Ev.virt (y := M_lastStatus) (args := []) (rest := [.int (z1 &&& z0)]) (gok hw) rfl nm_lastStatus (ww hw 87 rfl) (ww hw 88 rfl) (ww hw 89 rfl) (ww hw 90 rfl) (ww hw 91 rfl) (lenOf pd_lastStatus rfl) at_129 (V.2.1 s) (e_lastStatus hw V hq2) (by decide) (Nat.le_of_ble_eq_true rfl) rfl ?_
  refine Ev.iconst (z := 3) at_132 rfl ?_
  refine Ev.icne (t := 140) at_133 rfl (fun c3 => ?_) (fun c3 => ?_)
  · replace hr := (if_pos c3).symm.trans hr
    refine Ev.iconst (z := 1) at_136 rfl ?_
    refine Ev.goto (t := 141) at_137 rfl ?_
    exact e_law_141 hw V  x1 x2 x3 (1 : Int32) (z1 &&& z0) s y0 hy0 (.val (.int (z1 &&& z0))) rfl _ hr
  · replace hr := (if_neg c3).symm.trans hr
    refine Ev.iconst (z := 0) at_140 rfl ?_
    exact e_law_141 hw V  x1 x2 x3 (0 : Int32) (z1 &&& z0) s y0 hy0 (.val (.int (z1 &&& z0))) rfl _ hr
def f_law_102 (n : Nat) (x1 : Int32) (x2 : Int32) (x3 : Int32) (z0 : Int32) (z1 : Int32) (s : St) : Option (Int32 × St) :=
  (f_read n x3 (4 : Int32) s).bind fun q1 =>
  if q1.1 = 0 then
    f_law_122 n x1 x2 x3 (1 : Int32) (z1 &&& z0) q1.2
  else
    f_law_122 n x1 x2 x3 (0 : Int32) (z1 &&& z0) q1.2
set_option maxRecDepth 100000 in
theorem e_law_102 {g : GT} {n : Nat} (hw : HW g) {K : St → MHeap} {o : Nat} {r : Nat → Nat} (V : View (GG g) Ln K o r) (x1 : Int32) (x2 : Int32) (x3 : Int32) (z0 : Int32) (z1 : Int32) (s : St) (y0 : Slot) (hy0 : one1 y0 = true) (y5 : Slot) (hy5 : one1 y5 = true) (w : Int32 × St) (hr : f_law_102 n x1 x2 x3 z0 z1 s = some w) : Ev (GG g) M_law 102 [y0, .val (.int x1), .val (.int x2), .val (.int x3), .val (.ref o), y5] [.int z0, .int z1] (K s) ((some (.int w.1)), (K w.2)) := by
  unfold f_law_102 at hr
  refine Ev.iand at_102 ?_
  refine Ev.istD (L' := [y0, .val (.int x1), .val (.int x2), .val (.int x3), .val (.ref o), .val (.int (z1 &&& z0))]) at_103 rfl hy5 rfl ?_
  refine Ev.iload at_105 rfl ?_
  refine Ev.aload at_107 rfl ?_
  refine Ev.iloadN at_109 rfl ?_
  refine Ev.iconst (z := 4) at_110 rfl ?_
  obtain ⟨q1, hq2, hr⟩ := Option.bind_eq_some_iff.mp hr
  refine Ev.virt (y := M_read) (args := [.int x3, .int (4 : Int32)]) (rest := [.int (z1 &&& z0)]) (gok hw) rfl nm_read (ww hw 82 rfl) (ww hw 83 rfl) (ww hw 84 rfl) (ww hw 85 rfl) (ww hw 86 rfl) (lenOf pd_read rfl) at_111 (V.2.1 s) (e_read hw V hq2) (by decide) (Nat.le_of_ble_eq_true rfl) rfl ?_
  refine Ev.ifne (t := 121) at_114 rfl (fun c3 => ?_) (fun c3 => ?_)
  · replace hr := (if_pos c3).symm.trans hr
    refine Ev.iconst (z := 1) at_117 rfl ?_
    refine Ev.goto (t := 122) at_118 rfl ?_
    exact e_law_122 hw V  x1 x2 x3 (1 : Int32) (z1 &&& z0) q1.2 y0 hy0 (.val (.int (z1 &&& z0))) rfl _ hr
  · replace hr := (if_neg c3).symm.trans hr
    refine Ev.iconst (z := 0) at_121 rfl ?_
    exact e_law_122 hw V  x1 x2 x3 (0 : Int32) (z1 &&& z0) q1.2 y0 hy0 (.val (.int (z1 &&& z0))) rfl _ hr
def f_law_82 (n : Nat) (x1 : Int32) (x2 : Int32) (x3 : Int32) (z0 : Int32) (z1 : Int32) (s : St) : Option (Int32 × St) :=
  (f_read n x3 (3 : Int32) s).bind fun q1 =>
  if q1.1 = 0 then
    f_law_102 n x1 x2 x3 (1 : Int32) (z1 &&& z0) q1.2
  else
    f_law_102 n x1 x2 x3 (0 : Int32) (z1 &&& z0) q1.2
set_option maxRecDepth 100000 in
theorem e_law_82 {g : GT} {n : Nat} (hw : HW g) {K : St → MHeap} {o : Nat} {r : Nat → Nat} (V : View (GG g) Ln K o r) (x1 : Int32) (x2 : Int32) (x3 : Int32) (z0 : Int32) (z1 : Int32) (s : St) (y0 : Slot) (hy0 : one1 y0 = true) (y5 : Slot) (hy5 : one1 y5 = true) (w : Int32 × St) (hr : f_law_82 n x1 x2 x3 z0 z1 s = some w) : Ev (GG g) M_law 82 [y0, .val (.int x1), .val (.int x2), .val (.int x3), .val (.ref o), y5] [.int z0, .int z1] (K s) ((some (.int w.1)), (K w.2)) := by
  unfold f_law_82 at hr
  refine Ev.iand at_82 ?_
  refine Ev.istD (L' := [y0, .val (.int x1), .val (.int x2), .val (.int x3), .val (.ref o), .val (.int (z1 &&& z0))]) at_83 rfl hy5 rfl ?_
  refine Ev.iload at_85 rfl ?_
  refine Ev.aload at_87 rfl ?_
  refine Ev.iloadN at_89 rfl ?_
  refine Ev.iconst (z := 3) at_90 rfl ?_
  obtain ⟨q1, hq2, hr⟩ := Option.bind_eq_some_iff.mp hr
  refine Ev.virt (y := M_read) (args := [.int x3, .int (3 : Int32)]) (rest := [.int (z1 &&& z0)]) (gok hw) rfl nm_read (ww hw 82 rfl) (ww hw 83 rfl) (ww hw 84 rfl) (ww hw 85 rfl) (ww hw 86 rfl) (lenOf pd_read rfl) at_91 (V.2.1 s) (e_read hw V hq2) (by decide) (Nat.le_of_ble_eq_true rfl) rfl ?_
  refine Ev.ifne (t := 101) at_94 rfl (fun c3 => ?_) (fun c3 => ?_)
  · replace hr := (if_pos c3).symm.trans hr
    refine Ev.iconst (z := 1) at_97 rfl ?_
    refine Ev.goto (t := 102) at_98 rfl ?_
    exact e_law_102 hw V  x1 x2 x3 (1 : Int32) (z1 &&& z0) q1.2 y0 hy0 (.val (.int (z1 &&& z0))) rfl _ hr
  · replace hr := (if_neg c3).symm.trans hr
    refine Ev.iconst (z := 0) at_101 rfl ?_
    exact e_law_102 hw V  x1 x2 x3 (0 : Int32) (z1 &&& z0) q1.2 y0 hy0 (.val (.int (z1 &&& z0))) rfl _ hr
def f_law_62 (n : Nat) (x1 : Int32) (x2 : Int32) (x3 : Int32) (z0 : Int32) (z1 : Int32) (s : St) : Option (Int32 × St) :=
  (f_read n x3 (2 : Int32) s).bind fun q1 =>
  if q1.1 = 0 then
    f_law_82 n x1 x2 x3 (1 : Int32) (z1 &&& z0) q1.2
  else
    f_law_82 n x1 x2 x3 (0 : Int32) (z1 &&& z0) q1.2
set_option maxRecDepth 100000 in
theorem e_law_62 {g : GT} {n : Nat} (hw : HW g) {K : St → MHeap} {o : Nat} {r : Nat → Nat} (V : View (GG g) Ln K o r) (x1 : Int32) (x2 : Int32) (x3 : Int32) (z0 : Int32) (z1 : Int32) (s : St) (y0 : Slot) (hy0 : one1 y0 = true) (y5 : Slot) (hy5 : one1 y5 = true) (w : Int32 × St) (hr : f_law_62 n x1 x2 x3 z0 z1 s = some w) : Ev (GG g) M_law 62 [y0, .val (.int x1), .val (.int x2), .val (.int x3), .val (.ref o), y5] [.int z0, .int z1] (K s) ((some (.int w.1)), (K w.2)) := by
  unfold f_law_62 at hr
  refine Ev.iand at_62 ?_
  refine Ev.istD (L' := [y0, .val (.int x1), .val (.int x2), .val (.int x3), .val (.ref o), .val (.int (z1 &&& z0))]) at_63 rfl hy5 rfl ?_
  refine Ev.iload at_65 rfl ?_
  refine Ev.aload at_67 rfl ?_
  refine Ev.iloadN at_69 rfl ?_
  refine Ev.iconst (z := 2) at_70 rfl ?_
  obtain ⟨q1, hq2, hr⟩ := Option.bind_eq_some_iff.mp hr
  refine Ev.virt (y := M_read) (args := [.int x3, .int (2 : Int32)]) (rest := [.int (z1 &&& z0)]) (gok hw) rfl nm_read (ww hw 82 rfl) (ww hw 83 rfl) (ww hw 84 rfl) (ww hw 85 rfl) (ww hw 86 rfl) (lenOf pd_read rfl) at_71 (V.2.1 s) (e_read hw V hq2) (by decide) (Nat.le_of_ble_eq_true rfl) rfl ?_
  refine Ev.ifne (t := 81) at_74 rfl (fun c3 => ?_) (fun c3 => ?_)
  · replace hr := (if_pos c3).symm.trans hr
    refine Ev.iconst (z := 1) at_77 rfl ?_
    refine Ev.goto (t := 82) at_78 rfl ?_
    exact e_law_82 hw V  x1 x2 x3 (1 : Int32) (z1 &&& z0) q1.2 y0 hy0 (.val (.int (z1 &&& z0))) rfl _ hr
  · replace hr := (if_neg c3).symm.trans hr
    refine Ev.iconst (z := 0) at_81 rfl ?_
    exact e_law_82 hw V  x1 x2 x3 (0 : Int32) (z1 &&& z0) q1.2 y0 hy0 (.val (.int (z1 &&& z0))) rfl _ hr
def f_law_40 (n : Nat) (x1 : Int32) (x2 : Int32) (x3 : Int32) (z0 : Int32) (z1 : Int32) (s : St) : Option (Int32 × St) :=
  (f_write n x3 (1 : Int32) x2 s).bind fun q1 =>
  if q1.1 = (2 : Int32) then
    f_law_62 n x1 x2 x3 (1 : Int32) (z1 &&& z0) q1.2
  else
    f_law_62 n x1 x2 x3 (0 : Int32) (z1 &&& z0) q1.2
set_option maxRecDepth 100000 in
theorem e_law_40 {g : GT} {n : Nat} (hw : HW g) {K : St → MHeap} {o : Nat} {r : Nat → Nat} (V : View (GG g) Ln K o r) (x1 : Int32) (x2 : Int32) (x3 : Int32) (z0 : Int32) (z1 : Int32) (s : St) (y0 : Slot) (hy0 : one1 y0 = true) (y5 : Slot) (hy5 : one1 y5 = true) (w : Int32 × St) (hr : f_law_40 n x1 x2 x3 z0 z1 s = some w) : Ev (GG g) M_law 40 [y0, .val (.int x1), .val (.int x2), .val (.int x3), .val (.ref o), y5] [.int z0, .int z1] (K s) ((some (.int w.1)), (K w.2)) := by
  unfold f_law_40 at hr
  refine Ev.iand at_40 ?_
  refine Ev.istD (L' := [y0, .val (.int x1), .val (.int x2), .val (.int x3), .val (.ref o), .val (.int (z1 &&& z0))]) at_41 rfl hy5 rfl ?_
  refine Ev.iload at_43 rfl ?_
  refine Ev.aload at_45 rfl ?_
  refine Ev.iloadN at_47 rfl ?_
  refine Ev.iconst (z := 1) at_48 rfl ?_
  refine Ev.iloadN at_49 rfl ?_
  obtain ⟨q1, hq2, hr⟩ := Option.bind_eq_some_iff.mp hr
  refine Ev.virt (y := M_write) (args := [.int x3, .int (1 : Int32), .int x2]) (rest := [.int (z1 &&& z0)]) (gok hw) rfl nm_write (ww hw 53 rfl) (ww hw 54 rfl) (ww hw 55 rfl) (ww hw 56 rfl) (ww hw 57 rfl) (lenOf pd_write rfl) at_50 (V.2.1 s) (e_write hw V hq2) (by decide) (Nat.le_of_ble_eq_true rfl) rfl ?_
  refine Ev.iconst (z := 2) at_53 rfl ?_
  refine Ev.icne (t := 61) at_54 rfl (fun c3 => ?_) (fun c3 => ?_)
  · replace hr := (if_pos c3).symm.trans hr
    refine Ev.iconst (z := 1) at_57 rfl ?_
    refine Ev.goto (t := 62) at_58 rfl ?_
    exact e_law_62 hw V  x1 x2 x3 (1 : Int32) (z1 &&& z0) q1.2 y0 hy0 (.val (.int (z1 &&& z0))) rfl _ hr
  · replace hr := (if_neg c3).symm.trans hr
    refine Ev.iconst (z := 0) at_61 rfl ?_
    exact e_law_62 hw V  x1 x2 x3 (0 : Int32) (z1 &&& z0) q1.2 y0 hy0 (.val (.int (z1 &&& z0))) rfl _ hr
def f_law_16 (n : Nat) (x1 : Int32) (x2 : Int32) (x3 : Int32) (s : St) : Option (Int32 × St) :=
  (f_write n x3 (0 : Int32) x1 s).bind fun q1 =>
  if q1.1 = (2 : Int32) then
    f_law_40 n x1 x2 x3 (1 : Int32) (1 : Int32) q1.2
  else
    f_law_40 n x1 x2 x3 (0 : Int32) (1 : Int32) q1.2
set_option maxRecDepth 100000 in
theorem e_law_16 {g : GT} {n : Nat} (hw : HW g) {K : St → MHeap} {o : Nat} {r : Nat → Nat} (V : View (GG g) Ln K o r) (x1 : Int32) (x2 : Int32) (x3 : Int32) (s : St) (y0 : Slot) (hy0 : one1 y0 = true) (y4 : Slot) (hy4 : one1 y4 = true) (y5 : Slot) (hy5 : one1 y5 = true) (w : Int32 × St) (hr : f_law_16 n x1 x2 x3 s = some w) : Ev (GG g) M_law 16 [y0, .val (.int x1), .val (.int x2), .val (.int x3), y4, y5] [.ref o] (K s) ((some (.int w.1)), (K w.2)) := by
  unfold f_law_16 at hr
  refine Ev.astD (L' := [y0, .val (.int x1), .val (.int x2), .val (.int x3), .val (.ref o), y5]) at_16 rfl hy4 rfl ?_
  refine Ev.iconst (z := 1) at_18 rfl ?_
  refine Ev.istD (L' := [y0, .val (.int x1), .val (.int x2), .val (.int x3), .val (.ref o), .val (.int (1 : Int32))]) at_19 rfl hy5 rfl ?_
  refine Ev.iload at_21 rfl ?_
  refine Ev.aload at_23 rfl ?_
  refine Ev.iloadN at_25 rfl ?_
  refine Ev.iconst (z := 0) at_26 rfl ?_
  refine Ev.iloadN at_27 rfl ?_
  obtain ⟨q1, hq2, hr⟩ := Option.bind_eq_some_iff.mp hr
  refine Ev.virt (y := M_write) (args := [.int x3, .int (0 : Int32), .int x1]) (rest := [.int (1 : Int32)]) (gok hw) rfl nm_write (ww hw 53 rfl) (ww hw 54 rfl) (ww hw 55 rfl) (ww hw 56 rfl) (ww hw 57 rfl) (lenOf pd_write rfl) at_28 (V.2.1 s) (e_write hw V hq2) (by decide) (Nat.le_of_ble_eq_true rfl) rfl ?_
  refine Ev.iconst (z := 2) at_31 rfl ?_
  refine Ev.icne (t := 39) at_32 rfl (fun c3 => ?_) (fun c3 => ?_)
  · replace hr := (if_pos c3).symm.trans hr
    refine Ev.iconst (z := 1) at_35 rfl ?_
    refine Ev.goto (t := 40) at_36 rfl ?_
    exact e_law_40 hw V  x1 x2 x3 (1 : Int32) (1 : Int32) q1.2 y0 hy0 (.val (.int (1 : Int32))) rfl _ hr
  · replace hr := (if_neg c3).symm.trans hr
    refine Ev.iconst (z := 0) at_39 rfl ?_
    exact e_law_40 hw V  x1 x2 x3 (0 : Int32) (1 : Int32) q1.2 y0 hy0 (.val (.int (1 : Int32))) rfl _ hr
def f_law (n : Nat) (a0 : Int32) (a1 : Int32) (a2 : Int32) : Option (Int32 × St) :=
  (f_ctor n (4 : Int32) (1 : Int32) (1 : Int32) (16 : Int32)).bind fun q1 =>
  f_law_16 n a1 a2 (a0 &&& (3 : Int32)) q1
set_option maxRecDepth 100000 in
theorem e_law {g : GT} {n : Nat} {a0 : Int32} {a1 : Int32} {a2 : Int32} {w : Int32 × St} (hw : HW g) (hk : k0 (GG g) ≤ (H0).length) (hr : f_law n a0 a1 a2 = some w) : EvC (GG g) M_law [.int a0, .int a1, .int a2] H0 ((some (.int w.1)), (KL w.2)) := by
  refine EvC.enter (L0 := [.val (.int a0), .val (.int a1), .val (.int a2), .unset, .unset, .unset]) pl_law (fun h => nomatch h) rfl rfl ?_
  unfold f_law at hr
  refine Ev.iloadN at_0 rfl ?_
  refine Ev.iconst (z := 3) at_1 rfl ?_
  refine Ev.iand at_2 ?_
  refine Ev.istDN (L' := [.val (.int a0), .val (.int a1), .val (.int a2), .val (.int (a0 &&& (3 : Int32))), .unset, .unset]) at_3 rfl rfl rfl ?_
  refine Ev.new (gok hw) (ww hw 0 rfl) at_4 (fs := dfl) rfl ?_
  refine Ev.dup at_7 rfl ?_
  refine Ev.iconst (z := 4) at_8 rfl ?_
  refine Ev.iconst (z := 1) at_9 rfl ?_
  refine Ev.iconst (z := 1) at_10 rfl ?_
  refine Ev.bipush (z := 16) at_11 rfl ?_
  obtain ⟨q1, hq2, hr⟩ := Option.bind_eq_some_iff.mp hr
  refine Ev.ctor (y := M_ctor) (args := [.int (4 : Int32), .int (1 : Int32), .int (1 : Int32), .int (16 : Int32)]) (rest := [.ref (H0).length]) rfl rfl nm_ctor (ww hw 3 rfl) (ww hw 4 rfl) (ww hw 5 rfl) (ww hw 2 rfl) (lenOf pd_ctor rfl) at_13 (e_ctor hw hk hq2) (by decide) (Nat.le_of_ble_eq_true rfl) rfl ?_
  exact e_law_16 hw (K := KL) (o := (H0).length) (r := rA (H0).length al) (view_of hk al_ok al_nd)  a1 a2 (a0 &&& (3 : Int32)) q1 (.val (.int a0)) rfl .unset rfl .unset rfl _ hr
theorem fin_len (w : St) : (KL w).length - H0.length ≤ 40 := by
  have q : al.length = 15 := rfl
  unfold KL; rw [KH_len]; simp only [List.length_nil]; omega
theorem fin_hsl (w : St) : hsl 23 (KL w) - hsl 23 H0 ≤ 768 := by
  have q : (al.map fun q => Ln q.1).sum = 312 := by decide +kernel
  have z : hsl 23 [] = 0 := rfl
  unfold KL; rw [hsl_KH, q, z]; omega
set_option maxRecDepth 100000 in
theorem comes_1 (plain : ∀ i0 i1 i2 : Int32, ∃ n w, f_law n i0 i1 i2 = some (1, w)) {Post : Tables → Env → Array Value → State → Outcome → State → Prop} (hpost : ∀ tb e args s v u, (limb_1_1.after args s (.returned v) u = true ∧ limb_1_2.after args s (.returned v) u = true ∧ True) → FrameEnd s (.returned v) u (Jvm.fieldLocs frame_1_writes args s ++ Jvm.arrayLocs frame_1_arrays args s ++ Jvm.staticLocs frame_1_statics s) 40 768 → Post tb e args s (.returned v) u) :
    ArmFor flags0 classFile x code maxLocals ret World_1 tables_1 room_1 Calls_1 rest_1 Pre_1 Post := by
  intro l hfl _ _ p e ha hc hk s m args below hf hA hF happ hP
  obtain ⟨hcalls, hrest, hpre⟩ := hP
  obtain ⟨-, -, -, hnamed, -, -, -, hat⟩ := (Spec.applies_iff hf).mp happ
  obtain ⟨hg, hn⟩ := and_e (Cond.before_iff.mp (show (Jvm.Cond.and given_1 narrow_1).before args s = true from hpre))
  obtain ⟨g0, hg⟩ := and_e hg
  obtain ⟨g1, hg⟩ := and_e hg
  obtain ⟨g2, hg⟩ := and_e hg
  obtain ⟨w0, w1, w2, rfl⟩ : ∃ w0 w1 w2 : Value, args = #[w0, w1, w2] := by
    have hs : args.size = 3 := by simpa [Cond.value, given_1] using g0
    obtain ⟨L⟩ := args
    match L, hs with
    | [w0, w1, w2], _ => exact ⟨w0, w1, w2, rfl⟩
  have hw := fun d (hd : d ∈ tables_1) => atoms_spec (ws := Jvm.Cond.code x code maxLocals ret :: tables_1) hat d (List.mem_cons_of_mem _ hd)
  obtain ⟨i0, ei0⟩ := is_v g1
  obtain rfl : w0 = (.int i0) := Option.some.inj ei0
  obtain ⟨i1, ei1⟩ := is_v g2
  obtain rfl : w1 = (.int i1) := Option.some.inj ei1
  obtain ⟨i2, ei2⟩ := is_v hg
  obtain rfl : w2 = (.int i2) := Option.some.inj ei2
  obtain ⟨n, w, hr⟩ := plain i0 i1 i2
  have hE := e_law (g := (s, _, l, none, s.heap.size)) hw (Nat.le_refl _) hr
  obtain ⟨n, o, h1, h2, h3, _, L, rfl, ⟨rfl, N, -⟩, hq⟩ := hE.2 tables_1 room_1 s.heap (by decide) (by decide) (fin_len w) (fin_hsl w) ⟨rfl, Nat.le_refl _, fun a q => (nomatch q), fun i c q => by simp [H0] at q⟩ p e ha hc hk s m _ below hf ((Spec.applies_iff_loose hf).mp happ).1 ⟨rfl, State.Warmed39.refl s, rfl⟩ trivial
  exact ⟨n, _, h1, h2, h3, hpost _ _ _ _ _ _ ⟨Cond.after_iff.mpr rfl, Cond.after_iff.mpr (eq_i res_at (Term.int_eval (1)) rfl), trivial⟩ ⟨hq.1, hq.2.1, (hq.2.2.sift fun y hy => Or.inr (N y hy)).mono (fin_len w) (fin_hsl w)⟩⟩
theorem u_ctor_170 (n : Nat) (k : Nat) (x5 : Int32) (s : St) : f_ctor_170 n (k + 1) x5 s =
    (if x5 < (32 : Int32) then
      grd (inb x5 32) <|
      bnd (setA s 2 (ix x5) (-1 : Int32)) fun s3 =>
      bnd (setA s3 1 (ix x5) (-1 : Int32)) fun s4 =>
      f_ctor_170 n k (x5 + (1 : Int32)) s4
    else
      some s) := rfl
theorem u_completeWriteBacks_4 (n : Nat) (k : Nat) (x1 : Int32) (x2 : Int32) (s : St) : f_completeWriteBacks_4 n (k + 1) x1 x2 s =
    (if x2 < (s.1 15) then
      grd (inb x2 32) <|
      if (s.2 2 (ix x2)) < 0 then
        f_completeWriteBacks_4 n k x1 (x2 + (1 : Int32)) s
      else
        if (3 : Int32) < (s.2 2 (ix x2)) then
          f_completeWriteBacks_4 n k x1 (x2 + (1 : Int32)) s
        else
          if (s.2 8 (ix x2)) = 0 then
            f_completeWriteBacks_4 n k x1 (x2 + (1 : Int32)) s
          else
            if (s.1 19) < (s.2 8 (ix x2)) then
              f_completeWriteBacks_4 n k x1 (x2 + (1 : Int32)) s
            else
              grd (inb (((s.2 2 (ix x2)) * (8 : Int32)) + ((s.2 3 (ix x2)) &&& (7 : Int32))) 32) <|
              bnd (setA s 0 (ix (((s.2 2 (ix x2)) * (8 : Int32)) + ((s.2 3 (ix x2)) &&& (7 : Int32)))) (s.2 4 (ix x2))) fun s8 =>
              bnd (setA s8 5 (ix x2) (0 : Int32)) fun s9 =>
              bnd (setA s9 8 (ix x2) (0 : Int32)) fun s10 =>
              f_completeWriteBacks_4 n k (x1 + (1 : Int32)) (x2 + (1 : Int32)) s10
    else
      some (x1, s)) := rfl
theorem u_sweep_2 (n : Nat) (k : Nat) (x1 : Int32) (s : St) : f_sweep_2 n (k + 1) x1 s =
    (if x1 < (s.1 15) then
      grd ((s.1 15) ≠ 0) <|
      grd (inb (((s.1 20) + x1) % (s.1 15)) 32) <|
      bnd (s.2 2 (ix (((s.1 20) + x1) % (s.1 15)))) fun v4 =>
      if v4 < 0 then
        some ((((s.1 20) + x1) % (s.1 15)), s)
      else
        if (3 : Int32) < v4 then
          some ((((s.1 20) + x1) % (s.1 15)), s)
        else
          if (s.2 6 (ix (((s.1 20) + x1) % (s.1 15)))) = 0 then
            grd (inb v4 4) <|
            bnd ((s.2 10 (ix v4)) - (s.2 7 (ix (((s.1 20) + x1) % (s.1 15))))) fun v9 =>
            if (s.1 16) < v9 then
              if (s.2 5 (ix (((s.1 20) + x1) % (s.1 15)))) = 0 then
                some ((((s.1 20) + x1) % (s.1 15)), s)
              else
                if (s.2 8 (ix (((s.1 20) + x1) % (s.1 15)))) = 0 then
                  bnd (setA s 8 (ix (((s.1 20) + x1) % (s.1 15))) ((s.1 19) + (s.1 17))) fun s13 =>
                  f_sweep_2 n k (x1 + (1 : Int32)) s13
                else
                  f_sweep_2 n k (x1 + (1 : Int32)) s
            else
              f_sweep_2 n k (x1 + (1 : Int32)) s
          else
            bnd (setA s 6 (ix (((s.1 20) + x1) % (s.1 15))) (0 : Int32)) fun s14 =>
            grd (inb v4 4) <|
            bnd (setA s14 7 (ix (((s.1 20) + x1) % (s.1 15))) (s14.2 10 (ix v4))) fun s16 =>
            f_sweep_2 n k (x1 + (1 : Int32)) s16
    else
      some ((-1 : Int32), s)) := rfl
/-! ### the plain law -/
theorem own_clamp (s : St) (a lo hi : Int32) : f_clamp s a lo hi = some (own_cl a lo hi) := by
  unfold f_clamp own_cl
  split
  · rfl
  · split <;> rfl
theorem own_fill (n k : Nat) (s : St) (hk : 32 < k) : f_ctor_170 n k 0 s = some (s.1, fun j x => if 0 ≤ x ∧ x < 0 + 32 then (if j = 1 ∨ j = 2 then -1 else s.2 j x) else s.2 j x) := by
  have h := loopN (F := f_ctor_170 n) (N := 32) (f := fun i s => setA (setA s 2 i (-1)) 1 i (-1)) (fin := fun s => some s)
    (fun k i s hi => by
      rw [u_ctor_170, if_pos (ltZ (z := 32) 32 rfl hi (by omega)), grd_pos ((inb_N (by omega)).mpr hi), bnd_eq, bnd_eq, ix_N (by omega)])
    (fun k s => by rw [u_ctor_170, if_neg (by decide)]) 32 0 k s (by omega) hk
  rw [itr_pt (f := fun i s => setA (setA s 2 i (-1)) 1 i (-1)) (u := fun j v => if j = 1 ∨ j = 2 then -1 else v) (fun _ _ => rfl) (fun i s j x => by
    simp only [setA_2]
    by_cases e : x = i
    · by_cases e1 : j = 1
      · simp [e, e1]
      · by_cases e2 : j = 2
        · simp [e, e2]
        · simp [e1, e2]
    · simp [e])] at h
  exact h
theorem own_ctor {n : Nat} (hn : 33 ≤ n) (a b c d : Int32) : ∃ s, f_ctor n a b c d = some s ∧ s.1 15 = own_cl a 4 32 ∧ s.1 16 = own_cl b 1 64 ∧ s.1 17 = own_cl c 1 8 ∧ s.1 18 = own_cl d 1 16 ∧ s.1 20 = 0 ∧ s.1 19 = 0 ∧ s.1 22 = 0 ∧ (∀ j x, x < 32 → s.2 j x = if j = 1 ∨ j = 2 then -1 else 0) := by
  unfold f_ctor f_ctor_118
  simp only [own_clamp, Option.bind_some, bnd_eq]
  rw [own_fill n n _ (by omega)]
  refine ⟨_, rfl, rfl, rfl, rfl, rfl, rfl, rfl, rfl, fun j x hx => ?_⟩
  have : 0 ≤ x ∧ x < 0 + 32 := by omega
  simp only [this, and_self, if_true]
  rfl
/-- what keeps every method of the pager from throwing -/
def own_P (s : St) : Prop := ∃ N H : Nat, s.1 15 = Int32.ofNat N ∧ 4 ≤ N ∧ N ≤ 32 ∧ s.1 20 = Int32.ofNat H ∧ H < N
theorem own_P_of {s t : St} (h : own_P s) (e1 : t.1 15 = s.1 15) (e2 : t.1 20 = s.1 20) : own_P t := by
  obtain ⟨N, H, a, b, c, d, e⟩ := h
  exact ⟨N, H, e1.trans a, b, c, e2.trans d, e⟩
theorem own_cwb4 (n N : Nat) (hN : N ≤ 32) : ∀ (m i k : Nat) (c : Int32) (s : St), i + m = N → m < k → s.1 15 = Int32.ofNat N → ∃ c' s', f_completeWriteBacks_4 n k c (Int32.ofNat i) s = some (c', s') ∧ s'.1 = s.1 := by
  intro m
  induction m with
  | zero =>
    intro i k c s hi hk e
    obtain ⟨k, rfl⟩ : ∃ k', k = k' + 1 := ⟨k - 1, by omega⟩
    have : i = N := by omega
    subst this
    rw [u_completeWriteBacks_4, e, if_neg (fun q => by rw [N_lt (by omega) (by omega)] at q; omega)]
    exact ⟨_, _, rfl, rfl⟩
  | succ m ih =>
    intro i k c s hi hk e
    obtain ⟨k, rfl⟩ : ∃ k', k = k' + 1 := ⟨k - 1, by omega⟩
    rw [u_completeWriteBacks_4, e, if_pos ((N_lt (by omega) (by omega)).mpr (by omega)), grd_pos ((inb_N (by omega)).mpr (by omega)), N_succ]
    have go := ih (i + 1) k
    by_cases c1 : s.2 2 (ix (Int32.ofNat i)) < 0
    · rw [if_pos c1]; exact go _ _ (by omega) (by omega) e
    by_cases c2 : 3 < s.2 2 (ix (Int32.ofNat i))
    · rw [if_neg c1, if_pos c2]; exact go _ _ (by omega) (by omega) e
    by_cases c3 : s.2 8 (ix (Int32.ofNat i)) = 0
    · rw [if_neg c1, if_neg c2, if_pos c3]; exact go _ _ (by omega) (by omega) e
    by_cases c4 : s.1 19 < s.2 8 (ix (Int32.ofNat i))
    · rw [if_neg c1, if_neg c2, if_neg c3, if_pos c4]; exact go _ _ (by omega) (by omega) e
    rw [if_neg c1, if_neg c2, if_neg c3, if_neg c4, grd_pos (idx8 c1 c2), bnd_eq, bnd_eq, bnd_eq]
    obtain ⟨c', s', h1, h2⟩ := go (c + 1) (setA (setA (setA s 0 (ix (s.2 2 (ix (Int32.ofNat i)) * 8 + (s.2 3 (ix (Int32.ofNat i)) &&& 7))) (s.2 4 (ix (Int32.ofNat i)))) 5 (ix (Int32.ofNat i)) 0) 8 (ix (Int32.ofNat i)) 0) (by omega) (by omega) e
    exact ⟨c', s', h1, h2⟩
theorem own_cwb {n : Nat} (hn : 40 ≤ n) {s : St} (h : own_P s) : ∃ c s', f_completeWriteBacks n s = some (c, s') ∧ s'.1 = s.1 := by
  obtain ⟨N, H, a, b, c, d, e⟩ := h
  exact own_cwb4 n N c N 0 n 0 s (by omega) (by omega) a
theorem own_hit {f p w x : Int32} {s : St} (hf : inb f 32) (hp : inb p 4) : ∃ s', f_hit f p w x s = some s' ∧ s'.1 = s.1 := by
  simp only [f_hit, bnd_eq, grd_pos hf, grd_pos hp]
  by_cases c : w = 0
  · simp only [c, if_true]; exact ⟨_, rfl, rfl⟩
  · simp only [c, if_false]; exact ⟨_, rfl, rfl⟩
theorem own_sweep2 (n N H : Nat) (hN : N ≤ 32) (h4 : 4 ≤ N) (hH : H < N) : ∀ (m i k : Nat) (s : St), i + m = N → m < k → s.1 15 = Int32.ofNat N → s.1 20 = Int32.ofNat H →
    ∃ v s', f_sweep_2 n k (Int32.ofNat i) s = some (v, s') ∧ s'.1 = s.1 ∧ (¬ v < 0 → inb v N) := by
  intro m
  induction m with
  | zero =>
    intro i k s hi hk e eh
    obtain ⟨k, rfl⟩ : ∃ k', k = k' + 1 := ⟨k - 1, by omega⟩
    have : i = N := by omega
    subst this
    rw [u_sweep_2, e, if_neg (fun q => by rw [N_lt (by omega) (by omega)] at q; omega)]
    exact ⟨_, _, rfl, rfl, fun q => absurd (by decide) q⟩
  | succ m ih =>
    intro i k s hi hk e eh
    obtain ⟨k, rfl⟩ : ∃ k', k = k' + 1 := ⟨k - 1, by omega⟩
    have hne : Int32.ofNat N ≠ 0 := fun q => by
      have := (N_inj (j := 0) (by omega) (by omega)).mp q
      omega
    have er : (Int32.ofNat H + Int32.ofNat i) % Int32.ofNat N = Int32.ofNat ((H + i) % N) := by rw [N_add, rem_N (by omega) (by omega) (by omega)]
    have hlt : (H + i) % N < N := Nat.mod_lt _ (by omega)
    have hb : inb (Int32.ofNat ((H + i) % N)) 32 := (inb_N (by omega)).mpr (by omega)
    have hbN : inb (Int32.ofNat ((H + i) % N)) N := (inb_N (by omega)).mpr hlt
    rw [u_sweep_2, e, eh, if_pos ((N_lt (by omega) (by omega)).mpr (by omega)), grd_pos hne, er, grd_pos hb, N_succ, bnd_eq]
    have go := ih (i + 1) k
    by_cases c1 : s.2 2 (ix (Int32.ofNat ((H + i) % N))) < 0
    · rw [if_pos c1]; exact ⟨_, _, rfl, rfl, fun _ => hbN⟩
    by_cases c2 : 3 < s.2 2 (ix (Int32.ofNat ((H + i) % N)))
    · rw [if_neg c1, if_pos c2]; exact ⟨_, _, rfl, rfl, fun _ => hbN⟩
    have hb4 : inb (s.2 2 (ix (Int32.ofNat ((H + i) % N)))) 4 := inb_le c1 c2 (by decide)
    rw [if_neg c1, if_neg c2]
    by_cases c3 : s.2 6 (ix (Int32.ofNat ((H + i) % N))) = 0
    · rw [if_pos c3, grd_pos hb4, bnd_eq]
      split
      · split
        · exact ⟨_, _, rfl, rfl, fun _ => hbN⟩
        · split
          · rw [bnd_eq]
            obtain ⟨v, s', h1, h2, h3⟩ := go (setA s 8 (ix (Int32.ofNat ((H + i) % N))) (s.1 19 + s.1 17)) (by omega) (by omega) e eh
            exact ⟨v, s', h1, h2, h3⟩
          · exact go _ (by omega) (by omega) e eh
      · exact go _ (by omega) (by omega) e eh
    · rw [if_neg c3, bnd_eq, grd_pos hb4, bnd_eq]
      obtain ⟨v, s', h1, h2, h3⟩ := go (setA (setA s 6 (ix (Int32.ofNat ((H + i) % N))) 0) 7 (ix (Int32.ofNat ((H + i) % N))) ((setA s 6 (ix (Int32.ofNat ((H + i) % N))) 0).2 10 (ix (s.2 2 (ix (Int32.ofNat ((H + i) % N))))))) (by omega) (by omega) e eh
      exact ⟨v, s', h1, h2, h3⟩
theorem own_sweep {n : Nat} (hn : 40 ≤ n) {s : St} (h : own_P s) : ∃ v s', f_sweep n s = some (v, s') ∧ s'.1 = s.1 ∧ (¬ v < 0 → inb v 32 ∧ ∃ N : Nat, s.1 15 = Int32.ofNat N ∧ inb v N) := by
  obtain ⟨N, H, a, b, c, d, e⟩ := h
  obtain ⟨v, s', h1, h2, h3⟩ := own_sweep2 n N H c b e N 0 n s (by omega) (by omega) a d
  exact ⟨v, s', h1, h2, fun q => ⟨⟨(h3 q).1, Nat.lt_of_lt_of_le (h3 q).2 c⟩, N, a, h3 q⟩⟩
theorem own_load160 {f : Int32} {s : St} (h : own_P s) (hf : inb f 32) : ∃ s', f_load_160 f s = some s' ∧ own_P s' := by
  obtain ⟨N, H, a, b, c, d, e⟩ := h
  have hne : Int32.ofNat N ≠ 0 := fun q => by
    have := (N_inj (j := 0) (by omega) (by omega)).mp q
    omega
  have hfi := hf.2
  have ef : f + 1 = Int32.ofNat (ix f + 1) := by rw [← N_succ, N_ix hf.1]
  simp only [f_load_160, a, grd_pos hne, bnd_eq]
  refine ⟨_, rfl, N, (ix f + 1) % N, ?_, b, c, ?_, Nat.mod_lt _ (by omega)⟩
  · rw [setI_1, if_neg (by decide)]; exact a
  · rw [setI_1, if_pos rfl, ef, rem_N (by omega) (by omega) (by omega)]
theorem own_load44 {f p v w x : Int32} {s : St} (h : own_P s) (hf : inb f 32) (hp : inb p 4) (hv : inb (p * 8 + v) 32) : ∃ s', f_load_44 f p v w x s = some s' ∧ own_P s' := by
  simp only [f_load_44, bnd_eq, grd_pos hf, grd_pos hp, grd_pos hv]
  by_cases c : w = 0
  · simp only [c, if_true]
    exact own_load160 (own_P_of h rfl rfl) hf
  · simp only [c, if_false]
    exact own_load160 (own_P_of h rfl rfl) hf
theorem own_load {f p v w x : Int32} {s : St} (h : own_P s) (hf : inb f 32) (hp : inb p 4) (hv : inb (p * 8 + v) 32) : ∃ s', f_load f p v w x s = some s' ∧ own_P s' := by
  simp only [f_load, grd_pos hf]
  by_cases c1 : s.2 2 (ix f) < 0
  · simp only [c1, if_true]; exact own_load44 h hf hp hv
  · by_cases c2 : 3 < s.2 2 (ix f)
    · simp only [c1, c2, if_true, if_false]; exact own_load44 h hf hp hv
    · simp only [c1, c2, if_false, bnd_eq, grd_pos (idx8 c1 c2)]
      exact own_load44 (own_P_of h rfl rfl) hf hp hv
/-- an access: no throw; a frame in accFrame where it came to one -/
theorem own_access {n : Nat} (hn : 40 ≤ n) {p v w x : Int32} {s : St} (h : own_P s) : ∃ c s', f_access n p v w x s = some (c, s') ∧ own_P s' ∧ (c = 1 ∨ c = 2 → inb (s'.1 21) 32) := by
  have no : ∀ c : Int32, c ≠ 1 → c ≠ 2 → ∀ s' : St, c = 1 ∨ c = 2 → inb (s'.1 21) 32 := fun c a b s' q => by
    rcases q with q | q
    · exact absurd q a
    · exact absurd q b
  unfold f_access
  by_cases c1 : p < 0
  · simp only [c1, if_true]; exact ⟨_, _, rfl, h, no 5 (by decide) (by decide) s⟩
  by_cases c2 : 3 < p
  · simp only [c1, c2, if_true, if_false]; exact ⟨_, _, rfl, h, no 5 (by decide) (by decide) s⟩
  by_cases c3 : v < 0
  · simp only [c1, c2, c3, if_true, if_false]; exact ⟨_, _, rfl, h, no 5 (by decide) (by decide) s⟩
  by_cases c4 : 7 < v
  · simp only [c1, c2, c3, c4, if_true, if_false]; exact ⟨_, _, rfl, h, no 5 (by decide) (by decide) s⟩
  have hp : inb p 4 := inb_le c1 c2 (by decide)
  obtain ⟨hv, -⟩ := idx8' c1 c2 c3 c4
  simp only [c1, c2, c3, c4, if_false, grd_pos hp]
  by_cases c5 : s.2 9 (ix p) = 0
  · simp only [c5, if_true, bnd_eq]
    obtain ⟨c, t, e1, e2⟩ := own_cwb hn (s := setI s 19 (s.1 19 + 1)) (own_P_of h rfl rfl)
    have ht : own_P t := own_P_of (own_P_of (t := setI s 19 (s.1 19 + 1)) h rfl rfl) (by rw [e2]) (by rw [e2])
    simp only [e1, Option.bind_some, grd_pos hv]
    have h90 : ∃ c s', f_access_90 n p v w x t = some (c, s') ∧ own_P s' ∧ (c = 1 ∨ c = 2 → inb (s'.1 21) 32) := by
      simp only [f_access_90, grd_pos hp, bnd_eq]
      obtain ⟨f, u, e3, e4, e5⟩ := own_sweep hn (s := setA (setA t 11 (ix p) (t.2 11 (ix p) + 1)) 13 (ix p) ((setA t 11 (ix p) (t.2 11 (ix p) + 1)).2 13 (ix p) + 1)) (own_P_of ht rfl rfl)
      simp only [e3, Option.bind_some]
      have hu : own_P u := own_P_of ht (by rw [e4]; rfl) (by rw [e4]; rfl)
      by_cases c6 : f < 0
      · simp only [c6, if_true]; exact ⟨_, _, rfl, hu, no 3 (by decide) (by decide) u⟩
      · simp only [c6, if_false]
        obtain ⟨z, e6, e7⟩ := own_load (p := p) (v := v) (w := w) (x := x) hu (e5 c6).1 hp hv
        simp only [e6, Option.bind_some]
        exact ⟨_, _, rfl, own_P_of e7 rfl rfl, fun _ => (e5 c6).1⟩
    by_cases c6 : t.2 1 (ix (p * 8 + v)) < 0
    · simp only [c6, if_true]; exact h90
    · by_cases c7 : t.2 1 (ix (p * 8 + v)) < 32
      · simp only [c6, c7, if_true, if_false]
        have hb : inb (t.2 1 (ix (p * 8 + v))) 32 := inb_lt c6 c7 (by decide)
        obtain ⟨z, e6, e7⟩ := own_hit (w := w) (x := x) (s := t) hb hp
        simp only [e6, Option.bind_some]
        exact ⟨_, _, rfl, own_P_of (own_P_of (t := z) ht (by rw [e7]) (by rw [e7])) rfl rfl, fun _ => hb⟩
      · simp only [c6, c7, if_false]; exact h90
  · simp only [c5, if_false]; exact ⟨_, _, rfl, h, no 4 (by decide) (by decide) s⟩
theorem own_read {n : Nat} (hn : 40 ≤ n) {p v : Int32} {s : St} (h : own_P s) : ∃ c s', f_read n p v s = some (c, s') ∧ own_P s' := by
  obtain ⟨c, t, e1, e2, e3⟩ := own_access hn (p := p) (v := v) (w := 0) (x := 0) h
  simp only [f_read, e1, Option.bind_some, bnd_eq]
  have ht : own_P (setI t 22 c) := own_P_of e2 rfl rfl
  by_cases c1 : c = 1
  · simp only [c1, if_true, f_read_24]
    have hb : inb ((setI t 22 1).1 21) 32 := e3 (Or.inl c1)
    rw [grd_pos hb]; exact ⟨_, _, rfl, c1 ▸ ht⟩
  · by_cases c2 : c = 2
    · simp only [c2, if_true, f_read_24, show ¬ ((2 : Int32) = 1) by decide, if_false]
      have hb : inb ((setI t 22 2).1 21) 32 := e3 (Or.inr c2)
      rw [grd_pos hb]; exact ⟨_, _, rfl, c2 ▸ ht⟩
    · simp only [c1, c2, if_false]; exact ⟨_, _, rfl, ht⟩
theorem own_write {n : Nat} (hn : 40 ≤ n) {p v x : Int32} {s : St} (h : own_P s) : ∃ c s', f_write n p v x s = some (c, s') ∧ own_P s' := by
  obtain ⟨c, t, e1, e2, e3⟩ := own_access hn (p := p) (v := v) (w := 1) (x := x) h
  simp only [f_write, e1, Option.bind_some, bnd_eq]
  exact ⟨_, _, rfl, own_P_of e2 rfl rfl⟩
theorem own_tick {n : Nat} (hn : 40 ≤ n) {s : St} (h : own_P s) : ∃ c s', f_tick n s = some (c, s') ∧ own_P s' := by
  obtain ⟨c, t, e1, e2⟩ := own_cwb hn (s := setI s 19 (s.1 19 + 1)) (own_P_of h rfl rfl)
  simp only [f_tick, bnd_eq, e1, Option.bind_some]
  exact ⟨_, _, rfl, own_P_of (own_P_of (t := setI s 19 (s.1 19 + 1)) h rfl rfl) (by rw [e2]) (by rw [e2])⟩

def own_B : St := ((setI (setI (setI (setI zeroS 15 4) 16 1) 17 1) 18 16).1, fun j x => if 0 ≤ x ∧ x < 0 + 32 then (if j = 1 ∨ j = 2 then -1 else 0) else 0)
theorem own_c1 (n : Nat) : f_ctor n 4 1 1 16 = f_ctor_170 n n 0 (setI (setI (setI (setI zeroS 15 4) 16 1) 17 1) 18 16) := by
  have e1 : ∀ s, f_clamp s 4 4 32 = some 4 := fun s => by unfold f_clamp; rw [if_neg (by decide), if_neg (by decide)]
  have e2 : ∀ s, f_clamp s 1 1 64 = some 1 := fun s => by unfold f_clamp; rw [if_neg (by decide), if_neg (by decide)]
  have e3 : ∀ s, f_clamp s 1 1 8 = some 1 := fun s => by unfold f_clamp; rw [if_neg (by decide), if_neg (by decide)]
  have e4 : ∀ s, f_clamp s 16 1 16 = some 16 := fun s => by unfold f_clamp; rw [if_neg (by decide), if_neg (by decide)]
  unfold f_ctor f_ctor_118
  simp only [e1, e2, e3, e4, Option.bind_some, bnd_eq]
theorem own_c2 (s : St) : f_ctor_170 40 40 0 s = some (s.1, fun j x => if 0 ≤ x ∧ x < 0 + 32 then (if j = 1 ∨ j = 2 then -1 else s.2 j x) else s.2 j x) := own_fill 40 40 s (by omega)
theorem own_c : f_ctor 40 4 1 1 16 = some own_B := (own_c1 40).trans (own_c2 _)
theorem own_map {x : Option (Int32 × St)} (h : x.map Prod.fst = some 1) : ∃ w, x = some (1, w) := by
  cases x with
  | none => exact absurd h (by simp)
  | some p => obtain ⟨a, w⟩ := p; exact ⟨w, by simp at h; rw [h]⟩
set_option maxHeartbeats 4000000 in
theorem own_q0 (a b : Int32) : (f_law_16 40 a b 0 own_B).map Prod.fst = some 1 := by cbv
set_option maxHeartbeats 4000000 in
theorem own_q1 (a b : Int32) : (f_law_16 40 a b 1 own_B).map Prod.fst = some 1 := by cbv
set_option maxHeartbeats 4000000 in
theorem own_q2 (a b : Int32) : (f_law_16 40 a b 2 own_B).map Prod.fst = some 1 := by cbv
set_option maxHeartbeats 4000000 in
theorem own_q3 (a b : Int32) : (f_law_16 40 a b 3 own_B).map Prod.fst = some 1 := by cbv
theorem plain (p a b : Int32) : ∃ n w, f_law n p a b = some (1, w) := by
  obtain ⟨K, hK, -, h3⟩ : ∃ K : Nat, p &&& 3 = Int32.ofNat K ∧ 0 ≤ K ∧ K ≤ 3 := by
    have := and_rng p (m := 3) (by omega)
    rw [show Int32.ofNat 3 = (3 : Int32) from rfl] at this
    exact own_nat (by omega) (by omega)
  refine ⟨40, ?_⟩
  unfold f_law
  rw [own_c, hK]
  simp only [Option.bind_some]
  have : K = 0 ∨ K = 1 ∨ K = 2 ∨ K = 3 := by omega
  rcases this with rfl | rfl | rfl | rfl
  · exact own_map (own_q0 a b)
  · exact own_map (own_q1 a b)
  · exact own_map (own_q2 a b)
  · exact own_map (own_q3 a b)
theorem main_1_1 : Claimed_1_1 := comes_1 plain fun _ _ _ _ _ _ h hF => ⟨h.1, hF⟩
theorem main_1_2 : Claimed_1_2 := comes_1 plain fun _ _ _ _ _ _ h hF => ⟨h.2.1, hF⟩

end Jvm.Pilot.@@N@@
namespace Jvm.Pilot.@@N@@
open Jvm Jvm.ClassFile Sem Op Lib Jvm.Free Jvm.Stand Jvm.Pilot.@@N@@.Jvm.D
/-! MADE BY PROGRAM (witnessworld.py) out of the Statement's table words and the real class files: 11 classes; the members and pool entries that the words name. The judged class is class 1, her method 1. -/
namespace start1
open Jvm.ClassFile
def u (s : String) : CpInfo := .utf8 (stringToUtf16 s)
/-- a pool by its gaps: so many unusable entries, then the entry; so many at the end -/
def gap : Nat → List CpInfo → List CpInfo
  | 0, r => r
  | n + 1, r => .unusable :: gap n r
def poolList (es : List (Nat × CpInfo)) (last : Nat) : List CpInfo := es.foldr (fun e r => gap e.1 (e.2 :: r)) (gap last [])
def pool (es : List (Nat × CpInfo)) (last : Nat) : Array CpInfo := ⟨poolList es last⟩
def fileOf (pool : Array CpInfo) (this : Nat) (attrs : Array Attribute := #[]) (ms : Array MethodInfo := #[]) (fl : Nat := 33) (sup : Nat := 0) (ifs : Array Nat := #[]) (fds : Array FieldInfo := #[]) : ClassFile where
  minorVersion := 0
  majorVersion := 65
  constantPool := pool
  accessFlags := fl
  thisClass := this
  superClass := sup
  interfaces := ifs
  fields := fds
  methods := ms
  attributes := attrs
def plain (name : String) (sup : Option ClassId) : Class where
  name := name
  kind := .ordinary
  loader := none
  accessFlags := 33
  super := sup
  interfaces := #[]
  cf := none
  fields := #[]
  methods := #[]
  instanceTypes := #[]
  staticTypes := #[]
  resolved := #[]
  callSites := []
  init := .initialized
  statics := none
  mirror := none

def pool0 : Array CpInfo := pool [(5, u "<init>"), (0, u "()V"), (1, .class_ 10), (1, u "java/lang/Object")] 113

def k0c0 : Code := { maxStack := 0, maxLocals := 1, code := object_method_1_code, exceptionTable := #[], attributes := #[] }
def k0m0 : Method := { name := "<init>", desc := "()V", sig := { parameters := [], returnType := none }, accessFlags := 1, code := some k0c0 }
/-- java/lang/Object -/
def k0 : Class := { plain "java/lang/Object" none with
  accessFlags := 33
  interfaces := #[]
  cf := some (fileOf pool0 8 #[] #[{ accessFlags := 1, nameIndex := 5, descriptorIndex := 6, attributes := #[] }] 33 0 #[] #[])
  fields := #[]
  methods := #[k0m0]
  instanceTypes := #[]
  staticTypes := #[]
  resolved := Array.replicate 124 none
  statics := none }

def pool1 : Array CpInfo := pool [(2, .class_ 4), (1, u "java/lang/Object"), (0, u "<init>"), (0, u "()V"), (0, .class_ 8), (0, u "WorkingSetPager"), (0, .methodref 7 10), (0, .nameAndType 5 11), (0, u "(IIII)V"), (0, .methodref 7 13), (0, .nameAndType 14 15), (0, u "write"), (0, u "(III)I"), (0, .methodref 7 17), (0, .nameAndType 18 19), (0, u "read"), (0, u "(II)I"), (0, .methodref 7 21), (0, .nameAndType 22 23), (0, u "lastStatus"), (0, u "()I"), (0, .methodref 7 25), (0, .nameAndType 26 23), (0, u "hand"), (0, .methodref 7 28), (0, .nameAndType 29 30), (0, u "frameInfo"), (0, u "(I)I"), (0, .methodref 7 32), (0, .nameAndType 33 30), (0, u "dueTime"), (0, .methodref 7 35), (0, .nameAndType 36 19), (0, u "frameOf"), (0, .methodref 7 38), (0, .nameAndType 39 19), (0, u "diskValue"), (0, .methodref 7 41), (0, .nameAndType 42 23), (0, u "tick"), (0, .methodref 7 44), (0, .nameAndType 45 23), (0, u "now"), (0, .methodref 7 47), (0, .nameAndType 48 19), (0, u "procInfo"), (0, .class_ 50), (0, u "WorkingSetPagerL3"), (2, u "law"), (0, u "(III)Z")] 3

def k1m0 : Method := { name := "<init>", desc := "()V", sig := { parameters := [], returnType := none }, accessFlags := 1, code := none }
def k1c1 : Code := { maxStack := 6, maxLocals := 6, code := code, exceptionTable := #[], attributes := #[] }
def k1m1 : Method := { name := "law", desc := "(III)Z", sig := { parameters := [.int, .int, .int], returnType := some .boolean }, accessFlags := 9, code := some k1c1 }
/-- WorkingSetPagerL3 -/
def k1 : Class := { plain "WorkingSetPagerL3" (some 0) with
  accessFlags := 33
  interfaces := #[]
  cf := some (fileOf pool1 49 #[] #[{ accessFlags := 1, nameIndex := 5, descriptorIndex := 6, attributes := #[] }, { accessFlags := 9, nameIndex := 53, descriptorIndex := 54, attributes := #[] }] 33 2 #[] #[])
  fields := #[]
  methods := #[k1m0, k1m1]
  instanceTypes := #[]
  staticTypes := #[]
  resolved := Array.replicate 58 none
  statics := none }

def pool2 : Array CpInfo := pool [(1, .methodref 2 3), (0, .class_ 4), (0, .nameAndType 5 6), (0, u "java/lang/Object"), (0, u "<init>"), (0, u "()V"), (0, .fieldref 8 9), (0, .class_ 10), (0, .nameAndType 11 12), (0, u "WorkingSetPager"), (0, u "disk"), (0, u "[I"), (0, .fieldref 8 14), (0, .nameAndType 15 12), (0, u "where"), (0, .fieldref 8 17), (0, .nameAndType 18 12), (0, u "fOwner"), (0, .fieldref 8 20), (0, .nameAndType 21 12), (0, u "fPage"), (0, .fieldref 8 23), (0, .nameAndType 24 12), (0, u "fValue"), (0, .fieldref 8 26), (0, .nameAndType 27 12), (0, u "fDirty"), (0, .fieldref 8 29), (0, .nameAndType 30 12), (0, u "fRef"), (0, .fieldref 8 32), (0, .nameAndType 33 12), (0, u "fLast"), (0, .fieldref 8 35), (0, .nameAndType 36 12), (0, u "fDue"), (0, .fieldref 8 38), (0, .nameAndType 39 40), (0, u "swapped"), (0, u "[Z"), (0, .fieldref 8 42), (0, .nameAndType 43 12), (0, u "vt"), (0, .fieldref 8 45), (0, .nameAndType 46 12), (0, u "faults"), (0, .fieldref 8 48), (0, .nameAndType 49 12), (0, u "saved"), (0, .fieldref 8 51), (0, .nameAndType 52 12), (0, u "sf"), (0, .fieldref 8 54), (0, .nameAndType 55 12), (0, u "sa"), (0, .methodref 8 57), (0, .nameAndType 58 59), (0, u "clamp"), (0, u "(III)I"), (0, .fieldref 8 61), (0, .nameAndType 62 63), (0, u "nF"), (0, u "I"), (0, .fieldref 8 65), (0, .nameAndType 66 63), (0, u "win"), (0, .fieldref 8 68), (0, .nameAndType 69 63), (0, u "delay"), (0, .fieldref 8 71), (0, .nameAndType 72 63), (0, u "pffK"), (0, .methodref 8 74), (0, .nameAndType 75 76), (0, u "access"), (0, u "(IIZI)I"), (0, .fieldref 8 78), (0, .nameAndType 79 63), (0, u "lastSt"), (0, .fieldref 8 81), (0, .nameAndType 82 63), (0, u "accFrame"), (0, .fieldref 8 84), (0, .nameAndType 85 63), (0, u "now"), (0, .methodref 8 87), (0, .nameAndType 88 89), (0, u "completeWriteBacks"), (0, u "()I"), (0, .methodref 8 91), (0, .nameAndType 92 93), (0, u "hit"), (0, u "(IIZI)V"), (0, .methodref 8 95), (0, .nameAndType 96 89), (0, u "sweep"), (0, .methodref 8 98), (0, .nameAndType 99 100), (0, u "load"), (0, u "(IIIZI)V"), (0, .fieldref 8 102), (0, .nameAndType 103 63), (0, u "hand"), (10, u "(I)I"), (13, u "ST_NONE"), (2, u "ST_HIT"), (1, u "ST_FAULT"), (1, u "ST_NOFRAME"), (1, u "ST_SWAPPED"), (1, u "ST_BAD"), (1, u "ST_OK"), (1, u "ST_NOT_SWAPPED"), (1, u "CTL_NONE"), (0, u "CTL_OUT"), (1, u "CTL_IN"), (1, u "PI_VT"), (0, u "PI_FAULTS"), (0, u "PI_STATE"), (0, u "PI_SAVED"), (0, u "PI_SF"), (0, u "PI_SA"), (0, u "(IIII)V"), (3, u "read"), (0, u "(II)I"), (0, u "write"), (0, u "lastStatus"), (0, u "tick"), (3, u "frameOf"), (0, u "frameInfo"), (1, u "dueTime"), (0, u "procInfo"), (0, u "diskValue")] 2

def k2c0 : Code := { maxStack := 5, maxLocals := 6, code := prog_1_method_1_code, exceptionTable := #[], attributes := #[] }
def k2m0 : Method := { name := "<init>", desc := "(IIII)V", sig := { parameters := [.int, .int, .int, .int], returnType := none }, accessFlags := 1, code := some k2c0 }
def k2c1 : Code := { maxStack := 2, maxLocals := 4, code := prog_1_method_2_code, exceptionTable := #[], attributes := #[] }
def k2m1 : Method := { name := "clamp", desc := "(III)I", sig := { parameters := [.int, .int, .int], returnType := some .int }, accessFlags := 2, code := some k2c1 }
def k2c2 : Code := { maxStack := 5, maxLocals := 4, code := prog_1_method_3_code, exceptionTable := #[], attributes := #[] }
def k2m2 : Method := { name := "read", desc := "(II)I", sig := { parameters := [.int, .int], returnType := some .int }, accessFlags := 1, code := some k2c2 }
def k2c3 : Code := { maxStack := 5, maxLocals := 5, code := prog_1_method_4_code, exceptionTable := #[], attributes := #[] }
def k2m3 : Method := { name := "write", desc := "(III)I", sig := { parameters := [.int, .int, .int], returnType := some .int }, accessFlags := 1, code := some k2c3 }
def k2c4 : Code := { maxStack := 1, maxLocals := 1, code := prog_1_method_5_code, exceptionTable := #[], attributes := #[] }
def k2m4 : Method := { name := "lastStatus", desc := "()I", sig := { parameters := [], returnType := some .int }, accessFlags := 1, code := some k2c4 }
def k2c5 : Code := { maxStack := 3, maxLocals := 1, code := prog_1_method_6_code, exceptionTable := #[], attributes := #[] }
def k2m5 : Method := { name := "tick", desc := "()I", sig := { parameters := [], returnType := some .int }, accessFlags := 1, code := some k2c5 }
def k2c6 : Code := { maxStack := 6, maxLocals := 7, code := prog_1_method_7_code, exceptionTable := #[], attributes := #[] }
def k2m6 : Method := { name := "access", desc := "(IIZI)I", sig := { parameters := [.int, .int, .boolean, .int], returnType := some .int }, accessFlags := 2, code := some k2c6 }
def k2c7 : Code := { maxStack := 4, maxLocals := 5, code := prog_1_method_8_code, exceptionTable := #[], attributes := #[] }
def k2m7 : Method := { name := "hit", desc := "(IIZI)V", sig := { parameters := [.int, .int, .boolean, .int], returnType := none }, accessFlags := 2, code := some k2c7 }
def k2c8 : Code := { maxStack := 4, maxLocals := 5, code := prog_1_method_9_code, exceptionTable := #[], attributes := #[] }
def k2m8 : Method := { name := "sweep", desc := "()I", sig := { parameters := [], returnType := some .int }, accessFlags := 2, code := some k2c8 }
def k2c9 : Code := { maxStack := 5, maxLocals := 8, code := prog_1_method_10_code, exceptionTable := #[], attributes := #[] }
def k2m9 : Method := { name := "load", desc := "(IIIZI)V", sig := { parameters := [.int, .int, .int, .boolean, .int], returnType := none }, accessFlags := 2, code := some k2c9 }
def k2c10 : Code := { maxStack := 4, maxLocals := 4, code := prog_1_method_11_code, exceptionTable := #[], attributes := #[] }
def k2m10 : Method := { name := "completeWriteBacks", desc := "()I", sig := { parameters := [], returnType := some .int }, accessFlags := 2, code := some k2c10 }
def k2c11 : Code := { maxStack := 3, maxLocals := 3, code := prog_1_method_22_code, exceptionTable := #[], attributes := #[] }
def k2m11 : Method := { name := "frameOf", desc := "(II)I", sig := { parameters := [.int, .int], returnType := some .int }, accessFlags := 1, code := some k2c11 }
def k2c12 : Code := { maxStack := 4, maxLocals := 4, code := prog_1_method_23_code, exceptionTable := #[], attributes := #[] }
def k2m12 : Method := { name := "frameInfo", desc := "(I)I", sig := { parameters := [.int], returnType := some .int }, accessFlags := 1, code := some k2c12 }
def k2c13 : Code := { maxStack := 2, maxLocals := 2, code := prog_1_method_25_code, exceptionTable := #[], attributes := #[] }
def k2m13 : Method := { name := "dueTime", desc := "(I)I", sig := { parameters := [.int], returnType := some .int }, accessFlags := 1, code := some k2c13 }
def k2c14 : Code := { maxStack := 1, maxLocals := 1, code := prog_1_method_26_code, exceptionTable := #[], attributes := #[] }
def k2m14 : Method := { name := "hand", desc := "()I", sig := { parameters := [], returnType := some .int }, accessFlags := 1, code := some k2c14 }
def k2c15 : Code := { maxStack := 1, maxLocals := 1, code := prog_1_method_27_code, exceptionTable := #[], attributes := #[] }
def k2m15 : Method := { name := "now", desc := "()I", sig := { parameters := [], returnType := some .int }, accessFlags := 1, code := some k2c15 }
def k2c16 : Code := { maxStack := 2, maxLocals := 3, code := prog_1_method_28_code, exceptionTable := #[], attributes := #[] }
def k2m16 : Method := { name := "procInfo", desc := "(II)I", sig := { parameters := [.int, .int], returnType := some .int }, accessFlags := 1, code := some k2c16 }
def k2c17 : Code := { maxStack := 3, maxLocals := 3, code := prog_1_method_29_code, exceptionTable := #[], attributes := #[] }
def k2m17 : Method := { name := "diskValue", desc := "(II)I", sig := { parameters := [.int, .int], returnType := some .int }, accessFlags := 1, code := some k2c17 }
/-- WorkingSetPager -/
def k2 : Class := { plain "WorkingSetPager" (some 0) with
  accessFlags := 49
  interfaces := #[]
  cf := some (fileOf pool2 8 #[] #[{ accessFlags := 1, nameIndex := 5, descriptorIndex := 156, attributes := #[] }, { accessFlags := 2, nameIndex := 58, descriptorIndex := 59, attributes := #[] }, { accessFlags := 1, nameIndex := 160, descriptorIndex := 161, attributes := #[] }, { accessFlags := 1, nameIndex := 162, descriptorIndex := 59, attributes := #[] }, { accessFlags := 1, nameIndex := 163, descriptorIndex := 89, attributes := #[] }, { accessFlags := 1, nameIndex := 164, descriptorIndex := 89, attributes := #[] }, { accessFlags := 2, nameIndex := 75, descriptorIndex := 76, attributes := #[] }, { accessFlags := 2, nameIndex := 92, descriptorIndex := 93, attributes := #[] }, { accessFlags := 2, nameIndex := 96, descriptorIndex := 89, attributes := #[] }, { accessFlags := 2, nameIndex := 99, descriptorIndex := 100, attributes := #[] }, { accessFlags := 2, nameIndex := 88, descriptorIndex := 89, attributes := #[] }, { accessFlags := 1, nameIndex := 168, descriptorIndex := 161, attributes := #[] }, { accessFlags := 1, nameIndex := 169, descriptorIndex := 114, attributes := #[] }, { accessFlags := 1, nameIndex := 171, descriptorIndex := 114, attributes := #[] }, { accessFlags := 1, nameIndex := 103, descriptorIndex := 89, attributes := #[] }, { accessFlags := 1, nameIndex := 85, descriptorIndex := 89, attributes := #[] }, { accessFlags := 1, nameIndex := 172, descriptorIndex := 161, attributes := #[] }, { accessFlags := 1, nameIndex := 173, descriptorIndex := 161, attributes := #[] }] 49 2 #[] #[{ accessFlags := 25, nameIndex := 128, descriptorIndex := 63, attributes := #[] }, { accessFlags := 25, nameIndex := 131, descriptorIndex := 63, attributes := #[] }, { accessFlags := 25, nameIndex := 133, descriptorIndex := 63, attributes := #[] }, { accessFlags := 25, nameIndex := 135, descriptorIndex := 63, attributes := #[] }, { accessFlags := 25, nameIndex := 137, descriptorIndex := 63, attributes := #[] }, { accessFlags := 25, nameIndex := 139, descriptorIndex := 63, attributes := #[] }, { accessFlags := 25, nameIndex := 141, descriptorIndex := 63, attributes := #[] }, { accessFlags := 25, nameIndex := 143, descriptorIndex := 63, attributes := #[] }, { accessFlags := 25, nameIndex := 145, descriptorIndex := 63, attributes := #[] }, { accessFlags := 25, nameIndex := 146, descriptorIndex := 63, attributes := #[] }, { accessFlags := 25, nameIndex := 148, descriptorIndex := 63, attributes := #[] }, { accessFlags := 25, nameIndex := 150, descriptorIndex := 63, attributes := #[] }, { accessFlags := 25, nameIndex := 151, descriptorIndex := 63, attributes := #[] }, { accessFlags := 25, nameIndex := 152, descriptorIndex := 63, attributes := #[] }, { accessFlags := 25, nameIndex := 153, descriptorIndex := 63, attributes := #[] }, { accessFlags := 25, nameIndex := 154, descriptorIndex := 63, attributes := #[] }, { accessFlags := 25, nameIndex := 155, descriptorIndex := 63, attributes := #[] }, { accessFlags := 2, nameIndex := 62, descriptorIndex := 63, attributes := #[] }, { accessFlags := 2, nameIndex := 66, descriptorIndex := 63, attributes := #[] }, { accessFlags := 2, nameIndex := 69, descriptorIndex := 63, attributes := #[] }, { accessFlags := 2, nameIndex := 72, descriptorIndex := 63, attributes := #[] }, { accessFlags := 2, nameIndex := 85, descriptorIndex := 63, attributes := #[] }, { accessFlags := 2, nameIndex := 103, descriptorIndex := 63, attributes := #[] }, { accessFlags := 2, nameIndex := 79, descriptorIndex := 63, attributes := #[] }, { accessFlags := 2, nameIndex := 82, descriptorIndex := 63, attributes := #[] }, { accessFlags := 2, nameIndex := 11, descriptorIndex := 12, attributes := #[] }, { accessFlags := 2, nameIndex := 15, descriptorIndex := 12, attributes := #[] }, { accessFlags := 2, nameIndex := 18, descriptorIndex := 12, attributes := #[] }, { accessFlags := 2, nameIndex := 21, descriptorIndex := 12, attributes := #[] }, { accessFlags := 2, nameIndex := 24, descriptorIndex := 12, attributes := #[] }, { accessFlags := 2, nameIndex := 27, descriptorIndex := 12, attributes := #[] }, { accessFlags := 2, nameIndex := 30, descriptorIndex := 12, attributes := #[] }, { accessFlags := 2, nameIndex := 33, descriptorIndex := 12, attributes := #[] }, { accessFlags := 2, nameIndex := 36, descriptorIndex := 12, attributes := #[] }, { accessFlags := 2, nameIndex := 39, descriptorIndex := 40, attributes := #[] }, { accessFlags := 2, nameIndex := 43, descriptorIndex := 12, attributes := #[] }, { accessFlags := 2, nameIndex := 46, descriptorIndex := 12, attributes := #[] }, { accessFlags := 2, nameIndex := 49, descriptorIndex := 12, attributes := #[] }, { accessFlags := 2, nameIndex := 52, descriptorIndex := 12, attributes := #[] }, { accessFlags := 2, nameIndex := 55, descriptorIndex := 12, attributes := #[] }])
  fields := #[{ name := "ST_NONE", type := .int, accessFlags := 25, slot := 0, constantValue := 0 }, { name := "ST_HIT", type := .int, accessFlags := 25, slot := 1, constantValue := 0 }, { name := "ST_FAULT", type := .int, accessFlags := 25, slot := 2, constantValue := 0 }, { name := "ST_NOFRAME", type := .int, accessFlags := 25, slot := 3, constantValue := 0 }, { name := "ST_SWAPPED", type := .int, accessFlags := 25, slot := 4, constantValue := 0 }, { name := "ST_BAD", type := .int, accessFlags := 25, slot := 5, constantValue := 0 }, { name := "ST_OK", type := .int, accessFlags := 25, slot := 6, constantValue := 0 }, { name := "ST_NOT_SWAPPED", type := .int, accessFlags := 25, slot := 7, constantValue := 0 }, { name := "CTL_NONE", type := .int, accessFlags := 25, slot := 8, constantValue := 0 }, { name := "CTL_OUT", type := .int, accessFlags := 25, slot := 9, constantValue := 0 }, { name := "CTL_IN", type := .int, accessFlags := 25, slot := 10, constantValue := 0 }, { name := "PI_VT", type := .int, accessFlags := 25, slot := 11, constantValue := 0 }, { name := "PI_FAULTS", type := .int, accessFlags := 25, slot := 12, constantValue := 0 }, { name := "PI_STATE", type := .int, accessFlags := 25, slot := 13, constantValue := 0 }, { name := "PI_SAVED", type := .int, accessFlags := 25, slot := 14, constantValue := 0 }, { name := "PI_SF", type := .int, accessFlags := 25, slot := 15, constantValue := 0 }, { name := "PI_SA", type := .int, accessFlags := 25, slot := 16, constantValue := 0 }, { name := "nF", type := .int, accessFlags := 2, slot := 0, constantValue := 0 }, { name := "win", type := .int, accessFlags := 2, slot := 1, constantValue := 0 }, { name := "delay", type := .int, accessFlags := 2, slot := 2, constantValue := 0 }, { name := "pffK", type := .int, accessFlags := 2, slot := 3, constantValue := 0 }, { name := "now", type := .int, accessFlags := 2, slot := 4, constantValue := 0 }, { name := "hand", type := .int, accessFlags := 2, slot := 5, constantValue := 0 }, { name := "lastSt", type := .int, accessFlags := 2, slot := 6, constantValue := 0 }, { name := "accFrame", type := .int, accessFlags := 2, slot := 7, constantValue := 0 }, { name := "disk", type := (.array .int), accessFlags := 2, slot := 8, constantValue := 0 }, { name := "where", type := (.array .int), accessFlags := 2, slot := 9, constantValue := 0 }, { name := "fOwner", type := (.array .int), accessFlags := 2, slot := 10, constantValue := 0 }, { name := "fPage", type := (.array .int), accessFlags := 2, slot := 11, constantValue := 0 }, { name := "fValue", type := (.array .int), accessFlags := 2, slot := 12, constantValue := 0 }, { name := "fDirty", type := (.array .int), accessFlags := 2, slot := 13, constantValue := 0 }, { name := "fRef", type := (.array .int), accessFlags := 2, slot := 14, constantValue := 0 }, { name := "fLast", type := (.array .int), accessFlags := 2, slot := 15, constantValue := 0 }, { name := "fDue", type := (.array .int), accessFlags := 2, slot := 16, constantValue := 0 }, { name := "swapped", type := (.array .boolean), accessFlags := 2, slot := 17, constantValue := 0 }, { name := "vt", type := (.array .int), accessFlags := 2, slot := 18, constantValue := 0 }, { name := "faults", type := (.array .int), accessFlags := 2, slot := 19, constantValue := 0 }, { name := "saved", type := (.array .int), accessFlags := 2, slot := 20, constantValue := 0 }, { name := "sf", type := (.array .int), accessFlags := 2, slot := 21, constantValue := 0 }, { name := "sa", type := (.array .int), accessFlags := 2, slot := 22, constantValue := 0 }]
  methods := #[k2m0, k2m1, k2m2, k2m3, k2m4, k2m5, k2m6, k2m7, k2m8, k2m9, k2m10, k2m11, k2m12, k2m13, k2m14, k2m15, k2m16, k2m17]
  instanceTypes := #[.int, .int, .int, .int, .int, .int, .int, .int, (.array .int), (.array .int), (.array .int), (.array .int), (.array .int), (.array .int), (.array .int), (.array .int), (.array .int), (.array .boolean), (.array .int), (.array .int), (.array .int), (.array .int), (.array .int)]
  staticTypes := #[.int, .int, .int, .int, .int, .int, .int, .int, .int, .int, .int, .int, .int, .int, .int, .int, .int]
  resolved := Array.replicate 176 none
  statics := none }

def pool3 : Array CpInfo := pool [(1, u "java/lang/Cloneable"), (0, .class_ 1), (0, u "java/lang/Object"), (0, .class_ 3)] 3

/-- java/lang/Cloneable -/
def k3 : Class := { plain "java/lang/Cloneable" (some 0) with
  accessFlags := 1537
  interfaces := #[]
  cf := some (fileOf pool3 2 #[] #[] 1537 4 #[] #[])
  fields := #[]
  methods := #[]
  instanceTypes := #[]
  staticTypes := #[]
  resolved := Array.replicate 8 none
  statics := none }

def pool4 : Array CpInfo := pool [(1, u "java/io/Serializable"), (0, .class_ 1), (0, u "java/lang/Object"), (0, .class_ 3)] 3

/-- java/io/Serializable -/
def k4 : Class := { plain "java/io/Serializable" (some 0) with
  accessFlags := 1537
  interfaces := #[]
  cf := some (fileOf pool4 2 #[] #[] 1537 4 #[] #[])
  fields := #[]
  methods := #[]
  instanceTypes := #[]
  staticTypes := #[]
  resolved := Array.replicate 8 none
  statics := none }

/-- the primitive boolean -/
def k5 : Class := { plain "boolean" none with kind := .primitive 'Z', accessFlags := 0x411 }
/-- [Z -/
def k6 : Class := { plain "[Z" (some 0) with kind := .array 5 .boolean, interfaces := #[3, 4], accessFlags := 1041 }

/-- the primitive byte -/
def k7 : Class := { plain "byte" none with kind := .primitive 'B', accessFlags := 0x411 }
/-- [B -/
def k8 : Class := { plain "[B" (some 0) with kind := .array 7 .byte, interfaces := #[3, 4], accessFlags := 1041 }

/-- the primitive int -/
def k9 : Class := { plain "int" none with kind := .primitive 'I', accessFlags := 0x411 }
/-- [I -/
def k10 : Class := { plain "[I" (some 0) with kind := .array 9 .int, interfaces := #[3, 4], accessFlags := 1041 }

def heap : Heap := #[]
def classes : Array Class := #[k0, k1, k2, k3, k4, k5, k6, k7, k8, k9, k10]
def interned : List (Array UInt16 × Addr) := []
def slotsUsed : Nat := 0
def theMethod : MethodId := ⟨1, 1⟩
def args0 : Array Value := #[.int 5, .int 5, .int 5]
def aboutOver (below : List Frame) : State where
  vm := { classes := classes, interned := interned.toArray }
  heap := heap
  slotsUsed := slotsUsed
  threads := #[{ frames := .invoking theMethod args0 :: below }]
def below0 : List Frame := [.native { method := ⟨0, 0⟩, args := #[] }]
def about1 : State := aboutOver below0
def p0 : Program := .bare "" "" ""
def e0 : Env := launch0.env 0 0 0
theorem w_frames : about1.frames = Frame.invoking theMethod args0 :: below0 := rfl
set_option maxRecDepth 65536 in
theorem w_args : argsFit about1.vm theMethod args0 = true := by decide +kernel
set_option maxRecDepth 65536 in
theorem w_heap : heapFits about1 = true := by decide +kernel
set_option maxRecDepth 65536 in
theorem w_runnable : about1.curStatus? = some .runnable := by decide +kernel
set_option maxRecDepth 65536 in
theorem w_alone : about1.alone = true := by decide +kernel
set_option maxRecDepth 65536 in
theorem w_named : about1.methodNamed? x = some theMethod := by decide +kernel
set_option maxRecDepth 65536 in
theorem w_hears : about1.hears theMethod below0 = true := by decide +kernel
set_option maxRecDepth 65536 in
theorem w_ripe : about1.ripe theMethod args0 below0 = true := by decide +kernel
theorem w_running : about1.status = .running := rfl
set_option maxRecDepth 65536 in
theorem w_room : about1.hasRoom e0.platform room_1 = true :=
  launch0.hasRoom_least _ room_1 (by decide +kernel) (by decide +kernel) (by decide +kernel) (by decide +kernel) (by decide +kernel) (by decide +kernel)
theorem allAtoms_all (ts : List Jvm.Cond) (a : Array Jvm.Value) (st : Jvm.State) : (allAtoms ts).before a st = ts.all (fun c => c.before a st) := by
  induction ts with
  | nil => rfl
  | cons c t ih =>
    show (Jvm.Cond.and c (allAtoms t)).before a st = _
    rw [Jvm.Cond.before_and, ih, List.all_cons]
def words1 : List Jvm.Cond := Jvm.Cond.code x code maxLocals ret :: tables_1
/-- a 'code' word, met by the world's own term for the bytes: nothing is compared byte by byte -/
theorem code_word {y : MethodName} {bytes : ByteArray} {mx : Nat} {rt : Option FieldType} {a : Array Value} {s : State} {m : MethodId} {meth : Method} {c : Code} (h1 : s.methodNamed? y = some m) (h2 : s.vm.method? m = some meth) (h3 : meth.code = some c) (h4 : c.code = bytes)
    (h5 : (c.maxLocals == mx && c.exceptionTable.isEmpty && decide (c.maxStack ≤ mostOperands) && decide (meth.sig.returnType = rt) && !meth.locks && decide (parseMethodDescriptor y.desc = some meth.sig)) = true) : (Jvm.Cond.code y bytes mx rt).before a s = true := by
  simp only [Bool.and_eq_true, beq_iff_eq, Bool.not_eq_true', decide_eq_true_eq] at h5
  obtain ⟨⟨⟨⟨⟨g1, g2⟩, g3⟩, g4⟩, g5⟩, g6⟩ := h5
  simp [Cond.before, Cond.holds, Cond.value, h1, h2, h3, h4, g1, g2, g3, g4, g5, g6]
def isCode : Jvm.Cond → Bool
  | .code _ _ _ _ => true
  | _ => false
theorem all_split {L : List Jvm.Cond} {P : Jvm.Cond → Bool} (h1 : L.all (fun c => isCode c || P c) = true) (h2 : ∀ c ∈ L.filter isCode, P c = true) : L.all P = true := by
  refine List.all_eq_true.mpr fun c hc => ?_
  have h := List.all_eq_true.mp h1 c hc
  rcases Bool.eq_false_or_eq_true (isCode c) with hi | hi
  · exact h2 c (List.mem_filter.mpr ⟨hc, hi⟩)
  · simpa [hi] using h
set_option maxRecDepth 65536 in
theorem w_c0 : (Jvm.Cond.code x code maxLocals ret).before args0 about1 = true := code_word (m := ⟨1, 1⟩) (meth := k1m1) (c := k1c1) (by decide +kernel) rfl rfl rfl (by decide +kernel)
set_option maxRecDepth 65536 in
theorem w_c1 : (Jvm.Cond.code ({ cls := "WorkingSetPager", name := "<init>", desc := "(IIII)V" } : Jvm.MethodName) prog_1_method_1_code (6 : Nat) (Option.none : Option Jvm.ClassFile.FieldType)).before args0 about1 = true := code_word (m := ⟨2, 0⟩) (meth := k2m0) (c := k2c0) (by decide +kernel) rfl rfl rfl (by decide +kernel)
set_option maxRecDepth 65536 in
theorem w_c2 : (Jvm.Cond.code ({ cls := "java/lang/Object", name := "<init>", desc := "()V" } : Jvm.MethodName) object_method_1_code (1 : Nat) (Option.none : Option Jvm.ClassFile.FieldType)).before args0 about1 = true := code_word (m := ⟨0, 0⟩) (meth := k0m0) (c := k0c0) (by decide +kernel) rfl rfl rfl (by decide +kernel)
set_option maxRecDepth 65536 in
theorem w_c3 : (Jvm.Cond.code ({ cls := "WorkingSetPager", name := "clamp", desc := "(III)I" } : Jvm.MethodName) prog_1_method_2_code (4 : Nat) (Option.some Jvm.ClassFile.FieldType.int)).before args0 about1 = true := code_word (m := ⟨2, 1⟩) (meth := k2m1) (c := k2c1) (by decide +kernel) rfl rfl rfl (by decide +kernel)
set_option maxRecDepth 65536 in
theorem w_c4 : (Jvm.Cond.code ({ cls := "WorkingSetPager", name := "write", desc := "(III)I" } : Jvm.MethodName) prog_1_method_4_code (5 : Nat) (Option.some Jvm.ClassFile.FieldType.int)).before args0 about1 = true := code_word (m := ⟨2, 3⟩) (meth := k2m3) (c := k2c3) (by decide +kernel) rfl rfl rfl (by decide +kernel)
set_option maxRecDepth 65536 in
theorem w_c5 : (Jvm.Cond.code ({ cls := "WorkingSetPager", name := "access", desc := "(IIZI)I" } : Jvm.MethodName) prog_1_method_7_code (7 : Nat) (Option.some Jvm.ClassFile.FieldType.int)).before args0 about1 = true := code_word (m := ⟨2, 6⟩) (meth := k2m6) (c := k2c6) (by decide +kernel) rfl rfl rfl (by decide +kernel)
set_option maxRecDepth 65536 in
theorem w_c6 : (Jvm.Cond.code ({ cls := "WorkingSetPager", name := "completeWriteBacks", desc := "()I" } : Jvm.MethodName) prog_1_method_11_code (4 : Nat) (Option.some Jvm.ClassFile.FieldType.int)).before args0 about1 = true := code_word (m := ⟨2, 10⟩) (meth := k2m10) (c := k2c10) (by decide +kernel) rfl rfl rfl (by decide +kernel)
set_option maxRecDepth 65536 in
theorem w_c7 : (Jvm.Cond.code ({ cls := "WorkingSetPager", name := "sweep", desc := "()I" } : Jvm.MethodName) prog_1_method_9_code (5 : Nat) (Option.some Jvm.ClassFile.FieldType.int)).before args0 about1 = true := code_word (m := ⟨2, 8⟩) (meth := k2m8) (c := k2c8) (by decide +kernel) rfl rfl rfl (by decide +kernel)
set_option maxRecDepth 65536 in
theorem w_c8 : (Jvm.Cond.code ({ cls := "WorkingSetPager", name := "load", desc := "(IIIZI)V" } : Jvm.MethodName) prog_1_method_10_code (8 : Nat) (Option.none : Option Jvm.ClassFile.FieldType)).before args0 about1 = true := code_word (m := ⟨2, 9⟩) (meth := k2m9) (c := k2c9) (by decide +kernel) rfl rfl rfl (by decide +kernel)
set_option maxRecDepth 65536 in
theorem w_c9 : (Jvm.Cond.code ({ cls := "WorkingSetPager", name := "read", desc := "(II)I" } : Jvm.MethodName) prog_1_method_3_code (4 : Nat) (Option.some Jvm.ClassFile.FieldType.int)).before args0 about1 = true := code_word (m := ⟨2, 2⟩) (meth := k2m2) (c := k2c2) (by decide +kernel) rfl rfl rfl (by decide +kernel)
set_option maxRecDepth 65536 in
theorem w_c10 : (Jvm.Cond.code ({ cls := "WorkingSetPager", name := "lastStatus", desc := "()I" } : Jvm.MethodName) prog_1_method_5_code (1 : Nat) (Option.some Jvm.ClassFile.FieldType.int)).before args0 about1 = true := code_word (m := ⟨2, 4⟩) (meth := k2m4) (c := k2c4) (by decide +kernel) rfl rfl rfl (by decide +kernel)
set_option maxRecDepth 65536 in
theorem w_c11 : (Jvm.Cond.code ({ cls := "WorkingSetPager", name := "hand", desc := "()I" } : Jvm.MethodName) prog_1_method_26_code (1 : Nat) (Option.some Jvm.ClassFile.FieldType.int)).before args0 about1 = true := code_word (m := ⟨2, 14⟩) (meth := k2m14) (c := k2c14) (by decide +kernel) rfl rfl rfl (by decide +kernel)
set_option maxRecDepth 65536 in
theorem w_c12 : (Jvm.Cond.code ({ cls := "WorkingSetPager", name := "hit", desc := "(IIZI)V" } : Jvm.MethodName) prog_1_method_8_code (5 : Nat) (Option.none : Option Jvm.ClassFile.FieldType)).before args0 about1 = true := code_word (m := ⟨2, 7⟩) (meth := k2m7) (c := k2c7) (by decide +kernel) rfl rfl rfl (by decide +kernel)
set_option maxRecDepth 65536 in
theorem w_c13 : (Jvm.Cond.code ({ cls := "WorkingSetPager", name := "frameInfo", desc := "(I)I" } : Jvm.MethodName) prog_1_method_23_code (4 : Nat) (Option.some Jvm.ClassFile.FieldType.int)).before args0 about1 = true := code_word (m := ⟨2, 12⟩) (meth := k2m12) (c := k2c12) (by decide +kernel) rfl rfl rfl (by decide +kernel)
set_option maxRecDepth 65536 in
theorem w_c14 : (Jvm.Cond.code ({ cls := "WorkingSetPager", name := "dueTime", desc := "(I)I" } : Jvm.MethodName) prog_1_method_25_code (2 : Nat) (Option.some Jvm.ClassFile.FieldType.int)).before args0 about1 = true := code_word (m := ⟨2, 13⟩) (meth := k2m13) (c := k2c13) (by decide +kernel) rfl rfl rfl (by decide +kernel)
set_option maxRecDepth 65536 in
theorem w_c15 : (Jvm.Cond.code ({ cls := "WorkingSetPager", name := "frameOf", desc := "(II)I" } : Jvm.MethodName) prog_1_method_22_code (3 : Nat) (Option.some Jvm.ClassFile.FieldType.int)).before args0 about1 = true := code_word (m := ⟨2, 11⟩) (meth := k2m11) (c := k2c11) (by decide +kernel) rfl rfl rfl (by decide +kernel)
set_option maxRecDepth 65536 in
theorem w_c16 : (Jvm.Cond.code ({ cls := "WorkingSetPager", name := "diskValue", desc := "(II)I" } : Jvm.MethodName) prog_1_method_29_code (3 : Nat) (Option.some Jvm.ClassFile.FieldType.int)).before args0 about1 = true := code_word (m := ⟨2, 17⟩) (meth := k2m17) (c := k2c17) (by decide +kernel) rfl rfl rfl (by decide +kernel)
set_option maxRecDepth 65536 in
theorem w_c17 : (Jvm.Cond.code ({ cls := "WorkingSetPager", name := "tick", desc := "()I" } : Jvm.MethodName) prog_1_method_6_code (1 : Nat) (Option.some Jvm.ClassFile.FieldType.int)).before args0 about1 = true := code_word (m := ⟨2, 5⟩) (meth := k2m5) (c := k2c5) (by decide +kernel) rfl rfl rfl (by decide +kernel)
set_option maxRecDepth 65536 in
theorem w_c18 : (Jvm.Cond.code ({ cls := "WorkingSetPager", name := "now", desc := "()I" } : Jvm.MethodName) prog_1_method_27_code (1 : Nat) (Option.some Jvm.ClassFile.FieldType.int)).before args0 about1 = true := code_word (m := ⟨2, 15⟩) (meth := k2m15) (c := k2c15) (by decide +kernel) rfl rfl rfl (by decide +kernel)
set_option maxRecDepth 65536 in
theorem w_c19 : (Jvm.Cond.code ({ cls := "WorkingSetPager", name := "procInfo", desc := "(II)I" } : Jvm.MethodName) prog_1_method_28_code (3 : Nat) (Option.some Jvm.ClassFile.FieldType.int)).before args0 about1 = true := code_word (m := ⟨2, 16⟩) (meth := k2m16) (c := k2c16) (by decide +kernel) rfl rfl rfl (by decide +kernel)
def codes1 : List Jvm.Cond := [Jvm.Cond.code x code maxLocals ret, Jvm.Cond.code ({ cls := "WorkingSetPager", name := "<init>", desc := "(IIII)V" } : Jvm.MethodName) prog_1_method_1_code (6 : Nat) (Option.none : Option Jvm.ClassFile.FieldType), Jvm.Cond.code ({ cls := "java/lang/Object", name := "<init>", desc := "()V" } : Jvm.MethodName) object_method_1_code (1 : Nat) (Option.none : Option Jvm.ClassFile.FieldType), Jvm.Cond.code ({ cls := "WorkingSetPager", name := "clamp", desc := "(III)I" } : Jvm.MethodName) prog_1_method_2_code (4 : Nat) (Option.some Jvm.ClassFile.FieldType.int), Jvm.Cond.code ({ cls := "WorkingSetPager", name := "write", desc := "(III)I" } : Jvm.MethodName) prog_1_method_4_code (5 : Nat) (Option.some Jvm.ClassFile.FieldType.int), Jvm.Cond.code ({ cls := "WorkingSetPager", name := "access", desc := "(IIZI)I" } : Jvm.MethodName) prog_1_method_7_code (7 : Nat) (Option.some Jvm.ClassFile.FieldType.int), Jvm.Cond.code ({ cls := "WorkingSetPager", name := "completeWriteBacks", desc := "()I" } : Jvm.MethodName) prog_1_method_11_code (4 : Nat) (Option.some Jvm.ClassFile.FieldType.int), Jvm.Cond.code ({ cls := "WorkingSetPager", name := "sweep", desc := "()I" } : Jvm.MethodName) prog_1_method_9_code (5 : Nat) (Option.some Jvm.ClassFile.FieldType.int), Jvm.Cond.code ({ cls := "WorkingSetPager", name := "load", desc := "(IIIZI)V" } : Jvm.MethodName) prog_1_method_10_code (8 : Nat) (Option.none : Option Jvm.ClassFile.FieldType), Jvm.Cond.code ({ cls := "WorkingSetPager", name := "read", desc := "(II)I" } : Jvm.MethodName) prog_1_method_3_code (4 : Nat) (Option.some Jvm.ClassFile.FieldType.int), Jvm.Cond.code ({ cls := "WorkingSetPager", name := "lastStatus", desc := "()I" } : Jvm.MethodName) prog_1_method_5_code (1 : Nat) (Option.some Jvm.ClassFile.FieldType.int), Jvm.Cond.code ({ cls := "WorkingSetPager", name := "hand", desc := "()I" } : Jvm.MethodName) prog_1_method_26_code (1 : Nat) (Option.some Jvm.ClassFile.FieldType.int), Jvm.Cond.code ({ cls := "WorkingSetPager", name := "hit", desc := "(IIZI)V" } : Jvm.MethodName) prog_1_method_8_code (5 : Nat) (Option.none : Option Jvm.ClassFile.FieldType), Jvm.Cond.code ({ cls := "WorkingSetPager", name := "frameInfo", desc := "(I)I" } : Jvm.MethodName) prog_1_method_23_code (4 : Nat) (Option.some Jvm.ClassFile.FieldType.int), Jvm.Cond.code ({ cls := "WorkingSetPager", name := "dueTime", desc := "(I)I" } : Jvm.MethodName) prog_1_method_25_code (2 : Nat) (Option.some Jvm.ClassFile.FieldType.int), Jvm.Cond.code ({ cls := "WorkingSetPager", name := "frameOf", desc := "(II)I" } : Jvm.MethodName) prog_1_method_22_code (3 : Nat) (Option.some Jvm.ClassFile.FieldType.int), Jvm.Cond.code ({ cls := "WorkingSetPager", name := "diskValue", desc := "(II)I" } : Jvm.MethodName) prog_1_method_29_code (3 : Nat) (Option.some Jvm.ClassFile.FieldType.int), Jvm.Cond.code ({ cls := "WorkingSetPager", name := "tick", desc := "()I" } : Jvm.MethodName) prog_1_method_6_code (1 : Nat) (Option.some Jvm.ClassFile.FieldType.int), Jvm.Cond.code ({ cls := "WorkingSetPager", name := "now", desc := "()I" } : Jvm.MethodName) prog_1_method_27_code (1 : Nat) (Option.some Jvm.ClassFile.FieldType.int), Jvm.Cond.code ({ cls := "WorkingSetPager", name := "procInfo", desc := "(II)I" } : Jvm.MethodName) prog_1_method_28_code (3 : Nat) (Option.some Jvm.ClassFile.FieldType.int)]
set_option maxRecDepth 65536 in
theorem codes_eq : words1.filter isCode = codes1 := rfl
theorem w_codes : ∀ c ∈ words1.filter isCode, c.before args0 about1 = true := by
  rw [codes_eq]
  intro c hc
  simp only [codes1, List.mem_cons, List.not_mem_nil, or_false] at hc
  rcases hc with rfl | rfl | rfl | rfl | rfl | rfl | rfl | rfl | rfl | rfl | rfl | rfl | rfl | rfl | rfl | rfl | rfl | rfl | rfl | rfl
  · exact w_c0
  · exact w_c1
  · exact w_c2
  · exact w_c3
  · exact w_c4
  · exact w_c5
  · exact w_c6
  · exact w_c7
  · exact w_c8
  · exact w_c9
  · exact w_c10
  · exact w_c11
  · exact w_c12
  · exact w_c13
  · exact w_c14
  · exact w_c15
  · exact w_c16
  · exact w_c17
  · exact w_c18
  · exact w_c19
set_option maxRecDepth 65536 in
theorem w_t1 : (words1.take 24).all (fun c => isCode c || c.before args0 about1) = true := by decide +kernel
set_option maxRecDepth 65536 in
theorem w_t2 : ((words1.drop 24).take 24).all (fun c => isCode c || c.before args0 about1) = true := by decide +kernel
set_option maxRecDepth 65536 in
theorem w_t3 : (((words1.drop 24).drop 24).take 24).all (fun c => isCode c || c.before args0 about1) = true := by decide +kernel
set_option maxRecDepth 65536 in
theorem w_t4 : ((((words1.drop 24).drop 24).drop 24).take 24).all (fun c => isCode c || c.before args0 about1) = true := by decide +kernel
set_option maxRecDepth 65536 in
theorem w_t5 : (((((words1.drop 24).drop 24).drop 24).drop 24).take 24).all (fun c => isCode c || c.before args0 about1) = true := by decide +kernel
set_option maxRecDepth 65536 in
theorem w_t6 : (((((words1.drop 24).drop 24).drop 24).drop 24).drop 24).all (fun c => isCode c || c.before args0 about1) = true := by decide +kernel
theorem w_tables : (allAtoms (Jvm.Cond.code x code maxLocals ret :: tables_1)).before args0 about1 = true := by
  rw [allAtoms_all]
  show words1.all (fun c => c.before args0 about1) = true
  refine all_split ?_ w_codes
  rw [← List.take_append_drop 24 words1, List.all_append, w_t1, ← List.take_append_drop 24 (words1.drop 24), List.all_append, w_t2, ← List.take_append_drop 24 ((words1.drop 24).drop 24), List.all_append, w_t3, ← List.take_append_drop 24 (((words1.drop 24).drop 24).drop 24), List.all_append, w_t4, ← List.take_append_drop 24 ((((words1.drop 24).drop 24).drop 24).drop 24), List.all_append, w_t5, w_t6]
  rfl
set_option maxRecDepth 65536 in
theorem w_case : (Jvm.Cond.and given_1 narrow_1).before args0 about1 = true := by decide +kernel
theorem w_applies : (headSpec (Jvm.Cond.code x code maxLocals ret :: tables_1) room_1).applies x e0.platform about1 = true :=
  (Spec.applies_iff w_frames).mpr ⟨w_running, w_runnable, w_alone, w_named, w_hears, w_ripe, w_room, w_tables⟩
theorem atStart : AtStart classFile x code maxLocals ret World_1 tables_1 room_1 Calls_1 rest_1 Pre_1 launch0 p0 e0 about1 theMethod args0 below0 :=
  ⟨lists_1, trivial, launch0.admits_env _ _ _, launch0.least_env, fairChoices_fair.cas, fairChoices_fair.clock, w_frames, w_args, w_heap, w_applies, trivial, trivial, w_case⟩
end start1
theorem witness_1 : WitnessClaimed_1 := ⟨start1.p0, start1.e0, start1.about1, start1.theMethod, start1.args0, start1.below0, start1.atStart⟩
end Jvm.Pilot.@@N@@
