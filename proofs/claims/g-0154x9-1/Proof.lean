import JvmDerived
import JvmDerived.Pilot.@@N@@Statement
import JvmDerived.Pilot.@@N@@Code
set_option linter.unusedVariables false
set_option linter.unusedSimpArgs false
namespace Jvm.Own
open Sem ClassFile Op Lib Jvm.Stand Jvm.Free Jvm.LawKit Jvm.RoadKit
/-! ## 1. Small heaps: a list of cells: an object of the one class (its fields in order), or an array (of booleans, of ints) -/
abbrev MCell := List Value ⊕ (Bool × List Int32)
abbrev MHeap := List MCell
abbrev Fd := String × String × FieldType
/-- start, its arguments, launch, the script's place, the heap's first length, the class, its fields, its slots -/
abbrev Ctx := State × Array Value × Launch × Option Nat × Nat × String × List Fd × Nat
abbrev gZ (G : Ctx) : State := G.1
abbrev gA (G : Ctx) : Array Value := G.2.1
abbrev gL (G : Ctx) : Launch := G.2.2.1
abbrev gS (G : Ctx) : Option Nat := G.2.2.2.1
abbrev gN (G : Ctx) : Nat := G.2.2.2.2.1
abbrev gC (G : Ctx) : String := G.2.2.2.2.2.1
abbrev gF (G : Ctx) : List Fd := G.2.2.2.2.2.2.1
abbrev gK (G : Ctx) : Nat := G.2.2.2.2.2.2.2
/-- a method: name, bytes, locals, result, frames and words that it needs -/
abbrev Mi := MethodName × ByteArray × Nat × Option FieldType × Nat × Nat
abbrev mN (M : Mi) : MethodName := M.1
abbrev mB (M : Mi) : ByteArray := M.2.1
abbrev mL (M : Mi) : Nat := M.2.2.1
abbrev mR (M : Mi) : Option FieldType := M.2.2.2.1
abbrev mF (M : Mi) : Nat := M.2.2.2.2.1
abbrev mW (M : Mi) : Nat := M.2.2.2.2.2
def rhoA (sa : Option Nat) (n0 i : Nat) : Nat := match sa with
  | none => n0 + i
  | some a => match i with
    | 0 => a
    | j + 1 => n0 + j
def k0A (sa : Option Nat) : Nat := match sa with
  | none => 0
  | some _ => 1
def rho (G : Ctx) (i : Nat) : Nat := rhoA (gS G) (gN G) i
def k0 (G : Ctx) : Nat := k0A (gS G)
def tr (G : Ctx) : Value → Value
  | .ref i => .ref (rho G i)
  | v => v
def trS (G : Ctx) : Slot → Slot
  | .val v => .val (tr G v)
  | s => s
theorem tr_cat (G : Ctx) (v : Value) : (tr G v).category = v.category := by cases v <;> rfl
theorem tr_cats (G : Ctx) (S : List Value) : ((S.map (tr G)).map fun v => v.category).sum = (S.map fun v => v.category).sum := by
  rw [List.map_map]
  congr 1
  exact List.map_congr_left fun v _ => tr_cat G v
def kd : Bool → FieldType
  | true => .boolean
  | false => .int
def CellAt (G : Ctx) (hr : Heap) (a : Nat) : MCell → Prop
  | .inl fs => Exa (gZ G) hr a (gC G) ∧ fs.length = (gF G).length ∧ ∀ (j : Nat) (n d : String) (ty : FieldType) (v : Value), (gF G)[j]? = some (n, d, ty) → fs[j]? = some v → Fld (gZ G) hr a (gC G) n d (tr G v)
  | .inr bx => ∃ c : Cell, Arr (gZ G) hr a c (kd bx.1) ∧ c.slots = (bx.2.map Value.int).toArray
def Rel (G : Ctx) (hr : Heap) (h : MHeap) : Prop :=
  hr.size + k0 G = gN G + h.length ∧ k0 G ≤ h.length ∧ (∀ a, gS G = some a → a < gN G) ∧ ∀ i c, h[i]? = some c → CellAt G hr (rho G i) c
/-- what the sheet says of the class -/
def GOk (G : Ctx) : Prop :=
  (∀ (j : Nat) (n d : String) (ty : FieldType), (gF G)[j]? = some (n, d, ty) → Laid (gZ G) (gA G) (gC G) (gC G) n d ∧ parseFieldDescriptor d = some ty) ∧
  (∀ (j j' : Nat) (f f' : Fd), (gF G)[j]? = some f → (gF G)[j']? = some f' → j ≠ j' → f.1 ≠ f'.1) ∧
  (Cond.instantiable (gC G) (gK G)).before (gA G) (gZ G) = true ∧ (Cond.initialized (gC G)).before (gA G) (gZ G) = true
theorem rhoA_inj {sa : Option Nat} {n0 i j : Nat} (h : ∀ a, sa = some a → a < n0) (e : rhoA sa n0 i = rhoA sa n0 j) : i = j := by
  cases sa with
  | none => simp only [rhoA] at e; omega
  | some a =>
    have := h a rfl
    cases i <;> cases j <;> simp only [rhoA] at e <;> omega
theorem rho_inj {G : Ctx} {i j : Nat} (h : ∀ a, gS G = some a → a < gN G) (e : rho G i = rho G j) : i = j := rhoA_inj h e
theorem rhoA_new {sa : Option Nat} {n0 i : Nat} (h : k0A sa ≤ i) : rhoA sa n0 i = n0 + (i - k0A sa) := by
  cases sa with
  | none => simp only [rhoA, k0A]; omega
  | some a =>
    cases i with
    | zero => simp only [k0A] at h; omega
    | succ j => simp only [rhoA, k0A]; omega
theorem rho_new {G : Ctx} {i : Nat} (h : k0 G ≤ i) : rho G i = gN G + (i - k0 G) := rhoA_new h
theorem rho_ge {G : Ctx} {i : Nat} (h : k0 G ≤ i) : gN G ≤ rho G i := by rw [rho_new h]; omega
theorem CellAt.other {G : Ctx} {hr hr' : Heap} {a b : Nat} {sl : Nat} {v : Value} (W : Wr hr hr' a sl v) (hne : b ≠ a) : ∀ {c : MCell}, CellAt G hr b c → CellAt G hr' b c
  | .inl _, ⟨h1, h2, h3⟩ => ⟨h1.wr W, h2, fun j n d ty v hf hv => Fld.other W (h3 j n d ty v hf hv) (Or.inl hne)⟩
  | .inr _, ⟨c, h1, h2⟩ => ⟨c, h1.other W hne, h2⟩
theorem CellAt.ext {G : Ctx} {hr hr' : Heap} {b : Nat} (E : Ext hr hr') : ∀ {c : MCell}, CellAt G hr b c → CellAt G hr' b c
  | .inl _, ⟨h1, h2, h3⟩ => ⟨h1.ext E, h2, fun j n d ty v hf hv => Fld.ext E (h3 j n d ty v hf hv)⟩
  | .inr _, ⟨c, h1, h2⟩ => ⟨c, h1.ext E, h2⟩
theorem Rel.push {G : Ctx} {hr hr' : Heap} {h : MHeap} {c : MCell} (R : Rel G hr h) (E : Ext hr hr') (hs : hr'.size = hr.size + 1) (hc : CellAt G hr' hr.size c) : Rel G hr' (h ++ [c]) := by
  obtain ⟨h1, h2, h3, h4⟩ := R
  refine ⟨by rw [List.length_append, List.length_singleton]; omega, by rw [List.length_append]; omega, h3, fun i c' hi => ?_⟩
  rcases Nat.lt_or_ge i h.length with q | q
  · rw [List.getElem?_append_left q] at hi
    exact (h4 i c' hi).ext E
  · have hi2 := hi
    rw [List.getElem?_append_right q] at hi2
    have : i - h.length = 0 := by
      rcases Nat.eq_zero_or_pos (i - h.length) with z | z
      · exact z
      · rw [List.getElem?_eq_none (by simp; omega)] at hi2; cases hi2
    have e : i = h.length := by omega
    subst e
    rw [Nat.sub_self] at hi2
    cases hi2
    have : rho G h.length = hr.size := by rw [rho_new h2]; omega
    rw [this]; exact hc
theorem Rel.wrArr {G : Ctx} {hr hr' : Heap} {h : MHeap} {i j : Nat} {b : Bool} {xs : List Int32} {x : Int32} (R : Rel G hr h) (hi : h[i]? = some (.inr (b, xs))) (W : Wr hr hr' (rho G i) j (.int x)) : Rel G hr' (h.set i (.inr (b, xs.set j x))) := by
  obtain ⟨h1, h2, h3, h4⟩ := R
  refine ⟨by rw [W.size, List.length_set]; exact h1, by rw [List.length_set]; exact h2, h3, fun k c' hk => ?_⟩
  by_cases e : i = k
  · subst e
    rw [List.getElem?_set_self (List.getElem?_eq_some_iff.mp hi).1] at hk
    cases hk
    obtain ⟨c, A, hs⟩ := h4 i _ hi
    refine ⟨c.setSlot j (.int x), A.same W, ?_⟩
    show c.slots.setIfInBounds j (.int x) = _
    rw [hs]
    simp [List.map_set]
  · rw [List.getElem?_set_ne e] at hk
    exact (h4 k c' hk).other W fun q => e (rho_inj h3 q).symm
theorem Rel.wrFld {G : Ctx} {hr hr' : Heap} {h : MHeap} {i j : Nat} {fs : List Value} {n d : String} {ty : FieldType} {v : Value} (R : Rel G hr h) (K : GOk G) (hi : h[i]? = some (.inl fs)) (hF : (gF G)[j]? = some (n, d, ty)) (W : Wr hr hr' (rho G i) (Jvm.RoadKit.slotOf (gZ G) (gC G) n d) (tr G v)) : Rel G hr' (h.set i (.inl (fs.set j v))) := by
  obtain ⟨h1, h2, h3, h4⟩ := R
  refine ⟨by rw [W.size, List.length_set]; exact h1, by rw [List.length_set]; exact h2, h3, fun k c' hk => ?_⟩
  by_cases e : i = k
  · subst e
    rw [List.getElem?_set_self (List.getElem?_eq_some_iff.mp hi).1] at hk
    cases hk
    obtain ⟨e1, e2, e3⟩ := h4 i _ hi
    refine ⟨e1.wr W, by rw [List.length_set]; exact e2, fun j' n' d' ty' v' hf' hv' => ?_⟩
    by_cases q : j = j'
    · subst q
      cases hF.symm.trans hf'
      have hlt : j < fs.length := by rw [e2]; exact (List.getElem?_eq_some_iff.mp hF).1
      rw [List.getElem?_set_self hlt] at hv'
      cases hv'
      obtain ⟨w, hw⟩ : ∃ w, fs[j]? = some w := ⟨_, List.getElem?_eq_getElem hlt⟩
      exact Fld.same W (e3 j n d ty w hF hw)
    · rw [List.getElem?_set_ne q] at hv'
      refine Fld.other W (e3 j' n' d' ty' v' hf' hv') (Or.inr ?_)
      exact slot_ne (K.1 j' n' d' ty' hf').1 (K.1 j n d ty hF).1 (K.2.1 j' j _ _ hf' hF (Ne.symm q)) (K.1 j' n' d' ty' hf').2 (K.1 j n d ty hF).2
  · rw [List.getElem?_set_ne e] at hk
    exact (h4 k c' hk).other W fun q => e (rho_inj h3 q).symm
def csl (k : Nat) : MCell → Nat
  | .inl _ => k
  | .inr bx => bx.2.length
def hsl (k : Nat) (h : MHeap) : Nat := (h.map (csl k)).sum
theorem hsl_push (k : Nat) (h : MHeap) (c : MCell) : hsl k (h ++ [c]) = hsl k h + csl k c := by simp [hsl]
theorem hsl_set (k : Nat) : ∀ (h : MHeap) (i : Nat) (c c' : MCell), h[i]? = some c → csl k c' = csl k c → hsl k (h.set i c') = hsl k h
  | [], _, _, _, h, _ => by simp at h
  | a :: t, 0, c, c', h, e => by simp at h; subst h; simp [hsl, e]
  | a :: t, i + 1, c, c', h, e => by
    have := hsl_set k t i c c' (by simpa using h) e
    simp only [hsl, List.set_cons_succ, List.map_cons, List.sum_cons] at this ⊢
    omega
/-! ## 2. Storing a local variable, on lists -/
def lsetAt (l : List Slot) (i : Nat) (x : Slot) : Option (List Slot) := if i < l.length then some (l.set i x) else none
def lstoreSelf (l : List Slot) (i : Nat) (v : Value) : Option (List Slot) :=
  match lsetAt l i (.val v) with
  | none => none
  | some l => if v.category = 2 then
      (match l[i + 1]? with
      | none => none
      | some (.val old) => if old.category = 2 then (match lsetAt l (i + 2) .unset with | none => none | some l2 => lsetAt l2 (i + 1) .second) else lsetAt l (i + 1) .second
      | some _ => lsetAt l (i + 1) .second)
    else some l
def mst (l : List Slot) (i : Nat) (v : Value) : Option (List Slot) :=
  match l[i]? with
  | none => none
  | some .second => (match lsetAt l (i - 1) .unset with | none => none | some l2 => lstoreSelf l2 i v)
  | some (.val old) => if old.category = 2 then (match lsetAt l (i + 1) .unset with | none => none | some l2 => lstoreSelf l2 i v) else lstoreSelf l i v
  | some .unset => lstoreSelf l i v
def arL (G : Ctx) (l : List Slot) : Array Slot := (l.map (trS G)).toArray
theorem setAt_map (G : Ctx) (l : List Slot) (i : Nat) (x : Slot) : setAt (arL G l) i (trS G x) = (lsetAt l i x).map (arL G) := by
  unfold setAt lsetAt arL
  by_cases h : i < l.length <;> simp [h, List.map_set]
theorem arL_get (G : Ctx) (l : List Slot) (i : Nat) : (arL G l)[i]? = (l[i]?).map (trS G) := by simp [arL]
theorem storeSelf_map (G : Ctx) (l : List Slot) (i : Nat) (v : Value) : storeSelf (arL G l) i (tr G v) = (lstoreSelf l i v).map (arL G) := by
  unfold storeSelf lstoreSelf
  have e := setAt_map G l i (.val v)
  simp only [trS] at e
  rw [e]
  cases h1 : lsetAt l i (.val v) with
  | none => rfl
  | some l1 =>
    simp only [Option.map_some, Option.bind_eq_bind, Option.bind_some, tr_cat]
    by_cases hc : v.category = 2
    · simp only [hc, if_true, arL_get]
      cases h2 : l1[i + 1]? with
      | none => rfl
      | some sl =>
        simp only [Option.map_some, Option.bind_some]
        have u2 := setAt_map G l1 (i + 2) .unset
        have s1 := setAt_map G l1 (i + 1) .second
        simp only [trS] at u2 s1
        cases sl with
        | unset => exact s1
        | second => exact s1
        | val old =>
          simp only [trS, tr_cat]
          by_cases hq : old.category = 2
          · simp only [hq, if_true, u2]
            cases h3 : lsetAt l1 (i + 2) .unset with
            | none => rfl
            | some l2 =>
              have s2 := setAt_map G l2 (i + 1) .second
              simp only [trS] at s2
              exact s2
          · simp only [hq, if_false]
            exact s1
    · simp only [hc, if_false]
      rfl
theorem mst_map (G : Ctx) (l : List Slot) (i : Nat) (v : Value) : storeLocals (arL G l) i (tr G v) = (mst l i v).map (arL G) := by
  unfold storeLocals mst
  simp only [arL_get]
  cases h1 : l[i]? with
  | none => rfl
  | some sl =>
    simp only [Option.map_some, Option.bind_eq_bind, Option.bind_some]
    have u1 := setAt_map G l (i - 1) .unset
    have u2 := setAt_map G l (i + 1) .unset
    simp only [trS] at u1 u2
    cases sl with
    | unset => exact storeSelf_map G l i v
    | second =>
      simp only [trS, u1]
      cases h3 : lsetAt l (i - 1) .unset with
      | none => rfl
      | some l2 => exact storeSelf_map G l2 i v
    | val old =>
      simp only [trS, tr_cat]
      by_cases hq : old.category = 2
      · simp only [hq, if_true, u2]
        cases h3 : lsetAt l (i + 1) .unset with
        | none => rfl
        | some l2 => exact storeSelf_map G l2 i v
      · simp only [hq, if_false]
        exact storeSelf_map G l i v
theorem lsetAt_len {l l' : List Slot} {i : Nat} {x : Slot} (h : lsetAt l i x = some l') : l'.length = l.length := by
  unfold lsetAt at h; split at h
  · cases h; simp
  · cases h
theorem lstoreSelf_len {l l' : List Slot} {i : Nat} {v : Value} (h : lstoreSelf l i v = some l') : l'.length = l.length := by
  unfold lstoreSelf at h
  split at h
  · cases h
  · rename_i l1 h1
    have e1 := lsetAt_len h1
    split at h
    · split at h
      · cases h
      · split at h
        · split at h
          · cases h
          · rename_i h2; rw [lsetAt_len h, lsetAt_len h2, e1]
        · rw [lsetAt_len h, e1]
      · rw [lsetAt_len h, e1]
    · cases h; exact e1
theorem mst_len {l l' : List Slot} {i : Nat} {v : Value} (h : mst l i v = some l') : l'.length = l.length := by
  unfold mst at h
  split at h
  · cases h
  · split at h
    · cases h
    · rename_i h2; rw [lstoreSelf_len h, lsetAt_len h2]
  · split at h
    · split at h
      · cases h
      · rename_i h2; rw [lstoreSelf_len h, lsetAt_len h2]
    · exact lstoreSelf_len h
  · exact lstoreSelf_len h
theorem st_of {G : Ctx} {l l' : List Slot} {i : Nat} {v : Value} (h : mst l i v = some l') : storeLocals (arL G l) i (tr G v) = some (arL G l') := by rw [mst_map, h]; rfl
theorem ld_of {G : Ctx} {l : List Slot} {i : Nat} {s : Slot} (h : l[i]? = some s) : (arL G l)[i]? = some (trS G s) := by rw [arL_get, h]; rfl
/-! ## 3. What a run of a body from a point does -/
def Ev (G : Ctx) (M : Mi) (pc : Nat) (L : List Slot) (S : List Value) (h : MHeap) (r : Option Value × MHeap) : Prop :=
  (h.length ≤ r.2.length ∧ hsl (gK G) h ≤ hsl (gK G) r.2) ∧
  ∀ (p : Program) (e : Env) (R : Room) (s : State) (m : MethodId) (args : Array Value) (below : List Frame) (meth : Method) (c : Code) (T : State) (locs : List Loc) (cells slots : Nat),
    Stand p (gL G) e R s m args below meth c T locs cells slots → p.tables.exec = Jvm.exec → (gZ G).Warmed39 s.vm → s.vm.findClass (mN M).cls = some m.cls →
    c.code = mB M → c.maxLocals = mL M → meth.sig.returnType = mR M → meth.name = (mN M).name → L.length = mL M → mF M ≤ R.frames → mW M ≤ R.locals →
    s.heap.size + cells = T.heap.size → Rel G T.heap h → Fr (gN G) locs → cells + (r.2.length - h.length) ≤ R.cells → slots + (hsl (gK G) r.2 - hsl (gK G) h) ≤ R.slots →
    ∃ T' locs', Stand p (gL G) e R s m args below meth c T' locs' (cells + (r.2.length - h.length)) (slots + (hsl (gK G) r.2 - hsl (gK G) h)) ∧ Rel G T'.heap r.2 ∧ Fr (gN G) locs' ∧
      ∀ fs, (∀ (f : JFrame) (acts : List Action), f.method = m → f.locked = none → f.entered = [] → (doReturn e (T'.setTop f) acts (r.1.map (tr G))).1 = T'.setFrames fs) →
        Steps p.tables e below (T.setTop (mkF m pc (arL G L) (S.map (tr G)))) (T'.setFrames fs)
/-- a whole call -/
def EvC (G : Ctx) (y : Mi) (args : List Value) (h : MHeap) (r : Option Value × MHeap) : Prop :=
  (h.length ≤ r.2.length ∧ hsl (gK G) h ≤ hsl (gK G) r.2) ∧
  ∀ (ws : List Jvm.Cond) (R : Room) (hr : Heap), mF y ≤ R.frames → mW y ≤ R.locals → r.2.length - h.length ≤ R.cells → hsl (gK G) r.2 - hsl (gK G) h ≤ R.slots → Rel G hr h →
    MetFree (gL G) (mN y) (head1 (Jvm.Cond.code (mN y) (mB y) (mL y) (mR y) :: ws) R) (fun a U => a = (args.map (tr G)).toArray ∧ (gZ G).Warmed39 U.vm ∧ U.heap = hr) (fun _ _ _ _ _ => True)
      (fun _ U o U' => ∃ v L, o = .returned v ∧ (v = r.1.map (tr G) ∧ Fr (gN G) L ∧ Rel G U'.heap r.2) ∧ FrameEnd U o U' L (r.2.length - h.length) (hsl (gK G) r.2 - hsl (gK G) h))
section Rules
variable {G : Ctx} {M : Mi} {pc : Nat} {L : List Slot} {S : List Value} {h : MHeap} {r : Option Value × MHeap}
theorem Ev.gen {pc' : Nat} {L' : List Slot} {S' : List Value} {h' : MHeap} (hm1 : h.length ≤ h'.length) (hm2 : hsl (gK G) h ≤ hsl (gK G) h') (hL : L'.length = L.length) (hn : Ev G M pc' L' S' h' r)
    (st : ∀ {p : Program} {e : Env} {R : Room} {s : State} {m : MethodId} {args : Array Value} {below : List Frame} {meth : Method} {c : Code} {T : State} {locs : List Loc} {cells slots : Nat},
      Stand p (gL G) e R s m args below meth c T locs cells slots → p.tables.exec = Jvm.exec → (gZ G).Warmed39 s.vm → s.vm.findClass (mN M).cls = some m.cls →
      c.code = mB M → c.maxLocals = mL M → meth.name = (mN M).name → L.length = mL M → mF M ≤ R.frames → mW M ≤ R.locals →
      s.heap.size + cells = T.heap.size → Rel G T.heap h → Fr (gN G) locs → cells + (h'.length - h.length) ≤ R.cells → slots + (hsl (gK G) h' - hsl (gK G) h) ≤ R.slots →
      ∃ T' locs', Stand p (gL G) e R s m args below meth c T' locs' (cells + (h'.length - h.length)) (slots + (hsl (gK G) h' - hsl (gK G) h)) ∧ Rel G T'.heap h' ∧ Fr (gN G) locs' ∧
        ∀ target, Steps p.tables e below (T'.setTop (mkF m pc' (arL G L') (S'.map (tr G)))) target → Steps p.tables e below (T.setTop (mkF m pc (arL G L) (S.map (tr G)))) target) :
    Ev G M pc L S h r := by
  obtain ⟨⟨g1, g2⟩, hn⟩ := hn
  refine ⟨⟨Nat.le_trans hm1 g1, Nat.le_trans hm2 g2⟩, ?_⟩
  intro p e R s m args below meth c T locs cells slots X hx hZ hown hby hml hret hnm hLm hfr hlo hsz hR hF hc hs
  obtain ⟨T1, locs1, X1, R1, F1, st1⟩ := st X hx hZ hown hby hml hnm hLm hfr hlo hsz hR hF (by omega) (by omega)
  have hsz1 : s.heap.size + (cells + (h'.length - h.length)) = T1.heap.size := by
    have a1 := hR.1
    have a2 := R1.1
    omega
  obtain ⟨T2, locs2, X2, R2, F2, st2⟩ := hn p e R s m args below meth c T1 locs1 _ _ X1 hx hZ hown hby hml hret hnm (hL.trans hLm) hfr hlo hsz1 R1 F1 (by omega) (by omega)
  refine ⟨T2, locs2, ?_, R2, F2, fun fs hl => st1 _ (st2 fs hl)⟩
  have e1 : cells + (h'.length - h.length) + (r.2.length - h'.length) = cells + (r.2.length - h.length) := by omega
  have e2 : slots + (hsl (gK G) h' - hsl (gK G) h) + (hsl (gK G) r.2 - hsl (gK G) h') = slots + (hsl (gK G) r.2 - hsl (gK G) h) := by omega
  rw [e1, e2] at X2
  exact X2
/-- a step that leaves the heap -/
theorem Ev.same {pc' : Nat} {L' : List Slot} {S' : List Value} (hL : L'.length = L.length) (hn : Ev G M pc' L' S' h r)
    (st : ∀ {p : Program} {e : Env} {R : Room} {s : State} {m : MethodId} {args : Array Value} {below : List Frame} {meth : Method} {c : Code} {T : State} {locs : List Loc} {cells slots : Nat},
      Stand p (gL G) e R s m args below meth c T locs cells slots → p.tables.exec = Jvm.exec → (gZ G).Warmed39 s.vm → s.vm.findClass (mN M).cls = some m.cls →
      c.code = mB M → c.maxLocals = mL M → L.length = mL M → mF M ≤ R.frames → mW M ≤ R.locals → Rel G T.heap h →
      ∃ T', Stand p (gL G) e R s m args below meth c T' locs cells slots ∧ T'.heap = T.heap ∧
        ∀ target, Steps p.tables e below (T'.setTop (mkF m pc' (arL G L') (S'.map (tr G)))) target → Steps p.tables e below (T.setTop (mkF m pc (arL G L) (S.map (tr G)))) target) :
    Ev G M pc L S h r := by
  refine Ev.gen (Nat.le_refl _) (Nat.le_refl _) hL hn ?_
  intro p e R s m args below meth c T locs cells slots X hx hZ hown hby hml hnm hLm hfr hlo hsz hR hF hc hs
  obtain ⟨T', X', e', st'⟩ := st X hx hZ hown hby hml hLm hfr hlo hR
  refine ⟨T', locs, ?_, by rw [e']; exact hR, hF, st'⟩
  rw [Nat.sub_self, Nat.sub_self, Nat.add_zero, Nat.add_zero]
  exact X'
/-- a step that leaves all but the frame -/
theorem Ev.pure {pc' : Nat} {L' : List Slot} {S' : List Value} (hL : L'.length = L.length) (hn : Ev G M pc' L' S' h r)
    (st : ∀ {p : Program} {e : Env} {R : Room} {s : State} {m : MethodId} {args : Array Value} {below : List Frame} {meth : Method} {c : Code} {T : State} {locs : List Loc} {cells slots : Nat},
      Stand p (gL G) e R s m args below meth c T locs cells slots → p.tables.exec = Jvm.exec → (gZ G).Warmed39 s.vm → s.vm.findClass (mN M).cls = some m.cls →
      c.code = mB M → ∀ target, Steps p.tables e below (T.setTop (mkF m pc' (arL G L') (S'.map (tr G)))) target → Steps p.tables e below (T.setTop (mkF m pc (arL G L) (S.map (tr G)))) target) :
    Ev G M pc L S h r :=
  Ev.same hL hn fun {p e R s m args below meth c T locs cells slots} X hx hZ hown hby hml hLm hfr hlo hR => ⟨T, X, rfl, st X hx hZ hown hby⟩
/-! ### loads, stores, constants -/
theorem Ev.iload {k : Nat} {v : Int32} (hd : decode (mB M) pc = .ok (.iload k, 2)) (hl : L[k]? = some (.val (.int v))) (hn : Ev G M (pc + 2) L (.int v :: S) h r) : Ev G M pc L S h r :=
  Ev.pure rfl hn fun {_ _ _ _ m _ _ _ _ _ _ _ _} X hx hZ hown hby target q => XS.iload (g := mkF m pc (arL G L) (List.map (tr G) S)) X.here hx rfl (hb hby hd) (ld_of hl) q
theorem Ev.iloadN {k : Fin 4} {v : Int32} (hd : decode (mB M) pc = .ok (.iload_n k, 1)) (hl : L[k.val]? = some (.val (.int v))) (hn : Ev G M (pc + 1) L (.int v :: S) h r) : Ev G M pc L S h r :=
  Ev.pure rfl hn fun {_ _ _ _ m _ _ _ _ _ _ _ _} X hx hZ hown hby target q => XS.iloadN (g := mkF m pc (arL G L) (List.map (tr G) S)) X.here hx rfl (hb hby hd) (ld_of hl) q
theorem Ev.aload {k : Nat} {v : Nat} (hd : decode (mB M) pc = .ok (.aload k, 2)) (hl : L[k]? = some (.val (.ref v))) (hn : Ev G M (pc + 2) L (.ref v :: S) h r) : Ev G M pc L S h r :=
  Ev.pure rfl hn fun {_ _ _ _ m _ _ _ _ _ _ _ _} X hx hZ hown hby target q => XS.aload (g := mkF m pc (arL G L) (List.map (tr G) S)) X.here hx rfl (hb hby hd) (ld_of hl) rfl q
theorem Ev.aloadN {k : Fin 4} {v : Nat} (hd : decode (mB M) pc = .ok (.aload_n k, 1)) (hl : L[k.val]? = some (.val (.ref v))) (hn : Ev G M (pc + 1) L (.ref v :: S) h r) : Ev G M pc L S h r :=
  Ev.pure rfl hn fun {_ _ _ _ m _ _ _ _ _ _ _ _} X hx hZ hown hby target q => XS.aloadN (g := mkF m pc (arL G L) (List.map (tr G) S)) X.here hx rfl (hb hby hd) (ld_of hl) rfl q
theorem Ev.lload {k : Nat} {v : Int64} (hd : decode (mB M) pc = .ok (.lload k, 2)) (hl : L[k]? = some (.val (.long v))) (hn : Ev G M (pc + 2) L (.long v :: S) h r) : Ev G M pc L S h r :=
  Ev.pure rfl hn fun {_ _ _ _ m _ _ _ _ _ _ _ _} X hx hZ hown hby target q => XT.lload (g := mkF m pc (arL G L) (List.map (tr G) S)) X.here hx rfl (hb hby hd) (ld_of hl) q
theorem Ev.lloadN {k : Fin 4} {v : Int64} (hd : decode (mB M) pc = .ok (.lload_n k, 1)) (hl : L[k.val]? = some (.val (.long v))) (hn : Ev G M (pc + 1) L (.long v :: S) h r) : Ev G M pc L S h r :=
  Ev.pure rfl hn fun {_ _ _ _ m _ _ _ _ _ _ _ _} X hx hZ hown hby target q => XT.lloadN (g := mkF m pc (arL G L) (List.map (tr G) S)) X.here hx rfl (hb hby hd) (ld_of hl) q
theorem Ev.istore {k : Nat} {v : Int32} {L' : List Slot} (hd : decode (mB M) pc = .ok (.istore k, 2)) (hl : mst L k (.int v) = some L') (hn : Ev G M (pc + 2) L' S h r) : Ev G M pc L (.int v :: S) h r :=
  Ev.pure (mst_len hl) hn fun {_ _ _ _ m _ _ _ _ _ _ _ _} X hx hZ hown hby target q => XS.istore (g := mkF m pc (arL G L) (List.map (tr G) (Value.int v :: S))) X.here hx rfl (hb hby hd) rfl (st_of hl) q
theorem Ev.istoreN {k : Fin 4} {v : Int32} {L' : List Slot} (hd : decode (mB M) pc = .ok (.istore_n k, 1)) (hl : mst L k.val (.int v) = some L') (hn : Ev G M (pc + 1) L' S h r) : Ev G M pc L (.int v :: S) h r :=
  Ev.pure (mst_len hl) hn fun {_ _ _ _ m _ _ _ _ _ _ _ _} X hx hZ hown hby target q => XS.istoreN (g := mkF m pc (arL G L) (List.map (tr G) (Value.int v :: S))) X.here hx rfl (hb hby hd) rfl (st_of hl) q
theorem Ev.astore {k v : Nat} {L' : List Slot} (hd : decode (mB M) pc = .ok (.astore k, 2)) (hl : mst L k (.ref v) = some L') (hn : Ev G M (pc + 2) L' S h r) : Ev G M pc L (.ref v :: S) h r :=
  Ev.pure (mst_len hl) hn fun {_ _ _ _ m _ _ _ _ _ _ _ _} X hx hZ hown hby target q => XS.astore (g := mkF m pc (arL G L) (List.map (tr G) (Value.ref v :: S))) X.here hx rfl (hb hby hd) rfl rfl (st_of hl) q
theorem Ev.astoreN {k : Fin 4} {v : Nat} {L' : List Slot} (hd : decode (mB M) pc = .ok (.astore_n k, 1)) (hl : mst L k.val (.ref v) = some L') (hn : Ev G M (pc + 1) L' S h r) : Ev G M pc L (.ref v :: S) h r :=
  Ev.pure (mst_len hl) hn fun {_ _ _ _ m _ _ _ _ _ _ _ _} X hx hZ hown hby target q => XS.astoreN (g := mkF m pc (arL G L) (List.map (tr G) (Value.ref v :: S))) X.here hx rfl (hb hby hd) rfl rfl (st_of hl) q
theorem Ev.lstore {k : Nat} {v : Int64} {L' : List Slot} (hd : decode (mB M) pc = .ok (.lstore k, 2)) (hl : mst L k (.long v) = some L') (hn : Ev G M (pc + 2) L' S h r) : Ev G M pc L (.long v :: S) h r :=
  Ev.pure (mst_len hl) hn fun {_ _ _ _ m _ _ _ _ _ _ _ _} X hx hZ hown hby target q => XT.lstore (g := mkF m pc (arL G L) (List.map (tr G) (Value.long v :: S))) X.here hx rfl (hb hby hd) rfl (st_of hl) q
theorem Ev.lstoreN {k : Fin 4} {v : Int64} {L' : List Slot} (hd : decode (mB M) pc = .ok (.lstore_n k, 1)) (hl : mst L k.val (.long v) = some L') (hn : Ev G M (pc + 1) L' S h r) : Ev G M pc L (.long v :: S) h r :=
  Ev.pure (mst_len hl) hn fun {_ _ _ _ m _ _ _ _ _ _ _ _} X hx hZ hown hby target q => XT.lstoreN (g := mkF m pc (arL G L) (List.map (tr G) (Value.long v :: S))) X.here hx rfl (hb hby hd) rfl (st_of hl) q
theorem Ev.iconst {i : Int} {z : Int32} (hd : decode (mB M) pc = .ok (.iconst i, 1)) (hz : Int32.ofInt i = z) (hn : Ev G M (pc + 1) L (.int z :: S) h r) : Ev G M pc L S h r :=
  Ev.pure rfl (hz ▸ hn) fun {_ _ _ _ m _ _ _ _ _ _ _ _} X hx hZ hown hby target q => XS.iconst (g := mkF m pc (arL G L) (List.map (tr G) S)) X.here hx rfl (hb hby hd) q
theorem Ev.bipush {i : Int} {z : Int32} (hd : decode (mB M) pc = .ok (.bipush i, 2)) (hz : (Int8.ofInt i).toInt32 = z) (hn : Ev G M (pc + 2) L (.int z :: S) h r) : Ev G M pc L S h r :=
  Ev.pure rfl (hz ▸ hn) fun {_ _ _ _ m _ _ _ _ _ _ _ _} X hx hZ hown hby target q => XS.bipush (g := mkF m pc (arL G L) (List.map (tr G) S)) X.here hx rfl (hb hby hd) q
theorem Ev.sipush {i : Int} {z : Int32} (hd : decode (mB M) pc = .ok (.sipush i, 3)) (hz : (Int16.ofInt i).toInt32 = z) (hn : Ev G M (pc + 3) L (.int z :: S) h r) : Ev G M pc L S h r :=
  Ev.pure rfl (hz ▸ hn) fun {_ _ _ _ m _ _ _ _ _ _ _ _} X hx hZ hown hby target q => XS.sipush (g := mkF m pc (arL G L) (List.map (tr G) S)) X.here hx rfl (hb hby hd) q
theorem Ev.lconst {k : Fin 2} {z : Int64} (hd : decode (mB M) pc = .ok (.lconst k, 1)) (hz : Int64.ofNat k = z) (hn : Ev G M (pc + 1) L (.long z :: S) h r) : Ev G M pc L S h r :=
  Ev.pure rfl (hz ▸ hn) fun {_ _ _ _ m _ _ _ _ _ _ _ _} X hx hZ hown hby target q => XT.lconst (g := mkF m pc (arL G L) (List.map (tr G) S)) X.here hx rfl (hb hby hd) q
theorem Ev.ldc {k : Nat} {v : Int32} (w : (Jvm.Cond.constant (mN M).cls k v).before (gA G) (gZ G) = true) (hd : decode (mB M) pc = .ok (.ldc k, 2)) (hn : Ev G M (pc + 2) L (.int v :: S) h r) : Ev G M pc L S h r :=
  Ev.pure rfl hn fun {_ _ _ _ m _ _ _ _ _ _ _ _} X hx hZ hown hby target q => X.ldcInt hx hown (mvT hZ w) (g := mkF m pc (arL G L) (List.map (tr G) S)) rfl (hb hby hd) target q
theorem Ev.ldcW {k : Nat} {v : Int32} (w : (Jvm.Cond.constant (mN M).cls k v).before (gA G) (gZ G) = true) (hd : decode (mB M) pc = .ok (.ldc_w k, 3)) (hn : Ev G M (pc + 3) L (.int v :: S) h r) : Ev G M pc L S h r :=
  Ev.pure rfl hn fun {_ _ _ _ m _ _ _ _ _ _ _ _} X hx hZ hown hby target q => X.ldcwInt hx hown (mvT hZ w) (g := mkF m pc (arL G L) (List.map (tr G) S)) rfl (hb hby hd) target q
theorem Ev.ldcL {k : Nat} {v : Int64} (w : (Jvm.Cond.constantLong (mN M).cls k v).before (gA G) (gZ G) = true) (hd : decode (mB M) pc = .ok (.ldc2_w k, 3)) (hn : Ev G M (pc + 3) L (.long v :: S) h r) : Ev G M pc L S h r :=
  Ev.pure rfl hn fun {_ _ _ _ m _ _ _ _ _ _ _ _} X hx hZ hown hby target q => X.ldc2Long hx hown (mvT hZ w) (g := mkF m pc (arL G L) (List.map (tr G) S)) rfl (hb hby hd) target q
/-! ### reckoning -/
theorem Ev.iadd {x y : Int32} (hd : decode (mB M) pc = .ok (.iadd, 1)) (hn : Ev G M (pc + 1) L (.int (x + y) :: S) h r) : Ev G M pc L (.int y :: .int x :: S) h r :=
  Ev.pure rfl hn fun {_ _ _ _ m _ _ _ _ _ _ _ _} X hx hZ hown hby target q => XS.iadd (g := mkF m pc (arL G L) (List.map (tr G) (Value.int y :: Value.int x :: S))) X.here hx rfl (hb hby hd) rfl q
theorem Ev.isub {x y : Int32} (hd : decode (mB M) pc = .ok (.isub, 1)) (hn : Ev G M (pc + 1) L (.int (x - y) :: S) h r) : Ev G M pc L (.int y :: .int x :: S) h r :=
  Ev.pure rfl hn fun {_ _ _ _ m _ _ _ _ _ _ _ _} X hx hZ hown hby target q => XS.isub (g := mkF m pc (arL G L) (List.map (tr G) (Value.int y :: Value.int x :: S))) X.here hx rfl (hb hby hd) rfl q
theorem Ev.imul {x y : Int32} (hd : decode (mB M) pc = .ok (.imul, 1)) (hn : Ev G M (pc + 1) L (.int (x * y) :: S) h r) : Ev G M pc L (.int y :: .int x :: S) h r :=
  Ev.pure rfl hn fun {_ _ _ _ m _ _ _ _ _ _ _ _} X hx hZ hown hby target q => XS.imul (g := mkF m pc (arL G L) (List.map (tr G) (Value.int y :: Value.int x :: S))) X.here hx rfl (hb hby hd) rfl q
theorem Ev.idiv {x y : Int32} (hd : decode (mB M) pc = .ok (.idiv, 1)) (hy : y ≠ 0) (hn : Ev G M (pc + 1) L (.int (x / y) :: S) h r) : Ev G M pc L (.int y :: .int x :: S) h r :=
  Ev.pure rfl hn fun {_ _ _ _ m _ _ _ _ _ _ _ _} X hx hZ hown hby target q => XS.idiv (g := mkF m pc (arL G L) (List.map (tr G) (Value.int y :: Value.int x :: S))) X.here hx rfl (hb hby hd) rfl hy q
theorem Ev.irem {x y : Int32} (hd : decode (mB M) pc = .ok (.irem, 1)) (hy : y ≠ 0) (hn : Ev G M (pc + 1) L (.int (x % y) :: S) h r) : Ev G M pc L (.int y :: .int x :: S) h r :=
  Ev.pure rfl hn fun {_ _ _ _ m _ _ _ _ _ _ _ _} X hx hZ hown hby target q => iremM (g := mkF m pc (arL G L) (List.map (tr G) (Value.int y :: Value.int x :: S))) X hx rfl (hb hby hd) rfl hy q
theorem Ev.ineg {x : Int32} (hd : decode (mB M) pc = .ok (.ineg, 1)) (hn : Ev G M (pc + 1) L (.int (-x) :: S) h r) : Ev G M pc L (.int x :: S) h r :=
  Ev.pure rfl hn fun {_ _ _ _ m _ _ _ _ _ _ _ _} X hx hZ hown hby target q => XS.ineg (g := mkF m pc (arL G L) (List.map (tr G) (Value.int x :: S))) X.here hx rfl (hb hby hd) rfl q
theorem Ev.iand {x y : Int32} (hd : decode (mB M) pc = .ok (.iand, 1)) (hn : Ev G M (pc + 1) L (.int (x &&& y) :: S) h r) : Ev G M pc L (.int y :: .int x :: S) h r :=
  Ev.pure rfl hn fun {_ _ _ _ m _ _ _ _ _ _ _ _} X hx hZ hown hby target q => XS.iand (g := mkF m pc (arL G L) (List.map (tr G) (Value.int y :: Value.int x :: S))) X.here hx rfl (hb hby hd) rfl q
theorem Ev.ior {x y : Int32} (hd : decode (mB M) pc = .ok (.ior, 1)) (hn : Ev G M (pc + 1) L (.int (x ||| y) :: S) h r) : Ev G M pc L (.int y :: .int x :: S) h r :=
  Ev.pure rfl hn fun {_ _ _ _ m _ _ _ _ _ _ _ _} X hx hZ hown hby target q => XT.ior (g := mkF m pc (arL G L) (List.map (tr G) (Value.int y :: Value.int x :: S))) X.here hx rfl (hb hby hd) rfl q
theorem Ev.ixor {x y : Int32} (hd : decode (mB M) pc = .ok (.ixor, 1)) (hn : Ev G M (pc + 1) L (.int (x ^^^ y) :: S) h r) : Ev G M pc L (.int y :: .int x :: S) h r :=
  Ev.pure rfl hn fun {_ _ _ _ m _ _ _ _ _ _ _ _} X hx hZ hown hby target q => XT.ixor (g := mkF m pc (arL G L) (List.map (tr G) (Value.int y :: Value.int x :: S))) X.here hx rfl (hb hby hd) rfl q
theorem Ev.ishl {x y : Int32} (hd : decode (mB M) pc = .ok (.ishl, 1)) (hn : Ev G M (pc + 1) L (.int (x <<< (y &&& 31)) :: S) h r) : Ev G M pc L (.int y :: .int x :: S) h r :=
  Ev.pure rfl hn fun {_ _ _ _ m _ _ _ _ _ _ _ _} X hx hZ hown hby target q => XT.ishl (g := mkF m pc (arL G L) (List.map (tr G) (Value.int y :: Value.int x :: S))) X.here hx rfl (hb hby hd) rfl q
theorem Ev.ishr {x y : Int32} (hd : decode (mB M) pc = .ok (.ishr, 1)) (hn : Ev G M (pc + 1) L (.int (x >>> (y &&& 31)) :: S) h r) : Ev G M pc L (.int y :: .int x :: S) h r :=
  Ev.pure rfl hn fun {_ _ _ _ m _ _ _ _ _ _ _ _} X hx hZ hown hby target q => XT.ishr (g := mkF m pc (arL G L) (List.map (tr G) (Value.int y :: Value.int x :: S))) X.here hx rfl (hb hby hd) rfl q
theorem Ev.iushr {x y : Int32} (hd : decode (mB M) pc = .ok (.iushr, 1)) (hn : Ev G M (pc + 1) L (.int (XT.ushr x y) :: S) h r) : Ev G M pc L (.int y :: .int x :: S) h r :=
  Ev.pure rfl hn fun {_ _ _ _ m _ _ _ _ _ _ _ _} X hx hZ hown hby target q => XT.iushr (g := mkF m pc (arL G L) (List.map (tr G) (Value.int y :: Value.int x :: S))) X.here hx rfl (hb hby hd) rfl q
theorem Ev.ladd {x y : Int64} (hd : decode (mB M) pc = .ok (.ladd, 1)) (hn : Ev G M (pc + 1) L (.long (x + y) :: S) h r) : Ev G M pc L (.long y :: .long x :: S) h r :=
  Ev.pure rfl hn fun {_ _ _ _ m _ _ _ _ _ _ _ _} X hx hZ hown hby target q => XT.ladd (g := mkF m pc (arL G L) (List.map (tr G) (Value.long y :: Value.long x :: S))) X.here hx rfl (hb hby hd) rfl q
theorem Ev.lsub {x y : Int64} (hd : decode (mB M) pc = .ok (.lsub, 1)) (hn : Ev G M (pc + 1) L (.long (x - y) :: S) h r) : Ev G M pc L (.long y :: .long x :: S) h r :=
  Ev.pure rfl hn fun {_ _ _ _ m _ _ _ _ _ _ _ _} X hx hZ hown hby target q => XT.lsub (g := mkF m pc (arL G L) (List.map (tr G) (Value.long y :: Value.long x :: S))) X.here hx rfl (hb hby hd) rfl q
theorem Ev.lmul {x y : Int64} (hd : decode (mB M) pc = .ok (.lmul, 1)) (hn : Ev G M (pc + 1) L (.long (x * y) :: S) h r) : Ev G M pc L (.long y :: .long x :: S) h r :=
  Ev.pure rfl hn fun {_ _ _ _ m _ _ _ _ _ _ _ _} X hx hZ hown hby target q => XT.lmul (g := mkF m pc (arL G L) (List.map (tr G) (Value.long y :: Value.long x :: S))) X.here hx rfl (hb hby hd) rfl q
theorem Ev.ldiv {x y : Int64} (hd : decode (mB M) pc = .ok (.ldiv, 1)) (hy : y ≠ 0) (hn : Ev G M (pc + 1) L (.long (x / y) :: S) h r) : Ev G M pc L (.long y :: .long x :: S) h r :=
  Ev.pure rfl hn fun {_ _ _ _ m _ _ _ _ _ _ _ _} X hx hZ hown hby target q => XT.ldiv (g := mkF m pc (arL G L) (List.map (tr G) (Value.long y :: Value.long x :: S))) X.here hx rfl (hb hby hd) rfl hy q
theorem Ev.lneg {x : Int64} (hd : decode (mB M) pc = .ok (.lneg, 1)) (hn : Ev G M (pc + 1) L (.long (-x) :: S) h r) : Ev G M pc L (.long x :: S) h r :=
  Ev.pure rfl hn fun {_ _ _ _ m _ _ _ _ _ _ _ _} X hx hZ hown hby target q => XT.lneg (g := mkF m pc (arL G L) (List.map (tr G) (Value.long x :: S))) X.here hx rfl (hb hby hd) rfl q
theorem Ev.land {x y : Int64} (hd : decode (mB M) pc = .ok (.land, 1)) (hn : Ev G M (pc + 1) L (.long (x &&& y) :: S) h r) : Ev G M pc L (.long y :: .long x :: S) h r :=
  Ev.pure rfl hn fun {_ _ _ _ m _ _ _ _ _ _ _ _} X hx hZ hown hby target q => XT.land (g := mkF m pc (arL G L) (List.map (tr G) (Value.long y :: Value.long x :: S))) X.here hx rfl (hb hby hd) rfl q
theorem Ev.lor {x y : Int64} (hd : decode (mB M) pc = .ok (.lor, 1)) (hn : Ev G M (pc + 1) L (.long (x ||| y) :: S) h r) : Ev G M pc L (.long y :: .long x :: S) h r :=
  Ev.pure rfl hn fun {_ _ _ _ m _ _ _ _ _ _ _ _} X hx hZ hown hby target q => XT.lor (g := mkF m pc (arL G L) (List.map (tr G) (Value.long y :: Value.long x :: S))) X.here hx rfl (hb hby hd) rfl q
theorem Ev.lxor {x y : Int64} (hd : decode (mB M) pc = .ok (.lxor, 1)) (hn : Ev G M (pc + 1) L (.long (x ^^^ y) :: S) h r) : Ev G M pc L (.long y :: .long x :: S) h r :=
  Ev.pure rfl hn fun {_ _ _ _ m _ _ _ _ _ _ _ _} X hx hZ hown hby target q => XT.lxor (g := mkF m pc (arL G L) (List.map (tr G) (Value.long y :: Value.long x :: S))) X.here hx rfl (hb hby hd) rfl q
theorem Ev.lshl {x : Int64} {y : Int32} (hd : decode (mB M) pc = .ok (.lshl, 1)) (hn : Ev G M (pc + 1) L (.long (x <<< (y.toInt64 &&& 63)) :: S) h r) : Ev G M pc L (.int y :: .long x :: S) h r :=
  Ev.pure rfl hn fun {_ _ _ _ m _ _ _ _ _ _ _ _} X hx hZ hown hby target q => XT.lshl (g := mkF m pc (arL G L) (List.map (tr G) (Value.int y :: Value.long x :: S))) X.here hx rfl (hb hby hd) rfl q
theorem Ev.lushr {x : Int64} {y : Int32} (hd : decode (mB M) pc = .ok (.lushr, 1)) (hn : Ev G M (pc + 1) L (.long (XT.ushrL x y) :: S) h r) : Ev G M pc L (.int y :: .long x :: S) h r :=
  Ev.pure rfl hn fun {_ _ _ _ m _ _ _ _ _ _ _ _} X hx hZ hown hby target q => XT.lushr (g := mkF m pc (arL G L) (List.map (tr G) (Value.int y :: Value.long x :: S))) X.here hx rfl (hb hby hd) rfl q
theorem Ev.lcmp {x y : Int64} (hd : decode (mB M) pc = .ok (.lcmp, 1)) (hn : Ev G M (pc + 1) L (.int (XT.cmpL x y) :: S) h r) : Ev G M pc L (.long y :: .long x :: S) h r :=
  Ev.pure rfl hn fun {_ _ _ _ m _ _ _ _ _ _ _ _} X hx hZ hown hby target q => XT.lcmp (g := mkF m pc (arL G L) (List.map (tr G) (Value.long y :: Value.long x :: S))) X.here hx rfl (hb hby hd) rfl q
theorem Ev.i2l {x : Int32} (hd : decode (mB M) pc = .ok (.i2l, 1)) (hn : Ev G M (pc + 1) L (.long x.toInt64 :: S) h r) : Ev G M pc L (.int x :: S) h r :=
  Ev.pure rfl hn fun {_ _ _ _ m _ _ _ _ _ _ _ _} X hx hZ hown hby target q => XT.i2l (g := mkF m pc (arL G L) (List.map (tr G) (Value.int x :: S))) X.here hx rfl (hb hby hd) rfl q
theorem Ev.l2i {x : Int64} (hd : decode (mB M) pc = .ok (.l2i, 1)) (hn : Ev G M (pc + 1) L (.int x.toInt32 :: S) h r) : Ev G M pc L (.long x :: S) h r :=
  Ev.pure rfl hn fun {_ _ _ _ m _ _ _ _ _ _ _ _} X hx hZ hown hby target q => XT.l2i (g := mkF m pc (arL G L) (List.map (tr G) (Value.long x :: S))) X.here hx rfl (hb hby hd) rfl q
theorem Ev.i2b {x : Int32} (hd : decode (mB M) pc = .ok (.i2b, 1)) (hn : Ev G M (pc + 1) L (.int x.toInt8.toInt32 :: S) h r) : Ev G M pc L (.int x :: S) h r :=
  Ev.pure rfl hn fun {_ _ _ _ m _ _ _ _ _ _ _ _} X hx hZ hown hby target q => XT.i2b (g := mkF m pc (arL G L) (List.map (tr G) (Value.int x :: S))) X.here hx rfl (hb hby hd) rfl q
theorem Ev.iinc {k : Nat} {i : Int} {x z : Int32} {L' : List Slot} (hd : decode (mB M) pc = .ok (.iinc k i, 3)) (hl : L[k]? = some (.val (.int x))) (hz : Int32.ofInt i = z) (hl' : mst L k (.int (x + z)) = some L') (hn : Ev G M (pc + 3) L' S h r) : Ev G M pc L S h r :=
  Ev.pure (mst_len hl') hn fun {_ _ _ _ m _ _ _ _ _ _ _ _} X hx hZ hown hby target q => XS.iinc (g := mkF m pc (arL G L) (List.map (tr G) S)) X.here hx rfl (hb hby hd) (ld_of hl) (by rw [hz]; exact st_of hl') q
theorem iincW {tb : Tables} [Ours tb] {e : Env} {below : List Frame} {T target : State} {m : MethodId} {c : Code} {g : JFrame} (h : At T m c below) (hx : tb.exec = Jvm.exec) (hg : g.method = m) {k : Nat} {cst : Int} {x : Int32} {l' : Array Slot} (hd : decode c.code g.pc = .ok (.iinc k cst, 6)) (hl : g.locals[k]? = some (.val (.int x))) (hl' : storeLocals g.locals k (.int (x + Int32.ofInt cst)) = some l')
    (hr : Steps tb e below (T.setTop { g with pc := g.pc + 6, locals := l' }) target) : Steps tb e below (T.setTop g) target := by
  subst hg
  jvm_step h [h.top, hx, hd, hl, hl']
  exact hr
theorem Ev.iincW {k : Nat} {i : Int} {x z : Int32} {L' : List Slot} (hd : decode (mB M) pc = .ok (.iinc k i, 6)) (hl : L[k]? = some (.val (.int x))) (hz : Int32.ofInt i = z) (hl' : mst L k (.int (x + z)) = some L') (hn : Ev G M (pc + 6) L' S h r) : Ev G M pc L S h r :=
  Ev.pure (mst_len hl') hn fun {_ _ _ _ m _ _ _ _ _ _ _ _} X hx hZ hown hby target q => Own.iincW (g := mkF m pc (arL G L) (List.map (tr G) S)) X.here hx rfl (hb hby hd) (ld_of hl) (by rw [hz]; exact st_of hl') q
theorem Ev.dup {x : Value} (hd : decode (mB M) pc = .ok (.dup, 1)) (hc : x.category = 1) (hn : Ev G M (pc + 1) L (x :: x :: S) h r) : Ev G M pc L (x :: S) h r :=
  Ev.pure rfl hn fun {_ _ _ _ m _ _ _ _ _ _ _ _} X hx hZ hown hby target q => XS.dup (g := mkF m pc (arL G L) (List.map (tr G) (x :: S))) X.here hx rfl (hb hby hd) rfl ((tr_cat G x).trans hc) q
theorem Ev.dup2 {x y : Value} (hd : decode (mB M) pc = .ok (.dup2, 1)) (hc : x.category = 1) (hc' : y.category = 1) (hn : Ev G M (pc + 1) L (x :: y :: x :: y :: S) h r) : Ev G M pc L (x :: y :: S) h r :=
  Ev.pure rfl hn fun {_ _ _ _ m _ _ _ _ _ _ _ _} X hx hZ hown hby target q => XT.dup2 (g := mkF m pc (arL G L) (List.map (tr G) (x :: y :: S))) X.here hx rfl (hb hby hd) rfl ((tr_cat G x).trans hc) ((tr_cat G y).trans hc') q
theorem Ev.pop {x : Value} (hd : decode (mB M) pc = .ok (.pop, 1)) (hc : x.category = 1) (hn : Ev G M (pc + 1) L S h r) : Ev G M pc L (x :: S) h r :=
  Ev.pure rfl hn fun {_ _ _ _ m _ _ _ _ _ _ _ _} X hx hZ hown hby target q => XT.pop (g := mkF m pc (arL G L) (List.map (tr G) (x :: S))) X.here hx rfl (hb hby hd) rfl ((tr_cat G x).trans hc) q
/-! ### branches -/
theorem Ev.goto {o : Int} {t : Nat} (hd : decode (mB M) pc = .ok (.goto o, 3)) (hp : (pc : Int) + o = (t : Int)) (hn : Ev G M t L S h r) : Ev G M pc L S h r :=
  Ev.pure rfl hn fun {_ _ _ _ m _ _ _ _ _ _ _ _} X hx hZ hown hby target q => XS.goto (g := mkF m pc (arL G L) (List.map (tr G) S)) X.here hx rfl rfl (hb hby hd) (by rw [hp]; exact Int.natCast_nonneg t) (by rw [hp]; rfl) q
theorem Ev.ifc {cd : ClassFile.Cond} {x : Int32} {o : Int} {t : Nat} (hd : decode (mB M) pc = .ok (.ifCond cd o, 3)) (hp : (pc : Int) + o = (t : Int)) (h1 : ifCond.holds cd x = true → Ev G M t L S h r) (h2 : ifCond.holds cd x = false → Ev G M (pc + 3) L S h r) : Ev G M pc L (.int x :: S) h r := by
  cases hc : ifCond.holds cd x with
  | true => exact Ev.pure rfl (h1 hc) fun {_ _ _ _ m _ _ _ _ _ _ _ _} X hx hZ hown hby target q => XS.ifYes (g := mkF m pc (arL G L) (List.map (tr G) (Value.int x :: S))) X.here hx rfl rfl (hb hby hd) rfl hc (by rw [hp]; exact Int.natCast_nonneg t) (by rw [hp]; rfl) q
  | false => exact Ev.pure rfl (h2 hc) fun {_ _ _ _ m _ _ _ _ _ _ _ _} X hx hZ hown hby target q => XS.ifNo (g := mkF m pc (arL G L) (List.map (tr G) (Value.int x :: S))) X.here hx rfl (hb hby hd) rfl hc q
theorem Ev.icc {cd : ClassFile.Cond} {x y : Int32} {o : Int} {t : Nat} (hd : decode (mB M) pc = .ok (.if_icmp cd o, 3)) (hp : (pc : Int) + o = (t : Int)) (h1 : if_icmp.holds cd x y = true → Ev G M t L S h r) (h2 : if_icmp.holds cd x y = false → Ev G M (pc + 3) L S h r) : Ev G M pc L (.int y :: .int x :: S) h r := by
  cases hc : if_icmp.holds cd x y with
  | true => exact Ev.pure rfl (h1 hc) fun {_ _ _ _ m _ _ _ _ _ _ _ _} X hx hZ hown hby target q => XS.icmpYes (g := mkF m pc (arL G L) (List.map (tr G) (Value.int y :: Value.int x :: S))) X.here hx rfl rfl (hb hby hd) rfl hc (by rw [hp]; exact Int.natCast_nonneg t) (by rw [hp]; rfl) q
  | false => exact Ev.pure rfl (h2 hc) fun {_ _ _ _ m _ _ _ _ _ _ _ _} X hx hZ hown hby target q => XS.icmpNo (g := mkF m pc (arL G L) (List.map (tr G) (Value.int y :: Value.int x :: S))) X.here hx rfl (hb hby hd) rfl hc q
theorem Ev.iclt {x y : Int32} {o : Int} {t : Nat} (hd : decode (mB M) pc = .ok (.if_icmp .lt o, 3)) (hp : (pc : Int) + o = (t : Int)) (h1 : x < y → Ev G M t L S h r) (h2 : ¬ x < y → Ev G M (pc + 3) L S h r) : Ev G M pc L (.int y :: .int x :: S) h r :=
  Ev.icc hd hp (fun q => h1 (by simpa [if_icmp.holds] using q)) (fun q => h2 (by simpa [if_icmp.holds] using q))
theorem Ev.icge {x y : Int32} {o : Int} {t : Nat} (hd : decode (mB M) pc = .ok (.if_icmp .ge o, 3)) (hp : (pc : Int) + o = (t : Int)) (h1 : x < y → Ev G M (pc + 3) L S h r) (h2 : ¬ x < y → Ev G M t L S h r) : Ev G M pc L (.int y :: .int x :: S) h r :=
  Ev.icc hd hp (fun q => h2 (by simpa [if_icmp.holds] using q)) (fun q => h1 (by simpa [if_icmp.holds] using q))
theorem Ev.icgt {x y : Int32} {o : Int} {t : Nat} (hd : decode (mB M) pc = .ok (.if_icmp .gt o, 3)) (hp : (pc : Int) + o = (t : Int)) (h1 : y < x → Ev G M t L S h r) (h2 : ¬ y < x → Ev G M (pc + 3) L S h r) : Ev G M pc L (.int y :: .int x :: S) h r :=
  Ev.icc hd hp (fun q => h1 (by simpa [if_icmp.holds] using q)) (fun q => h2 (by simpa [if_icmp.holds] using q))
theorem Ev.icle {x y : Int32} {o : Int} {t : Nat} (hd : decode (mB M) pc = .ok (.if_icmp .le o, 3)) (hp : (pc : Int) + o = (t : Int)) (h1 : y < x → Ev G M (pc + 3) L S h r) (h2 : ¬ y < x → Ev G M t L S h r) : Ev G M pc L (.int y :: .int x :: S) h r :=
  Ev.icc hd hp (fun q => h2 (by simpa [if_icmp.holds] using q)) (fun q => h1 (by simpa [if_icmp.holds] using q))
theorem Ev.iceq {x y : Int32} {o : Int} {t : Nat} (hd : decode (mB M) pc = .ok (.if_icmp .eq o, 3)) (hp : (pc : Int) + o = (t : Int)) (h1 : x = y → Ev G M t L S h r) (h2 : ¬ x = y → Ev G M (pc + 3) L S h r) : Ev G M pc L (.int y :: .int x :: S) h r :=
  Ev.icc hd hp (fun q => h1 (by simpa [if_icmp.holds] using q)) (fun q => h2 (by simpa [if_icmp.holds] using q))
theorem Ev.icne {x y : Int32} {o : Int} {t : Nat} (hd : decode (mB M) pc = .ok (.if_icmp .ne o, 3)) (hp : (pc : Int) + o = (t : Int)) (h1 : x = y → Ev G M (pc + 3) L S h r) (h2 : ¬ x = y → Ev G M t L S h r) : Ev G M pc L (.int y :: .int x :: S) h r :=
  Ev.icc hd hp (fun q => h2 (by simpa [if_icmp.holds] using q)) (fun q => h1 (by simpa [if_icmp.holds] using q))
theorem Ev.iflt {x : Int32} {o : Int} {t : Nat} (hd : decode (mB M) pc = .ok (.ifCond .lt o, 3)) (hp : (pc : Int) + o = (t : Int)) (h1 : x < 0 → Ev G M t L S h r) (h2 : ¬ x < 0 → Ev G M (pc + 3) L S h r) : Ev G M pc L (.int x :: S) h r :=
  Ev.ifc hd hp (fun q => h1 (by simpa [ifCond.holds] using q)) (fun q => h2 (by simpa [ifCond.holds] using q))
theorem Ev.ifge {x : Int32} {o : Int} {t : Nat} (hd : decode (mB M) pc = .ok (.ifCond .ge o, 3)) (hp : (pc : Int) + o = (t : Int)) (h1 : x < 0 → Ev G M (pc + 3) L S h r) (h2 : ¬ x < 0 → Ev G M t L S h r) : Ev G M pc L (.int x :: S) h r :=
  Ev.ifc hd hp (fun q => h2 (by simpa [ifCond.holds] using q)) (fun q => h1 (by simpa [ifCond.holds] using q))
theorem Ev.ifgt {x : Int32} {o : Int} {t : Nat} (hd : decode (mB M) pc = .ok (.ifCond .gt o, 3)) (hp : (pc : Int) + o = (t : Int)) (h1 : 0 < x → Ev G M t L S h r) (h2 : ¬ 0 < x → Ev G M (pc + 3) L S h r) : Ev G M pc L (.int x :: S) h r :=
  Ev.ifc hd hp (fun q => h1 (by simpa [ifCond.holds] using q)) (fun q => h2 (by simpa [ifCond.holds] using q))
theorem Ev.ifle {x : Int32} {o : Int} {t : Nat} (hd : decode (mB M) pc = .ok (.ifCond .le o, 3)) (hp : (pc : Int) + o = (t : Int)) (h1 : 0 < x → Ev G M (pc + 3) L S h r) (h2 : ¬ 0 < x → Ev G M t L S h r) : Ev G M pc L (.int x :: S) h r :=
  Ev.ifc hd hp (fun q => h2 (by simpa [ifCond.holds] using q)) (fun q => h1 (by simpa [ifCond.holds] using q))
theorem Ev.ifeq {x : Int32} {o : Int} {t : Nat} (hd : decode (mB M) pc = .ok (.ifCond .eq o, 3)) (hp : (pc : Int) + o = (t : Int)) (h1 : x = 0 → Ev G M t L S h r) (h2 : ¬ x = 0 → Ev G M (pc + 3) L S h r) : Ev G M pc L (.int x :: S) h r :=
  Ev.ifc hd hp (fun q => h1 (by simpa [ifCond.holds] using q)) (fun q => h2 (by simpa [ifCond.holds] using q))
theorem Ev.ifne {x : Int32} {o : Int} {t : Nat} (hd : decode (mB M) pc = .ok (.ifCond .ne o, 3)) (hp : (pc : Int) + o = (t : Int)) (h1 : x = 0 → Ev G M (pc + 3) L S h r) (h2 : ¬ x = 0 → Ev G M t L S h r) : Ev G M pc L (.int x :: S) h r :=
  Ev.ifc hd hp (fun q => h2 (by simpa [ifCond.holds] using q)) (fun q => h1 (by simpa [ifCond.holds] using q))
theorem Ev.tswIn {x : Int32} {dflt low high : Int} {offs : Array Int} {len t : Nat} {o : Int} (hd : decode (mB M) pc = .ok (.tableswitch dflt low high offs, len)) (hin : ¬ (x.toInt < low ∨ x.toInt > high)) (ho : offs[(x.toInt - low).toNat]? = some o) (hp : (pc : Int) + o = (t : Int)) (hn : Ev G M t L S h r) : Ev G M pc L (.int x :: S) h r :=
  Ev.pure rfl hn fun {_ _ _ _ m _ _ _ _ _ _ _ _} X hx hZ hown hby target q => XS.tswIn (g := mkF m pc (arL G L) (List.map (tr G) (Value.int x :: S))) X.here hx rfl rfl (hb hby hd) rfl hin ho (by rw [hp]; exact Int.natCast_nonneg t) (by rw [hp]; rfl) q
theorem Ev.tswOut {x : Int32} {dflt low high : Int} {offs : Array Int} {len t : Nat} (hd : decode (mB M) pc = .ok (.tableswitch dflt low high offs, len)) (hout : x.toInt < low ∨ x.toInt > high) (hp : (pc : Int) + dflt = (t : Int)) (hn : Ev G M t L S h r) : Ev G M pc L (.int x :: S) h r :=
  Ev.pure rfl hn fun {_ _ _ _ m _ _ _ _ _ _ _ _} X hx hZ hown hby target q => XS.tswOut (g := mkF m pc (arL G L) (List.map (tr G) (Value.int x :: S))) X.here hx rfl rfl (hb hby hd) rfl hout (by rw [hp]; exact Int.natCast_nonneg t) (by rw [hp]; rfl) q
/-! ### fields -/
theorem Ev.getfield {idx j i : Nat} {n d : String} {ty : FieldType} {fs : List Value} {v : Value} (w : (Jvm.Cond.fieldLink (mN M).cls idx (gC G) n d).before (gA G) (gZ G) = true) (hd : decode (mB M) pc = .ok (.getfield idx, 3))
    (hF : (gF G)[j]? = some (n, d, ty)) (hi : h[i]? = some (.inl fs)) (hv : fs[j]? = some v) (hn : Ev G M (pc + 3) L (v :: S) h r) : Ev G M pc L (.ref i :: S) h r := by
  refine Ev.same rfl hn ?_
  intro p e R s m args below meth c T locs cells slots X hx hZ hown hby hml hLm hfr hlo hR
  obtain ⟨-, -, h3⟩ := hR.2.2.2 i _ hi
  obtain ⟨T', X', e', st⟩ := getF X hx hZ hown (host := "") (Or.inl w) Via.refl rfl (h3 j n d ty v hF hv) (g := mkF m pc (arL G L) ((Value.ref i :: S).map (tr G))) rfl rfl (hb hby hd)
  exact ⟨T', X', e', st⟩
def mput : FieldType → Value → Option Value
  | .int, .int z => some (.int z)
  | .boolean, .int z => some (.int (z &&& 1))
  | .array _, .ref a => some (.ref a)
  | _, _ => none
theorem mput_spec {G : Ctx} {ty : FieldType} {v v' : Value} (h : mput ty v = some v') : narrow ty (tr G v) = tr G v' ∧ fits ty (tr G v') = true := by
  unfold mput at h
  split at h
  · cases h; exact ⟨rfl, rfl⟩
  · cases h; exact ⟨rfl, fits_nar_bool _⟩
  · cases h; exact ⟨rfl, rfl⟩
  · cases h
theorem Ev.putfield {idx j i : Nat} {n d : String} {ty : FieldType} {fs : List Value} {v v' : Value} (K : GOk G) (w : (Jvm.Cond.fieldLink (mN M).cls idx (gC G) n d).before (gA G) (gZ G) = true)
    (wl : (Jvm.Cond.lays (gC G) (gC G) n d).before (gA G) (gZ G) = true ∨ ((Jvm.Cond.laysFinal (gC G) (gC G) n d).before (gA G) (gZ G) = true ∧ (mN M).cls = gC G ∧ (mN M).name = "<init>"))
    (hd : decode (mB M) pc = .ok (.putfield idx, 3)) (hF : (gF G)[j]? = some (n, d, ty)) (hk : k0 G ≤ i) (hi : h[i]? = some (.inl fs)) (hp : mput ty v = some v') (hn : Ev G M (pc + 3) L S (h.set i (.inl (fs.set j v'))) r) : Ev G M pc L (v :: .ref i :: S) h r := by
  have hs := hsl_set (gK G) h i (.inl fs) (.inl (fs.set j v')) hi rfl
  refine Ev.gen (by rw [List.length_set]; exact Nat.le_refl _) (by rw [hs]; exact Nat.le_refl _) rfl hn ?_
  intro p e R s m args below meth c T locs cells slots X hx hZ hown hby hml hnm hLm hfr hlo hsz hR hFr hc hsq
  obtain ⟨e1, e2, e3⟩ := hR.2.2.2 i _ hi
  obtain ⟨q1, q2⟩ := mput_spec (G := G) hp
  have hlt : j < fs.length := by rw [e2]; exact (List.getElem?_eq_some_iff.mp hF).1
  have F := e3 j n d ty _ hF (List.getElem?_eq_getElem hlt)
  obtain ⟨T', h', X', eT', W, st⟩ := putFN X hx hZ hown w Via.refl rfl F e1 (wl.imp id fun ⟨a, b, c⟩ => ⟨a, b, by rw [hnm]; exact c⟩) K.2.2.1 (K.1 j n d ty hF).2 q1 q2 (g := mkF m pc (arL G L) ((v :: Value.ref i :: S).map (tr G))) rfl rfl (hb hby hd)
  refine ⟨T', _, ?_, ?_, Fr.snoc X' hFr (rho_ge hk), st⟩
  · rw [hs, List.length_set, Nat.sub_self, Nat.sub_self, Nat.add_zero, Nat.add_zero]; exact X'
  · rw [eT']; exact hR.wrFld K hi hF W
/-! ### arrays -/
theorem get_arr {xs : List Int32} {c : Cell} (hs : c.slots = (xs.map Value.int).toArray) (k : Nat) : c.slots[k]? = (xs[k]?).map Value.int := by rw [hs]; simp
theorem arr_size {xs : List Int32} {c : Cell} (hs : c.slots = (xs.map Value.int).toArray) : c.slots.size = xs.length := by rw [hs]; simp
theorem Ev.arraylength {i : Nat} {b : Bool} {xs : List Int32} (hd : decode (mB M) pc = .ok (.arraylength, 1)) (hi : h[i]? = some (.inr (b, xs))) (hn : Ev G M (pc + 1) L (.int xs.length.toInt32 :: S) h r) : Ev G M pc L (.ref i :: S) h r := by
  refine Ev.same rfl hn ?_
  intro p e R s m args below meth c T locs cells slots X hx hZ hown hby hml hLm hfr hlo hR
  obtain ⟨cl, A, hs⟩ := hR.2.2.2 i _ hi
  refine ⟨T, X, rfl, fun target k => X.arraylength hx A.1 (State.isArrayOf_alike hZ.alike A.2.1) (g := mkF m pc (arL G L) ((Value.ref i :: S).map (tr G))) rfl rfl (hb hby hd) target ?_⟩
  rw [arr_size hs]; exact k
theorem Ev.iaload {i : Nat} {xs : List Int32} {j v : Int32} (hd : decode (mB M) pc = .ok (.iaload, 1)) (hi : h[i]? = some (.inr (false, xs))) (hj : ¬ j < 0) (hv : xs[j.toNatClampNeg]? = some v) (hn : Ev G M (pc + 1) L (.int v :: S) h r) : Ev G M pc L (.int j :: .ref i :: S) h r := by
  refine Ev.same rfl hn ?_
  intro p e R s m args below meth c T locs cells slots X hx hZ hown hby hml hLm hfr hlo hR
  obtain ⟨cl, A, hs⟩ := hR.2.2.2 i _ hi
  have hlt := (List.getElem?_eq_some_iff.mp hv).1
  exact ⟨T, X, rfl, fun target k => X.iaload hx A.1 (State.isArrayOf_alike hZ.alike A.2.1) A.2.2 (fun q => q.elim hj fun q => absurd (arr_size hs ▸ q) (Nat.not_le.mpr hlt)) (by rw [get_arr hs, hv]; rfl) (g := mkF m pc (arL G L) ((Value.int j :: Value.ref i :: S).map (tr G))) rfl rfl (hb hby hd) target k⟩
theorem Ev.baload {i : Nat} {xs : List Int32} {j v : Int32} (hd : decode (mB M) pc = .ok (.baload, 1)) (hi : h[i]? = some (.inr (true, xs))) (hj : ¬ j < 0) (hv : xs[j.toNatClampNeg]? = some v) (hn : Ev G M (pc + 1) L (.int v :: S) h r) : Ev G M pc L (.int j :: .ref i :: S) h r := by
  refine Ev.same rfl hn ?_
  intro p e R s m args below meth c T locs cells slots X hx hZ hown hby hml hLm hfr hlo hR
  obtain ⟨cl, A, hs⟩ := hR.2.2.2 i _ hi
  have hlt := (List.getElem?_eq_some_iff.mp hv).1
  exact ⟨T, X, rfl, fun target k => X.baloadBooleans hx A.1 (State.isArrayOf_alike hZ.alike A.2.1) A.2.2 (fun q => q.elim hj fun q => absurd (arr_size hs ▸ q) (Nat.not_le.mpr hlt)) (by rw [get_arr hs, hv]; rfl) (g := mkF m pc (arL G L) ((Value.int j :: Value.ref i :: S).map (tr G))) rfl rfl (hb hby hd) target k⟩
theorem Ev.iastore {i : Nat} {xs : List Int32} {j v : Int32} (hd : decode (mB M) pc = .ok (.iastore, 1)) (hk : k0 G ≤ i) (hi : h[i]? = some (.inr (false, xs))) (hj : ¬ j < 0) (hlt : j.toNatClampNeg < xs.length) (hn : Ev G M (pc + 1) L S (h.set i (.inr (false, xs.set j.toNatClampNeg v))) r) : Ev G M pc L (.int v :: .int j :: .ref i :: S) h r := by
  have hs := hsl_set (gK G) h i (.inr (false, xs)) (.inr (false, xs.set j.toNatClampNeg v)) hi (by simp [csl])
  refine Ev.gen (by rw [List.length_set]; exact Nat.le_refl _) (by rw [hs]; exact Nat.le_refl _) rfl hn ?_
  intro p e R s m args below meth c T locs cells slots X hx hZ hown hby hml hnm hLm hfr hlo hsz hR hFr hc hsq
  obtain ⟨cl, A, hsz'⟩ := hR.2.2.2 i _ hi
  obtain ⟨T', h', X', eT', W, st⟩ := stI X hx hZ rfl A (j := j) (x := v) (fun q => q.elim hj fun q => absurd (arr_size hsz' ▸ q) (Nat.not_le.mpr hlt)) (g := mkF m pc (arL G L) ((Value.int v :: Value.int j :: Value.ref i :: S).map (tr G))) rfl rfl (hb hby hd)
  refine ⟨T', _, ?_, ?_, Fr.snoc X' hFr (rho_ge hk), st⟩
  · rw [hs, List.length_set, Nat.sub_self, Nat.sub_self, Nat.add_zero, Nat.add_zero]; exact X'
  · rw [eT']; exact hR.wrArr hi W
theorem Ev.bastore {i : Nat} {xs : List Int32} {j v : Int32} (hd : decode (mB M) pc = .ok (.bastore, 1)) (hk : k0 G ≤ i) (hi : h[i]? = some (.inr (true, xs))) (hj : ¬ j < 0) (hlt : j.toNatClampNeg < xs.length) (hn : Ev G M (pc + 1) L S (h.set i (.inr (true, xs.set j.toNatClampNeg (v &&& 1)))) r) : Ev G M pc L (.int v :: .int j :: .ref i :: S) h r := by
  have hs := hsl_set (gK G) h i (.inr (true, xs)) (.inr (true, xs.set j.toNatClampNeg (v &&& 1))) hi (by simp [csl])
  refine Ev.gen (by rw [List.length_set]; exact Nat.le_refl _) (by rw [hs]; exact Nat.le_refl _) rfl hn ?_
  intro p e R s m args below meth c T locs cells slots X hx hZ hown hby hml hnm hLm hfr hlo hsz hR hFr hc hsq
  obtain ⟨cl, A, hsz'⟩ := hR.2.2.2 i _ hi
  obtain ⟨T', h', X', eT', W, st⟩ := stZ X hx hZ rfl A (j := j) (x := v) (fun q => q.elim hj fun q => absurd (arr_size hsz' ▸ q) (Nat.not_le.mpr hlt)) (g := mkF m pc (arL G L) ((Value.int v :: Value.int j :: Value.ref i :: S).map (tr G))) rfl rfl (hb hby hd)
  refine ⟨T', _, ?_, ?_, Fr.snoc X' hFr (rho_ge hk), st⟩
  · rw [hs, List.length_set, Nat.sub_self, Nat.sub_self, Nat.add_zero, Nat.add_zero]; exact X'
  · rw [eT']; exact hR.wrArr hi W
/-! ### making -/
theorem Ev.new {idx : Nat} {fs : List Value} (K : GOk G) (w : (Jvm.Cond.classLink (mN M).cls idx (gC G)).before (gA G) (gZ G) = true) (hd : decode (mB M) pc = .ok (.new idx, 3)) (hf : fs = (gF G).map fun f => defaultValue f.2.2)
    (hn : Ev G M (pc + 3) L (.ref h.length :: S) (h ++ [.inl fs]) r) : Ev G M pc L S h r := by
  subst hf
  have hs := hsl_push (gK G) h (.inl ((gF G).map fun f => defaultValue f.2.2))
  refine Ev.gen (by simp) (by rw [hs]; exact Nat.le_add_right _ _) rfl hn ?_
  intro p e R s m args below meth c T locs cells slots X hx hZ hown hby hml hnm hLm hfr hlo hsz hR hFr hc hsq
  have el : (h ++ [(.inl ((gF G).map fun f => defaultValue f.2.2) : MCell)]).length - h.length = 1 := by simp
  have es : hsl (gK G) (h ++ [.inl ((gF G).map fun f => defaultValue f.2.2)]) - hsl (gK G) h = gK G := by rw [hs]; simp [csl]
  rw [el] at hc
  rw [es] at hsq
  obtain ⟨T', h', X', eT', E, A, D, -, st⟩ := newO X hx hZ hown w K.2.2.1 K.2.2.2 rfl (g := mkF m pc (arL G L) (S.map (tr G))) rfl (hb hby hd) hc hsq
  rw [el, es]
  have hrho : rho G h.length = T.heap.size := by rw [rho_new hR.2.1]; have := hR.1; have := hR.2.1; omega
  refine ⟨T', _, X', ?_, hFr, fun target k => st target ?_⟩
  · rw [eT']
    refine hR.push E ?_ ⟨A, by simp, fun j n d ty v hf hv => ?_⟩
    · have h1 := X'.heapSize
      have h2 : T.heap.size < h'.size := A.lt
      rw [eT'] at h1
      omega
    · rw [List.getElem?_map, hf] at hv
      cases hv
      have := D (K.1 j n d ty hf).1 (K.1 j n d ty hf).2
      have e : tr G (defaultValue ty) = defaultValue ty := by cases ty <;> rfl
      rw [e]; exact this
  · rw [← hrho]; exact k
theorem Ev.newarray {aty : ArrayType} {b : Bool} {n : Int32} {k : Nat} (w : (Jvm.Cond.arrayClass (newarray.typeOf aty)).before (gA G) (gZ G) = true) (hb' : newarray.typeOf aty = kd b) (hd : decode (mB M) pc = .ok (.newarray aty, 2)) (hn0 : ¬ n < 0) (hk : n.toNatClampNeg = k) (hcap : k ≤ 67108864)
    (hn : Ev G M (pc + 2) L (.ref h.length :: S) (h ++ [.inr (b, List.replicate k 0)]) r) : Ev G M pc L (.int n :: S) h r := by
  subst hk
  have hs := hsl_push (gK G) h (.inr (b, List.replicate n.toNatClampNeg 0))
  refine Ev.gen (by simp) (by rw [hs]; exact Nat.le_add_right _ _) rfl hn ?_
  intro p e R s m args below meth c T locs cells slots X hx hZ hown hby hml hnm hLm hfr hlo hsz hR hFr hc hsq
  have el : (h ++ [(.inr (b, List.replicate n.toNatClampNeg 0) : MCell)]).length - h.length = 1 := by simp
  have es : hsl (gK G) (h ++ [.inr (b, List.replicate n.toNatClampNeg 0)]) - hsl (gK G) h = n.toNatClampNeg := by rw [hs]; simp [csl]
  rw [el] at hc
  rw [es] at hsq
  obtain ⟨T', h', cA, X', eT', E, A, st⟩ := newP X hx hZ w rfl (g := mkF m pc (arL G L) ((Value.int n :: S).map (tr G))) rfl (hb hby hd) rfl hn0 (cap := n.toNatClampNeg) (Nat.le_refl _) (by omega) hc hsq
  rw [el, es]
  have hrho : rho G h.length = T.heap.size := by rw [rho_new hR.2.1]; have := hR.1; have := hR.2.1; omega
  refine ⟨T', _, X', ?_, hFr, fun target k => st target ?_⟩
  · rw [eT']
    refine hR.push E ?_ ⟨_, hb' ▸ A, ?_⟩
    · have h1 := X'.heapSize
      have h2 : T.heap.size < h'.size := A.lt
      rw [eT'] at h1
      omega
    · have e0 : defaultValue (kd b) = .int 0 := by cases b <;> rfl
      show Array.replicate n.toNatClampNeg (defaultValue (kd b)) = _
      rw [e0]
      simp
  · rw [← hrho]; exact k
theorem Ev.initO {idx i : Nat} (w1 : (Jvm.Cond.methodLink (mN M).cls idx Lib.objectInit).before (gA G) (gZ G) = true) (w2 : (Jvm.Cond.instanceMethod Lib.objectInit).before (gA G) (gZ G) = true) (w3 : (Jvm.Cond.code Lib.objectInit ⟨#[0xb1]⟩ 1 none).before (gA G) (gZ G) = true)
    (hd : decode (mB M) pc = .ok (.invokespecial idx, 3)) (hf : 1 ≤ mF M) (hl : (S.map fun v => v.category).sum + 12 ≤ mW M) (hn : Ev G M (pc + 3) L S h r) : Ev G M pc L (.ref i :: S) h r := by
  refine Ev.same rfl hn ?_
  intro p e R s m args below meth c T locs cells slots X hx hZ hown hby hml hLm hfr hlo hR
  obtain ⟨T', X', e', st⟩ := RoadKit.initO X hx hZ hown w1 w2 w3 rfl (g := mkF m pc (arL G L) ((Value.ref i :: S).map (tr G))) rfl (by rw [hml, ← hLm]; simp [arL]) (a := rho G i) (rest := S.map (tr G)) rfl (hb hby hd) (Nat.le_trans hf hfr) (W := (S.map fun v => v.category).sum) (by rw [tr_cats]; show 2 * 0 + _ ≤ _; omega) (by omega)
  exact ⟨T', X', e', st⟩
/-! ### calls -/
def notMH (y : Mi) : Prop := (mN y).cls ≠ "java/lang/invoke/MethodHandle" ∧ (mN y).cls ≠ "java/lang/invoke/VarHandle"
theorem mapRev (G : Ctx) (args : List Value) : (args.reverse).map (tr G) = (args.map (tr G)).reverse := by simp
theorem vList (G : Ctx) (v : Option Value) (S : List Value) : (v.map (tr G)).toList ++ S.map (tr G) = (v.toList ++ S).map (tr G) := by cases v <;> simp
theorem back_of_evc {p : Program} {e : Env} {R : Room} {s : State} {args0 : Array Value} {below : List Frame} {y : Mi} {args : List Value} {r1 : Option Value × MHeap} {hr : Heap} {W : Nat} (hC : EvC G y args h r1) (hR : Rel G hr h) (hZ : (gZ G).Warmed39 s.vm)
    (wc : (Jvm.Cond.code (mN y) (mB y) (mL y) (mR y)).before (gA G) (gZ G) = true) (wz : (Jvm.Cond.initialized (mN y).cls).before (gA G) (gZ G) = true) (hf : mF y + 1 ≤ R.frames) (hl : W + (mL y + 11) + mW y ≤ R.locals) :
    Back (gL G) R p e below s args0 (mN y) 3 W (fun A a => a = (args.map (tr G)).toArray ∧ A.U.heap = hr ∧ A.cells + (r1.2.length - h.length) ≤ R.cells ∧ A.slots + (hsl (gK G) r1.2 - hsl (gK G) h) ≤ R.slots)
      (fun A _ v B => ∃ L, (v = r1.1.map (tr G) ∧ Fr (gN G) L ∧ Rel G B.U.heap r1.2) ∧ B.locs = A.locs ++ L ∧ B.cells = A.cells + (r1.2.length - h.length) ∧ B.slots = A.slots + (hsl (gK G) r1.2 - hsl (gK G) h)) :=
  backOf (Q := fun v hp L => v = r1.1.map (tr G) ∧ Fr (gN G) L ∧ Rel G hp r1.2) (rm := { frames := mF y, cells := r1.2.length - h.length, slots := hsl (gK G) r1.2 - hsl (gK G) h, locals := mW y })
    (hC.2 [] { frames := mF y, cells := r1.2.length - h.length, slots := hsl (gK G) r1.2 - hsl (gK G) h, locals := mW y } hr (Nat.le_refl _) (Nat.le_refl _) (Nat.le_refl _) (Nat.le_refl _) hR) hZ wc wz hf hl
/-- a private method of the class -/
theorem Ev.priv {y : Mi} {idx i : Nat} {args rest : List Value} {v : Option Value} {h1 : MHeap} {fs : List Value} (K : GOk G) (hcls : (mN y).cls = gC G) (hy : notMH y)
    (wl : (Jvm.Cond.methodLink (mN M).cls idx (mN y)).before (gA G) (gZ G) = true) (wi : (Jvm.Cond.instanceMethod (mN y)).before (gA G) (gZ G) = true) (wp : (Jvm.Cond.privateMethod (mN y)).before (gA G) (gZ G) = true)
    (wc : (Jvm.Cond.code (mN y) (mB y) (mL y) (mR y)).before (gA G) (gZ G) = true) (hlen : ∀ sig, parseMethodDescriptor (mN y).desc = some sig → args.length = sig.parameters.length)
    (hd : decode (mB M) pc = .ok (.invokevirtual idx, 3)) (hi : h[i]? = some (.inl fs)) (hC : EvC G y (.ref i :: args) h (v, h1)) (hfr : mF y + 1 ≤ mF M) (hlo : (rest.map fun v => v.category).sum + (mL y + 11) + mW y ≤ mW M)
    (hS : S = args.reverse ++ .ref i :: rest) (hn : Ev G M (pc + 3) L (v.toList ++ rest) h1 r) : Ev G M pc L S h r := by
  subst hS
  refine Ev.gen hC.1.1 hC.1.2 rfl hn ?_
  intro p e R s m args0 below meth c T locs cells slots X hx hZ hown hby hml hnm hLm hfr' hlo' hsz hR hFr hc hsq
  obtain ⟨e1, -, -⟩ := hR.2.2.2 i _ hi
  obtain ⟨cell, hcell, hobj⟩ := e1.cell
  have hwi : (Jvm.Cond.instanceMethod (mN y)).before args0 s = true := mvT hZ wi
  have hpr := Jvm.Cond.privateMethod_at (mvP hZ wp (args := #[]))
  have hsel : (Jvm.Cond.selects (mN y).cls (mN y) (mN y)).before args0 s = true := by
    obtain ⟨c0, k0', q1, q2, -, q4, -⟩ := Jvm.Cond.instantiable_spec (mvT hZ K.2.2.1 (args := #[]) (s := s))
    refine selects_self_of_private (c := c0) (k := k0') (by rw [hcls]; exact q1) q2 ?_ hpr hwi hy
    simp only [Bool.or_eq_false_iff] at q4
    exact q4.1
  obtain ⟨v', vm1, ⟨T', L', k', n'⟩, -, X', ⟨Lc, ⟨rfl, hF', hR'⟩, l1, l2, l3⟩, st⟩ := X.privateBack hx (y := mN y) hown (mvT hZ wl) hwi hsel hpr (mvT hZ wc) hy
    (back_of_evc (W := (rest.map fun v => v.category).sum) hC hR hZ wc (hcls ▸ K.2.2.2) (Nat.le_trans hfr hfr') (Nat.le_trans hlo hlo')) (g := mkF m pc (arL G L) ((args.reverse ++ Value.ref i :: rest).map (tr G))) rfl (by rw [hml, ← hLm]; simp [arL]) (Steps.refl _) hcell hobj
    (argsL := args.map (tr G)) (rest := rest.map (tr G)) (fun sig hsig => by rw [List.length_map]; exact hlen sig hsig) (by simp [tr]) (by rw [tr_cats]; show 2 * 0 + _ ≤ _; omega) (hb hby hd) (fun vm1 hW1 => ⟨rfl, rfl, hc, hsq⟩)
  dsimp only [Pt.U, Pt.locs, Pt.cells, Pt.slots] at X' l1 l2 l3 st hR'
  subst l1 l2 l3
  refine ⟨T', _, X', hR', hFr.app hF', fun target k => st.trans ?_⟩
  rw [vList]
  exact k
/-- a method of the class that no one overrides -/
theorem Ev.virt {y : Mi} {idx i : Nat} {args rest : List Value} {v : Option Value} {h1 : MHeap} {fs : List Value} (K : GOk G) (hcls : (mN y).cls = gC G) (hy : notMH y)
    (wl : (Jvm.Cond.methodLink (mN M).cls idx (mN y)).before (gA G) (gZ G) = true) (wd : (Jvm.Cond.declares (mN y)).before (gA G) (gZ G) = true) (wi : (Jvm.Cond.instanceMethod (mN y)).before (gA G) (gZ G) = true) (ws : (Jvm.Cond.selects (gC G) (mN y) (mN y)).before (gA G) (gZ G) = true)
    (wc : (Jvm.Cond.code (mN y) (mB y) (mL y) (mR y)).before (gA G) (gZ G) = true) (hlen : ∀ sig, parseMethodDescriptor (mN y).desc = some sig → args.length = sig.parameters.length)
    (hd : decode (mB M) pc = .ok (.invokevirtual idx, 3)) (hi : h[i]? = some (.inl fs)) (hC : EvC G y (.ref i :: args) h (v, h1)) (hfr : mF y + 1 ≤ mF M) (hlo : (rest.map fun v => v.category).sum + (mL y + 11) + mW y ≤ mW M)
    (hS : S = args.reverse ++ .ref i :: rest) (hn : Ev G M (pc + 3) L (v.toList ++ rest) h1 r) : Ev G M pc L S h r := by
  subst hS
  refine Ev.gen hC.1.1 hC.1.2 rfl hn ?_
  intro p e R s m args0 below meth c T locs cells slots X hx hZ hown hby hml hnm hLm hfr' hlo' hsz hR hFr hc hsq
  obtain ⟨e1, -, -⟩ := hR.2.2.2 i _ hi
  obtain ⟨cq, kq, qa, qb, qc⟩ := isOf (T := T) hZ rfl e1
  obtain ⟨v', vm1, ⟨T', L', k', n'⟩, -, X', ⟨Lc, ⟨rfl, hF', hR'⟩, l1, l2, l3⟩, st⟩ := X.virtualBack hx (y := mN y) (z := mN y) hown (mvT hZ wl) (mvT hZ wd) (notFace_of_selects (args := #[]) (mvT hZ ws)) (mvT hZ ws) (mvT hZ wi) hy
    (back_of_evc (W := (rest.map fun v => v.category).sum) hC hR hZ wc (hcls ▸ K.2.2.2) (Nat.le_trans hfr hfr') (Nat.le_trans hlo hlo')) qa qc (g := mkF m pc (arL G L) ((args.reverse ++ Value.ref i :: rest).map (tr G))) rfl (by rw [hml, ← hLm]; simp [arL]) (Steps.refl _)
    (argsL := args.map (tr G)) (rest := rest.map (tr G)) (fun sig hsig => by rw [List.length_map]; exact hlen sig hsig) (by simp [tr]) (by rw [tr_cats]; show 2 * 0 + _ ≤ _; omega) (hb hby hd) (fun vm1 hW1 => ⟨rfl, rfl, hc, hsq⟩)
  dsimp only [Pt.U, Pt.locs, Pt.cells, Pt.slots] at X' l1 l2 l3 st hR'
  subst l1 l2 l3
  refine ⟨T', _, X', hR', hFr.app hF', fun target k => st.trans ?_⟩
  rw [vList]
  exact k
/-- a constructor -/
theorem Ev.ctor {y : Mi} {idx i : Nat} {args rest : List Value} {v : Option Value} {h1 : MHeap} (hy1 : (mN y).name = "<init>") (hret : mR y = none) (hy : notMH y)
    (wl : (Jvm.Cond.methodLink (mN M).cls idx (mN y)).before (gA G) (gZ G) = true) (wi : (Jvm.Cond.instanceMethod (mN y)).before (gA G) (gZ G) = true)
    (wc : (Jvm.Cond.code (mN y) (mB y) (mL y) (mR y)).before (gA G) (gZ G) = true) (wz : (Jvm.Cond.initialized (mN y).cls).before (gA G) (gZ G) = true) (hlen : ∀ sig, parseMethodDescriptor (mN y).desc = some sig → args.length = sig.parameters.length)
    (hd : decode (mB M) pc = .ok (.invokespecial idx, 3)) (hC : EvC G y (.ref i :: args) h (v, h1)) (hfr : mF y + 1 ≤ mF M) (hlo : (rest.map fun v => v.category).sum + (mL y + 11) + mW y ≤ mW M)
    (hS : S = args.reverse ++ .ref i :: rest) (hn : Ev G M (pc + 3) L (v.toList ++ rest) h1 r) : Ev G M pc L S h r := by
  subst hS
  refine Ev.gen hC.1.1 hC.1.2 rfl hn ?_
  intro p e R s m args0 below meth c T locs cells slots X hx hZ hown hby hml hnm hLm hfr' hlo' hsz hR hFr hc hsq
  obtain ⟨v', vm1, ⟨T', L', k', n'⟩, -, X', ⟨Lc, ⟨rfl, hF', hR'⟩, l1, l2, l3⟩, st⟩ := X.specialBack hx (y := mN y) hy1 hown (mvT hZ wl) (mvT hZ wi) (mvT hZ (hret ▸ wc)) hy
    (back_of_evc (W := (rest.map fun v => v.category).sum) hC hR hZ wc wz (Nat.le_trans hfr hfr') (Nat.le_trans hlo hlo')) (g := mkF m pc (arL G L) ((args.reverse ++ Value.ref i :: rest).map (tr G))) rfl (by rw [hml, ← hLm]; simp [arL]) (Steps.refl _)
    (a := rho G i) (argsL := args.map (tr G)) (rest := rest.map (tr G)) (fun sig hsig => by rw [List.length_map]; exact hlen sig hsig) (by simp [tr]) (by rw [tr_cats]; show 2 * 0 + _ ≤ _; omega) (hb hby hd) (fun vm1 hW1 => ⟨rfl, rfl, hc, hsq⟩)
  dsimp only [Pt.U, Pt.locs, Pt.cells, Pt.slots] at X' l1 l2 l3 st hR'
  subst l1 l2 l3
  refine ⟨T', _, X', hR', hFr.app hF', fun target k => st.trans ?_⟩
  rw [vList]
  exact k
/-- a static method -/
theorem Ev.stat {y : Mi} {idx : Nat} {args rest : List Value} {v : Option Value} {h1 : MHeap} (hy : notMH y)
    (wl : (Jvm.Cond.methodLink (mN M).cls idx (mN y)).before (gA G) (gZ G) = true) (wst : (Jvm.Cond.static (mN y)).before (gA G) (gZ G) = true) (wz : (Jvm.Cond.initialized (mN y).cls).before (gA G) (gZ G) = true)
    (wc : (Jvm.Cond.code (mN y) (mB y) (mL y) (mR y)).before (gA G) (gZ G) = true) (hlen : ∀ sig, parseMethodDescriptor (mN y).desc = some sig → args.length = sig.parameters.length)
    (hd : decode (mB M) pc = .ok (.invokestatic idx, 3)) (hC : EvC G y args h (v, h1)) (hfr : mF y + 1 ≤ mF M) (hlo : (rest.map fun v => v.category).sum + (mL y + 11) + mW y ≤ mW M)
    (hS : S = args.reverse ++ rest) (hn : Ev G M (pc + 3) L (v.toList ++ rest) h1 r) : Ev G M pc L S h r := by
  subst hS
  refine Ev.gen hC.1.1 hC.1.2 rfl hn ?_
  intro p e R s m args0 below meth c T locs cells slots X hx hZ hown hby hml hnm hLm hfr' hlo' hsz hR hFr hc hsq
  obtain ⟨v', vm1, ⟨T', L', k', n'⟩, -, X', ⟨Lc, ⟨rfl, hF', hR'⟩, l1, l2, l3⟩, st⟩ := Jvm.LawKit.callS X hx (y := mN y) hown (mvT hZ wl) (mvT hZ wst) (mvT hZ wz) (mvT hZ wc) hy
    (back_of_evc (W := (rest.map fun v => v.category).sum) hC hR hZ wc wz (Nat.le_trans hfr hfr') (Nat.le_trans hlo hlo')) (g := mkF m pc (arL G L) ((args.reverse ++ rest).map (tr G))) rfl (by rw [hml, ← hLm]; simp [arL])
    (argsL := args.map (tr G)) (rest := rest.map (tr G)) (fun sig hsig => by rw [List.length_map]; exact hlen sig hsig) (by simp) (by rw [tr_cats]; show 2 * 0 + _ ≤ _; omega) (hb hby hd) (fun vm1 hW1 => ⟨rfl, rfl, hc, hsq⟩)
  dsimp only [Pt.U, Pt.locs, Pt.cells, Pt.slots] at X' l1 l2 l3 st hR'
  subst l1 l2 l3
  refine ⟨T', _, X', hR', hFr.app hF', fun target k => st target ?_⟩
  rw [vList]
  exact k
/-! ### returns -/
theorem Ev.ret {v : Option Value} (st : ∀ {p : Program} {e : Env} {R : Room} {s : State} {m : MethodId} {args : Array Value} {below : List Frame} {meth : Method} {c : Code} {T : State} {locs : List Loc} {cells slots : Nat},
      Stand p (gL G) e R s m args below meth c T locs cells slots → p.tables.exec = Jvm.exec → c.code = mB M → meth.sig.returnType = mR M → ∀ fs,
      (∀ (f : JFrame) (acts : List Action), f.method = m → f.locked = none → f.entered = [] → (doReturn e (T.setTop f) acts (v.map (tr G))).1 = T.setFrames fs) → Steps p.tables e below (T.setTop (mkF m pc (arL G L) (S.map (tr G)))) (T.setFrames fs)) :
    Ev G M pc L S h (v, h) := by
  refine ⟨⟨Nat.le_refl _, Nat.le_refl _⟩, ?_⟩
  intro p e R s m args below meth c T locs cells slots X hx hZ hown hby hml hret hnm hLm hfr hlo hsz hR hF hc hs
  refine ⟨T, locs, ?_, hR, hF, st X hx hby hret⟩
  rw [Nat.sub_self, Nat.sub_self, Nat.add_zero, Nat.add_zero]
  exact X
theorem Ev.ireturn {z : Int32} (hret : mR M = some .int) (hd : decode (mB M) pc = .ok (.ireturn, 1)) : Ev G M pc L (.int z :: S) h (some (.int z), h) :=
  Ev.ret fun X hx hby hr fs hl => retOut X hx (hr.trans hret) rfl (Or.inl ⟨rfl, Or.inl rfl, z, rfl⟩) (hb hby hd) hl
theorem Ev.zreturn {z : Int32} (hret : mR M = some .boolean) (hd : decode (mB M) pc = .ok (.ireturn, 1)) : Ev G M pc L (.int z :: S) h (some (.int (z &&& 1)), h) :=
  Ev.ret fun X hx hby hr fs hl => retN X hx (t := .boolean) (hr.trans hret) (Or.inl rfl) (hb hby hd) hl
theorem Ev.lreturn {z : Int64} (hret : mR M = some .long) (hd : decode (mB M) pc = .ok (.lreturn, 1)) : Ev G M pc L (.long z :: S) h (some (.long z), h) :=
  Ev.ret fun X hx hby hr fs hl => retOut X hx (hr.trans hret) rfl (Or.inr (Or.inl ⟨rfl, rfl, z, rfl⟩)) (hb hby hd) hl
theorem Ev.vreturn (hret : mR M = none) (hd : decode (mB M) pc = .ok (.return_, 1)) : Ev G M pc L [] h (none, h) :=
  Ev.ret fun X hx hby hr fs hl => X.returnOut hx (hr.trans hret) (hb hby hd) hl
/-! ### entering -/
def margs : List Value → List Slot
  | [] => []
  | v :: vs => if v.category = 2 then .val v :: .second :: margs vs else .val v :: margs vs
theorem margs_fold (vs : List Value) : ∀ acc : Array Slot, vs.foldl (init := acc) (fun acc v => if v.category = 2 then (acc.push (.val v)).push .second else acc.push (.val v)) = acc ++ (margs vs).toArray := by
  induction vs with
  | nil => intro acc; simp [margs]
  | cons v vs ih =>
    intro acc
    rw [List.foldl_cons, ih]
    by_cases h : v.category = 2
    · simp [margs, h]
    · simp [margs, h]
theorem margs_map (G : Ctx) : ∀ vs : List Value, margs (vs.map (tr G)) = (margs vs).map (trS G)
  | [] => rfl
  | v :: vs => by
    have ih := margs_map G vs
    by_cases h : v.category = 2
    · simp only [List.map_cons, margs, tr_cat, h, if_true, ih]; rfl
    · simp only [List.map_cons, margs, tr_cat, h, if_false, ih]; rfl
def ment (args : List Value) (k : Nat) : List Slot := margs args ++ List.replicate (k - (margs args).length) .unset
theorem entry_eq (G : Ctx) (m : MethodId) (args : List Value) (k : Nat) : entryFrame m (args.map (tr G)).toArray k = mkF m 0 (arL G (ment args k)) [] := by
  have e : argsToLocals (args.map (tr G)).toArray k = arL G (ment args k) := by
    unfold argsToLocals arL ment
    have q := margs_fold (args.map (tr G)) #[]
    rw [List.foldl_toArray']
    · rw [q, margs_map]
      simp [trS]
    · simp
  unfold entryFrame
  rw [e]
theorem EvC.enter {y : Mi} {args : List Value} {L0 : List Slot} (hp : plainFor (mN y) = true) (hv : mR y = none → r.1 = none) (hL : ment args (mL y) = L0) (hlen : L0.length = mL y) (hn : Ev G y 0 L0 [] h r) : EvC G y args h r := by
  subst hL
  refine ⟨hn.1, fun ws R hr hf hl hc hs hR => ?_⟩
  refine MetFree.of_bodySF hp hisR ?_
  intro p e s m args' below meth c s₁ Bd hml0 hP hK
  obtain ⟨rfl, hZ, hh⟩ := hP
  have X0 : Stand p (gL G) e R s m _ below meth c s₁ [] 0 0 := Stand.of_body Bd
  have e0 : s₁.heap = hr := by rw [← hh, Bd.state]; rfl
  obtain ⟨T', locs', X', R', F', st⟩ := hn.2 p e R s m _ below meth c s₁ [] 0 0 X0 Bd.exec hZ (findClass_of_methodNamed Bd.named) Bd.bytes hml0 Bd.returns (name_of_methodNamed Bd.named Bd.method).1 hlen hf hl (by rw [e0, hh]; rfl) (by rw [e0]; exact hR) (Fr.nil _) (by omega) (by omega)
  rw [Nat.zero_add, Nat.zero_add] at X'
  obtain ⟨fs, hret, hrun, hended, hW, hsame⟩ := X'.leave (v := r.1.map (tr G)) (fun q => by rw [hv (Bd.returns.symm.trans q)]; rfl)
  refine ⟨_, _, castTop (entry_eq G m args (mL y)) (st fs hret), hrun, hended, _, _, rfl, ⟨rfl, F', ?_⟩, ⟨_, rfl⟩, hW, hsame⟩
  exact R'
end Rules
end Jvm.Own
namespace Jvm.Own
open Sem ClassFile Op Lib Jvm.Stand Jvm.Free Jvm.LawKit Jvm.RoadKit
/-! ## 4. An object as two functions: its ints by the field's number, its arrays by the field's number and the place -/
abbrev St := (Nat → Int32) × (Nat → Nat → Int32)
def setI (s : St) (j : Nat) (z : Int32) : St := (fun k => if k = j then z else s.1 k, s.2)
def setA (s : St) (j i : Nat) (z : Int32) : St := (s.1, fun k x => if k = j ∧ x = i then z else s.2 k x)
def zeroS : St := (fun _ => 0, fun _ _ => 0)
theorem setI_1 (s : St) (j : Nat) (z : Int32) (k : Nat) : (setI s j z).1 k = if k = j then z else s.1 k := rfl
theorem setI_2 (s : St) (j : Nat) (z : Int32) : (setI s j z).2 = s.2 := rfl
theorem setA_1 (s : St) (j i : Nat) (z : Int32) : (setA s j i z).1 = s.1 := rfl
theorem setA_2 (s : St) (j i : Nat) (z : Int32) (k x : Nat) : (setA s j i z).2 k x = if k = j ∧ x = i then z else s.2 k x := rfl
def ix (j : Int32) : Nat := j.toNatClampNeg
/-- the place j lies in an array of n -/
def inb (j : Int32) (n : Nat) : Prop := ¬ j < 0 ∧ ix j < n
instance (j : Int32) (n : Nat) : Decidable (inb j n) := inferInstanceAs (Decidable (_ ∧ _))
def bnd {α β : Type} (x : α) (f : α → β) : β := f x
theorem bnd_eq {α β : Type} (x : α) (f : α → β) : bnd x f = f x := rfl
def tab (n : Nat) (f : Nat → Int32) : List Int32 := (List.range n).map f
theorem tab_len (n : Nat) (f : Nat → Int32) : (tab n f).length = n := by simp [tab]
theorem tab_get {n : Nat} {f : Nat → Int32} {i : Nat} (h : i < n) : (tab n f)[i]? = some (f i) := by simp [tab, h]
theorem tab_set {n : Nat} {f : Nat → Int32} {i : Nat} {z : Int32} : (tab n f).set i z = tab n (fun x => if x = i then z else f x) := by
  apply List.ext_getElem?
  intro k
  rw [List.getElem?_set]
  by_cases h : i = k
  · subst h
    by_cases q : i < n
    · simp [tab, q]
    · simp [tab, q]
  · by_cases q : k < n
    · simp [tab, q, h, Ne.symm h]
    · simp [tab, q, h]
theorem tab_zero (n : Nat) : tab n (fun _ => 0) = List.replicate n 0 := by
  apply List.ext_getElem?
  intro k
  by_cases q : k < n <;> simp [tab, q]
theorem tab_of (xs : List Int32) : xs = tab xs.length (fun i => xs.getD i 0) := by
  apply List.ext_getElem?
  intro k
  by_cases q : k < xs.length
  · simp [tab, q]
  · simp [tab, q]
def isA : FieldType → Bool
  | .array _ => true
  | _ => false
def isB : FieldType → Bool
  | .boolean => true
  | _ => false
def fv1 (r : Nat → Nat) (s : St) (j : Nat) (f : Fd) : Value := match f.2.2 with
  | .array _ => .ref (r j)
  | _ => .int (s.1 j)
def fvA (r : Nat → Nat) (s : St) : Nat → List Fd → List Value
  | _, [] => []
  | j, f :: fs => fv1 r s j f :: fvA r s (j + 1) fs
theorem fvA_get (r : Nat → Nat) (s : St) : ∀ (F : List Fd) (k j : Nat), (fvA r s k F)[j]? = (F[j]?).map (fv1 r s (k + j))
  | [], _, _ => by simp [fvA]
  | f :: fs, k, 0 => by simp [fvA]
  | f :: fs, k, j + 1 => by
    have := fvA_get r s fs (k + 1) j
    simp only [fvA, List.getElem?_cons_succ, this]
    rw [show k + 1 + j = k + (j + 1) by omega]
theorem fvA_len (r : Nat → Nat) (s : St) : ∀ (F : List Fd) (k : Nat), (fvA r s k F).length = F.length
  | [], _ => rfl
  | f :: fs, k => by simp [fvA, fvA_len r s fs (k + 1)]
theorem fvA_set {r : Nat → Nat} {s : St} {F : List Fd} {j : Nat} {f : Fd} {z : Int32} (hF : F[j]? = some f) (ht : isA f.2.2 = false) : (fvA r s 0 F).set j (.int z) = fvA r (setI s j z) 0 F := by
  apply List.ext_getElem?
  intro k
  rw [List.getElem?_set, fvA_get, fvA_get, Nat.zero_add]
  by_cases h : j = k
  · subst h
    simp only [if_true, fvA_len, (List.getElem?_eq_some_iff.mp hF).1, hF, Option.map_some]
    congr 1
    unfold fv1
    split
    · rename_i t e; rw [e] at ht; cases ht
    · simp [setI_1]
  · simp only [h, if_false]
    cases F[k]? with
    | none => rfl
    | some g =>
      simp only [Option.map_some]
      congr 1
      unfold fv1
      split
      · rfl
      · rw [setI_1, if_neg (Ne.symm h)]
theorem fvA_same (r : Nat → Nat) {s s' : St} (h : s.1 = s'.1) : ∀ (F : List Fd) (k : Nat), fvA r s k F = fvA r s' k F
  | [], _ => rfl
  | f :: fs, k => by
    simp only [fvA, fvA_same r h fs (k + 1)]
    congr 1
    unfold fv1
    split
    · rfl
    · rw [h]
/-- the heap K s shows the object at o, its arrays at r, as s tells -/
def View (G : Ctx) (Ln : Nat → Nat) (K : St → MHeap) (o : Nat) (r : Nat → Nat) : Prop :=
  k0 G ≤ o ∧ (∀ s, (K s)[o]? = some (.inl (fvA r s 0 (gF G)))) ∧
  (∀ s j f z, (gF G)[j]? = some f → isA f.2.2 = false → (K s).set o (.inl ((fvA r s 0 (gF G)).set j (.int z))) = K (setI s j z)) ∧
  (∀ j n d t, (gF G)[j]? = some (n, d, .array t) → k0 G ≤ r j ∧ (∀ s, (K s)[r j]? = some (.inr (isB t, tab (Ln j) (s.2 j)))) ∧ ∀ s i z, i < Ln j → (K s).set (r j) (.inr (isB t, (tab (Ln j) (s.2 j)).set i z)) = K (setA s j i z))
section ViewRules
variable {G : Ctx} {M : Mi} {pc : Nat} {L : List Slot} {S : List Value} {rr : Option Value × MHeap} {Ln : Nat → Nat} {K : St → MHeap} {o : Nat} {r : Nat → Nat} {s : St}
theorem Ev.gI {idx j : Nat} {n d : String} {ty : FieldType} (V : View G Ln K o r) (w : (Jvm.Cond.fieldLink (mN M).cls idx (gC G) n d).before (gA G) (gZ G) = true) (hd : decode (mB M) pc = .ok (.getfield idx, 3)) (hF : (gF G)[j]? = some (n, d, ty)) (ht : isA ty = false)
    (hn : Ev G M (pc + 3) L (.int (s.1 j) :: S) (K s) rr) : Ev G M pc L (.ref o :: S) (K s) rr :=
  Ev.getfield w hd hF (V.2.1 s) (v := .int (s.1 j)) (by rw [fvA_get, hF, Nat.zero_add]; simp only [Option.map_some, fv1]; cases ty <;> first | rfl | cases ht) hn
theorem Ev.gAr {idx j : Nat} {n d : String} {t : FieldType} (V : View G Ln K o r) (w : (Jvm.Cond.fieldLink (mN M).cls idx (gC G) n d).before (gA G) (gZ G) = true) (hd : decode (mB M) pc = .ok (.getfield idx, 3)) (hF : (gF G)[j]? = some (n, d, .array t))
    (hn : Ev G M (pc + 3) L (.ref (r j) :: S) (K s) rr) : Ev G M pc L (.ref o :: S) (K s) rr :=
  Ev.getfield w hd hF (V.2.1 s) (v := .ref (r j)) (by rw [fvA_get, hF, Nat.zero_add]; rfl) hn
theorem Ev.pI {idx j : Nat} {n d : String} {z : Int32} (V : View G Ln K o r) (Kk : GOk G) (w : (Jvm.Cond.fieldLink (mN M).cls idx (gC G) n d).before (gA G) (gZ G) = true)
    (wl : (Jvm.Cond.lays (gC G) (gC G) n d).before (gA G) (gZ G) = true ∨ ((Jvm.Cond.laysFinal (gC G) (gC G) n d).before (gA G) (gZ G) = true ∧ (mN M).cls = gC G ∧ (mN M).name = "<init>"))
    (hd : decode (mB M) pc = .ok (.putfield idx, 3)) (hF : (gF G)[j]? = some (n, d, .int)) (hn : Ev G M (pc + 3) L S (K (setI s j z)) rr) : Ev G M pc L (.int z :: .ref o :: S) (K s) rr := by
  refine Ev.putfield Kk w wl hd hF V.1 (V.2.1 s) (v' := .int z) rfl ?_
  rw [V.2.2.1 s j _ z hF rfl]; exact hn
theorem Ev.pZ {idx j : Nat} {n d : String} {z : Int32} (V : View G Ln K o r) (Kk : GOk G) (w : (Jvm.Cond.fieldLink (mN M).cls idx (gC G) n d).before (gA G) (gZ G) = true)
    (wl : (Jvm.Cond.lays (gC G) (gC G) n d).before (gA G) (gZ G) = true ∨ ((Jvm.Cond.laysFinal (gC G) (gC G) n d).before (gA G) (gZ G) = true ∧ (mN M).cls = gC G ∧ (mN M).name = "<init>"))
    (hd : decode (mB M) pc = .ok (.putfield idx, 3)) (hF : (gF G)[j]? = some (n, d, .boolean)) (hn : Ev G M (pc + 3) L S (K (setI s j (z &&& 1))) rr) : Ev G M pc L (.int z :: .ref o :: S) (K s) rr := by
  refine Ev.putfield Kk w wl hd hF V.1 (V.2.1 s) (v' := .int (z &&& 1)) rfl ?_
  rw [V.2.2.1 s j _ _ hF rfl]; exact hn
theorem Ev.ial {j : Nat} {n d : String} {i : Int32} {N : Nat} (V : View G Ln K o r) (hF : (gF G)[j]? = some (n, d, .array .int)) (hN : Ln j = N) (hd : decode (mB M) pc = .ok (.iaload, 1)) (hb : inb i N) (hn : Ev G M (pc + 1) L (.int (s.2 j (ix i)) :: S) (K s) rr) : Ev G M pc L (.int i :: .ref (r j) :: S) (K s) rr :=
  Ev.iaload hd ((V.2.2.2 j n d _ hF).2.1 s) hb.1 (tab_get (hN ▸ hb.2)) hn
theorem Ev.bal {j : Nat} {n d : String} {i : Int32} {N : Nat} (V : View G Ln K o r) (hF : (gF G)[j]? = some (n, d, .array .boolean)) (hN : Ln j = N) (hd : decode (mB M) pc = .ok (.baload, 1)) (hb : inb i N) (hn : Ev G M (pc + 1) L (.int (s.2 j (ix i)) :: S) (K s) rr) : Ev G M pc L (.int i :: .ref (r j) :: S) (K s) rr :=
  Ev.baload hd ((V.2.2.2 j n d _ hF).2.1 s) hb.1 (tab_get (hN ▸ hb.2)) hn
theorem Ev.ias {j : Nat} {n d : String} {i z : Int32} {N : Nat} (V : View G Ln K o r) (hF : (gF G)[j]? = some (n, d, .array .int)) (hN : Ln j = N) (hd : decode (mB M) pc = .ok (.iastore, 1)) (hb : inb i N) (hn : Ev G M (pc + 1) L S (K (setA s j (ix i) z)) rr) : Ev G M pc L (.int z :: .int i :: .ref (r j) :: S) (K s) rr := by
  obtain ⟨q1, q2, q3⟩ := V.2.2.2 j n d _ hF
  refine Ev.iastore hd q1 (q2 s) hb.1 (by rw [tab_len, hN]; exact hb.2) ?_
  have := q3 s (ix i) z (hN ▸ hb.2)
  exact this ▸ hn
theorem Ev.bas {j : Nat} {n d : String} {i z : Int32} {N : Nat} (V : View G Ln K o r) (hF : (gF G)[j]? = some (n, d, .array .boolean)) (hN : Ln j = N) (hd : decode (mB M) pc = .ok (.bastore, 1)) (hb : inb i N) (hn : Ev G M (pc + 1) L S (K (setA s j (ix i) (z &&& 1))) rr) : Ev G M pc L (.int z :: .int i :: .ref (r j) :: S) (K s) rr := by
  obtain ⟨q1, q2, q3⟩ := V.2.2.2 j n d _ hF
  refine Ev.bastore hd q1 (q2 s) hb.1 (by rw [tab_len, hN]; exact hb.2) ?_
  have := q3 s (ix i) (z &&& 1) (hN ▸ hb.2)
  exact this ▸ hn
theorem Ev.sal {h : MHeap} {i : Int32} {N k : Nat} {f : Nat → Int32} (hs : h[k]? = some (.inr (false, tab N f))) (hd : decode (mB M) pc = .ok (.iaload, 1)) (hb : inb i N) (hn : Ev G M (pc + 1) L (.int (f (ix i)) :: S) h rr) : Ev G M pc L (.int i :: .ref k :: S) h rr :=
  Ev.iaload hd hs hb.1 (tab_get hb.2) hn
theorem Ev.sln {h : MHeap} {N k : Nat} {f : Nat → Int32} (hs : h[k]? = some (.inr (false, tab N f))) (hd : decode (mB M) pc = .ok (.arraylength, 1)) (hn : Ev G M (pc + 1) L (.int N.toInt32 :: S) h rr) : Ev G M pc L (.ref k :: S) h rr :=
  Ev.arraylength hd hs (by rw [tab_len]; exact hn)
theorem Ev.zret1 {h : MHeap} (hret : mR M = some .boolean) (hd : decode (mB M) pc = .ok (.ireturn, 1)) : Ev G M pc L (.int 1 :: S) h (some (.int 1), h) := Ev.zreturn hret hd
theorem Ev.zret0 {h : MHeap} (hret : mR M = some .boolean) (hd : decode (mB M) pc = .ok (.ireturn, 1)) : Ev G M pc L (.int 0 :: S) h (some (.int 0), h) := Ev.zreturn hret hd
/-- a slot over which an int may be stored at once -/
def one1 : Slot → Bool
  | .unset => true
  | .val v => v.category == 1
  | .second => false
theorem mst_one {l : List Slot} {i : Nat} {v : Value} {o : Slot} (ho : l[i]? = some o) (h1 : one1 o = true) (hv : v.category = 1) : mst l i v = some (l.set i (.val v)) := by
  have hlt := (List.getElem?_eq_some_iff.mp ho).1
  have e : lstoreSelf l i v = some (l.set i (.val v)) := by simp [lstoreSelf, lsetAt, hlt, hv]
  unfold mst
  rw [ho]
  cases o with
  | unset => exact e
  | second => cases h1
  | val w =>
    have : w.category = 1 := by simpa [one1] using h1
    simp only [this]
    exact e
theorem Ev.istD {k : Nat} {v : Int32} {L' : List Slot} {o : Slot} {h : MHeap} (hd : decode (mB M) pc = .ok (.istore k, 2)) (ho : L[k]? = some o) (h1 : one1 o = true) (hl : L.set k (.val (.int v)) = L') (hn : Ev G M (pc + 2) L' S h rr) : Ev G M pc L (.int v :: S) h rr :=
  Ev.istore hd (by rw [mst_one ho h1 rfl, hl]) hn
theorem Ev.istDN {k : Fin 4} {v : Int32} {L' : List Slot} {o : Slot} {h : MHeap} (hd : decode (mB M) pc = .ok (.istore_n k, 1)) (ho : L[k.val]? = some o) (h1 : one1 o = true) (hl : L.set k.val (.val (.int v)) = L') (hn : Ev G M (pc + 1) L' S h rr) : Ev G M pc L (.int v :: S) h rr :=
  Ev.istoreN hd (by rw [mst_one ho h1 rfl, hl]) hn
/-- a pair of slots over which a long may be stored at once -/
def two2 (a b : Slot) : Prop := (one1 a = true ∧ one1 b = true) ∨ (∃ x, a = .val (.long x) ∧ b = .second)
theorem set_set2 {l : List Slot} {i : Nat} {a b c : Slot} : ((l.set (i + 1) a).set i b).set (i + 1) c = (l.set i b).set (i + 1) c := by
  rw [List.set_comm _ _ (by omega : i + 1 ≠ i), List.set_set]
theorem mst_two {l : List Slot} {i : Nat} {v : Int64} {o o' : Slot} (ho : l[i]? = some o) (ho' : l[i + 1]? = some o') (h2 : two2 o o') : mst l i (.long v) = some ((l.set i (.val (.long v))).set (i + 1) .second) := by
  have hlt := (List.getElem?_eq_some_iff.mp ho).1
  have hlt' := (List.getElem?_eq_some_iff.mp ho').1
  rcases h2 with ⟨h1, h1'⟩ | ⟨x, rfl, rfl⟩
  · have e : lstoreSelf l i (.long v) = some ((l.set i (.val (.long v))).set (i + 1) .second) := by
      have q : (l.set i (.val (.long v)))[i + 1]? = some o' := by rw [List.getElem?_set_ne (by omega)]; exact ho'
      have hcat : (Value.long v).category = 2 := rfl
      simp only [lstoreSelf, lsetAt, hlt, if_true, hcat, q]
      cases o' with
      | unset => simp [hlt']
      | second => cases h1'
      | val w =>
        have : w.category = 1 := by simpa [one1] using h1'
        simp [this, hlt']
    unfold mst
    rw [ho]
    cases o with
    | unset => exact e
    | second => cases h1
    | val w =>
      have : w.category = 1 := by simpa [one1] using h1
      simp only [this]
      exact e
  · unfold mst
    rw [ho]
    have q : ((l.set (i + 1) Slot.unset).set i (.val (.long v)))[i + 1]? = some .unset := by
      rw [List.getElem?_set_ne (by omega), List.getElem?_set_self hlt']
    simp only [Value.category, if_true, lsetAt, hlt', lstoreSelf, List.length_set, hlt, q, set_set2]
theorem Ev.lstD {k : Nat} {v : Int64} {L' : List Slot} {o o' : Slot} {h : MHeap} (hd : decode (mB M) pc = .ok (.lstore k, 2)) (ho : L[k]? = some o) (ho' : L[k + 1]? = some o') (h2 : two2 o o') (hl : (L.set k (.val (.long v))).set (k + 1) .second = L') (hn : Ev G M (pc + 2) L' S h rr) : Ev G M pc L (.long v :: S) h rr :=
  Ev.lstore hd (by rw [mst_two ho ho' h2, hl]) hn
theorem Ev.lstDN {k : Fin 4} {v : Int64} {L' : List Slot} {o o' : Slot} {h : MHeap} (hd : decode (mB M) pc = .ok (.lstore_n k, 1)) (ho : L[k.val]? = some o) (ho' : L[k.val + 1]? = some o') (h2 : two2 o o') (hl : (L.set k.val (.val (.long v))).set (k.val + 1) .second = L') (hn : Ev G M (pc + 1) L' S h rr) : Ev G M pc L (.long v :: S) h rr :=
  Ev.lstoreN hd (by rw [mst_two ho ho' h2, hl]) hn
end ViewRules
/-! ## 5. One object among others -/
/-- al: the array fields in the order in which the constructor makes them, each with 'of booleans' -/
def rA (o : Nat) (al : List (Nat × Bool)) (j : Nat) : Nat := o + 1 + al.findIdx (fun q => q.1 == j)
def arr1 (Ln : Nat → Nat) (s : St) (q : Nat × Bool) : MCell := .inr (q.2, tab (Ln q.1) (s.2 q.1))
def KO (F : List Fd) (al : List (Nat × Bool)) (Ln : Nat → Nat) (o : Nat) (s : St) : MHeap := .inl (fvA (rA o al) s 0 F) :: al.map (arr1 Ln s)
def KH (F : List Fd) (al : List (Nat × Bool)) (Ln : Nat → Nat) (pre post : MHeap) (s : St) : MHeap := pre ++ (KO F al Ln pre.length s ++ post)
def alOk (F : List Fd) (al : List (Nat × Bool)) : Bool := (List.range F.length).all (fun j => match F[j]? with
  | some (_, _, .array t) => al[al.findIdx (fun q => q.1 == j)]? == some (j, isB t)
  | _ => true)
theorem KO_len {F : List Fd} {al : List (Nat × Bool)} {Ln : Nat → Nat} {o : Nat} {s : St} : (KO F al Ln o s).length = al.length + 1 := by simp [KO]
theorem app_get (pre post l : MHeap) (k : Nat) (h : k < l.length) : (pre ++ (l ++ post))[pre.length + k]? = l[k]? := by
  rw [List.getElem?_append_right (by omega), Nat.add_sub_cancel_left, List.getElem?_append_left h]
theorem app_set (pre post l : MHeap) (k : Nat) (c : MCell) (h : k < l.length) : (pre ++ (l ++ post)).set (pre.length + k) c = pre ++ (l.set k c ++ post) := by
  rw [List.set_append_right _ _ (by omega), Nat.add_sub_cancel_left, List.set_append_left _ _ h]
theorem view_of {G : Ctx} {al : List (Nat × Bool)} {Ln : Nat → Nat} {pre post : MHeap} (hk : k0 G ≤ pre.length) (h1 : alOk (gF G) al = true) (h2 : (al.map (·.1)).Nodup) :
    View G Ln (KH (gF G) al Ln pre post) pre.length (rA pre.length al) := by
  refine ⟨hk, fun s => ?_, fun s j f z hF ht => ?_, fun j n d t hF => ?_⟩
  · have := app_get pre post (KO (gF G) al Ln pre.length s) 0 (by rw [KO_len]; omega)
    exact this
  · have := app_set pre post (KO (gF G) al Ln pre.length s) 0 (.inl ((fvA (rA pre.length al) s 0 (gF G)).set j (.int z))) (by rw [KO_len]; omega)
    refine Eq.trans this ?_
    show pre ++ ((.inl _ :: al.map (arr1 Ln s)) ++ post) = pre ++ ((.inl _ :: al.map (arr1 Ln (setI s j z))) ++ post)
    rw [fvA_set hF ht]
    rfl
  · have hj : j < (gF G).length := (List.getElem?_eq_some_iff.mp hF).1
    have hq := List.all_eq_true.mp h1 j (List.mem_range.mpr hj)
    simp only [hF, beq_iff_eq] at hq
    have hlt := (List.getElem?_eq_some_iff.mp hq).1
    have hlen : ∀ s, al.findIdx (fun q => q.1 == j) + 1 < (KO (gF G) al Ln pre.length s).length := fun s => by rw [KO_len]; omega
    have hr : rA pre.length al j = pre.length + (al.findIdx (fun q => q.1 == j) + 1) := by unfold rA; omega
    refine ⟨by rw [hr]; omega, fun s => ?_, fun s i z hi => ?_⟩
    · rw [hr]
      refine (app_get pre post _ _ (hlen s)).trans ?_
      show (al.map (arr1 Ln s))[al.findIdx fun q => q.1 == j]? = _
      rw [List.getElem?_map, hq]
      rfl
    · rw [hr]
      refine (app_set pre post _ _ _ (hlen s)).trans ?_
      show pre ++ ((.inl (fvA (rA pre.length al) s 0 (gF G)) :: (al.map (arr1 Ln s)).set (al.findIdx fun q => q.1 == j) (.inr (isB t, (tab (Ln j) (s.2 j)).set i z))) ++ post) = pre ++ ((.inl (fvA (rA pre.length al) (setA s j i z) 0 (gF G)) :: al.map (arr1 Ln (setA s j i z))) ++ post)
      rw [fvA_same (s := s) (s' := setA s j i z) _ rfl]
      congr 3
      apply List.ext_getElem?
      intro k
      rw [List.getElem?_set, List.getElem?_map, List.getElem?_map, List.length_map]
      by_cases e : al.findIdx (fun q => q.1 == j) = k
      · subst e
        simp only [if_true, hlt, hq, Option.map_some, arr1, tab_set]
        congr 4
        funext x
        rw [setA_2]
        simp
      · simp only [e, if_false]
        cases hk2 : al[k]? with
        | none => rfl
        | some q =>
          simp only [Option.map_some, arr1]
          have ne : q.1 ≠ j := fun hqj => by
            have a1 : (al.map (·.1))[al.findIdx (fun q => q.1 == j)]? = some j := by rw [List.getElem?_map, hq]; rfl
            have a2 : (al.map (·.1))[k]? = some j := by rw [List.getElem?_map, hk2]; simp [hqj]
            have := (List.getElem?_inj (by rw [List.length_map]; exact hlt) h2).mp (a1.trans a2.symm)
            exact e this
          congr 4
          funext x
          rw [setA_2]
          simp [ne]
/-! ### while the constructor makes the arrays -/
def cons (pre : MHeap) (fs : List Value) (as : List (Bool × List Int32)) : MHeap := pre ++ (.inl fs :: as.map .inr)
section ConsRules
variable {G : Ctx} {M : Mi} {pc : Nat} {L : List Slot} {S : List Value} {rr : Option Value × MHeap} {pre : MHeap} {fs fs' : List Value} {as : List (Bool × List Int32)}
theorem cons_get : (cons pre fs as)[pre.length]? = some (.inl fs) := by unfold cons; rw [List.getElem?_append_right (Nat.le_refl _), Nat.sub_self]; rfl
theorem cons_set (c : List Value) : (cons pre fs as).set pre.length (.inl c) = cons pre c as := by unfold cons; rw [List.set_append_right _ _ (Nat.le_refl _), Nat.sub_self]; rfl
theorem cons_len : (cons pre fs as).length = pre.length + 1 + as.length := by simp [cons]; omega
theorem cons_push (b : Bool) (xs : List Int32) : cons pre fs as ++ [.inr (b, xs)] = cons pre fs (as ++ [(b, xs)]) := by simp [cons]
theorem Ev.cput {idx j : Nat} {n d : String} {ty : FieldType} {v v' : Value} (K : GOk G) (hk : k0 G ≤ pre.length) (w : (Jvm.Cond.fieldLink (mN M).cls idx (gC G) n d).before (gA G) (gZ G) = true)
    (wl : (Jvm.Cond.lays (gC G) (gC G) n d).before (gA G) (gZ G) = true ∨ ((Jvm.Cond.laysFinal (gC G) (gC G) n d).before (gA G) (gZ G) = true ∧ (mN M).cls = gC G ∧ (mN M).name = "<init>"))
    (hd : decode (mB M) pc = .ok (.putfield idx, 3)) (hF : (gF G)[j]? = some (n, d, ty)) (hp : mput ty v = some v') (hs : fs.set j v' = fs') (hn : Ev G M (pc + 3) L S (cons pre fs' as) rr) : Ev G M pc L (v :: .ref pre.length :: S) (cons pre fs as) rr := by
  subst hs
  refine Ev.putfield K w wl hd hF hk cons_get hp ?_
  rw [cons_set]; exact hn
theorem Ev.cget {idx j : Nat} {n d : String} {ty : FieldType} {v : Value} (w : (Jvm.Cond.fieldLink (mN M).cls idx (gC G) n d).before (gA G) (gZ G) = true) (hd : decode (mB M) pc = .ok (.getfield idx, 3)) (hF : (gF G)[j]? = some (n, d, ty)) (hv : fs[j]? = some v)
    (hn : Ev G M (pc + 3) L (v :: S) (cons pre fs as) rr) : Ev G M pc L (.ref pre.length :: S) (cons pre fs as) rr := Ev.getfield w hd hF cons_get hv hn
theorem Ev.cnew {aty : ArrayType} {b : Bool} {n : Int32} {k q : Nat} {as' : List (Bool × List Int32)} (w : (Jvm.Cond.arrayClass (newarray.typeOf aty)).before (gA G) (gZ G) = true) (hb' : newarray.typeOf aty = kd b) (hd : decode (mB M) pc = .ok (.newarray aty, 2)) (hn0 : ¬ n < 0) (hk : n.toNatClampNeg = k) (hcap : k ≤ 67108864)
    (hq : as.length = q) (has : as ++ [(b, tab k (fun _ => 0))] = as') (hn : Ev G M (pc + 2) L (.ref (pre.length + 1 + q) :: S) (cons pre fs as') rr) : Ev G M pc L (.int n :: S) (cons pre fs as) rr := by
  subst hq has
  refine Ev.newarray w hb' hd hn0 hk hcap ?_
  rw [cons_push, cons_len, ← tab_zero]; exact hn
end ConsRules
theorem forall_get {P : Nat → Fd → Prop} : ∀ (F : List Fd) (k : Nat), (∀ j f, F[j]? = some f → P (k + j) f) → True := fun _ _ _ => trivial
def AllF (P : Fd → Prop) : List Fd → Prop
  | [] => True
  | f :: fs => P f ∧ AllF P fs
theorem AllF.mem {P : Fd → Prop} : ∀ {F : List Fd}, AllF P F → ∀ f ∈ F, P f
  | _ :: _, ⟨h1, h2⟩, f, hf => (List.mem_cons.mp hf).elim (fun e => e ▸ h1) (AllF.mem h2 f)
theorem gok_of {G : Ctx} (h1 : AllF (fun f => Laid (gZ G) (gA G) (gC G) (gC G) f.1 f.2.1 ∧ parseFieldDescriptor f.2.1 = some f.2.2) (gF G)) (h2 : ((gF G).map (·.1)).Nodup)
    (h3 : (Jvm.Cond.instantiable (gC G) (gK G)).before (gA G) (gZ G) = true) (h4 : (Jvm.Cond.initialized (gC G)).before (gA G) (gZ G) = true) : GOk G := by
  refine ⟨fun j n d ty hF => h1.mem _ (List.mem_of_getElem? hF), fun j j' f f' hF hF' ne e => ne ?_, h3, h4⟩
  have a1 : ((gF G).map (·.1))[j]? = some f.1 := by rw [List.getElem?_map, hF]; rfl
  have a2 : ((gF G).map (·.1))[j']? = some f.1 := by rw [List.getElem?_map, hF', e]; rfl
  exact (List.getElem?_inj (by rw [List.length_map]; exact (List.getElem?_eq_some_iff.mp hF).1) h2).mp (a1.trans a2.symm)
end Jvm.Own
namespace Jvm.Own
open Sem ClassFile Op Lib Jvm.Stand Jvm.Free Jvm.LawKit Jvm.RoadKit
def grd {α : Type} (c : Prop) [Decidable c] (x : Option α) : Option α := if c then x else none
theorem grd_some {α : Type} {c : Prop} [Decidable c] {x : Option α} {w : α} (h : grd c x = some w) : c ∧ x = some w := by
  unfold grd at h; split at h
  · exact ⟨by assumption, h⟩
  · cases h
theorem grd_pos {α : Type} {c : Prop} [Decidable c] {x : Option α} (h : c) : grd c x = x := if_pos h
theorem KH_len (F : List Fd) (al : List (Nat × Bool)) (Ln : Nat → Nat) (pre post : MHeap) (s : St) : (KH F al Ln pre post s).length = pre.length + (al.length + 1 + post.length) := by simp [KH, KO]; omega
theorem hsl_app (k : Nat) (a b : MHeap) : hsl k (a ++ b) = hsl k a + hsl k b := by simp [hsl]
theorem hsl_arr (k : Nat) (Ln : Nat → Nat) (s : St) : ∀ al : List (Nat × Bool), hsl k (al.map (arr1 Ln s)) = (al.map fun q => Ln q.1).sum
  | [] => rfl
  | q :: al => by
    have := hsl_arr k Ln s al
    simp only [hsl, List.map_cons, List.sum_cons] at this ⊢
    rw [this]
    simp [arr1, csl, tab_len]
theorem hsl_KH (k : Nat) (F : List Fd) (al : List (Nat × Bool)) (Ln : Nat → Nat) (pre post : MHeap) (s : St) : hsl k (KH F al Ln pre post s) = hsl k pre + (k + (al.map fun q => Ln q.1).sum + hsl k post) := by
  unfold KH
  rw [hsl_app, hsl_app]
  have : hsl k (KO F al Ln pre.length s) = k + (al.map fun q => Ln q.1).sum := by
    have := hsl_arr k Ln s al
    simp only [KO, hsl, List.map_cons, List.sum_cons, csl] at this ⊢
    rw [this]
  rw [this]
theorem ne_lit {x z : Int32} {k : Int} (h : ¬ x = z) (e : z.toInt = k) : x.toInt ≠ k := fun q => h (Int32.toInt_inj.mp (q.trans e.symm))
section
variable {G : Ctx} {M : Mi} {pc : Nat} {L : List Slot} {S : List Value} {rr : Option Value × MHeap}
theorem Ev.astD {k v : Nat} {L' : List Slot} {o : Slot} {h : MHeap} (hd : decode (mB M) pc = .ok (.astore k, 2)) (ho : L[k]? = some o) (h1 : one1 o = true) (hl : L.set k (.val (.ref v)) = L') (hn : Ev G M (pc + 2) L' S h rr) : Ev G M pc L (.ref v :: S) h rr :=
  Ev.astore hd (by rw [mst_one ho h1 rfl, hl]) hn
theorem Ev.astDN {k : Fin 4} {v : Nat} {L' : List Slot} {o : Slot} {h : MHeap} (hd : decode (mB M) pc = .ok (.astore_n k, 1)) (ho : L[k.val]? = some o) (h1 : one1 o = true) (hl : L.set k.val (.val (.ref v)) = L') (hn : Ev G M (pc + 1) L' S h rr) : Ev G M pc L (.ref v :: S) h rr :=
  Ev.astoreN hd (by rw [mst_one ho h1 rfl, hl]) hn
end
end Jvm.Own
namespace Jvm.Own
open Sem ClassFile Op Lib Jvm.Stand Jvm.Free Jvm.LawKit Jvm.RoadKit
section
variable {G : Ctx} {M : Mi} {pc : Nat} {L : List Slot} {S : List Value} {rr : Option Value × MHeap}
theorem mst_T {l : List Slot} {i : Nat} {v : Value} {o o' : Slot} (ho : l[i]? = some o) (ho' : l[i + 1]? = some o') (h2 : two2 o o') (hv : v.category = 1) : ∃ b, one1 b = true ∧ mst l i v = some ((l.set i (.val v)).set (i + 1) b) := by
  have hlt := (List.getElem?_eq_some_iff.mp ho).1
  have hlt' := (List.getElem?_eq_some_iff.mp ho').1
  rcases h2 with ⟨h1, h1'⟩ | ⟨x, rfl, rfl⟩
  · refine ⟨o', h1', ?_⟩
    rw [mst_one ho h1 hv]
    congr 1
    apply List.ext_getElem?
    intro k
    by_cases e : i + 1 = k
    · subst e
      rw [List.getElem?_set_self (by simpa using hlt'), List.getElem?_set_ne (by omega), ho']
    · rw [List.getElem?_set_ne e]
  · refine ⟨.unset, rfl, ?_⟩
    unfold mst
    rw [ho]
    have c2 : (Value.long x).category = 2 := rfl
    simp only [c2, if_true, lsetAt, hlt', lstoreSelf, List.length_set, hlt, hv]
    rw [List.set_comm _ _ (by omega : i + 1 ≠ i)]
    simp
theorem Ev.istT {k : Nat} {v : Int32} {L' : Slot → List Slot} {o o' : Slot} {h : MHeap} (hd : decode (mB M) pc = .ok (.istore k, 2)) (ho : L[k]? = some o) (ho' : L[k + 1]? = some o') (h2 : two2 o o') (hl : ∀ b, (L.set k (.val (.int v))).set (k + 1) b = L' b) (hn : ∀ b, one1 b = true → Ev G M (pc + 2) (L' b) S h rr) : Ev G M pc L (.int v :: S) h rr := by
  obtain ⟨b, h1, e⟩ := mst_T (v := .int v) ho ho' h2 rfl
  exact Ev.istore hd e (by rw [hl]; exact hn b h1)
theorem Ev.istTN {k : Fin 4} {v : Int32} {L' : Slot → List Slot} {o o' : Slot} {h : MHeap} (hd : decode (mB M) pc = .ok (.istore_n k, 1)) (ho : L[k.val]? = some o) (ho' : L[k.val + 1]? = some o') (h2 : two2 o o') (hl : ∀ b, (L.set k.val (.val (.int v))).set (k.val + 1) b = L' b) (hn : ∀ b, one1 b = true → Ev G M (pc + 1) (L' b) S h rr) : Ev G M pc L (.int v :: S) h rr := by
  obtain ⟨b, h1, e⟩ := mst_T (v := .int v) ho ho' h2 rfl
  exact Ev.istoreN hd e (by rw [hl]; exact hn b h1)
end
section
variable {G : Ctx} {Ln : Nat → Nat} {K : St → MHeap} {o len : Nat} {r : Nat → Nat} {F : List Fd} {al : List (Nat × Bool)}
theorem View.le (V : View G Ln K o r) (s : St) : k0 G ≤ (K s).length := Nat.le_trans V.1 (Nat.le_of_lt (List.getElem?_eq_some_iff.mp (V.2.1 s)).1)
theorem View.app (V : View G Ln K o r) (X : MHeap) : View G Ln (fun s => K s ++ X) o r := by
  refine ⟨V.1, fun s => ?_, fun s j f z hF ht => ?_, fun j n d t hF => ?_⟩
  · show (K s ++ X)[o]? = _
    rw [List.getElem?_append_left (List.getElem?_eq_some_iff.mp (V.2.1 s)).1]; exact V.2.1 s
  · show (K s ++ X).set o _ = _
    rw [List.set_append_left _ _ (List.getElem?_eq_some_iff.mp (V.2.1 s)).1, V.2.2.1 s j f z hF ht]
  · obtain ⟨q1, q2, q3⟩ := V.2.2.2 j n d t hF
    refine ⟨q1, fun s => ?_, fun s i z hi => ?_⟩
    · show (K s ++ X)[r j]? = _
      rw [List.getElem?_append_left (List.getElem?_eq_some_iff.mp (q2 s)).1]; exact q2 s
    · show (K s ++ X).set (r j) _ = _
      rw [List.set_append_left _ _ (List.getElem?_eq_some_iff.mp (q2 s)).1, q3 s i z hi]
theorem View.app2 (V : View G Ln K o r) (hl : ∀ s, (K s).length = len) (t : St) : View G Ln (fun s => KH F al Ln (K s) [] t) o r := by
  have e : (fun s => KH F al Ln (K s) [] t) = fun s => K s ++ (KO F al Ln len t ++ []) := by
    funext s; unfold KH; rw [hl]
  rw [e]
  exact V.app _
theorem app2_get (V : View G Ln K o r) {s t : St} {c : MCell} (h : (K s)[0]? = some c) : (KH F al Ln (K s) [] t)[0]? = some c := by
  unfold KH
  rw [List.getElem?_append_left (List.getElem?_eq_some_iff.mp h).1]; exact h
end
end Jvm.Own
namespace Jvm.Own
open Sem ClassFile Op Lib Jvm.Stand Jvm.Free Jvm.LawKit Jvm.RoadKit
def toI : Value → Int32
  | .int z => z
  | _ => 0
theorem script_rel {s : State} {a : Nat} {cl : Cell} {args : Array Value} {l : Launch} {C : String} {F : List Fd} {k : Nat} (hf : Fit s) (A : Arr s s.heap a cl .int) :
    ∃ xs : List Int32, xs.length = cl.slots.size ∧ Rel (s, args, l, some a, s.heap.size, C, F, k) s.heap [.inr (false, tab xs.length (fun i => xs.getD i 0))] := by
  have hl : (cl.slots.toList.map toI).length = cl.slots.size := by simp
  refine ⟨cl.slots.toList.map toI, hl, rfl, Nat.le_refl _, fun a' q => by cases q; exact A.lt, fun i c q => ?_⟩
  match i, q with
  | 0, q =>
    cases q
    refine ⟨cl, A, ?_⟩
    rw [← tab_of]
    apply Array.ext'
    apply List.ext_getElem?
    intro j
    simp only [List.map_map, List.getElem?_map]
    cases hj : cl.slots.toList[j]? with
    | none => rfl
    | some v =>
      have hj' : cl.slots[j]? = some v := by simpa using hj
      obtain ⟨hlt, hv⟩ := Array.getElem?_eq_some_iff.mp hj'
      have q := hf A.1 hlt
      obtain ⟨hs, kk, hk, comp, hkind⟩ := A.2.1
      have e : s.slotType? cl.cls cl.vm j = some .int := by
        cases hq : cl.vm <;> first | exact absurd hq (hs _) | simp [State.slotType?, hk, hkind]
      have q2 : fits .int v = true := by rw [hv] at q; simpa [State.fitsSlot, e] using q
      obtain ⟨z, rfl⟩ := fit_I q2 (Or.inl rfl)
      rfl
theorem script_len {s : State} {args : Array Value} {t : Term} {a : Nat} {cl : Cell} (A : Arr s s.heap a cl .int) (ea : t.eval args s none [] s = some (.ref a)) (h1 : (Jvm.Cond.isInt (.length t)).value args s none s [] = some true) (h2 : (Jvm.Cond.le (.length t) (.int 260)).value args s none s [] = some true) : cl.slots.size ≤ 260 := by
  obtain ⟨z, ez⟩ := is_v h1
  have ha := A.fin (Vm.Alike.refl s.vm)
  have hlen : cl.slots.size < 2 ^ 31 := by
    rcases Nat.lt_or_ge cl.slots.size (2 ^ 31) with q | q
    · exact q
    · simp [Term.eval, ea, ha, Nat.not_lt.mpr q] at ez
  have e1 := len_f ea ha hlen
  have q : cl.slots.size.toInt32 ≤ 260 := by
    have := Cond.le_ints e1 (Term.int_eval (260 : Int32)) (args := args) (first := s) (o := none) (s := s) (idx := [])
    exact gotT this h2
  have q2 := Int32.le_iff_toInt_le.mp q
  rw [len_toInt hlen] at q2
  have : (260 : Int32).toInt = 260 := by decide
  omega
end Jvm.Own
namespace Jvm.Own
open Sem ClassFile Op Lib Jvm.Stand Jvm.Free Jvm.LawKit Jvm.RoadKit
def decs (b : ByteArray) : List (Nat × Instr × Nat) → Bool
  | [] => true
  | q :: t => decide (decode b q.1 = .ok (q.2.1, q.2.2)) && decs b t
theorem dget {b : ByteArray} : ∀ {l : List (Nat × Instr × Nat)}, decs b l = true → ∀ {k p : Nat} {i : Instr} {n : Nat}, l[k]? = some (p, i, n) → decode b p = .ok (i, n)
  | [], _, k, _, _, _, hk => by simp at hk
  | q :: t, h, 0, p, i, n, hk => by
    simp only [decs, Bool.and_eq_true, decide_eq_true_eq] at h
    simp only [List.getElem?_cons_zero, Option.some.injEq] at hk
    subst hk
    exact h.1
  | q :: t, h, k + 1, p, i, n, hk => by
    simp only [decs, Bool.and_eq_true] at h
    exact dget h.2 (by simpa using hk)
end Jvm.Own
namespace Jvm.Own
/-! ## 6. Ints of 32 bits and naturals -/
theorem N_toInt {i : Nat} (h : i < 2147483648) : (Int32.ofNat i).toInt = i := Int32.toInt_ofNat_of_lt h
theorem N_lt {i j : Nat} (hi : i < 2147483648) (hj : j < 2147483648) : Int32.ofNat i < Int32.ofNat j ↔ i < j := by
  rw [Int32.lt_iff_toInt_lt, N_toInt hi, N_toInt hj]; omega
theorem N_inj {i j : Nat} (hi : i < 2147483648) (hj : j < 2147483648) : Int32.ofNat i = Int32.ofNat j ↔ i = j := by
  rw [← Int32.toInt_inj, N_toInt hi, N_toInt hj]; omega
theorem N_succ (i : Nat) : Int32.ofNat i + 1 = Int32.ofNat (i + 1) := (Int32.ofNat_add i 1).symm
theorem N_add (i j : Nat) : Int32.ofNat i + Int32.ofNat j = Int32.ofNat (i + j) := (Int32.ofNat_add i j).symm
theorem N_mul (i j : Nat) : Int32.ofNat i * Int32.ofNat j = Int32.ofNat (i * j) := (Int32.ofNat_mul i j).symm
theorem N_neg {i : Nat} (h : i < 2147483648) : ¬ Int32.ofNat i < 0 := by
  rw [Int32.lt_iff_toInt_lt, N_toInt h]; simp
theorem ix_N {i : Nat} (h : i < 2147483648) : ix (Int32.ofNat i) = i := by
  unfold ix Int32.toNatClampNeg; rw [N_toInt h]; simp
theorem inb_N {i n : Nat} (h : i < 2147483648) : inb (Int32.ofNat i) n ↔ i < n := by
  unfold inb; rw [ix_N h]; exact ⟨fun q => q.2, fun q => ⟨N_neg h, q⟩⟩
theorem ix_toInt {x : Int32} (h : ¬ x < 0) : (ix x : Int) = x.toInt := by
  unfold ix Int32.toNatClampNeg
  rw [Int32.lt_iff_toInt_lt] at h
  have : (0 : Int32).toInt = 0 := rfl
  omega
theorem ix_lt (x : Int32) : ix x < 2147483648 := by
  unfold ix Int32.toNatClampNeg
  have := Int32.toInt_lt x
  omega
theorem N_ix {x : Int32} (h : ¬ x < 0) : Int32.ofNat (ix x) = x := by
  rw [← Int32.toInt_inj, N_toInt (ix_lt x), ix_toInt h]
theorem ix_eq {x y : Int32} (hx : ¬ x < 0) (hy : ¬ y < 0) : ix x = ix y ↔ x = y := by
  refine ⟨fun e => ?_, fun e => e ▸ rfl⟩
  rw [← N_ix hx, ← N_ix hy, e]
theorem rng (x : Int32) : -2147483648 ≤ x.toInt ∧ x.toInt < 2147483648 := ⟨Int32.le_toInt x, Int32.toInt_lt x⟩
theorem lt_I {x y : Int32} : x < y ↔ x.toInt < y.toInt := Int32.lt_iff_toInt_lt
theorem le_I {x y : Int32} : x ≤ y ↔ x.toInt ≤ y.toInt := Int32.le_iff_toInt_le
theorem eq_I {x y : Int32} : x = y ↔ x.toInt = y.toInt := Int32.toInt_inj.symm
theorem bmod_eq {x : Int} (h1 : -2147483648 ≤ x) (h2 : x < 2147483648) : x.bmod (2 ^ 32) = x := by
  apply Int.bmod_eq_of_le <;> omega
theorem add_I {x y : Int32} (h1 : -2147483648 ≤ x.toInt + y.toInt) (h2 : x.toInt + y.toInt < 2147483648) : (x + y).toInt = x.toInt + y.toInt := by
  rw [Int32.toInt_add]; exact bmod_eq h1 h2
theorem sub_I {x y : Int32} (h1 : -2147483648 ≤ x.toInt - y.toInt) (h2 : x.toInt - y.toInt < 2147483648) : (x - y).toInt = x.toInt - y.toInt := by
  rw [Int32.toInt_sub]; exact bmod_eq h1 h2
theorem mul_I {x y : Int32} (h1 : -2147483648 ≤ x.toInt * y.toInt) (h2 : x.toInt * y.toInt < 2147483648) : (x * y).toInt = x.toInt * y.toInt := by
  rw [Int32.toInt_mul]; exact bmod_eq h1 h2
theorem inb_I {x : Int32} {n : Nat} (h1 : 0 ≤ x.toInt) (h2 : x.toInt < n) : inb x n := by
  have h : ¬ x < 0 := by rw [lt_I]; have : (0 : Int32).toInt = 0 := rfl; omega
  refine ⟨h, ?_⟩
  have := ix_toInt h
  omega
/-- an int between 0 and n is one of them -/
theorem cases_N {x : Int32} {n : Nat} (hn : n < 2147483648) (h0 : ¬ x < 0) (h1 : x < Int32.ofNat n) : ∃ i, i < n ∧ x = Int32.ofNat i := by
  refine ⟨ix x, ?_, (N_ix h0).symm⟩
  have a := ix_toInt h0
  rw [lt_I, N_toInt hn] at h1
  omega
/-! ## 7. Loops that count from i to N -/
def itr {α : Type} (f : Nat → α → α) : Nat → Nat → α → α
  | _, 0, s => s
  | i, m + 1, s => itr f (i + 1) m (f i s)
theorem loopN {α β : Type} {F : Nat → Int32 → α → Option β} {N : Nat} {f : Nat → α → α} {fin : α → Option β}
    (hF : ∀ k i s, i < N → F (k + 1) (Int32.ofNat i) s = F k (Int32.ofNat i + 1) (f i s)) (hE : ∀ k s, F (k + 1) (Int32.ofNat N) s = fin s) :
    ∀ m i k s, i + m = N → m < k → F k (Int32.ofNat i) s = fin (itr f i m s) := by
  intro m
  induction m with
  | zero =>
    intro i k s hi hk
    obtain ⟨k, rfl⟩ : ∃ k', k = k' + 1 := ⟨k - 1, by omega⟩
    have : i = N := by omega
    subst this
    exact hE k s
  | succ m ih =>
    intro i k s hi hk
    obtain ⟨k, rfl⟩ : ∃ k', k = k' + 1 := ⟨k - 1, by omega⟩
    rw [hF k i s (by omega), N_succ]
    exact ih (i + 1) k _ (by omega) (by omega)
theorem itr_ind {α : Type} {f : Nat → α → α} {P : Nat → α → Prop} {N : Nat} (h : ∀ i s, i < N → P i s → P (i + 1) (f i s)) : ∀ m i s, i + m = N → P i s → P N (itr f i m s) := by
  intro m
  induction m with
  | zero => intro i s hi hp; have : i = N := by omega
            subst this; exact hp
  | succ m ih => intro i s hi hp; exact ih (i + 1) _ (by omega) (h i s (by omega) hp)
theorem itr_pt {f : Nat → St → St} {u : Nat → Int32 → Int32} (h1 : ∀ i s, (f i s).1 = s.1) (h2 : ∀ i s k x, (f i s).2 k x = if x = i then u k (s.2 k x) else s.2 k x) :
    ∀ m i s, itr f i m s = (s.1, fun k x => if i ≤ x ∧ x < i + m then u k (s.2 k x) else s.2 k x) := by
  intro m
  induction m with
  | zero =>
    intro i s
    refine Prod.ext rfl ?_
    funext k x
    have : ¬ (i ≤ x ∧ x < i + 0) := by omega
    simp only [this, if_false]
    rfl
  | succ m ih =>
    intro i s
    show itr f (i + 1) m (f i s) = _
    rw [ih]
    refine Prod.ext (h1 i s) ?_
    funext k x
    simp only [h2]
    by_cases e : x = i
    · subst e
      have a : ¬ (x + 1 ≤ x ∧ x < x + 1 + m) := by omega
      have b : x ≤ x ∧ x < x + (m + 1) := by omega
      simp only [a, b, if_false, if_true, and_self]
    · have : (i + 1 ≤ x ∧ x < i + 1 + m) ↔ (i ≤ x ∧ x < i + (m + 1)) := by omega
      simp only [this, e, if_false]
theorem itr_fill (K : Nat) (z : Int32) (m : Nat) (s : St) : itr (fun i s => setA s K i z) 0 m s = (s.1, fun k x => if k = K ∧ x < m then z else s.2 k x) := by
  rw [itr_pt (f := fun i s => setA s K i z) (u := fun k v => if k = K then z else v) (fun _ _ => rfl) (fun i s j x => by
    simp only [setA_2]
    by_cases e : x = i <;> by_cases e1 : j = K <;> simp [e, e1])]
  refine Prod.ext rfl ?_
  funext k x
  have : (0 ≤ x ∧ x < 0 + m) ↔ x < m := by omega
  simp only [this]
  by_cases e : x < m <;> by_cases e1 : k = K <;> simp [e, e1]
theorem and_rng (x : Int32) {m : Nat} (hm : m < 2147483648) : 0 ≤ (x &&& Int32.ofNat m).toInt ∧ (x &&& Int32.ofNat m).toInt ≤ m := by
  have h1 : (x &&& Int32.ofNat m).toBitVec.toNat ≤ m := by
    rw [Int32.toBitVec_and, BitVec.toNat_and]
    refine Nat.le_trans Nat.and_le_right ?_
    show (BitVec.ofNat 32 m).toNat ≤ m
    rw [BitVec.toNat_ofNat]
    exact Nat.mod_le _ _
  have h2 : (x &&& Int32.ofNat m).toInt = ((x &&& Int32.ofNat m).toBitVec.toNat : Int) := by
    show (x &&& Int32.ofNat m).toBitVec.toInt = _
    exact BitVec.toInt_eq_toNat_of_lt (by omega)
  omega
theorem idx8 {o p : Int32} (h0 : ¬ o < 0) (h3 : ¬ 3 < o) : inb (o * 8 + (p &&& 7)) 32 := by
  have a := and_rng p (m := 7) (by omega)
  rw [show Int32.ofNat 7 = (7 : Int32) from rfl] at a
  rw [lt_I] at h0 h3
  have e0 : (0 : Int32).toInt = 0 := rfl
  have e3 : (3 : Int32).toInt = 3 := rfl
  have e8 : (8 : Int32).toInt = 8 := rfl
  have em : (o * 8).toInt = o.toInt * 8 := by rw [mul_I] <;> rw [e8] <;> omega
  have ea : (o * 8 + (p &&& 7)).toInt = o.toInt * 8 + (p &&& 7).toInt := by rw [add_I] <;> rw [em] <;> omega
  exact inb_I (by omega) (by omega)
theorem idx8' {o p : Int32} (h0 : ¬ o < 0) (h3 : ¬ 3 < o) (g0 : ¬ p < 0) (g7 : ¬ 7 < p) : inb (o * 8 + p) 32 ∧ (o * 8 + p).toInt = o.toInt * 8 + p.toInt := by
  rw [lt_I] at h0 h3 g0 g7
  have e0 : (0 : Int32).toInt = 0 := rfl
  have e3 : (3 : Int32).toInt = 3 := rfl
  have e7 : (7 : Int32).toInt = 7 := rfl
  have e8 : (8 : Int32).toInt = 8 := rfl
  have em : (o * 8).toInt = o.toInt * 8 := by rw [mul_I] <;> rw [e8] <;> omega
  have ea : (o * 8 + p).toInt = o.toInt * 8 + p.toInt := by rw [add_I] <;> rw [em] <;> omega
  exact ⟨inb_I (by omega) (by omega), ea⟩
theorem inb_le {x : Int32} {m : Int32} {n : Nat} (h0 : ¬ x < 0) (h1 : ¬ m < x) (hm : m.toInt < n) : inb x n := by
  rw [lt_I] at h0 h1
  have e0 : (0 : Int32).toInt = 0 := rfl
  exact inb_I (by omega) (by omega)
theorem inb_lt {x : Int32} {m : Int32} {n : Nat} (h0 : ¬ x < 0) (h1 : x < m) (hm : m.toInt ≤ n) : inb x n := by
  rw [lt_I] at h0 h1
  have e0 : (0 : Int32).toInt = 0 := rfl
  exact inb_I (by omega) (by omega)
theorem rem_N {a N : Nat} (ha : a < 2147483648) (hN : N < 2147483648) (h0 : 0 < N) : Int32.ofNat a % Int32.ofNat N = Int32.ofNat (a % N) := by
  have h1 : a % N < N := Nat.mod_lt _ h0
  rw [← Int32.toInt_inj, Int32.toInt_mod, N_toInt ha, N_toInt hN, N_toInt (by omega)]
  rw [Int.tmod_eq_emod_of_nonneg (by omega)]
  rfl
/-- the rule of a loop that counts from i to N: P before each turn; Q of what it gives -/
theorem loopP {α β : Type} {F : Nat → Int32 → α → Option β} {N : Nat} {P : Nat → α → Prop} {Q : β → Prop}
    (hF : ∀ k i s, i < N → P i s → (∃ s', F (k + 1) (Int32.ofNat i) s = F k (Int32.ofNat i + 1) s' ∧ P (i + 1) s') ∨ ∃ r, F (k + 1) (Int32.ofNat i) s = some r ∧ Q r)
    (hE : ∀ k s, P N s → ∃ r, F (k + 1) (Int32.ofNat N) s = some r ∧ Q r) :
    ∀ m i k s, i + m = N → m < k → P i s → ∃ r, F k (Int32.ofNat i) s = some r ∧ Q r := by
  intro m
  induction m with
  | zero =>
    intro i k s hi hk hp
    obtain ⟨k, rfl⟩ : ∃ k', k = k' + 1 := ⟨k - 1, by omega⟩
    have : i = N := by omega
    subst this
    exact hE k s hp
  | succ m ih =>
    intro i k s hi hk hp
    obtain ⟨k, rfl⟩ : ∃ k', k = k' + 1 := ⟨k - 1, by omega⟩
    rcases hF k i s (by omega) hp with ⟨s', e, hp'⟩ | h
    · rw [e, N_succ]
      exact ih (i + 1) k s' (by omega) (by omega) hp'
    · exact h
theorem ltN {i j : Nat} (h : i < j) (hj : j < 2147483648) : Int32.ofNat i < Int32.ofNat j := (N_lt (by omega) hj).mpr h
theorem ltZ {i : Nat} {z : Int32} (N : Nat) (hz : Int32.ofNat N = z) (h : i < N) (hN : N < 2147483648) : Int32.ofNat i < z := hz ▸ ltN h hN
theorem nltN {i : Nat} (hi : i < 2147483648) : ¬ Int32.ofNat i < Int32.ofNat i := fun q => by rw [N_lt hi hi] at q; omega
theorem inbN {i n : Nat} (h : i < n) (hi : i < 2147483648) : inb (Int32.ofNat i) n := (inb_N hi).mpr h
def own_cl (a lo hi : Int32) : Int32 := if a < lo then lo else if hi < a then hi else a
theorem own_cl_rng {a lo hi : Int32} (h : ¬ hi < lo) : lo.toInt ≤ (own_cl a lo hi).toInt ∧ (own_cl a lo hi).toInt ≤ hi.toInt := by
  unfold own_cl
  rw [lt_I] at h
  split
  · omega
  · rename_i q; rw [lt_I] at q
    split
    · omega
    · rename_i q2; rw [lt_I] at q2; omega
theorem own_nat {x : Int32} {lo hi : Nat} (h1 : (lo : Int) ≤ x.toInt) (h2 : x.toInt ≤ hi) : ∃ N : Nat, x = Int32.ofNat N ∧ lo ≤ N ∧ N ≤ hi := by
  have := rng x
  refine ⟨x.toInt.toNat, ?_, by omega, by omega⟩
  rw [← Int32.toInt_inj, N_toInt (by omega)]; omega
theorem own_clN (a : Int32) {lo hi : Nat} (h : lo ≤ hi) (hi' : hi < 2147483648) : ∃ N : Nat, own_cl a (Int32.ofNat lo) (Int32.ofNat hi) = Int32.ofNat N ∧ lo ≤ N ∧ N ≤ hi := by
  have q := own_cl_rng (a := a) (lo := Int32.ofNat lo) (hi := Int32.ofNat hi) (fun q => by rw [N_lt (by omega) (by omega)] at q; omega)
  rw [N_toInt (by omega), N_toInt (by omega)] at q
  exact own_nat q.1 q.2
end Jvm.Own
namespace Jvm.Pilot.@@N@@
open Jvm Jvm.ClassFile Sem Op Lib Jvm.Free Jvm.Stand Jvm.LawKit Jvm.RoadKit Bundle Jvm.Pilot.@@N@@.Jvm.D Jvm.Own
/-! ### the class and its words (printed by a program of this repo) -/
abbrev GT := State × Array Value × Launch × Option Addr × Nat
def flds : List Fd := [("disk", "[I", FieldType.array FieldType.int), ("where", "[I", FieldType.array FieldType.int), ("fOwner", "[I", FieldType.array FieldType.int), ("fPage", "[I", FieldType.array FieldType.int), ("fValue", "[I", FieldType.array FieldType.int), ("fDirty", "[I", FieldType.array FieldType.int), ("fRef", "[I", FieldType.array FieldType.int), ("fLast", "[I", FieldType.array FieldType.int), ("fDue", "[I", FieldType.array FieldType.int), ("swapped", "[Z", FieldType.array FieldType.boolean), ("vt", "[I", FieldType.array FieldType.int), ("faults", "[I", FieldType.array FieldType.int), ("saved", "[I", FieldType.array FieldType.int), ("sf", "[I", FieldType.array FieldType.int), ("sa", "[I", FieldType.array FieldType.int), ("nF", "I", FieldType.int), ("win", "I", FieldType.int), ("delay", "I", FieldType.int), ("pffK", "I", FieldType.int), ("now", "I", FieldType.int), ("hand", "I", FieldType.int), ("accFrame", "I", FieldType.int), ("lastSt", "I", FieldType.int)]
def GG (g : GT) : Ctx := (g.1, g.2.1, g.2.2.1, g.2.2.2.1, g.2.2.2.2, "WorkingSetPager", flds, 23)
def HW (g : GT) : Prop := ∀ d ∈ tables_1, d.before g.2.1 g.1 = true
def al : List (Nat × Bool) := [(0, false), (1, false), (2, false), (3, false), (4, false), (5, false), (6, false), (7, false), (8, false), (9, true), (10, false), (11, false), (12, false), (13, false), (14, false)]
def Ln (j : Nat) : Nat := [32, 32, 32, 32, 32, 32, 32, 32, 32, 4, 4, 4, 4, 4, 4, 0, 0, 0, 0, 0, 0, 0, 0].getD j 0
def dfl : List Value := [.null, .null, .null, .null, .null, .null, .null, .null, .null, .null, .null, .null, .null, .null, .null, .int 0, .int 0, .int 0, .int 0, .int 0, .int 0, .int 0, .int 0]
theorem ww {g : GT} (hw : HW g) (k : Nat) {d : Jvm.Cond} (h : tables_1[k]? = some d) : d.before (gA (GG g)) (gZ (GG g)) = true := hw _ (List.mem_of_getElem? h)
theorem fld_nd : (flds.map (·.1)).Nodup := by decide +kernel
theorem al_ok : alOk flds al = true := by decide +kernel
theorem al_nd : (al.map (·.1)).Nodup := by decide +kernel
theorem gok {g : GT} (hw : HW g) : GOk (GG g) := gok_of ⟨⟨Or.inl (ww hw 11 rfl), by decide⟩, ⟨Or.inl (ww hw 13 rfl), by decide⟩, ⟨Or.inl (ww hw 15 rfl), by decide⟩, ⟨Or.inl (ww hw 17 rfl), by decide⟩, ⟨Or.inl (ww hw 19 rfl), by decide⟩, ⟨Or.inl (ww hw 21 rfl), by decide⟩, ⟨Or.inl (ww hw 23 rfl), by decide⟩, ⟨Or.inl (ww hw 25 rfl), by decide⟩, ⟨Or.inl (ww hw 27 rfl), by decide⟩, ⟨Or.inl (ww hw 30 rfl), by decide⟩, ⟨Or.inl (ww hw 32 rfl), by decide⟩, ⟨Or.inl (ww hw 34 rfl), by decide⟩, ⟨Or.inl (ww hw 36 rfl), by decide⟩, ⟨Or.inl (ww hw 38 rfl), by decide⟩, ⟨Or.inl (ww hw 40 rfl), by decide⟩, ⟨Or.inl (ww hw 46 rfl), by decide⟩, ⟨Or.inl (ww hw 48 rfl), by decide⟩, ⟨Or.inl (ww hw 50 rfl), by decide⟩, ⟨Or.inl (ww hw 52 rfl), by decide⟩, ⟨Or.inl (ww hw 59 rfl), by decide⟩, ⟨Or.inl (ww hw 78 rfl), by decide⟩, ⟨Or.inl (ww hw 84 rfl), by decide⟩, ⟨Or.inl (ww hw 86 rfl), by decide⟩, trivial⟩ fld_nd (ww hw 1 rfl) (ww hw 2 rfl)
theorem pcls : plainName "WorkingSetPager" = true := by first | (simp [plainName, overriddenIn]; done) | decide +kernel
theorem pclsL : plainName "WorkingSetPagerL7" = true := by first | (simp [plainName, overriddenIn]; done) | decide +kernel
theorem nmh : "WorkingSetPager" ≠ "java/lang/invoke/MethodHandle" ∧ "WorkingSetPager" ≠ "java/lang/invoke/VarHandle" := by decide
theorem nmhL : "WorkingSetPagerL7" ≠ "java/lang/invoke/MethodHandle" ∧ "WorkingSetPagerL7" ≠ "java/lang/invoke/VarHandle" := by decide
def M_clamp : Mi := ((⟨"WorkingSetPager", "clamp", "(III)I"⟩ : MethodName), prog_1_method_2_code, 4, (some .int), 0, 0)
theorem pl_clamp : plainFor (mN M_clamp) = true := plainFor_of_name pcls
theorem nm_clamp : notMH M_clamp := nmh
theorem pd_clamp : parseMethodDescriptor (mN M_clamp).desc = some ⟨[.int, .int, .int], some .int⟩ := by decide +kernel
def M_ctor : Mi := ((⟨"WorkingSetPager", "<init>", "(IIII)V"⟩ : MethodName), prog_1_method_1_code, 6, none, 1, 16)
theorem pl_ctor : plainFor (mN M_ctor) = true := plainFor_of_name pcls
theorem nm_ctor : notMH M_ctor := nmh
theorem pd_ctor : parseMethodDescriptor (mN M_ctor).desc = some ⟨[.int, .int, .int, .int], none⟩ := by decide +kernel
def M_completeWriteBacks : Mi := ((⟨"WorkingSetPager", "completeWriteBacks", "()I"⟩ : MethodName), prog_1_method_11_code, 4, (some .int), 0, 0)
theorem pl_completeWriteBacks : plainFor (mN M_completeWriteBacks) = true := plainFor_of_name pcls
theorem nm_completeWriteBacks : notMH M_completeWriteBacks := nmh
theorem pd_completeWriteBacks : parseMethodDescriptor (mN M_completeWriteBacks).desc = some ⟨[], some .int⟩ := by decide +kernel
def M_hit : Mi := ((⟨"WorkingSetPager", "hit", "(IIZI)V"⟩ : MethodName), prog_1_method_8_code, 5, none, 0, 0)
theorem pl_hit : plainFor (mN M_hit) = true := plainFor_of_name pcls
theorem nm_hit : notMH M_hit := nmh
theorem pd_hit : parseMethodDescriptor (mN M_hit).desc = some ⟨[.int, .int, .boolean, .int], none⟩ := by decide +kernel
def M_sweep : Mi := ((⟨"WorkingSetPager", "sweep", "()I"⟩ : MethodName), prog_1_method_9_code, 5, (some .int), 0, 0)
theorem pl_sweep : plainFor (mN M_sweep) = true := plainFor_of_name pcls
theorem nm_sweep : notMH M_sweep := nmh
theorem pd_sweep : parseMethodDescriptor (mN M_sweep).desc = some ⟨[], some .int⟩ := by decide +kernel
def M_load : Mi := ((⟨"WorkingSetPager", "load", "(IIIZI)V"⟩ : MethodName), prog_1_method_10_code, 8, none, 0, 0)
theorem pl_load : plainFor (mN M_load) = true := plainFor_of_name pcls
theorem nm_load : notMH M_load := nmh
theorem pd_load : parseMethodDescriptor (mN M_load).desc = some ⟨[.int, .int, .int, .boolean, .int], none⟩ := by decide +kernel
def M_access : Mi := ((⟨"WorkingSetPager", "access", "(IIZI)I"⟩ : MethodName), prog_1_method_7_code, 7, (some .int), 1, 19)
theorem pl_access : plainFor (mN M_access) = true := plainFor_of_name pcls
theorem nm_access : notMH M_access := nmh
theorem pd_access : parseMethodDescriptor (mN M_access).desc = some ⟨[.int, .int, .boolean, .int], some .int⟩ := by decide +kernel
def M_read : Mi := ((⟨"WorkingSetPager", "read", "(II)I"⟩ : MethodName), prog_1_method_3_code, 4, (some .int), 2, 37)
theorem pl_read : plainFor (mN M_read) = true := plainFor_of_name pcls
theorem nm_read : notMH M_read := nmh
theorem pd_read : parseMethodDescriptor (mN M_read).desc = some ⟨[.int, .int], some .int⟩ := by decide +kernel
def M_write : Mi := ((⟨"WorkingSetPager", "write", "(III)I"⟩ : MethodName), prog_1_method_4_code, 5, (some .int), 2, 37)
theorem pl_write : plainFor (mN M_write) = true := plainFor_of_name pcls
theorem nm_write : notMH M_write := nmh
theorem pd_write : parseMethodDescriptor (mN M_write).desc = some ⟨[.int, .int, .int], some .int⟩ := by decide +kernel
def M_tick : Mi := ((⟨"WorkingSetPager", "tick", "()I"⟩ : MethodName), prog_1_method_6_code, 1, (some .int), 1, 15)
theorem pl_tick : plainFor (mN M_tick) = true := plainFor_of_name pcls
theorem nm_tick : notMH M_tick := nmh
theorem pd_tick : parseMethodDescriptor (mN M_tick).desc = some ⟨[], some .int⟩ := by decide +kernel
def M_freeFrame : Mi := ((⟨"WorkingSetPager", "freeFrame", "(I)V"⟩ : MethodName), prog_1_method_12_code, 2, none, 0, 0)
theorem pl_freeFrame : plainFor (mN M_freeFrame) = true := plainFor_of_name pcls
theorem nm_freeFrame : notMH M_freeFrame := nmh
theorem pd_freeFrame : parseMethodDescriptor (mN M_freeFrame).desc = some ⟨[.int], none⟩ := by decide +kernel
def M_doSwapOut : Mi := ((⟨"WorkingSetPager", "doSwapOut", "(I)V"⟩ : MethodName), prog_1_method_14_code, 4, none, 1, 13)
theorem pl_doSwapOut : plainFor (mN M_doSwapOut) = true := plainFor_of_name pcls
theorem nm_doSwapOut : notMH M_doSwapOut := nmh
theorem pd_doSwapOut : parseMethodDescriptor (mN M_doSwapOut).desc = some ⟨[.int], none⟩ := by decide +kernel
def M_swapOut : Mi := ((⟨"WorkingSetPager", "swapOut", "(I)I"⟩ : MethodName), prog_1_method_13_code, 2, (some .int), 2, 28)
theorem pl_swapOut : plainFor (mN M_swapOut) = true := plainFor_of_name pcls
theorem nm_swapOut : notMH M_swapOut := nmh
theorem pd_swapOut : parseMethodDescriptor (mN M_swapOut).desc = some ⟨[.int], some .int⟩ := by decide +kernel
def M_bitCount : Mi := ((⟨"WorkingSetPager", "bitCount", "(I)I"⟩ : MethodName), prog_1_method_19_code, 4, (some .int), 0, 0)
theorem pl_bitCount : plainFor (mN M_bitCount) = true := plainFor_of_name pcls
theorem nm_bitCount : notMH M_bitCount := nmh
theorem pd_bitCount : parseMethodDescriptor (mN M_bitCount).desc = some ⟨[.int], some .int⟩ := by decide +kernel
def M_countFree : Mi := ((⟨"WorkingSetPager", "countFree", "()I"⟩ : MethodName), prog_1_method_18_code, 3, (some .int), 0, 0)
theorem pl_countFree : plainFor (mN M_countFree) = true := plainFor_of_name pcls
theorem nm_countFree : notMH M_countFree := nmh
theorem pd_countFree : parseMethodDescriptor (mN M_countFree).desc = some ⟨[], some .int⟩ := by decide +kernel
def M_lowestFree : Mi := ((⟨"WorkingSetPager", "lowestFree", "()I"⟩ : MethodName), prog_1_method_17_code, 2, (some .int), 0, 0)
theorem pl_lowestFree : plainFor (mN M_lowestFree) = true := plainFor_of_name pcls
theorem nm_lowestFree : notMH M_lowestFree := nmh
theorem pd_lowestFree : parseMethodDescriptor (mN M_lowestFree).desc = some ⟨[], some .int⟩ := by decide +kernel
def M_doSwapIn : Mi := ((⟨"WorkingSetPager", "doSwapIn", "(I)V"⟩ : MethodName), prog_1_method_16_code, 4, none, 1, 13)
theorem pl_doSwapIn : plainFor (mN M_doSwapIn) = true := plainFor_of_name pcls
theorem nm_doSwapIn : notMH M_doSwapIn := nmh
theorem pd_doSwapIn : parseMethodDescriptor (mN M_doSwapIn).desc = some ⟨[.int], none⟩ := by decide +kernel
def M_swapIn : Mi := ((⟨"WorkingSetPager", "swapIn", "(I)I"⟩ : MethodName), prog_1_method_15_code, 4, (some .int), 2, 28)
theorem pl_swapIn : plainFor (mN M_swapIn) = true := plainFor_of_name pcls
theorem nm_swapIn : notMH M_swapIn := nmh
theorem pd_swapIn : parseMethodDescriptor (mN M_swapIn).desc = some ⟨[.int], some .int⟩ := by decide +kernel
def M_decide : Mi := ((⟨"WorkingSetPager", "decide", "(ZIIIZ)I"⟩ : MethodName), prog_1_method_21_code, 8, (some .int), 2, 28)
theorem pl_decide : plainFor (mN M_decide) = true := plainFor_of_name pcls
theorem nm_decide : notMH M_decide := nmh
theorem pd_decide : parseMethodDescriptor (mN M_decide).desc = some ⟨[.boolean, .int, .int, .int, .boolean], some .int⟩ := by decide +kernel
def M_control : Mi := ((⟨"WorkingSetPager", "control", "()I"⟩ : MethodName), prog_1_method_20_code, 8, (some .int), 3, 47)
theorem pl_control : plainFor (mN M_control) = true := plainFor_of_name pcls
theorem nm_control : notMH M_control := nmh
theorem pd_control : parseMethodDescriptor (mN M_control).desc = some ⟨[], some .int⟩ := by decide +kernel
def M_procInfo : Mi := ((⟨"WorkingSetPager", "procInfo", "(II)I"⟩ : MethodName), prog_1_method_28_code, 3, (some .int), 0, 0)
theorem pl_procInfo : plainFor (mN M_procInfo) = true := plainFor_of_name pcls
theorem nm_procInfo : notMH M_procInfo := nmh
theorem pd_procInfo : parseMethodDescriptor (mN M_procInfo).desc = some ⟨[.int, .int], some .int⟩ := by decide +kernel
def M_frameOf : Mi := ((⟨"WorkingSetPager", "frameOf", "(II)I"⟩ : MethodName), prog_1_method_22_code, 3, (some .int), 0, 0)
theorem pl_frameOf : plainFor (mN M_frameOf) = true := plainFor_of_name pcls
theorem nm_frameOf : notMH M_frameOf := nmh
theorem pd_frameOf : parseMethodDescriptor (mN M_frameOf).desc = some ⟨[.int, .int], some .int⟩ := by decide +kernel
def M_diskValue : Mi := ((⟨"WorkingSetPager", "diskValue", "(II)I"⟩ : MethodName), prog_1_method_29_code, 3, (some .int), 0, 0)
theorem pl_diskValue : plainFor (mN M_diskValue) = true := plainFor_of_name pcls
theorem nm_diskValue : notMH M_diskValue := nmh
theorem pd_diskValue : parseMethodDescriptor (mN M_diskValue).desc = some ⟨[.int, .int], some .int⟩ := by decide +kernel
def M_frameInfo : Mi := ((⟨"WorkingSetPager", "frameInfo", "(I)I"⟩ : MethodName), prog_1_method_23_code, 4, (some .int), 0, 0)
theorem pl_frameInfo : plainFor (mN M_frameInfo) = true := plainFor_of_name pcls
theorem nm_frameInfo : notMH M_frameInfo := nmh
theorem pd_frameInfo : parseMethodDescriptor (mN M_frameInfo).desc = some ⟨[.int], some .int⟩ := by decide +kernel
def M_lastUse : Mi := ((⟨"WorkingSetPager", "lastUse", "(I)I"⟩ : MethodName), prog_1_method_24_code, 2, (some .int), 0, 0)
theorem pl_lastUse : plainFor (mN M_lastUse) = true := plainFor_of_name pcls
theorem nm_lastUse : notMH M_lastUse := nmh
theorem pd_lastUse : parseMethodDescriptor (mN M_lastUse).desc = some ⟨[.int], some .int⟩ := by decide +kernel
def M_dueTime : Mi := ((⟨"WorkingSetPager", "dueTime", "(I)I"⟩ : MethodName), prog_1_method_25_code, 2, (some .int), 0, 0)
theorem pl_dueTime : plainFor (mN M_dueTime) = true := plainFor_of_name pcls
theorem nm_dueTime : notMH M_dueTime := nmh
theorem pd_dueTime : parseMethodDescriptor (mN M_dueTime).desc = some ⟨[.int], some .int⟩ := by decide +kernel
def M_hothers : Mi := ((⟨"WorkingSetPagerL7", "others", "(LWorkingSetPager;I)J"⟩ : MethodName), method_4_code, 7, (some .long), 1, 17)
theorem pl_hothers : plainFor (mN M_hothers) = true := plainFor_of_name pclsL
theorem nm_hothers : notMH M_hothers := nmhL
theorem pd_hothers : parseMethodDescriptor (mN M_hothers).desc = some ⟨[.object "WorkingSetPager", .int], some .long⟩ := by decide +kernel
def M_hand : Mi := ((⟨"WorkingSetPager", "hand", "()I"⟩ : MethodName), prog_1_method_26_code, 1, (some .int), 0, 0)
theorem pl_hand : plainFor (mN M_hand) = true := plainFor_of_name pcls
theorem nm_hand : notMH M_hand := nmh
theorem pd_hand : parseMethodDescriptor (mN M_hand).desc = some ⟨[], some .int⟩ := by decide +kernel
def M_now : Mi := ((⟨"WorkingSetPager", "now", "()I"⟩ : MethodName), prog_1_method_27_code, 1, (some .int), 0, 0)
theorem pl_now : plainFor (mN M_now) = true := plainFor_of_name pcls
theorem nm_now : notMH M_now := nmh
theorem pd_now : parseMethodDescriptor (mN M_now).desc = some ⟨[], some .int⟩ := by decide +kernel
def M_lastStatus : Mi := ((⟨"WorkingSetPager", "lastStatus", "()I"⟩ : MethodName), prog_1_method_5_code, 1, (some .int), 0, 0)
theorem pl_lastStatus : plainFor (mN M_lastStatus) = true := plainFor_of_name pcls
theorem nm_lastStatus : notMH M_lastStatus := nmh
theorem pd_lastStatus : parseMethodDescriptor (mN M_lastStatus).desc = some ⟨[], some .int⟩ := by decide +kernel
def M_hroundTrip : Mi := ((⟨"WorkingSetPagerL7", "roundTrip", "(LWorkingSetPager;I)Z"⟩ : MethodName), method_3_code, 21, (some .boolean), 3, 52)
theorem pl_hroundTrip : plainFor (mN M_hroundTrip) = true := plainFor_of_name pclsL
theorem nm_hroundTrip : notMH M_hroundTrip := nmhL
theorem pd_hroundTrip : parseMethodDescriptor (mN M_hroundTrip).desc = some ⟨[.object "WorkingSetPager", .int], some .boolean⟩ := by decide +kernel
def M_law : Mi := (x, code, maxLocals, ret, 4, 84)
theorem pl_law : plainFor (mN M_law) = true := plainFor_of_name (by first | (simp [plainName, overriddenIn, x]; done) | decide +kernel)
def c2 : List (Nat × Instr × Nat) := [(0, .iload_n 1, 1), (1, .iload_n 2, 1), (2, .if_icmp .ge 5, 3), (5, .iload_n 2, 1), (6, .ireturn, 1), (7, .iload_n 1, 1), (8, .iload_n 3, 1), (9, .if_icmp .le 5, 3), (12, .iload_n 3, 1), (13, .ireturn, 1), (14, .iload_n 1, 1), (15, .ireturn, 1)]
theorem D2 : decs prog_1_method_2_code c2 = true := by decide +kernel
theorem d2 (k : Nat) {p : Nat} {i : Instr} {n : Nat} (h : c2[k]? = some (p, i, n)) : decode prog_1_method_2_code p = .ok (i, n) := dget D2 h
def c0 : List (Nat × Instr × Nat) := [(0, .aload_n 0, 1), (1, .invokespecial 1, 3), (4, .aload_n 0, 1), (5, .bipush 32, 2), (7, .newarray .int, 2), (9, .putfield 7, 3), (12, .aload_n 0, 1), (13, .bipush 32, 2), (15, .newarray .int, 2), (17, .putfield 13, 3), (20, .aload_n 0, 1), (21, .bipush 32, 2), (23, .newarray .int, 2), (25, .putfield 16, 3), (28, .aload_n 0, 1), (29, .bipush 32, 2), (31, .newarray .int, 2), (33, .putfield 19, 3), (36, .aload_n 0, 1), (37, .bipush 32, 2), (39, .newarray .int, 2), (41, .putfield 22, 3), (44, .aload_n 0, 1), (45, .bipush 32, 2), (47, .newarray .int, 2), (49, .putfield 25, 3), (52, .aload_n 0, 1), (53, .bipush 32, 2), (55, .newarray .int, 2), (57, .putfield 28, 3), (60, .aload_n 0, 1), (61, .bipush 32, 2), (63, .newarray .int, 2), (65, .putfield 31, 3), (68, .aload_n 0, 1), (69, .bipush 32, 2), (71, .newarray .int, 2), (73, .putfield 34, 3), (76, .aload_n 0, 1), (77, .iconst 4, 1), (78, .newarray .boolean, 2), (80, .putfield 37, 3), (83, .aload_n 0, 1), (84, .iconst 4, 1), (85, .newarray .int, 2), (87, .putfield 41, 3), (90, .aload_n 0, 1), (91, .iconst 4, 1), (92, .newarray .int, 2), (94, .putfield 44, 3), (97, .aload_n 0, 1), (98, .iconst 4, 1), (99, .newarray .int, 2), (101, .putfield 47, 3), (104, .aload_n 0, 1), (105, .iconst 4, 1), (106, .newarray .int, 2), (108, .putfield 50, 3), (111, .aload_n 0, 1), (112, .iconst 4, 1), (113, .newarray .int, 2), (115, .putfield 53, 3), (118, .aload_n 0, 1), (119, .aload_n 0, 1), (120, .iload_n 1, 1), (121, .iconst 4, 1), (122, .bipush 32, 2), (124, .invokevirtual 56, 3), (127, .putfield 60, 3), (130, .aload_n 0, 1), (131, .aload_n 0, 1), (132, .iload_n 2, 1), (133, .iconst 1, 1), (134, .bipush 64, 2), (136, .invokevirtual 56, 3), (139, .putfield 64, 3), (142, .aload_n 0, 1), (143, .aload_n 0, 1), (144, .iload_n 3, 1), (145, .iconst 1, 1), (146, .bipush 8, 2), (148, .invokevirtual 56, 3), (151, .putfield 67, 3), (154, .aload_n 0, 1), (155, .aload_n 0, 1), (156, .iload 4, 2), (158, .iconst 1, 1), (159, .bipush 16, 2), (161, .invokevirtual 56, 3), (164, .putfield 70, 3), (167, .iconst 0, 1), (168, .istore 5, 2), (170, .iload 5, 2), (172, .bipush 32, 2), (174, .if_icmp .ge 25, 3), (177, .aload_n 0, 1), (178, .getfield 16, 3), (181, .iload 5, 2), (183, .iconst (-1), 1), (184, .iastore, 1), (185, .aload_n 0, 1), (186, .getfield 13, 3), (189, .iload 5, 2), (191, .iconst (-1), 1), (192, .iastore, 1), (193, .iinc 5 1, 3), (196, .goto (-26), 3), (199, .return_, 1)]
theorem D0 : decs prog_1_method_1_code c0 = true := by decide +kernel
theorem d0 (k : Nat) {p : Nat} {i : Instr} {n : Nat} (h : c0[k]? = some (p, i, n)) : decode prog_1_method_1_code p = .ok (i, n) := dget D0 h
def c4 : List (Nat × Instr × Nat) := [(0, .iconst 0, 1), (1, .istore_n 1, 1), (2, .iconst 0, 1), (3, .istore_n 2, 1), (4, .iload_n 2, 1), (5, .aload_n 0, 1), (6, .getfield 60, 3), (9, .if_icmp .ge 92, 3), (12, .aload_n 0, 1), (13, .getfield 16, 3), (16, .iload_n 2, 1), (17, .iaload, 1), (18, .istore_n 3, 1), (19, .iload_n 3, 1), (20, .ifCond .lt 75, 3), (23, .iload_n 3, 1), (24, .iconst 3, 1), (25, .if_icmp .le 6, 3), (28, .goto 67, 3), (31, .aload_n 0, 1), (32, .getfield 34, 3), (35, .iload_n 2, 1), (36, .iaload, 1), (37, .ifCond .eq 58, 3), (40, .aload_n 0, 1), (41, .getfield 34, 3), (44, .iload_n 2, 1), (45, .iaload, 1), (46, .aload_n 0, 1), (47, .getfield 83, 3), (50, .if_icmp .gt 45, 3), (53, .aload_n 0, 1), (54, .getfield 7, 3), (57, .iload_n 3, 1), (58, .bipush 8, 2), (60, .imul, 1), (61, .aload_n 0, 1), (62, .getfield 19, 3), (65, .iload_n 2, 1), (66, .iaload, 1), (67, .bipush 7, 2), (69, .iand, 1), (70, .iadd, 1), (71, .aload_n 0, 1), (72, .getfield 22, 3), (75, .iload_n 2, 1), (76, .iaload, 1), (77, .iastore, 1), (78, .aload_n 0, 1), (79, .getfield 25, 3), (82, .iload_n 2, 1), (83, .iconst 0, 1), (84, .iastore, 1), (85, .aload_n 0, 1), (86, .getfield 34, 3), (89, .iload_n 2, 1), (90, .iconst 0, 1), (91, .iastore, 1), (92, .iinc 1 1, 3), (95, .iinc 2 1, 3), (98, .goto (-94), 3), (101, .iload_n 1, 1), (102, .ireturn, 1)]
theorem D4 : decs prog_1_method_11_code c4 = true := by decide +kernel
theorem d4 (k : Nat) {p : Nat} {i : Instr} {n : Nat} (h : c4[k]? = some (p, i, n)) : decode prog_1_method_11_code p = .ok (i, n) := dget D4 h
def c10 : List (Nat × Instr × Nat) := [(0, .aload_n 0, 1), (1, .getfield 41, 3), (4, .iload_n 2, 1), (5, .dup2, 1), (6, .iaload, 1), (7, .iconst 1, 1), (8, .iadd, 1), (9, .iastore, 1), (10, .aload_n 0, 1), (11, .getfield 53, 3), (14, .iload_n 2, 1), (15, .dup2, 1), (16, .iaload, 1), (17, .iconst 1, 1), (18, .iadd, 1), (19, .iastore, 1), (20, .aload_n 0, 1), (21, .getfield 28, 3), (24, .iload_n 1, 1), (25, .iconst 1, 1), (26, .iastore, 1), (27, .iload_n 3, 1), (28, .ifCond .eq 25, 3), (31, .aload_n 0, 1), (32, .getfield 22, 3), (35, .iload_n 1, 1), (36, .iload 4, 2), (38, .iastore, 1), (39, .aload_n 0, 1), (40, .getfield 25, 3), (43, .iload_n 1, 1), (44, .iconst 1, 1), (45, .iastore, 1), (46, .aload_n 0, 1), (47, .getfield 34, 3), (50, .iload_n 1, 1), (51, .iconst 0, 1), (52, .iastore, 1), (53, .return_, 1)]
theorem D10 : decs prog_1_method_8_code c10 = true := by decide +kernel
theorem d10 (k : Nat) {p : Nat} {i : Instr} {n : Nat} (h : c10[k]? = some (p, i, n)) : decode prog_1_method_8_code p = .ok (i, n) := dget D10 h
def c7 : List (Nat × Instr × Nat) := [(0, .iconst 0, 1), (1, .istore_n 1, 1), (2, .iload_n 1, 1), (3, .aload_n 0, 1), (4, .getfield 60, 3), (7, .if_icmp .ge 135, 3), (10, .aload_n 0, 1), (11, .getfield 101, 3), (14, .iload_n 1, 1), (15, .iadd, 1), (16, .aload_n 0, 1), (17, .getfield 60, 3), (20, .irem, 1), (21, .istore_n 2, 1), (22, .aload_n 0, 1), (23, .getfield 16, 3), (26, .iload_n 2, 1), (27, .iaload, 1), (28, .istore_n 3, 1), (29, .iload_n 3, 1), (30, .ifCond .lt 8, 3), (33, .iload_n 3, 1), (34, .iconst 3, 1), (35, .if_icmp .le 5, 3), (38, .iload_n 2, 1), (39, .ireturn, 1), (40, .aload_n 0, 1), (41, .getfield 28, 3), (44, .iload_n 2, 1), (45, .iaload, 1), (46, .ifCond .eq 25, 3), (49, .aload_n 0, 1), (50, .getfield 28, 3), (53, .iload_n 2, 1), (54, .iconst 0, 1), (55, .iastore, 1), (56, .aload_n 0, 1), (57, .getfield 31, 3), (60, .iload_n 2, 1), (61, .aload_n 0, 1), (62, .getfield 41, 3), (65, .iload_n 3, 1), (66, .iaload, 1), (67, .iastore, 1), (68, .goto 68, 3), (71, .aload_n 0, 1), (72, .getfield 41, 3), (75, .iload_n 3, 1), (76, .iaload, 1), (77, .aload_n 0, 1), (78, .getfield 31, 3), (81, .iload_n 2, 1), (82, .iaload, 1), (83, .isub, 1), (84, .istore 4, 2), (86, .iload 4, 2), (88, .aload_n 0, 1), (89, .getfield 64, 3), (92, .if_icmp .gt 6, 3), (95, .goto 41, 3), (98, .aload_n 0, 1), (99, .getfield 25, 3), (102, .iload_n 2, 1), (103, .iaload, 1), (104, .ifCond .eq 30, 3), (107, .aload_n 0, 1), (108, .getfield 34, 3), (111, .iload_n 2, 1), (112, .iaload, 1), (113, .ifCond .ne 23, 3), (116, .aload_n 0, 1), (117, .getfield 34, 3), (120, .iload_n 2, 1), (121, .aload_n 0, 1), (122, .getfield 83, 3), (125, .aload_n 0, 1), (126, .getfield 67, 3), (129, .iadd, 1), (130, .iastore, 1), (131, .goto 5, 3), (134, .iload_n 2, 1), (135, .ireturn, 1), (136, .iinc 1 1, 3), (139, .goto (-137), 3), (142, .iconst (-1), 1), (143, .ireturn, 1)]
theorem D7 : decs prog_1_method_9_code c7 = true := by decide +kernel
theorem d7 (k : Nat) {p : Nat} {i : Instr} {n : Nat} (h : c7[k]? = some (p, i, n)) : decode prog_1_method_9_code p = .ok (i, n) := dget D7 h
def c8 : List (Nat × Instr × Nat) := [(0, .aload_n 0, 1), (1, .getfield 16, 3), (4, .iload_n 1, 1), (5, .iaload, 1), (6, .istore 6, 2), (8, .iload 6, 2), (10, .ifCond .lt 34, 3), (13, .iload 6, 2), (15, .iconst 3, 1), (16, .if_icmp .gt 28, 3), (19, .iload 6, 2), (21, .bipush 8, 2), (23, .imul, 1), (24, .aload_n 0, 1), (25, .getfield 19, 3), (28, .iload_n 1, 1), (29, .iaload, 1), (30, .bipush 7, 2), (32, .iand, 1), (33, .iadd, 1), (34, .istore 7, 2), (36, .aload_n 0, 1), (37, .getfield 13, 3), (40, .iload 7, 2), (42, .iconst (-1), 1), (43, .iastore, 1), (44, .aload_n 0, 1), (45, .getfield 16, 3), (48, .iload_n 1, 1), (49, .iload_n 2, 1), (50, .iastore, 1), (51, .aload_n 0, 1), (52, .getfield 19, 3), (55, .iload_n 1, 1), (56, .iload_n 3, 1), (57, .iastore, 1), (58, .aload_n 0, 1), (59, .getfield 13, 3), (62, .iload_n 2, 1), (63, .bipush 8, 2), (65, .imul, 1), (66, .iload_n 3, 1), (67, .iadd, 1), (68, .iload_n 1, 1), (69, .iastore, 1), (70, .aload_n 0, 1), (71, .getfield 22, 3), (74, .iload_n 1, 1), (75, .aload_n 0, 1), (76, .getfield 7, 3), (79, .iload_n 2, 1), (80, .bipush 8, 2), (82, .imul, 1), (83, .iload_n 3, 1), (84, .iadd, 1), (85, .iaload, 1), (86, .iastore, 1), (87, .aload_n 0, 1), (88, .getfield 25, 3), (91, .iload_n 1, 1), (92, .iconst 0, 1), (93, .iastore, 1), (94, .aload_n 0, 1), (95, .getfield 34, 3), (98, .iload_n 1, 1), (99, .iconst 0, 1), (100, .iastore, 1), (101, .aload_n 0, 1), (102, .getfield 41, 3), (105, .iload_n 2, 1), (106, .dup2, 1), (107, .iaload, 1), (108, .iconst 1, 1), (109, .iadd, 1), (110, .iastore, 1), (111, .aload_n 0, 1), (112, .getfield 53, 3), (115, .iload_n 2, 1), (116, .dup2, 1), (117, .iaload, 1), (118, .iconst 1, 1), (119, .iadd, 1), (120, .iastore, 1), (121, .aload_n 0, 1), (122, .getfield 28, 3), (125, .iload_n 1, 1), (126, .iconst 1, 1), (127, .iastore, 1), (128, .aload_n 0, 1), (129, .getfield 31, 3), (132, .iload_n 1, 1), (133, .aload_n 0, 1), (134, .getfield 41, 3), (137, .iload_n 2, 1), (138, .iaload, 1), (139, .iastore, 1), (140, .iload 4, 2), (142, .ifCond .eq 18, 3), (145, .aload_n 0, 1), (146, .getfield 22, 3), (149, .iload_n 1, 1), (150, .iload 5, 2), (152, .iastore, 1), (153, .aload_n 0, 1), (154, .getfield 25, 3), (157, .iload_n 1, 1), (158, .iconst 1, 1), (159, .iastore, 1), (160, .aload_n 0, 1), (161, .iload_n 1, 1), (162, .iconst 1, 1), (163, .iadd, 1), (164, .aload_n 0, 1), (165, .getfield 60, 3), (168, .irem, 1), (169, .putfield 101, 3), (172, .return_, 1)]
theorem D8 : decs prog_1_method_10_code c8 = true := by decide +kernel
theorem d8 (k : Nat) {p : Nat} {i : Instr} {n : Nat} (h : c8[k]? = some (p, i, n)) : decode prog_1_method_10_code p = .ok (i, n) := dget D8 h
def c6 : List (Nat × Instr × Nat) := [(0, .iload_n 1, 1), (1, .ifCond .lt 18, 3), (4, .iload_n 1, 1), (5, .iconst 3, 1), (6, .if_icmp .gt 13, 3), (9, .iload_n 2, 1), (10, .ifCond .lt 9, 3), (13, .iload_n 2, 1), (14, .bipush 7, 2), (16, .if_icmp .le 5, 3), (19, .iconst 5, 1), (20, .ireturn, 1), (21, .aload_n 0, 1), (22, .getfield 37, 3), (25, .iload_n 1, 1), (26, .baload, 1), (27, .ifCond .eq 5, 3), (30, .iconst 4, 1), (31, .ireturn, 1), (32, .aload_n 0, 1), (33, .dup, 1), (34, .getfield 83, 3), (37, .iconst 1, 1), (38, .iadd, 1), (39, .putfield 83, 3), (42, .aload_n 0, 1), (43, .invokevirtual 86, 3), (46, .pop, 1), (47, .aload_n 0, 1), (48, .getfield 13, 3), (51, .iload_n 1, 1), (52, .bipush 8, 2), (54, .imul, 1), (55, .iload_n 2, 1), (56, .iadd, 1), (57, .iaload, 1), (58, .istore 5, 2), (60, .iload 5, 2), (62, .ifCond .lt 28, 3), (65, .iload 5, 2), (67, .bipush 32, 2), (69, .if_icmp .ge 21, 3), (72, .aload_n 0, 1), (73, .iload 5, 2), (75, .iload_n 1, 1), (76, .iload_n 3, 1), (77, .iload 4, 2), (79, .invokevirtual 90, 3), (82, .aload_n 0, 1), (83, .iload 5, 2), (85, .putfield 80, 3), (88, .iconst 1, 1), (89, .ireturn, 1), (90, .aload_n 0, 1), (91, .getfield 44, 3), (94, .iload_n 1, 1), (95, .dup2, 1), (96, .iaload, 1), (97, .iconst 1, 1), (98, .iadd, 1), (99, .iastore, 1), (100, .aload_n 0, 1), (101, .getfield 50, 3), (104, .iload_n 1, 1), (105, .dup2, 1), (106, .iaload, 1), (107, .iconst 1, 1), (108, .iadd, 1), (109, .iastore, 1), (110, .aload_n 0, 1), (111, .invokevirtual 94, 3), (114, .istore 6, 2), (116, .iload 6, 2), (118, .ifCond .ge 5, 3), (121, .iconst 3, 1), (122, .ireturn, 1), (123, .aload_n 0, 1), (124, .iload 6, 2), (126, .iload_n 1, 1), (127, .iload_n 2, 1), (128, .iload_n 3, 1), (129, .iload 4, 2), (131, .invokevirtual 97, 3), (134, .aload_n 0, 1), (135, .iload 6, 2), (137, .putfield 80, 3), (140, .iconst 2, 1), (141, .ireturn, 1)]
theorem D6 : decs prog_1_method_7_code c6 = true := by decide +kernel
theorem d6 (k : Nat) {p : Nat} {i : Instr} {n : Nat} (h : c6[k]? = some (p, i, n)) : decode prog_1_method_7_code p = .ok (i, n) := dget D6 h
def c9 : List (Nat × Instr × Nat) := [(0, .aload_n 0, 1), (1, .iload_n 1, 1), (2, .iload_n 2, 1), (3, .iconst 0, 1), (4, .iconst 0, 1), (5, .invokevirtual 73, 3), (8, .istore_n 3, 1), (9, .aload_n 0, 1), (10, .iload_n 3, 1), (11, .putfield 77, 3), (14, .iload_n 3, 1), (15, .iconst 1, 1), (16, .if_icmp .eq 8, 3), (19, .iload_n 3, 1), (20, .iconst 2, 1), (21, .if_icmp .ne 13, 3), (24, .aload_n 0, 1), (25, .getfield 22, 3), (28, .aload_n 0, 1), (29, .getfield 80, 3), (32, .iaload, 1), (33, .ireturn, 1), (34, .iconst 0, 1), (35, .ireturn, 1)]
theorem D9 : decs prog_1_method_3_code c9 = true := by decide +kernel
theorem d9 (k : Nat) {p : Nat} {i : Instr} {n : Nat} (h : c9[k]? = some (p, i, n)) : decode prog_1_method_3_code p = .ok (i, n) := dget D9 h
def c5 : List (Nat × Instr × Nat) := [(0, .aload_n 0, 1), (1, .iload_n 1, 1), (2, .iload_n 2, 1), (3, .iconst 1, 1), (4, .iload_n 3, 1), (5, .invokevirtual 73, 3), (8, .istore 4, 2), (10, .aload_n 0, 1), (11, .iload 4, 2), (13, .putfield 77, 3), (16, .iload 4, 2), (18, .ireturn, 1)]
theorem D5 : decs prog_1_method_4_code c5 = true := by decide +kernel
theorem d5 (k : Nat) {p : Nat} {i : Instr} {n : Nat} (h : c5[k]? = some (p, i, n)) : decode prog_1_method_4_code p = .ok (i, n) := dget D5 h
def c3 : List (Nat × Instr × Nat) := [(0, .aload_n 0, 1), (1, .dup, 1), (2, .getfield 83, 3), (5, .iconst 1, 1), (6, .iadd, 1), (7, .putfield 83, 3), (10, .aload_n 0, 1), (11, .invokevirtual 86, 3), (14, .ireturn, 1)]
theorem D3 : decs prog_1_method_6_code c3 = true := by decide +kernel
theorem d3 (k : Nat) {p : Nat} {i : Instr} {n : Nat} (h : c3[k]? = some (p, i, n)) : decode prog_1_method_6_code p = .ok (i, n) := dget D3 h
def c30 : List (Nat × Instr × Nat) := [(0, .aload_n 0, 1), (1, .getfield 16, 3), (4, .iload_n 1, 1), (5, .iconst (-1), 1), (6, .iastore, 1), (7, .aload_n 0, 1), (8, .getfield 19, 3), (11, .iload_n 1, 1), (12, .iconst 0, 1), (13, .iastore, 1), (14, .aload_n 0, 1), (15, .getfield 22, 3), (18, .iload_n 1, 1), (19, .iconst 0, 1), (20, .iastore, 1), (21, .aload_n 0, 1), (22, .getfield 25, 3), (25, .iload_n 1, 1), (26, .iconst 0, 1), (27, .iastore, 1), (28, .aload_n 0, 1), (29, .getfield 28, 3), (32, .iload_n 1, 1), (33, .iconst 0, 1), (34, .iastore, 1), (35, .aload_n 0, 1), (36, .getfield 31, 3), (39, .iload_n 1, 1), (40, .iconst 0, 1), (41, .iastore, 1), (42, .aload_n 0, 1), (43, .getfield 34, 3), (46, .iload_n 1, 1), (47, .iconst 0, 1), (48, .iastore, 1), (49, .return_, 1)]
theorem D30 : decs prog_1_method_12_code c30 = true := by decide +kernel
theorem d30 (k : Nat) {p : Nat} {i : Instr} {n : Nat} (h : c30[k]? = some (p, i, n)) : decode prog_1_method_12_code p = .ok (i, n) := dget D30 h
def c22 : List (Nat × Instr × Nat) := [(0, .aload_n 0, 1), (1, .getfield 47, 3), (4, .iload_n 1, 1), (5, .iconst 0, 1), (6, .iastore, 1), (7, .iconst 0, 1), (8, .istore_n 2, 1), (9, .iload_n 2, 1), (10, .aload_n 0, 1), (11, .getfield 60, 3), (14, .if_icmp .ge 82, 3), (17, .aload_n 0, 1), (18, .getfield 16, 3), (21, .iload_n 2, 1), (22, .iaload, 1), (23, .iload_n 1, 1), (24, .if_icmp .eq 6, 3), (27, .goto 63, 3), (30, .aload_n 0, 1), (31, .getfield 19, 3), (34, .iload_n 2, 1), (35, .iaload, 1), (36, .bipush 7, 2), (38, .iand, 1), (39, .istore_n 3, 1), (40, .aload_n 0, 1), (41, .getfield 7, 3), (44, .iload_n 1, 1), (45, .bipush 8, 2), (47, .imul, 1), (48, .iload_n 3, 1), (49, .iadd, 1), (50, .aload_n 0, 1), (51, .getfield 22, 3), (54, .iload_n 2, 1), (55, .iaload, 1), (56, .iastore, 1), (57, .aload_n 0, 1), (58, .getfield 47, 3), (61, .iload_n 1, 1), (62, .aload_n 0, 1), (63, .getfield 47, 3), (66, .iload_n 1, 1), (67, .iaload, 1), (68, .iconst 1, 1), (69, .iload_n 3, 1), (70, .ishl, 1), (71, .ior, 1), (72, .iastore, 1), (73, .aload_n 0, 1), (74, .getfield 13, 3), (77, .iload_n 1, 1), (78, .bipush 8, 2), (80, .imul, 1), (81, .iload_n 3, 1), (82, .iadd, 1), (83, .iconst (-1), 1), (84, .iastore, 1), (85, .aload_n 0, 1), (86, .iload_n 2, 1), (87, .invokevirtual 108, 3), (90, .iinc 2 1, 3), (93, .goto (-84), 3), (96, .aload_n 0, 1), (97, .getfield 37, 3), (100, .iload_n 1, 1), (101, .iconst 1, 1), (102, .bastore, 1), (103, .return_, 1)]
theorem D22 : decs prog_1_method_14_code c22 = true := by decide +kernel
theorem d22 (k : Nat) {p : Nat} {i : Instr} {n : Nat} (h : c22[k]? = some (p, i, n)) : decode prog_1_method_14_code p = .ok (i, n) := dget D22 h
def c21 : List (Nat × Instr × Nat) := [(0, .iload_n 1, 1), (1, .ifCond .lt 8, 3), (4, .iload_n 1, 1), (5, .iconst 3, 1), (6, .if_icmp .le 5, 3), (9, .iconst 5, 1), (10, .ireturn, 1), (11, .aload_n 0, 1), (12, .getfield 37, 3), (15, .iload_n 1, 1), (16, .baload, 1), (17, .ifCond .eq 5, 3), (20, .iconst 4, 1), (21, .ireturn, 1), (22, .aload_n 0, 1), (23, .iload_n 1, 1), (24, .invokevirtual 104, 3), (27, .bipush 6, 2), (29, .ireturn, 1)]
theorem D21 : decs prog_1_method_13_code c21 = true := by decide +kernel
theorem d21 (k : Nat) {p : Nat} {i : Instr} {n : Nat} (h : c21[k]? = some (p, i, n)) : decode prog_1_method_13_code p = .ok (i, n) := dget D21 h
def c24 : List (Nat × Instr × Nat) := [(0, .iconst 0, 1), (1, .istore_n 2, 1), (2, .iconst 0, 1), (3, .istore_n 3, 1), (4, .iload_n 3, 1), (5, .bipush 8, 2), (7, .if_icmp .ge 20, 3), (10, .iload_n 1, 1), (11, .iconst 1, 1), (12, .iload_n 3, 1), (13, .ishl, 1), (14, .iand, 1), (15, .ifCond .eq 6, 3), (18, .iinc 2 1, 3), (21, .iinc 3 1, 3), (24, .goto (-20), 3), (27, .iload_n 2, 1), (28, .ireturn, 1)]
theorem D24 : decs prog_1_method_19_code c24 = true := by decide +kernel
theorem d24 (k : Nat) {p : Nat} {i : Instr} {n : Nat} (h : c24[k]? = some (p, i, n)) : decode prog_1_method_19_code p = .ok (i, n) := dget D24 h
def c25 : List (Nat × Instr × Nat) := [(0, .iconst 0, 1), (1, .istore_n 1, 1), (2, .iconst 0, 1), (3, .istore_n 2, 1), (4, .iload_n 2, 1), (5, .aload_n 0, 1), (6, .getfield 60, 3), (9, .if_icmp .ge 21, 3), (12, .aload_n 0, 1), (13, .getfield 16, 3), (16, .iload_n 2, 1), (17, .iaload, 1), (18, .ifCond .ge 6, 3), (21, .iinc 1 1, 3), (24, .iinc 2 1, 3), (27, .goto (-23), 3), (30, .iload_n 1, 1), (31, .ireturn, 1)]
theorem D25 : decs prog_1_method_18_code c25 = true := by decide +kernel
theorem d25 (k : Nat) {p : Nat} {i : Instr} {n : Nat} (h : c25[k]? = some (p, i, n)) : decode prog_1_method_18_code p = .ok (i, n) := dget D25 h
def c31 : List (Nat × Instr × Nat) := [(0, .iconst 0, 1), (1, .istore_n 1, 1), (2, .iload_n 1, 1), (3, .aload_n 0, 1), (4, .getfield 60, 3), (7, .if_icmp .ge 20, 3), (10, .aload_n 0, 1), (11, .getfield 16, 3), (14, .iload_n 1, 1), (15, .iaload, 1), (16, .ifCond .ge 5, 3), (19, .iload_n 1, 1), (20, .ireturn, 1), (21, .iinc 1 1, 3), (24, .goto (-22), 3), (27, .iconst (-1), 1), (28, .ireturn, 1)]
theorem D31 : decs prog_1_method_17_code c31 = true := by decide +kernel
theorem d31 (k : Nat) {p : Nat} {i : Instr} {n : Nat} (h : c31[k]? = some (p, i, n)) : decode prog_1_method_17_code p = .ok (i, n) := dget D31 h
def c26 : List (Nat × Instr × Nat) := [(0, .iconst 0, 1), (1, .istore_n 2, 1), (2, .iload_n 2, 1), (3, .bipush 8, 2), (5, .if_icmp .ge 113, 3), (8, .aload_n 0, 1), (9, .getfield 47, 3), (12, .iload_n 1, 1), (13, .iaload, 1), (14, .iconst 1, 1), (15, .iload_n 2, 1), (16, .ishl, 1), (17, .iand, 1), (18, .ifCond .ne 6, 3), (21, .goto 91, 3), (24, .aload_n 0, 1), (25, .invokevirtual 121, 3), (28, .istore_n 3, 1), (29, .iload_n 3, 1), (30, .ifCond .ge 6, 3), (33, .goto 79, 3), (36, .aload_n 0, 1), (37, .getfield 16, 3), (40, .iload_n 3, 1), (41, .iload_n 1, 1), (42, .iastore, 1), (43, .aload_n 0, 1), (44, .getfield 19, 3), (47, .iload_n 3, 1), (48, .iload_n 2, 1), (49, .iastore, 1), (50, .aload_n 0, 1), (51, .getfield 13, 3), (54, .iload_n 1, 1), (55, .bipush 8, 2), (57, .imul, 1), (58, .iload_n 2, 1), (59, .iadd, 1), (60, .iload_n 3, 1), (61, .iastore, 1), (62, .aload_n 0, 1), (63, .getfield 22, 3), (66, .iload_n 3, 1), (67, .aload_n 0, 1), (68, .getfield 7, 3), (71, .iload_n 1, 1), (72, .bipush 8, 2), (74, .imul, 1), (75, .iload_n 2, 1), (76, .iadd, 1), (77, .iaload, 1), (78, .iastore, 1), (79, .aload_n 0, 1), (80, .getfield 25, 3), (83, .iload_n 3, 1), (84, .iconst 0, 1), (85, .iastore, 1), (86, .aload_n 0, 1), (87, .getfield 28, 3), (90, .iload_n 3, 1), (91, .iconst 0, 1), (92, .iastore, 1), (93, .aload_n 0, 1), (94, .getfield 34, 3), (97, .iload_n 3, 1), (98, .iconst 0, 1), (99, .iastore, 1), (100, .aload_n 0, 1), (101, .getfield 31, 3), (104, .iload_n 3, 1), (105, .aload_n 0, 1), (106, .getfield 41, 3), (109, .iload_n 1, 1), (110, .iaload, 1), (111, .iastore, 1), (112, .iinc 2 1, 3), (115, .goto (-113), 3), (118, .aload_n 0, 1), (119, .getfield 47, 3), (122, .iload_n 1, 1), (123, .iconst 0, 1), (124, .iastore, 1), (125, .aload_n 0, 1), (126, .getfield 37, 3), (129, .iload_n 1, 1), (130, .iconst 0, 1), (131, .bastore, 1), (132, .return_, 1)]
theorem D26 : decs prog_1_method_16_code c26 = true := by decide +kernel
theorem d26 (k : Nat) {p : Nat} {i : Instr} {n : Nat} (h : c26[k]? = some (p, i, n)) : decode prog_1_method_16_code p = .ok (i, n) := dget D26 h
def c23 : List (Nat × Instr × Nat) := [(0, .iload_n 1, 1), (1, .ifCond .lt 8, 3), (4, .iload_n 1, 1), (5, .iconst 3, 1), (6, .if_icmp .le 5, 3), (9, .iconst 5, 1), (10, .ireturn, 1), (11, .aload_n 0, 1), (12, .getfield 37, 3), (15, .iload_n 1, 1), (16, .baload, 1), (17, .ifCond .ne 6, 3), (20, .bipush 7, 2), (22, .ireturn, 1), (23, .aload_n 0, 1), (24, .aload_n 0, 1), (25, .getfield 47, 3), (28, .iload_n 1, 1), (29, .iaload, 1), (30, .invokevirtual 111, 3), (33, .istore_n 2, 1), (34, .aload_n 0, 1), (35, .invokevirtual 115, 3), (38, .istore_n 3, 1), (39, .iload_n 2, 1), (40, .iload_n 3, 1), (41, .if_icmp .le 5, 3), (44, .iconst 3, 1), (45, .ireturn, 1), (46, .aload_n 0, 1), (47, .iload_n 1, 1), (48, .invokevirtual 118, 3), (51, .bipush 6, 2), (53, .ireturn, 1)]
theorem D23 : decs prog_1_method_15_code c23 = true := by decide +kernel
theorem d23 (k : Nat) {p : Nat} {i : Instr} {n : Nat} (h : c23[k]? = some (p, i, n)) : decode prog_1_method_15_code p = .ok (i, n) := dget D23 h
def c12 : List (Nat × Instr × Nat) := [(0, .iload_n 1, 1), (1, .ifCond .eq 27, 3), (4, .iload_n 2, 1), (5, .iconst 2, 1), (6, .if_icmp .lt 22, 3), (9, .iload_n 3, 1), (10, .ifCond .lt 18, 3), (13, .iload_n 3, 1), (14, .iconst 3, 1), (15, .if_icmp .gt 13, 3), (18, .aload_n 0, 1), (19, .iload_n 3, 1), (20, .invokevirtual 104, 3), (23, .bipush 16, 2), (25, .iload_n 3, 1), (26, .iadd, 1), (27, .ireturn, 1), (28, .iload 4, 2), (30, .ifCond .lt 52, 3), (33, .iload 4, 2), (35, .iconst 3, 1), (36, .if_icmp .gt 46, 3), (39, .iload 5, 2), (41, .ifCond .eq 41, 3), (44, .aload_n 0, 1), (45, .aload_n 0, 1), (46, .getfield 47, 3), (49, .iload 4, 2), (51, .iaload, 1), (52, .invokevirtual 111, 3), (55, .istore 6, 2), (57, .aload_n 0, 1), (58, .invokevirtual 115, 3), (61, .istore 7, 2), (63, .iload 6, 2), (65, .iload 7, 2), (67, .if_icmp .gt 15, 3), (70, .aload_n 0, 1), (71, .iload 4, 2), (73, .invokevirtual 118, 3), (76, .bipush 32, 2), (78, .iload 4, 2), (80, .iadd, 1), (81, .ireturn, 1), (82, .iconst 0, 1), (83, .ireturn, 1)]
theorem D12 : decs prog_1_method_21_code c12 = true := by decide +kernel
theorem d12 (k : Nat) {p : Nat} {i : Instr} {n : Nat} (h : c12[k]? = some (p, i, n)) : decode prog_1_method_21_code p = .ok (i, n) := dget D12 h
def c11 : List (Nat × Instr × Nat) := [(0, .iconst 0, 1), (1, .istore_n 1, 1), (2, .iconst (-1), 1), (3, .istore_n 2, 1), (4, .iconst (-1), 1), (5, .istore_n 3, 1), (6, .iconst 0, 1), (7, .istore 4, 2), (9, .iconst 1, 1), (10, .istore 5, 2), (12, .iconst 0, 1), (13, .istore 6, 2), (15, .iload 6, 2), (17, .iconst 4, 1), (18, .if_icmp .ge 87, 3), (21, .aload_n 0, 1), (22, .getfield 37, 3), (25, .iload 6, 2), (27, .baload, 1), (28, .ifCond .eq 13, 3), (31, .iload_n 3, 1), (32, .ifCond .ge 67, 3), (35, .iload 6, 2), (37, .istore_n 3, 1), (38, .goto 61, 3), (41, .iinc 1 1, 3), (44, .iload 6, 2), (46, .istore_n 2, 1), (47, .aload_n 0, 1), (48, .getfield 50, 3), (51, .iload 6, 2), (53, .iaload, 1), (54, .aload_n 0, 1), (55, .getfield 70, 3), (58, .imul, 1), (59, .aload_n 0, 1), (60, .getfield 53, 3), (63, .iload 6, 2), (65, .iaload, 1), (66, .if_icmp .le 6, 3), (69, .iconst 1, 1), (70, .istore 4, 2), (72, .aload_n 0, 1), (73, .getfield 50, 3), (76, .iload 6, 2), (78, .iaload, 1), (79, .iconst 2, 1), (80, .imul, 1), (81, .aload_n 0, 1), (82, .getfield 70, 3), (85, .imul, 1), (86, .aload_n 0, 1), (87, .getfield 53, 3), (90, .iload 6, 2), (92, .iaload, 1), (93, .if_icmp .le 6, 3), (96, .iconst 0, 1), (97, .istore 5, 2), (99, .iinc 6 1, 3), (102, .goto (-87), 3), (105, .aload_n 0, 1), (106, .iload 4, 2), (108, .iload_n 1, 1), (109, .iload_n 2, 1), (110, .iload_n 3, 1), (111, .iload 5, 2), (113, .invokevirtual 124, 3), (116, .istore 6, 2), (118, .iconst 0, 1), (119, .istore 7, 2), (121, .iload 7, 2), (123, .iconst 4, 1), (124, .if_icmp .ge 25, 3), (127, .aload_n 0, 1), (128, .getfield 50, 3), (131, .iload 7, 2), (133, .iconst 0, 1), (134, .iastore, 1), (135, .aload_n 0, 1), (136, .getfield 53, 3), (139, .iload 7, 2), (141, .iconst 0, 1), (142, .iastore, 1), (143, .iinc 7 1, 3), (146, .goto (-25), 3), (149, .iload 6, 2), (151, .ireturn, 1)]
theorem D11 : decs prog_1_method_20_code c11 = true := by decide +kernel
theorem d11 (k : Nat) {p : Nat} {i : Instr} {n : Nat} (h : c11[k]? = some (p, i, n)) : decode prog_1_method_20_code p = .ok (i, n) := dget D11 h
def c14 : List (Nat × Instr × Nat) := [(0, .iload_n 1, 1), (1, .ifCond .lt 8, 3), (4, .iload_n 1, 1), (5, .iconst 3, 1), (6, .if_icmp .le 5, 3), (9, .iconst (-1), 1), (10, .ireturn, 1), (11, .iload_n 2, 1), (12, .ifCond .ne 10, 3), (15, .aload_n 0, 1), (16, .getfield 41, 3), (19, .iload_n 1, 1), (20, .iaload, 1), (21, .ireturn, 1), (22, .iload_n 2, 1), (23, .iconst 1, 1), (24, .if_icmp .ne 10, 3), (27, .aload_n 0, 1), (28, .getfield 44, 3), (31, .iload_n 1, 1), (32, .iaload, 1), (33, .ireturn, 1), (34, .iload_n 2, 1), (35, .iconst 2, 1), (36, .if_icmp .ne 18, 3), (39, .aload_n 0, 1), (40, .getfield 37, 3), (43, .iload_n 1, 1), (44, .baload, 1), (45, .ifCond .eq 7, 3), (48, .iconst 1, 1), (49, .goto 4, 3), (52, .iconst 0, 1), (53, .ireturn, 1), (54, .iload_n 2, 1), (55, .iconst 3, 1), (56, .if_icmp .ne 10, 3), (59, .aload_n 0, 1), (60, .getfield 47, 3), (63, .iload_n 1, 1), (64, .iaload, 1), (65, .ireturn, 1), (66, .iload_n 2, 1), (67, .iconst 4, 1), (68, .if_icmp .ne 10, 3), (71, .aload_n 0, 1), (72, .getfield 50, 3), (75, .iload_n 1, 1), (76, .iaload, 1), (77, .ireturn, 1), (78, .iload_n 2, 1), (79, .iconst 5, 1), (80, .if_icmp .ne 10, 3), (83, .aload_n 0, 1), (84, .getfield 53, 3), (87, .iload_n 1, 1), (88, .iaload, 1), (89, .ireturn, 1), (90, .iconst (-1), 1), (91, .ireturn, 1)]
theorem D14 : decs prog_1_method_28_code c14 = true := by decide +kernel
theorem d14 (k : Nat) {p : Nat} {i : Instr} {n : Nat} (h : c14[k]? = some (p, i, n)) : decode prog_1_method_28_code p = .ok (i, n) := dget D14 h
def c15 : List (Nat × Instr × Nat) := [(0, .iload_n 1, 1), (1, .ifCond .lt 18, 3), (4, .iload_n 1, 1), (5, .iconst 3, 1), (6, .if_icmp .gt 13, 3), (9, .iload_n 2, 1), (10, .ifCond .lt 9, 3), (13, .iload_n 2, 1), (14, .bipush 7, 2), (16, .if_icmp .le 5, 3), (19, .iconst (-1), 1), (20, .ireturn, 1), (21, .aload_n 0, 1), (22, .getfield 13, 3), (25, .iload_n 1, 1), (26, .bipush 8, 2), (28, .imul, 1), (29, .iload_n 2, 1), (30, .iadd, 1), (31, .iaload, 1), (32, .ireturn, 1)]
theorem D15 : decs prog_1_method_22_code c15 = true := by decide +kernel
theorem d15 (k : Nat) {p : Nat} {i : Instr} {n : Nat} (h : c15[k]? = some (p, i, n)) : decode prog_1_method_22_code p = .ok (i, n) := dget D15 h
def c17 : List (Nat × Instr × Nat) := [(0, .iload_n 1, 1), (1, .ifCond .lt 18, 3), (4, .iload_n 1, 1), (5, .iconst 3, 1), (6, .if_icmp .gt 13, 3), (9, .iload_n 2, 1), (10, .ifCond .lt 9, 3), (13, .iload_n 2, 1), (14, .bipush 7, 2), (16, .if_icmp .le 5, 3), (19, .iconst 0, 1), (20, .ireturn, 1), (21, .aload_n 0, 1), (22, .getfield 7, 3), (25, .iload_n 1, 1), (26, .bipush 8, 2), (28, .imul, 1), (29, .iload_n 2, 1), (30, .iadd, 1), (31, .iaload, 1), (32, .ireturn, 1)]
theorem D17 : decs prog_1_method_29_code c17 = true := by decide +kernel
theorem d17 (k : Nat) {p : Nat} {i : Instr} {n : Nat} (h : c17[k]? = some (p, i, n)) : decode prog_1_method_29_code p = .ok (i, n) := dget D17 h
def c27 : List (Nat × Instr × Nat) := [(0, .iload_n 1, 1), (1, .ifCond .lt 11, 3), (4, .iload_n 1, 1), (5, .aload_n 0, 1), (6, .getfield 60, 3), (9, .if_icmp .lt 5, 3), (12, .iconst (-1), 1), (13, .ireturn, 1), (14, .aload_n 0, 1), (15, .getfield 16, 3), (18, .iload_n 1, 1), (19, .iaload, 1), (20, .istore_n 2, 1), (21, .iload_n 2, 1), (22, .ifCond .ge 5, 3), (25, .iconst 0, 1), (26, .ireturn, 1), (27, .bipush 32, 2), (29, .iload_n 2, 1), (30, .bipush 8, 2), (32, .imul, 1), (33, .iadd, 1), (34, .aload_n 0, 1), (35, .getfield 19, 3), (38, .iload_n 1, 1), (39, .iaload, 1), (40, .iadd, 1), (41, .bipush 64, 2), (43, .aload_n 0, 1), (44, .getfield 25, 3), (47, .iload_n 1, 1), (48, .iaload, 1), (49, .imul, 1), (50, .iadd, 1), (51, .sipush 128, 3), (54, .aload_n 0, 1), (55, .getfield 28, 3), (58, .iload_n 1, 1), (59, .iaload, 1), (60, .imul, 1), (61, .iadd, 1), (62, .istore_n 3, 1), (63, .aload_n 0, 1), (64, .getfield 34, 3), (67, .iload_n 1, 1), (68, .iaload, 1), (69, .ifCond .eq 9, 3), (72, .iinc 3 256, 6), (78, .iload_n 3, 1), (79, .ireturn, 1)]
theorem D27 : decs prog_1_method_23_code c27 = true := by decide +kernel
theorem d27 (k : Nat) {p : Nat} {i : Instr} {n : Nat} (h : c27[k]? = some (p, i, n)) : decode prog_1_method_23_code p = .ok (i, n) := dget D27 h
def c28 : List (Nat × Instr × Nat) := [(0, .iload_n 1, 1), (1, .ifCond .lt 20, 3), (4, .iload_n 1, 1), (5, .aload_n 0, 1), (6, .getfield 60, 3), (9, .if_icmp .ge 12, 3), (12, .aload_n 0, 1), (13, .getfield 16, 3), (16, .iload_n 1, 1), (17, .iaload, 1), (18, .ifCond .ge 5, 3), (21, .iconst (-1), 1), (22, .ireturn, 1), (23, .aload_n 0, 1), (24, .getfield 31, 3), (27, .iload_n 1, 1), (28, .iaload, 1), (29, .ireturn, 1)]
theorem D28 : decs prog_1_method_24_code c28 = true := by decide +kernel
theorem d28 (k : Nat) {p : Nat} {i : Instr} {n : Nat} (h : c28[k]? = some (p, i, n)) : decode prog_1_method_24_code p = .ok (i, n) := dget D28 h
def c29 : List (Nat × Instr × Nat) := [(0, .iload_n 1, 1), (1, .ifCond .lt 20, 3), (4, .iload_n 1, 1), (5, .aload_n 0, 1), (6, .getfield 60, 3), (9, .if_icmp .ge 12, 3), (12, .aload_n 0, 1), (13, .getfield 16, 3), (16, .iload_n 1, 1), (17, .iaload, 1), (18, .ifCond .ge 5, 3), (21, .iconst 0, 1), (22, .ireturn, 1), (23, .aload_n 0, 1), (24, .getfield 34, 3), (27, .iload_n 1, 1), (28, .iaload, 1), (29, .ireturn, 1)]
theorem D29 : decs prog_1_method_25_code c29 = true := by decide +kernel
theorem d29 (k : Nat) {p : Nat} {i : Instr} {n : Nat} (h : c29[k]? = some (p, i, n)) : decode prog_1_method_25_code p = .ok (i, n) := dget D29 h
def c16 : List (Nat × Instr × Nat) := [(0, .lconst 0, 1), (1, .lstore_n 2, 1), (2, .iconst 0, 1), (3, .istore 4, 2), (5, .iload 4, 2), (7, .iconst 4, 1), (8, .if_icmp .ge 149, 3), (11, .iload 4, 2), (13, .iload_n 1, 1), (14, .if_icmp .ne 6, 3), (17, .goto 134, 3), (20, .iconst 0, 1), (21, .istore 5, 2), (23, .iload 5, 2), (25, .bipush 6, 2), (27, .if_icmp .ge 25, 3), (30, .lload_n 2, 1), (31, .ldc2_w 46, 3), (34, .lmul, 1), (35, .aload_n 0, 1), (36, .iload 4, 2), (38, .iload 5, 2), (40, .invokevirtual 40, 3), (43, .i2l, 1), (44, .ladd, 1), (45, .lstore_n 2, 1), (46, .iinc 5 1, 3), (49, .goto (-26), 3), (52, .iconst 0, 1), (53, .istore 5, 2), (55, .iload 5, 2), (57, .bipush 8, 2), (59, .if_icmp .ge 92, 3), (62, .aload_n 0, 1), (63, .iload 4, 2), (65, .iload 5, 2), (67, .invokevirtual 43, 3), (70, .istore 6, 2), (72, .lload_n 2, 1), (73, .ldc2_w 46, 3), (76, .lmul, 1), (77, .iload 6, 2), (79, .i2l, 1), (80, .ladd, 1), (81, .lstore_n 2, 1), (82, .lload_n 2, 1), (83, .ldc2_w 46, 3), (86, .lmul, 1), (87, .aload_n 0, 1), (88, .iload 4, 2), (90, .iload 5, 2), (92, .invokevirtual 70, 3), (95, .i2l, 1), (96, .ladd, 1), (97, .lstore_n 2, 1), (98, .iload 6, 2), (100, .ifCond .lt 45, 3), (103, .lload_n 2, 1), (104, .ldc2_w 46, 3), (107, .lmul, 1), (108, .aload_n 0, 1), (109, .iload 6, 2), (111, .invokevirtual 61, 3), (114, .i2l, 1), (115, .ladd, 1), (116, .lstore_n 2, 1), (117, .lload_n 2, 1), (118, .ldc2_w 46, 3), (121, .lmul, 1), (122, .aload_n 0, 1), (123, .iload 6, 2), (125, .invokevirtual 64, 3), (128, .i2l, 1), (129, .ladd, 1), (130, .lstore_n 2, 1), (131, .lload_n 2, 1), (132, .ldc2_w 46, 3), (135, .lmul, 1), (136, .aload_n 0, 1), (137, .iload 6, 2), (139, .invokevirtual 67, 3), (142, .i2l, 1), (143, .ladd, 1), (144, .lstore_n 2, 1), (145, .iinc 5 1, 3), (148, .goto (-93), 3), (151, .iinc 4 1, 3), (154, .goto (-149), 3), (157, .lload_n 2, 1), (158, .lreturn, 1)]
theorem D16 : decs method_4_code c16 = true := by decide +kernel
theorem d16 (k : Nat) {p : Nat} {i : Instr} {n : Nat} (h : c16[k]? = some (p, i, n)) : decode method_4_code p = .ok (i, n) := dget D16 h
def c18 : List (Nat × Instr × Nat) := [(0, .aload_n 0, 1), (1, .getfield 101, 3), (4, .ireturn, 1)]
theorem D18 : decs prog_1_method_26_code c18 = true := by decide +kernel
theorem d18 (k : Nat) {p : Nat} {i : Instr} {n : Nat} (h : c18[k]? = some (p, i, n)) : decode prog_1_method_26_code p = .ok (i, n) := dget D18 h
def c19 : List (Nat × Instr × Nat) := [(0, .aload_n 0, 1), (1, .getfield 83, 3), (4, .ireturn, 1)]
theorem D19 : decs prog_1_method_27_code c19 = true := by decide +kernel
theorem d19 (k : Nat) {p : Nat} {i : Instr} {n : Nat} (h : c19[k]? = some (p, i, n)) : decode prog_1_method_27_code p = .ok (i, n) := dget D19 h
def c20 : List (Nat × Instr × Nat) := [(0, .aload_n 0, 1), (1, .getfield 77, 3), (4, .ireturn, 1)]
theorem D20 : decs prog_1_method_5_code c20 = true := by decide +kernel
theorem d20 (k : Nat) {p : Nat} {i : Instr} {n : Nat} (h : c20[k]? = some (p, i, n)) : decode prog_1_method_5_code p = .ok (i, n) := dget D20 h
def c13 : List (Nat × Instr × Nat) := [(0, .iload_n 1, 1), (1, .iconst 3, 1), (2, .if_icmp .gt 12, 3), (5, .aload_n 0, 1), (6, .iload_n 1, 1), (7, .iconst 2, 1), (8, .invokevirtual 40, 3), (11, .ifCond .eq 5, 3), (14, .iconst 1, 1), (15, .ireturn, 1), (16, .iconst 0, 1), (17, .istore_n 2, 1), (18, .lconst 0, 1), (19, .lstore_n 3, 1), (20, .iconst 0, 1), (21, .istore 5, 2), (23, .iload 5, 2), (25, .bipush 8, 2), (27, .if_icmp .ge 48, 3), (30, .aload_n 0, 1), (31, .iload_n 1, 1), (32, .iload 5, 2), (34, .invokevirtual 43, 3), (37, .ifCond .ge 6, 3), (40, .goto 29, 3), (43, .aload_n 0, 1), (44, .iload_n 1, 1), (45, .iload 5, 2), (47, .invokevirtual 12, 3), (50, .istore 6, 2), (52, .iload_n 2, 1), (53, .iconst 1, 1), (54, .iload 5, 2), (56, .ishl, 1), (57, .ior, 1), (58, .istore_n 2, 1), (59, .lload_n 3, 1), (60, .ldc2_w 46, 3), (63, .lmul, 1), (64, .iload 6, 2), (66, .i2l, 1), (67, .ladd, 1), (68, .lstore_n 3, 1), (69, .iinc 5 1, 3), (72, .goto (-49), 3), (75, .aload_n 0, 1), (76, .iload_n 1, 1), (77, .invokestatic 48, 3), (80, .lstore 5, 2), (82, .aload_n 0, 1), (83, .iload_n 1, 1), (84, .iconst 0, 1), (85, .invokevirtual 40, 3), (88, .istore 7, 2), (90, .aload_n 0, 1), (91, .iload_n 1, 1), (92, .iconst 1, 1), (93, .invokevirtual 40, 3), (96, .istore 8, 2), (98, .aload_n 0, 1), (99, .iload_n 1, 1), (100, .iconst 4, 1), (101, .invokevirtual 40, 3), (104, .istore 9, 2), (106, .aload_n 0, 1), (107, .iload_n 1, 1), (108, .iconst 5, 1), (109, .invokevirtual 40, 3), (112, .istore 10, 2), (114, .aload_n 0, 1), (115, .invokevirtual 52, 3), (118, .istore 11, 2), (120, .aload_n 0, 1), (121, .invokevirtual 55, 3), (124, .istore 12, 2), (126, .aload_n 0, 1), (127, .invokevirtual 58, 3), (130, .istore 13, 2), (132, .aload_n 0, 1), (133, .iload_n 1, 1), (134, .invokevirtual 24, 3), (137, .bipush 6, 2), (139, .if_icmp .eq 5, 3), (142, .iconst 0, 1), (143, .ireturn, 1), (144, .aload_n 0, 1), (145, .iload_n 1, 1), (146, .iconst 3, 1), (147, .invokevirtual 40, 3), (150, .iload_n 2, 1), (151, .if_icmp .eq 5, 3), (154, .iconst 0, 1), (155, .ireturn, 1), (156, .aload_n 0, 1), (157, .iload_n 1, 1), (158, .invokevirtual 28, 3), (161, .bipush 6, 2), (163, .if_icmp .eq 5, 3), (166, .iconst 0, 1), (167, .ireturn, 1), (168, .aload_n 0, 1), (169, .iload_n 1, 1), (170, .iconst 3, 1), (171, .invokevirtual 40, 3), (174, .ifCond .ne 12, 3), (177, .aload_n 0, 1), (178, .iload_n 1, 1), (179, .iconst 2, 1), (180, .invokevirtual 40, 3), (183, .ifCond .eq 5, 3), (186, .iconst 0, 1), (187, .ireturn, 1), (188, .aload_n 0, 1), (189, .iload_n 1, 1), (190, .iconst 0, 1), (191, .invokevirtual 40, 3), (194, .iload 7, 2), (196, .if_icmp .ne 14, 3), (199, .aload_n 0, 1), (200, .iload_n 1, 1), (201, .iconst 1, 1), (202, .invokevirtual 40, 3), (205, .iload 8, 2), (207, .if_icmp .eq 5, 3), (210, .iconst 0, 1), (211, .ireturn, 1), (212, .aload_n 0, 1), (213, .iload_n 1, 1), (214, .iconst 4, 1), (215, .invokevirtual 40, 3), (218, .iload 9, 2), (220, .if_icmp .ne 14, 3), (223, .aload_n 0, 1), (224, .iload_n 1, 1), (225, .iconst 5, 1), (226, .invokevirtual 40, 3), (229, .iload 10, 2), (231, .if_icmp .eq 5, 3), (234, .iconst 0, 1), (235, .ireturn, 1), (236, .aload_n 0, 1), (237, .invokevirtual 52, 3), (240, .iload 11, 2), (242, .if_icmp .ne 32, 3), (245, .aload_n 0, 1), (246, .invokevirtual 55, 3), (249, .iload 12, 2), (251, .if_icmp .ne 23, 3), (254, .aload_n 0, 1), (255, .invokevirtual 58, 3), (258, .iload 13, 2), (260, .if_icmp .ne 14, 3), (263, .aload_n 0, 1), (264, .iload_n 1, 1), (265, .invokestatic 48, 3), (268, .lload 5, 2), (270, .lcmp, 1), (271, .ifCond .eq 5, 3), (274, .iconst 0, 1), (275, .ireturn, 1), (276, .iconst 0, 1), (277, .istore 14, 2), (279, .iload 14, 2), (281, .bipush 8, 2), (283, .if_icmp .ge 80, 3), (286, .aload_n 0, 1), (287, .iload_n 1, 1), (288, .iload 14, 2), (290, .invokevirtual 43, 3), (293, .istore 15, 2), (295, .iload_n 2, 1), (296, .iload 14, 2), (298, .ishr, 1), (299, .iconst 1, 1), (300, .iand, 1), (301, .ifCond .ne 10, 3), (304, .iload 15, 2), (306, .ifCond .lt 51, 3), (309, .iconst 0, 1), (310, .ireturn, 1), (311, .iload 15, 2), (313, .ifCond .lt 42, 3), (316, .aload_n 0, 1), (317, .iload 15, 2), (319, .invokevirtual 61, 3), (322, .bipush 32, 2), (324, .iload_n 1, 1), (325, .bipush 8, 2), (327, .imul, 1), (328, .iadd, 1), (329, .iload 14, 2), (331, .iadd, 1), (332, .if_icmp .ne 23, 3), (335, .aload_n 0, 1), (336, .iload 15, 2), (338, .invokevirtual 64, 3), (341, .iload 7, 2), (343, .if_icmp .ne 12, 3), (346, .aload_n 0, 1), (347, .iload 15, 2), (349, .invokevirtual 67, 3), (352, .ifCond .eq 5, 3), (355, .iconst 0, 1), (356, .ireturn, 1), (357, .iinc 14 1, 3), (360, .goto (-81), 3), (363, .lconst 0, 1), (364, .lstore 14, 2), (366, .lconst 0, 1), (367, .lstore 16, 2), (369, .iconst 0, 1), (370, .istore 18, 2), (372, .iload 18, 2), (374, .bipush 8, 2), (376, .if_icmp .ge 63, 3), (379, .iload_n 2, 1), (380, .iload 18, 2), (382, .ishr, 1), (383, .iconst 1, 1), (384, .iand, 1), (385, .ifCond .ne 6, 3), (388, .goto 45, 3), (391, .aload_n 0, 1), (392, .iload_n 1, 1), (393, .iload 18, 2), (395, .invokevirtual 70, 3), (398, .istore 19, 2), (400, .aload_n 0, 1), (401, .iload_n 1, 1), (402, .iload 18, 2), (404, .invokevirtual 12, 3), (407, .istore 20, 2), (409, .lload 14, 2), (411, .ldc2_w 46, 3), (414, .lmul, 1), (415, .iload 19, 2), (417, .i2l, 1), (418, .ladd, 1), (419, .lstore 14, 2), (421, .lload 16, 2), (423, .ldc2_w 46, 3), (426, .lmul, 1), (427, .iload 20, 2), (429, .i2l, 1), (430, .ladd, 1), (431, .lstore 16, 2), (433, .iinc 18 1, 3), (436, .goto (-64), 3), (439, .lload 14, 2), (441, .lload_n 3, 1), (442, .lcmp, 1), (443, .ifCond .ne 14, 3), (446, .lload 16, 2), (448, .lload_n 3, 1), (449, .lcmp, 1), (450, .ifCond .ne 7, 3), (453, .iconst 1, 1), (454, .goto 4, 3), (457, .iconst 0, 1), (458, .ireturn, 1)]
theorem D13 : decs method_3_code c13 = true := by decide +kernel
theorem d13 (k : Nat) {p : Nat} {i : Instr} {n : Nat} (h : c13[k]? = some (p, i, n)) : decode method_3_code p = .ok (i, n) := dget D13 h
def H0 (sn : Nat) (sf : Nat → Int32) : MHeap := [.inr (false, tab sn sf)]
def KL (sn : Nat) (sf : Nat → Int32) (s : St) : MHeap := KH flds al Ln (H0 sn sf) [] s
def f_clamp (s : St) (a0 : Int32) (a1 : Int32) (a2 : Int32) : Option (Int32) :=
  if a0 < a1 then
    some a1
  else
    if a2 < a0 then
      some a2
    else
      some a0
set_option maxRecDepth 100000 in
theorem e_clamp {g : GT} {s : St} {a0 : Int32} {a1 : Int32} {a2 : Int32} {w : Int32} (hw : HW g) {K : St → MHeap} {o : Nat} {r : Nat → Nat} (V : View (GG g) Ln K o r) (hr : f_clamp s a0 a1 a2 = some w) : EvC (GG g) M_clamp [.ref o, .int a0, .int a1, .int a2] (K s) ((some (.int w)), (K s)) := by
  refine EvC.enter (L0 := [.val (.ref o), .val (.int a0), .val (.int a1), .val (.int a2)]) pl_clamp (fun h => nomatch h) rfl rfl ?_
  unfold f_clamp at hr
  refine Ev.iloadN (d2 0 rfl) rfl ?_
  refine Ev.iloadN (d2 1 rfl) rfl ?_
  refine Ev.icge (t := 7) (d2 2 rfl) rfl (fun c1 => ?_) (fun c1 => ?_)
  · replace hr := (if_pos c1).symm.trans hr
    refine Ev.iloadN (d2 3 rfl) rfl ?_
    cases hr
    exact Ev.ireturn rfl (d2 4 rfl)
  · replace hr := (if_neg c1).symm.trans hr
    refine Ev.iloadN (d2 5 rfl) rfl ?_
    refine Ev.iloadN (d2 6 rfl) rfl ?_
    refine Ev.icle (t := 14) (d2 7 rfl) rfl (fun c2 => ?_) (fun c2 => ?_)
    · replace hr := (if_pos c2).symm.trans hr
      refine Ev.iloadN (d2 8 rfl) rfl ?_
      cases hr
      exact Ev.ireturn rfl (d2 9 rfl)
    · replace hr := (if_neg c2).symm.trans hr
      refine Ev.iloadN (d2 10 rfl) rfl ?_
      cases hr
      exact Ev.ireturn rfl (d2 11 rfl)
def f_ctor_170 (n : Nat) : Nat → Int32 → St → Option (St)
  | 0 => fun _ _ => none
  | k + 1 => fun x5 s =>
    if x5 < (32 : Int32) then
      grd (inb x5 32) <|
      bnd (setA s 2 (ix x5) (-1 : Int32)) fun s3 =>
      bnd (setA s3 1 (ix x5) (-1 : Int32)) fun s4 =>
      f_ctor_170 n k (x5 + (1 : Int32)) s4
    else
      some s
set_option maxRecDepth 100000 in
theorem e_ctor_170 {g : GT} {n : Nat} (hw : HW g) {K : St → MHeap} {o : Nat} {r : Nat → Nat} (V : View (GG g) Ln K o r) (k : Nat) : ∀ (x5 : Int32) (s : St) (y1 : Slot) (hy1 : one1 y1 = true) (y2 : Slot) (hy2 : one1 y2 = true) (y3 : Slot) (hy3 : one1 y3 = true) (y4 : Slot) (hy4 : one1 y4 = true) (w : St), f_ctor_170 n k x5 s = some w → Ev (GG g) M_ctor 170 [.val (.ref o), y1, y2, y3, y4, .val (.int x5)] [] (K s) (none, (K w)) := by
  induction k with
  | zero => intro x5 s y1 hy1 y2 hy2 y3 hy3 y4 hy4 w hr; rw [f_ctor_170] at hr; cases hr
  | succ k ih =>
    intro x5 s y1 hy1 y2 hy2 y3 hy3 y4 hy4 w hr
    rw [f_ctor_170] at hr
    refine Ev.iload (d0 92 rfl) rfl ?_
    refine Ev.bipush (z := 32) (d0 93 rfl) rfl ?_
    refine Ev.icge (t := 199) (d0 94 rfl) rfl (fun c1 => ?_) (fun c1 => ?_)
    · replace hr := (if_pos c1).symm.trans hr
      refine Ev.aloadN (d0 95 rfl) rfl ?_
      refine Ev.gAr V (ww hw 14 rfl) (d0 96 rfl) (j := 2) rfl ?_
      refine Ev.iload (d0 97 rfl) rfl ?_
      refine Ev.iconst (z := -1) (d0 98 rfl) rfl ?_
      obtain ⟨b2, hr⟩ := grd_some hr
      refine Ev.ias V (j := 2) rfl rfl (d0 99 rfl) b2 ?_
      revert hr
      generalize setA s 2 (ix x5) (-1 : Int32) = s3
      intro hr
      replace hr := (bnd_eq _ _).symm.trans hr
      refine Ev.aloadN (d0 100 rfl) rfl ?_
      refine Ev.gAr V (ww hw 12 rfl) (d0 101 rfl) (j := 1) rfl ?_
      refine Ev.iload (d0 102 rfl) rfl ?_
      refine Ev.iconst (z := -1) (d0 103 rfl) rfl ?_
      refine Ev.ias V (j := 1) rfl rfl (d0 104 rfl) b2 ?_
      revert hr
      generalize setA s3 1 (ix x5) (-1 : Int32) = s4
      intro hr
      replace hr := (bnd_eq _ _).symm.trans hr
      refine Ev.iinc (z := 1) (L' := [.val (.ref o), y1, y2, y3, y4, .val (.int (x5 + (1 : Int32)))]) (d0 105 rfl) rfl rfl rfl ?_
      refine Ev.goto (t := 170) (d0 106 rfl) rfl ?_
      exact ih (x5 + (1 : Int32)) s4 y1 hy1 y2 hy2 y3 hy3 y4 hy4 _ hr
    · replace hr := (if_neg c1).symm.trans hr
      cases hr
      exact Ev.vreturn rfl (d0 107 rfl)
def f_ctor_118 (n : Nat) (x1 : Int32) (x2 : Int32) (x3 : Int32) (x4 : Int32) (s : St) : Option (St) :=
  (f_clamp s x1 (4 : Int32) (32 : Int32)).bind fun q1 =>
  bnd (setI s 15 q1) fun s3 =>
  (f_clamp s3 x2 (1 : Int32) (64 : Int32)).bind fun q4 =>
  bnd (setI s3 16 q4) fun s6 =>
  (f_clamp s6 x3 (1 : Int32) (8 : Int32)).bind fun q7 =>
  bnd (setI s6 17 q7) fun s9 =>
  (f_clamp s9 x4 (1 : Int32) (16 : Int32)).bind fun q10 =>
  bnd (setI s9 18 q10) fun s12 =>
  f_ctor_170 n n (0 : Int32) s12
set_option maxRecDepth 100000 in
theorem e_ctor_118 {g : GT} {n : Nat} (hw : HW g) {K : St → MHeap} {o : Nat} {r : Nat → Nat} (V : View (GG g) Ln K o r) (x1 : Int32) (x2 : Int32) (x3 : Int32) (x4 : Int32) (s : St) (y5 : Slot) (hy5 : one1 y5 = true) (w : St) (hr : f_ctor_118 n x1 x2 x3 x4 s = some w) : Ev (GG g) M_ctor 118 [.val (.ref o), .val (.int x1), .val (.int x2), .val (.int x3), .val (.int x4), y5] [] (K s) (none, (K w)) := by
  unfold f_ctor_118 at hr
  refine Ev.aloadN (d0 62 rfl) rfl ?_
  refine Ev.aloadN (d0 63 rfl) rfl ?_
  refine Ev.iloadN (d0 64 rfl) rfl ?_
  refine Ev.iconst (z := 4) (d0 65 rfl) rfl ?_
  refine Ev.bipush (z := 32) (d0 66 rfl) rfl ?_
  obtain ⟨q1, hq2, hr⟩ := Option.bind_eq_some_iff.mp hr
  refine Ev.priv (y := M_clamp) (args := [.int x1, .int (4 : Int32), .int (32 : Int32)]) (rest := [.ref o]) (gok hw) rfl nm_clamp (ww hw 41 rfl) (ww hw 42 rfl) (ww hw 43 rfl) (ww hw 44 rfl) (lenOf pd_clamp rfl) (d0 67 rfl) (V.2.1 s) (e_clamp hw V hq2) (by decide) (Nat.le_of_ble_eq_true rfl) rfl ?_
  refine Ev.pI V (gok hw) (ww hw 45 rfl) (Or.inl (ww hw 46 rfl)) (d0 68 rfl) (j := 15) rfl ?_
  revert hr
  generalize setI s 15 q1 = s3
  intro hr
  replace hr := (bnd_eq _ _).symm.trans hr
  refine Ev.aloadN (d0 69 rfl) rfl ?_
  refine Ev.aloadN (d0 70 rfl) rfl ?_
  refine Ev.iloadN (d0 71 rfl) rfl ?_
  refine Ev.iconst (z := 1) (d0 72 rfl) rfl ?_
  refine Ev.bipush (z := 64) (d0 73 rfl) rfl ?_
  obtain ⟨q4, hq5, hr⟩ := Option.bind_eq_some_iff.mp hr
  refine Ev.priv (y := M_clamp) (args := [.int x2, .int (1 : Int32), .int (64 : Int32)]) (rest := [.ref o]) (gok hw) rfl nm_clamp (ww hw 41 rfl) (ww hw 42 rfl) (ww hw 43 rfl) (ww hw 44 rfl) (lenOf pd_clamp rfl) (d0 74 rfl) (V.2.1 s3) (e_clamp hw V hq5) (by decide) (Nat.le_of_ble_eq_true rfl) rfl ?_
  refine Ev.pI V (gok hw) (ww hw 47 rfl) (Or.inl (ww hw 48 rfl)) (d0 75 rfl) (j := 16) rfl ?_
  revert hr
  generalize setI s3 16 q4 = s6
  intro hr
  replace hr := (bnd_eq _ _).symm.trans hr
  refine Ev.aloadN (d0 76 rfl) rfl ?_
  refine Ev.aloadN (d0 77 rfl) rfl ?_
  refine Ev.iloadN (d0 78 rfl) rfl ?_
  refine Ev.iconst (z := 1) (d0 79 rfl) rfl ?_
  refine Ev.bipush (z := 8) (d0 80 rfl) rfl ?_
  obtain ⟨q7, hq8, hr⟩ := Option.bind_eq_some_iff.mp hr
  refine Ev.priv (y := M_clamp) (args := [.int x3, .int (1 : Int32), .int (8 : Int32)]) (rest := [.ref o]) (gok hw) rfl nm_clamp (ww hw 41 rfl) (ww hw 42 rfl) (ww hw 43 rfl) (ww hw 44 rfl) (lenOf pd_clamp rfl) (d0 81 rfl) (V.2.1 s6) (e_clamp hw V hq8) (by decide) (Nat.le_of_ble_eq_true rfl) rfl ?_
  refine Ev.pI V (gok hw) (ww hw 49 rfl) (Or.inl (ww hw 50 rfl)) (d0 82 rfl) (j := 17) rfl ?_
  revert hr
  generalize setI s6 17 q7 = s9
  intro hr
  replace hr := (bnd_eq _ _).symm.trans hr
  refine Ev.aloadN (d0 83 rfl) rfl ?_
  refine Ev.aloadN (d0 84 rfl) rfl ?_
  refine Ev.iload (d0 85 rfl) rfl ?_
  refine Ev.iconst (z := 1) (d0 86 rfl) rfl ?_
  refine Ev.bipush (z := 16) (d0 87 rfl) rfl ?_
  obtain ⟨q10, hq11, hr⟩ := Option.bind_eq_some_iff.mp hr
  refine Ev.priv (y := M_clamp) (args := [.int x4, .int (1 : Int32), .int (16 : Int32)]) (rest := [.ref o]) (gok hw) rfl nm_clamp (ww hw 41 rfl) (ww hw 42 rfl) (ww hw 43 rfl) (ww hw 44 rfl) (lenOf pd_clamp rfl) (d0 88 rfl) (V.2.1 s9) (e_clamp hw V hq11) (by decide) (Nat.le_of_ble_eq_true rfl) rfl ?_
  refine Ev.pI V (gok hw) (ww hw 51 rfl) (Or.inl (ww hw 52 rfl)) (d0 89 rfl) (j := 18) rfl ?_
  revert hr
  generalize setI s9 18 q10 = s12
  intro hr
  replace hr := (bnd_eq _ _).symm.trans hr
  refine Ev.iconst (z := 0) (d0 90 rfl) rfl ?_
  refine Ev.istD (L' := [.val (.ref o), .val (.int x1), .val (.int x2), .val (.int x3), .val (.int x4), .val (.int (0 : Int32))]) (d0 91 rfl) rfl hy5 rfl ?_
  exact e_ctor_170 hw V  n (0 : Int32) s12 (.val (.int x1)) rfl (.val (.int x2)) rfl (.val (.int x3)) rfl (.val (.int x4)) rfl _ hr
def f_ctor (n : Nat) (a0 : Int32) (a1 : Int32) (a2 : Int32) (a3 : Int32) : Option (St) :=
  f_ctor_118 n a0 a1 a2 a3 zeroS
set_option maxRecDepth 100000 in
theorem e_ctor {g : GT} {n : Nat} {a0 : Int32} {a1 : Int32} {a2 : Int32} {a3 : Int32} {w : St} (hw : HW g) {pre : MHeap} (hk : k0 (GG g) ≤ pre.length) (hr : f_ctor n a0 a1 a2 a3 = some w) : EvC (GG g) M_ctor [.ref pre.length, .int a0, .int a1, .int a2, .int a3] (pre ++ [.inl dfl]) (none, KH flds al Ln pre [] w) := by
  refine EvC.enter (L0 := [.val (.ref pre.length), .val (.int a0), .val (.int a1), .val (.int a2), .val (.int a3), .unset]) pl_ctor (fun _ => rfl) rfl rfl ?_
  unfold f_ctor at hr
  refine Ev.aloadN (d0 0 rfl) rfl ?_
  refine Ev.initO (ww hw 6 rfl) (ww hw 7 rfl) (ww hw 8 rfl) (d0 1 rfl) (by decide) (Nat.le_of_ble_eq_true rfl) ?_
  show Ev (GG g) M_ctor 4 _ _ (cons pre dfl []) _
  refine Ev.aloadN (d0 2 rfl) rfl ?_
  refine Ev.bipush (z := 32) (d0 3 rfl) rfl ?_
  refine Ev.cnew (aty := .int) (b := false) (k := 32) (q := 0) (as' := [(false, tab 32 (fun _ => 0))]) (ww hw 9 rfl) rfl (d0 4 rfl) (by decide) rfl (by decide) rfl rfl ?_
  refine Ev.cput (v' := .ref (pre.length + 1 + 0)) (fs' := [.ref (pre.length + 1 + 0), .null, .null, .null, .null, .null, .null, .null, .null, .null, .null, .null, .null, .null, .null, .int 0, .int 0, .int 0, .int 0, .int 0, .int 0, .int 0, .int 0]) (gok hw) hk (ww hw 10 rfl) (Or.inl (ww hw 11 rfl)) (d0 5 rfl) (j := 0) rfl rfl rfl ?_
  refine Ev.aloadN (d0 6 rfl) rfl ?_
  refine Ev.bipush (z := 32) (d0 7 rfl) rfl ?_
  refine Ev.cnew (aty := .int) (b := false) (k := 32) (q := 1) (as' := [(false, tab 32 (fun _ => 0)), (false, tab 32 (fun _ => 0))]) (ww hw 9 rfl) rfl (d0 8 rfl) (by decide) rfl (by decide) rfl rfl ?_
  refine Ev.cput (v' := .ref (pre.length + 1 + 1)) (fs' := [.ref (pre.length + 1 + 0), .ref (pre.length + 1 + 1), .null, .null, .null, .null, .null, .null, .null, .null, .null, .null, .null, .null, .null, .int 0, .int 0, .int 0, .int 0, .int 0, .int 0, .int 0, .int 0]) (gok hw) hk (ww hw 12 rfl) (Or.inl (ww hw 13 rfl)) (d0 9 rfl) (j := 1) rfl rfl rfl ?_
  refine Ev.aloadN (d0 10 rfl) rfl ?_
  refine Ev.bipush (z := 32) (d0 11 rfl) rfl ?_
  refine Ev.cnew (aty := .int) (b := false) (k := 32) (q := 2) (as' := [(false, tab 32 (fun _ => 0)), (false, tab 32 (fun _ => 0)), (false, tab 32 (fun _ => 0))]) (ww hw 9 rfl) rfl (d0 12 rfl) (by decide) rfl (by decide) rfl rfl ?_
  refine Ev.cput (v' := .ref (pre.length + 1 + 2)) (fs' := [.ref (pre.length + 1 + 0), .ref (pre.length + 1 + 1), .ref (pre.length + 1 + 2), .null, .null, .null, .null, .null, .null, .null, .null, .null, .null, .null, .null, .int 0, .int 0, .int 0, .int 0, .int 0, .int 0, .int 0, .int 0]) (gok hw) hk (ww hw 14 rfl) (Or.inl (ww hw 15 rfl)) (d0 13 rfl) (j := 2) rfl rfl rfl ?_
  refine Ev.aloadN (d0 14 rfl) rfl ?_
  refine Ev.bipush (z := 32) (d0 15 rfl) rfl ?_
  refine Ev.cnew (aty := .int) (b := false) (k := 32) (q := 3) (as' := [(false, tab 32 (fun _ => 0)), (false, tab 32 (fun _ => 0)), (false, tab 32 (fun _ => 0)), (false, tab 32 (fun _ => 0))]) (ww hw 9 rfl) rfl (d0 16 rfl) (by decide) rfl (by decide) rfl rfl ?_
  refine Ev.cput (v' := .ref (pre.length + 1 + 3)) (fs' := [.ref (pre.length + 1 + 0), .ref (pre.length + 1 + 1), .ref (pre.length + 1 + 2), .ref (pre.length + 1 + 3), .null, .null, .null, .null, .null, .null, .null, .null, .null, .null, .null, .int 0, .int 0, .int 0, .int 0, .int 0, .int 0, .int 0, .int 0]) (gok hw) hk (ww hw 16 rfl) (Or.inl (ww hw 17 rfl)) (d0 17 rfl) (j := 3) rfl rfl rfl ?_
  refine Ev.aloadN (d0 18 rfl) rfl ?_
  refine Ev.bipush (z := 32) (d0 19 rfl) rfl ?_
  refine Ev.cnew (aty := .int) (b := false) (k := 32) (q := 4) (as' := [(false, tab 32 (fun _ => 0)), (false, tab 32 (fun _ => 0)), (false, tab 32 (fun _ => 0)), (false, tab 32 (fun _ => 0)), (false, tab 32 (fun _ => 0))]) (ww hw 9 rfl) rfl (d0 20 rfl) (by decide) rfl (by decide) rfl rfl ?_
  refine Ev.cput (v' := .ref (pre.length + 1 + 4)) (fs' := [.ref (pre.length + 1 + 0), .ref (pre.length + 1 + 1), .ref (pre.length + 1 + 2), .ref (pre.length + 1 + 3), .ref (pre.length + 1 + 4), .null, .null, .null, .null, .null, .null, .null, .null, .null, .null, .int 0, .int 0, .int 0, .int 0, .int 0, .int 0, .int 0, .int 0]) (gok hw) hk (ww hw 18 rfl) (Or.inl (ww hw 19 rfl)) (d0 21 rfl) (j := 4) rfl rfl rfl ?_
  refine Ev.aloadN (d0 22 rfl) rfl ?_
  refine Ev.bipush (z := 32) (d0 23 rfl) rfl ?_
  refine Ev.cnew (aty := .int) (b := false) (k := 32) (q := 5) (as' := [(false, tab 32 (fun _ => 0)), (false, tab 32 (fun _ => 0)), (false, tab 32 (fun _ => 0)), (false, tab 32 (fun _ => 0)), (false, tab 32 (fun _ => 0)), (false, tab 32 (fun _ => 0))]) (ww hw 9 rfl) rfl (d0 24 rfl) (by decide) rfl (by decide) rfl rfl ?_
  refine Ev.cput (v' := .ref (pre.length + 1 + 5)) (fs' := [.ref (pre.length + 1 + 0), .ref (pre.length + 1 + 1), .ref (pre.length + 1 + 2), .ref (pre.length + 1 + 3), .ref (pre.length + 1 + 4), .ref (pre.length + 1 + 5), .null, .null, .null, .null, .null, .null, .null, .null, .null, .int 0, .int 0, .int 0, .int 0, .int 0, .int 0, .int 0, .int 0]) (gok hw) hk (ww hw 20 rfl) (Or.inl (ww hw 21 rfl)) (d0 25 rfl) (j := 5) rfl rfl rfl ?_
  refine Ev.aloadN (d0 26 rfl) rfl ?_
  refine Ev.bipush (z := 32) (d0 27 rfl) rfl ?_
  refine Ev.cnew (aty := .int) (b := false) (k := 32) (q := 6) (as' := [(false, tab 32 (fun _ => 0)), (false, tab 32 (fun _ => 0)), (false, tab 32 (fun _ => 0)), (false, tab 32 (fun _ => 0)), (false, tab 32 (fun _ => 0)), (false, tab 32 (fun _ => 0)), (false, tab 32 (fun _ => 0))]) (ww hw 9 rfl) rfl (d0 28 rfl) (by decide) rfl (by decide) rfl rfl ?_
  refine Ev.cput (v' := .ref (pre.length + 1 + 6)) (fs' := [.ref (pre.length + 1 + 0), .ref (pre.length + 1 + 1), .ref (pre.length + 1 + 2), .ref (pre.length + 1 + 3), .ref (pre.length + 1 + 4), .ref (pre.length + 1 + 5), .ref (pre.length + 1 + 6), .null, .null, .null, .null, .null, .null, .null, .null, .int 0, .int 0, .int 0, .int 0, .int 0, .int 0, .int 0, .int 0]) (gok hw) hk (ww hw 22 rfl) (Or.inl (ww hw 23 rfl)) (d0 29 rfl) (j := 6) rfl rfl rfl ?_
  refine Ev.aloadN (d0 30 rfl) rfl ?_
  refine Ev.bipush (z := 32) (d0 31 rfl) rfl ?_
  refine Ev.cnew (aty := .int) (b := false) (k := 32) (q := 7) (as' := [(false, tab 32 (fun _ => 0)), (false, tab 32 (fun _ => 0)), (false, tab 32 (fun _ => 0)), (false, tab 32 (fun _ => 0)), (false, tab 32 (fun _ => 0)), (false, tab 32 (fun _ => 0)), (false, tab 32 (fun _ => 0)), (false, tab 32 (fun _ => 0))]) (ww hw 9 rfl) rfl (d0 32 rfl) (by decide) rfl (by decide) rfl rfl ?_
  refine Ev.cput (v' := .ref (pre.length + 1 + 7)) (fs' := [.ref (pre.length + 1 + 0), .ref (pre.length + 1 + 1), .ref (pre.length + 1 + 2), .ref (pre.length + 1 + 3), .ref (pre.length + 1 + 4), .ref (pre.length + 1 + 5), .ref (pre.length + 1 + 6), .ref (pre.length + 1 + 7), .null, .null, .null, .null, .null, .null, .null, .int 0, .int 0, .int 0, .int 0, .int 0, .int 0, .int 0, .int 0]) (gok hw) hk (ww hw 24 rfl) (Or.inl (ww hw 25 rfl)) (d0 33 rfl) (j := 7) rfl rfl rfl ?_
  refine Ev.aloadN (d0 34 rfl) rfl ?_
  refine Ev.bipush (z := 32) (d0 35 rfl) rfl ?_
  refine Ev.cnew (aty := .int) (b := false) (k := 32) (q := 8) (as' := [(false, tab 32 (fun _ => 0)), (false, tab 32 (fun _ => 0)), (false, tab 32 (fun _ => 0)), (false, tab 32 (fun _ => 0)), (false, tab 32 (fun _ => 0)), (false, tab 32 (fun _ => 0)), (false, tab 32 (fun _ => 0)), (false, tab 32 (fun _ => 0)), (false, tab 32 (fun _ => 0))]) (ww hw 9 rfl) rfl (d0 36 rfl) (by decide) rfl (by decide) rfl rfl ?_
  refine Ev.cput (v' := .ref (pre.length + 1 + 8)) (fs' := [.ref (pre.length + 1 + 0), .ref (pre.length + 1 + 1), .ref (pre.length + 1 + 2), .ref (pre.length + 1 + 3), .ref (pre.length + 1 + 4), .ref (pre.length + 1 + 5), .ref (pre.length + 1 + 6), .ref (pre.length + 1 + 7), .ref (pre.length + 1 + 8), .null, .null, .null, .null, .null, .null, .int 0, .int 0, .int 0, .int 0, .int 0, .int 0, .int 0, .int 0]) (gok hw) hk (ww hw 26 rfl) (Or.inl (ww hw 27 rfl)) (d0 37 rfl) (j := 8) rfl rfl rfl ?_
  refine Ev.aloadN (d0 38 rfl) rfl ?_
  refine Ev.iconst (z := 4) (d0 39 rfl) rfl ?_
  refine Ev.cnew (aty := .boolean) (b := true) (k := 4) (q := 9) (as' := [(false, tab 32 (fun _ => 0)), (false, tab 32 (fun _ => 0)), (false, tab 32 (fun _ => 0)), (false, tab 32 (fun _ => 0)), (false, tab 32 (fun _ => 0)), (false, tab 32 (fun _ => 0)), (false, tab 32 (fun _ => 0)), (false, tab 32 (fun _ => 0)), (false, tab 32 (fun _ => 0)), (true, tab 4 (fun _ => 0))]) (ww hw 28 rfl) rfl (d0 40 rfl) (by decide) rfl (by decide) rfl rfl ?_
  refine Ev.cput (v' := .ref (pre.length + 1 + 9)) (fs' := [.ref (pre.length + 1 + 0), .ref (pre.length + 1 + 1), .ref (pre.length + 1 + 2), .ref (pre.length + 1 + 3), .ref (pre.length + 1 + 4), .ref (pre.length + 1 + 5), .ref (pre.length + 1 + 6), .ref (pre.length + 1 + 7), .ref (pre.length + 1 + 8), .ref (pre.length + 1 + 9), .null, .null, .null, .null, .null, .int 0, .int 0, .int 0, .int 0, .int 0, .int 0, .int 0, .int 0]) (gok hw) hk (ww hw 29 rfl) (Or.inl (ww hw 30 rfl)) (d0 41 rfl) (j := 9) rfl rfl rfl ?_
  refine Ev.aloadN (d0 42 rfl) rfl ?_
  refine Ev.iconst (z := 4) (d0 43 rfl) rfl ?_
  refine Ev.cnew (aty := .int) (b := false) (k := 4) (q := 10) (as' := [(false, tab 32 (fun _ => 0)), (false, tab 32 (fun _ => 0)), (false, tab 32 (fun _ => 0)), (false, tab 32 (fun _ => 0)), (false, tab 32 (fun _ => 0)), (false, tab 32 (fun _ => 0)), (false, tab 32 (fun _ => 0)), (false, tab 32 (fun _ => 0)), (false, tab 32 (fun _ => 0)), (true, tab 4 (fun _ => 0)), (false, tab 4 (fun _ => 0))]) (ww hw 9 rfl) rfl (d0 44 rfl) (by decide) rfl (by decide) rfl rfl ?_
  refine Ev.cput (v' := .ref (pre.length + 1 + 10)) (fs' := [.ref (pre.length + 1 + 0), .ref (pre.length + 1 + 1), .ref (pre.length + 1 + 2), .ref (pre.length + 1 + 3), .ref (pre.length + 1 + 4), .ref (pre.length + 1 + 5), .ref (pre.length + 1 + 6), .ref (pre.length + 1 + 7), .ref (pre.length + 1 + 8), .ref (pre.length + 1 + 9), .ref (pre.length + 1 + 10), .null, .null, .null, .null, .int 0, .int 0, .int 0, .int 0, .int 0, .int 0, .int 0, .int 0]) (gok hw) hk (ww hw 31 rfl) (Or.inl (ww hw 32 rfl)) (d0 45 rfl) (j := 10) rfl rfl rfl ?_
  refine Ev.aloadN (d0 46 rfl) rfl ?_
  refine Ev.iconst (z := 4) (d0 47 rfl) rfl ?_
  refine Ev.cnew (aty := .int) (b := false) (k := 4) (q := 11) (as' := [(false, tab 32 (fun _ => 0)), (false, tab 32 (fun _ => 0)), (false, tab 32 (fun _ => 0)), (false, tab 32 (fun _ => 0)), (false, tab 32 (fun _ => 0)), (false, tab 32 (fun _ => 0)), (false, tab 32 (fun _ => 0)), (false, tab 32 (fun _ => 0)), (false, tab 32 (fun _ => 0)), (true, tab 4 (fun _ => 0)), (false, tab 4 (fun _ => 0)), (false, tab 4 (fun _ => 0))]) (ww hw 9 rfl) rfl (d0 48 rfl) (by decide) rfl (by decide) rfl rfl ?_
  refine Ev.cput (v' := .ref (pre.length + 1 + 11)) (fs' := [.ref (pre.length + 1 + 0), .ref (pre.length + 1 + 1), .ref (pre.length + 1 + 2), .ref (pre.length + 1 + 3), .ref (pre.length + 1 + 4), .ref (pre.length + 1 + 5), .ref (pre.length + 1 + 6), .ref (pre.length + 1 + 7), .ref (pre.length + 1 + 8), .ref (pre.length + 1 + 9), .ref (pre.length + 1 + 10), .ref (pre.length + 1 + 11), .null, .null, .null, .int 0, .int 0, .int 0, .int 0, .int 0, .int 0, .int 0, .int 0]) (gok hw) hk (ww hw 33 rfl) (Or.inl (ww hw 34 rfl)) (d0 49 rfl) (j := 11) rfl rfl rfl ?_
  refine Ev.aloadN (d0 50 rfl) rfl ?_
  refine Ev.iconst (z := 4) (d0 51 rfl) rfl ?_
  refine Ev.cnew (aty := .int) (b := false) (k := 4) (q := 12) (as' := [(false, tab 32 (fun _ => 0)), (false, tab 32 (fun _ => 0)), (false, tab 32 (fun _ => 0)), (false, tab 32 (fun _ => 0)), (false, tab 32 (fun _ => 0)), (false, tab 32 (fun _ => 0)), (false, tab 32 (fun _ => 0)), (false, tab 32 (fun _ => 0)), (false, tab 32 (fun _ => 0)), (true, tab 4 (fun _ => 0)), (false, tab 4 (fun _ => 0)), (false, tab 4 (fun _ => 0)), (false, tab 4 (fun _ => 0))]) (ww hw 9 rfl) rfl (d0 52 rfl) (by decide) rfl (by decide) rfl rfl ?_
  refine Ev.cput (v' := .ref (pre.length + 1 + 12)) (fs' := [.ref (pre.length + 1 + 0), .ref (pre.length + 1 + 1), .ref (pre.length + 1 + 2), .ref (pre.length + 1 + 3), .ref (pre.length + 1 + 4), .ref (pre.length + 1 + 5), .ref (pre.length + 1 + 6), .ref (pre.length + 1 + 7), .ref (pre.length + 1 + 8), .ref (pre.length + 1 + 9), .ref (pre.length + 1 + 10), .ref (pre.length + 1 + 11), .ref (pre.length + 1 + 12), .null, .null, .int 0, .int 0, .int 0, .int 0, .int 0, .int 0, .int 0, .int 0]) (gok hw) hk (ww hw 35 rfl) (Or.inl (ww hw 36 rfl)) (d0 53 rfl) (j := 12) rfl rfl rfl ?_
  refine Ev.aloadN (d0 54 rfl) rfl ?_
  refine Ev.iconst (z := 4) (d0 55 rfl) rfl ?_
  refine Ev.cnew (aty := .int) (b := false) (k := 4) (q := 13) (as' := [(false, tab 32 (fun _ => 0)), (false, tab 32 (fun _ => 0)), (false, tab 32 (fun _ => 0)), (false, tab 32 (fun _ => 0)), (false, tab 32 (fun _ => 0)), (false, tab 32 (fun _ => 0)), (false, tab 32 (fun _ => 0)), (false, tab 32 (fun _ => 0)), (false, tab 32 (fun _ => 0)), (true, tab 4 (fun _ => 0)), (false, tab 4 (fun _ => 0)), (false, tab 4 (fun _ => 0)), (false, tab 4 (fun _ => 0)), (false, tab 4 (fun _ => 0))]) (ww hw 9 rfl) rfl (d0 56 rfl) (by decide) rfl (by decide) rfl rfl ?_
  refine Ev.cput (v' := .ref (pre.length + 1 + 13)) (fs' := [.ref (pre.length + 1 + 0), .ref (pre.length + 1 + 1), .ref (pre.length + 1 + 2), .ref (pre.length + 1 + 3), .ref (pre.length + 1 + 4), .ref (pre.length + 1 + 5), .ref (pre.length + 1 + 6), .ref (pre.length + 1 + 7), .ref (pre.length + 1 + 8), .ref (pre.length + 1 + 9), .ref (pre.length + 1 + 10), .ref (pre.length + 1 + 11), .ref (pre.length + 1 + 12), .ref (pre.length + 1 + 13), .null, .int 0, .int 0, .int 0, .int 0, .int 0, .int 0, .int 0, .int 0]) (gok hw) hk (ww hw 37 rfl) (Or.inl (ww hw 38 rfl)) (d0 57 rfl) (j := 13) rfl rfl rfl ?_
  refine Ev.aloadN (d0 58 rfl) rfl ?_
  refine Ev.iconst (z := 4) (d0 59 rfl) rfl ?_
  refine Ev.cnew (aty := .int) (b := false) (k := 4) (q := 14) (as' := [(false, tab 32 (fun _ => 0)), (false, tab 32 (fun _ => 0)), (false, tab 32 (fun _ => 0)), (false, tab 32 (fun _ => 0)), (false, tab 32 (fun _ => 0)), (false, tab 32 (fun _ => 0)), (false, tab 32 (fun _ => 0)), (false, tab 32 (fun _ => 0)), (false, tab 32 (fun _ => 0)), (true, tab 4 (fun _ => 0)), (false, tab 4 (fun _ => 0)), (false, tab 4 (fun _ => 0)), (false, tab 4 (fun _ => 0)), (false, tab 4 (fun _ => 0)), (false, tab 4 (fun _ => 0))]) (ww hw 9 rfl) rfl (d0 60 rfl) (by decide) rfl (by decide) rfl rfl ?_
  refine Ev.cput (v' := .ref (pre.length + 1 + 14)) (fs' := [.ref (pre.length + 1 + 0), .ref (pre.length + 1 + 1), .ref (pre.length + 1 + 2), .ref (pre.length + 1 + 3), .ref (pre.length + 1 + 4), .ref (pre.length + 1 + 5), .ref (pre.length + 1 + 6), .ref (pre.length + 1 + 7), .ref (pre.length + 1 + 8), .ref (pre.length + 1 + 9), .ref (pre.length + 1 + 10), .ref (pre.length + 1 + 11), .ref (pre.length + 1 + 12), .ref (pre.length + 1 + 13), .ref (pre.length + 1 + 14), .int 0, .int 0, .int 0, .int 0, .int 0, .int 0, .int 0, .int 0]) (gok hw) hk (ww hw 39 rfl) (Or.inl (ww hw 40 rfl)) (d0 61 rfl) (j := 14) rfl rfl rfl ?_
  show Ev (GG g) M_ctor 118 [.val (.ref pre.length), .val (.int a0), .val (.int a1), .val (.int a2), .val (.int a3), .unset] [] (KH flds al Ln pre [] zeroS) _
  exact e_ctor_118 hw (K := KH flds al Ln pre []) (o := pre.length) (r := rA pre.length al) (view_of hk al_ok al_nd) a0 a1 a2 a3 zeroS .unset rfl _ hr
def f_completeWriteBacks_4 (n : Nat) : Nat → Int32 → Int32 → St → Option (Int32 × St)
  | 0 => fun _ _ _ => none
  | k + 1 => fun x1 x2 s =>
    if x2 < (s.1 15) then
      grd (inb x2 32) <|
      if (s.2 2 (ix x2)) < 0 then
        f_completeWriteBacks_4 n k x1 (x2 + (1 : Int32)) s
      else
        if (3 : Int32) < (s.2 2 (ix x2)) then
          f_completeWriteBacks_4 n k x1 (x2 + (1 : Int32)) s
        else
          if (s.2 8 (ix x2)) = 0 then
            f_completeWriteBacks_4 n k x1 (x2 + (1 : Int32)) s
          else
            if (s.1 19) < (s.2 8 (ix x2)) then
              f_completeWriteBacks_4 n k x1 (x2 + (1 : Int32)) s
            else
              grd (inb (((s.2 2 (ix x2)) * (8 : Int32)) + ((s.2 3 (ix x2)) &&& (7 : Int32))) 32) <|
              bnd (setA s 0 (ix (((s.2 2 (ix x2)) * (8 : Int32)) + ((s.2 3 (ix x2)) &&& (7 : Int32)))) (s.2 4 (ix x2))) fun s8 =>
              bnd (setA s8 5 (ix x2) (0 : Int32)) fun s9 =>
              bnd (setA s9 8 (ix x2) (0 : Int32)) fun s10 =>
              f_completeWriteBacks_4 n k (x1 + (1 : Int32)) (x2 + (1 : Int32)) s10
    else
      some (x1, s)
set_option maxRecDepth 100000 in
theorem e_completeWriteBacks_4 {g : GT} {n : Nat} (hw : HW g) {K : St → MHeap} {o : Nat} {r : Nat → Nat} (V : View (GG g) Ln K o r) (k : Nat) : ∀ (x1 : Int32) (x2 : Int32) (s : St) (y3 : Slot) (hy3 : one1 y3 = true) (w : Int32 × St), f_completeWriteBacks_4 n k x1 x2 s = some w → Ev (GG g) M_completeWriteBacks 4 [.val (.ref o), .val (.int x1), .val (.int x2), y3] [] (K s) ((some (.int w.1)), (K w.2)) := by
  induction k with
  | zero => intro x1 x2 s y3 hy3 w hr; rw [f_completeWriteBacks_4] at hr; cases hr
  | succ k ih =>
    intro x1 x2 s y3 hy3 w hr
    rw [f_completeWriteBacks_4] at hr
    refine Ev.iloadN (d4 4 rfl) rfl ?_
    refine Ev.aloadN (d4 5 rfl) rfl ?_
    refine Ev.gI V (ww hw 45 rfl) (d4 6 rfl) (j := 15) rfl rfl ?_
    refine Ev.icge (t := 101) (d4 7 rfl) rfl (fun c1 => ?_) (fun c1 => ?_)
    · replace hr := (if_pos c1).symm.trans hr
      refine Ev.aloadN (d4 8 rfl) rfl ?_
      refine Ev.gAr V (ww hw 14 rfl) (d4 9 rfl) (j := 2) rfl ?_
      refine Ev.iloadN (d4 10 rfl) rfl ?_
      obtain ⟨b2, hr⟩ := grd_some hr
      refine Ev.ial V (j := 2) rfl rfl (d4 11 rfl) b2 ?_
      refine Ev.istDN (L' := [.val (.ref o), .val (.int x1), .val (.int x2), .val (.int (s.2 2 (ix x2)))]) (d4 12 rfl) rfl hy3 rfl ?_
      refine Ev.iloadN (d4 13 rfl) rfl ?_
      refine Ev.iflt (t := 95) (d4 14 rfl) rfl (fun c3 => ?_) (fun c3 => ?_)
      · replace hr := (if_pos c3).symm.trans hr
        refine Ev.iinc (z := 1) (L' := [.val (.ref o), .val (.int x1), .val (.int (x2 + (1 : Int32))), .val (.int (s.2 2 (ix x2)))]) (d4 59 rfl) rfl rfl rfl ?_
        refine Ev.goto (t := 4) (d4 60 rfl) rfl ?_
        exact ih x1 (x2 + (1 : Int32)) s (.val (.int (s.2 2 (ix x2)))) rfl _ hr
      · replace hr := (if_neg c3).symm.trans hr
        refine Ev.iloadN (d4 15 rfl) rfl ?_
        refine Ev.iconst (z := 3) (d4 16 rfl) rfl ?_
        refine Ev.icle (t := 31) (d4 17 rfl) rfl (fun c4 => ?_) (fun c4 => ?_)
        · replace hr := (if_pos c4).symm.trans hr
          refine Ev.goto (t := 95) (d4 18 rfl) rfl ?_
          refine Ev.iinc (z := 1) (L' := [.val (.ref o), .val (.int x1), .val (.int (x2 + (1 : Int32))), .val (.int (s.2 2 (ix x2)))]) (d4 59 rfl) rfl rfl rfl ?_
          refine Ev.goto (t := 4) (d4 60 rfl) rfl ?_
          exact ih x1 (x2 + (1 : Int32)) s (.val (.int (s.2 2 (ix x2)))) rfl _ hr
        · replace hr := (if_neg c4).symm.trans hr
          refine Ev.aloadN (d4 19 rfl) rfl ?_
          refine Ev.gAr V (ww hw 26 rfl) (d4 20 rfl) (j := 8) rfl ?_
          refine Ev.iloadN (d4 21 rfl) rfl ?_
          refine Ev.ial V (j := 8) rfl rfl (d4 22 rfl) b2 ?_
          refine Ev.ifeq (t := 95) (d4 23 rfl) rfl (fun c5 => ?_) (fun c5 => ?_)
          · replace hr := (if_pos c5).symm.trans hr
            refine Ev.iinc (z := 1) (L' := [.val (.ref o), .val (.int x1), .val (.int (x2 + (1 : Int32))), .val (.int (s.2 2 (ix x2)))]) (d4 59 rfl) rfl rfl rfl ?_
            refine Ev.goto (t := 4) (d4 60 rfl) rfl ?_
            exact ih x1 (x2 + (1 : Int32)) s (.val (.int (s.2 2 (ix x2)))) rfl _ hr
          · replace hr := (if_neg c5).symm.trans hr
            refine Ev.aloadN (d4 24 rfl) rfl ?_
            refine Ev.gAr V (ww hw 26 rfl) (d4 25 rfl) (j := 8) rfl ?_
            refine Ev.iloadN (d4 26 rfl) rfl ?_
            refine Ev.ial V (j := 8) rfl rfl (d4 27 rfl) b2 ?_
            refine Ev.aloadN (d4 28 rfl) rfl ?_
            refine Ev.gI V (ww hw 58 rfl) (d4 29 rfl) (j := 19) rfl rfl ?_
            refine Ev.icgt (t := 95) (d4 30 rfl) rfl (fun c6 => ?_) (fun c6 => ?_)
            · replace hr := (if_pos c6).symm.trans hr
              refine Ev.iinc (z := 1) (L' := [.val (.ref o), .val (.int x1), .val (.int (x2 + (1 : Int32))), .val (.int (s.2 2 (ix x2)))]) (d4 59 rfl) rfl rfl rfl ?_
              refine Ev.goto (t := 4) (d4 60 rfl) rfl ?_
              exact ih x1 (x2 + (1 : Int32)) s (.val (.int (s.2 2 (ix x2)))) rfl _ hr
            · replace hr := (if_neg c6).symm.trans hr
              refine Ev.aloadN (d4 31 rfl) rfl ?_
              refine Ev.gAr V (ww hw 10 rfl) (d4 32 rfl) (j := 0) rfl ?_
              refine Ev.iloadN (d4 33 rfl) rfl ?_
              refine Ev.bipush (z := 8) (d4 34 rfl) rfl ?_
              refine Ev.imul (d4 35 rfl) ?_
              refine Ev.aloadN (d4 36 rfl) rfl ?_
              refine Ev.gAr V (ww hw 16 rfl) (d4 37 rfl) (j := 3) rfl ?_
              refine Ev.iloadN (d4 38 rfl) rfl ?_
              refine Ev.ial V (j := 3) rfl rfl (d4 39 rfl) b2 ?_
              refine Ev.bipush (z := 7) (d4 40 rfl) rfl ?_
              refine Ev.iand (d4 41 rfl) ?_
              refine Ev.iadd (d4 42 rfl) ?_
              refine Ev.aloadN (d4 43 rfl) rfl ?_
              refine Ev.gAr V (ww hw 18 rfl) (d4 44 rfl) (j := 4) rfl ?_
              refine Ev.iloadN (d4 45 rfl) rfl ?_
              refine Ev.ial V (j := 4) rfl rfl (d4 46 rfl) b2 ?_
              obtain ⟨b7, hr⟩ := grd_some hr
              refine Ev.ias V (j := 0) rfl rfl (d4 47 rfl) b7 ?_
              revert hr
              generalize setA s 0 (ix (((s.2 2 (ix x2)) * (8 : Int32)) + ((s.2 3 (ix x2)) &&& (7 : Int32)))) (s.2 4 (ix x2)) = s8
              intro hr
              replace hr := (bnd_eq _ _).symm.trans hr
              refine Ev.aloadN (d4 48 rfl) rfl ?_
              refine Ev.gAr V (ww hw 20 rfl) (d4 49 rfl) (j := 5) rfl ?_
              refine Ev.iloadN (d4 50 rfl) rfl ?_
              refine Ev.iconst (z := 0) (d4 51 rfl) rfl ?_
              refine Ev.ias V (j := 5) rfl rfl (d4 52 rfl) b2 ?_
              revert hr
              generalize setA s8 5 (ix x2) (0 : Int32) = s9
              intro hr
              replace hr := (bnd_eq _ _).symm.trans hr
              refine Ev.aloadN (d4 53 rfl) rfl ?_
              refine Ev.gAr V (ww hw 26 rfl) (d4 54 rfl) (j := 8) rfl ?_
              refine Ev.iloadN (d4 55 rfl) rfl ?_
              refine Ev.iconst (z := 0) (d4 56 rfl) rfl ?_
              refine Ev.ias V (j := 8) rfl rfl (d4 57 rfl) b2 ?_
              revert hr
              generalize setA s9 8 (ix x2) (0 : Int32) = s10
              intro hr
              replace hr := (bnd_eq _ _).symm.trans hr
              refine Ev.iinc (z := 1) (L' := [.val (.ref o), .val (.int (x1 + (1 : Int32))), .val (.int x2), .val (.int (s.2 2 (ix x2)))]) (d4 58 rfl) rfl rfl rfl ?_
              refine Ev.iinc (z := 1) (L' := [.val (.ref o), .val (.int (x1 + (1 : Int32))), .val (.int (x2 + (1 : Int32))), .val (.int (s.2 2 (ix x2)))]) (d4 59 rfl) rfl rfl rfl ?_
              refine Ev.goto (t := 4) (d4 60 rfl) rfl ?_
              exact ih (x1 + (1 : Int32)) (x2 + (1 : Int32)) s10 (.val (.int (s.2 2 (ix x2)))) rfl _ hr
    · replace hr := (if_neg c1).symm.trans hr
      refine Ev.iloadN (d4 61 rfl) rfl ?_
      cases hr
      exact Ev.ireturn rfl (d4 62 rfl)
def f_completeWriteBacks (n : Nat) (s : St) : Option (Int32 × St) :=
  f_completeWriteBacks_4 n n (0 : Int32) (0 : Int32) s
set_option maxRecDepth 100000 in
theorem e_completeWriteBacks {g : GT} {n : Nat} {s : St} {w : Int32 × St} (hw : HW g) {K : St → MHeap} {o : Nat} {r : Nat → Nat} (V : View (GG g) Ln K o r) (hr : f_completeWriteBacks n s = some w) : EvC (GG g) M_completeWriteBacks [.ref o] (K s) ((some (.int w.1)), (K w.2)) := by
  refine EvC.enter (L0 := [.val (.ref o), .unset, .unset, .unset]) pl_completeWriteBacks (fun h => nomatch h) rfl rfl ?_
  unfold f_completeWriteBacks at hr
  refine Ev.iconst (z := 0) (d4 0 rfl) rfl ?_
  refine Ev.istDN (L' := [.val (.ref o), .val (.int (0 : Int32)), .unset, .unset]) (d4 1 rfl) rfl rfl rfl ?_
  refine Ev.iconst (z := 0) (d4 2 rfl) rfl ?_
  refine Ev.istDN (L' := [.val (.ref o), .val (.int (0 : Int32)), .val (.int (0 : Int32)), .unset]) (d4 3 rfl) rfl rfl rfl ?_
  exact e_completeWriteBacks_4 hw V  n (0 : Int32) (0 : Int32) s .unset rfl _ hr
def f_hit (a0 : Int32) (a1 : Int32) (a2 : Int32) (a3 : Int32) (s : St) : Option (St) :=
  grd (inb a1 4) <|
  bnd (setA s 10 (ix a1) ((s.2 10 (ix a1)) + (1 : Int32))) fun s2 =>
  bnd (setA s2 14 (ix a1) ((s2.2 14 (ix a1)) + (1 : Int32))) fun s3 =>
  grd (inb a0 32) <|
  bnd (setA s3 6 (ix a0) (1 : Int32)) fun s5 =>
  if a2 = 0 then
    some s5
  else
    bnd (setA s5 4 (ix a0) a3) fun s7 =>
    bnd (setA s7 5 (ix a0) (1 : Int32)) fun s8 =>
    bnd (setA s8 8 (ix a0) (0 : Int32)) fun s9 =>
    some s9
set_option maxRecDepth 100000 in
theorem e_hit {g : GT} {a0 : Int32} {a1 : Int32} {a2 : Int32} {a3 : Int32} {s : St} {w : St} (hw : HW g) {K : St → MHeap} {o : Nat} {r : Nat → Nat} (V : View (GG g) Ln K o r) (hr : f_hit a0 a1 a2 a3 s = some w) : EvC (GG g) M_hit [.ref o, .int a0, .int a1, .int a2, .int a3] (K s) (none, (K w)) := by
  refine EvC.enter (L0 := [.val (.ref o), .val (.int a0), .val (.int a1), .val (.int a2), .val (.int a3)]) pl_hit (fun _ => rfl) rfl rfl ?_
  unfold f_hit at hr
  refine Ev.aloadN (d10 0 rfl) rfl ?_
  refine Ev.gAr V (ww hw 31 rfl) (d10 1 rfl) (j := 10) rfl ?_
  refine Ev.iloadN (d10 2 rfl) rfl ?_
  refine Ev.dup2 (d10 3 rfl) rfl rfl ?_
  obtain ⟨b1, hr⟩ := grd_some hr
  refine Ev.ial V (j := 10) rfl rfl (d10 4 rfl) b1 ?_
  refine Ev.iconst (z := 1) (d10 5 rfl) rfl ?_
  refine Ev.iadd (d10 6 rfl) ?_
  refine Ev.ias V (j := 10) rfl rfl (d10 7 rfl) b1 ?_
  revert hr
  generalize setA s 10 (ix a1) ((s.2 10 (ix a1)) + (1 : Int32)) = s2
  intro hr
  replace hr := (bnd_eq _ _).symm.trans hr
  refine Ev.aloadN (d10 8 rfl) rfl ?_
  refine Ev.gAr V (ww hw 39 rfl) (d10 9 rfl) (j := 14) rfl ?_
  refine Ev.iloadN (d10 10 rfl) rfl ?_
  refine Ev.dup2 (d10 11 rfl) rfl rfl ?_
  refine Ev.ial V (j := 14) rfl rfl (d10 12 rfl) b1 ?_
  refine Ev.iconst (z := 1) (d10 13 rfl) rfl ?_
  refine Ev.iadd (d10 14 rfl) ?_
  refine Ev.ias V (j := 14) rfl rfl (d10 15 rfl) b1 ?_
  revert hr
  generalize setA s2 14 (ix a1) ((s2.2 14 (ix a1)) + (1 : Int32)) = s3
  intro hr
  replace hr := (bnd_eq _ _).symm.trans hr
  refine Ev.aloadN (d10 16 rfl) rfl ?_
  refine Ev.gAr V (ww hw 22 rfl) (d10 17 rfl) (j := 6) rfl ?_
  refine Ev.iloadN (d10 18 rfl) rfl ?_
  refine Ev.iconst (z := 1) (d10 19 rfl) rfl ?_
  obtain ⟨b4, hr⟩ := grd_some hr
  refine Ev.ias V (j := 6) rfl rfl (d10 20 rfl) b4 ?_
  revert hr
  generalize setA s3 6 (ix a0) (1 : Int32) = s5
  intro hr
  replace hr := (bnd_eq _ _).symm.trans hr
  refine Ev.iloadN (d10 21 rfl) rfl ?_
  refine Ev.ifeq (t := 53) (d10 22 rfl) rfl (fun c6 => ?_) (fun c6 => ?_)
  · replace hr := (if_pos c6).symm.trans hr
    cases hr
    exact Ev.vreturn rfl (d10 38 rfl)
  · replace hr := (if_neg c6).symm.trans hr
    refine Ev.aloadN (d10 23 rfl) rfl ?_
    refine Ev.gAr V (ww hw 18 rfl) (d10 24 rfl) (j := 4) rfl ?_
    refine Ev.iloadN (d10 25 rfl) rfl ?_
    refine Ev.iload (d10 26 rfl) rfl ?_
    refine Ev.ias V (j := 4) rfl rfl (d10 27 rfl) b4 ?_
    revert hr
    generalize setA s5 4 (ix a0) a3 = s7
    intro hr
    replace hr := (bnd_eq _ _).symm.trans hr
    refine Ev.aloadN (d10 28 rfl) rfl ?_
    refine Ev.gAr V (ww hw 20 rfl) (d10 29 rfl) (j := 5) rfl ?_
    refine Ev.iloadN (d10 30 rfl) rfl ?_
    refine Ev.iconst (z := 1) (d10 31 rfl) rfl ?_
    refine Ev.ias V (j := 5) rfl rfl (d10 32 rfl) b4 ?_
    revert hr
    generalize setA s7 5 (ix a0) (1 : Int32) = s8
    intro hr
    replace hr := (bnd_eq _ _).symm.trans hr
    refine Ev.aloadN (d10 33 rfl) rfl ?_
    refine Ev.gAr V (ww hw 26 rfl) (d10 34 rfl) (j := 8) rfl ?_
    refine Ev.iloadN (d10 35 rfl) rfl ?_
    refine Ev.iconst (z := 0) (d10 36 rfl) rfl ?_
    refine Ev.ias V (j := 8) rfl rfl (d10 37 rfl) b4 ?_
    revert hr
    generalize setA s8 8 (ix a0) (0 : Int32) = s9
    intro hr
    replace hr := (bnd_eq _ _).symm.trans hr
    cases hr
    exact Ev.vreturn rfl (d10 38 rfl)
def f_sweep_2 (n : Nat) : Nat → Int32 → St → Option (Int32 × St)
  | 0 => fun _ _ => none
  | k + 1 => fun x1 s =>
    if x1 < (s.1 15) then
      grd ((s.1 15) ≠ 0) <|
      grd (inb (((s.1 20) + x1) % (s.1 15)) 32) <|
      bnd (s.2 2 (ix (((s.1 20) + x1) % (s.1 15)))) fun v4 =>
      if v4 < 0 then
        some ((((s.1 20) + x1) % (s.1 15)), s)
      else
        if (3 : Int32) < v4 then
          some ((((s.1 20) + x1) % (s.1 15)), s)
        else
          if (s.2 6 (ix (((s.1 20) + x1) % (s.1 15)))) = 0 then
            grd (inb v4 4) <|
            bnd ((s.2 10 (ix v4)) - (s.2 7 (ix (((s.1 20) + x1) % (s.1 15))))) fun v9 =>
            if (s.1 16) < v9 then
              if (s.2 5 (ix (((s.1 20) + x1) % (s.1 15)))) = 0 then
                some ((((s.1 20) + x1) % (s.1 15)), s)
              else
                if (s.2 8 (ix (((s.1 20) + x1) % (s.1 15)))) = 0 then
                  bnd (setA s 8 (ix (((s.1 20) + x1) % (s.1 15))) ((s.1 19) + (s.1 17))) fun s13 =>
                  f_sweep_2 n k (x1 + (1 : Int32)) s13
                else
                  f_sweep_2 n k (x1 + (1 : Int32)) s
            else
              f_sweep_2 n k (x1 + (1 : Int32)) s
          else
            bnd (setA s 6 (ix (((s.1 20) + x1) % (s.1 15))) (0 : Int32)) fun s14 =>
            grd (inb v4 4) <|
            bnd (setA s14 7 (ix (((s.1 20) + x1) % (s.1 15))) (s14.2 10 (ix v4))) fun s16 =>
            f_sweep_2 n k (x1 + (1 : Int32)) s16
    else
      some ((-1 : Int32), s)
set_option maxRecDepth 100000 in
theorem e_sweep_2 {g : GT} {n : Nat} (hw : HW g) {K : St → MHeap} {o : Nat} {r : Nat → Nat} (V : View (GG g) Ln K o r) (k : Nat) : ∀ (x1 : Int32) (s : St) (y2 : Slot) (hy2 : one1 y2 = true) (y3 : Slot) (hy3 : one1 y3 = true) (y4 : Slot) (hy4 : one1 y4 = true) (w : Int32 × St), f_sweep_2 n k x1 s = some w → Ev (GG g) M_sweep 2 [.val (.ref o), .val (.int x1), y2, y3, y4] [] (K s) ((some (.int w.1)), (K w.2)) := by
  induction k with
  | zero => intro x1 s y2 hy2 y3 hy3 y4 hy4 w hr; rw [f_sweep_2] at hr; cases hr
  | succ k ih =>
    intro x1 s y2 hy2 y3 hy3 y4 hy4 w hr
    rw [f_sweep_2] at hr
    refine Ev.iloadN (d7 2 rfl) rfl ?_
    refine Ev.aloadN (d7 3 rfl) rfl ?_
    refine Ev.gI V (ww hw 45 rfl) (d7 4 rfl) (j := 15) rfl rfl ?_
    refine Ev.icge (t := 142) (d7 5 rfl) rfl (fun c1 => ?_) (fun c1 => ?_)
    · replace hr := (if_pos c1).symm.trans hr
      refine Ev.aloadN (d7 6 rfl) rfl ?_
      refine Ev.gI V (ww hw 77 rfl) (d7 7 rfl) (j := 20) rfl rfl ?_
      refine Ev.iloadN (d7 8 rfl) rfl ?_
      refine Ev.iadd (d7 9 rfl) ?_
      refine Ev.aloadN (d7 10 rfl) rfl ?_
      refine Ev.gI V (ww hw 45 rfl) (d7 11 rfl) (j := 15) rfl rfl ?_
      obtain ⟨c2, hr⟩ := grd_some hr
      refine Ev.irem (d7 12 rfl) c2 ?_
      refine Ev.istDN (L' := [.val (.ref o), .val (.int x1), .val (.int (((s.1 20) + x1) % (s.1 15))), y3, y4]) (d7 13 rfl) rfl hy2 rfl ?_
      refine Ev.aloadN (d7 14 rfl) rfl ?_
      refine Ev.gAr V (ww hw 14 rfl) (d7 15 rfl) (j := 2) rfl ?_
      refine Ev.iloadN (d7 16 rfl) rfl ?_
      obtain ⟨b3, hr⟩ := grd_some hr
      refine Ev.ial V (j := 2) rfl rfl (d7 17 rfl) b3 ?_
      revert hr
      generalize (s.2 2 (ix (((s.1 20) + x1) % (s.1 15)))) = v4
      intro hr
      replace hr := (bnd_eq _ _).symm.trans hr
      refine Ev.istDN (L' := [.val (.ref o), .val (.int x1), .val (.int (((s.1 20) + x1) % (s.1 15))), .val (.int v4), y4]) (d7 18 rfl) rfl hy3 rfl ?_
      refine Ev.iloadN (d7 19 rfl) rfl ?_
      refine Ev.iflt (t := 38) (d7 20 rfl) rfl (fun c5 => ?_) (fun c5 => ?_)
      · replace hr := (if_pos c5).symm.trans hr
        refine Ev.iloadN (d7 24 rfl) rfl ?_
        cases hr
        exact Ev.ireturn rfl (d7 25 rfl)
      · replace hr := (if_neg c5).symm.trans hr
        refine Ev.iloadN (d7 21 rfl) rfl ?_
        refine Ev.iconst (z := 3) (d7 22 rfl) rfl ?_
        refine Ev.icle (t := 40) (d7 23 rfl) rfl (fun c6 => ?_) (fun c6 => ?_)
        · replace hr := (if_pos c6).symm.trans hr
          refine Ev.iloadN (d7 24 rfl) rfl ?_
          cases hr
          exact Ev.ireturn rfl (d7 25 rfl)
        · replace hr := (if_neg c6).symm.trans hr
          refine Ev.aloadN (d7 26 rfl) rfl ?_
          refine Ev.gAr V (ww hw 22 rfl) (d7 27 rfl) (j := 6) rfl ?_
          refine Ev.iloadN (d7 28 rfl) rfl ?_
          refine Ev.ial V (j := 6) rfl rfl (d7 29 rfl) b3 ?_
          refine Ev.ifeq (t := 71) (d7 30 rfl) rfl (fun c7 => ?_) (fun c7 => ?_)
          · replace hr := (if_pos c7).symm.trans hr
            refine Ev.aloadN (d7 45 rfl) rfl ?_
            refine Ev.gAr V (ww hw 31 rfl) (d7 46 rfl) (j := 10) rfl ?_
            refine Ev.iloadN (d7 47 rfl) rfl ?_
            obtain ⟨b8, hr⟩ := grd_some hr
            refine Ev.ial V (j := 10) rfl rfl (d7 48 rfl) b8 ?_
            refine Ev.aloadN (d7 49 rfl) rfl ?_
            refine Ev.gAr V (ww hw 24 rfl) (d7 50 rfl) (j := 7) rfl ?_
            refine Ev.iloadN (d7 51 rfl) rfl ?_
            refine Ev.ial V (j := 7) rfl rfl (d7 52 rfl) b3 ?_
            refine Ev.isub (d7 53 rfl) ?_
            revert hr
            generalize ((s.2 10 (ix v4)) - (s.2 7 (ix (((s.1 20) + x1) % (s.1 15))))) = v9
            intro hr
            replace hr := (bnd_eq _ _).symm.trans hr
            refine Ev.istD (L' := [.val (.ref o), .val (.int x1), .val (.int (((s.1 20) + x1) % (s.1 15))), .val (.int v4), .val (.int v9)]) (d7 54 rfl) rfl hy4 rfl ?_
            refine Ev.iload (d7 55 rfl) rfl ?_
            refine Ev.aloadN (d7 56 rfl) rfl ?_
            refine Ev.gI V (ww hw 47 rfl) (d7 57 rfl) (j := 16) rfl rfl ?_
            refine Ev.icgt (t := 98) (d7 58 rfl) rfl (fun c10 => ?_) (fun c10 => ?_)
            · replace hr := (if_pos c10).symm.trans hr
              refine Ev.aloadN (d7 60 rfl) rfl ?_
              refine Ev.gAr V (ww hw 20 rfl) (d7 61 rfl) (j := 5) rfl ?_
              refine Ev.iloadN (d7 62 rfl) rfl ?_
              refine Ev.ial V (j := 5) rfl rfl (d7 63 rfl) b3 ?_
              refine Ev.ifeq (t := 134) (d7 64 rfl) rfl (fun c11 => ?_) (fun c11 => ?_)
              · replace hr := (if_pos c11).symm.trans hr
                refine Ev.iloadN (d7 80 rfl) rfl ?_
                cases hr
                exact Ev.ireturn rfl (d7 81 rfl)
              · replace hr := (if_neg c11).symm.trans hr
                refine Ev.aloadN (d7 65 rfl) rfl ?_
                refine Ev.gAr V (ww hw 26 rfl) (d7 66 rfl) (j := 8) rfl ?_
                refine Ev.iloadN (d7 67 rfl) rfl ?_
                refine Ev.ial V (j := 8) rfl rfl (d7 68 rfl) b3 ?_
                refine Ev.ifne (t := 136) (d7 69 rfl) rfl (fun c12 => ?_) (fun c12 => ?_)
                · replace hr := (if_pos c12).symm.trans hr
                  refine Ev.aloadN (d7 70 rfl) rfl ?_
                  refine Ev.gAr V (ww hw 26 rfl) (d7 71 rfl) (j := 8) rfl ?_
                  refine Ev.iloadN (d7 72 rfl) rfl ?_
                  refine Ev.aloadN (d7 73 rfl) rfl ?_
                  refine Ev.gI V (ww hw 58 rfl) (d7 74 rfl) (j := 19) rfl rfl ?_
                  refine Ev.aloadN (d7 75 rfl) rfl ?_
                  refine Ev.gI V (ww hw 49 rfl) (d7 76 rfl) (j := 17) rfl rfl ?_
                  refine Ev.iadd (d7 77 rfl) ?_
                  refine Ev.ias V (j := 8) rfl rfl (d7 78 rfl) b3 ?_
                  revert hr
                  generalize setA s 8 (ix (((s.1 20) + x1) % (s.1 15))) ((s.1 19) + (s.1 17)) = s13
                  intro hr
                  replace hr := (bnd_eq _ _).symm.trans hr
                  refine Ev.goto (t := 136) (d7 79 rfl) rfl ?_
                  refine Ev.iinc (z := 1) (L' := [.val (.ref o), .val (.int (x1 + (1 : Int32))), .val (.int (((s.1 20) + x1) % (s.1 15))), .val (.int v4), .val (.int v9)]) (d7 82 rfl) rfl rfl rfl ?_
                  refine Ev.goto (t := 2) (d7 83 rfl) rfl ?_
                  exact ih (x1 + (1 : Int32)) s13 (.val (.int (((s.1 20) + x1) % (s.1 15)))) rfl (.val (.int v4)) rfl (.val (.int v9)) rfl _ hr
                · replace hr := (if_neg c12).symm.trans hr
                  refine Ev.iinc (z := 1) (L' := [.val (.ref o), .val (.int (x1 + (1 : Int32))), .val (.int (((s.1 20) + x1) % (s.1 15))), .val (.int v4), .val (.int v9)]) (d7 82 rfl) rfl rfl rfl ?_
                  refine Ev.goto (t := 2) (d7 83 rfl) rfl ?_
                  exact ih (x1 + (1 : Int32)) s (.val (.int (((s.1 20) + x1) % (s.1 15)))) rfl (.val (.int v4)) rfl (.val (.int v9)) rfl _ hr
            · replace hr := (if_neg c10).symm.trans hr
              refine Ev.goto (t := 136) (d7 59 rfl) rfl ?_
              refine Ev.iinc (z := 1) (L' := [.val (.ref o), .val (.int (x1 + (1 : Int32))), .val (.int (((s.1 20) + x1) % (s.1 15))), .val (.int v4), .val (.int v9)]) (d7 82 rfl) rfl rfl rfl ?_
              refine Ev.goto (t := 2) (d7 83 rfl) rfl ?_
              exact ih (x1 + (1 : Int32)) s (.val (.int (((s.1 20) + x1) % (s.1 15)))) rfl (.val (.int v4)) rfl (.val (.int v9)) rfl _ hr
          · replace hr := (if_neg c7).symm.trans hr
            refine Ev.aloadN (d7 31 rfl) rfl ?_
            refine Ev.gAr V (ww hw 22 rfl) (d7 32 rfl) (j := 6) rfl ?_
            refine Ev.iloadN (d7 33 rfl) rfl ?_
            refine Ev.iconst (z := 0) (d7 34 rfl) rfl ?_
            refine Ev.ias V (j := 6) rfl rfl (d7 35 rfl) b3 ?_
            revert hr
            generalize setA s 6 (ix (((s.1 20) + x1) % (s.1 15))) (0 : Int32) = s14
            intro hr
            replace hr := (bnd_eq _ _).symm.trans hr
            refine Ev.aloadN (d7 36 rfl) rfl ?_
            refine Ev.gAr V (ww hw 24 rfl) (d7 37 rfl) (j := 7) rfl ?_
            refine Ev.iloadN (d7 38 rfl) rfl ?_
            refine Ev.aloadN (d7 39 rfl) rfl ?_
            refine Ev.gAr V (ww hw 31 rfl) (d7 40 rfl) (j := 10) rfl ?_
            refine Ev.iloadN (d7 41 rfl) rfl ?_
            obtain ⟨b15, hr⟩ := grd_some hr
            refine Ev.ial V (j := 10) rfl rfl (d7 42 rfl) b15 ?_
            refine Ev.ias V (j := 7) rfl rfl (d7 43 rfl) b3 ?_
            revert hr
            generalize setA s14 7 (ix (((s.1 20) + x1) % (s.1 15))) (s14.2 10 (ix v4)) = s16
            intro hr
            replace hr := (bnd_eq _ _).symm.trans hr
            refine Ev.goto (t := 136) (d7 44 rfl) rfl ?_
            refine Ev.iinc (z := 1) (L' := [.val (.ref o), .val (.int (x1 + (1 : Int32))), .val (.int (((s.1 20) + x1) % (s.1 15))), .val (.int v4), y4]) (d7 82 rfl) rfl rfl rfl ?_
            refine Ev.goto (t := 2) (d7 83 rfl) rfl ?_
            exact ih (x1 + (1 : Int32)) s16 (.val (.int (((s.1 20) + x1) % (s.1 15)))) rfl (.val (.int v4)) rfl y4 hy4 _ hr
    · replace hr := (if_neg c1).symm.trans hr
      refine Ev.iconst (z := -1) (d7 84 rfl) rfl ?_
      cases hr
      exact Ev.ireturn rfl (d7 85 rfl)
def f_sweep (n : Nat) (s : St) : Option (Int32 × St) :=
  f_sweep_2 n n (0 : Int32) s
set_option maxRecDepth 100000 in
theorem e_sweep {g : GT} {n : Nat} {s : St} {w : Int32 × St} (hw : HW g) {K : St → MHeap} {o : Nat} {r : Nat → Nat} (V : View (GG g) Ln K o r) (hr : f_sweep n s = some w) : EvC (GG g) M_sweep [.ref o] (K s) ((some (.int w.1)), (K w.2)) := by
  refine EvC.enter (L0 := [.val (.ref o), .unset, .unset, .unset, .unset]) pl_sweep (fun h => nomatch h) rfl rfl ?_
  unfold f_sweep at hr
  refine Ev.iconst (z := 0) (d7 0 rfl) rfl ?_
  refine Ev.istDN (L' := [.val (.ref o), .val (.int (0 : Int32)), .unset, .unset, .unset]) (d7 1 rfl) rfl rfl rfl ?_
  exact e_sweep_2 hw V  n (0 : Int32) s .unset rfl .unset rfl .unset rfl _ hr
def f_load_160 (x1 : Int32) (s : St) : Option (St) :=
  grd ((s.1 15) ≠ 0) <|
  bnd (setI s 20 ((x1 + (1 : Int32)) % (s.1 15))) fun s2 =>
  some s2
set_option maxRecDepth 100000 in
theorem e_load_160 {g : GT} (hw : HW g) {K : St → MHeap} {o : Nat} {r : Nat → Nat} (V : View (GG g) Ln K o r) (x1 : Int32) (s : St) (y2 : Slot) (hy2 : one1 y2 = true) (y3 : Slot) (hy3 : one1 y3 = true) (y4 : Slot) (hy4 : one1 y4 = true) (y5 : Slot) (hy5 : one1 y5 = true) (y6 : Slot) (hy6 : one1 y6 = true) (y7 : Slot) (hy7 : one1 y7 = true) (w : St) (hr : f_load_160 x1 s = some w) : Ev (GG g) M_load 160 [.val (.ref o), .val (.int x1), y2, y3, y4, y5, y6, y7] [] (K s) (none, (K w)) := by
  unfold f_load_160 at hr
  refine Ev.aloadN (d8 108 rfl) rfl ?_
  refine Ev.iloadN (d8 109 rfl) rfl ?_
  refine Ev.iconst (z := 1) (d8 110 rfl) rfl ?_
  refine Ev.iadd (d8 111 rfl) ?_
  refine Ev.aloadN (d8 112 rfl) rfl ?_
  refine Ev.gI V (ww hw 45 rfl) (d8 113 rfl) (j := 15) rfl rfl ?_
  obtain ⟨c1, hr⟩ := grd_some hr
  refine Ev.irem (d8 114 rfl) c1 ?_
  refine Ev.pI V (gok hw) (ww hw 77 rfl) (Or.inl (ww hw 78 rfl)) (d8 115 rfl) (j := 20) rfl ?_
  revert hr
  generalize setI s 20 ((x1 + (1 : Int32)) % (s.1 15)) = s2
  intro hr
  replace hr := (bnd_eq _ _).symm.trans hr
  cases hr
  exact Ev.vreturn rfl (d8 116 rfl)
def f_load_44 (x1 : Int32) (x2 : Int32) (x3 : Int32) (x4 : Int32) (x5 : Int32) (s : St) : Option (St) :=
  grd (inb x1 32) <|
  bnd (setA s 2 (ix x1) x2) fun s2 =>
  bnd (setA s2 3 (ix x1) x3) fun s3 =>
  grd (inb ((x2 * (8 : Int32)) + x3) 32) <|
  bnd (setA s3 1 (ix ((x2 * (8 : Int32)) + x3)) x1) fun s5 =>
  bnd (setA s5 4 (ix x1) (s5.2 0 (ix ((x2 * (8 : Int32)) + x3)))) fun s6 =>
  bnd (setA s6 5 (ix x1) (0 : Int32)) fun s7 =>
  bnd (setA s7 8 (ix x1) (0 : Int32)) fun s8 =>
  grd (inb x2 4) <|
  bnd (setA s8 10 (ix x2) ((s8.2 10 (ix x2)) + (1 : Int32))) fun s10 =>
  bnd (setA s10 14 (ix x2) ((s10.2 14 (ix x2)) + (1 : Int32))) fun s11 =>
  bnd (setA s11 6 (ix x1) (1 : Int32)) fun s12 =>
  bnd (setA s12 7 (ix x1) (s12.2 10 (ix x2))) fun s13 =>
  if x4 = 0 then
    f_load_160 x1 s13
  else
    bnd (setA s13 4 (ix x1) x5) fun s15 =>
    bnd (setA s15 5 (ix x1) (1 : Int32)) fun s16 =>
    f_load_160 x1 s16
set_option maxRecDepth 100000 in
theorem e_load_44 {g : GT} (hw : HW g) {K : St → MHeap} {o : Nat} {r : Nat → Nat} (V : View (GG g) Ln K o r) (x1 : Int32) (x2 : Int32) (x3 : Int32) (x4 : Int32) (x5 : Int32) (s : St) (y6 : Slot) (hy6 : one1 y6 = true) (y7 : Slot) (hy7 : one1 y7 = true) (w : St) (hr : f_load_44 x1 x2 x3 x4 x5 s = some w) : Ev (GG g) M_load 44 [.val (.ref o), .val (.int x1), .val (.int x2), .val (.int x3), .val (.int x4), .val (.int x5), y6, y7] [] (K s) (none, (K w)) := by
  unfold f_load_44 at hr
  refine Ev.aloadN (d8 26 rfl) rfl ?_
  refine Ev.gAr V (ww hw 14 rfl) (d8 27 rfl) (j := 2) rfl ?_
  refine Ev.iloadN (d8 28 rfl) rfl ?_
  refine Ev.iloadN (d8 29 rfl) rfl ?_
  obtain ⟨b1, hr⟩ := grd_some hr
  refine Ev.ias V (j := 2) rfl rfl (d8 30 rfl) b1 ?_
  revert hr
  generalize setA s 2 (ix x1) x2 = s2
  intro hr
  replace hr := (bnd_eq _ _).symm.trans hr
  refine Ev.aloadN (d8 31 rfl) rfl ?_
  refine Ev.gAr V (ww hw 16 rfl) (d8 32 rfl) (j := 3) rfl ?_
  refine Ev.iloadN (d8 33 rfl) rfl ?_
  refine Ev.iloadN (d8 34 rfl) rfl ?_
  refine Ev.ias V (j := 3) rfl rfl (d8 35 rfl) b1 ?_
  revert hr
  generalize setA s2 3 (ix x1) x3 = s3
  intro hr
  replace hr := (bnd_eq _ _).symm.trans hr
  refine Ev.aloadN (d8 36 rfl) rfl ?_
  refine Ev.gAr V (ww hw 12 rfl) (d8 37 rfl) (j := 1) rfl ?_
  refine Ev.iloadN (d8 38 rfl) rfl ?_
  refine Ev.bipush (z := 8) (d8 39 rfl) rfl ?_
  refine Ev.imul (d8 40 rfl) ?_
  refine Ev.iloadN (d8 41 rfl) rfl ?_
  refine Ev.iadd (d8 42 rfl) ?_
  refine Ev.iloadN (d8 43 rfl) rfl ?_
  obtain ⟨b4, hr⟩ := grd_some hr
  refine Ev.ias V (j := 1) rfl rfl (d8 44 rfl) b4 ?_
  revert hr
  generalize setA s3 1 (ix ((x2 * (8 : Int32)) + x3)) x1 = s5
  intro hr
  replace hr := (bnd_eq _ _).symm.trans hr
  refine Ev.aloadN (d8 45 rfl) rfl ?_
  refine Ev.gAr V (ww hw 18 rfl) (d8 46 rfl) (j := 4) rfl ?_
  refine Ev.iloadN (d8 47 rfl) rfl ?_
  refine Ev.aloadN (d8 48 rfl) rfl ?_
  refine Ev.gAr V (ww hw 10 rfl) (d8 49 rfl) (j := 0) rfl ?_
  refine Ev.iloadN (d8 50 rfl) rfl ?_
  refine Ev.bipush (z := 8) (d8 51 rfl) rfl ?_
  refine Ev.imul (d8 52 rfl) ?_
  refine Ev.iloadN (d8 53 rfl) rfl ?_
  refine Ev.iadd (d8 54 rfl) ?_
  refine Ev.ial V (j := 0) rfl rfl (d8 55 rfl) b4 ?_
  refine Ev.ias V (j := 4) rfl rfl (d8 56 rfl) b1 ?_
  revert hr
  generalize setA s5 4 (ix x1) (s5.2 0 (ix ((x2 * (8 : Int32)) + x3))) = s6
  intro hr
  replace hr := (bnd_eq _ _).symm.trans hr
  refine Ev.aloadN (d8 57 rfl) rfl ?_
  refine Ev.gAr V (ww hw 20 rfl) (d8 58 rfl) (j := 5) rfl ?_
  refine Ev.iloadN (d8 59 rfl) rfl ?_
  refine Ev.iconst (z := 0) (d8 60 rfl) rfl ?_
  refine Ev.ias V (j := 5) rfl rfl (d8 61 rfl) b1 ?_
  revert hr
  generalize setA s6 5 (ix x1) (0 : Int32) = s7
  intro hr
  replace hr := (bnd_eq _ _).symm.trans hr
  refine Ev.aloadN (d8 62 rfl) rfl ?_
  refine Ev.gAr V (ww hw 26 rfl) (d8 63 rfl) (j := 8) rfl ?_
  refine Ev.iloadN (d8 64 rfl) rfl ?_
  refine Ev.iconst (z := 0) (d8 65 rfl) rfl ?_
  refine Ev.ias V (j := 8) rfl rfl (d8 66 rfl) b1 ?_
  revert hr
  generalize setA s7 8 (ix x1) (0 : Int32) = s8
  intro hr
  replace hr := (bnd_eq _ _).symm.trans hr
  refine Ev.aloadN (d8 67 rfl) rfl ?_
  refine Ev.gAr V (ww hw 31 rfl) (d8 68 rfl) (j := 10) rfl ?_
  refine Ev.iloadN (d8 69 rfl) rfl ?_
  refine Ev.dup2 (d8 70 rfl) rfl rfl ?_
  obtain ⟨b9, hr⟩ := grd_some hr
  refine Ev.ial V (j := 10) rfl rfl (d8 71 rfl) b9 ?_
  refine Ev.iconst (z := 1) (d8 72 rfl) rfl ?_
  refine Ev.iadd (d8 73 rfl) ?_
  refine Ev.ias V (j := 10) rfl rfl (d8 74 rfl) b9 ?_
  revert hr
  generalize setA s8 10 (ix x2) ((s8.2 10 (ix x2)) + (1 : Int32)) = s10
  intro hr
  replace hr := (bnd_eq _ _).symm.trans hr
  refine Ev.aloadN (d8 75 rfl) rfl ?_
  refine Ev.gAr V (ww hw 39 rfl) (d8 76 rfl) (j := 14) rfl ?_
  refine Ev.iloadN (d8 77 rfl) rfl ?_
  refine Ev.dup2 (d8 78 rfl) rfl rfl ?_
  refine Ev.ial V (j := 14) rfl rfl (d8 79 rfl) b9 ?_
  refine Ev.iconst (z := 1) (d8 80 rfl) rfl ?_
  refine Ev.iadd (d8 81 rfl) ?_
  refine Ev.ias V (j := 14) rfl rfl (d8 82 rfl) b9 ?_
  revert hr
  generalize setA s10 14 (ix x2) ((s10.2 14 (ix x2)) + (1 : Int32)) = s11
  intro hr
  replace hr := (bnd_eq _ _).symm.trans hr
  refine Ev.aloadN (d8 83 rfl) rfl ?_
  refine Ev.gAr V (ww hw 22 rfl) (d8 84 rfl) (j := 6) rfl ?_
  refine Ev.iloadN (d8 85 rfl) rfl ?_
  refine Ev.iconst (z := 1) (d8 86 rfl) rfl ?_
  refine Ev.ias V (j := 6) rfl rfl (d8 87 rfl) b1 ?_
  revert hr
  generalize setA s11 6 (ix x1) (1 : Int32) = s12
  intro hr
  replace hr := (bnd_eq _ _).symm.trans hr
  refine Ev.aloadN (d8 88 rfl) rfl ?_
  refine Ev.gAr V (ww hw 24 rfl) (d8 89 rfl) (j := 7) rfl ?_
  refine Ev.iloadN (d8 90 rfl) rfl ?_
  refine Ev.aloadN (d8 91 rfl) rfl ?_
  refine Ev.gAr V (ww hw 31 rfl) (d8 92 rfl) (j := 10) rfl ?_
  refine Ev.iloadN (d8 93 rfl) rfl ?_
  refine Ev.ial V (j := 10) rfl rfl (d8 94 rfl) b9 ?_
  refine Ev.ias V (j := 7) rfl rfl (d8 95 rfl) b1 ?_
  revert hr
  generalize setA s12 7 (ix x1) (s12.2 10 (ix x2)) = s13
  intro hr
  replace hr := (bnd_eq _ _).symm.trans hr
  refine Ev.iload (d8 96 rfl) rfl ?_
  refine Ev.ifeq (t := 160) (d8 97 rfl) rfl (fun c14 => ?_) (fun c14 => ?_)
  · replace hr := (if_pos c14).symm.trans hr
    exact e_load_160 hw V  x1 s13 (.val (.int x2)) rfl (.val (.int x3)) rfl (.val (.int x4)) rfl (.val (.int x5)) rfl y6 hy6 y7 hy7 _ hr
  · replace hr := (if_neg c14).symm.trans hr
    refine Ev.aloadN (d8 98 rfl) rfl ?_
    refine Ev.gAr V (ww hw 18 rfl) (d8 99 rfl) (j := 4) rfl ?_
    refine Ev.iloadN (d8 100 rfl) rfl ?_
    refine Ev.iload (d8 101 rfl) rfl ?_
    refine Ev.ias V (j := 4) rfl rfl (d8 102 rfl) b1 ?_
    revert hr
    generalize setA s13 4 (ix x1) x5 = s15
    intro hr
    replace hr := (bnd_eq _ _).symm.trans hr
    refine Ev.aloadN (d8 103 rfl) rfl ?_
    refine Ev.gAr V (ww hw 20 rfl) (d8 104 rfl) (j := 5) rfl ?_
    refine Ev.iloadN (d8 105 rfl) rfl ?_
    refine Ev.iconst (z := 1) (d8 106 rfl) rfl ?_
    refine Ev.ias V (j := 5) rfl rfl (d8 107 rfl) b1 ?_
    revert hr
    generalize setA s15 5 (ix x1) (1 : Int32) = s16
    intro hr
    replace hr := (bnd_eq _ _).symm.trans hr
    exact e_load_160 hw V  x1 s16 (.val (.int x2)) rfl (.val (.int x3)) rfl (.val (.int x4)) rfl (.val (.int x5)) rfl y6 hy6 y7 hy7 _ hr
def f_load (a0 : Int32) (a1 : Int32) (a2 : Int32) (a3 : Int32) (a4 : Int32) (s : St) : Option (St) :=
  grd (inb a0 32) <|
  if (s.2 2 (ix a0)) < 0 then
    f_load_44 a0 a1 a2 a3 a4 s
  else
    if (3 : Int32) < (s.2 2 (ix a0)) then
      f_load_44 a0 a1 a2 a3 a4 s
    else
      bnd (((s.2 2 (ix a0)) * (8 : Int32)) + ((s.2 3 (ix a0)) &&& (7 : Int32))) fun v4 =>
      grd (inb v4 32) <|
      bnd (setA s 1 (ix v4) (-1 : Int32)) fun s6 =>
      f_load_44 a0 a1 a2 a3 a4 s6
set_option maxRecDepth 100000 in
theorem e_load {g : GT} {a0 : Int32} {a1 : Int32} {a2 : Int32} {a3 : Int32} {a4 : Int32} {s : St} {w : St} (hw : HW g) {K : St → MHeap} {o : Nat} {r : Nat → Nat} (V : View (GG g) Ln K o r) (hr : f_load a0 a1 a2 a3 a4 s = some w) : EvC (GG g) M_load [.ref o, .int a0, .int a1, .int a2, .int a3, .int a4] (K s) (none, (K w)) := by
  refine EvC.enter (L0 := [.val (.ref o), .val (.int a0), .val (.int a1), .val (.int a2), .val (.int a3), .val (.int a4), .unset, .unset]) pl_load (fun _ => rfl) rfl rfl ?_
  unfold f_load at hr
  refine Ev.aloadN (d8 0 rfl) rfl ?_
  refine Ev.gAr V (ww hw 14 rfl) (d8 1 rfl) (j := 2) rfl ?_
  refine Ev.iloadN (d8 2 rfl) rfl ?_
  obtain ⟨b1, hr⟩ := grd_some hr
  refine Ev.ial V (j := 2) rfl rfl (d8 3 rfl) b1 ?_
  refine Ev.istD (L' := [.val (.ref o), .val (.int a0), .val (.int a1), .val (.int a2), .val (.int a3), .val (.int a4), .val (.int (s.2 2 (ix a0))), .unset]) (d8 4 rfl) rfl rfl rfl ?_
  refine Ev.iload (d8 5 rfl) rfl ?_
  refine Ev.iflt (t := 44) (d8 6 rfl) rfl (fun c2 => ?_) (fun c2 => ?_)
  · replace hr := (if_pos c2).symm.trans hr
    exact e_load_44 hw V  a0 a1 a2 a3 a4 s (.val (.int (s.2 2 (ix a0)))) rfl .unset rfl _ hr
  · replace hr := (if_neg c2).symm.trans hr
    refine Ev.iload (d8 7 rfl) rfl ?_
    refine Ev.iconst (z := 3) (d8 8 rfl) rfl ?_
    refine Ev.icgt (t := 44) (d8 9 rfl) rfl (fun c3 => ?_) (fun c3 => ?_)
    · replace hr := (if_pos c3).symm.trans hr
      exact e_load_44 hw V  a0 a1 a2 a3 a4 s (.val (.int (s.2 2 (ix a0)))) rfl .unset rfl _ hr
    · replace hr := (if_neg c3).symm.trans hr
      refine Ev.iload (d8 10 rfl) rfl ?_
      refine Ev.bipush (z := 8) (d8 11 rfl) rfl ?_
      refine Ev.imul (d8 12 rfl) ?_
      refine Ev.aloadN (d8 13 rfl) rfl ?_
      refine Ev.gAr V (ww hw 16 rfl) (d8 14 rfl) (j := 3) rfl ?_
      refine Ev.iloadN (d8 15 rfl) rfl ?_
      refine Ev.ial V (j := 3) rfl rfl (d8 16 rfl) b1 ?_
      refine Ev.bipush (z := 7) (d8 17 rfl) rfl ?_
      refine Ev.iand (d8 18 rfl) ?_
      refine Ev.iadd (d8 19 rfl) ?_
      revert hr
      generalize (((s.2 2 (ix a0)) * (8 : Int32)) + ((s.2 3 (ix a0)) &&& (7 : Int32))) = v4
      intro hr
      replace hr := (bnd_eq _ _).symm.trans hr
      refine Ev.istD (L' := [.val (.ref o), .val (.int a0), .val (.int a1), .val (.int a2), .val (.int a3), .val (.int a4), .val (.int (s.2 2 (ix a0))), .val (.int v4)]) (d8 20 rfl) rfl rfl rfl ?_
      refine Ev.aloadN (d8 21 rfl) rfl ?_
      refine Ev.gAr V (ww hw 12 rfl) (d8 22 rfl) (j := 1) rfl ?_
      refine Ev.iload (d8 23 rfl) rfl ?_
      refine Ev.iconst (z := -1) (d8 24 rfl) rfl ?_
      obtain ⟨b5, hr⟩ := grd_some hr
      refine Ev.ias V (j := 1) rfl rfl (d8 25 rfl) b5 ?_
      revert hr
      generalize setA s 1 (ix v4) (-1 : Int32) = s6
      intro hr
      replace hr := (bnd_eq _ _).symm.trans hr
      exact e_load_44 hw V  a0 a1 a2 a3 a4 s6 (.val (.int (s.2 2 (ix a0)))) rfl (.val (.int v4)) rfl _ hr
def f_access_90 (n : Nat) (x1 : Int32) (x2 : Int32) (x3 : Int32) (x4 : Int32) (s : St) : Option (Int32 × St) :=
  grd (inb x1 4) <|
  bnd (setA s 11 (ix x1) ((s.2 11 (ix x1)) + (1 : Int32))) fun s2 =>
  bnd (setA s2 13 (ix x1) ((s2.2 13 (ix x1)) + (1 : Int32))) fun s3 =>
  (f_sweep n s3).bind fun q4 =>
  if q4.1 < 0 then
    some ((3 : Int32), q4.2)
  else
    (f_load q4.1 x1 x2 x3 x4 q4.2).bind fun q7 =>
    bnd (setI q7 21 q4.1) fun s9 =>
    some ((2 : Int32), s9)
set_option maxRecDepth 100000 in
theorem e_access_90 {g : GT} {n : Nat} (hw : HW g) {K : St → MHeap} {o : Nat} {r : Nat → Nat} (V : View (GG g) Ln K o r) (x1 : Int32) (x2 : Int32) (x3 : Int32) (x4 : Int32) (s : St) (y5 : Slot) (hy5 : one1 y5 = true) (y6 : Slot) (hy6 : one1 y6 = true) (w : Int32 × St) (hr : f_access_90 n x1 x2 x3 x4 s = some w) : Ev (GG g) M_access 90 [.val (.ref o), .val (.int x1), .val (.int x2), .val (.int x3), .val (.int x4), y5, y6] [] (K s) ((some (.int w.1)), (K w.2)) := by
  unfold f_access_90 at hr
  refine Ev.aloadN (d6 53 rfl) rfl ?_
  refine Ev.gAr V (ww hw 33 rfl) (d6 54 rfl) (j := 11) rfl ?_
  refine Ev.iloadN (d6 55 rfl) rfl ?_
  refine Ev.dup2 (d6 56 rfl) rfl rfl ?_
  obtain ⟨b1, hr⟩ := grd_some hr
  refine Ev.ial V (j := 11) rfl rfl (d6 57 rfl) b1 ?_
  refine Ev.iconst (z := 1) (d6 58 rfl) rfl ?_
  refine Ev.iadd (d6 59 rfl) ?_
  refine Ev.ias V (j := 11) rfl rfl (d6 60 rfl) b1 ?_
  revert hr
  generalize setA s 11 (ix x1) ((s.2 11 (ix x1)) + (1 : Int32)) = s2
  intro hr
  replace hr := (bnd_eq _ _).symm.trans hr
  refine Ev.aloadN (d6 61 rfl) rfl ?_
  refine Ev.gAr V (ww hw 37 rfl) (d6 62 rfl) (j := 13) rfl ?_
  refine Ev.iloadN (d6 63 rfl) rfl ?_
  refine Ev.dup2 (d6 64 rfl) rfl rfl ?_
  refine Ev.ial V (j := 13) rfl rfl (d6 65 rfl) b1 ?_
  refine Ev.iconst (z := 1) (d6 66 rfl) rfl ?_
  refine Ev.iadd (d6 67 rfl) ?_
  refine Ev.ias V (j := 13) rfl rfl (d6 68 rfl) b1 ?_
  revert hr
  generalize setA s2 13 (ix x1) ((s2.2 13 (ix x1)) + (1 : Int32)) = s3
  intro hr
  replace hr := (bnd_eq _ _).symm.trans hr
  refine Ev.aloadN (d6 69 rfl) rfl ?_
  obtain ⟨q4, hq5, hr⟩ := Option.bind_eq_some_iff.mp hr
  refine Ev.priv (y := M_sweep) (args := []) (rest := []) (gok hw) rfl nm_sweep (ww hw 73 rfl) (ww hw 74 rfl) (ww hw 75 rfl) (ww hw 76 rfl) (lenOf pd_sweep rfl) (d6 70 rfl) (V.2.1 s3) (e_sweep hw V hq5) (by decide) (Nat.le_of_ble_eq_true rfl) rfl ?_
  refine Ev.istD (L' := [.val (.ref o), .val (.int x1), .val (.int x2), .val (.int x3), .val (.int x4), y5, .val (.int q4.1)]) (d6 71 rfl) rfl hy6 rfl ?_
  refine Ev.iload (d6 72 rfl) rfl ?_
  refine Ev.ifge (t := 123) (d6 73 rfl) rfl (fun c6 => ?_) (fun c6 => ?_)
  · replace hr := (if_pos c6).symm.trans hr
    refine Ev.iconst (z := 3) (d6 74 rfl) rfl ?_
    cases hr
    exact Ev.ireturn rfl (d6 75 rfl)
  · replace hr := (if_neg c6).symm.trans hr
    refine Ev.aloadN (d6 76 rfl) rfl ?_
    refine Ev.iload (d6 77 rfl) rfl ?_
    refine Ev.iloadN (d6 78 rfl) rfl ?_
    refine Ev.iloadN (d6 79 rfl) rfl ?_
    refine Ev.iloadN (d6 80 rfl) rfl ?_
    refine Ev.iload (d6 81 rfl) rfl ?_
    obtain ⟨q7, hq8, hr⟩ := Option.bind_eq_some_iff.mp hr
    refine Ev.priv (y := M_load) (args := [.int q4.1, .int x1, .int x2, .int x3, .int x4]) (rest := []) (gok hw) rfl nm_load (ww hw 79 rfl) (ww hw 80 rfl) (ww hw 81 rfl) (ww hw 82 rfl) (lenOf pd_load rfl) (d6 82 rfl) (V.2.1 q4.2) (e_load hw V hq8) (by decide) (Nat.le_of_ble_eq_true rfl) rfl ?_
    refine Ev.aloadN (d6 83 rfl) rfl ?_
    refine Ev.iload (d6 84 rfl) rfl ?_
    refine Ev.pI V (gok hw) (ww hw 83 rfl) (Or.inl (ww hw 84 rfl)) (d6 85 rfl) (j := 21) rfl ?_
    revert hr
    generalize setI q7 21 q4.1 = s9
    intro hr
    replace hr := (bnd_eq _ _).symm.trans hr
    refine Ev.iconst (z := 2) (d6 86 rfl) rfl ?_
    cases hr
    exact Ev.ireturn rfl (d6 87 rfl)
def f_access (n : Nat) (a0 : Int32) (a1 : Int32) (a2 : Int32) (a3 : Int32) (s : St) : Option (Int32 × St) :=
  if a0 < 0 then
    some ((5 : Int32), s)
  else
    if (3 : Int32) < a0 then
      some ((5 : Int32), s)
    else
      if a1 < 0 then
        some ((5 : Int32), s)
      else
        if (7 : Int32) < a1 then
          some ((5 : Int32), s)
        else
          grd (inb a0 4) <|
          if (s.2 9 (ix a0)) = 0 then
            bnd (setI s 19 ((s.1 19) + (1 : Int32))) fun s7 =>
            (f_completeWriteBacks n s7).bind fun q8 =>
            grd (inb ((a0 * (8 : Int32)) + a1) 32) <|
            bnd (q8.2.2 1 (ix ((a0 * (8 : Int32)) + a1))) fun v11 =>
            if v11 < 0 then
              f_access_90 n a0 a1 a2 a3 q8.2
            else
              if v11 < (32 : Int32) then
                (f_hit v11 a0 a2 a3 q8.2).bind fun q14 =>
                bnd (setI q14 21 v11) fun s16 =>
                some ((1 : Int32), s16)
              else
                f_access_90 n a0 a1 a2 a3 q8.2
          else
            some ((4 : Int32), s)
set_option maxRecDepth 100000 in
theorem e_access {g : GT} {n : Nat} {a0 : Int32} {a1 : Int32} {a2 : Int32} {a3 : Int32} {s : St} {w : Int32 × St} (hw : HW g) {K : St → MHeap} {o : Nat} {r : Nat → Nat} (V : View (GG g) Ln K o r) (hr : f_access n a0 a1 a2 a3 s = some w) : EvC (GG g) M_access [.ref o, .int a0, .int a1, .int a2, .int a3] (K s) ((some (.int w.1)), (K w.2)) := by
  refine EvC.enter (L0 := [.val (.ref o), .val (.int a0), .val (.int a1), .val (.int a2), .val (.int a3), .unset, .unset]) pl_access (fun h => nomatch h) rfl rfl ?_
  unfold f_access at hr
  refine Ev.iloadN (d6 0 rfl) rfl ?_
  refine Ev.iflt (t := 19) (d6 1 rfl) rfl (fun c1 => ?_) (fun c1 => ?_)
  · replace hr := (if_pos c1).symm.trans hr
    refine Ev.iconst (z := 5) (d6 10 rfl) rfl ?_
    cases hr
    exact Ev.ireturn rfl (d6 11 rfl)
  · replace hr := (if_neg c1).symm.trans hr
    refine Ev.iloadN (d6 2 rfl) rfl ?_
    refine Ev.iconst (z := 3) (d6 3 rfl) rfl ?_
    refine Ev.icgt (t := 19) (d6 4 rfl) rfl (fun c2 => ?_) (fun c2 => ?_)
    · replace hr := (if_pos c2).symm.trans hr
      refine Ev.iconst (z := 5) (d6 10 rfl) rfl ?_
      cases hr
      exact Ev.ireturn rfl (d6 11 rfl)
    · replace hr := (if_neg c2).symm.trans hr
      refine Ev.iloadN (d6 5 rfl) rfl ?_
      refine Ev.iflt (t := 19) (d6 6 rfl) rfl (fun c3 => ?_) (fun c3 => ?_)
      · replace hr := (if_pos c3).symm.trans hr
        refine Ev.iconst (z := 5) (d6 10 rfl) rfl ?_
        cases hr
        exact Ev.ireturn rfl (d6 11 rfl)
      · replace hr := (if_neg c3).symm.trans hr
        refine Ev.iloadN (d6 7 rfl) rfl ?_
        refine Ev.bipush (z := 7) (d6 8 rfl) rfl ?_
        refine Ev.icle (t := 21) (d6 9 rfl) rfl (fun c4 => ?_) (fun c4 => ?_)
        · replace hr := (if_pos c4).symm.trans hr
          refine Ev.iconst (z := 5) (d6 10 rfl) rfl ?_
          cases hr
          exact Ev.ireturn rfl (d6 11 rfl)
        · replace hr := (if_neg c4).symm.trans hr
          refine Ev.aloadN (d6 12 rfl) rfl ?_
          refine Ev.gAr V (ww hw 29 rfl) (d6 13 rfl) (j := 9) rfl ?_
          refine Ev.iloadN (d6 14 rfl) rfl ?_
          obtain ⟨b5, hr⟩ := grd_some hr
          refine Ev.bal V (j := 9) rfl rfl (d6 15 rfl) b5 ?_
          refine Ev.ifeq (t := 32) (d6 16 rfl) rfl (fun c6 => ?_) (fun c6 => ?_)
          · replace hr := (if_pos c6).symm.trans hr
            refine Ev.aloadN (d6 19 rfl) rfl ?_
            refine Ev.dup (d6 20 rfl) rfl ?_
            refine Ev.gI V (ww hw 58 rfl) (d6 21 rfl) (j := 19) rfl rfl ?_
            refine Ev.iconst (z := 1) (d6 22 rfl) rfl ?_
            refine Ev.iadd (d6 23 rfl) ?_
            refine Ev.pI V (gok hw) (ww hw 58 rfl) (Or.inl (ww hw 59 rfl)) (d6 24 rfl) (j := 19) rfl ?_
            revert hr
            generalize setI s 19 ((s.1 19) + (1 : Int32)) = s7
            intro hr
            replace hr := (bnd_eq _ _).symm.trans hr
            refine Ev.aloadN (d6 25 rfl) rfl ?_
            obtain ⟨q8, hq9, hr⟩ := Option.bind_eq_some_iff.mp hr
            refine Ev.priv (y := M_completeWriteBacks) (args := []) (rest := []) (gok hw) rfl nm_completeWriteBacks (ww hw 60 rfl) (ww hw 61 rfl) (ww hw 62 rfl) (ww hw 63 rfl) (lenOf pd_completeWriteBacks rfl) (d6 26 rfl) (V.2.1 s7) (e_completeWriteBacks hw V hq9) (by decide) (Nat.le_of_ble_eq_true rfl) rfl ?_
            refine Ev.pop (d6 27 rfl) rfl ?_
            refine Ev.aloadN (d6 28 rfl) rfl ?_
            refine Ev.gAr V (ww hw 12 rfl) (d6 29 rfl) (j := 1) rfl ?_
            refine Ev.iloadN (d6 30 rfl) rfl ?_
            refine Ev.bipush (z := 8) (d6 31 rfl) rfl ?_
            refine Ev.imul (d6 32 rfl) ?_
            refine Ev.iloadN (d6 33 rfl) rfl ?_
            refine Ev.iadd (d6 34 rfl) ?_
            obtain ⟨b10, hr⟩ := grd_some hr
            refine Ev.ial V (j := 1) rfl rfl (d6 35 rfl) b10 ?_
            revert hr
            generalize (q8.2.2 1 (ix ((a0 * (8 : Int32)) + a1))) = v11
            intro hr
            replace hr := (bnd_eq _ _).symm.trans hr
            refine Ev.istD (L' := [.val (.ref o), .val (.int a0), .val (.int a1), .val (.int a2), .val (.int a3), .val (.int v11), .unset]) (d6 36 rfl) rfl rfl rfl ?_
            refine Ev.iload (d6 37 rfl) rfl ?_
            refine Ev.iflt (t := 90) (d6 38 rfl) rfl (fun c12 => ?_) (fun c12 => ?_)
            · replace hr := (if_pos c12).symm.trans hr
              exact e_access_90 hw V  a0 a1 a2 a3 q8.2 (.val (.int v11)) rfl .unset rfl _ hr
            · replace hr := (if_neg c12).symm.trans hr
              refine Ev.iload (d6 39 rfl) rfl ?_
              refine Ev.bipush (z := 32) (d6 40 rfl) rfl ?_
              refine Ev.icge (t := 90) (d6 41 rfl) rfl (fun c13 => ?_) (fun c13 => ?_)
              · replace hr := (if_pos c13).symm.trans hr
                refine Ev.aloadN (d6 42 rfl) rfl ?_
                refine Ev.iload (d6 43 rfl) rfl ?_
                refine Ev.iloadN (d6 44 rfl) rfl ?_
                refine Ev.iloadN (d6 45 rfl) rfl ?_
                refine Ev.iload (d6 46 rfl) rfl ?_
                obtain ⟨q14, hq15, hr⟩ := Option.bind_eq_some_iff.mp hr
                refine Ev.priv (y := M_hit) (args := [.int v11, .int a0, .int a2, .int a3]) (rest := []) (gok hw) rfl nm_hit (ww hw 92 rfl) (ww hw 93 rfl) (ww hw 94 rfl) (ww hw 95 rfl) (lenOf pd_hit rfl) (d6 47 rfl) (V.2.1 q8.2) (e_hit hw V hq15) (by decide) (Nat.le_of_ble_eq_true rfl) rfl ?_
                refine Ev.aloadN (d6 48 rfl) rfl ?_
                refine Ev.iload (d6 49 rfl) rfl ?_
                refine Ev.pI V (gok hw) (ww hw 83 rfl) (Or.inl (ww hw 84 rfl)) (d6 50 rfl) (j := 21) rfl ?_
                revert hr
                generalize setI q14 21 v11 = s16
                intro hr
                replace hr := (bnd_eq _ _).symm.trans hr
                refine Ev.iconst (z := 1) (d6 51 rfl) rfl ?_
                cases hr
                exact Ev.ireturn rfl (d6 52 rfl)
              · replace hr := (if_neg c13).symm.trans hr
                exact e_access_90 hw V  a0 a1 a2 a3 q8.2 (.val (.int v11)) rfl .unset rfl _ hr
          · replace hr := (if_neg c6).symm.trans hr
            refine Ev.iconst (z := 4) (d6 17 rfl) rfl ?_
            cases hr
            exact Ev.ireturn rfl (d6 18 rfl)
def f_read_24 (n : Nat) (s : St) : Option (Int32 × St) :=
  grd (inb (s.1 21) 32) <|
  some ((s.2 4 (ix (s.1 21))), s)
set_option maxRecDepth 100000 in
theorem e_read_24 {g : GT} {n : Nat} (hw : HW g) {K : St → MHeap} {o : Nat} {r : Nat → Nat} (V : View (GG g) Ln K o r) (s : St) (y1 : Slot) (hy1 : one1 y1 = true) (y2 : Slot) (hy2 : one1 y2 = true) (y3 : Slot) (hy3 : one1 y3 = true) (w : Int32 × St) (hr : f_read_24 n s = some w) : Ev (GG g) M_read 24 [.val (.ref o), y1, y2, y3] [] (K s) ((some (.int w.1)), (K w.2)) := by
  unfold f_read_24 at hr
  refine Ev.aloadN (d9 16 rfl) rfl ?_
  refine Ev.gAr V (ww hw 18 rfl) (d9 17 rfl) (j := 4) rfl ?_
  refine Ev.aloadN (d9 18 rfl) rfl ?_
  refine Ev.gI V (ww hw 83 rfl) (d9 19 rfl) (j := 21) rfl rfl ?_
  obtain ⟨b1, hr⟩ := grd_some hr
  refine Ev.ial V (j := 4) rfl rfl (d9 20 rfl) b1 ?_
  cases hr
  exact Ev.ireturn rfl (d9 21 rfl)
def f_read (n : Nat) (a0 : Int32) (a1 : Int32) (s : St) : Option (Int32 × St) :=
  (f_access n a0 a1 (0 : Int32) (0 : Int32) s).bind fun q1 =>
  bnd (setI q1.2 22 q1.1) fun s3 =>
  if q1.1 = (1 : Int32) then
    f_read_24 n s3
  else
    if q1.1 = (2 : Int32) then
      f_read_24 n s3
    else
      some ((0 : Int32), s3)
set_option maxRecDepth 100000 in
theorem e_read {g : GT} {n : Nat} {a0 : Int32} {a1 : Int32} {s : St} {w : Int32 × St} (hw : HW g) {K : St → MHeap} {o : Nat} {r : Nat → Nat} (V : View (GG g) Ln K o r) (hr : f_read n a0 a1 s = some w) : EvC (GG g) M_read [.ref o, .int a0, .int a1] (K s) ((some (.int w.1)), (K w.2)) := by
  refine EvC.enter (L0 := [.val (.ref o), .val (.int a0), .val (.int a1), .unset]) pl_read (fun h => nomatch h) rfl rfl ?_
  unfold f_read at hr
  refine Ev.aloadN (d9 0 rfl) rfl ?_
  refine Ev.iloadN (d9 1 rfl) rfl ?_
  refine Ev.iloadN (d9 2 rfl) rfl ?_
  refine Ev.iconst (z := 0) (d9 3 rfl) rfl ?_
  refine Ev.iconst (z := 0) (d9 4 rfl) rfl ?_
  obtain ⟨q1, hq2, hr⟩ := Option.bind_eq_some_iff.mp hr
  refine Ev.priv (y := M_access) (args := [.int a0, .int a1, .int (0 : Int32), .int (0 : Int32)]) (rest := []) (gok hw) rfl nm_access (ww hw 69 rfl) (ww hw 70 rfl) (ww hw 71 rfl) (ww hw 72 rfl) (lenOf pd_access rfl) (d9 5 rfl) (V.2.1 s) (e_access hw V hq2) (by decide) (Nat.le_of_ble_eq_true rfl) rfl ?_
  refine Ev.istDN (L' := [.val (.ref o), .val (.int a0), .val (.int a1), .val (.int q1.1)]) (d9 6 rfl) rfl rfl rfl ?_
  refine Ev.aloadN (d9 7 rfl) rfl ?_
  refine Ev.iloadN (d9 8 rfl) rfl ?_
  refine Ev.pI V (gok hw) (ww hw 85 rfl) (Or.inl (ww hw 86 rfl)) (d9 9 rfl) (j := 22) rfl ?_
  revert hr
  generalize setI q1.2 22 q1.1 = s3
  intro hr
  replace hr := (bnd_eq _ _).symm.trans hr
  refine Ev.iloadN (d9 10 rfl) rfl ?_
  refine Ev.iconst (z := 1) (d9 11 rfl) rfl ?_
  refine Ev.iceq (t := 24) (d9 12 rfl) rfl (fun c4 => ?_) (fun c4 => ?_)
  · replace hr := (if_pos c4).symm.trans hr
    exact e_read_24 hw V  s3 (.val (.int a0)) rfl (.val (.int a1)) rfl (.val (.int q1.1)) rfl _ hr
  · replace hr := (if_neg c4).symm.trans hr
    refine Ev.iloadN (d9 13 rfl) rfl ?_
    refine Ev.iconst (z := 2) (d9 14 rfl) rfl ?_
    refine Ev.icne (t := 34) (d9 15 rfl) rfl (fun c5 => ?_) (fun c5 => ?_)
    · replace hr := (if_pos c5).symm.trans hr
      exact e_read_24 hw V  s3 (.val (.int a0)) rfl (.val (.int a1)) rfl (.val (.int q1.1)) rfl _ hr
    · replace hr := (if_neg c5).symm.trans hr
      refine Ev.iconst (z := 0) (d9 22 rfl) rfl ?_
      cases hr
      exact Ev.ireturn rfl (d9 23 rfl)
def f_write (n : Nat) (a0 : Int32) (a1 : Int32) (a2 : Int32) (s : St) : Option (Int32 × St) :=
  (f_access n a0 a1 (1 : Int32) a2 s).bind fun q1 =>
  bnd (setI q1.2 22 q1.1) fun s3 =>
  some (q1.1, s3)
set_option maxRecDepth 100000 in
theorem e_write {g : GT} {n : Nat} {a0 : Int32} {a1 : Int32} {a2 : Int32} {s : St} {w : Int32 × St} (hw : HW g) {K : St → MHeap} {o : Nat} {r : Nat → Nat} (V : View (GG g) Ln K o r) (hr : f_write n a0 a1 a2 s = some w) : EvC (GG g) M_write [.ref o, .int a0, .int a1, .int a2] (K s) ((some (.int w.1)), (K w.2)) := by
  refine EvC.enter (L0 := [.val (.ref o), .val (.int a0), .val (.int a1), .val (.int a2), .unset]) pl_write (fun h => nomatch h) rfl rfl ?_
  unfold f_write at hr
  refine Ev.aloadN (d5 0 rfl) rfl ?_
  refine Ev.iloadN (d5 1 rfl) rfl ?_
  refine Ev.iloadN (d5 2 rfl) rfl ?_
  refine Ev.iconst (z := 1) (d5 3 rfl) rfl ?_
  refine Ev.iloadN (d5 4 rfl) rfl ?_
  obtain ⟨q1, hq2, hr⟩ := Option.bind_eq_some_iff.mp hr
  refine Ev.priv (y := M_access) (args := [.int a0, .int a1, .int (1 : Int32), .int a2]) (rest := []) (gok hw) rfl nm_access (ww hw 69 rfl) (ww hw 70 rfl) (ww hw 71 rfl) (ww hw 72 rfl) (lenOf pd_access rfl) (d5 5 rfl) (V.2.1 s) (e_access hw V hq2) (by decide) (Nat.le_of_ble_eq_true rfl) rfl ?_
  refine Ev.istD (L' := [.val (.ref o), .val (.int a0), .val (.int a1), .val (.int a2), .val (.int q1.1)]) (d5 6 rfl) rfl rfl rfl ?_
  refine Ev.aloadN (d5 7 rfl) rfl ?_
  refine Ev.iload (d5 8 rfl) rfl ?_
  refine Ev.pI V (gok hw) (ww hw 85 rfl) (Or.inl (ww hw 86 rfl)) (d5 9 rfl) (j := 22) rfl ?_
  revert hr
  generalize setI q1.2 22 q1.1 = s3
  intro hr
  replace hr := (bnd_eq _ _).symm.trans hr
  refine Ev.iload (d5 10 rfl) rfl ?_
  cases hr
  exact Ev.ireturn rfl (d5 11 rfl)
def f_tick (n : Nat) (s : St) : Option (Int32 × St) :=
  bnd (setI s 19 ((s.1 19) + (1 : Int32))) fun s1 =>
  (f_completeWriteBacks n s1).bind fun q2 =>
  some (q2.1, q2.2)
set_option maxRecDepth 100000 in
theorem e_tick {g : GT} {n : Nat} {s : St} {w : Int32 × St} (hw : HW g) {K : St → MHeap} {o : Nat} {r : Nat → Nat} (V : View (GG g) Ln K o r) (hr : f_tick n s = some w) : EvC (GG g) M_tick [.ref o] (K s) ((some (.int w.1)), (K w.2)) := by
  refine EvC.enter (L0 := [.val (.ref o)]) pl_tick (fun h => nomatch h) rfl rfl ?_
  unfold f_tick at hr
  refine Ev.aloadN (d3 0 rfl) rfl ?_
  refine Ev.dup (d3 1 rfl) rfl ?_
  refine Ev.gI V (ww hw 58 rfl) (d3 2 rfl) (j := 19) rfl rfl ?_
  refine Ev.iconst (z := 1) (d3 3 rfl) rfl ?_
  refine Ev.iadd (d3 4 rfl) ?_
  refine Ev.pI V (gok hw) (ww hw 58 rfl) (Or.inl (ww hw 59 rfl)) (d3 5 rfl) (j := 19) rfl ?_
  revert hr
  generalize setI s 19 ((s.1 19) + (1 : Int32)) = s1
  intro hr
  replace hr := (bnd_eq _ _).symm.trans hr
  refine Ev.aloadN (d3 6 rfl) rfl ?_
  obtain ⟨q2, hq3, hr⟩ := Option.bind_eq_some_iff.mp hr
  refine Ev.priv (y := M_completeWriteBacks) (args := []) (rest := []) (gok hw) rfl nm_completeWriteBacks (ww hw 60 rfl) (ww hw 61 rfl) (ww hw 62 rfl) (ww hw 63 rfl) (lenOf pd_completeWriteBacks rfl) (d3 7 rfl) (V.2.1 s1) (e_completeWriteBacks hw V hq3) (by decide) (Nat.le_of_ble_eq_true rfl) rfl ?_
  cases hr
  exact Ev.ireturn rfl (d3 8 rfl)
def f_freeFrame (a0 : Int32) (s : St) : Option (St) :=
  grd (inb a0 32) <|
  bnd (setA s 2 (ix a0) (-1 : Int32)) fun s2 =>
  bnd (setA s2 3 (ix a0) (0 : Int32)) fun s3 =>
  bnd (setA s3 4 (ix a0) (0 : Int32)) fun s4 =>
  bnd (setA s4 5 (ix a0) (0 : Int32)) fun s5 =>
  bnd (setA s5 6 (ix a0) (0 : Int32)) fun s6 =>
  bnd (setA s6 7 (ix a0) (0 : Int32)) fun s7 =>
  bnd (setA s7 8 (ix a0) (0 : Int32)) fun s8 =>
  some s8
set_option maxRecDepth 100000 in
theorem e_freeFrame {g : GT} {a0 : Int32} {s : St} {w : St} (hw : HW g) {K : St → MHeap} {o : Nat} {r : Nat → Nat} (V : View (GG g) Ln K o r) (hr : f_freeFrame a0 s = some w) : EvC (GG g) M_freeFrame [.ref o, .int a0] (K s) (none, (K w)) := by
  refine EvC.enter (L0 := [.val (.ref o), .val (.int a0)]) pl_freeFrame (fun _ => rfl) rfl rfl ?_
  unfold f_freeFrame at hr
  refine Ev.aloadN (d30 0 rfl) rfl ?_
  refine Ev.gAr V (ww hw 14 rfl) (d30 1 rfl) (j := 2) rfl ?_
  refine Ev.iloadN (d30 2 rfl) rfl ?_
  refine Ev.iconst (z := -1) (d30 3 rfl) rfl ?_
  obtain ⟨b1, hr⟩ := grd_some hr
  refine Ev.ias V (j := 2) rfl rfl (d30 4 rfl) b1 ?_
  revert hr
  generalize setA s 2 (ix a0) (-1 : Int32) = s2
  intro hr
  replace hr := (bnd_eq _ _).symm.trans hr
  refine Ev.aloadN (d30 5 rfl) rfl ?_
  refine Ev.gAr V (ww hw 16 rfl) (d30 6 rfl) (j := 3) rfl ?_
  refine Ev.iloadN (d30 7 rfl) rfl ?_
  refine Ev.iconst (z := 0) (d30 8 rfl) rfl ?_
  refine Ev.ias V (j := 3) rfl rfl (d30 9 rfl) b1 ?_
  revert hr
  generalize setA s2 3 (ix a0) (0 : Int32) = s3
  intro hr
  replace hr := (bnd_eq _ _).symm.trans hr
  refine Ev.aloadN (d30 10 rfl) rfl ?_
  refine Ev.gAr V (ww hw 18 rfl) (d30 11 rfl) (j := 4) rfl ?_
  refine Ev.iloadN (d30 12 rfl) rfl ?_
  refine Ev.iconst (z := 0) (d30 13 rfl) rfl ?_
  refine Ev.ias V (j := 4) rfl rfl (d30 14 rfl) b1 ?_
  revert hr
  generalize setA s3 4 (ix a0) (0 : Int32) = s4
  intro hr
  replace hr := (bnd_eq _ _).symm.trans hr
  refine Ev.aloadN (d30 15 rfl) rfl ?_
  refine Ev.gAr V (ww hw 20 rfl) (d30 16 rfl) (j := 5) rfl ?_
  refine Ev.iloadN (d30 17 rfl) rfl ?_
  refine Ev.iconst (z := 0) (d30 18 rfl) rfl ?_
  refine Ev.ias V (j := 5) rfl rfl (d30 19 rfl) b1 ?_
  revert hr
  generalize setA s4 5 (ix a0) (0 : Int32) = s5
  intro hr
  replace hr := (bnd_eq _ _).symm.trans hr
  refine Ev.aloadN (d30 20 rfl) rfl ?_
  refine Ev.gAr V (ww hw 22 rfl) (d30 21 rfl) (j := 6) rfl ?_
  refine Ev.iloadN (d30 22 rfl) rfl ?_
  refine Ev.iconst (z := 0) (d30 23 rfl) rfl ?_
  refine Ev.ias V (j := 6) rfl rfl (d30 24 rfl) b1 ?_
  revert hr
  generalize setA s5 6 (ix a0) (0 : Int32) = s6
  intro hr
  replace hr := (bnd_eq _ _).symm.trans hr
  refine Ev.aloadN (d30 25 rfl) rfl ?_
  refine Ev.gAr V (ww hw 24 rfl) (d30 26 rfl) (j := 7) rfl ?_
  refine Ev.iloadN (d30 27 rfl) rfl ?_
  refine Ev.iconst (z := 0) (d30 28 rfl) rfl ?_
  refine Ev.ias V (j := 7) rfl rfl (d30 29 rfl) b1 ?_
  revert hr
  generalize setA s6 7 (ix a0) (0 : Int32) = s7
  intro hr
  replace hr := (bnd_eq _ _).symm.trans hr
  refine Ev.aloadN (d30 30 rfl) rfl ?_
  refine Ev.gAr V (ww hw 26 rfl) (d30 31 rfl) (j := 8) rfl ?_
  refine Ev.iloadN (d30 32 rfl) rfl ?_
  refine Ev.iconst (z := 0) (d30 33 rfl) rfl ?_
  refine Ev.ias V (j := 8) rfl rfl (d30 34 rfl) b1 ?_
  revert hr
  generalize setA s7 8 (ix a0) (0 : Int32) = s8
  intro hr
  replace hr := (bnd_eq _ _).symm.trans hr
  cases hr
  exact Ev.vreturn rfl (d30 35 rfl)
def f_doSwapOut_9 (n : Nat) : Nat → Int32 → Int32 → St → Option (St)
  | 0 => fun _ _ _ => none
  | k + 1 => fun x1 x2 s =>
    if x2 < (s.1 15) then
      grd (inb x2 32) <|
      if (s.2 2 (ix x2)) = x1 then
        grd (inb ((x1 * (8 : Int32)) + ((s.2 3 (ix x2)) &&& (7 : Int32))) 32) <|
        bnd (setA s 0 (ix ((x1 * (8 : Int32)) + ((s.2 3 (ix x2)) &&& (7 : Int32)))) (s.2 4 (ix x2))) fun s5 =>
        grd (inb x1 4) <|
        bnd (setA s5 12 (ix x1) ((s5.2 12 (ix x1)) ||| ((1 : Int32) <<< (((s.2 3 (ix x2)) &&& (7 : Int32)) &&& 31)))) fun s7 =>
        bnd (setA s7 1 (ix ((x1 * (8 : Int32)) + ((s.2 3 (ix x2)) &&& (7 : Int32)))) (-1 : Int32)) fun s8 =>
        (f_freeFrame x2 s8).bind fun q9 =>
        f_doSwapOut_9 n k x1 (x2 + (1 : Int32)) q9
      else
        f_doSwapOut_9 n k x1 (x2 + (1 : Int32)) s
    else
      grd (inb x1 4) <|
      bnd (setA s 9 (ix x1) ((1 : Int32) &&& 1)) fun s12 =>
      some s12
set_option maxRecDepth 100000 in
theorem e_doSwapOut_9 {g : GT} {n : Nat} (hw : HW g) {K : St → MHeap} {o : Nat} {r : Nat → Nat} (V : View (GG g) Ln K o r) (k : Nat) : ∀ (x1 : Int32) (x2 : Int32) (s : St) (y3 : Slot) (hy3 : one1 y3 = true) (w : St), f_doSwapOut_9 n k x1 x2 s = some w → Ev (GG g) M_doSwapOut 9 [.val (.ref o), .val (.int x1), .val (.int x2), y3] [] (K s) (none, (K w)) := by
  induction k with
  | zero => intro x1 x2 s y3 hy3 w hr; rw [f_doSwapOut_9] at hr; cases hr
  | succ k ih =>
    intro x1 x2 s y3 hy3 w hr
    rw [f_doSwapOut_9] at hr
    refine Ev.iloadN (d22 7 rfl) rfl ?_
    refine Ev.aloadN (d22 8 rfl) rfl ?_
    refine Ev.gI V (ww hw 45 rfl) (d22 9 rfl) (j := 15) rfl rfl ?_
    refine Ev.icge (t := 96) (d22 10 rfl) rfl (fun c1 => ?_) (fun c1 => ?_)
    · replace hr := (if_pos c1).symm.trans hr
      refine Ev.aloadN (d22 11 rfl) rfl ?_
      refine Ev.gAr V (ww hw 14 rfl) (d22 12 rfl) (j := 2) rfl ?_
      refine Ev.iloadN (d22 13 rfl) rfl ?_
      obtain ⟨b2, hr⟩ := grd_some hr
      refine Ev.ial V (j := 2) rfl rfl (d22 14 rfl) b2 ?_
      refine Ev.iloadN (d22 15 rfl) rfl ?_
      refine Ev.iceq (t := 30) (d22 16 rfl) rfl (fun c3 => ?_) (fun c3 => ?_)
      · replace hr := (if_pos c3).symm.trans hr
        refine Ev.aloadN (d22 18 rfl) rfl ?_
        refine Ev.gAr V (ww hw 16 rfl) (d22 19 rfl) (j := 3) rfl ?_
        refine Ev.iloadN (d22 20 rfl) rfl ?_
        refine Ev.ial V (j := 3) rfl rfl (d22 21 rfl) b2 ?_
        refine Ev.bipush (z := 7) (d22 22 rfl) rfl ?_
        refine Ev.iand (d22 23 rfl) ?_
        refine Ev.istDN (L' := [.val (.ref o), .val (.int x1), .val (.int x2), .val (.int ((s.2 3 (ix x2)) &&& (7 : Int32)))]) (d22 24 rfl) rfl hy3 rfl ?_
        refine Ev.aloadN (d22 25 rfl) rfl ?_
        refine Ev.gAr V (ww hw 10 rfl) (d22 26 rfl) (j := 0) rfl ?_
        refine Ev.iloadN (d22 27 rfl) rfl ?_
        refine Ev.bipush (z := 8) (d22 28 rfl) rfl ?_
        refine Ev.imul (d22 29 rfl) ?_
        refine Ev.iloadN (d22 30 rfl) rfl ?_
        refine Ev.iadd (d22 31 rfl) ?_
        refine Ev.aloadN (d22 32 rfl) rfl ?_
        refine Ev.gAr V (ww hw 18 rfl) (d22 33 rfl) (j := 4) rfl ?_
        refine Ev.iloadN (d22 34 rfl) rfl ?_
        refine Ev.ial V (j := 4) rfl rfl (d22 35 rfl) b2 ?_
        obtain ⟨b4, hr⟩ := grd_some hr
        refine Ev.ias V (j := 0) rfl rfl (d22 36 rfl) b4 ?_
        revert hr
        generalize setA s 0 (ix ((x1 * (8 : Int32)) + ((s.2 3 (ix x2)) &&& (7 : Int32)))) (s.2 4 (ix x2)) = s5
        intro hr
        replace hr := (bnd_eq _ _).symm.trans hr
        refine Ev.aloadN (d22 37 rfl) rfl ?_
        refine Ev.gAr V (ww hw 35 rfl) (d22 38 rfl) (j := 12) rfl ?_
        refine Ev.iloadN (d22 39 rfl) rfl ?_
        refine Ev.aloadN (d22 40 rfl) rfl ?_
        refine Ev.gAr V (ww hw 35 rfl) (d22 41 rfl) (j := 12) rfl ?_
        refine Ev.iloadN (d22 42 rfl) rfl ?_
        obtain ⟨b6, hr⟩ := grd_some hr
        refine Ev.ial V (j := 12) rfl rfl (d22 43 rfl) b6 ?_
        refine Ev.iconst (z := 1) (d22 44 rfl) rfl ?_
        refine Ev.iloadN (d22 45 rfl) rfl ?_
        refine Ev.ishl (d22 46 rfl) ?_
        refine Ev.ior (d22 47 rfl) ?_
        refine Ev.ias V (j := 12) rfl rfl (d22 48 rfl) b6 ?_
        revert hr
        generalize setA s5 12 (ix x1) ((s5.2 12 (ix x1)) ||| ((1 : Int32) <<< (((s.2 3 (ix x2)) &&& (7 : Int32)) &&& 31))) = s7
        intro hr
        replace hr := (bnd_eq _ _).symm.trans hr
        refine Ev.aloadN (d22 49 rfl) rfl ?_
        refine Ev.gAr V (ww hw 12 rfl) (d22 50 rfl) (j := 1) rfl ?_
        refine Ev.iloadN (d22 51 rfl) rfl ?_
        refine Ev.bipush (z := 8) (d22 52 rfl) rfl ?_
        refine Ev.imul (d22 53 rfl) ?_
        refine Ev.iloadN (d22 54 rfl) rfl ?_
        refine Ev.iadd (d22 55 rfl) ?_
        refine Ev.iconst (z := -1) (d22 56 rfl) rfl ?_
        refine Ev.ias V (j := 1) rfl rfl (d22 57 rfl) b4 ?_
        revert hr
        generalize setA s7 1 (ix ((x1 * (8 : Int32)) + ((s.2 3 (ix x2)) &&& (7 : Int32)))) (-1 : Int32) = s8
        intro hr
        replace hr := (bnd_eq _ _).symm.trans hr
        refine Ev.aloadN (d22 58 rfl) rfl ?_
        refine Ev.iloadN (d22 59 rfl) rfl ?_
        obtain ⟨q9, hq10, hr⟩ := Option.bind_eq_some_iff.mp hr
        refine Ev.priv (y := M_freeFrame) (args := [.int x2]) (rest := []) (gok hw) rfl nm_freeFrame (ww hw 184 rfl) (ww hw 185 rfl) (ww hw 186 rfl) (ww hw 187 rfl) (lenOf pd_freeFrame rfl) (d22 60 rfl) (V.2.1 s8) (e_freeFrame hw V hq10) (by decide) (Nat.le_of_ble_eq_true rfl) rfl ?_
        refine Ev.iinc (z := 1) (L' := [.val (.ref o), .val (.int x1), .val (.int (x2 + (1 : Int32))), .val (.int ((s.2 3 (ix x2)) &&& (7 : Int32)))]) (d22 61 rfl) rfl rfl rfl ?_
        refine Ev.goto (t := 9) (d22 62 rfl) rfl ?_
        exact ih x1 (x2 + (1 : Int32)) q9 (.val (.int ((s.2 3 (ix x2)) &&& (7 : Int32)))) rfl _ hr
      · replace hr := (if_neg c3).symm.trans hr
        refine Ev.goto (t := 90) (d22 17 rfl) rfl ?_
        refine Ev.iinc (z := 1) (L' := [.val (.ref o), .val (.int x1), .val (.int (x2 + (1 : Int32))), y3]) (d22 61 rfl) rfl rfl rfl ?_
        refine Ev.goto (t := 9) (d22 62 rfl) rfl ?_
        exact ih x1 (x2 + (1 : Int32)) s y3 hy3 _ hr
    · replace hr := (if_neg c1).symm.trans hr
      refine Ev.aloadN (d22 63 rfl) rfl ?_
      refine Ev.gAr V (ww hw 29 rfl) (d22 64 rfl) (j := 9) rfl ?_
      refine Ev.iloadN (d22 65 rfl) rfl ?_
      refine Ev.iconst (z := 1) (d22 66 rfl) rfl ?_
      obtain ⟨b11, hr⟩ := grd_some hr
      refine Ev.bas V (j := 9) rfl rfl (d22 67 rfl) b11 ?_
      revert hr
      generalize setA s 9 (ix x1) ((1 : Int32) &&& 1) = s12
      intro hr
      replace hr := (bnd_eq _ _).symm.trans hr
      cases hr
      exact Ev.vreturn rfl (d22 68 rfl)
def f_doSwapOut (n : Nat) (a0 : Int32) (s : St) : Option (St) :=
  grd (inb a0 4) <|
  bnd (setA s 12 (ix a0) (0 : Int32)) fun s2 =>
  f_doSwapOut_9 n n a0 (0 : Int32) s2
set_option maxRecDepth 100000 in
theorem e_doSwapOut {g : GT} {n : Nat} {a0 : Int32} {s : St} {w : St} (hw : HW g) {K : St → MHeap} {o : Nat} {r : Nat → Nat} (V : View (GG g) Ln K o r) (hr : f_doSwapOut n a0 s = some w) : EvC (GG g) M_doSwapOut [.ref o, .int a0] (K s) (none, (K w)) := by
  refine EvC.enter (L0 := [.val (.ref o), .val (.int a0), .unset, .unset]) pl_doSwapOut (fun _ => rfl) rfl rfl ?_
  unfold f_doSwapOut at hr
  refine Ev.aloadN (d22 0 rfl) rfl ?_
  refine Ev.gAr V (ww hw 35 rfl) (d22 1 rfl) (j := 12) rfl ?_
  refine Ev.iloadN (d22 2 rfl) rfl ?_
  refine Ev.iconst (z := 0) (d22 3 rfl) rfl ?_
  obtain ⟨b1, hr⟩ := grd_some hr
  refine Ev.ias V (j := 12) rfl rfl (d22 4 rfl) b1 ?_
  revert hr
  generalize setA s 12 (ix a0) (0 : Int32) = s2
  intro hr
  replace hr := (bnd_eq _ _).symm.trans hr
  refine Ev.iconst (z := 0) (d22 5 rfl) rfl ?_
  refine Ev.istDN (L' := [.val (.ref o), .val (.int a0), .val (.int (0 : Int32)), .unset]) (d22 6 rfl) rfl rfl rfl ?_
  exact e_doSwapOut_9 hw V  n a0 (0 : Int32) s2 .unset rfl _ hr
def f_swapOut (n : Nat) (a0 : Int32) (s : St) : Option (Int32 × St) :=
  if a0 < 0 then
    some ((5 : Int32), s)
  else
    if (3 : Int32) < a0 then
      some ((5 : Int32), s)
    else
      grd (inb a0 4) <|
      if (s.2 9 (ix a0)) = 0 then
        (f_doSwapOut n a0 s).bind fun q5 =>
        some ((6 : Int32), q5)
      else
        some ((4 : Int32), s)
set_option maxRecDepth 100000 in
theorem e_swapOut {g : GT} {n : Nat} {a0 : Int32} {s : St} {w : Int32 × St} (hw : HW g) {K : St → MHeap} {o : Nat} {r : Nat → Nat} (V : View (GG g) Ln K o r) (hr : f_swapOut n a0 s = some w) : EvC (GG g) M_swapOut [.ref o, .int a0] (K s) ((some (.int w.1)), (K w.2)) := by
  refine EvC.enter (L0 := [.val (.ref o), .val (.int a0)]) pl_swapOut (fun h => nomatch h) rfl rfl ?_
  unfold f_swapOut at hr
  refine Ev.iloadN (d21 0 rfl) rfl ?_
  refine Ev.iflt (t := 9) (d21 1 rfl) rfl (fun c1 => ?_) (fun c1 => ?_)
  · replace hr := (if_pos c1).symm.trans hr
    refine Ev.iconst (z := 5) (d21 5 rfl) rfl ?_
    cases hr
    exact Ev.ireturn rfl (d21 6 rfl)
  · replace hr := (if_neg c1).symm.trans hr
    refine Ev.iloadN (d21 2 rfl) rfl ?_
    refine Ev.iconst (z := 3) (d21 3 rfl) rfl ?_
    refine Ev.icle (t := 11) (d21 4 rfl) rfl (fun c2 => ?_) (fun c2 => ?_)
    · replace hr := (if_pos c2).symm.trans hr
      refine Ev.iconst (z := 5) (d21 5 rfl) rfl ?_
      cases hr
      exact Ev.ireturn rfl (d21 6 rfl)
    · replace hr := (if_neg c2).symm.trans hr
      refine Ev.aloadN (d21 7 rfl) rfl ?_
      refine Ev.gAr V (ww hw 29 rfl) (d21 8 rfl) (j := 9) rfl ?_
      refine Ev.iloadN (d21 9 rfl) rfl ?_
      obtain ⟨b3, hr⟩ := grd_some hr
      refine Ev.bal V (j := 9) rfl rfl (d21 10 rfl) b3 ?_
      refine Ev.ifeq (t := 22) (d21 11 rfl) rfl (fun c4 => ?_) (fun c4 => ?_)
      · replace hr := (if_pos c4).symm.trans hr
        refine Ev.aloadN (d21 14 rfl) rfl ?_
        refine Ev.iloadN (d21 15 rfl) rfl ?_
        obtain ⟨q5, hq6, hr⟩ := Option.bind_eq_some_iff.mp hr
        refine Ev.priv (y := M_doSwapOut) (args := [.int a0]) (rest := []) (gok hw) rfl nm_doSwapOut (ww hw 148 rfl) (ww hw 149 rfl) (ww hw 150 rfl) (ww hw 151 rfl) (lenOf pd_doSwapOut rfl) (d21 16 rfl) (V.2.1 s) (e_doSwapOut hw V hq6) (by decide) (Nat.le_of_ble_eq_true rfl) rfl ?_
        refine Ev.bipush (z := 6) (d21 17 rfl) rfl ?_
        cases hr
        exact Ev.ireturn rfl (d21 18 rfl)
      · replace hr := (if_neg c4).symm.trans hr
        refine Ev.iconst (z := 4) (d21 12 rfl) rfl ?_
        cases hr
        exact Ev.ireturn rfl (d21 13 rfl)
def f_bitCount_4 (n : Nat) (s : St) : Nat → Int32 → Int32 → Int32 → Option (Int32)
  | 0 => fun _ _ _ => none
  | k + 1 => fun x1 x2 x3 =>
    if x3 < (8 : Int32) then
      if (x1 &&& ((1 : Int32) <<< (x3 &&& 31))) = 0 then
        f_bitCount_4 n s k x1 x2 (x3 + (1 : Int32))
      else
        f_bitCount_4 n s k x1 (x2 + (1 : Int32)) (x3 + (1 : Int32))
    else
      some x2
set_option maxRecDepth 100000 in
theorem e_bitCount_4 {g : GT} {n : Nat} {s : St} (hw : HW g) {K : St → MHeap} {o : Nat} {r : Nat → Nat} (V : View (GG g) Ln K o r) (k : Nat) : ∀ (x1 : Int32) (x2 : Int32) (x3 : Int32) (y0 : Slot) (hy0 : one1 y0 = true) (w : Int32), f_bitCount_4 n s k x1 x2 x3 = some w → Ev (GG g) M_bitCount 4 [y0, .val (.int x1), .val (.int x2), .val (.int x3)] [] (K s) ((some (.int w)), (K s)) := by
  induction k with
  | zero => intro x1 x2 x3 y0 hy0 w hr; rw [f_bitCount_4] at hr; cases hr
  | succ k ih =>
    intro x1 x2 x3 y0 hy0 w hr
    rw [f_bitCount_4] at hr
    refine Ev.iloadN (d24 4 rfl) rfl ?_
    refine Ev.bipush (z := 8) (d24 5 rfl) rfl ?_
    refine Ev.icge (t := 27) (d24 6 rfl) rfl (fun c1 => ?_) (fun c1 => ?_)
    · replace hr := (if_pos c1).symm.trans hr
      refine Ev.iloadN (d24 7 rfl) rfl ?_
      refine Ev.iconst (z := 1) (d24 8 rfl) rfl ?_
      refine Ev.iloadN (d24 9 rfl) rfl ?_
      refine Ev.ishl (d24 10 rfl) ?_
      refine Ev.iand (d24 11 rfl) ?_
      refine Ev.ifeq (t := 21) (d24 12 rfl) rfl (fun c2 => ?_) (fun c2 => ?_)
      · replace hr := (if_pos c2).symm.trans hr
        refine Ev.iinc (z := 1) (L' := [y0, .val (.int x1), .val (.int x2), .val (.int (x3 + (1 : Int32)))]) (d24 14 rfl) rfl rfl rfl ?_
        refine Ev.goto (t := 4) (d24 15 rfl) rfl ?_
        exact ih x1 x2 (x3 + (1 : Int32)) y0 hy0 _ hr
      · replace hr := (if_neg c2).symm.trans hr
        refine Ev.iinc (z := 1) (L' := [y0, .val (.int x1), .val (.int (x2 + (1 : Int32))), .val (.int x3)]) (d24 13 rfl) rfl rfl rfl ?_
        refine Ev.iinc (z := 1) (L' := [y0, .val (.int x1), .val (.int (x2 + (1 : Int32))), .val (.int (x3 + (1 : Int32)))]) (d24 14 rfl) rfl rfl rfl ?_
        refine Ev.goto (t := 4) (d24 15 rfl) rfl ?_
        exact ih x1 (x2 + (1 : Int32)) (x3 + (1 : Int32)) y0 hy0 _ hr
    · replace hr := (if_neg c1).symm.trans hr
      refine Ev.iloadN (d24 16 rfl) rfl ?_
      cases hr
      exact Ev.ireturn rfl (d24 17 rfl)
def f_bitCount (n : Nat) (s : St) (a0 : Int32) : Option (Int32) :=
  f_bitCount_4 n s n a0 (0 : Int32) (0 : Int32)
set_option maxRecDepth 100000 in
theorem e_bitCount {g : GT} {n : Nat} {s : St} {a0 : Int32} {w : Int32} (hw : HW g) {K : St → MHeap} {o : Nat} {r : Nat → Nat} (V : View (GG g) Ln K o r) (hr : f_bitCount n s a0 = some w) : EvC (GG g) M_bitCount [.ref o, .int a0] (K s) ((some (.int w)), (K s)) := by
  refine EvC.enter (L0 := [.val (.ref o), .val (.int a0), .unset, .unset]) pl_bitCount (fun h => nomatch h) rfl rfl ?_
  unfold f_bitCount at hr
  refine Ev.iconst (z := 0) (d24 0 rfl) rfl ?_
  refine Ev.istDN (L' := [.val (.ref o), .val (.int a0), .val (.int (0 : Int32)), .unset]) (d24 1 rfl) rfl rfl rfl ?_
  refine Ev.iconst (z := 0) (d24 2 rfl) rfl ?_
  refine Ev.istDN (L' := [.val (.ref o), .val (.int a0), .val (.int (0 : Int32)), .val (.int (0 : Int32))]) (d24 3 rfl) rfl rfl rfl ?_
  exact e_bitCount_4 hw V  n a0 (0 : Int32) (0 : Int32) (.val (.ref o)) rfl _ hr
def f_countFree_4 (n : Nat) (s : St) : Nat → Int32 → Int32 → Option (Int32)
  | 0 => fun _ _ => none
  | k + 1 => fun x1 x2 =>
    if x2 < (s.1 15) then
      grd (inb x2 32) <|
      if (s.2 2 (ix x2)) < 0 then
        f_countFree_4 n s k (x1 + (1 : Int32)) (x2 + (1 : Int32))
      else
        f_countFree_4 n s k x1 (x2 + (1 : Int32))
    else
      some x1
set_option maxRecDepth 100000 in
theorem e_countFree_4 {g : GT} {n : Nat} {s : St} (hw : HW g) {K : St → MHeap} {o : Nat} {r : Nat → Nat} (V : View (GG g) Ln K o r) (k : Nat) : ∀ (x1 : Int32) (x2 : Int32) (w : Int32), f_countFree_4 n s k x1 x2 = some w → Ev (GG g) M_countFree 4 [.val (.ref o), .val (.int x1), .val (.int x2)] [] (K s) ((some (.int w)), (K s)) := by
  induction k with
  | zero => intro x1 x2 w hr; rw [f_countFree_4] at hr; cases hr
  | succ k ih =>
    intro x1 x2 w hr
    rw [f_countFree_4] at hr
    refine Ev.iloadN (d25 4 rfl) rfl ?_
    refine Ev.aloadN (d25 5 rfl) rfl ?_
    refine Ev.gI V (ww hw 45 rfl) (d25 6 rfl) (j := 15) rfl rfl ?_
    refine Ev.icge (t := 30) (d25 7 rfl) rfl (fun c1 => ?_) (fun c1 => ?_)
    · replace hr := (if_pos c1).symm.trans hr
      refine Ev.aloadN (d25 8 rfl) rfl ?_
      refine Ev.gAr V (ww hw 14 rfl) (d25 9 rfl) (j := 2) rfl ?_
      refine Ev.iloadN (d25 10 rfl) rfl ?_
      obtain ⟨b2, hr⟩ := grd_some hr
      refine Ev.ial V (j := 2) rfl rfl (d25 11 rfl) b2 ?_
      refine Ev.ifge (t := 24) (d25 12 rfl) rfl (fun c3 => ?_) (fun c3 => ?_)
      · replace hr := (if_pos c3).symm.trans hr
        refine Ev.iinc (z := 1) (L' := [.val (.ref o), .val (.int (x1 + (1 : Int32))), .val (.int x2)]) (d25 13 rfl) rfl rfl rfl ?_
        refine Ev.iinc (z := 1) (L' := [.val (.ref o), .val (.int (x1 + (1 : Int32))), .val (.int (x2 + (1 : Int32)))]) (d25 14 rfl) rfl rfl rfl ?_
        refine Ev.goto (t := 4) (d25 15 rfl) rfl ?_
        exact ih (x1 + (1 : Int32)) (x2 + (1 : Int32))  _ hr
      · replace hr := (if_neg c3).symm.trans hr
        refine Ev.iinc (z := 1) (L' := [.val (.ref o), .val (.int x1), .val (.int (x2 + (1 : Int32)))]) (d25 14 rfl) rfl rfl rfl ?_
        refine Ev.goto (t := 4) (d25 15 rfl) rfl ?_
        exact ih x1 (x2 + (1 : Int32))  _ hr
    · replace hr := (if_neg c1).symm.trans hr
      refine Ev.iloadN (d25 16 rfl) rfl ?_
      cases hr
      exact Ev.ireturn rfl (d25 17 rfl)
def f_countFree (n : Nat) (s : St) : Option (Int32) :=
  f_countFree_4 n s n (0 : Int32) (0 : Int32)
set_option maxRecDepth 100000 in
theorem e_countFree {g : GT} {n : Nat} {s : St} {w : Int32} (hw : HW g) {K : St → MHeap} {o : Nat} {r : Nat → Nat} (V : View (GG g) Ln K o r) (hr : f_countFree n s = some w) : EvC (GG g) M_countFree [.ref o] (K s) ((some (.int w)), (K s)) := by
  refine EvC.enter (L0 := [.val (.ref o), .unset, .unset]) pl_countFree (fun h => nomatch h) rfl rfl ?_
  unfold f_countFree at hr
  refine Ev.iconst (z := 0) (d25 0 rfl) rfl ?_
  refine Ev.istDN (L' := [.val (.ref o), .val (.int (0 : Int32)), .unset]) (d25 1 rfl) rfl rfl rfl ?_
  refine Ev.iconst (z := 0) (d25 2 rfl) rfl ?_
  refine Ev.istDN (L' := [.val (.ref o), .val (.int (0 : Int32)), .val (.int (0 : Int32))]) (d25 3 rfl) rfl rfl rfl ?_
  exact e_countFree_4 hw V  n (0 : Int32) (0 : Int32)  _ hr
def f_lowestFree_2 (n : Nat) (s : St) : Nat → Int32 → Option (Int32)
  | 0 => fun _ => none
  | k + 1 => fun x1 =>
    if x1 < (s.1 15) then
      grd (inb x1 32) <|
      if (s.2 2 (ix x1)) < 0 then
        some x1
      else
        f_lowestFree_2 n s k (x1 + (1 : Int32))
    else
      some (-1 : Int32)
set_option maxRecDepth 100000 in
theorem e_lowestFree_2 {g : GT} {n : Nat} {s : St} (hw : HW g) {K : St → MHeap} {o : Nat} {r : Nat → Nat} (V : View (GG g) Ln K o r) (k : Nat) : ∀ (x1 : Int32) (w : Int32), f_lowestFree_2 n s k x1 = some w → Ev (GG g) M_lowestFree 2 [.val (.ref o), .val (.int x1)] [] (K s) ((some (.int w)), (K s)) := by
  induction k with
  | zero => intro x1 w hr; rw [f_lowestFree_2] at hr; cases hr
  | succ k ih =>
    intro x1 w hr
    rw [f_lowestFree_2] at hr
    refine Ev.iloadN (d31 2 rfl) rfl ?_
    refine Ev.aloadN (d31 3 rfl) rfl ?_
    refine Ev.gI V (ww hw 45 rfl) (d31 4 rfl) (j := 15) rfl rfl ?_
    refine Ev.icge (t := 27) (d31 5 rfl) rfl (fun c1 => ?_) (fun c1 => ?_)
    · replace hr := (if_pos c1).symm.trans hr
      refine Ev.aloadN (d31 6 rfl) rfl ?_
      refine Ev.gAr V (ww hw 14 rfl) (d31 7 rfl) (j := 2) rfl ?_
      refine Ev.iloadN (d31 8 rfl) rfl ?_
      obtain ⟨b2, hr⟩ := grd_some hr
      refine Ev.ial V (j := 2) rfl rfl (d31 9 rfl) b2 ?_
      refine Ev.ifge (t := 21) (d31 10 rfl) rfl (fun c3 => ?_) (fun c3 => ?_)
      · replace hr := (if_pos c3).symm.trans hr
        refine Ev.iloadN (d31 11 rfl) rfl ?_
        cases hr
        exact Ev.ireturn rfl (d31 12 rfl)
      · replace hr := (if_neg c3).symm.trans hr
        refine Ev.iinc (z := 1) (L' := [.val (.ref o), .val (.int (x1 + (1 : Int32)))]) (d31 13 rfl) rfl rfl rfl ?_
        refine Ev.goto (t := 2) (d31 14 rfl) rfl ?_
        exact ih (x1 + (1 : Int32))  _ hr
    · replace hr := (if_neg c1).symm.trans hr
      refine Ev.iconst (z := -1) (d31 15 rfl) rfl ?_
      cases hr
      exact Ev.ireturn rfl (d31 16 rfl)
def f_lowestFree (n : Nat) (s : St) : Option (Int32) :=
  f_lowestFree_2 n s n (0 : Int32)
set_option maxRecDepth 100000 in
theorem e_lowestFree {g : GT} {n : Nat} {s : St} {w : Int32} (hw : HW g) {K : St → MHeap} {o : Nat} {r : Nat → Nat} (V : View (GG g) Ln K o r) (hr : f_lowestFree n s = some w) : EvC (GG g) M_lowestFree [.ref o] (K s) ((some (.int w)), (K s)) := by
  refine EvC.enter (L0 := [.val (.ref o), .unset]) pl_lowestFree (fun h => nomatch h) rfl rfl ?_
  unfold f_lowestFree at hr
  refine Ev.iconst (z := 0) (d31 0 rfl) rfl ?_
  refine Ev.istDN (L' := [.val (.ref o), .val (.int (0 : Int32))]) (d31 1 rfl) rfl rfl rfl ?_
  exact e_lowestFree_2 hw V  n (0 : Int32)  _ hr
def f_doSwapIn_2 (n : Nat) : Nat → Int32 → Int32 → St → Option (St)
  | 0 => fun _ _ _ => none
  | k + 1 => fun x1 x2 s =>
    if x2 < (8 : Int32) then
      grd (inb x1 4) <|
      if ((s.2 12 (ix x1)) &&& ((1 : Int32) <<< (x2 &&& 31))) = 0 then
        f_doSwapIn_2 n k x1 (x2 + (1 : Int32)) s
      else
        (f_lowestFree n s).bind fun q4 =>
        if q4 < 0 then
          f_doSwapIn_2 n k x1 (x2 + (1 : Int32)) s
        else
          grd (inb q4 32) <|
          bnd (setA s 2 (ix q4) x1) fun s8 =>
          bnd (setA s8 3 (ix q4) x2) fun s9 =>
          grd (inb ((x1 * (8 : Int32)) + x2) 32) <|
          bnd (setA s9 1 (ix ((x1 * (8 : Int32)) + x2)) q4) fun s11 =>
          bnd (setA s11 4 (ix q4) (s11.2 0 (ix ((x1 * (8 : Int32)) + x2)))) fun s12 =>
          bnd (setA s12 5 (ix q4) (0 : Int32)) fun s13 =>
          bnd (setA s13 6 (ix q4) (0 : Int32)) fun s14 =>
          bnd (setA s14 8 (ix q4) (0 : Int32)) fun s15 =>
          bnd (setA s15 7 (ix q4) (s15.2 10 (ix x1))) fun s16 =>
          f_doSwapIn_2 n k x1 (x2 + (1 : Int32)) s16
    else
      grd (inb x1 4) <|
      bnd (setA s 12 (ix x1) (0 : Int32)) fun s18 =>
      bnd (setA s18 9 (ix x1) ((0 : Int32) &&& 1)) fun s19 =>
      some s19
set_option maxRecDepth 100000 in
theorem e_doSwapIn_2 {g : GT} {n : Nat} (hw : HW g) {K : St → MHeap} {o : Nat} {r : Nat → Nat} (V : View (GG g) Ln K o r) (k : Nat) : ∀ (x1 : Int32) (x2 : Int32) (s : St) (y3 : Slot) (hy3 : one1 y3 = true) (w : St), f_doSwapIn_2 n k x1 x2 s = some w → Ev (GG g) M_doSwapIn 2 [.val (.ref o), .val (.int x1), .val (.int x2), y3] [] (K s) (none, (K w)) := by
  induction k with
  | zero => intro x1 x2 s y3 hy3 w hr; rw [f_doSwapIn_2] at hr; cases hr
  | succ k ih =>
    intro x1 x2 s y3 hy3 w hr
    rw [f_doSwapIn_2] at hr
    refine Ev.iloadN (d26 2 rfl) rfl ?_
    refine Ev.bipush (z := 8) (d26 3 rfl) rfl ?_
    refine Ev.icge (t := 118) (d26 4 rfl) rfl (fun c1 => ?_) (fun c1 => ?_)
    · replace hr := (if_pos c1).symm.trans hr
      refine Ev.aloadN (d26 5 rfl) rfl ?_
      refine Ev.gAr V (ww hw 35 rfl) (d26 6 rfl) (j := 12) rfl ?_
      refine Ev.iloadN (d26 7 rfl) rfl ?_
      obtain ⟨b2, hr⟩ := grd_some hr
      refine Ev.ial V (j := 12) rfl rfl (d26 8 rfl) b2 ?_
      refine Ev.iconst (z := 1) (d26 9 rfl) rfl ?_
      refine Ev.iloadN (d26 10 rfl) rfl ?_
      refine Ev.ishl (d26 11 rfl) ?_
      refine Ev.iand (d26 12 rfl) ?_
      refine Ev.ifne (t := 24) (d26 13 rfl) rfl (fun c3 => ?_) (fun c3 => ?_)
      · replace hr := (if_pos c3).symm.trans hr
        refine Ev.goto (t := 112) (d26 14 rfl) rfl ?_
        refine Ev.iinc (z := 1) (L' := [.val (.ref o), .val (.int x1), .val (.int (x2 + (1 : Int32))), y3]) (d26 75 rfl) rfl rfl rfl ?_
        refine Ev.goto (t := 2) (d26 76 rfl) rfl ?_
        exact ih x1 (x2 + (1 : Int32)) s y3 hy3 _ hr
      · replace hr := (if_neg c3).symm.trans hr
        refine Ev.aloadN (d26 15 rfl) rfl ?_
        obtain ⟨q4, hq5, hr⟩ := Option.bind_eq_some_iff.mp hr
        refine Ev.priv (y := M_lowestFree) (args := []) (rest := []) (gok hw) rfl nm_lowestFree (ww hw 188 rfl) (ww hw 189 rfl) (ww hw 190 rfl) (ww hw 191 rfl) (lenOf pd_lowestFree rfl) (d26 16 rfl) (V.2.1 s) (e_lowestFree hw V hq5) (by decide) (Nat.le_of_ble_eq_true rfl) rfl ?_
        refine Ev.istDN (L' := [.val (.ref o), .val (.int x1), .val (.int x2), .val (.int q4)]) (d26 17 rfl) rfl hy3 rfl ?_
        refine Ev.iloadN (d26 18 rfl) rfl ?_
        refine Ev.ifge (t := 36) (d26 19 rfl) rfl (fun c6 => ?_) (fun c6 => ?_)
        · replace hr := (if_pos c6).symm.trans hr
          refine Ev.goto (t := 112) (d26 20 rfl) rfl ?_
          refine Ev.iinc (z := 1) (L' := [.val (.ref o), .val (.int x1), .val (.int (x2 + (1 : Int32))), .val (.int q4)]) (d26 75 rfl) rfl rfl rfl ?_
          refine Ev.goto (t := 2) (d26 76 rfl) rfl ?_
          exact ih x1 (x2 + (1 : Int32)) s (.val (.int q4)) rfl _ hr
        · replace hr := (if_neg c6).symm.trans hr
          refine Ev.aloadN (d26 21 rfl) rfl ?_
          refine Ev.gAr V (ww hw 14 rfl) (d26 22 rfl) (j := 2) rfl ?_
          refine Ev.iloadN (d26 23 rfl) rfl ?_
          refine Ev.iloadN (d26 24 rfl) rfl ?_
          obtain ⟨b7, hr⟩ := grd_some hr
          refine Ev.ias V (j := 2) rfl rfl (d26 25 rfl) b7 ?_
          revert hr
          generalize setA s 2 (ix q4) x1 = s8
          intro hr
          replace hr := (bnd_eq _ _).symm.trans hr
          refine Ev.aloadN (d26 26 rfl) rfl ?_
          refine Ev.gAr V (ww hw 16 rfl) (d26 27 rfl) (j := 3) rfl ?_
          refine Ev.iloadN (d26 28 rfl) rfl ?_
          refine Ev.iloadN (d26 29 rfl) rfl ?_
          refine Ev.ias V (j := 3) rfl rfl (d26 30 rfl) b7 ?_
          revert hr
          generalize setA s8 3 (ix q4) x2 = s9
          intro hr
          replace hr := (bnd_eq _ _).symm.trans hr
          refine Ev.aloadN (d26 31 rfl) rfl ?_
          refine Ev.gAr V (ww hw 12 rfl) (d26 32 rfl) (j := 1) rfl ?_
          refine Ev.iloadN (d26 33 rfl) rfl ?_
          refine Ev.bipush (z := 8) (d26 34 rfl) rfl ?_
          refine Ev.imul (d26 35 rfl) ?_
          refine Ev.iloadN (d26 36 rfl) rfl ?_
          refine Ev.iadd (d26 37 rfl) ?_
          refine Ev.iloadN (d26 38 rfl) rfl ?_
          obtain ⟨b10, hr⟩ := grd_some hr
          refine Ev.ias V (j := 1) rfl rfl (d26 39 rfl) b10 ?_
          revert hr
          generalize setA s9 1 (ix ((x1 * (8 : Int32)) + x2)) q4 = s11
          intro hr
          replace hr := (bnd_eq _ _).symm.trans hr
          refine Ev.aloadN (d26 40 rfl) rfl ?_
          refine Ev.gAr V (ww hw 18 rfl) (d26 41 rfl) (j := 4) rfl ?_
          refine Ev.iloadN (d26 42 rfl) rfl ?_
          refine Ev.aloadN (d26 43 rfl) rfl ?_
          refine Ev.gAr V (ww hw 10 rfl) (d26 44 rfl) (j := 0) rfl ?_
          refine Ev.iloadN (d26 45 rfl) rfl ?_
          refine Ev.bipush (z := 8) (d26 46 rfl) rfl ?_
          refine Ev.imul (d26 47 rfl) ?_
          refine Ev.iloadN (d26 48 rfl) rfl ?_
          refine Ev.iadd (d26 49 rfl) ?_
          refine Ev.ial V (j := 0) rfl rfl (d26 50 rfl) b10 ?_
          refine Ev.ias V (j := 4) rfl rfl (d26 51 rfl) b7 ?_
          revert hr
          generalize setA s11 4 (ix q4) (s11.2 0 (ix ((x1 * (8 : Int32)) + x2))) = s12
          intro hr
          replace hr := (bnd_eq _ _).symm.trans hr
          refine Ev.aloadN (d26 52 rfl) rfl ?_
          refine Ev.gAr V (ww hw 20 rfl) (d26 53 rfl) (j := 5) rfl ?_
          refine Ev.iloadN (d26 54 rfl) rfl ?_
          refine Ev.iconst (z := 0) (d26 55 rfl) rfl ?_
          refine Ev.ias V (j := 5) rfl rfl (d26 56 rfl) b7 ?_
          revert hr
          generalize setA s12 5 (ix q4) (0 : Int32) = s13
          intro hr
          replace hr := (bnd_eq _ _).symm.trans hr
          refine Ev.aloadN (d26 57 rfl) rfl ?_
          refine Ev.gAr V (ww hw 22 rfl) (d26 58 rfl) (j := 6) rfl ?_
          refine Ev.iloadN (d26 59 rfl) rfl ?_
          refine Ev.iconst (z := 0) (d26 60 rfl) rfl ?_
          refine Ev.ias V (j := 6) rfl rfl (d26 61 rfl) b7 ?_
          revert hr
          generalize setA s13 6 (ix q4) (0 : Int32) = s14
          intro hr
          replace hr := (bnd_eq _ _).symm.trans hr
          refine Ev.aloadN (d26 62 rfl) rfl ?_
          refine Ev.gAr V (ww hw 26 rfl) (d26 63 rfl) (j := 8) rfl ?_
          refine Ev.iloadN (d26 64 rfl) rfl ?_
          refine Ev.iconst (z := 0) (d26 65 rfl) rfl ?_
          refine Ev.ias V (j := 8) rfl rfl (d26 66 rfl) b7 ?_
          revert hr
          generalize setA s14 8 (ix q4) (0 : Int32) = s15
          intro hr
          replace hr := (bnd_eq _ _).symm.trans hr
          refine Ev.aloadN (d26 67 rfl) rfl ?_
          refine Ev.gAr V (ww hw 24 rfl) (d26 68 rfl) (j := 7) rfl ?_
          refine Ev.iloadN (d26 69 rfl) rfl ?_
          refine Ev.aloadN (d26 70 rfl) rfl ?_
          refine Ev.gAr V (ww hw 31 rfl) (d26 71 rfl) (j := 10) rfl ?_
          refine Ev.iloadN (d26 72 rfl) rfl ?_
          refine Ev.ial V (j := 10) rfl rfl (d26 73 rfl) b2 ?_
          refine Ev.ias V (j := 7) rfl rfl (d26 74 rfl) b7 ?_
          revert hr
          generalize setA s15 7 (ix q4) (s15.2 10 (ix x1)) = s16
          intro hr
          replace hr := (bnd_eq _ _).symm.trans hr
          refine Ev.iinc (z := 1) (L' := [.val (.ref o), .val (.int x1), .val (.int (x2 + (1 : Int32))), .val (.int q4)]) (d26 75 rfl) rfl rfl rfl ?_
          refine Ev.goto (t := 2) (d26 76 rfl) rfl ?_
          exact ih x1 (x2 + (1 : Int32)) s16 (.val (.int q4)) rfl _ hr
    · replace hr := (if_neg c1).symm.trans hr
      refine Ev.aloadN (d26 77 rfl) rfl ?_
      refine Ev.gAr V (ww hw 35 rfl) (d26 78 rfl) (j := 12) rfl ?_
      refine Ev.iloadN (d26 79 rfl) rfl ?_
      refine Ev.iconst (z := 0) (d26 80 rfl) rfl ?_
      obtain ⟨b17, hr⟩ := grd_some hr
      refine Ev.ias V (j := 12) rfl rfl (d26 81 rfl) b17 ?_
      revert hr
      generalize setA s 12 (ix x1) (0 : Int32) = s18
      intro hr
      replace hr := (bnd_eq _ _).symm.trans hr
      refine Ev.aloadN (d26 82 rfl) rfl ?_
      refine Ev.gAr V (ww hw 29 rfl) (d26 83 rfl) (j := 9) rfl ?_
      refine Ev.iloadN (d26 84 rfl) rfl ?_
      refine Ev.iconst (z := 0) (d26 85 rfl) rfl ?_
      refine Ev.bas V (j := 9) rfl rfl (d26 86 rfl) b17 ?_
      revert hr
      generalize setA s18 9 (ix x1) ((0 : Int32) &&& 1) = s19
      intro hr
      replace hr := (bnd_eq _ _).symm.trans hr
      cases hr
      exact Ev.vreturn rfl (d26 87 rfl)
def f_doSwapIn (n : Nat) (a0 : Int32) (s : St) : Option (St) :=
  f_doSwapIn_2 n n a0 (0 : Int32) s
set_option maxRecDepth 100000 in
theorem e_doSwapIn {g : GT} {n : Nat} {a0 : Int32} {s : St} {w : St} (hw : HW g) {K : St → MHeap} {o : Nat} {r : Nat → Nat} (V : View (GG g) Ln K o r) (hr : f_doSwapIn n a0 s = some w) : EvC (GG g) M_doSwapIn [.ref o, .int a0] (K s) (none, (K w)) := by
  refine EvC.enter (L0 := [.val (.ref o), .val (.int a0), .unset, .unset]) pl_doSwapIn (fun _ => rfl) rfl rfl ?_
  unfold f_doSwapIn at hr
  refine Ev.iconst (z := 0) (d26 0 rfl) rfl ?_
  refine Ev.istDN (L' := [.val (.ref o), .val (.int a0), .val (.int (0 : Int32)), .unset]) (d26 1 rfl) rfl rfl rfl ?_
  exact e_doSwapIn_2 hw V  n a0 (0 : Int32) s .unset rfl _ hr
def f_swapIn (n : Nat) (a0 : Int32) (s : St) : Option (Int32 × St) :=
  if a0 < 0 then
    some ((5 : Int32), s)
  else
    if (3 : Int32) < a0 then
      some ((5 : Int32), s)
    else
      grd (inb a0 4) <|
      if (s.2 9 (ix a0)) = 0 then
        some ((7 : Int32), s)
      else
        (f_bitCount n s (s.2 12 (ix a0))).bind fun q5 =>
        (f_countFree n s).bind fun q7 =>
        if q7 < q5 then
          some ((3 : Int32), s)
        else
          (f_doSwapIn n a0 s).bind fun q10 =>
          some ((6 : Int32), q10)
set_option maxRecDepth 100000 in
theorem e_swapIn {g : GT} {n : Nat} {a0 : Int32} {s : St} {w : Int32 × St} (hw : HW g) {K : St → MHeap} {o : Nat} {r : Nat → Nat} (V : View (GG g) Ln K o r) (hr : f_swapIn n a0 s = some w) : EvC (GG g) M_swapIn [.ref o, .int a0] (K s) ((some (.int w.1)), (K w.2)) := by
  refine EvC.enter (L0 := [.val (.ref o), .val (.int a0), .unset, .unset]) pl_swapIn (fun h => nomatch h) rfl rfl ?_
  unfold f_swapIn at hr
  refine Ev.iloadN (d23 0 rfl) rfl ?_
  refine Ev.iflt (t := 9) (d23 1 rfl) rfl (fun c1 => ?_) (fun c1 => ?_)
  · replace hr := (if_pos c1).symm.trans hr
    refine Ev.iconst (z := 5) (d23 5 rfl) rfl ?_
    cases hr
    exact Ev.ireturn rfl (d23 6 rfl)
  · replace hr := (if_neg c1).symm.trans hr
    refine Ev.iloadN (d23 2 rfl) rfl ?_
    refine Ev.iconst (z := 3) (d23 3 rfl) rfl ?_
    refine Ev.icle (t := 11) (d23 4 rfl) rfl (fun c2 => ?_) (fun c2 => ?_)
    · replace hr := (if_pos c2).symm.trans hr
      refine Ev.iconst (z := 5) (d23 5 rfl) rfl ?_
      cases hr
      exact Ev.ireturn rfl (d23 6 rfl)
    · replace hr := (if_neg c2).symm.trans hr
      refine Ev.aloadN (d23 7 rfl) rfl ?_
      refine Ev.gAr V (ww hw 29 rfl) (d23 8 rfl) (j := 9) rfl ?_
      refine Ev.iloadN (d23 9 rfl) rfl ?_
      obtain ⟨b3, hr⟩ := grd_some hr
      refine Ev.bal V (j := 9) rfl rfl (d23 10 rfl) b3 ?_
      refine Ev.ifne (t := 23) (d23 11 rfl) rfl (fun c4 => ?_) (fun c4 => ?_)
      · replace hr := (if_pos c4).symm.trans hr
        refine Ev.bipush (z := 7) (d23 12 rfl) rfl ?_
        cases hr
        exact Ev.ireturn rfl (d23 13 rfl)
      · replace hr := (if_neg c4).symm.trans hr
        refine Ev.aloadN (d23 14 rfl) rfl ?_
        refine Ev.aloadN (d23 15 rfl) rfl ?_
        refine Ev.gAr V (ww hw 35 rfl) (d23 16 rfl) (j := 12) rfl ?_
        refine Ev.iloadN (d23 17 rfl) rfl ?_
        refine Ev.ial V (j := 12) rfl rfl (d23 18 rfl) b3 ?_
        obtain ⟨q5, hq6, hr⟩ := Option.bind_eq_some_iff.mp hr
        refine Ev.priv (y := M_bitCount) (args := [.int (s.2 12 (ix a0))]) (rest := []) (gok hw) rfl nm_bitCount (ww hw 157 rfl) (ww hw 158 rfl) (ww hw 159 rfl) (ww hw 160 rfl) (lenOf pd_bitCount rfl) (d23 19 rfl) (V.2.1 s) (e_bitCount hw V hq6) (by decide) (Nat.le_of_ble_eq_true rfl) rfl ?_
        refine Ev.istDN (L' := [.val (.ref o), .val (.int a0), .val (.int q5), .unset]) (d23 20 rfl) rfl rfl rfl ?_
        refine Ev.aloadN (d23 21 rfl) rfl ?_
        obtain ⟨q7, hq8, hr⟩ := Option.bind_eq_some_iff.mp hr
        refine Ev.priv (y := M_countFree) (args := []) (rest := []) (gok hw) rfl nm_countFree (ww hw 161 rfl) (ww hw 162 rfl) (ww hw 163 rfl) (ww hw 164 rfl) (lenOf pd_countFree rfl) (d23 22 rfl) (V.2.1 s) (e_countFree hw V hq8) (by decide) (Nat.le_of_ble_eq_true rfl) rfl ?_
        refine Ev.istDN (L' := [.val (.ref o), .val (.int a0), .val (.int q5), .val (.int q7)]) (d23 23 rfl) rfl rfl rfl ?_
        refine Ev.iloadN (d23 24 rfl) rfl ?_
        refine Ev.iloadN (d23 25 rfl) rfl ?_
        refine Ev.icle (t := 46) (d23 26 rfl) rfl (fun c9 => ?_) (fun c9 => ?_)
        · replace hr := (if_pos c9).symm.trans hr
          refine Ev.iconst (z := 3) (d23 27 rfl) rfl ?_
          cases hr
          exact Ev.ireturn rfl (d23 28 rfl)
        · replace hr := (if_neg c9).symm.trans hr
          refine Ev.aloadN (d23 29 rfl) rfl ?_
          refine Ev.iloadN (d23 30 rfl) rfl ?_
          obtain ⟨q10, hq11, hr⟩ := Option.bind_eq_some_iff.mp hr
          refine Ev.priv (y := M_doSwapIn) (args := [.int a0]) (rest := []) (gok hw) rfl nm_doSwapIn (ww hw 165 rfl) (ww hw 166 rfl) (ww hw 167 rfl) (ww hw 168 rfl) (lenOf pd_doSwapIn rfl) (d23 31 rfl) (V.2.1 s) (e_doSwapIn hw V hq11) (by decide) (Nat.le_of_ble_eq_true rfl) rfl ?_
          refine Ev.bipush (z := 6) (d23 32 rfl) rfl ?_
          cases hr
          exact Ev.ireturn rfl (d23 33 rfl)
def f_decide_28 (n : Nat) (x4 : Int32) (x5 : Int32) (s : St) : Option (Int32 × St) :=
  if x4 < 0 then
    some ((0 : Int32), s)
  else
    if (3 : Int32) < x4 then
      some ((0 : Int32), s)
    else
      if x5 = 0 then
        some ((0 : Int32), s)
      else
        grd (inb x4 4) <|
        (f_bitCount n s (s.2 12 (ix x4))).bind fun q5 =>
        (f_countFree n s).bind fun q7 =>
        if q7 < q5 then
          some ((0 : Int32), s)
        else
          (f_doSwapIn n x4 s).bind fun q10 =>
          some (((32 : Int32) + x4), q10)
set_option maxRecDepth 100000 in
theorem e_decide_28 {g : GT} {n : Nat} (hw : HW g) {K : St → MHeap} {o : Nat} {r : Nat → Nat} (V : View (GG g) Ln K o r) (x4 : Int32) (x5 : Int32) (s : St) (y1 : Slot) (hy1 : one1 y1 = true) (y2 : Slot) (hy2 : one1 y2 = true) (y3 : Slot) (hy3 : one1 y3 = true) (y6 : Slot) (hy6 : one1 y6 = true) (y7 : Slot) (hy7 : one1 y7 = true) (w : Int32 × St) (hr : f_decide_28 n x4 x5 s = some w) : Ev (GG g) M_decide 28 [.val (.ref o), y1, y2, y3, .val (.int x4), .val (.int x5), y6, y7] [] (K s) ((some (.int w.1)), (K w.2)) := by
  unfold f_decide_28 at hr
  refine Ev.iload (d12 17 rfl) rfl ?_
  refine Ev.iflt (t := 82) (d12 18 rfl) rfl (fun c1 => ?_) (fun c1 => ?_)
  · replace hr := (if_pos c1).symm.trans hr
    refine Ev.iconst (z := 0) (d12 44 rfl) rfl ?_
    cases hr
    exact Ev.ireturn rfl (d12 45 rfl)
  · replace hr := (if_neg c1).symm.trans hr
    refine Ev.iload (d12 19 rfl) rfl ?_
    refine Ev.iconst (z := 3) (d12 20 rfl) rfl ?_
    refine Ev.icgt (t := 82) (d12 21 rfl) rfl (fun c2 => ?_) (fun c2 => ?_)
    · replace hr := (if_pos c2).symm.trans hr
      refine Ev.iconst (z := 0) (d12 44 rfl) rfl ?_
      cases hr
      exact Ev.ireturn rfl (d12 45 rfl)
    · replace hr := (if_neg c2).symm.trans hr
      refine Ev.iload (d12 22 rfl) rfl ?_
      refine Ev.ifeq (t := 82) (d12 23 rfl) rfl (fun c3 => ?_) (fun c3 => ?_)
      · replace hr := (if_pos c3).symm.trans hr
        refine Ev.iconst (z := 0) (d12 44 rfl) rfl ?_
        cases hr
        exact Ev.ireturn rfl (d12 45 rfl)
      · replace hr := (if_neg c3).symm.trans hr
        refine Ev.aloadN (d12 24 rfl) rfl ?_
        refine Ev.aloadN (d12 25 rfl) rfl ?_
        refine Ev.gAr V (ww hw 35 rfl) (d12 26 rfl) (j := 12) rfl ?_
        refine Ev.iload (d12 27 rfl) rfl ?_
        obtain ⟨b4, hr⟩ := grd_some hr
        refine Ev.ial V (j := 12) rfl rfl (d12 28 rfl) b4 ?_
        obtain ⟨q5, hq6, hr⟩ := Option.bind_eq_some_iff.mp hr
        refine Ev.priv (y := M_bitCount) (args := [.int (s.2 12 (ix x4))]) (rest := []) (gok hw) rfl nm_bitCount (ww hw 157 rfl) (ww hw 158 rfl) (ww hw 159 rfl) (ww hw 160 rfl) (lenOf pd_bitCount rfl) (d12 29 rfl) (V.2.1 s) (e_bitCount hw V hq6) (by decide) (Nat.le_of_ble_eq_true rfl) rfl ?_
        refine Ev.istD (L' := [.val (.ref o), y1, y2, y3, .val (.int x4), .val (.int x5), .val (.int q5), y7]) (d12 30 rfl) rfl hy6 rfl ?_
        refine Ev.aloadN (d12 31 rfl) rfl ?_
        obtain ⟨q7, hq8, hr⟩ := Option.bind_eq_some_iff.mp hr
        refine Ev.priv (y := M_countFree) (args := []) (rest := []) (gok hw) rfl nm_countFree (ww hw 161 rfl) (ww hw 162 rfl) (ww hw 163 rfl) (ww hw 164 rfl) (lenOf pd_countFree rfl) (d12 32 rfl) (V.2.1 s) (e_countFree hw V hq8) (by decide) (Nat.le_of_ble_eq_true rfl) rfl ?_
        refine Ev.istD (L' := [.val (.ref o), y1, y2, y3, .val (.int x4), .val (.int x5), .val (.int q5), .val (.int q7)]) (d12 33 rfl) rfl hy7 rfl ?_
        refine Ev.iload (d12 34 rfl) rfl ?_
        refine Ev.iload (d12 35 rfl) rfl ?_
        refine Ev.icgt (t := 82) (d12 36 rfl) rfl (fun c9 => ?_) (fun c9 => ?_)
        · replace hr := (if_pos c9).symm.trans hr
          refine Ev.iconst (z := 0) (d12 44 rfl) rfl ?_
          cases hr
          exact Ev.ireturn rfl (d12 45 rfl)
        · replace hr := (if_neg c9).symm.trans hr
          refine Ev.aloadN (d12 37 rfl) rfl ?_
          refine Ev.iload (d12 38 rfl) rfl ?_
          obtain ⟨q10, hq11, hr⟩ := Option.bind_eq_some_iff.mp hr
          refine Ev.priv (y := M_doSwapIn) (args := [.int x4]) (rest := []) (gok hw) rfl nm_doSwapIn (ww hw 165 rfl) (ww hw 166 rfl) (ww hw 167 rfl) (ww hw 168 rfl) (lenOf pd_doSwapIn rfl) (d12 39 rfl) (V.2.1 s) (e_doSwapIn hw V hq11) (by decide) (Nat.le_of_ble_eq_true rfl) rfl ?_
          refine Ev.bipush (z := 32) (d12 40 rfl) rfl ?_
          refine Ev.iload (d12 41 rfl) rfl ?_
          refine Ev.iadd (d12 42 rfl) ?_
          cases hr
          exact Ev.ireturn rfl (d12 43 rfl)
def f_decide (n : Nat) (a0 : Int32) (a1 : Int32) (a2 : Int32) (a3 : Int32) (a4 : Int32) (s : St) : Option (Int32 × St) :=
  if a0 = 0 then
    f_decide_28 n a3 a4 s
  else
    if a1 < (2 : Int32) then
      f_decide_28 n a3 a4 s
    else
      if a2 < 0 then
        f_decide_28 n a3 a4 s
      else
        if (3 : Int32) < a2 then
          f_decide_28 n a3 a4 s
        else
          (f_doSwapOut n a2 s).bind fun q5 =>
          some (((16 : Int32) + a2), q5)
set_option maxRecDepth 100000 in
theorem e_decide {g : GT} {n : Nat} {a0 : Int32} {a1 : Int32} {a2 : Int32} {a3 : Int32} {a4 : Int32} {s : St} {w : Int32 × St} (hw : HW g) {K : St → MHeap} {o : Nat} {r : Nat → Nat} (V : View (GG g) Ln K o r) (hr : f_decide n a0 a1 a2 a3 a4 s = some w) : EvC (GG g) M_decide [.ref o, .int a0, .int a1, .int a2, .int a3, .int a4] (K s) ((some (.int w.1)), (K w.2)) := by
  refine EvC.enter (L0 := [.val (.ref o), .val (.int a0), .val (.int a1), .val (.int a2), .val (.int a3), .val (.int a4), .unset, .unset]) pl_decide (fun h => nomatch h) rfl rfl ?_
  unfold f_decide at hr
  refine Ev.iloadN (d12 0 rfl) rfl ?_
  refine Ev.ifeq (t := 28) (d12 1 rfl) rfl (fun c1 => ?_) (fun c1 => ?_)
  · replace hr := (if_pos c1).symm.trans hr
    exact e_decide_28 hw V  a3 a4 s (.val (.int a0)) rfl (.val (.int a1)) rfl (.val (.int a2)) rfl .unset rfl .unset rfl _ hr
  · replace hr := (if_neg c1).symm.trans hr
    refine Ev.iloadN (d12 2 rfl) rfl ?_
    refine Ev.iconst (z := 2) (d12 3 rfl) rfl ?_
    refine Ev.iclt (t := 28) (d12 4 rfl) rfl (fun c2 => ?_) (fun c2 => ?_)
    · replace hr := (if_pos c2).symm.trans hr
      exact e_decide_28 hw V  a3 a4 s (.val (.int a0)) rfl (.val (.int a1)) rfl (.val (.int a2)) rfl .unset rfl .unset rfl _ hr
    · replace hr := (if_neg c2).symm.trans hr
      refine Ev.iloadN (d12 5 rfl) rfl ?_
      refine Ev.iflt (t := 28) (d12 6 rfl) rfl (fun c3 => ?_) (fun c3 => ?_)
      · replace hr := (if_pos c3).symm.trans hr
        exact e_decide_28 hw V  a3 a4 s (.val (.int a0)) rfl (.val (.int a1)) rfl (.val (.int a2)) rfl .unset rfl .unset rfl _ hr
      · replace hr := (if_neg c3).symm.trans hr
        refine Ev.iloadN (d12 7 rfl) rfl ?_
        refine Ev.iconst (z := 3) (d12 8 rfl) rfl ?_
        refine Ev.icgt (t := 28) (d12 9 rfl) rfl (fun c4 => ?_) (fun c4 => ?_)
        · replace hr := (if_pos c4).symm.trans hr
          exact e_decide_28 hw V  a3 a4 s (.val (.int a0)) rfl (.val (.int a1)) rfl (.val (.int a2)) rfl .unset rfl .unset rfl _ hr
        · replace hr := (if_neg c4).symm.trans hr
          refine Ev.aloadN (d12 10 rfl) rfl ?_
          refine Ev.iloadN (d12 11 rfl) rfl ?_
          obtain ⟨q5, hq6, hr⟩ := Option.bind_eq_some_iff.mp hr
          refine Ev.priv (y := M_doSwapOut) (args := [.int a2]) (rest := []) (gok hw) rfl nm_doSwapOut (ww hw 148 rfl) (ww hw 149 rfl) (ww hw 150 rfl) (ww hw 151 rfl) (lenOf pd_doSwapOut rfl) (d12 12 rfl) (V.2.1 s) (e_doSwapOut hw V hq6) (by decide) (Nat.le_of_ble_eq_true rfl) rfl ?_
          refine Ev.bipush (z := 16) (d12 13 rfl) rfl ?_
          refine Ev.iloadN (d12 14 rfl) rfl ?_
          refine Ev.iadd (d12 15 rfl) ?_
          cases hr
          exact Ev.ireturn rfl (d12 16 rfl)
def f_control_72 (n : Nat) (k15 : Int32 → Int32 → Int32 → Int32 → Int32 → Int32 → St → Option (Int32 × St)) (x1 : Int32) (x2 : Int32) (x3 : Int32) (x4 : Int32) (x5 : Int32) (x6 : Int32) (s : St) : Option (Int32 × St) :=
  grd (inb x6 4) <|
  if (s.2 14 (ix x6)) < (((s.2 13 (ix x6)) * (2 : Int32)) * (s.1 18)) then
    k15 x1 x2 x3 x4 (0 : Int32) (x6 + (1 : Int32)) s
  else
    k15 x1 x2 x3 x4 x5 (x6 + (1 : Int32)) s
set_option maxRecDepth 100000 in
theorem e_control_72 {g : GT} {n : Nat} (hw : HW g) {K : St → MHeap} {o : Nat} {r : Nat → Nat} (V : View (GG g) Ln K o r) {k15 : Int32 → Int32 → Int32 → Int32 → Int32 → Int32 → St → Option (Int32 × St)} (hk15 : ∀ (x1 : Int32) (x2 : Int32) (x3 : Int32) (x4 : Int32) (x5 : Int32) (x6 : Int32) (s : St) (y7 : Slot) (hy7 : one1 y7 = true) (w : Int32 × St), k15 x1 x2 x3 x4 x5 x6 s = some w → Ev (GG g) M_control 15 [.val (.ref o), .val (.int x1), .val (.int x2), .val (.int x3), .val (.int x4), .val (.int x5), .val (.int x6), y7] [] (K s) ((some (.int w.1)), (K w.2))) (x1 : Int32) (x2 : Int32) (x3 : Int32) (x4 : Int32) (x5 : Int32) (x6 : Int32) (s : St) (y7 : Slot) (hy7 : one1 y7 = true) (w : Int32 × St) (hr : f_control_72 n k15 x1 x2 x3 x4 x5 x6 s = some w) : Ev (GG g) M_control 72 [.val (.ref o), .val (.int x1), .val (.int x2), .val (.int x3), .val (.int x4), .val (.int x5), .val (.int x6), y7] [] (K s) ((some (.int w.1)), (K w.2)) := by
  unfold f_control_72 at hr
  refine Ev.aloadN (d11 42 rfl) rfl ?_
  refine Ev.gAr V (ww hw 37 rfl) (d11 43 rfl) (j := 13) rfl ?_
  refine Ev.iload (d11 44 rfl) rfl ?_
  obtain ⟨b1, hr⟩ := grd_some hr
  refine Ev.ial V (j := 13) rfl rfl (d11 45 rfl) b1 ?_
  refine Ev.iconst (z := 2) (d11 46 rfl) rfl ?_
  refine Ev.imul (d11 47 rfl) ?_
  refine Ev.aloadN (d11 48 rfl) rfl ?_
  refine Ev.gI V (ww hw 51 rfl) (d11 49 rfl) (j := 18) rfl rfl ?_
  refine Ev.imul (d11 50 rfl) ?_
  refine Ev.aloadN (d11 51 rfl) rfl ?_
  refine Ev.gAr V (ww hw 39 rfl) (d11 52 rfl) (j := 14) rfl ?_
  refine Ev.iload (d11 53 rfl) rfl ?_
  refine Ev.ial V (j := 14) rfl rfl (d11 54 rfl) b1 ?_
  refine Ev.icle (t := 99) (d11 55 rfl) rfl (fun c2 => ?_) (fun c2 => ?_)
  · replace hr := (if_pos c2).symm.trans hr
    refine Ev.iconst (z := 0) (d11 56 rfl) rfl ?_
    refine Ev.istD (L' := [.val (.ref o), .val (.int x1), .val (.int x2), .val (.int x3), .val (.int x4), .val (.int (0 : Int32)), .val (.int x6), y7]) (d11 57 rfl) rfl rfl rfl ?_
    refine Ev.iinc (z := 1) (L' := [.val (.ref o), .val (.int x1), .val (.int x2), .val (.int x3), .val (.int x4), .val (.int (0 : Int32)), .val (.int (x6 + (1 : Int32))), y7]) (d11 58 rfl) rfl rfl rfl ?_
    refine Ev.goto (t := 15) (d11 59 rfl) rfl ?_
    exact hk15 x1 x2 x3 x4 (0 : Int32) (x6 + (1 : Int32)) s y7 hy7 _ hr
  · replace hr := (if_neg c2).symm.trans hr
    refine Ev.iinc (z := 1) (L' := [.val (.ref o), .val (.int x1), .val (.int x2), .val (.int x3), .val (.int x4), .val (.int x5), .val (.int (x6 + (1 : Int32))), y7]) (d11 58 rfl) rfl rfl rfl ?_
    refine Ev.goto (t := 15) (d11 59 rfl) rfl ?_
    exact hk15 x1 x2 x3 x4 x5 (x6 + (1 : Int32)) s y7 hy7 _ hr
def f_control_121 (n : Nat) : Nat → Int32 → Int32 → St → Option (Int32 × St)
  | 0 => fun _ _ _ => none
  | k + 1 => fun x6 x7 s =>
    if x7 < (4 : Int32) then
      grd (inb x7 4) <|
      bnd (setA s 13 (ix x7) (0 : Int32)) fun s3 =>
      bnd (setA s3 14 (ix x7) (0 : Int32)) fun s4 =>
      f_control_121 n k x6 (x7 + (1 : Int32)) s4
    else
      some (x6, s)
set_option maxRecDepth 100000 in
theorem e_control_121 {g : GT} {n : Nat} (hw : HW g) {K : St → MHeap} {o : Nat} {r : Nat → Nat} (V : View (GG g) Ln K o r) (k : Nat) : ∀ (x6 : Int32) (x7 : Int32) (s : St) (y1 : Slot) (hy1 : one1 y1 = true) (y2 : Slot) (hy2 : one1 y2 = true) (y3 : Slot) (hy3 : one1 y3 = true) (y4 : Slot) (hy4 : one1 y4 = true) (y5 : Slot) (hy5 : one1 y5 = true) (w : Int32 × St), f_control_121 n k x6 x7 s = some w → Ev (GG g) M_control 121 [.val (.ref o), y1, y2, y3, y4, y5, .val (.int x6), .val (.int x7)] [] (K s) ((some (.int w.1)), (K w.2)) := by
  induction k with
  | zero => intro x6 x7 s y1 hy1 y2 hy2 y3 hy3 y4 hy4 y5 hy5 w hr; rw [f_control_121] at hr; cases hr
  | succ k ih =>
    intro x6 x7 s y1 hy1 y2 hy2 y3 hy3 y4 hy4 y5 hy5 w hr
    rw [f_control_121] at hr
    refine Ev.iload (d11 70 rfl) rfl ?_
    refine Ev.iconst (z := 4) (d11 71 rfl) rfl ?_
    refine Ev.icge (t := 149) (d11 72 rfl) rfl (fun c1 => ?_) (fun c1 => ?_)
    · replace hr := (if_pos c1).symm.trans hr
      refine Ev.aloadN (d11 73 rfl) rfl ?_
      refine Ev.gAr V (ww hw 37 rfl) (d11 74 rfl) (j := 13) rfl ?_
      refine Ev.iload (d11 75 rfl) rfl ?_
      refine Ev.iconst (z := 0) (d11 76 rfl) rfl ?_
      obtain ⟨b2, hr⟩ := grd_some hr
      refine Ev.ias V (j := 13) rfl rfl (d11 77 rfl) b2 ?_
      revert hr
      generalize setA s 13 (ix x7) (0 : Int32) = s3
      intro hr
      replace hr := (bnd_eq _ _).symm.trans hr
      refine Ev.aloadN (d11 78 rfl) rfl ?_
      refine Ev.gAr V (ww hw 39 rfl) (d11 79 rfl) (j := 14) rfl ?_
      refine Ev.iload (d11 80 rfl) rfl ?_
      refine Ev.iconst (z := 0) (d11 81 rfl) rfl ?_
      refine Ev.ias V (j := 14) rfl rfl (d11 82 rfl) b2 ?_
      revert hr
      generalize setA s3 14 (ix x7) (0 : Int32) = s4
      intro hr
      replace hr := (bnd_eq _ _).symm.trans hr
      refine Ev.iinc (z := 1) (L' := [.val (.ref o), y1, y2, y3, y4, y5, .val (.int x6), .val (.int (x7 + (1 : Int32)))]) (d11 83 rfl) rfl rfl rfl ?_
      refine Ev.goto (t := 121) (d11 84 rfl) rfl ?_
      exact ih x6 (x7 + (1 : Int32)) s4 y1 hy1 y2 hy2 y3 hy3 y4 hy4 y5 hy5 _ hr
    · replace hr := (if_neg c1).symm.trans hr
      refine Ev.iload (d11 85 rfl) rfl ?_
      cases hr
      exact Ev.ireturn rfl (d11 86 rfl)
def f_control_15 (n : Nat) : Nat → Int32 → Int32 → Int32 → Int32 → Int32 → Int32 → St → Option (Int32 × St)
  | 0 => fun _ _ _ _ _ _ _ => none
  | k + 1 => fun x1 x2 x3 x4 x5 x6 s =>
    if x6 < (4 : Int32) then
      grd (inb x6 4) <|
      if (s.2 9 (ix x6)) = 0 then
        if (s.2 14 (ix x6)) < ((s.2 13 (ix x6)) * (s.1 18)) then
          f_control_72 n (f_control_15 n k) (x1 + (1 : Int32)) x6 x3 (1 : Int32) x5 x6 s
        else
          f_control_72 n (f_control_15 n k) (x1 + (1 : Int32)) x6 x3 x4 x5 x6 s
      else
        if x3 < 0 then
          f_control_15 n k x1 x2 x6 x4 x5 (x6 + (1 : Int32)) s
        else
          f_control_15 n k x1 x2 x3 x4 x5 (x6 + (1 : Int32)) s
    else
      (f_decide n x4 x1 x2 x3 x5 s).bind fun q6 =>
      f_control_121 n n q6.1 (0 : Int32) q6.2
set_option maxRecDepth 100000 in
theorem e_control_15 {g : GT} {n : Nat} (hw : HW g) {K : St → MHeap} {o : Nat} {r : Nat → Nat} (V : View (GG g) Ln K o r) (k : Nat) : ∀ (x1 : Int32) (x2 : Int32) (x3 : Int32) (x4 : Int32) (x5 : Int32) (x6 : Int32) (s : St) (y7 : Slot) (hy7 : one1 y7 = true) (w : Int32 × St), f_control_15 n k x1 x2 x3 x4 x5 x6 s = some w → Ev (GG g) M_control 15 [.val (.ref o), .val (.int x1), .val (.int x2), .val (.int x3), .val (.int x4), .val (.int x5), .val (.int x6), y7] [] (K s) ((some (.int w.1)), (K w.2)) := by
  induction k with
  | zero => intro x1 x2 x3 x4 x5 x6 s y7 hy7 w hr; rw [f_control_15] at hr; cases hr
  | succ k ih =>
    intro x1 x2 x3 x4 x5 x6 s y7 hy7 w hr
    rw [f_control_15] at hr
    refine Ev.iload (d11 12 rfl) rfl ?_
    refine Ev.iconst (z := 4) (d11 13 rfl) rfl ?_
    refine Ev.icge (t := 105) (d11 14 rfl) rfl (fun c1 => ?_) (fun c1 => ?_)
    · replace hr := (if_pos c1).symm.trans hr
      refine Ev.aloadN (d11 15 rfl) rfl ?_
      refine Ev.gAr V (ww hw 29 rfl) (d11 16 rfl) (j := 9) rfl ?_
      refine Ev.iload (d11 17 rfl) rfl ?_
      obtain ⟨b2, hr⟩ := grd_some hr
      refine Ev.bal V (j := 9) rfl rfl (d11 18 rfl) b2 ?_
      refine Ev.ifeq (t := 41) (d11 19 rfl) rfl (fun c3 => ?_) (fun c3 => ?_)
      · replace hr := (if_pos c3).symm.trans hr
        refine Ev.iinc (z := 1) (L' := [.val (.ref o), .val (.int (x1 + (1 : Int32))), .val (.int x2), .val (.int x3), .val (.int x4), .val (.int x5), .val (.int x6), y7]) (d11 25 rfl) rfl rfl rfl ?_
        refine Ev.iload (d11 26 rfl) rfl ?_
        refine Ev.istDN (L' := [.val (.ref o), .val (.int (x1 + (1 : Int32))), .val (.int x6), .val (.int x3), .val (.int x4), .val (.int x5), .val (.int x6), y7]) (d11 27 rfl) rfl rfl rfl ?_
        refine Ev.aloadN (d11 28 rfl) rfl ?_
        refine Ev.gAr V (ww hw 37 rfl) (d11 29 rfl) (j := 13) rfl ?_
        refine Ev.iload (d11 30 rfl) rfl ?_
        refine Ev.ial V (j := 13) rfl rfl (d11 31 rfl) b2 ?_
        refine Ev.aloadN (d11 32 rfl) rfl ?_
        refine Ev.gI V (ww hw 51 rfl) (d11 33 rfl) (j := 18) rfl rfl ?_
        refine Ev.imul (d11 34 rfl) ?_
        refine Ev.aloadN (d11 35 rfl) rfl ?_
        refine Ev.gAr V (ww hw 39 rfl) (d11 36 rfl) (j := 14) rfl ?_
        refine Ev.iload (d11 37 rfl) rfl ?_
        refine Ev.ial V (j := 14) rfl rfl (d11 38 rfl) b2 ?_
        refine Ev.icle (t := 72) (d11 39 rfl) rfl (fun c4 => ?_) (fun c4 => ?_)
        · replace hr := (if_pos c4).symm.trans hr
          refine Ev.iconst (z := 1) (d11 40 rfl) rfl ?_
          refine Ev.istD (L' := [.val (.ref o), .val (.int (x1 + (1 : Int32))), .val (.int x6), .val (.int x3), .val (.int (1 : Int32)), .val (.int x5), .val (.int x6), y7]) (d11 41 rfl) rfl rfl rfl ?_
          exact e_control_72 hw V ih (x1 + (1 : Int32)) x6 x3 (1 : Int32) x5 x6 s y7 hy7 _ hr
        · replace hr := (if_neg c4).symm.trans hr
          exact e_control_72 hw V ih (x1 + (1 : Int32)) x6 x3 x4 x5 x6 s y7 hy7 _ hr
      · replace hr := (if_neg c3).symm.trans hr
        refine Ev.iloadN (d11 20 rfl) rfl ?_
        refine Ev.ifge (t := 99) (d11 21 rfl) rfl (fun c5 => ?_) (fun c5 => ?_)
        · replace hr := (if_pos c5).symm.trans hr
          refine Ev.iload (d11 22 rfl) rfl ?_
          refine Ev.istDN (L' := [.val (.ref o), .val (.int x1), .val (.int x2), .val (.int x6), .val (.int x4), .val (.int x5), .val (.int x6), y7]) (d11 23 rfl) rfl rfl rfl ?_
          refine Ev.goto (t := 99) (d11 24 rfl) rfl ?_
          refine Ev.iinc (z := 1) (L' := [.val (.ref o), .val (.int x1), .val (.int x2), .val (.int x6), .val (.int x4), .val (.int x5), .val (.int (x6 + (1 : Int32))), y7]) (d11 58 rfl) rfl rfl rfl ?_
          refine Ev.goto (t := 15) (d11 59 rfl) rfl ?_
          exact ih x1 x2 x6 x4 x5 (x6 + (1 : Int32)) s y7 hy7 _ hr
        · replace hr := (if_neg c5).symm.trans hr
          refine Ev.iinc (z := 1) (L' := [.val (.ref o), .val (.int x1), .val (.int x2), .val (.int x3), .val (.int x4), .val (.int x5), .val (.int (x6 + (1 : Int32))), y7]) (d11 58 rfl) rfl rfl rfl ?_
          refine Ev.goto (t := 15) (d11 59 rfl) rfl ?_
          exact ih x1 x2 x3 x4 x5 (x6 + (1 : Int32)) s y7 hy7 _ hr
    · replace hr := (if_neg c1).symm.trans hr
      refine Ev.aloadN (d11 60 rfl) rfl ?_
      refine Ev.iload (d11 61 rfl) rfl ?_
      refine Ev.iloadN (d11 62 rfl) rfl ?_
      refine Ev.iloadN (d11 63 rfl) rfl ?_
      refine Ev.iloadN (d11 64 rfl) rfl ?_
      refine Ev.iload (d11 65 rfl) rfl ?_
      obtain ⟨q6, hq7, hr⟩ := Option.bind_eq_some_iff.mp hr
      refine Ev.priv (y := M_decide) (args := [.int x4, .int x1, .int x2, .int x3, .int x5]) (rest := []) (gok hw) rfl nm_decide (ww hw 101 rfl) (ww hw 102 rfl) (ww hw 103 rfl) (ww hw 104 rfl) (lenOf pd_decide rfl) (d11 66 rfl) (V.2.1 s) (e_decide hw V hq7) (by decide) (Nat.le_of_ble_eq_true rfl) rfl ?_
      refine Ev.istD (L' := [.val (.ref o), .val (.int x1), .val (.int x2), .val (.int x3), .val (.int x4), .val (.int x5), .val (.int q6.1), y7]) (d11 67 rfl) rfl rfl rfl ?_
      refine Ev.iconst (z := 0) (d11 68 rfl) rfl ?_
      refine Ev.istD (L' := [.val (.ref o), .val (.int x1), .val (.int x2), .val (.int x3), .val (.int x4), .val (.int x5), .val (.int q6.1), .val (.int (0 : Int32))]) (d11 69 rfl) rfl hy7 rfl ?_
      exact e_control_121 hw V  n q6.1 (0 : Int32) q6.2 (.val (.int x1)) rfl (.val (.int x2)) rfl (.val (.int x3)) rfl (.val (.int x4)) rfl (.val (.int x5)) rfl _ hr
def f_control (n : Nat) (s : St) : Option (Int32 × St) :=
  f_control_15 n n (0 : Int32) (-1 : Int32) (-1 : Int32) (0 : Int32) (1 : Int32) (0 : Int32) s
set_option maxRecDepth 100000 in
theorem e_control {g : GT} {n : Nat} {s : St} {w : Int32 × St} (hw : HW g) {K : St → MHeap} {o : Nat} {r : Nat → Nat} (V : View (GG g) Ln K o r) (hr : f_control n s = some w) : EvC (GG g) M_control [.ref o] (K s) ((some (.int w.1)), (K w.2)) := by
  refine EvC.enter (L0 := [.val (.ref o), .unset, .unset, .unset, .unset, .unset, .unset, .unset]) pl_control (fun h => nomatch h) rfl rfl ?_
  unfold f_control at hr
  refine Ev.iconst (z := 0) (d11 0 rfl) rfl ?_
  refine Ev.istDN (L' := [.val (.ref o), .val (.int (0 : Int32)), .unset, .unset, .unset, .unset, .unset, .unset]) (d11 1 rfl) rfl rfl rfl ?_
  refine Ev.iconst (z := -1) (d11 2 rfl) rfl ?_
  refine Ev.istDN (L' := [.val (.ref o), .val (.int (0 : Int32)), .val (.int (-1 : Int32)), .unset, .unset, .unset, .unset, .unset]) (d11 3 rfl) rfl rfl rfl ?_
  refine Ev.iconst (z := -1) (d11 4 rfl) rfl ?_
  refine Ev.istDN (L' := [.val (.ref o), .val (.int (0 : Int32)), .val (.int (-1 : Int32)), .val (.int (-1 : Int32)), .unset, .unset, .unset, .unset]) (d11 5 rfl) rfl rfl rfl ?_
  refine Ev.iconst (z := 0) (d11 6 rfl) rfl ?_
  refine Ev.istD (L' := [.val (.ref o), .val (.int (0 : Int32)), .val (.int (-1 : Int32)), .val (.int (-1 : Int32)), .val (.int (0 : Int32)), .unset, .unset, .unset]) (d11 7 rfl) rfl rfl rfl ?_
  refine Ev.iconst (z := 1) (d11 8 rfl) rfl ?_
  refine Ev.istD (L' := [.val (.ref o), .val (.int (0 : Int32)), .val (.int (-1 : Int32)), .val (.int (-1 : Int32)), .val (.int (0 : Int32)), .val (.int (1 : Int32)), .unset, .unset]) (d11 9 rfl) rfl rfl rfl ?_
  refine Ev.iconst (z := 0) (d11 10 rfl) rfl ?_
  refine Ev.istD (L' := [.val (.ref o), .val (.int (0 : Int32)), .val (.int (-1 : Int32)), .val (.int (-1 : Int32)), .val (.int (0 : Int32)), .val (.int (1 : Int32)), .val (.int (0 : Int32)), .unset]) (d11 11 rfl) rfl rfl rfl ?_
  exact e_control_15 hw V  n (0 : Int32) (-1 : Int32) (-1 : Int32) (0 : Int32) (1 : Int32) (0 : Int32) s .unset rfl _ hr
def f_procInfo (s : St) (a0 : Int32) (a1 : Int32) : Option (Int32) :=
  if a0 < 0 then
    some (-1 : Int32)
  else
    if (3 : Int32) < a0 then
      some (-1 : Int32)
    else
      if a1 = 0 then
        grd (inb a0 4) <|
        some (s.2 10 (ix a0))
      else
        if a1 = (1 : Int32) then
          grd (inb a0 4) <|
          some (s.2 11 (ix a0))
        else
          if a1 = (2 : Int32) then
            grd (inb a0 4) <|
            if (s.2 9 (ix a0)) = 0 then
              some (0 : Int32)
            else
              some (1 : Int32)
          else
            if a1 = (3 : Int32) then
              grd (inb a0 4) <|
              some (s.2 12 (ix a0))
            else
              if a1 = (4 : Int32) then
                grd (inb a0 4) <|
                some (s.2 13 (ix a0))
              else
                if a1 = (5 : Int32) then
                  grd (inb a0 4) <|
                  some (s.2 14 (ix a0))
                else
                  some (-1 : Int32)
set_option maxRecDepth 100000 in
theorem e_procInfo {g : GT} {s : St} {a0 : Int32} {a1 : Int32} {w : Int32} (hw : HW g) {K : St → MHeap} {o : Nat} {r : Nat → Nat} (V : View (GG g) Ln K o r) (hr : f_procInfo s a0 a1 = some w) : EvC (GG g) M_procInfo [.ref o, .int a0, .int a1] (K s) ((some (.int w)), (K s)) := by
  refine EvC.enter (L0 := [.val (.ref o), .val (.int a0), .val (.int a1)]) pl_procInfo (fun h => nomatch h) rfl rfl ?_
  unfold f_procInfo at hr
  refine Ev.iloadN (d14 0 rfl) rfl ?_
  refine Ev.iflt (t := 9) (d14 1 rfl) rfl (fun c1 => ?_) (fun c1 => ?_)
  · replace hr := (if_pos c1).symm.trans hr
    refine Ev.iconst (z := -1) (d14 5 rfl) rfl ?_
    cases hr
    exact Ev.ireturn rfl (d14 6 rfl)
  · replace hr := (if_neg c1).symm.trans hr
    refine Ev.iloadN (d14 2 rfl) rfl ?_
    refine Ev.iconst (z := 3) (d14 3 rfl) rfl ?_
    refine Ev.icle (t := 11) (d14 4 rfl) rfl (fun c2 => ?_) (fun c2 => ?_)
    · replace hr := (if_pos c2).symm.trans hr
      refine Ev.iconst (z := -1) (d14 5 rfl) rfl ?_
      cases hr
      exact Ev.ireturn rfl (d14 6 rfl)
    · replace hr := (if_neg c2).symm.trans hr
      refine Ev.iloadN (d14 7 rfl) rfl ?_
      refine Ev.ifne (t := 22) (d14 8 rfl) rfl (fun c3 => ?_) (fun c3 => ?_)
      · replace hr := (if_pos c3).symm.trans hr
        refine Ev.aloadN (d14 9 rfl) rfl ?_
        refine Ev.gAr V (ww hw 31 rfl) (d14 10 rfl) (j := 10) rfl ?_
        refine Ev.iloadN (d14 11 rfl) rfl ?_
        obtain ⟨b4, hr⟩ := grd_some hr
        refine Ev.ial V (j := 10) rfl rfl (d14 12 rfl) b4 ?_
        cases hr
        exact Ev.ireturn rfl (d14 13 rfl)
      · replace hr := (if_neg c3).symm.trans hr
        refine Ev.iloadN (d14 14 rfl) rfl ?_
        refine Ev.iconst (z := 1) (d14 15 rfl) rfl ?_
        refine Ev.icne (t := 34) (d14 16 rfl) rfl (fun c5 => ?_) (fun c5 => ?_)
        · replace hr := (if_pos c5).symm.trans hr
          refine Ev.aloadN (d14 17 rfl) rfl ?_
          refine Ev.gAr V (ww hw 33 rfl) (d14 18 rfl) (j := 11) rfl ?_
          refine Ev.iloadN (d14 19 rfl) rfl ?_
          obtain ⟨b6, hr⟩ := grd_some hr
          refine Ev.ial V (j := 11) rfl rfl (d14 20 rfl) b6 ?_
          cases hr
          exact Ev.ireturn rfl (d14 21 rfl)
        · replace hr := (if_neg c5).symm.trans hr
          refine Ev.iloadN (d14 22 rfl) rfl ?_
          refine Ev.iconst (z := 2) (d14 23 rfl) rfl ?_
          refine Ev.icne (t := 54) (d14 24 rfl) rfl (fun c7 => ?_) (fun c7 => ?_)
          · replace hr := (if_pos c7).symm.trans hr
            refine Ev.aloadN (d14 25 rfl) rfl ?_
            refine Ev.gAr V (ww hw 29 rfl) (d14 26 rfl) (j := 9) rfl ?_
            refine Ev.iloadN (d14 27 rfl) rfl ?_
            obtain ⟨b8, hr⟩ := grd_some hr
            refine Ev.bal V (j := 9) rfl rfl (d14 28 rfl) b8 ?_
            refine Ev.ifeq (t := 52) (d14 29 rfl) rfl (fun c9 => ?_) (fun c9 => ?_)
            · replace hr := (if_pos c9).symm.trans hr
              refine Ev.iconst (z := 0) (d14 32 rfl) rfl ?_
              cases hr
              exact Ev.ireturn rfl (d14 33 rfl)
            · replace hr := (if_neg c9).symm.trans hr
              refine Ev.iconst (z := 1) (d14 30 rfl) rfl ?_
              refine Ev.goto (t := 53) (d14 31 rfl) rfl ?_
              cases hr
              exact Ev.ireturn rfl (d14 33 rfl)
          · replace hr := (if_neg c7).symm.trans hr
            refine Ev.iloadN (d14 34 rfl) rfl ?_
            refine Ev.iconst (z := 3) (d14 35 rfl) rfl ?_
            refine Ev.icne (t := 66) (d14 36 rfl) rfl (fun c10 => ?_) (fun c10 => ?_)
            · replace hr := (if_pos c10).symm.trans hr
              refine Ev.aloadN (d14 37 rfl) rfl ?_
              refine Ev.gAr V (ww hw 35 rfl) (d14 38 rfl) (j := 12) rfl ?_
              refine Ev.iloadN (d14 39 rfl) rfl ?_
              obtain ⟨b11, hr⟩ := grd_some hr
              refine Ev.ial V (j := 12) rfl rfl (d14 40 rfl) b11 ?_
              cases hr
              exact Ev.ireturn rfl (d14 41 rfl)
            · replace hr := (if_neg c10).symm.trans hr
              refine Ev.iloadN (d14 42 rfl) rfl ?_
              refine Ev.iconst (z := 4) (d14 43 rfl) rfl ?_
              refine Ev.icne (t := 78) (d14 44 rfl) rfl (fun c12 => ?_) (fun c12 => ?_)
              · replace hr := (if_pos c12).symm.trans hr
                refine Ev.aloadN (d14 45 rfl) rfl ?_
                refine Ev.gAr V (ww hw 37 rfl) (d14 46 rfl) (j := 13) rfl ?_
                refine Ev.iloadN (d14 47 rfl) rfl ?_
                obtain ⟨b13, hr⟩ := grd_some hr
                refine Ev.ial V (j := 13) rfl rfl (d14 48 rfl) b13 ?_
                cases hr
                exact Ev.ireturn rfl (d14 49 rfl)
              · replace hr := (if_neg c12).symm.trans hr
                refine Ev.iloadN (d14 50 rfl) rfl ?_
                refine Ev.iconst (z := 5) (d14 51 rfl) rfl ?_
                refine Ev.icne (t := 90) (d14 52 rfl) rfl (fun c14 => ?_) (fun c14 => ?_)
                · replace hr := (if_pos c14).symm.trans hr
                  refine Ev.aloadN (d14 53 rfl) rfl ?_
                  refine Ev.gAr V (ww hw 39 rfl) (d14 54 rfl) (j := 14) rfl ?_
                  refine Ev.iloadN (d14 55 rfl) rfl ?_
                  obtain ⟨b15, hr⟩ := grd_some hr
                  refine Ev.ial V (j := 14) rfl rfl (d14 56 rfl) b15 ?_
                  cases hr
                  exact Ev.ireturn rfl (d14 57 rfl)
                · replace hr := (if_neg c14).symm.trans hr
                  refine Ev.iconst (z := -1) (d14 58 rfl) rfl ?_
                  cases hr
                  exact Ev.ireturn rfl (d14 59 rfl)
def f_frameOf (s : St) (a0 : Int32) (a1 : Int32) : Option (Int32) :=
  if a0 < 0 then
    some (-1 : Int32)
  else
    if (3 : Int32) < a0 then
      some (-1 : Int32)
    else
      if a1 < 0 then
        some (-1 : Int32)
      else
        if (7 : Int32) < a1 then
          some (-1 : Int32)
        else
          grd (inb ((a0 * (8 : Int32)) + a1) 32) <|
          some (s.2 1 (ix ((a0 * (8 : Int32)) + a1)))
set_option maxRecDepth 100000 in
theorem e_frameOf {g : GT} {s : St} {a0 : Int32} {a1 : Int32} {w : Int32} (hw : HW g) {K : St → MHeap} {o : Nat} {r : Nat → Nat} (V : View (GG g) Ln K o r) (hr : f_frameOf s a0 a1 = some w) : EvC (GG g) M_frameOf [.ref o, .int a0, .int a1] (K s) ((some (.int w)), (K s)) := by
  refine EvC.enter (L0 := [.val (.ref o), .val (.int a0), .val (.int a1)]) pl_frameOf (fun h => nomatch h) rfl rfl ?_
  unfold f_frameOf at hr
  refine Ev.iloadN (d15 0 rfl) rfl ?_
  refine Ev.iflt (t := 19) (d15 1 rfl) rfl (fun c1 => ?_) (fun c1 => ?_)
  · replace hr := (if_pos c1).symm.trans hr
    refine Ev.iconst (z := -1) (d15 10 rfl) rfl ?_
    cases hr
    exact Ev.ireturn rfl (d15 11 rfl)
  · replace hr := (if_neg c1).symm.trans hr
    refine Ev.iloadN (d15 2 rfl) rfl ?_
    refine Ev.iconst (z := 3) (d15 3 rfl) rfl ?_
    refine Ev.icgt (t := 19) (d15 4 rfl) rfl (fun c2 => ?_) (fun c2 => ?_)
    · replace hr := (if_pos c2).symm.trans hr
      refine Ev.iconst (z := -1) (d15 10 rfl) rfl ?_
      cases hr
      exact Ev.ireturn rfl (d15 11 rfl)
    · replace hr := (if_neg c2).symm.trans hr
      refine Ev.iloadN (d15 5 rfl) rfl ?_
      refine Ev.iflt (t := 19) (d15 6 rfl) rfl (fun c3 => ?_) (fun c3 => ?_)
      · replace hr := (if_pos c3).symm.trans hr
        refine Ev.iconst (z := -1) (d15 10 rfl) rfl ?_
        cases hr
        exact Ev.ireturn rfl (d15 11 rfl)
      · replace hr := (if_neg c3).symm.trans hr
        refine Ev.iloadN (d15 7 rfl) rfl ?_
        refine Ev.bipush (z := 7) (d15 8 rfl) rfl ?_
        refine Ev.icle (t := 21) (d15 9 rfl) rfl (fun c4 => ?_) (fun c4 => ?_)
        · replace hr := (if_pos c4).symm.trans hr
          refine Ev.iconst (z := -1) (d15 10 rfl) rfl ?_
          cases hr
          exact Ev.ireturn rfl (d15 11 rfl)
        · replace hr := (if_neg c4).symm.trans hr
          refine Ev.aloadN (d15 12 rfl) rfl ?_
          refine Ev.gAr V (ww hw 12 rfl) (d15 13 rfl) (j := 1) rfl ?_
          refine Ev.iloadN (d15 14 rfl) rfl ?_
          refine Ev.bipush (z := 8) (d15 15 rfl) rfl ?_
          refine Ev.imul (d15 16 rfl) ?_
          refine Ev.iloadN (d15 17 rfl) rfl ?_
          refine Ev.iadd (d15 18 rfl) ?_
          obtain ⟨b5, hr⟩ := grd_some hr
          refine Ev.ial V (j := 1) rfl rfl (d15 19 rfl) b5 ?_
          cases hr
          exact Ev.ireturn rfl (d15 20 rfl)
def f_diskValue (s : St) (a0 : Int32) (a1 : Int32) : Option (Int32) :=
  if a0 < 0 then
    some (0 : Int32)
  else
    if (3 : Int32) < a0 then
      some (0 : Int32)
    else
      if a1 < 0 then
        some (0 : Int32)
      else
        if (7 : Int32) < a1 then
          some (0 : Int32)
        else
          grd (inb ((a0 * (8 : Int32)) + a1) 32) <|
          some (s.2 0 (ix ((a0 * (8 : Int32)) + a1)))
set_option maxRecDepth 100000 in
theorem e_diskValue {g : GT} {s : St} {a0 : Int32} {a1 : Int32} {w : Int32} (hw : HW g) {K : St → MHeap} {o : Nat} {r : Nat → Nat} (V : View (GG g) Ln K o r) (hr : f_diskValue s a0 a1 = some w) : EvC (GG g) M_diskValue [.ref o, .int a0, .int a1] (K s) ((some (.int w)), (K s)) := by
  refine EvC.enter (L0 := [.val (.ref o), .val (.int a0), .val (.int a1)]) pl_diskValue (fun h => nomatch h) rfl rfl ?_
  unfold f_diskValue at hr
  refine Ev.iloadN (d17 0 rfl) rfl ?_
  refine Ev.iflt (t := 19) (d17 1 rfl) rfl (fun c1 => ?_) (fun c1 => ?_)
  · replace hr := (if_pos c1).symm.trans hr
    refine Ev.iconst (z := 0) (d17 10 rfl) rfl ?_
    cases hr
    exact Ev.ireturn rfl (d17 11 rfl)
  · replace hr := (if_neg c1).symm.trans hr
    refine Ev.iloadN (d17 2 rfl) rfl ?_
    refine Ev.iconst (z := 3) (d17 3 rfl) rfl ?_
    refine Ev.icgt (t := 19) (d17 4 rfl) rfl (fun c2 => ?_) (fun c2 => ?_)
    · replace hr := (if_pos c2).symm.trans hr
      refine Ev.iconst (z := 0) (d17 10 rfl) rfl ?_
      cases hr
      exact Ev.ireturn rfl (d17 11 rfl)
    · replace hr := (if_neg c2).symm.trans hr
      refine Ev.iloadN (d17 5 rfl) rfl ?_
      refine Ev.iflt (t := 19) (d17 6 rfl) rfl (fun c3 => ?_) (fun c3 => ?_)
      · replace hr := (if_pos c3).symm.trans hr
        refine Ev.iconst (z := 0) (d17 10 rfl) rfl ?_
        cases hr
        exact Ev.ireturn rfl (d17 11 rfl)
      · replace hr := (if_neg c3).symm.trans hr
        refine Ev.iloadN (d17 7 rfl) rfl ?_
        refine Ev.bipush (z := 7) (d17 8 rfl) rfl ?_
        refine Ev.icle (t := 21) (d17 9 rfl) rfl (fun c4 => ?_) (fun c4 => ?_)
        · replace hr := (if_pos c4).symm.trans hr
          refine Ev.iconst (z := 0) (d17 10 rfl) rfl ?_
          cases hr
          exact Ev.ireturn rfl (d17 11 rfl)
        · replace hr := (if_neg c4).symm.trans hr
          refine Ev.aloadN (d17 12 rfl) rfl ?_
          refine Ev.gAr V (ww hw 10 rfl) (d17 13 rfl) (j := 0) rfl ?_
          refine Ev.iloadN (d17 14 rfl) rfl ?_
          refine Ev.bipush (z := 8) (d17 15 rfl) rfl ?_
          refine Ev.imul (d17 16 rfl) ?_
          refine Ev.iloadN (d17 17 rfl) rfl ?_
          refine Ev.iadd (d17 18 rfl) ?_
          obtain ⟨b5, hr⟩ := grd_some hr
          refine Ev.ial V (j := 0) rfl rfl (d17 19 rfl) b5 ?_
          cases hr
          exact Ev.ireturn rfl (d17 20 rfl)
def f_frameInfo (s : St) (a0 : Int32) : Option (Int32) :=
  if a0 < 0 then
    some (-1 : Int32)
  else
    if a0 < (s.1 15) then
      grd (inb a0 32) <|
      if (s.2 2 (ix a0)) < 0 then
        some (0 : Int32)
      else
        bnd (((((32 : Int32) + ((s.2 2 (ix a0)) * (8 : Int32))) + (s.2 3 (ix a0))) + ((64 : Int32) * (s.2 5 (ix a0)))) + ((128 : Int32) * (s.2 6 (ix a0)))) fun v5 =>
        if (s.2 8 (ix a0)) = 0 then
          some v5
        else
          some (v5 + (256 : Int32))
    else
      some (-1 : Int32)
set_option maxRecDepth 100000 in
theorem e_frameInfo {g : GT} {s : St} {a0 : Int32} {w : Int32} (hw : HW g) {K : St → MHeap} {o : Nat} {r : Nat → Nat} (V : View (GG g) Ln K o r) (hr : f_frameInfo s a0 = some w) : EvC (GG g) M_frameInfo [.ref o, .int a0] (K s) ((some (.int w)), (K s)) := by
  refine EvC.enter (L0 := [.val (.ref o), .val (.int a0), .unset, .unset]) pl_frameInfo (fun h => nomatch h) rfl rfl ?_
  unfold f_frameInfo at hr
  refine Ev.iloadN (d27 0 rfl) rfl ?_
  refine Ev.iflt (t := 12) (d27 1 rfl) rfl (fun c1 => ?_) (fun c1 => ?_)
  · replace hr := (if_pos c1).symm.trans hr
    refine Ev.iconst (z := -1) (d27 6 rfl) rfl ?_
    cases hr
    exact Ev.ireturn rfl (d27 7 rfl)
  · replace hr := (if_neg c1).symm.trans hr
    refine Ev.iloadN (d27 2 rfl) rfl ?_
    refine Ev.aloadN (d27 3 rfl) rfl ?_
    refine Ev.gI V (ww hw 45 rfl) (d27 4 rfl) (j := 15) rfl rfl ?_
    refine Ev.iclt (t := 14) (d27 5 rfl) rfl (fun c2 => ?_) (fun c2 => ?_)
    · replace hr := (if_pos c2).symm.trans hr
      refine Ev.aloadN (d27 8 rfl) rfl ?_
      refine Ev.gAr V (ww hw 14 rfl) (d27 9 rfl) (j := 2) rfl ?_
      refine Ev.iloadN (d27 10 rfl) rfl ?_
      obtain ⟨b3, hr⟩ := grd_some hr
      refine Ev.ial V (j := 2) rfl rfl (d27 11 rfl) b3 ?_
      refine Ev.istDN (L' := [.val (.ref o), .val (.int a0), .val (.int (s.2 2 (ix a0))), .unset]) (d27 12 rfl) rfl rfl rfl ?_
      refine Ev.iloadN (d27 13 rfl) rfl ?_
      refine Ev.ifge (t := 27) (d27 14 rfl) rfl (fun c4 => ?_) (fun c4 => ?_)
      · replace hr := (if_pos c4).symm.trans hr
        refine Ev.iconst (z := 0) (d27 15 rfl) rfl ?_
        cases hr
        exact Ev.ireturn rfl (d27 16 rfl)
      · replace hr := (if_neg c4).symm.trans hr
        refine Ev.bipush (z := 32) (d27 17 rfl) rfl ?_
        refine Ev.iloadN (d27 18 rfl) rfl ?_
        refine Ev.bipush (z := 8) (d27 19 rfl) rfl ?_
        refine Ev.imul (d27 20 rfl) ?_
        refine Ev.iadd (d27 21 rfl) ?_
        refine Ev.aloadN (d27 22 rfl) rfl ?_
        refine Ev.gAr V (ww hw 16 rfl) (d27 23 rfl) (j := 3) rfl ?_
        refine Ev.iloadN (d27 24 rfl) rfl ?_
        refine Ev.ial V (j := 3) rfl rfl (d27 25 rfl) b3 ?_
        refine Ev.iadd (d27 26 rfl) ?_
        refine Ev.bipush (z := 64) (d27 27 rfl) rfl ?_
        refine Ev.aloadN (d27 28 rfl) rfl ?_
        refine Ev.gAr V (ww hw 20 rfl) (d27 29 rfl) (j := 5) rfl ?_
        refine Ev.iloadN (d27 30 rfl) rfl ?_
        refine Ev.ial V (j := 5) rfl rfl (d27 31 rfl) b3 ?_
        refine Ev.imul (d27 32 rfl) ?_
        refine Ev.iadd (d27 33 rfl) ?_
        refine Ev.sipush (z := 128) (d27 34 rfl) rfl ?_
        refine Ev.aloadN (d27 35 rfl) rfl ?_
        refine Ev.gAr V (ww hw 22 rfl) (d27 36 rfl) (j := 6) rfl ?_
        refine Ev.iloadN (d27 37 rfl) rfl ?_
        refine Ev.ial V (j := 6) rfl rfl (d27 38 rfl) b3 ?_
        refine Ev.imul (d27 39 rfl) ?_
        refine Ev.iadd (d27 40 rfl) ?_
        revert hr
        generalize (((((32 : Int32) + ((s.2 2 (ix a0)) * (8 : Int32))) + (s.2 3 (ix a0))) + ((64 : Int32) * (s.2 5 (ix a0)))) + ((128 : Int32) * (s.2 6 (ix a0)))) = v5
        intro hr
        replace hr := (bnd_eq _ _).symm.trans hr
        refine Ev.istDN (L' := [.val (.ref o), .val (.int a0), .val (.int (s.2 2 (ix a0))), .val (.int v5)]) (d27 41 rfl) rfl rfl rfl ?_
        refine Ev.aloadN (d27 42 rfl) rfl ?_
        refine Ev.gAr V (ww hw 26 rfl) (d27 43 rfl) (j := 8) rfl ?_
        refine Ev.iloadN (d27 44 rfl) rfl ?_
        refine Ev.ial V (j := 8) rfl rfl (d27 45 rfl) b3 ?_
        refine Ev.ifeq (t := 78) (d27 46 rfl) rfl (fun c6 => ?_) (fun c6 => ?_)
        · replace hr := (if_pos c6).symm.trans hr
          refine Ev.iloadN (d27 48 rfl) rfl ?_
          cases hr
          exact Ev.ireturn rfl (d27 49 rfl)
        · replace hr := (if_neg c6).symm.trans hr
          refine Ev.iincW (z := 256) (L' := [.val (.ref o), .val (.int a0), .val (.int (s.2 2 (ix a0))), .val (.int (v5 + (256 : Int32)))]) (d27 47 rfl) rfl rfl rfl ?_
          refine Ev.iloadN (d27 48 rfl) rfl ?_
          cases hr
          exact Ev.ireturn rfl (d27 49 rfl)
    · replace hr := (if_neg c2).symm.trans hr
      refine Ev.iconst (z := -1) (d27 6 rfl) rfl ?_
      cases hr
      exact Ev.ireturn rfl (d27 7 rfl)
def f_lastUse (s : St) (a0 : Int32) : Option (Int32) :=
  if a0 < 0 then
    some (-1 : Int32)
  else
    if a0 < (s.1 15) then
      grd (inb a0 32) <|
      if (s.2 2 (ix a0)) < 0 then
        some (-1 : Int32)
      else
        some (s.2 7 (ix a0))
    else
      some (-1 : Int32)
set_option maxRecDepth 100000 in
theorem e_lastUse {g : GT} {s : St} {a0 : Int32} {w : Int32} (hw : HW g) {K : St → MHeap} {o : Nat} {r : Nat → Nat} (V : View (GG g) Ln K o r) (hr : f_lastUse s a0 = some w) : EvC (GG g) M_lastUse [.ref o, .int a0] (K s) ((some (.int w)), (K s)) := by
  refine EvC.enter (L0 := [.val (.ref o), .val (.int a0)]) pl_lastUse (fun h => nomatch h) rfl rfl ?_
  unfold f_lastUse at hr
  refine Ev.iloadN (d28 0 rfl) rfl ?_
  refine Ev.iflt (t := 21) (d28 1 rfl) rfl (fun c1 => ?_) (fun c1 => ?_)
  · replace hr := (if_pos c1).symm.trans hr
    refine Ev.iconst (z := -1) (d28 11 rfl) rfl ?_
    cases hr
    exact Ev.ireturn rfl (d28 12 rfl)
  · replace hr := (if_neg c1).symm.trans hr
    refine Ev.iloadN (d28 2 rfl) rfl ?_
    refine Ev.aloadN (d28 3 rfl) rfl ?_
    refine Ev.gI V (ww hw 45 rfl) (d28 4 rfl) (j := 15) rfl rfl ?_
    refine Ev.icge (t := 21) (d28 5 rfl) rfl (fun c2 => ?_) (fun c2 => ?_)
    · replace hr := (if_pos c2).symm.trans hr
      refine Ev.aloadN (d28 6 rfl) rfl ?_
      refine Ev.gAr V (ww hw 14 rfl) (d28 7 rfl) (j := 2) rfl ?_
      refine Ev.iloadN (d28 8 rfl) rfl ?_
      obtain ⟨b3, hr⟩ := grd_some hr
      refine Ev.ial V (j := 2) rfl rfl (d28 9 rfl) b3 ?_
      refine Ev.ifge (t := 23) (d28 10 rfl) rfl (fun c4 => ?_) (fun c4 => ?_)
      · replace hr := (if_pos c4).symm.trans hr
        refine Ev.iconst (z := -1) (d28 11 rfl) rfl ?_
        cases hr
        exact Ev.ireturn rfl (d28 12 rfl)
      · replace hr := (if_neg c4).symm.trans hr
        refine Ev.aloadN (d28 13 rfl) rfl ?_
        refine Ev.gAr V (ww hw 24 rfl) (d28 14 rfl) (j := 7) rfl ?_
        refine Ev.iloadN (d28 15 rfl) rfl ?_
        refine Ev.ial V (j := 7) rfl rfl (d28 16 rfl) b3 ?_
        cases hr
        exact Ev.ireturn rfl (d28 17 rfl)
    · replace hr := (if_neg c2).symm.trans hr
      refine Ev.iconst (z := -1) (d28 11 rfl) rfl ?_
      cases hr
      exact Ev.ireturn rfl (d28 12 rfl)
def f_dueTime (s : St) (a0 : Int32) : Option (Int32) :=
  if a0 < 0 then
    some (0 : Int32)
  else
    if a0 < (s.1 15) then
      grd (inb a0 32) <|
      if (s.2 2 (ix a0)) < 0 then
        some (0 : Int32)
      else
        some (s.2 8 (ix a0))
    else
      some (0 : Int32)
set_option maxRecDepth 100000 in
theorem e_dueTime {g : GT} {s : St} {a0 : Int32} {w : Int32} (hw : HW g) {K : St → MHeap} {o : Nat} {r : Nat → Nat} (V : View (GG g) Ln K o r) (hr : f_dueTime s a0 = some w) : EvC (GG g) M_dueTime [.ref o, .int a0] (K s) ((some (.int w)), (K s)) := by
  refine EvC.enter (L0 := [.val (.ref o), .val (.int a0)]) pl_dueTime (fun h => nomatch h) rfl rfl ?_
  unfold f_dueTime at hr
  refine Ev.iloadN (d29 0 rfl) rfl ?_
  refine Ev.iflt (t := 21) (d29 1 rfl) rfl (fun c1 => ?_) (fun c1 => ?_)
  · replace hr := (if_pos c1).symm.trans hr
    refine Ev.iconst (z := 0) (d29 11 rfl) rfl ?_
    cases hr
    exact Ev.ireturn rfl (d29 12 rfl)
  · replace hr := (if_neg c1).symm.trans hr
    refine Ev.iloadN (d29 2 rfl) rfl ?_
    refine Ev.aloadN (d29 3 rfl) rfl ?_
    refine Ev.gI V (ww hw 45 rfl) (d29 4 rfl) (j := 15) rfl rfl ?_
    refine Ev.icge (t := 21) (d29 5 rfl) rfl (fun c2 => ?_) (fun c2 => ?_)
    · replace hr := (if_pos c2).symm.trans hr
      refine Ev.aloadN (d29 6 rfl) rfl ?_
      refine Ev.gAr V (ww hw 14 rfl) (d29 7 rfl) (j := 2) rfl ?_
      refine Ev.iloadN (d29 8 rfl) rfl ?_
      obtain ⟨b3, hr⟩ := grd_some hr
      refine Ev.ial V (j := 2) rfl rfl (d29 9 rfl) b3 ?_
      refine Ev.ifge (t := 23) (d29 10 rfl) rfl (fun c4 => ?_) (fun c4 => ?_)
      · replace hr := (if_pos c4).symm.trans hr
        refine Ev.iconst (z := 0) (d29 11 rfl) rfl ?_
        cases hr
        exact Ev.ireturn rfl (d29 12 rfl)
      · replace hr := (if_neg c4).symm.trans hr
        refine Ev.aloadN (d29 13 rfl) rfl ?_
        refine Ev.gAr V (ww hw 26 rfl) (d29 14 rfl) (j := 8) rfl ?_
        refine Ev.iloadN (d29 15 rfl) rfl ?_
        refine Ev.ial V (j := 8) rfl rfl (d29 16 rfl) b3 ?_
        cases hr
        exact Ev.ireturn rfl (d29 17 rfl)
    · replace hr := (if_neg c2).symm.trans hr
      refine Ev.iconst (z := 0) (d29 11 rfl) rfl ?_
      cases hr
      exact Ev.ireturn rfl (d29 12 rfl)
def f_hothers_55 (n : Nat) (s : St) (k5 : Int32 → Int64 → Int32 → Option (Int64)) : Nat → Int32 → Int64 → Int32 → Int32 → Option (Int64)
  | 0 => fun _ _ _ _ => none
  | k + 1 => fun x1 x2 x4 x5 =>
    if x5 < (8 : Int32) then
      (f_frameOf s x4 x5).bind fun q2 =>
      bnd ((x2 * (1000003 : Int64)) + (q2).toInt64) fun v4 =>
      (f_diskValue s x4 x5).bind fun q5 =>
      bnd ((v4 * (1000003 : Int64)) + (q5).toInt64) fun v7 =>
      if q2 < 0 then
        f_hothers_55 n s k5 k x1 v7 x4 (x5 + (1 : Int32))
      else
        (f_frameInfo s q2).bind fun q9 =>
        bnd ((v7 * (1000003 : Int64)) + (q9).toInt64) fun v11 =>
        (f_lastUse s q2).bind fun q12 =>
        bnd ((v11 * (1000003 : Int64)) + (q12).toInt64) fun v14 =>
        (f_dueTime s q2).bind fun q15 =>
        bnd ((v14 * (1000003 : Int64)) + (q15).toInt64) fun v17 =>
        f_hothers_55 n s k5 k x1 v17 x4 (x5 + (1 : Int32))
    else
      k5 x1 x2 (x4 + (1 : Int32))
set_option maxRecDepth 100000 in
theorem e_hothers_55 {g : GT} {n : Nat} {s : St} (hw : HW g) {K : St → MHeap} {o : Nat} {r : Nat → Nat} (V : View (GG g) Ln K o r) {k5 : Int32 → Int64 → Int32 → Option (Int64)} (hk5 : ∀ (x1 : Int32) (x2 : Int64) (x4 : Int32) (y5 : Slot) (hy5 : one1 y5 = true) (y6 : Slot) (hy6 : one1 y6 = true) (w : Int64), k5 x1 x2 x4 = some w → Ev (GG g) M_hothers 5 [.val (.ref o), .val (.int x1), .val (.long x2), .second, .val (.int x4), y5, y6] [] (K s) ((some (.long w)), (K s))) (k : Nat) : ∀ (x1 : Int32) (x2 : Int64) (x4 : Int32) (x5 : Int32) (y6 : Slot) (hy6 : one1 y6 = true) (w : Int64), f_hothers_55 n s k5 k x1 x2 x4 x5 = some w → Ev (GG g) M_hothers 55 [.val (.ref o), .val (.int x1), .val (.long x2), .second, .val (.int x4), .val (.int x5), y6] [] (K s) ((some (.long w)), (K s)) := by
  induction k with
  | zero => intro x1 x2 x4 x5 y6 hy6 w hr; rw [f_hothers_55] at hr; cases hr
  | succ k ih =>
    intro x1 x2 x4 x5 y6 hy6 w hr
    rw [f_hothers_55] at hr
    refine Ev.iload (d16 30 rfl) rfl ?_
    refine Ev.bipush (z := 8) (d16 31 rfl) rfl ?_
    refine Ev.icge (t := 151) (d16 32 rfl) rfl (fun c1 => ?_) (fun c1 => ?_)
    · replace hr := (if_pos c1).symm.trans hr
      refine Ev.aloadN (d16 33 rfl) rfl ?_
      refine Ev.iload (d16 34 rfl) rfl ?_
      refine Ev.iload (d16 35 rfl) rfl ?_
      obtain ⟨q2, hq3, hr⟩ := Option.bind_eq_some_iff.mp hr
      refine Ev.virt (y := M_frameOf) (args := [.int x4, .int x5]) (rest := []) (gok hw) rfl nm_frameOf (ww hw 114 rfl) (ww hw 115 rfl) (ww hw 116 rfl) (ww hw 117 rfl) (ww hw 118 rfl) (lenOf pd_frameOf rfl) (d16 36 rfl) (V.2.1 s) (e_frameOf hw V hq3) (by decide) (Nat.le_of_ble_eq_true rfl) rfl ?_
      refine Ev.istD (L' := [.val (.ref o), .val (.int x1), .val (.long x2), .second, .val (.int x4), .val (.int x5), .val (.int q2)]) (d16 37 rfl) rfl hy6 rfl ?_
      refine Ev.lloadN (d16 38 rfl) rfl ?_
      refine Ev.ldcL (ww hw 122 rfl) (d16 39 rfl) ?_
      refine Ev.lmul (d16 40 rfl) ?_
      refine Ev.iload (d16 41 rfl) rfl ?_
      refine Ev.i2l (d16 42 rfl) ?_
      refine Ev.ladd (d16 43 rfl) ?_
      revert hr
      generalize ((x2 * (1000003 : Int64)) + (q2).toInt64) = v4
      intro hr
      replace hr := (bnd_eq _ _).symm.trans hr
      refine Ev.lstDN (L' := [.val (.ref o), .val (.int x1), .val (.long v4), .second, .val (.int x4), .val (.int x5), .val (.int q2)]) (d16 44 rfl) rfl rfl (Or.inr ⟨_, rfl, rfl⟩) rfl ?_
      refine Ev.lloadN (d16 45 rfl) rfl ?_
      refine Ev.ldcL (ww hw 122 rfl) (d16 46 rfl) ?_
      refine Ev.lmul (d16 47 rfl) ?_
      refine Ev.aloadN (d16 48 rfl) rfl ?_
      refine Ev.iload (d16 49 rfl) rfl ?_
      refine Ev.iload (d16 50 rfl) rfl ?_
      obtain ⟨q5, hq6, hr⟩ := Option.bind_eq_some_iff.mp hr
      refine Ev.virt (y := M_diskValue) (args := [.int x4, .int x5]) (rest := [.long (v4 * (1000003 : Int64))]) (gok hw) rfl nm_diskValue (ww hw 123 rfl) (ww hw 124 rfl) (ww hw 125 rfl) (ww hw 126 rfl) (ww hw 127 rfl) (lenOf pd_diskValue rfl) (d16 51 rfl) (V.2.1 s) (e_diskValue hw V hq6) (by decide) (Nat.le_of_ble_eq_true rfl) rfl ?_
      refine Ev.i2l (d16 52 rfl) ?_
      refine Ev.ladd (d16 53 rfl) ?_
      revert hr
      generalize ((v4 * (1000003 : Int64)) + (q5).toInt64) = v7
      intro hr
      replace hr := (bnd_eq _ _).symm.trans hr
      refine Ev.lstDN (L' := [.val (.ref o), .val (.int x1), .val (.long v7), .second, .val (.int x4), .val (.int x5), .val (.int q2)]) (d16 54 rfl) rfl rfl (Or.inr ⟨_, rfl, rfl⟩) rfl ?_
      refine Ev.iload (d16 55 rfl) rfl ?_
      refine Ev.iflt (t := 145) (d16 56 rfl) rfl (fun c8 => ?_) (fun c8 => ?_)
      · replace hr := (if_pos c8).symm.trans hr
        refine Ev.iinc (z := 1) (L' := [.val (.ref o), .val (.int x1), .val (.long v7), .second, .val (.int x4), .val (.int (x5 + (1 : Int32))), .val (.int q2)]) (d16 84 rfl) rfl rfl rfl ?_
        refine Ev.goto (t := 55) (d16 85 rfl) rfl ?_
        exact ih x1 v7 x4 (x5 + (1 : Int32)) (.val (.int q2)) rfl _ hr
      · replace hr := (if_neg c8).symm.trans hr
        refine Ev.lloadN (d16 57 rfl) rfl ?_
        refine Ev.ldcL (ww hw 122 rfl) (d16 58 rfl) ?_
        refine Ev.lmul (d16 59 rfl) ?_
        refine Ev.aloadN (d16 60 rfl) rfl ?_
        refine Ev.iload (d16 61 rfl) rfl ?_
        obtain ⟨q9, hq10, hr⟩ := Option.bind_eq_some_iff.mp hr
        refine Ev.virt (y := M_frameInfo) (args := [.int q2]) (rest := [.long (v7 * (1000003 : Int64))]) (gok hw) rfl nm_frameInfo (ww hw 169 rfl) (ww hw 170 rfl) (ww hw 171 rfl) (ww hw 172 rfl) (ww hw 173 rfl) (lenOf pd_frameInfo rfl) (d16 62 rfl) (V.2.1 s) (e_frameInfo hw V hq10) (by decide) (Nat.le_of_ble_eq_true rfl) rfl ?_
        refine Ev.i2l (d16 63 rfl) ?_
        refine Ev.ladd (d16 64 rfl) ?_
        revert hr
        generalize ((v7 * (1000003 : Int64)) + (q9).toInt64) = v11
        intro hr
        replace hr := (bnd_eq _ _).symm.trans hr
        refine Ev.lstDN (L' := [.val (.ref o), .val (.int x1), .val (.long v11), .second, .val (.int x4), .val (.int x5), .val (.int q2)]) (d16 65 rfl) rfl rfl (Or.inr ⟨_, rfl, rfl⟩) rfl ?_
        refine Ev.lloadN (d16 66 rfl) rfl ?_
        refine Ev.ldcL (ww hw 122 rfl) (d16 67 rfl) ?_
        refine Ev.lmul (d16 68 rfl) ?_
        refine Ev.aloadN (d16 69 rfl) rfl ?_
        refine Ev.iload (d16 70 rfl) rfl ?_
        obtain ⟨q12, hq13, hr⟩ := Option.bind_eq_some_iff.mp hr
        refine Ev.virt (y := M_lastUse) (args := [.int q2]) (rest := [.long (v11 * (1000003 : Int64))]) (gok hw) rfl nm_lastUse (ww hw 174 rfl) (ww hw 175 rfl) (ww hw 176 rfl) (ww hw 177 rfl) (ww hw 178 rfl) (lenOf pd_lastUse rfl) (d16 71 rfl) (V.2.1 s) (e_lastUse hw V hq13) (by decide) (Nat.le_of_ble_eq_true rfl) rfl ?_
        refine Ev.i2l (d16 72 rfl) ?_
        refine Ev.ladd (d16 73 rfl) ?_
        revert hr
        generalize ((v11 * (1000003 : Int64)) + (q12).toInt64) = v14
        intro hr
        replace hr := (bnd_eq _ _).symm.trans hr
        refine Ev.lstDN (L' := [.val (.ref o), .val (.int x1), .val (.long v14), .second, .val (.int x4), .val (.int x5), .val (.int q2)]) (d16 74 rfl) rfl rfl (Or.inr ⟨_, rfl, rfl⟩) rfl ?_
        refine Ev.lloadN (d16 75 rfl) rfl ?_
        refine Ev.ldcL (ww hw 122 rfl) (d16 76 rfl) ?_
        refine Ev.lmul (d16 77 rfl) ?_
        refine Ev.aloadN (d16 78 rfl) rfl ?_
        refine Ev.iload (d16 79 rfl) rfl ?_
        obtain ⟨q15, hq16, hr⟩ := Option.bind_eq_some_iff.mp hr
        refine Ev.virt (y := M_dueTime) (args := [.int q2]) (rest := [.long (v14 * (1000003 : Int64))]) (gok hw) rfl nm_dueTime (ww hw 179 rfl) (ww hw 180 rfl) (ww hw 181 rfl) (ww hw 182 rfl) (ww hw 183 rfl) (lenOf pd_dueTime rfl) (d16 80 rfl) (V.2.1 s) (e_dueTime hw V hq16) (by decide) (Nat.le_of_ble_eq_true rfl) rfl ?_
        refine Ev.i2l (d16 81 rfl) ?_
        refine Ev.ladd (d16 82 rfl) ?_
        revert hr
        generalize ((v14 * (1000003 : Int64)) + (q15).toInt64) = v17
        intro hr
        replace hr := (bnd_eq _ _).symm.trans hr
        refine Ev.lstDN (L' := [.val (.ref o), .val (.int x1), .val (.long v17), .second, .val (.int x4), .val (.int x5), .val (.int q2)]) (d16 83 rfl) rfl rfl (Or.inr ⟨_, rfl, rfl⟩) rfl ?_
        refine Ev.iinc (z := 1) (L' := [.val (.ref o), .val (.int x1), .val (.long v17), .second, .val (.int x4), .val (.int (x5 + (1 : Int32))), .val (.int q2)]) (d16 84 rfl) rfl rfl rfl ?_
        refine Ev.goto (t := 55) (d16 85 rfl) rfl ?_
        exact ih x1 v17 x4 (x5 + (1 : Int32)) (.val (.int q2)) rfl _ hr
    · replace hr := (if_neg c1).symm.trans hr
      refine Ev.iinc (z := 1) (L' := [.val (.ref o), .val (.int x1), .val (.long x2), .second, .val (.int (x4 + (1 : Int32))), .val (.int x5), y6]) (d16 86 rfl) rfl rfl rfl ?_
      refine Ev.goto (t := 5) (d16 87 rfl) rfl ?_
      exact hk5 x1 x2 (x4 + (1 : Int32)) (.val (.int x5)) rfl y6 hy6 _ hr
def f_hothers_23 (n : Nat) (s : St) (k5 : Int32 → Int64 → Int32 → Option (Int64)) : Nat → Int32 → Int64 → Int32 → Int32 → Option (Int64)
  | 0 => fun _ _ _ _ => none
  | k + 1 => fun x1 x2 x4 x5 =>
    if x5 < (6 : Int32) then
      (f_procInfo s x4 x5).bind fun q2 =>
      bnd ((x2 * (1000003 : Int64)) + (q2).toInt64) fun v4 =>
      f_hothers_23 n s k5 k x1 v4 x4 (x5 + (1 : Int32))
    else
      f_hothers_55 n s k5 n x1 x2 x4 (0 : Int32)
set_option maxRecDepth 100000 in
theorem e_hothers_23 {g : GT} {n : Nat} {s : St} (hw : HW g) {K : St → MHeap} {o : Nat} {r : Nat → Nat} (V : View (GG g) Ln K o r) {k5 : Int32 → Int64 → Int32 → Option (Int64)} (hk5 : ∀ (x1 : Int32) (x2 : Int64) (x4 : Int32) (y5 : Slot) (hy5 : one1 y5 = true) (y6 : Slot) (hy6 : one1 y6 = true) (w : Int64), k5 x1 x2 x4 = some w → Ev (GG g) M_hothers 5 [.val (.ref o), .val (.int x1), .val (.long x2), .second, .val (.int x4), y5, y6] [] (K s) ((some (.long w)), (K s))) (k : Nat) : ∀ (x1 : Int32) (x2 : Int64) (x4 : Int32) (x5 : Int32) (y6 : Slot) (hy6 : one1 y6 = true) (w : Int64), f_hothers_23 n s k5 k x1 x2 x4 x5 = some w → Ev (GG g) M_hothers 23 [.val (.ref o), .val (.int x1), .val (.long x2), .second, .val (.int x4), .val (.int x5), y6] [] (K s) ((some (.long w)), (K s)) := by
  induction k with
  | zero => intro x1 x2 x4 x5 y6 hy6 w hr; rw [f_hothers_23] at hr; cases hr
  | succ k ih =>
    intro x1 x2 x4 x5 y6 hy6 w hr
    rw [f_hothers_23] at hr
    refine Ev.iload (d16 13 rfl) rfl ?_
    refine Ev.bipush (z := 6) (d16 14 rfl) rfl ?_
    refine Ev.icge (t := 52) (d16 15 rfl) rfl (fun c1 => ?_) (fun c1 => ?_)
    · replace hr := (if_pos c1).symm.trans hr
      refine Ev.lloadN (d16 16 rfl) rfl ?_
      refine Ev.ldcL (ww hw 122 rfl) (d16 17 rfl) ?_
      refine Ev.lmul (d16 18 rfl) ?_
      refine Ev.aloadN (d16 19 rfl) rfl ?_
      refine Ev.iload (d16 20 rfl) rfl ?_
      refine Ev.iload (d16 21 rfl) rfl ?_
      obtain ⟨q2, hq3, hr⟩ := Option.bind_eq_some_iff.mp hr
      refine Ev.virt (y := M_procInfo) (args := [.int x4, .int x5]) (rest := [.long (x2 * (1000003 : Int64))]) (gok hw) rfl nm_procInfo (ww hw 109 rfl) (ww hw 110 rfl) (ww hw 111 rfl) (ww hw 112 rfl) (ww hw 113 rfl) (lenOf pd_procInfo rfl) (d16 22 rfl) (V.2.1 s) (e_procInfo hw V hq3) (by decide) (Nat.le_of_ble_eq_true rfl) rfl ?_
      refine Ev.i2l (d16 23 rfl) ?_
      refine Ev.ladd (d16 24 rfl) ?_
      revert hr
      generalize ((x2 * (1000003 : Int64)) + (q2).toInt64) = v4
      intro hr
      replace hr := (bnd_eq _ _).symm.trans hr
      refine Ev.lstDN (L' := [.val (.ref o), .val (.int x1), .val (.long v4), .second, .val (.int x4), .val (.int x5), y6]) (d16 25 rfl) rfl rfl (Or.inr ⟨_, rfl, rfl⟩) rfl ?_
      refine Ev.iinc (z := 1) (L' := [.val (.ref o), .val (.int x1), .val (.long v4), .second, .val (.int x4), .val (.int (x5 + (1 : Int32))), y6]) (d16 26 rfl) rfl rfl rfl ?_
      refine Ev.goto (t := 23) (d16 27 rfl) rfl ?_
      exact ih x1 v4 x4 (x5 + (1 : Int32)) y6 hy6 _ hr
    · replace hr := (if_neg c1).symm.trans hr
      refine Ev.iconst (z := 0) (d16 28 rfl) rfl ?_
      refine Ev.istD (L' := [.val (.ref o), .val (.int x1), .val (.long x2), .second, .val (.int x4), .val (.int (0 : Int32)), y6]) (d16 29 rfl) rfl rfl rfl ?_
      exact e_hothers_55 hw V hk5 n x1 x2 x4 (0 : Int32) y6 hy6 _ hr
def f_hothers_5 (n : Nat) (s : St) : Nat → Int32 → Int64 → Int32 → Option (Int64)
  | 0 => fun _ _ _ => none
  | k + 1 => fun x1 x2 x4 =>
    if x4 < (4 : Int32) then
      if x4 = x1 then
        f_hothers_5 n s k x1 x2 (x4 + (1 : Int32))
      else
        f_hothers_23 n s (f_hothers_5 n s k) n x1 x2 x4 (0 : Int32)
    else
      some x2
set_option maxRecDepth 100000 in
theorem e_hothers_5 {g : GT} {n : Nat} {s : St} (hw : HW g) {K : St → MHeap} {o : Nat} {r : Nat → Nat} (V : View (GG g) Ln K o r) (k : Nat) : ∀ (x1 : Int32) (x2 : Int64) (x4 : Int32) (y5 : Slot) (hy5 : one1 y5 = true) (y6 : Slot) (hy6 : one1 y6 = true) (w : Int64), f_hothers_5 n s k x1 x2 x4 = some w → Ev (GG g) M_hothers 5 [.val (.ref o), .val (.int x1), .val (.long x2), .second, .val (.int x4), y5, y6] [] (K s) ((some (.long w)), (K s)) := by
  induction k with
  | zero => intro x1 x2 x4 y5 hy5 y6 hy6 w hr; rw [f_hothers_5] at hr; cases hr
  | succ k ih =>
    intro x1 x2 x4 y5 hy5 y6 hy6 w hr
    rw [f_hothers_5] at hr
    refine Ev.iload (d16 4 rfl) rfl ?_
    refine Ev.iconst (z := 4) (d16 5 rfl) rfl ?_
    refine Ev.icge (t := 157) (d16 6 rfl) rfl (fun c1 => ?_) (fun c1 => ?_)
    · replace hr := (if_pos c1).symm.trans hr
      refine Ev.iload (d16 7 rfl) rfl ?_
      refine Ev.iloadN (d16 8 rfl) rfl ?_
      refine Ev.icne (t := 20) (d16 9 rfl) rfl (fun c2 => ?_) (fun c2 => ?_)
      · replace hr := (if_pos c2).symm.trans hr
        refine Ev.goto (t := 151) (d16 10 rfl) rfl ?_
        refine Ev.iinc (z := 1) (L' := [.val (.ref o), .val (.int x1), .val (.long x2), .second, .val (.int (x4 + (1 : Int32))), y5, y6]) (d16 86 rfl) rfl rfl rfl ?_
        refine Ev.goto (t := 5) (d16 87 rfl) rfl ?_
        exact ih x1 x2 (x4 + (1 : Int32)) y5 hy5 y6 hy6 _ hr
      · replace hr := (if_neg c2).symm.trans hr
        refine Ev.iconst (z := 0) (d16 11 rfl) rfl ?_
        refine Ev.istD (L' := [.val (.ref o), .val (.int x1), .val (.long x2), .second, .val (.int x4), .val (.int (0 : Int32)), y6]) (d16 12 rfl) rfl hy5 rfl ?_
        exact e_hothers_23 hw V ih n x1 x2 x4 (0 : Int32) y6 hy6 _ hr
    · replace hr := (if_neg c1).symm.trans hr
      refine Ev.lloadN (d16 88 rfl) rfl ?_
      cases hr
      exact Ev.lreturn rfl (d16 89 rfl)
def f_hothers (n : Nat) (s : St) (a1 : Int32) : Option (Int64) :=
  f_hothers_5 n s n a1 (0 : Int64) (0 : Int32)
set_option maxRecDepth 100000 in
theorem e_hothers {g : GT} {n : Nat} {s : St} {a1 : Int32} {w : Int64} (hw : HW g) {K : St → MHeap} {o : Nat} {r : Nat → Nat} (V : View (GG g) Ln K o r) (hr : f_hothers n s a1 = some w) : EvC (GG g) M_hothers [.ref o, .int a1] (K s) ((some (.long w)), (K s)) := by
  refine EvC.enter (L0 := [.val (.ref o), .val (.int a1), .unset, .unset, .unset, .unset, .unset]) pl_hothers (fun h => nomatch h) rfl rfl ?_
  unfold f_hothers at hr
  refine Ev.lconst (z := 0) (d16 0 rfl) rfl ?_
  refine Ev.lstDN (L' := [.val (.ref o), .val (.int a1), .val (.long (0 : Int64)), .second, .unset, .unset, .unset]) (d16 1 rfl) rfl rfl (Or.inl ⟨rfl, rfl⟩) rfl ?_
  refine Ev.iconst (z := 0) (d16 2 rfl) rfl ?_
  refine Ev.istD (L' := [.val (.ref o), .val (.int a1), .val (.long (0 : Int64)), .second, .val (.int (0 : Int32)), .unset, .unset]) (d16 3 rfl) rfl rfl rfl ?_
  exact e_hothers_5 hw V  n a1 (0 : Int64) (0 : Int32) .unset rfl .unset rfl _ hr
def f_hand (s : St) : Option (Int32) :=
  some (s.1 20)
set_option maxRecDepth 100000 in
theorem e_hand {g : GT} {s : St} {w : Int32} (hw : HW g) {K : St → MHeap} {o : Nat} {r : Nat → Nat} (V : View (GG g) Ln K o r) (hr : f_hand s = some w) : EvC (GG g) M_hand [.ref o] (K s) ((some (.int w)), (K s)) := by
  refine EvC.enter (L0 := [.val (.ref o)]) pl_hand (fun h => nomatch h) rfl rfl ?_
  unfold f_hand at hr
  refine Ev.aloadN (d18 0 rfl) rfl ?_
  refine Ev.gI V (ww hw 77 rfl) (d18 1 rfl) (j := 20) rfl rfl ?_
  cases hr
  exact Ev.ireturn rfl (d18 2 rfl)
def f_now (s : St) : Option (Int32) :=
  some (s.1 19)
set_option maxRecDepth 100000 in
theorem e_now {g : GT} {s : St} {w : Int32} (hw : HW g) {K : St → MHeap} {o : Nat} {r : Nat → Nat} (V : View (GG g) Ln K o r) (hr : f_now s = some w) : EvC (GG g) M_now [.ref o] (K s) ((some (.int w)), (K s)) := by
  refine EvC.enter (L0 := [.val (.ref o)]) pl_now (fun h => nomatch h) rfl rfl ?_
  unfold f_now at hr
  refine Ev.aloadN (d19 0 rfl) rfl ?_
  refine Ev.gI V (ww hw 58 rfl) (d19 1 rfl) (j := 19) rfl rfl ?_
  cases hr
  exact Ev.ireturn rfl (d19 2 rfl)
def f_lastStatus (s : St) : Option (Int32) :=
  some (s.1 22)
set_option maxRecDepth 100000 in
theorem e_lastStatus {g : GT} {s : St} {w : Int32} (hw : HW g) {K : St → MHeap} {o : Nat} {r : Nat → Nat} (V : View (GG g) Ln K o r) (hr : f_lastStatus s = some w) : EvC (GG g) M_lastStatus [.ref o] (K s) ((some (.int w)), (K s)) := by
  refine EvC.enter (L0 := [.val (.ref o)]) pl_lastStatus (fun h => nomatch h) rfl rfl ?_
  unfold f_lastStatus at hr
  refine Ev.aloadN (d20 0 rfl) rfl ?_
  refine Ev.gI V (ww hw 85 rfl) (d20 1 rfl) (j := 22) rfl rfl ?_
  cases hr
  exact Ev.ireturn rfl (d20 2 rfl)
def f_hroundTrip_372 (n : Nat) : Nat → Int32 → Int32 → Int64 → Int64 → Int64 → Int32 → St → Option (Int32 × St)
  | 0 => fun _ _ _ _ _ _ _ => none
  | k + 1 => fun x1 x2 x3 x14 x16 x18 s =>
    if x18 < (8 : Int32) then
      if ((x2 >>> (x18 &&& 31)) &&& (1 : Int32)) = 0 then
        f_hroundTrip_372 n k x1 x2 x3 x14 x16 (x18 + (1 : Int32)) s
      else
        (f_diskValue s x1 x18).bind fun q3 =>
        (f_read n x1 x18 s).bind fun q5 =>
        bnd ((x14 * (1000003 : Int64)) + (q3).toInt64) fun v7 =>
        bnd ((x16 * (1000003 : Int64)) + (q5.1).toInt64) fun v8 =>
        f_hroundTrip_372 n k x1 x2 x3 v7 v8 (x18 + (1 : Int32)) q5.2
    else
      if (XT.cmpL x14 x3) = 0 then
        if (XT.cmpL x16 x3) = 0 then
          some ((1 : Int32), s)
        else
          some ((0 : Int32), s)
      else
        some ((0 : Int32), s)
set_option maxRecDepth 100000 in
theorem e_hroundTrip_372 {g : GT} {n : Nat} (hw : HW g) {K : St → MHeap} {o : Nat} {r : Nat → Nat} (V : View (GG g) Ln K o r) (k : Nat) : ∀ (x1 : Int32) (x2 : Int32) (x3 : Int64) (x14 : Int64) (x16 : Int64) (x18 : Int32) (s : St) (y5 y6 : Slot) (hy5 : two2 y5 y6) (y7 : Slot) (hy7 : one1 y7 = true) (y8 : Slot) (hy8 : one1 y8 = true) (y9 : Slot) (hy9 : one1 y9 = true) (y10 : Slot) (hy10 : one1 y10 = true) (y11 : Slot) (hy11 : one1 y11 = true) (y12 : Slot) (hy12 : one1 y12 = true) (y13 : Slot) (hy13 : one1 y13 = true) (y19 : Slot) (hy19 : one1 y19 = true) (y20 : Slot) (hy20 : one1 y20 = true) (w : Int32 × St), f_hroundTrip_372 n k x1 x2 x3 x14 x16 x18 s = some w → Ev (GG g) M_hroundTrip 372 [.val (.ref o), .val (.int x1), .val (.int x2), .val (.long x3), .second, y5, y6, y7, y8, y9, y10, y11, y12, y13, .val (.long x14), .second, .val (.long x16), .second, .val (.int x18), y19, y20] [] (K s) ((some (.int w.1)), (K w.2)) := by
  induction k with
  | zero => intro x1 x2 x3 x14 x16 x18 s y5 y6 hy5 y7 hy7 y8 hy8 y9 hy9 y10 hy10 y11 hy11 y12 hy12 y13 hy13 y19 hy19 y20 hy20 w hr; rw [f_hroundTrip_372] at hr; cases hr
  | succ k ih =>
    intro x1 x2 x3 x14 x16 x18 s y5 y6 hy5 y7 hy7 y8 hy8 y9 hy9 y10 hy10 y11 hy11 y12 hy12 y13 hy13 y19 hy19 y20 hy20 w hr
    rw [f_hroundTrip_372] at hr
    refine Ev.iload (d13 212 rfl) rfl ?_
    refine Ev.bipush (z := 8) (d13 213 rfl) rfl ?_
    refine Ev.icge (t := 439) (d13 214 rfl) rfl (fun c1 => ?_) (fun c1 => ?_)
    · replace hr := (if_pos c1).symm.trans hr
      refine Ev.iloadN (d13 215 rfl) rfl ?_
      refine Ev.iload (d13 216 rfl) rfl ?_
      refine Ev.ishr (d13 217 rfl) ?_
      refine Ev.iconst (z := 1) (d13 218 rfl) rfl ?_
      refine Ev.iand (d13 219 rfl) ?_
      refine Ev.ifne (t := 391) (d13 220 rfl) rfl (fun c2 => ?_) (fun c2 => ?_)
      · replace hr := (if_pos c2).symm.trans hr
        refine Ev.goto (t := 433) (d13 221 rfl) rfl ?_
        refine Ev.iinc (z := 1) (L' := [.val (.ref o), .val (.int x1), .val (.int x2), .val (.long x3), .second, y5, y6, y7, y8, y9, y10, y11, y12, y13, .val (.long x14), .second, .val (.long x16), .second, .val (.int (x18 + (1 : Int32))), y19, y20]) (d13 246 rfl) rfl rfl rfl ?_
        refine Ev.goto (t := 372) (d13 247 rfl) rfl ?_
        exact ih x1 x2 x3 x14 x16 (x18 + (1 : Int32)) s y5 y6 hy5 y7 hy7 y8 hy8 y9 hy9 y10 hy10 y11 hy11 y12 hy12 y13 hy13 y19 hy19 y20 hy20 _ hr
      · replace hr := (if_neg c2).symm.trans hr
        refine Ev.aloadN (d13 222 rfl) rfl ?_
        refine Ev.iloadN (d13 223 rfl) rfl ?_
        refine Ev.iload (d13 224 rfl) rfl ?_
        obtain ⟨q3, hq4, hr⟩ := Option.bind_eq_some_iff.mp hr
        refine Ev.virt (y := M_diskValue) (args := [.int x1, .int x18]) (rest := []) (gok hw) rfl nm_diskValue (ww hw 123 rfl) (ww hw 124 rfl) (ww hw 125 rfl) (ww hw 126 rfl) (ww hw 127 rfl) (lenOf pd_diskValue rfl) (d13 225 rfl) (V.2.1 s) (e_diskValue hw V hq4) (by decide) (Nat.le_of_ble_eq_true rfl) rfl ?_
        refine Ev.istD (L' := [.val (.ref o), .val (.int x1), .val (.int x2), .val (.long x3), .second, y5, y6, y7, y8, y9, y10, y11, y12, y13, .val (.long x14), .second, .val (.long x16), .second, .val (.int x18), .val (.int q3), y20]) (d13 226 rfl) rfl hy19 rfl ?_
        refine Ev.aloadN (d13 227 rfl) rfl ?_
        refine Ev.iloadN (d13 228 rfl) rfl ?_
        refine Ev.iload (d13 229 rfl) rfl ?_
        obtain ⟨q5, hq6, hr⟩ := Option.bind_eq_some_iff.mp hr
        refine Ev.virt (y := M_read) (args := [.int x1, .int x18]) (rest := []) (gok hw) rfl nm_read (ww hw 87 rfl) (ww hw 88 rfl) (ww hw 89 rfl) (ww hw 90 rfl) (ww hw 91 rfl) (lenOf pd_read rfl) (d13 230 rfl) (V.2.1 s) (e_read hw V hq6) (by decide) (Nat.le_of_ble_eq_true rfl) rfl ?_
        refine Ev.istD (L' := [.val (.ref o), .val (.int x1), .val (.int x2), .val (.long x3), .second, y5, y6, y7, y8, y9, y10, y11, y12, y13, .val (.long x14), .second, .val (.long x16), .second, .val (.int x18), .val (.int q3), .val (.int q5.1)]) (d13 231 rfl) rfl hy20 rfl ?_
        refine Ev.lload (d13 232 rfl) rfl ?_
        refine Ev.ldcL (ww hw 122 rfl) (d13 233 rfl) ?_
        refine Ev.lmul (d13 234 rfl) ?_
        refine Ev.iload (d13 235 rfl) rfl ?_
        refine Ev.i2l (d13 236 rfl) ?_
        refine Ev.ladd (d13 237 rfl) ?_
        revert hr
        generalize ((x14 * (1000003 : Int64)) + (q3).toInt64) = v7
        intro hr
        replace hr := (bnd_eq _ _).symm.trans hr
        refine Ev.lstD (L' := [.val (.ref o), .val (.int x1), .val (.int x2), .val (.long x3), .second, y5, y6, y7, y8, y9, y10, y11, y12, y13, .val (.long v7), .second, .val (.long x16), .second, .val (.int x18), .val (.int q3), .val (.int q5.1)]) (d13 238 rfl) rfl rfl (Or.inr ⟨_, rfl, rfl⟩) rfl ?_
        refine Ev.lload (d13 239 rfl) rfl ?_
        refine Ev.ldcL (ww hw 122 rfl) (d13 240 rfl) ?_
        refine Ev.lmul (d13 241 rfl) ?_
        refine Ev.iload (d13 242 rfl) rfl ?_
        refine Ev.i2l (d13 243 rfl) ?_
        refine Ev.ladd (d13 244 rfl) ?_
        revert hr
        generalize ((x16 * (1000003 : Int64)) + (q5.1).toInt64) = v8
        intro hr
        replace hr := (bnd_eq _ _).symm.trans hr
        refine Ev.lstD (L' := [.val (.ref o), .val (.int x1), .val (.int x2), .val (.long x3), .second, y5, y6, y7, y8, y9, y10, y11, y12, y13, .val (.long v7), .second, .val (.long v8), .second, .val (.int x18), .val (.int q3), .val (.int q5.1)]) (d13 245 rfl) rfl rfl (Or.inr ⟨_, rfl, rfl⟩) rfl ?_
        refine Ev.iinc (z := 1) (L' := [.val (.ref o), .val (.int x1), .val (.int x2), .val (.long x3), .second, y5, y6, y7, y8, y9, y10, y11, y12, y13, .val (.long v7), .second, .val (.long v8), .second, .val (.int (x18 + (1 : Int32))), .val (.int q3), .val (.int q5.1)]) (d13 246 rfl) rfl rfl rfl ?_
        refine Ev.goto (t := 372) (d13 247 rfl) rfl ?_
        exact ih x1 x2 x3 v7 v8 (x18 + (1 : Int32)) q5.2 y5 y6 hy5 y7 hy7 y8 hy8 y9 hy9 y10 hy10 y11 hy11 y12 hy12 y13 hy13 (.val (.int q3)) rfl (.val (.int q5.1)) rfl _ hr
    · replace hr := (if_neg c1).symm.trans hr
      refine Ev.lload (d13 248 rfl) rfl ?_
      refine Ev.lloadN (d13 249 rfl) rfl ?_
      refine Ev.lcmp (d13 250 rfl) ?_
      refine Ev.ifne (t := 457) (d13 251 rfl) rfl (fun c9 => ?_) (fun c9 => ?_)
      · replace hr := (if_pos c9).symm.trans hr
        refine Ev.lload (d13 252 rfl) rfl ?_
        refine Ev.lloadN (d13 253 rfl) rfl ?_
        refine Ev.lcmp (d13 254 rfl) ?_
        refine Ev.ifne (t := 457) (d13 255 rfl) rfl (fun c10 => ?_) (fun c10 => ?_)
        · replace hr := (if_pos c10).symm.trans hr
          refine Ev.iconst (z := 1) (d13 256 rfl) rfl ?_
          refine Ev.goto (t := 458) (d13 257 rfl) rfl ?_
          cases hr
          exact Ev.zret1 rfl (d13 259 rfl)
        · replace hr := (if_neg c10).symm.trans hr
          refine Ev.iconst (z := 0) (d13 258 rfl) rfl ?_
          cases hr
          exact Ev.zret0 rfl (d13 259 rfl)
      · replace hr := (if_neg c9).symm.trans hr
        refine Ev.iconst (z := 0) (d13 258 rfl) rfl ?_
        cases hr
        exact Ev.zret0 rfl (d13 259 rfl)
def f_hroundTrip_279 (n : Nat) : Nat → Int32 → Int32 → Int64 → Int32 → Int32 → St → Option (Int32 × St)
  | 0 => fun _ _ _ _ _ _ => none
  | k + 1 => fun x1 x2 x3 x7 x14 s =>
    if x14 < (8 : Int32) then
      (f_frameOf s x1 x14).bind fun q2 =>
      if ((x2 >>> (x14 &&& 31)) &&& (1 : Int32)) = 0 then
        if q2 < 0 then
          f_hroundTrip_279 n k x1 x2 x3 x7 (x14 + (1 : Int32)) s
        else
          some ((0 : Int32), s)
      else
        if q2 < 0 then
          some ((0 : Int32), s)
        else
          (f_frameInfo s q2).bind fun q7 =>
          if q7 = (((32 : Int32) + (x1 * (8 : Int32))) + x14) then
            (f_lastUse s q2).bind fun q10 =>
            if q10 = x7 then
              (f_dueTime s q2).bind fun q13 =>
              if q13 = 0 then
                f_hroundTrip_279 n k x1 x2 x3 x7 (x14 + (1 : Int32)) s
              else
                some ((0 : Int32), s)
            else
              some ((0 : Int32), s)
          else
            some ((0 : Int32), s)
    else
      f_hroundTrip_372 n n x1 x2 x3 (0 : Int64) (0 : Int64) (0 : Int32) s
set_option maxRecDepth 100000 in
theorem e_hroundTrip_279 {g : GT} {n : Nat} (hw : HW g) {K : St → MHeap} {o : Nat} {r : Nat → Nat} (V : View (GG g) Ln K o r) (k : Nat) : ∀ (x1 : Int32) (x2 : Int32) (x3 : Int64) (x7 : Int32) (x14 : Int32) (s : St) (y5 y6 : Slot) (hy5 : two2 y5 y6) (y8 : Slot) (hy8 : one1 y8 = true) (y9 : Slot) (hy9 : one1 y9 = true) (y10 : Slot) (hy10 : one1 y10 = true) (y11 : Slot) (hy11 : one1 y11 = true) (y12 : Slot) (hy12 : one1 y12 = true) (y13 : Slot) (hy13 : one1 y13 = true) (y15 : Slot) (hy15 : one1 y15 = true) (y16 : Slot) (hy16 : one1 y16 = true) (y17 : Slot) (hy17 : one1 y17 = true) (y18 : Slot) (hy18 : one1 y18 = true) (y19 : Slot) (hy19 : one1 y19 = true) (y20 : Slot) (hy20 : one1 y20 = true) (w : Int32 × St), f_hroundTrip_279 n k x1 x2 x3 x7 x14 s = some w → Ev (GG g) M_hroundTrip 279 [.val (.ref o), .val (.int x1), .val (.int x2), .val (.long x3), .second, y5, y6, .val (.int x7), y8, y9, y10, y11, y12, y13, .val (.int x14), y15, y16, y17, y18, y19, y20] [] (K s) ((some (.int w.1)), (K w.2)) := by
  induction k with
  | zero => intro x1 x2 x3 x7 x14 s y5 y6 hy5 y8 hy8 y9 hy9 y10 hy10 y11 hy11 y12 hy12 y13 hy13 y15 hy15 y16 hy16 y17 hy17 y18 hy18 y19 hy19 y20 hy20 w hr; rw [f_hroundTrip_279] at hr; cases hr
  | succ k ih =>
    intro x1 x2 x3 x7 x14 s y5 y6 hy5 y8 hy8 y9 hy9 y10 hy10 y11 hy11 y12 hy12 y13 hy13 y15 hy15 y16 hy16 y17 hy17 y18 hy18 y19 hy19 y20 hy20 w hr
    rw [f_hroundTrip_279] at hr
    refine Ev.iload (d13 162 rfl) rfl ?_
    refine Ev.bipush (z := 8) (d13 163 rfl) rfl ?_
    refine Ev.icge (t := 363) (d13 164 rfl) rfl (fun c1 => ?_) (fun c1 => ?_)
    · replace hr := (if_pos c1).symm.trans hr
      refine Ev.aloadN (d13 165 rfl) rfl ?_
      refine Ev.iloadN (d13 166 rfl) rfl ?_
      refine Ev.iload (d13 167 rfl) rfl ?_
      obtain ⟨q2, hq3, hr⟩ := Option.bind_eq_some_iff.mp hr
      refine Ev.virt (y := M_frameOf) (args := [.int x1, .int x14]) (rest := []) (gok hw) rfl nm_frameOf (ww hw 114 rfl) (ww hw 115 rfl) (ww hw 116 rfl) (ww hw 117 rfl) (ww hw 118 rfl) (lenOf pd_frameOf rfl) (d13 168 rfl) (V.2.1 s) (e_frameOf hw V hq3) (by decide) (Nat.le_of_ble_eq_true rfl) rfl ?_
      refine Ev.istD (L' := [.val (.ref o), .val (.int x1), .val (.int x2), .val (.long x3), .second, y5, y6, .val (.int x7), y8, y9, y10, y11, y12, y13, .val (.int x14), .val (.int q2), y16, y17, y18, y19, y20]) (d13 169 rfl) rfl hy15 rfl ?_
      refine Ev.iloadN (d13 170 rfl) rfl ?_
      refine Ev.iload (d13 171 rfl) rfl ?_
      refine Ev.ishr (d13 172 rfl) ?_
      refine Ev.iconst (z := 1) (d13 173 rfl) rfl ?_
      refine Ev.iand (d13 174 rfl) ?_
      refine Ev.ifne (t := 311) (d13 175 rfl) rfl (fun c4 => ?_) (fun c4 => ?_)
      · replace hr := (if_pos c4).symm.trans hr
        refine Ev.iload (d13 176 rfl) rfl ?_
        refine Ev.iflt (t := 357) (d13 177 rfl) rfl (fun c5 => ?_) (fun c5 => ?_)
        · replace hr := (if_pos c5).symm.trans hr
          refine Ev.iinc (z := 1) (L' := [.val (.ref o), .val (.int x1), .val (.int x2), .val (.long x3), .second, y5, y6, .val (.int x7), y8, y9, y10, y11, y12, y13, .val (.int (x14 + (1 : Int32))), .val (.int q2), y16, y17, y18, y19, y20]) (d13 204 rfl) rfl rfl rfl ?_
          refine Ev.goto (t := 279) (d13 205 rfl) rfl ?_
          exact ih x1 x2 x3 x7 (x14 + (1 : Int32)) s y5 y6 hy5 y8 hy8 y9 hy9 y10 hy10 y11 hy11 y12 hy12 y13 hy13 (.val (.int q2)) rfl y16 hy16 y17 hy17 y18 hy18 y19 hy19 y20 hy20 _ hr
        · replace hr := (if_neg c5).symm.trans hr
          refine Ev.iconst (z := 0) (d13 178 rfl) rfl ?_
          cases hr
          exact Ev.zret0 rfl (d13 179 rfl)
      · replace hr := (if_neg c4).symm.trans hr
        refine Ev.iload (d13 180 rfl) rfl ?_
        refine Ev.iflt (t := 355) (d13 181 rfl) rfl (fun c6 => ?_) (fun c6 => ?_)
        · replace hr := (if_pos c6).symm.trans hr
          refine Ev.iconst (z := 0) (d13 202 rfl) rfl ?_
          cases hr
          exact Ev.zret0 rfl (d13 203 rfl)
        · replace hr := (if_neg c6).symm.trans hr
          refine Ev.aloadN (d13 182 rfl) rfl ?_
          refine Ev.iload (d13 183 rfl) rfl ?_
          obtain ⟨q7, hq8, hr⟩ := Option.bind_eq_some_iff.mp hr
          refine Ev.virt (y := M_frameInfo) (args := [.int q2]) (rest := []) (gok hw) rfl nm_frameInfo (ww hw 169 rfl) (ww hw 170 rfl) (ww hw 171 rfl) (ww hw 172 rfl) (ww hw 173 rfl) (lenOf pd_frameInfo rfl) (d13 184 rfl) (V.2.1 s) (e_frameInfo hw V hq8) (by decide) (Nat.le_of_ble_eq_true rfl) rfl ?_
          refine Ev.bipush (z := 32) (d13 185 rfl) rfl ?_
          refine Ev.iloadN (d13 186 rfl) rfl ?_
          refine Ev.bipush (z := 8) (d13 187 rfl) rfl ?_
          refine Ev.imul (d13 188 rfl) ?_
          refine Ev.iadd (d13 189 rfl) ?_
          refine Ev.iload (d13 190 rfl) rfl ?_
          refine Ev.iadd (d13 191 rfl) ?_
          refine Ev.icne (t := 355) (d13 192 rfl) rfl (fun c9 => ?_) (fun c9 => ?_)
          · replace hr := (if_pos c9).symm.trans hr
            refine Ev.aloadN (d13 193 rfl) rfl ?_
            refine Ev.iload (d13 194 rfl) rfl ?_
            obtain ⟨q10, hq11, hr⟩ := Option.bind_eq_some_iff.mp hr
            refine Ev.virt (y := M_lastUse) (args := [.int q2]) (rest := []) (gok hw) rfl nm_lastUse (ww hw 174 rfl) (ww hw 175 rfl) (ww hw 176 rfl) (ww hw 177 rfl) (ww hw 178 rfl) (lenOf pd_lastUse rfl) (d13 195 rfl) (V.2.1 s) (e_lastUse hw V hq11) (by decide) (Nat.le_of_ble_eq_true rfl) rfl ?_
            refine Ev.iload (d13 196 rfl) rfl ?_
            refine Ev.icne (t := 355) (d13 197 rfl) rfl (fun c12 => ?_) (fun c12 => ?_)
            · replace hr := (if_pos c12).symm.trans hr
              refine Ev.aloadN (d13 198 rfl) rfl ?_
              refine Ev.iload (d13 199 rfl) rfl ?_
              obtain ⟨q13, hq14, hr⟩ := Option.bind_eq_some_iff.mp hr
              refine Ev.virt (y := M_dueTime) (args := [.int q2]) (rest := []) (gok hw) rfl nm_dueTime (ww hw 179 rfl) (ww hw 180 rfl) (ww hw 181 rfl) (ww hw 182 rfl) (ww hw 183 rfl) (lenOf pd_dueTime rfl) (d13 200 rfl) (V.2.1 s) (e_dueTime hw V hq14) (by decide) (Nat.le_of_ble_eq_true rfl) rfl ?_
              refine Ev.ifeq (t := 357) (d13 201 rfl) rfl (fun c15 => ?_) (fun c15 => ?_)
              · replace hr := (if_pos c15).symm.trans hr
                refine Ev.iinc (z := 1) (L' := [.val (.ref o), .val (.int x1), .val (.int x2), .val (.long x3), .second, y5, y6, .val (.int x7), y8, y9, y10, y11, y12, y13, .val (.int (x14 + (1 : Int32))), .val (.int q2), y16, y17, y18, y19, y20]) (d13 204 rfl) rfl rfl rfl ?_
                refine Ev.goto (t := 279) (d13 205 rfl) rfl ?_
                exact ih x1 x2 x3 x7 (x14 + (1 : Int32)) s y5 y6 hy5 y8 hy8 y9 hy9 y10 hy10 y11 hy11 y12 hy12 y13 hy13 (.val (.int q2)) rfl y16 hy16 y17 hy17 y18 hy18 y19 hy19 y20 hy20 _ hr
              · replace hr := (if_neg c15).symm.trans hr
                refine Ev.iconst (z := 0) (d13 202 rfl) rfl ?_
                cases hr
                exact Ev.zret0 rfl (d13 203 rfl)
            · replace hr := (if_neg c12).symm.trans hr
              refine Ev.iconst (z := 0) (d13 202 rfl) rfl ?_
              cases hr
              exact Ev.zret0 rfl (d13 203 rfl)
          · replace hr := (if_neg c9).symm.trans hr
            refine Ev.iconst (z := 0) (d13 202 rfl) rfl ?_
            cases hr
            exact Ev.zret0 rfl (d13 203 rfl)
    · replace hr := (if_neg c1).symm.trans hr
      refine Ev.lconst (z := 0) (d13 206 rfl) rfl ?_
      refine Ev.lstD (L' := [.val (.ref o), .val (.int x1), .val (.int x2), .val (.long x3), .second, y5, y6, .val (.int x7), y8, y9, y10, y11, y12, y13, .val (.long (0 : Int64)), .second, y16, y17, y18, y19, y20]) (d13 207 rfl) rfl rfl (Or.inl ⟨rfl, hy15⟩) rfl ?_
      refine Ev.lconst (z := 0) (d13 208 rfl) rfl ?_
      refine Ev.lstD (L' := [.val (.ref o), .val (.int x1), .val (.int x2), .val (.long x3), .second, y5, y6, .val (.int x7), y8, y9, y10, y11, y12, y13, .val (.long (0 : Int64)), .second, .val (.long (0 : Int64)), .second, y18, y19, y20]) (d13 209 rfl) rfl rfl (Or.inl ⟨hy16, hy17⟩) rfl ?_
      refine Ev.iconst (z := 0) (d13 210 rfl) rfl ?_
      refine Ev.istD (L' := [.val (.ref o), .val (.int x1), .val (.int x2), .val (.long x3), .second, y5, y6, .val (.int x7), y8, y9, y10, y11, y12, y13, .val (.long (0 : Int64)), .second, .val (.long (0 : Int64)), .second, .val (.int (0 : Int32)), y19, y20]) (d13 211 rfl) rfl hy18 rfl ?_
      exact e_hroundTrip_372 hw V  n x1 x2 x3 (0 : Int64) (0 : Int64) (0 : Int32) s y5 y6 hy5 (.val (.int x7)) rfl y8 hy8 y9 hy9 y10 hy10 y11 hy11 y12 hy12 y13 hy13 y19 hy19 y20 hy20 _ hr
def f_hroundTrip_23 (n : Nat) : Nat → Int32 → Int32 → Int64 → Int32 → St → Option (Int32 × St)
  | 0 => fun _ _ _ _ _ => none
  | k + 1 => fun x1 x2 x3 x5 s =>
    if x5 < (8 : Int32) then
      (f_frameOf s x1 x5).bind fun q2 =>
      if q2 < 0 then
        f_hroundTrip_23 n k x1 x2 x3 (x5 + (1 : Int32)) s
      else
        (f_read n x1 x5 s).bind fun q5 =>
        bnd ((x3 * (1000003 : Int64)) + (q5.1).toInt64) fun v7 =>
        f_hroundTrip_23 n k x1 (x2 ||| ((1 : Int32) <<< (x5 &&& 31))) v7 (x5 + (1 : Int32)) q5.2
    else
      (f_hothers n s x1).bind fun q8 =>
      (f_procInfo s x1 (0 : Int32)).bind fun q10 =>
      (f_procInfo s x1 (1 : Int32)).bind fun q12 =>
      (f_procInfo s x1 (4 : Int32)).bind fun q14 =>
      (f_procInfo s x1 (5 : Int32)).bind fun q16 =>
      (f_hand s).bind fun q18 =>
      (f_now s).bind fun q20 =>
      (f_lastStatus s).bind fun q22 =>
      (f_swapOut n x1 s).bind fun q24 =>
      if q24.1 = (6 : Int32) then
        (f_procInfo q24.2 x1 (3 : Int32)).bind fun q27 =>
        if q27 = x2 then
          (f_swapIn n x1 q24.2).bind fun q30 =>
          if q30.1 = (6 : Int32) then
            (f_procInfo q30.2 x1 (3 : Int32)).bind fun q33 =>
            if q33 = 0 then
              (f_procInfo q30.2 x1 (2 : Int32)).bind fun q36 =>
              if q36 = 0 then
                (f_procInfo q30.2 x1 (0 : Int32)).bind fun q39 =>
                if q39 = q10 then
                  (f_procInfo q30.2 x1 (1 : Int32)).bind fun q42 =>
                  if q42 = q12 then
                    (f_procInfo q30.2 x1 (4 : Int32)).bind fun q45 =>
                    if q45 = q14 then
                      (f_procInfo q30.2 x1 (5 : Int32)).bind fun q48 =>
                      if q48 = q16 then
                        (f_hand q30.2).bind fun q51 =>
                        if q51 = q18 then
                          (f_now q30.2).bind fun q54 =>
                          if q54 = q20 then
                            (f_lastStatus q30.2).bind fun q57 =>
                            if q57 = q22 then
                              (f_hothers n q30.2 x1).bind fun q60 =>
                              if (XT.cmpL q60 q8) = 0 then
                                f_hroundTrip_279 n n x1 x2 x3 q10 (0 : Int32) q30.2
                              else
                                some ((0 : Int32), q30.2)
                            else
                              some ((0 : Int32), q30.2)
                          else
                            some ((0 : Int32), q30.2)
                        else
                          some ((0 : Int32), q30.2)
                      else
                        some ((0 : Int32), q30.2)
                    else
                      some ((0 : Int32), q30.2)
                  else
                    some ((0 : Int32), q30.2)
                else
                  some ((0 : Int32), q30.2)
              else
                some ((0 : Int32), q30.2)
            else
              some ((0 : Int32), q30.2)
          else
            some ((0 : Int32), q30.2)
        else
          some ((0 : Int32), q24.2)
      else
        some ((0 : Int32), q24.2)
set_option maxRecDepth 100000 in
theorem e_hroundTrip_23 {g : GT} {n : Nat} (hw : HW g) {K : St → MHeap} {o : Nat} {r : Nat → Nat} (V : View (GG g) Ln K o r) (k : Nat) : ∀ (x1 : Int32) (x2 : Int32) (x3 : Int64) (x5 : Int32) (s : St) (y6 : Slot) (hy6 : one1 y6 = true) (y7 : Slot) (hy7 : one1 y7 = true) (y8 : Slot) (hy8 : one1 y8 = true) (y9 : Slot) (hy9 : one1 y9 = true) (y10 : Slot) (hy10 : one1 y10 = true) (y11 : Slot) (hy11 : one1 y11 = true) (y12 : Slot) (hy12 : one1 y12 = true) (y13 : Slot) (hy13 : one1 y13 = true) (y14 : Slot) (hy14 : one1 y14 = true) (y15 : Slot) (hy15 : one1 y15 = true) (y16 : Slot) (hy16 : one1 y16 = true) (y17 : Slot) (hy17 : one1 y17 = true) (y18 : Slot) (hy18 : one1 y18 = true) (y19 : Slot) (hy19 : one1 y19 = true) (y20 : Slot) (hy20 : one1 y20 = true) (w : Int32 × St), f_hroundTrip_23 n k x1 x2 x3 x5 s = some w → Ev (GG g) M_hroundTrip 23 [.val (.ref o), .val (.int x1), .val (.int x2), .val (.long x3), .second, .val (.int x5), y6, y7, y8, y9, y10, y11, y12, y13, y14, y15, y16, y17, y18, y19, y20] [] (K s) ((some (.int w.1)), (K w.2)) := by
  induction k with
  | zero => intro x1 x2 x3 x5 s y6 hy6 y7 hy7 y8 hy8 y9 hy9 y10 hy10 y11 hy11 y12 hy12 y13 hy13 y14 hy14 y15 hy15 y16 hy16 y17 hy17 y18 hy18 y19 hy19 y20 hy20 w hr; rw [f_hroundTrip_23] at hr; cases hr
  | succ k ih =>
    intro x1 x2 x3 x5 s y6 hy6 y7 hy7 y8 hy8 y9 hy9 y10 hy10 y11 hy11 y12 hy12 y13 hy13 y14 hy14 y15 hy15 y16 hy16 y17 hy17 y18 hy18 y19 hy19 y20 hy20 w hr
    rw [f_hroundTrip_23] at hr
    refine Ev.iload (d13 16 rfl) rfl ?_
    refine Ev.bipush (z := 8) (d13 17 rfl) rfl ?_
    refine Ev.icge (t := 75) (d13 18 rfl) rfl (fun c1 => ?_) (fun c1 => ?_)
    · replace hr := (if_pos c1).symm.trans hr
      refine Ev.aloadN (d13 19 rfl) rfl ?_
      refine Ev.iloadN (d13 20 rfl) rfl ?_
      refine Ev.iload (d13 21 rfl) rfl ?_
      obtain ⟨q2, hq3, hr⟩ := Option.bind_eq_some_iff.mp hr
      refine Ev.virt (y := M_frameOf) (args := [.int x1, .int x5]) (rest := []) (gok hw) rfl nm_frameOf (ww hw 114 rfl) (ww hw 115 rfl) (ww hw 116 rfl) (ww hw 117 rfl) (ww hw 118 rfl) (lenOf pd_frameOf rfl) (d13 22 rfl) (V.2.1 s) (e_frameOf hw V hq3) (by decide) (Nat.le_of_ble_eq_true rfl) rfl ?_
      refine Ev.ifge (t := 43) (d13 23 rfl) rfl (fun c4 => ?_) (fun c4 => ?_)
      · replace hr := (if_pos c4).symm.trans hr
        refine Ev.goto (t := 69) (d13 24 rfl) rfl ?_
        refine Ev.iinc (z := 1) (L' := [.val (.ref o), .val (.int x1), .val (.int x2), .val (.long x3), .second, .val (.int (x5 + (1 : Int32))), y6, y7, y8, y9, y10, y11, y12, y13, y14, y15, y16, y17, y18, y19, y20]) (d13 43 rfl) rfl rfl rfl ?_
        refine Ev.goto (t := 23) (d13 44 rfl) rfl ?_
        exact ih x1 x2 x3 (x5 + (1 : Int32)) s y6 hy6 y7 hy7 y8 hy8 y9 hy9 y10 hy10 y11 hy11 y12 hy12 y13 hy13 y14 hy14 y15 hy15 y16 hy16 y17 hy17 y18 hy18 y19 hy19 y20 hy20 _ hr
      · replace hr := (if_neg c4).symm.trans hr
        refine Ev.aloadN (d13 25 rfl) rfl ?_
        refine Ev.iloadN (d13 26 rfl) rfl ?_
        refine Ev.iload (d13 27 rfl) rfl ?_
        obtain ⟨q5, hq6, hr⟩ := Option.bind_eq_some_iff.mp hr
        refine Ev.virt (y := M_read) (args := [.int x1, .int x5]) (rest := []) (gok hw) rfl nm_read (ww hw 87 rfl) (ww hw 88 rfl) (ww hw 89 rfl) (ww hw 90 rfl) (ww hw 91 rfl) (lenOf pd_read rfl) (d13 28 rfl) (V.2.1 s) (e_read hw V hq6) (by decide) (Nat.le_of_ble_eq_true rfl) rfl ?_
        refine Ev.istD (L' := [.val (.ref o), .val (.int x1), .val (.int x2), .val (.long x3), .second, .val (.int x5), .val (.int q5.1), y7, y8, y9, y10, y11, y12, y13, y14, y15, y16, y17, y18, y19, y20]) (d13 29 rfl) rfl hy6 rfl ?_
        refine Ev.iloadN (d13 30 rfl) rfl ?_
        refine Ev.iconst (z := 1) (d13 31 rfl) rfl ?_
        refine Ev.iload (d13 32 rfl) rfl ?_
        refine Ev.ishl (d13 33 rfl) ?_
        refine Ev.ior (d13 34 rfl) ?_
        refine Ev.istDN (L' := [.val (.ref o), .val (.int x1), .val (.int (x2 ||| ((1 : Int32) <<< (x5 &&& 31)))), .val (.long x3), .second, .val (.int x5), .val (.int q5.1), y7, y8, y9, y10, y11, y12, y13, y14, y15, y16, y17, y18, y19, y20]) (d13 35 rfl) rfl rfl rfl ?_
        refine Ev.lloadN (d13 36 rfl) rfl ?_
        refine Ev.ldcL (ww hw 122 rfl) (d13 37 rfl) ?_
        refine Ev.lmul (d13 38 rfl) ?_
        refine Ev.iload (d13 39 rfl) rfl ?_
        refine Ev.i2l (d13 40 rfl) ?_
        refine Ev.ladd (d13 41 rfl) ?_
        revert hr
        generalize ((x3 * (1000003 : Int64)) + (q5.1).toInt64) = v7
        intro hr
        replace hr := (bnd_eq _ _).symm.trans hr
        refine Ev.lstDN (L' := [.val (.ref o), .val (.int x1), .val (.int (x2 ||| ((1 : Int32) <<< (x5 &&& 31)))), .val (.long v7), .second, .val (.int x5), .val (.int q5.1), y7, y8, y9, y10, y11, y12, y13, y14, y15, y16, y17, y18, y19, y20]) (d13 42 rfl) rfl rfl (Or.inr ⟨_, rfl, rfl⟩) rfl ?_
        refine Ev.iinc (z := 1) (L' := [.val (.ref o), .val (.int x1), .val (.int (x2 ||| ((1 : Int32) <<< (x5 &&& 31)))), .val (.long v7), .second, .val (.int (x5 + (1 : Int32))), .val (.int q5.1), y7, y8, y9, y10, y11, y12, y13, y14, y15, y16, y17, y18, y19, y20]) (d13 43 rfl) rfl rfl rfl ?_
        refine Ev.goto (t := 23) (d13 44 rfl) rfl ?_
        exact ih x1 (x2 ||| ((1 : Int32) <<< (x5 &&& 31))) v7 (x5 + (1 : Int32)) q5.2 (.val (.int q5.1)) rfl y7 hy7 y8 hy8 y9 hy9 y10 hy10 y11 hy11 y12 hy12 y13 hy13 y14 hy14 y15 hy15 y16 hy16 y17 hy17 y18 hy18 y19 hy19 y20 hy20 _ hr
    · replace hr := (if_neg c1).symm.trans hr
      refine Ev.aloadN (d13 45 rfl) rfl ?_
      refine Ev.iloadN (d13 46 rfl) rfl ?_
      obtain ⟨q8, hq9, hr⟩ := Option.bind_eq_some_iff.mp hr
      refine Ev.stat (y := M_hothers) (args := [.ref o, .int x1]) (rest := []) nm_hothers (ww hw 119 rfl) (ww hw 120 rfl) (ww hw 107 rfl) (ww hw 121 rfl) (lenOf pd_hothers rfl) (d13 47 rfl) (e_hothers hw V hq9) (by decide) (Nat.le_of_ble_eq_true rfl) rfl ?_
      refine Ev.lstD (L' := [.val (.ref o), .val (.int x1), .val (.int x2), .val (.long x3), .second, .val (.long q8), .second, y7, y8, y9, y10, y11, y12, y13, y14, y15, y16, y17, y18, y19, y20]) (d13 48 rfl) rfl rfl (Or.inl ⟨rfl, hy6⟩) rfl ?_
      refine Ev.aloadN (d13 49 rfl) rfl ?_
      refine Ev.iloadN (d13 50 rfl) rfl ?_
      refine Ev.iconst (z := 0) (d13 51 rfl) rfl ?_
      obtain ⟨q10, hq11, hr⟩ := Option.bind_eq_some_iff.mp hr
      refine Ev.virt (y := M_procInfo) (args := [.int x1, .int (0 : Int32)]) (rest := []) (gok hw) rfl nm_procInfo (ww hw 109 rfl) (ww hw 110 rfl) (ww hw 111 rfl) (ww hw 112 rfl) (ww hw 113 rfl) (lenOf pd_procInfo rfl) (d13 52 rfl) (V.2.1 s) (e_procInfo hw V hq11) (by decide) (Nat.le_of_ble_eq_true rfl) rfl ?_
      refine Ev.istD (L' := [.val (.ref o), .val (.int x1), .val (.int x2), .val (.long x3), .second, .val (.long q8), .second, .val (.int q10), y8, y9, y10, y11, y12, y13, y14, y15, y16, y17, y18, y19, y20]) (d13 53 rfl) rfl hy7 rfl ?_
      refine Ev.aloadN (d13 54 rfl) rfl ?_
      refine Ev.iloadN (d13 55 rfl) rfl ?_
      refine Ev.iconst (z := 1) (d13 56 rfl) rfl ?_
      obtain ⟨q12, hq13, hr⟩ := Option.bind_eq_some_iff.mp hr
      refine Ev.virt (y := M_procInfo) (args := [.int x1, .int (1 : Int32)]) (rest := []) (gok hw) rfl nm_procInfo (ww hw 109 rfl) (ww hw 110 rfl) (ww hw 111 rfl) (ww hw 112 rfl) (ww hw 113 rfl) (lenOf pd_procInfo rfl) (d13 57 rfl) (V.2.1 s) (e_procInfo hw V hq13) (by decide) (Nat.le_of_ble_eq_true rfl) rfl ?_
      refine Ev.istD (L' := [.val (.ref o), .val (.int x1), .val (.int x2), .val (.long x3), .second, .val (.long q8), .second, .val (.int q10), .val (.int q12), y9, y10, y11, y12, y13, y14, y15, y16, y17, y18, y19, y20]) (d13 58 rfl) rfl hy8 rfl ?_
      refine Ev.aloadN (d13 59 rfl) rfl ?_
      refine Ev.iloadN (d13 60 rfl) rfl ?_
      refine Ev.iconst (z := 4) (d13 61 rfl) rfl ?_
      obtain ⟨q14, hq15, hr⟩ := Option.bind_eq_some_iff.mp hr
      refine Ev.virt (y := M_procInfo) (args := [.int x1, .int (4 : Int32)]) (rest := []) (gok hw) rfl nm_procInfo (ww hw 109 rfl) (ww hw 110 rfl) (ww hw 111 rfl) (ww hw 112 rfl) (ww hw 113 rfl) (lenOf pd_procInfo rfl) (d13 62 rfl) (V.2.1 s) (e_procInfo hw V hq15) (by decide) (Nat.le_of_ble_eq_true rfl) rfl ?_
      refine Ev.istD (L' := [.val (.ref o), .val (.int x1), .val (.int x2), .val (.long x3), .second, .val (.long q8), .second, .val (.int q10), .val (.int q12), .val (.int q14), y10, y11, y12, y13, y14, y15, y16, y17, y18, y19, y20]) (d13 63 rfl) rfl hy9 rfl ?_
      refine Ev.aloadN (d13 64 rfl) rfl ?_
      refine Ev.iloadN (d13 65 rfl) rfl ?_
      refine Ev.iconst (z := 5) (d13 66 rfl) rfl ?_
      obtain ⟨q16, hq17, hr⟩ := Option.bind_eq_some_iff.mp hr
      refine Ev.virt (y := M_procInfo) (args := [.int x1, .int (5 : Int32)]) (rest := []) (gok hw) rfl nm_procInfo (ww hw 109 rfl) (ww hw 110 rfl) (ww hw 111 rfl) (ww hw 112 rfl) (ww hw 113 rfl) (lenOf pd_procInfo rfl) (d13 67 rfl) (V.2.1 s) (e_procInfo hw V hq17) (by decide) (Nat.le_of_ble_eq_true rfl) rfl ?_
      refine Ev.istD (L' := [.val (.ref o), .val (.int x1), .val (.int x2), .val (.long x3), .second, .val (.long q8), .second, .val (.int q10), .val (.int q12), .val (.int q14), .val (.int q16), y11, y12, y13, y14, y15, y16, y17, y18, y19, y20]) (d13 68 rfl) rfl hy10 rfl ?_
      refine Ev.aloadN (d13 69 rfl) rfl ?_
      obtain ⟨q18, hq19, hr⟩ := Option.bind_eq_some_iff.mp hr
      refine Ev.virt (y := M_hand) (args := []) (rest := []) (gok hw) rfl nm_hand (ww hw 128 rfl) (ww hw 129 rfl) (ww hw 130 rfl) (ww hw 131 rfl) (ww hw 132 rfl) (lenOf pd_hand rfl) (d13 70 rfl) (V.2.1 s) (e_hand hw V hq19) (by decide) (Nat.le_of_ble_eq_true rfl) rfl ?_
      refine Ev.istD (L' := [.val (.ref o), .val (.int x1), .val (.int x2), .val (.long x3), .second, .val (.long q8), .second, .val (.int q10), .val (.int q12), .val (.int q14), .val (.int q16), .val (.int q18), y12, y13, y14, y15, y16, y17, y18, y19, y20]) (d13 71 rfl) rfl hy11 rfl ?_
      refine Ev.aloadN (d13 72 rfl) rfl ?_
      obtain ⟨q20, hq21, hr⟩ := Option.bind_eq_some_iff.mp hr
      refine Ev.virt (y := M_now) (args := []) (rest := []) (gok hw) rfl nm_now (ww hw 133 rfl) (ww hw 134 rfl) (ww hw 135 rfl) (ww hw 136 rfl) (ww hw 137 rfl) (lenOf pd_now rfl) (d13 73 rfl) (V.2.1 s) (e_now hw V hq21) (by decide) (Nat.le_of_ble_eq_true rfl) rfl ?_
      refine Ev.istD (L' := [.val (.ref o), .val (.int x1), .val (.int x2), .val (.long x3), .second, .val (.long q8), .second, .val (.int q10), .val (.int q12), .val (.int q14), .val (.int q16), .val (.int q18), .val (.int q20), y13, y14, y15, y16, y17, y18, y19, y20]) (d13 74 rfl) rfl hy12 rfl ?_
      refine Ev.aloadN (d13 75 rfl) rfl ?_
      obtain ⟨q22, hq23, hr⟩ := Option.bind_eq_some_iff.mp hr
      refine Ev.virt (y := M_lastStatus) (args := []) (rest := []) (gok hw) rfl nm_lastStatus (ww hw 138 rfl) (ww hw 139 rfl) (ww hw 140 rfl) (ww hw 141 rfl) (ww hw 142 rfl) (lenOf pd_lastStatus rfl) (d13 76 rfl) (V.2.1 s) (e_lastStatus hw V hq23) (by decide) (Nat.le_of_ble_eq_true rfl) rfl ?_
      refine Ev.istD (L' := [.val (.ref o), .val (.int x1), .val (.int x2), .val (.long x3), .second, .val (.long q8), .second, .val (.int q10), .val (.int q12), .val (.int q14), .val (.int q16), .val (.int q18), .val (.int q20), .val (.int q22), y14, y15, y16, y17, y18, y19, y20]) (d13 77 rfl) rfl hy13 rfl ?_
      refine Ev.aloadN (d13 78 rfl) rfl ?_
      refine Ev.iloadN (d13 79 rfl) rfl ?_
      obtain ⟨q24, hq25, hr⟩ := Option.bind_eq_some_iff.mp hr
      refine Ev.virt (y := M_swapOut) (args := [.int x1]) (rest := []) (gok hw) rfl nm_swapOut (ww hw 143 rfl) (ww hw 144 rfl) (ww hw 145 rfl) (ww hw 146 rfl) (ww hw 147 rfl) (lenOf pd_swapOut rfl) (d13 80 rfl) (V.2.1 s) (e_swapOut hw V hq25) (by decide) (Nat.le_of_ble_eq_true rfl) rfl ?_
      refine Ev.bipush (z := 6) (d13 81 rfl) rfl ?_
      refine Ev.iceq (t := 144) (d13 82 rfl) rfl (fun c26 => ?_) (fun c26 => ?_)
      · replace hr := (if_pos c26).symm.trans hr
        refine Ev.aloadN (d13 85 rfl) rfl ?_
        refine Ev.iloadN (d13 86 rfl) rfl ?_
        refine Ev.iconst (z := 3) (d13 87 rfl) rfl ?_
        obtain ⟨q27, hq28, hr⟩ := Option.bind_eq_some_iff.mp hr
        refine Ev.virt (y := M_procInfo) (args := [.int x1, .int (3 : Int32)]) (rest := []) (gok hw) rfl nm_procInfo (ww hw 109 rfl) (ww hw 110 rfl) (ww hw 111 rfl) (ww hw 112 rfl) (ww hw 113 rfl) (lenOf pd_procInfo rfl) (d13 88 rfl) (V.2.1 q24.2) (e_procInfo hw V hq28) (by decide) (Nat.le_of_ble_eq_true rfl) rfl ?_
        refine Ev.iloadN (d13 89 rfl) rfl ?_
        refine Ev.iceq (t := 156) (d13 90 rfl) rfl (fun c29 => ?_) (fun c29 => ?_)
        · replace hr := (if_pos c29).symm.trans hr
          refine Ev.aloadN (d13 93 rfl) rfl ?_
          refine Ev.iloadN (d13 94 rfl) rfl ?_
          obtain ⟨q30, hq31, hr⟩ := Option.bind_eq_some_iff.mp hr
          refine Ev.virt (y := M_swapIn) (args := [.int x1]) (rest := []) (gok hw) rfl nm_swapIn (ww hw 152 rfl) (ww hw 153 rfl) (ww hw 154 rfl) (ww hw 155 rfl) (ww hw 156 rfl) (lenOf pd_swapIn rfl) (d13 95 rfl) (V.2.1 q24.2) (e_swapIn hw V hq31) (by decide) (Nat.le_of_ble_eq_true rfl) rfl ?_
          refine Ev.bipush (z := 6) (d13 96 rfl) rfl ?_
          refine Ev.iceq (t := 168) (d13 97 rfl) rfl (fun c32 => ?_) (fun c32 => ?_)
          · replace hr := (if_pos c32).symm.trans hr
            refine Ev.aloadN (d13 100 rfl) rfl ?_
            refine Ev.iloadN (d13 101 rfl) rfl ?_
            refine Ev.iconst (z := 3) (d13 102 rfl) rfl ?_
            obtain ⟨q33, hq34, hr⟩ := Option.bind_eq_some_iff.mp hr
            refine Ev.virt (y := M_procInfo) (args := [.int x1, .int (3 : Int32)]) (rest := []) (gok hw) rfl nm_procInfo (ww hw 109 rfl) (ww hw 110 rfl) (ww hw 111 rfl) (ww hw 112 rfl) (ww hw 113 rfl) (lenOf pd_procInfo rfl) (d13 103 rfl) (V.2.1 q30.2) (e_procInfo hw V hq34) (by decide) (Nat.le_of_ble_eq_true rfl) rfl ?_
            refine Ev.ifne (t := 186) (d13 104 rfl) rfl (fun c35 => ?_) (fun c35 => ?_)
            · replace hr := (if_pos c35).symm.trans hr
              refine Ev.aloadN (d13 105 rfl) rfl ?_
              refine Ev.iloadN (d13 106 rfl) rfl ?_
              refine Ev.iconst (z := 2) (d13 107 rfl) rfl ?_
              obtain ⟨q36, hq37, hr⟩ := Option.bind_eq_some_iff.mp hr
              refine Ev.virt (y := M_procInfo) (args := [.int x1, .int (2 : Int32)]) (rest := []) (gok hw) rfl nm_procInfo (ww hw 109 rfl) (ww hw 110 rfl) (ww hw 111 rfl) (ww hw 112 rfl) (ww hw 113 rfl) (lenOf pd_procInfo rfl) (d13 108 rfl) (V.2.1 q30.2) (e_procInfo hw V hq37) (by decide) (Nat.le_of_ble_eq_true rfl) rfl ?_
              refine Ev.ifeq (t := 188) (d13 109 rfl) rfl (fun c38 => ?_) (fun c38 => ?_)
              · replace hr := (if_pos c38).symm.trans hr
                refine Ev.aloadN (d13 112 rfl) rfl ?_
                refine Ev.iloadN (d13 113 rfl) rfl ?_
                refine Ev.iconst (z := 0) (d13 114 rfl) rfl ?_
                obtain ⟨q39, hq40, hr⟩ := Option.bind_eq_some_iff.mp hr
                refine Ev.virt (y := M_procInfo) (args := [.int x1, .int (0 : Int32)]) (rest := []) (gok hw) rfl nm_procInfo (ww hw 109 rfl) (ww hw 110 rfl) (ww hw 111 rfl) (ww hw 112 rfl) (ww hw 113 rfl) (lenOf pd_procInfo rfl) (d13 115 rfl) (V.2.1 q30.2) (e_procInfo hw V hq40) (by decide) (Nat.le_of_ble_eq_true rfl) rfl ?_
                refine Ev.iload (d13 116 rfl) rfl ?_
                refine Ev.icne (t := 210) (d13 117 rfl) rfl (fun c41 => ?_) (fun c41 => ?_)
                · replace hr := (if_pos c41).symm.trans hr
                  refine Ev.aloadN (d13 118 rfl) rfl ?_
                  refine Ev.iloadN (d13 119 rfl) rfl ?_
                  refine Ev.iconst (z := 1) (d13 120 rfl) rfl ?_
                  obtain ⟨q42, hq43, hr⟩ := Option.bind_eq_some_iff.mp hr
                  refine Ev.virt (y := M_procInfo) (args := [.int x1, .int (1 : Int32)]) (rest := []) (gok hw) rfl nm_procInfo (ww hw 109 rfl) (ww hw 110 rfl) (ww hw 111 rfl) (ww hw 112 rfl) (ww hw 113 rfl) (lenOf pd_procInfo rfl) (d13 121 rfl) (V.2.1 q30.2) (e_procInfo hw V hq43) (by decide) (Nat.le_of_ble_eq_true rfl) rfl ?_
                  refine Ev.iload (d13 122 rfl) rfl ?_
                  refine Ev.iceq (t := 212) (d13 123 rfl) rfl (fun c44 => ?_) (fun c44 => ?_)
                  · replace hr := (if_pos c44).symm.trans hr
                    refine Ev.aloadN (d13 126 rfl) rfl ?_
                    refine Ev.iloadN (d13 127 rfl) rfl ?_
                    refine Ev.iconst (z := 4) (d13 128 rfl) rfl ?_
                    obtain ⟨q45, hq46, hr⟩ := Option.bind_eq_some_iff.mp hr
                    refine Ev.virt (y := M_procInfo) (args := [.int x1, .int (4 : Int32)]) (rest := []) (gok hw) rfl nm_procInfo (ww hw 109 rfl) (ww hw 110 rfl) (ww hw 111 rfl) (ww hw 112 rfl) (ww hw 113 rfl) (lenOf pd_procInfo rfl) (d13 129 rfl) (V.2.1 q30.2) (e_procInfo hw V hq46) (by decide) (Nat.le_of_ble_eq_true rfl) rfl ?_
                    refine Ev.iload (d13 130 rfl) rfl ?_
                    refine Ev.icne (t := 234) (d13 131 rfl) rfl (fun c47 => ?_) (fun c47 => ?_)
                    · replace hr := (if_pos c47).symm.trans hr
                      refine Ev.aloadN (d13 132 rfl) rfl ?_
                      refine Ev.iloadN (d13 133 rfl) rfl ?_
                      refine Ev.iconst (z := 5) (d13 134 rfl) rfl ?_
                      obtain ⟨q48, hq49, hr⟩ := Option.bind_eq_some_iff.mp hr
                      refine Ev.virt (y := M_procInfo) (args := [.int x1, .int (5 : Int32)]) (rest := []) (gok hw) rfl nm_procInfo (ww hw 109 rfl) (ww hw 110 rfl) (ww hw 111 rfl) (ww hw 112 rfl) (ww hw 113 rfl) (lenOf pd_procInfo rfl) (d13 135 rfl) (V.2.1 q30.2) (e_procInfo hw V hq49) (by decide) (Nat.le_of_ble_eq_true rfl) rfl ?_
                      refine Ev.iload (d13 136 rfl) rfl ?_
                      refine Ev.iceq (t := 236) (d13 137 rfl) rfl (fun c50 => ?_) (fun c50 => ?_)
                      · replace hr := (if_pos c50).symm.trans hr
                        refine Ev.aloadN (d13 140 rfl) rfl ?_
                        obtain ⟨q51, hq52, hr⟩ := Option.bind_eq_some_iff.mp hr
                        refine Ev.virt (y := M_hand) (args := []) (rest := []) (gok hw) rfl nm_hand (ww hw 128 rfl) (ww hw 129 rfl) (ww hw 130 rfl) (ww hw 131 rfl) (ww hw 132 rfl) (lenOf pd_hand rfl) (d13 141 rfl) (V.2.1 q30.2) (e_hand hw V hq52) (by decide) (Nat.le_of_ble_eq_true rfl) rfl ?_
                        refine Ev.iload (d13 142 rfl) rfl ?_
                        refine Ev.icne (t := 274) (d13 143 rfl) rfl (fun c53 => ?_) (fun c53 => ?_)
                        · replace hr := (if_pos c53).symm.trans hr
                          refine Ev.aloadN (d13 144 rfl) rfl ?_
                          obtain ⟨q54, hq55, hr⟩ := Option.bind_eq_some_iff.mp hr
                          refine Ev.virt (y := M_now) (args := []) (rest := []) (gok hw) rfl nm_now (ww hw 133 rfl) (ww hw 134 rfl) (ww hw 135 rfl) (ww hw 136 rfl) (ww hw 137 rfl) (lenOf pd_now rfl) (d13 145 rfl) (V.2.1 q30.2) (e_now hw V hq55) (by decide) (Nat.le_of_ble_eq_true rfl) rfl ?_
                          refine Ev.iload (d13 146 rfl) rfl ?_
                          refine Ev.icne (t := 274) (d13 147 rfl) rfl (fun c56 => ?_) (fun c56 => ?_)
                          · replace hr := (if_pos c56).symm.trans hr
                            refine Ev.aloadN (d13 148 rfl) rfl ?_
                            obtain ⟨q57, hq58, hr⟩ := Option.bind_eq_some_iff.mp hr
                            refine Ev.virt (y := M_lastStatus) (args := []) (rest := []) (gok hw) rfl nm_lastStatus (ww hw 138 rfl) (ww hw 139 rfl) (ww hw 140 rfl) (ww hw 141 rfl) (ww hw 142 rfl) (lenOf pd_lastStatus rfl) (d13 149 rfl) (V.2.1 q30.2) (e_lastStatus hw V hq58) (by decide) (Nat.le_of_ble_eq_true rfl) rfl ?_
                            refine Ev.iload (d13 150 rfl) rfl ?_
                            refine Ev.icne (t := 274) (d13 151 rfl) rfl (fun c59 => ?_) (fun c59 => ?_)
                            · replace hr := (if_pos c59).symm.trans hr
                              refine Ev.aloadN (d13 152 rfl) rfl ?_
                              refine Ev.iloadN (d13 153 rfl) rfl ?_
                              obtain ⟨q60, hq61, hr⟩ := Option.bind_eq_some_iff.mp hr
                              refine Ev.stat (y := M_hothers) (args := [.ref o, .int x1]) (rest := []) nm_hothers (ww hw 119 rfl) (ww hw 120 rfl) (ww hw 107 rfl) (ww hw 121 rfl) (lenOf pd_hothers rfl) (d13 154 rfl) (e_hothers hw V hq61) (by decide) (Nat.le_of_ble_eq_true rfl) rfl ?_
                              refine Ev.lload (d13 155 rfl) rfl ?_
                              refine Ev.lcmp (d13 156 rfl) ?_
                              refine Ev.ifeq (t := 276) (d13 157 rfl) rfl (fun c62 => ?_) (fun c62 => ?_)
                              · replace hr := (if_pos c62).symm.trans hr
                                refine Ev.iconst (z := 0) (d13 160 rfl) rfl ?_
                                refine Ev.istD (L' := [.val (.ref o), .val (.int x1), .val (.int x2), .val (.long x3), .second, .val (.long q8), .second, .val (.int q10), .val (.int q12), .val (.int q14), .val (.int q16), .val (.int q18), .val (.int q20), .val (.int q22), .val (.int (0 : Int32)), y15, y16, y17, y18, y19, y20]) (d13 161 rfl) rfl hy14 rfl ?_
                                exact e_hroundTrip_279 hw V  n x1 x2 x3 q10 (0 : Int32) q30.2 (.val (.long q8)) .second (Or.inr ⟨_, rfl, rfl⟩) (.val (.int q12)) rfl (.val (.int q14)) rfl (.val (.int q16)) rfl (.val (.int q18)) rfl (.val (.int q20)) rfl (.val (.int q22)) rfl y15 hy15 y16 hy16 y17 hy17 y18 hy18 y19 hy19 y20 hy20 _ hr
                              · replace hr := (if_neg c62).symm.trans hr
                                refine Ev.iconst (z := 0) (d13 158 rfl) rfl ?_
                                cases hr
                                exact Ev.zret0 rfl (d13 159 rfl)
                            · replace hr := (if_neg c59).symm.trans hr
                              refine Ev.iconst (z := 0) (d13 158 rfl) rfl ?_
                              cases hr
                              exact Ev.zret0 rfl (d13 159 rfl)
                          · replace hr := (if_neg c56).symm.trans hr
                            refine Ev.iconst (z := 0) (d13 158 rfl) rfl ?_
                            cases hr
                            exact Ev.zret0 rfl (d13 159 rfl)
                        · replace hr := (if_neg c53).symm.trans hr
                          refine Ev.iconst (z := 0) (d13 158 rfl) rfl ?_
                          cases hr
                          exact Ev.zret0 rfl (d13 159 rfl)
                      · replace hr := (if_neg c50).symm.trans hr
                        refine Ev.iconst (z := 0) (d13 138 rfl) rfl ?_
                        cases hr
                        exact Ev.zret0 rfl (d13 139 rfl)
                    · replace hr := (if_neg c47).symm.trans hr
                      refine Ev.iconst (z := 0) (d13 138 rfl) rfl ?_
                      cases hr
                      exact Ev.zret0 rfl (d13 139 rfl)
                  · replace hr := (if_neg c44).symm.trans hr
                    refine Ev.iconst (z := 0) (d13 124 rfl) rfl ?_
                    cases hr
                    exact Ev.zret0 rfl (d13 125 rfl)
                · replace hr := (if_neg c41).symm.trans hr
                  refine Ev.iconst (z := 0) (d13 124 rfl) rfl ?_
                  cases hr
                  exact Ev.zret0 rfl (d13 125 rfl)
              · replace hr := (if_neg c38).symm.trans hr
                refine Ev.iconst (z := 0) (d13 110 rfl) rfl ?_
                cases hr
                exact Ev.zret0 rfl (d13 111 rfl)
            · replace hr := (if_neg c35).symm.trans hr
              refine Ev.iconst (z := 0) (d13 110 rfl) rfl ?_
              cases hr
              exact Ev.zret0 rfl (d13 111 rfl)
          · replace hr := (if_neg c32).symm.trans hr
            refine Ev.iconst (z := 0) (d13 98 rfl) rfl ?_
            cases hr
            exact Ev.zret0 rfl (d13 99 rfl)
        · replace hr := (if_neg c29).symm.trans hr
          refine Ev.iconst (z := 0) (d13 91 rfl) rfl ?_
          cases hr
          exact Ev.zret0 rfl (d13 92 rfl)
      · replace hr := (if_neg c26).symm.trans hr
        refine Ev.iconst (z := 0) (d13 83 rfl) rfl ?_
        cases hr
        exact Ev.zret0 rfl (d13 84 rfl)
def f_hroundTrip (n : Nat) (a1 : Int32) (s : St) : Option (Int32 × St) :=
  if (3 : Int32) < a1 then
    some ((1 : Int32), s)
  else
    (f_procInfo s a1 (2 : Int32)).bind fun q2 =>
    if q2 = 0 then
      f_hroundTrip_23 n n a1 (0 : Int32) (0 : Int64) (0 : Int32) s
    else
      some ((1 : Int32), s)
set_option maxRecDepth 100000 in
theorem e_hroundTrip {g : GT} {n : Nat} {a1 : Int32} {s : St} {w : Int32 × St} (hw : HW g) {K : St → MHeap} {o : Nat} {r : Nat → Nat} (V : View (GG g) Ln K o r) (hr : f_hroundTrip n a1 s = some w) : EvC (GG g) M_hroundTrip [.ref o, .int a1] (K s) ((some (.int w.1)), (K w.2)) := by
  refine EvC.enter (L0 := [.val (.ref o), .val (.int a1), .unset, .unset, .unset, .unset, .unset, .unset, .unset, .unset, .unset, .unset, .unset, .unset, .unset, .unset, .unset, .unset, .unset, .unset, .unset]) pl_hroundTrip (fun h => nomatch h) rfl rfl ?_
  unfold f_hroundTrip at hr
  refine Ev.iloadN (d13 0 rfl) rfl ?_
  refine Ev.iconst (z := 3) (d13 1 rfl) rfl ?_
  refine Ev.icgt (t := 14) (d13 2 rfl) rfl (fun c1 => ?_) (fun c1 => ?_)
  · replace hr := (if_pos c1).symm.trans hr
    refine Ev.iconst (z := 1) (d13 8 rfl) rfl ?_
    cases hr
    exact Ev.zret1 rfl (d13 9 rfl)
  · replace hr := (if_neg c1).symm.trans hr
    refine Ev.aloadN (d13 3 rfl) rfl ?_
    refine Ev.iloadN (d13 4 rfl) rfl ?_
    refine Ev.iconst (z := 2) (d13 5 rfl) rfl ?_
    obtain ⟨q2, hq3, hr⟩ := Option.bind_eq_some_iff.mp hr
    refine Ev.virt (y := M_procInfo) (args := [.int a1, .int (2 : Int32)]) (rest := []) (gok hw) rfl nm_procInfo (ww hw 109 rfl) (ww hw 110 rfl) (ww hw 111 rfl) (ww hw 112 rfl) (ww hw 113 rfl) (lenOf pd_procInfo rfl) (d13 6 rfl) (V.2.1 s) (e_procInfo hw V hq3) (by decide) (Nat.le_of_ble_eq_true rfl) rfl ?_
    refine Ev.ifeq (t := 16) (d13 7 rfl) rfl (fun c4 => ?_) (fun c4 => ?_)
    · replace hr := (if_pos c4).symm.trans hr
      refine Ev.iconst (z := 0) (d13 10 rfl) rfl ?_
      refine Ev.istDN (L' := [.val (.ref o), .val (.int a1), .val (.int (0 : Int32)), .unset, .unset, .unset, .unset, .unset, .unset, .unset, .unset, .unset, .unset, .unset, .unset, .unset, .unset, .unset, .unset, .unset, .unset]) (d13 11 rfl) rfl rfl rfl ?_
      refine Ev.lconst (z := 0) (d13 12 rfl) rfl ?_
      refine Ev.lstDN (L' := [.val (.ref o), .val (.int a1), .val (.int (0 : Int32)), .val (.long (0 : Int64)), .second, .unset, .unset, .unset, .unset, .unset, .unset, .unset, .unset, .unset, .unset, .unset, .unset, .unset, .unset, .unset, .unset]) (d13 13 rfl) rfl rfl (Or.inl ⟨rfl, rfl⟩) rfl ?_
      refine Ev.iconst (z := 0) (d13 14 rfl) rfl ?_
      refine Ev.istD (L' := [.val (.ref o), .val (.int a1), .val (.int (0 : Int32)), .val (.long (0 : Int64)), .second, .val (.int (0 : Int32)), .unset, .unset, .unset, .unset, .unset, .unset, .unset, .unset, .unset, .unset, .unset, .unset, .unset, .unset, .unset]) (d13 15 rfl) rfl rfl rfl ?_
      exact e_hroundTrip_23 hw V  n a1 (0 : Int32) (0 : Int64) (0 : Int32) s .unset rfl .unset rfl .unset rfl .unset rfl .unset rfl .unset rfl .unset rfl .unset rfl .unset rfl .unset rfl .unset rfl .unset rfl .unset rfl .unset rfl .unset rfl _ hr
    · replace hr := (if_neg c4).symm.trans hr
      refine Ev.iconst (z := 1) (d13 8 rfl) rfl ?_
      cases hr
      exact Ev.zret1 rfl (d13 9 rfl)
def f_law_15 (n : Nat) (sn : Nat) (sf : Nat → Int32) : Nat → Int32 → St → Option (Int32 × St)
  | 0 => fun _ _ => none
  | k + 1 => fun x2 s =>
    if (x2 + (3 : Int32)) < sn.toInt32 then
      grd (inb x2 sn) <|
      grd (inb (x2 + (1 : Int32)) sn) <|
      bnd (((sf (ix (x2 + (1 : Int32)))) &&& (7 : Int32)) % (5 : Int32)) fun v4 =>
      grd (inb (x2 + (2 : Int32)) sn) <|
      bnd (((sf (ix (x2 + (2 : Int32)))) &&& (15 : Int32)) % (9 : Int32)) fun v6 =>
      grd (inb (x2 + (3 : Int32)) sn) <|
      if ((sf (ix x2)) &&& (7 : Int32)) = 0 then
        (f_read n v4 v6 s).bind fun q9 =>
        f_law_15 n sn sf k (x2 + (4 : Int32)) q9.2
      else
        if (2 : Int32) < ((sf (ix x2)) &&& (7 : Int32)) then
          if ((sf (ix x2)) &&& (7 : Int32)) = (3 : Int32) then
            (f_tick n s).bind fun q13 =>
            f_law_15 n sn sf k (x2 + (4 : Int32)) q13.2
          else
            if ((sf (ix x2)) &&& (7 : Int32)) = (4 : Int32) then
              (f_swapOut n v4 s).bind fun q16 =>
              f_law_15 n sn sf k (x2 + (4 : Int32)) q16.2
            else
              if ((sf (ix x2)) &&& (7 : Int32)) = (5 : Int32) then
                (f_swapIn n v4 s).bind fun q19 =>
                f_law_15 n sn sf k (x2 + (4 : Int32)) q19.2
              else
                if ((sf (ix x2)) &&& (7 : Int32)) = (6 : Int32) then
                  (f_control n s).bind fun q22 =>
                  f_law_15 n sn sf k (x2 + (4 : Int32)) q22.2
                else
                  (f_hroundTrip n v4 s).bind fun q24 =>
                  if q24.1 = 0 then
                    some ((0 : Int32), q24.2)
                  else
                    f_law_15 n sn sf k (x2 + (4 : Int32)) q24.2
        else
          (f_write n v4 v6 (sf (ix (x2 + (3 : Int32)))) s).bind fun q27 =>
          f_law_15 n sn sf k (x2 + (4 : Int32)) q27.2
    else
      some ((1 : Int32), s)
set_option maxRecDepth 100000 in
theorem e_law_15 {g : GT} {n : Nat} {sn : Nat} {sf : Nat → Int32} (hw : HW g) {K : St → MHeap} {o : Nat} {r : Nat → Nat} (hs : ∀ s, (K s)[0]? = some (.inr (false, tab sn sf))) (V : View (GG g) Ln K o r) (k : Nat) : ∀ (x2 : Int32) (s : St) (y3 : Slot) (hy3 : one1 y3 = true) (y4 : Slot) (hy4 : one1 y4 = true) (y5 : Slot) (hy5 : one1 y5 = true) (y6 : Slot) (hy6 : one1 y6 = true) (w : Int32 × St), f_law_15 n sn sf k x2 s = some w → Ev (GG g) M_law 15 [.val (.ref 0), .val (.ref o), .val (.int x2), y3, y4, y5, y6] [] (K s) ((some (.int w.1)), (K w.2)) := by
  induction k with
  | zero => intro x2 s y3 hy3 y4 hy4 y5 hy5 y6 hy6 w hr; rw [f_law_15] at hr; cases hr
  | succ k ih =>
    intro x2 s y3 hy3 y4 hy4 y5 hy5 y6 hy6 w hr
    rw [f_law_15] at hr
    refine Ev.iloadN at_15 rfl ?_
    refine Ev.iconst (z := 3) at_16 rfl ?_
    refine Ev.iadd at_17 ?_
    refine Ev.aloadN at_18 rfl ?_
    refine Ev.sln (hs s) at_19 ?_
    refine Ev.icge (t := 171) at_20 rfl (fun c1 => ?_) (fun c1 => ?_)
    · replace hr := (if_pos c1).symm.trans hr
      refine Ev.aloadN at_23 rfl ?_
      refine Ev.iloadN at_24 rfl ?_
      obtain ⟨b2, hr⟩ := grd_some hr
      refine Ev.sal (hs s) at_25 b2 ?_
      refine Ev.bipush (z := 7) at_26 rfl ?_
      refine Ev.iand at_28 ?_
      refine Ev.istDN (L' := [.val (.ref 0), .val (.ref o), .val (.int x2), .val (.int ((sf (ix x2)) &&& (7 : Int32))), y4, y5, y6]) at_29 rfl hy3 rfl ?_
      refine Ev.aloadN at_30 rfl ?_
      refine Ev.iloadN at_31 rfl ?_
      refine Ev.iconst (z := 1) at_32 rfl ?_
      refine Ev.iadd at_33 ?_
      obtain ⟨b3, hr⟩ := grd_some hr
      refine Ev.sal (hs s) at_34 b3 ?_
      refine Ev.bipush (z := 7) at_35 rfl ?_
      refine Ev.iand at_37 ?_
      refine Ev.iconst (z := 5) at_38 rfl ?_
      refine Ev.irem at_39 (by decide) ?_
      revert hr
      generalize (((sf (ix (x2 + (1 : Int32)))) &&& (7 : Int32)) % (5 : Int32)) = v4
      intro hr
      replace hr := (bnd_eq _ _).symm.trans hr
      refine Ev.istD (L' := [.val (.ref 0), .val (.ref o), .val (.int x2), .val (.int ((sf (ix x2)) &&& (7 : Int32))), .val (.int v4), y5, y6]) at_40 rfl hy4 rfl ?_
      refine Ev.aloadN at_42 rfl ?_
      refine Ev.iloadN at_43 rfl ?_
      refine Ev.iconst (z := 2) at_44 rfl ?_
      refine Ev.iadd at_45 ?_
      obtain ⟨b5, hr⟩ := grd_some hr
      refine Ev.sal (hs s) at_46 b5 ?_
      refine Ev.bipush (z := 15) at_47 rfl ?_
      refine Ev.iand at_49 ?_
      refine Ev.bipush (z := 9) at_50 rfl ?_
      refine Ev.irem at_52 (by decide) ?_
      revert hr
      generalize (((sf (ix (x2 + (2 : Int32)))) &&& (15 : Int32)) % (9 : Int32)) = v6
      intro hr
      replace hr := (bnd_eq _ _).symm.trans hr
      refine Ev.istD (L' := [.val (.ref 0), .val (.ref o), .val (.int x2), .val (.int ((sf (ix x2)) &&& (7 : Int32))), .val (.int v4), .val (.int v6), y6]) at_53 rfl hy5 rfl ?_
      refine Ev.aloadN at_55 rfl ?_
      refine Ev.iloadN at_56 rfl ?_
      refine Ev.iconst (z := 3) at_57 rfl ?_
      refine Ev.iadd at_58 ?_
      obtain ⟨b7, hr⟩ := grd_some hr
      refine Ev.sal (hs s) at_59 b7 ?_
      refine Ev.istD (L' := [.val (.ref 0), .val (.ref o), .val (.int x2), .val (.int ((sf (ix x2)) &&& (7 : Int32))), .val (.int v4), .val (.int v6), .val (.int (sf (ix (x2 + (3 : Int32)))))]) at_60 rfl hy6 rfl ?_
      refine Ev.iloadN at_62 rfl ?_
      refine Ev.ifne (t := 78) at_63 rfl (fun c8 => ?_) (fun c8 => ?_)
      · replace hr := (if_pos c8).symm.trans hr
        refine Ev.aloadN at_66 rfl ?_
        refine Ev.iload at_67 rfl ?_
        refine Ev.iload at_69 rfl ?_
        obtain ⟨q9, hq10, hr⟩ := Option.bind_eq_some_iff.mp hr
        refine Ev.virt (y := M_read) (args := [.int v4, .int v6]) (rest := []) (gok hw) rfl nm_read (ww hw 87 rfl) (ww hw 88 rfl) (ww hw 89 rfl) (ww hw 90 rfl) (ww hw 91 rfl) (lenOf pd_read rfl) at_71 (V.2.1 s) (e_read hw V hq10) (by decide) (Nat.le_of_ble_eq_true rfl) rfl ?_
        refine Ev.pop at_74 rfl ?_
        refine Ev.goto (t := 165) at_75 rfl ?_
        refine Ev.iinc (z := 4) (L' := [.val (.ref 0), .val (.ref o), .val (.int (x2 + (4 : Int32))), .val (.int ((sf (ix x2)) &&& (7 : Int32))), .val (.int v4), .val (.int v6), .val (.int (sf (ix (x2 + (3 : Int32)))))]) at_165 rfl rfl rfl ?_
        refine Ev.goto (t := 15) at_168 rfl ?_
        exact ih (x2 + (4 : Int32)) q9.2 (.val (.int ((sf (ix x2)) &&& (7 : Int32)))) rfl (.val (.int v4)) rfl (.val (.int v6)) rfl (.val (.int (sf (ix (x2 + (3 : Int32)))))) rfl _ hr
      · replace hr := (if_neg c8).symm.trans hr
        refine Ev.iloadN at_78 rfl ?_
        refine Ev.iconst (z := 2) at_79 rfl ?_
        refine Ev.icgt (t := 97) at_80 rfl (fun c11 => ?_) (fun c11 => ?_)
        · replace hr := (if_pos c11).symm.trans hr
          refine Ev.iloadN at_97 rfl ?_
          refine Ev.iconst (z := 3) at_98 rfl ?_
          refine Ev.icne (t := 110) at_99 rfl (fun c12 => ?_) (fun c12 => ?_)
          · replace hr := (if_pos c12).symm.trans hr
            refine Ev.aloadN at_102 rfl ?_
            obtain ⟨q13, hq14, hr⟩ := Option.bind_eq_some_iff.mp hr
            refine Ev.virt (y := M_tick) (args := []) (rest := []) (gok hw) rfl nm_tick (ww hw 53 rfl) (ww hw 54 rfl) (ww hw 55 rfl) (ww hw 56 rfl) (ww hw 57 rfl) (lenOf pd_tick rfl) at_103 (V.2.1 s) (e_tick hw V hq14) (by decide) (Nat.le_of_ble_eq_true rfl) rfl ?_
            refine Ev.pop at_106 rfl ?_
            refine Ev.goto (t := 165) at_107 rfl ?_
            refine Ev.iinc (z := 4) (L' := [.val (.ref 0), .val (.ref o), .val (.int (x2 + (4 : Int32))), .val (.int ((sf (ix x2)) &&& (7 : Int32))), .val (.int v4), .val (.int v6), .val (.int (sf (ix (x2 + (3 : Int32)))))]) at_165 rfl rfl rfl ?_
            refine Ev.goto (t := 15) at_168 rfl ?_
            exact ih (x2 + (4 : Int32)) q13.2 (.val (.int ((sf (ix x2)) &&& (7 : Int32)))) rfl (.val (.int v4)) rfl (.val (.int v6)) rfl (.val (.int (sf (ix (x2 + (3 : Int32)))))) rfl _ hr
          · replace hr := (if_neg c12).symm.trans hr
            refine Ev.iloadN at_110 rfl ?_
            refine Ev.iconst (z := 4) at_111 rfl ?_
            refine Ev.icne (t := 125) at_112 rfl (fun c15 => ?_) (fun c15 => ?_)
            · replace hr := (if_pos c15).symm.trans hr
              refine Ev.aloadN at_115 rfl ?_
              refine Ev.iload at_116 rfl ?_
              obtain ⟨q16, hq17, hr⟩ := Option.bind_eq_some_iff.mp hr
              refine Ev.virt (y := M_swapOut) (args := [.int v4]) (rest := []) (gok hw) rfl nm_swapOut (ww hw 143 rfl) (ww hw 144 rfl) (ww hw 145 rfl) (ww hw 146 rfl) (ww hw 147 rfl) (lenOf pd_swapOut rfl) at_118 (V.2.1 s) (e_swapOut hw V hq17) (by decide) (Nat.le_of_ble_eq_true rfl) rfl ?_
              refine Ev.pop at_121 rfl ?_
              refine Ev.goto (t := 165) at_122 rfl ?_
              refine Ev.iinc (z := 4) (L' := [.val (.ref 0), .val (.ref o), .val (.int (x2 + (4 : Int32))), .val (.int ((sf (ix x2)) &&& (7 : Int32))), .val (.int v4), .val (.int v6), .val (.int (sf (ix (x2 + (3 : Int32)))))]) at_165 rfl rfl rfl ?_
              refine Ev.goto (t := 15) at_168 rfl ?_
              exact ih (x2 + (4 : Int32)) q16.2 (.val (.int ((sf (ix x2)) &&& (7 : Int32)))) rfl (.val (.int v4)) rfl (.val (.int v6)) rfl (.val (.int (sf (ix (x2 + (3 : Int32)))))) rfl _ hr
            · replace hr := (if_neg c15).symm.trans hr
              refine Ev.iloadN at_125 rfl ?_
              refine Ev.iconst (z := 5) at_126 rfl ?_
              refine Ev.icne (t := 140) at_127 rfl (fun c18 => ?_) (fun c18 => ?_)
              · replace hr := (if_pos c18).symm.trans hr
                refine Ev.aloadN at_130 rfl ?_
                refine Ev.iload at_131 rfl ?_
                obtain ⟨q19, hq20, hr⟩ := Option.bind_eq_some_iff.mp hr
                refine Ev.virt (y := M_swapIn) (args := [.int v4]) (rest := []) (gok hw) rfl nm_swapIn (ww hw 152 rfl) (ww hw 153 rfl) (ww hw 154 rfl) (ww hw 155 rfl) (ww hw 156 rfl) (lenOf pd_swapIn rfl) at_133 (V.2.1 s) (e_swapIn hw V hq20) (by decide) (Nat.le_of_ble_eq_true rfl) rfl ?_
                refine Ev.pop at_136 rfl ?_
                refine Ev.goto (t := 165) at_137 rfl ?_
                refine Ev.iinc (z := 4) (L' := [.val (.ref 0), .val (.ref o), .val (.int (x2 + (4 : Int32))), .val (.int ((sf (ix x2)) &&& (7 : Int32))), .val (.int v4), .val (.int v6), .val (.int (sf (ix (x2 + (3 : Int32)))))]) at_165 rfl rfl rfl ?_
                refine Ev.goto (t := 15) at_168 rfl ?_
                exact ih (x2 + (4 : Int32)) q19.2 (.val (.int ((sf (ix x2)) &&& (7 : Int32)))) rfl (.val (.int v4)) rfl (.val (.int v6)) rfl (.val (.int (sf (ix (x2 + (3 : Int32)))))) rfl _ hr
              · replace hr := (if_neg c18).symm.trans hr
                refine Ev.iloadN at_140 rfl ?_
                refine Ev.bipush (z := 6) at_141 rfl ?_
                refine Ev.icne (t := 154) at_143 rfl (fun c21 => ?_) (fun c21 => ?_)
                · replace hr := (if_pos c21).symm.trans hr
                  refine Ev.aloadN at_146 rfl ?_
                  obtain ⟨q22, hq23, hr⟩ := Option.bind_eq_some_iff.mp hr
                  refine Ev.virt (y := M_control) (args := []) (rest := []) (gok hw) rfl nm_control (ww hw 96 rfl) (ww hw 97 rfl) (ww hw 98 rfl) (ww hw 99 rfl) (ww hw 100 rfl) (lenOf pd_control rfl) at_147 (V.2.1 s) (e_control hw V hq23) (by decide) (Nat.le_of_ble_eq_true rfl) rfl ?_
                  refine Ev.pop at_150 rfl ?_
                  refine Ev.goto (t := 165) at_151 rfl ?_
                  refine Ev.iinc (z := 4) (L' := [.val (.ref 0), .val (.ref o), .val (.int (x2 + (4 : Int32))), .val (.int ((sf (ix x2)) &&& (7 : Int32))), .val (.int v4), .val (.int v6), .val (.int (sf (ix (x2 + (3 : Int32)))))]) at_165 rfl rfl rfl ?_
                  refine Ev.goto (t := 15) at_168 rfl ?_
                  exact ih (x2 + (4 : Int32)) q22.2 (.val (.int ((sf (ix x2)) &&& (7 : Int32)))) rfl (.val (.int v4)) rfl (.val (.int v6)) rfl (.val (.int (sf (ix (x2 + (3 : Int32)))))) rfl _ hr
                · replace hr := (if_neg c21).symm.trans hr
                  refine Ev.aloadN at_154 rfl ?_
                  refine Ev.iload at_155 rfl ?_
                  obtain ⟨q24, hq25, hr⟩ := Option.bind_eq_some_iff.mp hr
                  refine Ev.stat (y := M_hroundTrip) (args := [.ref o, .int v4]) (rest := []) nm_hroundTrip (ww hw 105 rfl) (ww hw 106 rfl) (ww hw 107 rfl) (ww hw 108 rfl) (lenOf pd_hroundTrip rfl) at_157 (e_hroundTrip hw V hq25) (by decide) (Nat.le_of_ble_eq_true rfl) rfl ?_
                  refine Ev.ifne (t := 165) at_160 rfl (fun c26 => ?_) (fun c26 => ?_)
                  · replace hr := (if_pos c26).symm.trans hr
                    refine Ev.iconst (z := 0) at_163 rfl ?_
                    cases hr
                    exact Ev.zret0 rfl at_164
                  · replace hr := (if_neg c26).symm.trans hr
                    refine Ev.iinc (z := 4) (L' := [.val (.ref 0), .val (.ref o), .val (.int (x2 + (4 : Int32))), .val (.int ((sf (ix x2)) &&& (7 : Int32))), .val (.int v4), .val (.int v6), .val (.int (sf (ix (x2 + (3 : Int32)))))]) at_165 rfl rfl rfl ?_
                    refine Ev.goto (t := 15) at_168 rfl ?_
                    exact ih (x2 + (4 : Int32)) q24.2 (.val (.int ((sf (ix x2)) &&& (7 : Int32)))) rfl (.val (.int v4)) rfl (.val (.int v6)) rfl (.val (.int (sf (ix (x2 + (3 : Int32)))))) rfl _ hr
        · replace hr := (if_neg c11).symm.trans hr
          refine Ev.aloadN at_83 rfl ?_
          refine Ev.iload at_84 rfl ?_
          refine Ev.iload at_86 rfl ?_
          refine Ev.iload at_88 rfl ?_
          obtain ⟨q27, hq28, hr⟩ := Option.bind_eq_some_iff.mp hr
          refine Ev.virt (y := M_write) (args := [.int v4, .int v6, .int (sf (ix (x2 + (3 : Int32))))]) (rest := []) (gok hw) rfl nm_write (ww hw 64 rfl) (ww hw 65 rfl) (ww hw 66 rfl) (ww hw 67 rfl) (ww hw 68 rfl) (lenOf pd_write rfl) at_90 (V.2.1 s) (e_write hw V hq28) (by decide) (Nat.le_of_ble_eq_true rfl) rfl ?_
          refine Ev.pop at_93 rfl ?_
          refine Ev.goto (t := 165) at_94 rfl ?_
          refine Ev.iinc (z := 4) (L' := [.val (.ref 0), .val (.ref o), .val (.int (x2 + (4 : Int32))), .val (.int ((sf (ix x2)) &&& (7 : Int32))), .val (.int v4), .val (.int v6), .val (.int (sf (ix (x2 + (3 : Int32)))))]) at_165 rfl rfl rfl ?_
          refine Ev.goto (t := 15) at_168 rfl ?_
          exact ih (x2 + (4 : Int32)) q27.2 (.val (.int ((sf (ix x2)) &&& (7 : Int32)))) rfl (.val (.int v4)) rfl (.val (.int v6)) rfl (.val (.int (sf (ix (x2 + (3 : Int32)))))) rfl _ hr
    · replace hr := (if_neg c1).symm.trans hr
      refine Ev.iconst (z := 1) at_171 rfl ?_
      cases hr
      exact Ev.zret1 rfl at_172
def f_law_12 (n : Nat) (sn : Nat) (sf : Nat → Int32) (s : St) : Option (Int32 × St) :=
  f_law_15 n sn sf n (0 : Int32) s
set_option maxRecDepth 100000 in
theorem e_law_12 {g : GT} {n : Nat} {sn : Nat} {sf : Nat → Int32} (hw : HW g) {K : St → MHeap} {o : Nat} {r : Nat → Nat} (hs : ∀ s, (K s)[0]? = some (.inr (false, tab sn sf))) (V : View (GG g) Ln K o r) (s : St) (y1 : Slot) (hy1 : one1 y1 = true) (y2 : Slot) (hy2 : one1 y2 = true) (y3 : Slot) (hy3 : one1 y3 = true) (y4 : Slot) (hy4 : one1 y4 = true) (y5 : Slot) (hy5 : one1 y5 = true) (y6 : Slot) (hy6 : one1 y6 = true) (w : Int32 × St) (hr : f_law_12 n sn sf s = some w) : Ev (GG g) M_law 12 [.val (.ref 0), y1, y2, y3, y4, y5, y6] [.ref o] (K s) ((some (.int w.1)), (K w.2)) := by
  unfold f_law_12 at hr
  refine Ev.astDN (L' := [.val (.ref 0), .val (.ref o), y2, y3, y4, y5, y6]) at_12 rfl hy1 rfl ?_
  refine Ev.iconst (z := 0) at_13 rfl ?_
  refine Ev.istDN (L' := [.val (.ref 0), .val (.ref o), .val (.int (0 : Int32)), y3, y4, y5, y6]) at_14 rfl hy2 rfl ?_
  exact e_law_15 hw hs V  n (0 : Int32) s y3 hy3 y4 hy4 y5 hy5 y6 hy6 _ hr
def f_law (n : Nat) (sn : Nat) (sf : Nat → Int32) : Option (Int32 × St) :=
  (f_ctor n (6 : Int32) (2 : Int32) (2 : Int32) (2 : Int32)).bind fun q1 =>
  f_law_12 n sn sf q1
set_option maxRecDepth 100000 in
theorem e_law {g : GT} {n : Nat} {sn : Nat} {sf : Nat → Int32} {w : Int32 × St} (hw : HW g) (hk : k0 (GG g) ≤ (H0 sn sf).length) (hr : f_law n sn sf = some w) : EvC (GG g) M_law [.ref 0] (H0 sn sf) ((some (.int w.1)), (KL sn sf w.2)) := by
  refine EvC.enter (L0 := [.val (.ref 0), .unset, .unset, .unset, .unset, .unset, .unset]) pl_law (fun h => nomatch h) rfl rfl ?_
  unfold f_law at hr
  refine Ev.new (gok hw) (ww hw 0 rfl) at_0 (fs := dfl) rfl ?_
  refine Ev.dup at_3 rfl ?_
  refine Ev.bipush (z := 6) at_4 rfl ?_
  refine Ev.iconst (z := 2) at_6 rfl ?_
  refine Ev.iconst (z := 2) at_7 rfl ?_
  refine Ev.iconst (z := 2) at_8 rfl ?_
  obtain ⟨q1, hq2, hr⟩ := Option.bind_eq_some_iff.mp hr
  refine Ev.ctor (y := M_ctor) (args := [.int (6 : Int32), .int (2 : Int32), .int (2 : Int32), .int (2 : Int32)]) (rest := [.ref (H0 sn sf).length]) rfl rfl nm_ctor (ww hw 3 rfl) (ww hw 4 rfl) (ww hw 5 rfl) (ww hw 2 rfl) (lenOf pd_ctor rfl) at_9 (e_ctor hw hk hq2) (by decide) (Nat.le_of_ble_eq_true rfl) rfl ?_
  exact e_law_12 hw (K := KL sn sf) (o := (H0 sn sf).length) (r := rA (H0 sn sf).length al) (fun _ => rfl) (view_of hk al_ok al_nd)  q1 .unset rfl .unset rfl .unset rfl .unset rfl .unset rfl .unset rfl _ hr
theorem fin_len (sn : Nat) (sf : Nat → Int32) (w : St) : (KL sn sf w).length - (H0 sn sf).length ≤ 40 := by
  have q : al.length = 15 := rfl
  unfold KL; rw [KH_len]; simp only [List.length_nil]; omega
theorem fin_hsl (sn : Nat) (sf : Nat → Int32) (w : St) : hsl 23 (KL sn sf w) - hsl 23 (H0 sn sf) ≤ 768 := by
  have q : (al.map fun q => Ln q.1).sum = 312 := by decide +kernel
  have z : hsl 23 [] = 0 := rfl
  unfold KL; rw [hsl_KH, q, z]; omega
set_option maxRecDepth 100000 in
theorem comes_1 (plain : ∀ (sn : Nat) (sf : Nat → Int32), sn ≤ 260 → ∃ n w, f_law n sn sf = some (1, w)) {Post : Tables → Env → Array Value → State → Outcome → State → Prop} (hpost : ∀ tb e args s v u, (limb_1_1.after args s (.returned v) u = true ∧ limb_1_2.after args s (.returned v) u = true ∧ True) → FrameEnd s (.returned v) u (Jvm.fieldLocs frame_1_writes args s ++ Jvm.arrayLocs frame_1_arrays args s ++ Jvm.staticLocs frame_1_statics s) 40 768 → Post tb e args s (.returned v) u) :
    ArmFor flags0 classFile x code maxLocals ret World_1 tables_1 room_1 Calls_1 rest_1 Pre_1 Post := by
  intro l hfl _ _ p e ha hc hk s m args below hf hA hF happ hP
  obtain ⟨hcalls, hrest, hpre⟩ := hP
  obtain ⟨-, -, -, hnamed, -, -, -, hat⟩ := (Spec.applies_iff hf).mp happ
  obtain ⟨hg, hn⟩ := and_e (Cond.before_iff.mp (show (Jvm.Cond.and given_1 narrow_1).before args s = true from hpre))
  obtain ⟨g0, hg⟩ := and_e hg
  obtain ⟨w0, rfl⟩ : ∃ w0 : Value, args = #[w0] := by
    have hs : args.size = 1 := by simpa [Cond.value, given_1] using g0
    obtain ⟨L⟩ := args
    match L, hs with
    | [w0], _ => exact ⟨w0, rfl⟩
  have hw := fun d (hd : d ∈ tables_1) => atoms_spec (ws := Jvm.Cond.code x code maxLocals ret :: tables_1) hat d (List.mem_cons_of_mem _ hd)
  have hfit : Fit s := fun {y c} hc i hi => by
    obtain ⟨ha, rfl⟩ := Array.getElem?_eq_some_iff.mp hc
    have q := List.all_eq_true.mp ((Array.all_eq_true_iff_forall_mem.mp hF) _ (Array.getElem_mem ha)) i (List.mem_range.mpr hi)
    simpa [Array.getElem?_eq_getElem hi] using q
  obtain ⟨n0, n1⟩ := and_e hn
  obtain ⟨a, ea⟩ := arr_v n0
  obtain rfl : w0 = .ref a := Option.some.inj ea
  obtain ⟨cl, A⟩ := Arr.start ea n0
  obtain ⟨r0, -⟩ := and_e (Cond.before_iff.mp (show rest_1_c.before _ s = true from hrest))
  have hle := script_len A ea r0 n1
  obtain ⟨xs, hxl, hrel⟩ := script_rel (l := l) (args := #[.ref a]) (C := "WorkingSetPager") (F := flds) (k := 23) hfit A
  obtain ⟨n, w, hr⟩ := plain xs.length (fun i => xs.getD i 0) (by rw [hxl]; exact hle)
  have hE := e_law (g := (s, #[.ref a], l, some a, s.heap.size)) hw (Nat.le_refl _) hr
  obtain ⟨n, o, h1, h2, h3, _, L, rfl, ⟨rfl, N, -⟩, hq⟩ := hE.2 tables_1 room_1 s.heap (by decide) (by decide) (fin_len _ _ w) (fin_hsl _ _ w) hrel p e ha hc hk s m _ below hf ((Spec.applies_iff_loose hf).mp happ).1 ⟨rfl, State.Warmed39.refl s, rfl⟩ trivial
  exact ⟨n, _, h1, h2, h3, hpost _ _ _ _ _ _ ⟨Cond.after_iff.mpr rfl, Cond.after_iff.mpr (eq_i res_at (Term.int_eval (1)) rfl), trivial⟩ ⟨hq.1, hq.2.1, (hq.2.2.sift fun y hy => Or.inr (N y hy)).mono (fin_len _ _ w) (fin_hsl _ _ w)⟩⟩
theorem u_ctor_170 (n : Nat) (k : Nat) (x5 : Int32) (s : St) : f_ctor_170 n (k + 1) x5 s =
    (if x5 < (32 : Int32) then
      grd (inb x5 32) <|
      bnd (setA s 2 (ix x5) (-1 : Int32)) fun s3 =>
      bnd (setA s3 1 (ix x5) (-1 : Int32)) fun s4 =>
      f_ctor_170 n k (x5 + (1 : Int32)) s4
    else
      some s) := rfl
theorem u_completeWriteBacks_4 (n : Nat) (k : Nat) (x1 : Int32) (x2 : Int32) (s : St) : f_completeWriteBacks_4 n (k + 1) x1 x2 s =
    (if x2 < (s.1 15) then
      grd (inb x2 32) <|
      if (s.2 2 (ix x2)) < 0 then
        f_completeWriteBacks_4 n k x1 (x2 + (1 : Int32)) s
      else
        if (3 : Int32) < (s.2 2 (ix x2)) then
          f_completeWriteBacks_4 n k x1 (x2 + (1 : Int32)) s
        else
          if (s.2 8 (ix x2)) = 0 then
            f_completeWriteBacks_4 n k x1 (x2 + (1 : Int32)) s
          else
            if (s.1 19) < (s.2 8 (ix x2)) then
              f_completeWriteBacks_4 n k x1 (x2 + (1 : Int32)) s
            else
              grd (inb (((s.2 2 (ix x2)) * (8 : Int32)) + ((s.2 3 (ix x2)) &&& (7 : Int32))) 32) <|
              bnd (setA s 0 (ix (((s.2 2 (ix x2)) * (8 : Int32)) + ((s.2 3 (ix x2)) &&& (7 : Int32)))) (s.2 4 (ix x2))) fun s8 =>
              bnd (setA s8 5 (ix x2) (0 : Int32)) fun s9 =>
              bnd (setA s9 8 (ix x2) (0 : Int32)) fun s10 =>
              f_completeWriteBacks_4 n k (x1 + (1 : Int32)) (x2 + (1 : Int32)) s10
    else
      some (x1, s)) := rfl
theorem u_sweep_2 (n : Nat) (k : Nat) (x1 : Int32) (s : St) : f_sweep_2 n (k + 1) x1 s =
    (if x1 < (s.1 15) then
      grd ((s.1 15) ≠ 0) <|
      grd (inb (((s.1 20) + x1) % (s.1 15)) 32) <|
      bnd (s.2 2 (ix (((s.1 20) + x1) % (s.1 15)))) fun v4 =>
      if v4 < 0 then
        some ((((s.1 20) + x1) % (s.1 15)), s)
      else
        if (3 : Int32) < v4 then
          some ((((s.1 20) + x1) % (s.1 15)), s)
        else
          if (s.2 6 (ix (((s.1 20) + x1) % (s.1 15)))) = 0 then
            grd (inb v4 4) <|
            bnd ((s.2 10 (ix v4)) - (s.2 7 (ix (((s.1 20) + x1) % (s.1 15))))) fun v9 =>
            if (s.1 16) < v9 then
              if (s.2 5 (ix (((s.1 20) + x1) % (s.1 15)))) = 0 then
                some ((((s.1 20) + x1) % (s.1 15)), s)
              else
                if (s.2 8 (ix (((s.1 20) + x1) % (s.1 15)))) = 0 then
                  bnd (setA s 8 (ix (((s.1 20) + x1) % (s.1 15))) ((s.1 19) + (s.1 17))) fun s13 =>
                  f_sweep_2 n k (x1 + (1 : Int32)) s13
                else
                  f_sweep_2 n k (x1 + (1 : Int32)) s
            else
              f_sweep_2 n k (x1 + (1 : Int32)) s
          else
            bnd (setA s 6 (ix (((s.1 20) + x1) % (s.1 15))) (0 : Int32)) fun s14 =>
            grd (inb v4 4) <|
            bnd (setA s14 7 (ix (((s.1 20) + x1) % (s.1 15))) (s14.2 10 (ix v4))) fun s16 =>
            f_sweep_2 n k (x1 + (1 : Int32)) s16
    else
      some ((-1 : Int32), s)) := rfl
theorem u_doSwapOut_9 (n : Nat) (k : Nat) (x1 : Int32) (x2 : Int32) (s : St) : f_doSwapOut_9 n (k + 1) x1 x2 s =
    (if x2 < (s.1 15) then
      grd (inb x2 32) <|
      if (s.2 2 (ix x2)) = x1 then
        grd (inb ((x1 * (8 : Int32)) + ((s.2 3 (ix x2)) &&& (7 : Int32))) 32) <|
        bnd (setA s 0 (ix ((x1 * (8 : Int32)) + ((s.2 3 (ix x2)) &&& (7 : Int32)))) (s.2 4 (ix x2))) fun s5 =>
        grd (inb x1 4) <|
        bnd (setA s5 12 (ix x1) ((s5.2 12 (ix x1)) ||| ((1 : Int32) <<< (((s.2 3 (ix x2)) &&& (7 : Int32)) &&& 31)))) fun s7 =>
        bnd (setA s7 1 (ix ((x1 * (8 : Int32)) + ((s.2 3 (ix x2)) &&& (7 : Int32)))) (-1 : Int32)) fun s8 =>
        (f_freeFrame x2 s8).bind fun q9 =>
        f_doSwapOut_9 n k x1 (x2 + (1 : Int32)) q9
      else
        f_doSwapOut_9 n k x1 (x2 + (1 : Int32)) s
    else
      grd (inb x1 4) <|
      bnd (setA s 9 (ix x1) ((1 : Int32) &&& 1)) fun s12 =>
      some s12) := rfl
theorem u_bitCount_4 (n : Nat) (s : St) (k : Nat) (x1 : Int32) (x2 : Int32) (x3 : Int32) : f_bitCount_4 n s (k + 1) x1 x2 x3 =
    (if x3 < (8 : Int32) then
      if (x1 &&& ((1 : Int32) <<< (x3 &&& 31))) = 0 then
        f_bitCount_4 n s k x1 x2 (x3 + (1 : Int32))
      else
        f_bitCount_4 n s k x1 (x2 + (1 : Int32)) (x3 + (1 : Int32))
    else
      some x2) := rfl
theorem u_countFree_4 (n : Nat) (s : St) (k : Nat) (x1 : Int32) (x2 : Int32) : f_countFree_4 n s (k + 1) x1 x2 =
    (if x2 < (s.1 15) then
      grd (inb x2 32) <|
      if (s.2 2 (ix x2)) < 0 then
        f_countFree_4 n s k (x1 + (1 : Int32)) (x2 + (1 : Int32))
      else
        f_countFree_4 n s k x1 (x2 + (1 : Int32))
    else
      some x1) := rfl
theorem u_lowestFree_2 (n : Nat) (s : St) (k : Nat) (x1 : Int32) : f_lowestFree_2 n s (k + 1) x1 =
    (if x1 < (s.1 15) then
      grd (inb x1 32) <|
      if (s.2 2 (ix x1)) < 0 then
        some x1
      else
        f_lowestFree_2 n s k (x1 + (1 : Int32))
    else
      some (-1 : Int32)) := rfl
theorem u_doSwapIn_2 (n : Nat) (k : Nat) (x1 : Int32) (x2 : Int32) (s : St) : f_doSwapIn_2 n (k + 1) x1 x2 s =
    (if x2 < (8 : Int32) then
      grd (inb x1 4) <|
      if ((s.2 12 (ix x1)) &&& ((1 : Int32) <<< (x2 &&& 31))) = 0 then
        f_doSwapIn_2 n k x1 (x2 + (1 : Int32)) s
      else
        (f_lowestFree n s).bind fun q4 =>
        if q4 < 0 then
          f_doSwapIn_2 n k x1 (x2 + (1 : Int32)) s
        else
          grd (inb q4 32) <|
          bnd (setA s 2 (ix q4) x1) fun s8 =>
          bnd (setA s8 3 (ix q4) x2) fun s9 =>
          grd (inb ((x1 * (8 : Int32)) + x2) 32) <|
          bnd (setA s9 1 (ix ((x1 * (8 : Int32)) + x2)) q4) fun s11 =>
          bnd (setA s11 4 (ix q4) (s11.2 0 (ix ((x1 * (8 : Int32)) + x2)))) fun s12 =>
          bnd (setA s12 5 (ix q4) (0 : Int32)) fun s13 =>
          bnd (setA s13 6 (ix q4) (0 : Int32)) fun s14 =>
          bnd (setA s14 8 (ix q4) (0 : Int32)) fun s15 =>
          bnd (setA s15 7 (ix q4) (s15.2 10 (ix x1))) fun s16 =>
          f_doSwapIn_2 n k x1 (x2 + (1 : Int32)) s16
    else
      grd (inb x1 4) <|
      bnd (setA s 12 (ix x1) (0 : Int32)) fun s18 =>
      bnd (setA s18 9 (ix x1) ((0 : Int32) &&& 1)) fun s19 =>
      some s19) := rfl
theorem u_control_121 (n : Nat) (k : Nat) (x6 : Int32) (x7 : Int32) (s : St) : f_control_121 n (k + 1) x6 x7 s =
    (if x7 < (4 : Int32) then
      grd (inb x7 4) <|
      bnd (setA s 13 (ix x7) (0 : Int32)) fun s3 =>
      bnd (setA s3 14 (ix x7) (0 : Int32)) fun s4 =>
      f_control_121 n k x6 (x7 + (1 : Int32)) s4
    else
      some (x6, s)) := rfl
theorem u_control_15 (n : Nat) (k : Nat) (x1 : Int32) (x2 : Int32) (x3 : Int32) (x4 : Int32) (x5 : Int32) (x6 : Int32) (s : St) : f_control_15 n (k + 1) x1 x2 x3 x4 x5 x6 s =
    (if x6 < (4 : Int32) then
      grd (inb x6 4) <|
      if (s.2 9 (ix x6)) = 0 then
        if (s.2 14 (ix x6)) < ((s.2 13 (ix x6)) * (s.1 18)) then
          f_control_72 n (f_control_15 n k) (x1 + (1 : Int32)) x6 x3 (1 : Int32) x5 x6 s
        else
          f_control_72 n (f_control_15 n k) (x1 + (1 : Int32)) x6 x3 x4 x5 x6 s
      else
        if x3 < 0 then
          f_control_15 n k x1 x2 x6 x4 x5 (x6 + (1 : Int32)) s
        else
          f_control_15 n k x1 x2 x3 x4 x5 (x6 + (1 : Int32)) s
    else
      (f_decide n x4 x1 x2 x3 x5 s).bind fun q6 =>
      f_control_121 n n q6.1 (0 : Int32) q6.2) := rfl
theorem u_hothers_55 (n : Nat) (s : St) (k5 : Int32 → Int64 → Int32 → Option (Int64)) (k : Nat) (x1 : Int32) (x2 : Int64) (x4 : Int32) (x5 : Int32) : f_hothers_55 n s k5 (k + 1) x1 x2 x4 x5 =
    (if x5 < (8 : Int32) then
      (f_frameOf s x4 x5).bind fun q2 =>
      bnd ((x2 * (1000003 : Int64)) + (q2).toInt64) fun v4 =>
      (f_diskValue s x4 x5).bind fun q5 =>
      bnd ((v4 * (1000003 : Int64)) + (q5).toInt64) fun v7 =>
      if q2 < 0 then
        f_hothers_55 n s k5 k x1 v7 x4 (x5 + (1 : Int32))
      else
        (f_frameInfo s q2).bind fun q9 =>
        bnd ((v7 * (1000003 : Int64)) + (q9).toInt64) fun v11 =>
        (f_lastUse s q2).bind fun q12 =>
        bnd ((v11 * (1000003 : Int64)) + (q12).toInt64) fun v14 =>
        (f_dueTime s q2).bind fun q15 =>
        bnd ((v14 * (1000003 : Int64)) + (q15).toInt64) fun v17 =>
        f_hothers_55 n s k5 k x1 v17 x4 (x5 + (1 : Int32))
    else
      k5 x1 x2 (x4 + (1 : Int32))) := rfl
theorem u_hothers_23 (n : Nat) (s : St) (k5 : Int32 → Int64 → Int32 → Option (Int64)) (k : Nat) (x1 : Int32) (x2 : Int64) (x4 : Int32) (x5 : Int32) : f_hothers_23 n s k5 (k + 1) x1 x2 x4 x5 =
    (if x5 < (6 : Int32) then
      (f_procInfo s x4 x5).bind fun q2 =>
      bnd ((x2 * (1000003 : Int64)) + (q2).toInt64) fun v4 =>
      f_hothers_23 n s k5 k x1 v4 x4 (x5 + (1 : Int32))
    else
      f_hothers_55 n s k5 n x1 x2 x4 (0 : Int32)) := rfl
theorem u_hothers_5 (n : Nat) (s : St) (k : Nat) (x1 : Int32) (x2 : Int64) (x4 : Int32) : f_hothers_5 n s (k + 1) x1 x2 x4 =
    (if x4 < (4 : Int32) then
      if x4 = x1 then
        f_hothers_5 n s k x1 x2 (x4 + (1 : Int32))
      else
        f_hothers_23 n s (f_hothers_5 n s k) n x1 x2 x4 (0 : Int32)
    else
      some x2) := rfl
theorem u_hroundTrip_372 (n : Nat) (k : Nat) (x1 : Int32) (x2 : Int32) (x3 : Int64) (x14 : Int64) (x16 : Int64) (x18 : Int32) (s : St) : f_hroundTrip_372 n (k + 1) x1 x2 x3 x14 x16 x18 s =
    (if x18 < (8 : Int32) then
      if ((x2 >>> (x18 &&& 31)) &&& (1 : Int32)) = 0 then
        f_hroundTrip_372 n k x1 x2 x3 x14 x16 (x18 + (1 : Int32)) s
      else
        (f_diskValue s x1 x18).bind fun q3 =>
        (f_read n x1 x18 s).bind fun q5 =>
        bnd ((x14 * (1000003 : Int64)) + (q3).toInt64) fun v7 =>
        bnd ((x16 * (1000003 : Int64)) + (q5.1).toInt64) fun v8 =>
        f_hroundTrip_372 n k x1 x2 x3 v7 v8 (x18 + (1 : Int32)) q5.2
    else
      if (XT.cmpL x14 x3) = 0 then
        if (XT.cmpL x16 x3) = 0 then
          some ((1 : Int32), s)
        else
          some ((0 : Int32), s)
      else
        some ((0 : Int32), s)) := rfl
theorem u_hroundTrip_279 (n : Nat) (k : Nat) (x1 : Int32) (x2 : Int32) (x3 : Int64) (x7 : Int32) (x14 : Int32) (s : St) : f_hroundTrip_279 n (k + 1) x1 x2 x3 x7 x14 s =
    (if x14 < (8 : Int32) then
      (f_frameOf s x1 x14).bind fun q2 =>
      if ((x2 >>> (x14 &&& 31)) &&& (1 : Int32)) = 0 then
        if q2 < 0 then
          f_hroundTrip_279 n k x1 x2 x3 x7 (x14 + (1 : Int32)) s
        else
          some ((0 : Int32), s)
      else
        if q2 < 0 then
          some ((0 : Int32), s)
        else
          (f_frameInfo s q2).bind fun q7 =>
          if q7 = (((32 : Int32) + (x1 * (8 : Int32))) + x14) then
            (f_lastUse s q2).bind fun q10 =>
            if q10 = x7 then
              (f_dueTime s q2).bind fun q13 =>
              if q13 = 0 then
                f_hroundTrip_279 n k x1 x2 x3 x7 (x14 + (1 : Int32)) s
              else
                some ((0 : Int32), s)
            else
              some ((0 : Int32), s)
          else
            some ((0 : Int32), s)
    else
      f_hroundTrip_372 n n x1 x2 x3 (0 : Int64) (0 : Int64) (0 : Int32) s) := rfl
theorem u_hroundTrip_23 (n : Nat) (k : Nat) (x1 : Int32) (x2 : Int32) (x3 : Int64) (x5 : Int32) (s : St) : f_hroundTrip_23 n (k + 1) x1 x2 x3 x5 s =
    (if x5 < (8 : Int32) then
      (f_frameOf s x1 x5).bind fun q2 =>
      if q2 < 0 then
        f_hroundTrip_23 n k x1 x2 x3 (x5 + (1 : Int32)) s
      else
        (f_read n x1 x5 s).bind fun q5 =>
        bnd ((x3 * (1000003 : Int64)) + (q5.1).toInt64) fun v7 =>
        f_hroundTrip_23 n k x1 (x2 ||| ((1 : Int32) <<< (x5 &&& 31))) v7 (x5 + (1 : Int32)) q5.2
    else
      (f_hothers n s x1).bind fun q8 =>
      (f_procInfo s x1 (0 : Int32)).bind fun q10 =>
      (f_procInfo s x1 (1 : Int32)).bind fun q12 =>
      (f_procInfo s x1 (4 : Int32)).bind fun q14 =>
      (f_procInfo s x1 (5 : Int32)).bind fun q16 =>
      (f_hand s).bind fun q18 =>
      (f_now s).bind fun q20 =>
      (f_lastStatus s).bind fun q22 =>
      (f_swapOut n x1 s).bind fun q24 =>
      if q24.1 = (6 : Int32) then
        (f_procInfo q24.2 x1 (3 : Int32)).bind fun q27 =>
        if q27 = x2 then
          (f_swapIn n x1 q24.2).bind fun q30 =>
          if q30.1 = (6 : Int32) then
            (f_procInfo q30.2 x1 (3 : Int32)).bind fun q33 =>
            if q33 = 0 then
              (f_procInfo q30.2 x1 (2 : Int32)).bind fun q36 =>
              if q36 = 0 then
                (f_procInfo q30.2 x1 (0 : Int32)).bind fun q39 =>
                if q39 = q10 then
                  (f_procInfo q30.2 x1 (1 : Int32)).bind fun q42 =>
                  if q42 = q12 then
                    (f_procInfo q30.2 x1 (4 : Int32)).bind fun q45 =>
                    if q45 = q14 then
                      (f_procInfo q30.2 x1 (5 : Int32)).bind fun q48 =>
                      if q48 = q16 then
                        (f_hand q30.2).bind fun q51 =>
                        if q51 = q18 then
                          (f_now q30.2).bind fun q54 =>
                          if q54 = q20 then
                            (f_lastStatus q30.2).bind fun q57 =>
                            if q57 = q22 then
                              (f_hothers n q30.2 x1).bind fun q60 =>
                              if (XT.cmpL q60 q8) = 0 then
                                f_hroundTrip_279 n n x1 x2 x3 q10 (0 : Int32) q30.2
                              else
                                some ((0 : Int32), q30.2)
                            else
                              some ((0 : Int32), q30.2)
                          else
                            some ((0 : Int32), q30.2)
                        else
                          some ((0 : Int32), q30.2)
                      else
                        some ((0 : Int32), q30.2)
                    else
                      some ((0 : Int32), q30.2)
                  else
                    some ((0 : Int32), q30.2)
                else
                  some ((0 : Int32), q30.2)
              else
                some ((0 : Int32), q30.2)
            else
              some ((0 : Int32), q30.2)
          else
            some ((0 : Int32), q30.2)
        else
          some ((0 : Int32), q24.2)
      else
        some ((0 : Int32), q24.2)) := rfl
theorem u_law_15 (n : Nat) (sn : Nat) (sf : Nat → Int32) (k : Nat) (x2 : Int32) (s : St) : f_law_15 n sn sf (k + 1) x2 s =
    (if (x2 + (3 : Int32)) < sn.toInt32 then
      grd (inb x2 sn) <|
      grd (inb (x2 + (1 : Int32)) sn) <|
      bnd (((sf (ix (x2 + (1 : Int32)))) &&& (7 : Int32)) % (5 : Int32)) fun v4 =>
      grd (inb (x2 + (2 : Int32)) sn) <|
      bnd (((sf (ix (x2 + (2 : Int32)))) &&& (15 : Int32)) % (9 : Int32)) fun v6 =>
      grd (inb (x2 + (3 : Int32)) sn) <|
      if ((sf (ix x2)) &&& (7 : Int32)) = 0 then
        (f_read n v4 v6 s).bind fun q9 =>
        f_law_15 n sn sf k (x2 + (4 : Int32)) q9.2
      else
        if (2 : Int32) < ((sf (ix x2)) &&& (7 : Int32)) then
          if ((sf (ix x2)) &&& (7 : Int32)) = (3 : Int32) then
            (f_tick n s).bind fun q13 =>
            f_law_15 n sn sf k (x2 + (4 : Int32)) q13.2
          else
            if ((sf (ix x2)) &&& (7 : Int32)) = (4 : Int32) then
              (f_swapOut n v4 s).bind fun q16 =>
              f_law_15 n sn sf k (x2 + (4 : Int32)) q16.2
            else
              if ((sf (ix x2)) &&& (7 : Int32)) = (5 : Int32) then
                (f_swapIn n v4 s).bind fun q19 =>
                f_law_15 n sn sf k (x2 + (4 : Int32)) q19.2
              else
                if ((sf (ix x2)) &&& (7 : Int32)) = (6 : Int32) then
                  (f_control n s).bind fun q22 =>
                  f_law_15 n sn sf k (x2 + (4 : Int32)) q22.2
                else
                  (f_hroundTrip n v4 s).bind fun q24 =>
                  if q24.1 = 0 then
                    some ((0 : Int32), q24.2)
                  else
                    f_law_15 n sn sf k (x2 + (4 : Int32)) q24.2
        else
          (f_write n v4 v6 (sf (ix (x2 + (3 : Int32)))) s).bind fun q27 =>
          f_law_15 n sn sf k (x2 + (4 : Int32)) q27.2
    else
      some ((1 : Int32), s)) := rfl
/-! ### the plain law -/
theorem own_clamp (s : St) (a lo hi : Int32) : f_clamp s a lo hi = some (own_cl a lo hi) := by
  unfold f_clamp own_cl
  split
  · rfl
  · split <;> rfl
theorem own_fill (n k : Nat) (s : St) (hk : 32 < k) : f_ctor_170 n k 0 s = some (s.1, fun j x => if 0 ≤ x ∧ x < 0 + 32 then (if j = 1 ∨ j = 2 then -1 else s.2 j x) else s.2 j x) := by
  have h := loopN (F := f_ctor_170 n) (N := 32) (f := fun i s => setA (setA s 2 i (-1)) 1 i (-1)) (fin := fun s => some s)
    (fun k i s hi => by
      rw [u_ctor_170, if_pos (ltZ (z := 32) 32 rfl hi (by omega)), grd_pos ((inb_N (by omega)).mpr hi), bnd_eq, bnd_eq, ix_N (by omega)])
    (fun k s => by rw [u_ctor_170, if_neg (by decide)]) 32 0 k s (by omega) hk
  rw [itr_pt (f := fun i s => setA (setA s 2 i (-1)) 1 i (-1)) (u := fun j v => if j = 1 ∨ j = 2 then -1 else v) (fun _ _ => rfl) (fun i s j x => by
    simp only [setA_2]
    by_cases e : x = i
    · by_cases e1 : j = 1
      · simp [e, e1]
      · by_cases e2 : j = 2
        · simp [e, e2]
        · simp [e1, e2]
    · simp [e])] at h
  exact h
theorem own_ctor {n : Nat} (hn : 33 ≤ n) (a b c d : Int32) : ∃ s, f_ctor n a b c d = some s ∧ s.1 15 = own_cl a 4 32 ∧ s.1 16 = own_cl b 1 64 ∧ s.1 17 = own_cl c 1 8 ∧ s.1 18 = own_cl d 1 16 ∧ s.1 20 = 0 ∧ s.1 19 = 0 ∧ s.1 22 = 0 ∧ (∀ j x, x < 32 → s.2 j x = if j = 1 ∨ j = 2 then -1 else 0) := by
  unfold f_ctor f_ctor_118
  simp only [own_clamp, Option.bind_some, bnd_eq]
  rw [own_fill n n _ (by omega)]
  refine ⟨_, rfl, rfl, rfl, rfl, rfl, rfl, rfl, rfl, fun j x hx => ?_⟩
  have : 0 ≤ x ∧ x < 0 + 32 := by omega
  simp only [this, and_self, if_true]
  rfl
/-- what keeps every method of the pager from throwing -/
def own_P (s : St) : Prop := ∃ N H : Nat, s.1 15 = Int32.ofNat N ∧ 4 ≤ N ∧ N ≤ 32 ∧ s.1 20 = Int32.ofNat H ∧ H < N
theorem own_P_of {s t : St} (h : own_P s) (e1 : t.1 15 = s.1 15) (e2 : t.1 20 = s.1 20) : own_P t := by
  obtain ⟨N, H, a, b, c, d, e⟩ := h
  exact ⟨N, H, e1.trans a, b, c, e2.trans d, e⟩
theorem own_cwb4 (n N : Nat) (hN : N ≤ 32) : ∀ (m i k : Nat) (c : Int32) (s : St), i + m = N → m < k → s.1 15 = Int32.ofNat N → ∃ c' s', f_completeWriteBacks_4 n k c (Int32.ofNat i) s = some (c', s') ∧ s'.1 = s.1 := by
  intro m
  induction m with
  | zero =>
    intro i k c s hi hk e
    obtain ⟨k, rfl⟩ : ∃ k', k = k' + 1 := ⟨k - 1, by omega⟩
    have : i = N := by omega
    subst this
    rw [u_completeWriteBacks_4, e, if_neg (fun q => by rw [N_lt (by omega) (by omega)] at q; omega)]
    exact ⟨_, _, rfl, rfl⟩
  | succ m ih =>
    intro i k c s hi hk e
    obtain ⟨k, rfl⟩ : ∃ k', k = k' + 1 := ⟨k - 1, by omega⟩
    rw [u_completeWriteBacks_4, e, if_pos ((N_lt (by omega) (by omega)).mpr (by omega)), grd_pos ((inb_N (by omega)).mpr (by omega)), N_succ]
    have go := ih (i + 1) k
    by_cases c1 : s.2 2 (ix (Int32.ofNat i)) < 0
    · rw [if_pos c1]; exact go _ _ (by omega) (by omega) e
    by_cases c2 : 3 < s.2 2 (ix (Int32.ofNat i))
    · rw [if_neg c1, if_pos c2]; exact go _ _ (by omega) (by omega) e
    by_cases c3 : s.2 8 (ix (Int32.ofNat i)) = 0
    · rw [if_neg c1, if_neg c2, if_pos c3]; exact go _ _ (by omega) (by omega) e
    by_cases c4 : s.1 19 < s.2 8 (ix (Int32.ofNat i))
    · rw [if_neg c1, if_neg c2, if_neg c3, if_pos c4]; exact go _ _ (by omega) (by omega) e
    rw [if_neg c1, if_neg c2, if_neg c3, if_neg c4, grd_pos (idx8 c1 c2), bnd_eq, bnd_eq, bnd_eq]
    obtain ⟨c', s', h1, h2⟩ := go (c + 1) (setA (setA (setA s 0 (ix (s.2 2 (ix (Int32.ofNat i)) * 8 + (s.2 3 (ix (Int32.ofNat i)) &&& 7))) (s.2 4 (ix (Int32.ofNat i)))) 5 (ix (Int32.ofNat i)) 0) 8 (ix (Int32.ofNat i)) 0) (by omega) (by omega) e
    exact ⟨c', s', h1, h2⟩
theorem own_cwb {n : Nat} (hn : 40 ≤ n) {s : St} (h : own_P s) : ∃ c s', f_completeWriteBacks n s = some (c, s') ∧ s'.1 = s.1 := by
  obtain ⟨N, H, a, b, c, d, e⟩ := h
  exact own_cwb4 n N c N 0 n 0 s (by omega) (by omega) a
theorem own_hit {f p w x : Int32} {s : St} (hf : inb f 32) (hp : inb p 4) : ∃ s', f_hit f p w x s = some s' ∧ s'.1 = s.1 := by
  simp only [f_hit, bnd_eq, grd_pos hf, grd_pos hp]
  by_cases c : w = 0
  · simp only [c, if_true]; exact ⟨_, rfl, rfl⟩
  · simp only [c, if_false]; exact ⟨_, rfl, rfl⟩
theorem own_sweep2 (n N H : Nat) (hN : N ≤ 32) (h4 : 4 ≤ N) (hH : H < N) : ∀ (m i k : Nat) (s : St), i + m = N → m < k → s.1 15 = Int32.ofNat N → s.1 20 = Int32.ofNat H →
    ∃ v s', f_sweep_2 n k (Int32.ofNat i) s = some (v, s') ∧ s'.1 = s.1 ∧ (¬ v < 0 → inb v N) := by
  intro m
  induction m with
  | zero =>
    intro i k s hi hk e eh
    obtain ⟨k, rfl⟩ : ∃ k', k = k' + 1 := ⟨k - 1, by omega⟩
    have : i = N := by omega
    subst this
    rw [u_sweep_2, e, if_neg (fun q => by rw [N_lt (by omega) (by omega)] at q; omega)]
    exact ⟨_, _, rfl, rfl, fun q => absurd (by decide) q⟩
  | succ m ih =>
    intro i k s hi hk e eh
    obtain ⟨k, rfl⟩ : ∃ k', k = k' + 1 := ⟨k - 1, by omega⟩
    have hne : Int32.ofNat N ≠ 0 := fun q => by
      have := (N_inj (j := 0) (by omega) (by omega)).mp q
      omega
    have er : (Int32.ofNat H + Int32.ofNat i) % Int32.ofNat N = Int32.ofNat ((H + i) % N) := by rw [N_add, rem_N (by omega) (by omega) (by omega)]
    have hlt : (H + i) % N < N := Nat.mod_lt _ (by omega)
    have hb : inb (Int32.ofNat ((H + i) % N)) 32 := (inb_N (by omega)).mpr (by omega)
    have hbN : inb (Int32.ofNat ((H + i) % N)) N := (inb_N (by omega)).mpr hlt
    rw [u_sweep_2, e, eh, if_pos ((N_lt (by omega) (by omega)).mpr (by omega)), grd_pos hne, er, grd_pos hb, N_succ, bnd_eq]
    have go := ih (i + 1) k
    by_cases c1 : s.2 2 (ix (Int32.ofNat ((H + i) % N))) < 0
    · rw [if_pos c1]; exact ⟨_, _, rfl, rfl, fun _ => hbN⟩
    by_cases c2 : 3 < s.2 2 (ix (Int32.ofNat ((H + i) % N)))
    · rw [if_neg c1, if_pos c2]; exact ⟨_, _, rfl, rfl, fun _ => hbN⟩
    have hb4 : inb (s.2 2 (ix (Int32.ofNat ((H + i) % N)))) 4 := inb_le c1 c2 (by decide)
    rw [if_neg c1, if_neg c2]
    by_cases c3 : s.2 6 (ix (Int32.ofNat ((H + i) % N))) = 0
    · rw [if_pos c3, grd_pos hb4, bnd_eq]
      split
      · split
        · exact ⟨_, _, rfl, rfl, fun _ => hbN⟩
        · split
          · rw [bnd_eq]
            obtain ⟨v, s', h1, h2, h3⟩ := go (setA s 8 (ix (Int32.ofNat ((H + i) % N))) (s.1 19 + s.1 17)) (by omega) (by omega) e eh
            exact ⟨v, s', h1, h2, h3⟩
          · exact go _ (by omega) (by omega) e eh
      · exact go _ (by omega) (by omega) e eh
    · rw [if_neg c3, bnd_eq, grd_pos hb4, bnd_eq]
      obtain ⟨v, s', h1, h2, h3⟩ := go (setA (setA s 6 (ix (Int32.ofNat ((H + i) % N))) 0) 7 (ix (Int32.ofNat ((H + i) % N))) ((setA s 6 (ix (Int32.ofNat ((H + i) % N))) 0).2 10 (ix (s.2 2 (ix (Int32.ofNat ((H + i) % N))))))) (by omega) (by omega) e eh
      exact ⟨v, s', h1, h2, h3⟩
theorem own_sweep {n : Nat} (hn : 40 ≤ n) {s : St} (h : own_P s) : ∃ v s', f_sweep n s = some (v, s') ∧ s'.1 = s.1 ∧ (¬ v < 0 → inb v 32 ∧ ∃ N : Nat, s.1 15 = Int32.ofNat N ∧ inb v N) := by
  obtain ⟨N, H, a, b, c, d, e⟩ := h
  obtain ⟨v, s', h1, h2, h3⟩ := own_sweep2 n N H c b e N 0 n s (by omega) (by omega) a d
  exact ⟨v, s', h1, h2, fun q => ⟨⟨(h3 q).1, Nat.lt_of_lt_of_le (h3 q).2 c⟩, N, a, h3 q⟩⟩
theorem own_load160 {f : Int32} {s : St} (h : own_P s) (hf : inb f 32) : ∃ s', f_load_160 f s = some s' ∧ own_P s' := by
  obtain ⟨N, H, a, b, c, d, e⟩ := h
  have hne : Int32.ofNat N ≠ 0 := fun q => by
    have := (N_inj (j := 0) (by omega) (by omega)).mp q
    omega
  have hfi := hf.2
  have ef : f + 1 = Int32.ofNat (ix f + 1) := by rw [← N_succ, N_ix hf.1]
  simp only [f_load_160, a, grd_pos hne, bnd_eq]
  refine ⟨_, rfl, N, (ix f + 1) % N, ?_, b, c, ?_, Nat.mod_lt _ (by omega)⟩
  · rw [setI_1, if_neg (by decide)]; exact a
  · rw [setI_1, if_pos rfl, ef, rem_N (by omega) (by omega) (by omega)]
theorem own_load44 {f p v w x : Int32} {s : St} (h : own_P s) (hf : inb f 32) (hp : inb p 4) (hv : inb (p * 8 + v) 32) : ∃ s', f_load_44 f p v w x s = some s' ∧ own_P s' := by
  simp only [f_load_44, bnd_eq, grd_pos hf, grd_pos hp, grd_pos hv]
  by_cases c : w = 0
  · simp only [c, if_true]
    exact own_load160 (own_P_of h rfl rfl) hf
  · simp only [c, if_false]
    exact own_load160 (own_P_of h rfl rfl) hf
theorem own_load {f p v w x : Int32} {s : St} (h : own_P s) (hf : inb f 32) (hp : inb p 4) (hv : inb (p * 8 + v) 32) : ∃ s', f_load f p v w x s = some s' ∧ own_P s' := by
  simp only [f_load, grd_pos hf]
  by_cases c1 : s.2 2 (ix f) < 0
  · simp only [c1, if_true]; exact own_load44 h hf hp hv
  · by_cases c2 : 3 < s.2 2 (ix f)
    · simp only [c1, c2, if_true, if_false]; exact own_load44 h hf hp hv
    · simp only [c1, c2, if_false, bnd_eq, grd_pos (idx8 c1 c2)]
      exact own_load44 (own_P_of h rfl rfl) hf hp hv
/-- an access: no throw; a frame in accFrame where it came to one -/
theorem own_access {n : Nat} (hn : 40 ≤ n) {p v w x : Int32} {s : St} (h : own_P s) : ∃ c s', f_access n p v w x s = some (c, s') ∧ own_P s' ∧ (c = 1 ∨ c = 2 → inb (s'.1 21) 32) := by
  have no : ∀ c : Int32, c ≠ 1 → c ≠ 2 → ∀ s' : St, c = 1 ∨ c = 2 → inb (s'.1 21) 32 := fun c a b s' q => by
    rcases q with q | q
    · exact absurd q a
    · exact absurd q b
  unfold f_access
  by_cases c1 : p < 0
  · simp only [c1, if_true]; exact ⟨_, _, rfl, h, no 5 (by decide) (by decide) s⟩
  by_cases c2 : 3 < p
  · simp only [c1, c2, if_true, if_false]; exact ⟨_, _, rfl, h, no 5 (by decide) (by decide) s⟩
  by_cases c3 : v < 0
  · simp only [c1, c2, c3, if_true, if_false]; exact ⟨_, _, rfl, h, no 5 (by decide) (by decide) s⟩
  by_cases c4 : 7 < v
  · simp only [c1, c2, c3, c4, if_true, if_false]; exact ⟨_, _, rfl, h, no 5 (by decide) (by decide) s⟩
  have hp : inb p 4 := inb_le c1 c2 (by decide)
  obtain ⟨hv, -⟩ := idx8' c1 c2 c3 c4
  simp only [c1, c2, c3, c4, if_false, grd_pos hp]
  by_cases c5 : s.2 9 (ix p) = 0
  · simp only [c5, if_true, bnd_eq]
    obtain ⟨c, t, e1, e2⟩ := own_cwb hn (s := setI s 19 (s.1 19 + 1)) (own_P_of h rfl rfl)
    have ht : own_P t := own_P_of (own_P_of (t := setI s 19 (s.1 19 + 1)) h rfl rfl) (by rw [e2]) (by rw [e2])
    simp only [e1, Option.bind_some, grd_pos hv]
    have h90 : ∃ c s', f_access_90 n p v w x t = some (c, s') ∧ own_P s' ∧ (c = 1 ∨ c = 2 → inb (s'.1 21) 32) := by
      simp only [f_access_90, grd_pos hp, bnd_eq]
      obtain ⟨f, u, e3, e4, e5⟩ := own_sweep hn (s := setA (setA t 11 (ix p) (t.2 11 (ix p) + 1)) 13 (ix p) ((setA t 11 (ix p) (t.2 11 (ix p) + 1)).2 13 (ix p) + 1)) (own_P_of ht rfl rfl)
      simp only [e3, Option.bind_some]
      have hu : own_P u := own_P_of ht (by rw [e4]; rfl) (by rw [e4]; rfl)
      by_cases c6 : f < 0
      · simp only [c6, if_true]; exact ⟨_, _, rfl, hu, no 3 (by decide) (by decide) u⟩
      · simp only [c6, if_false]
        obtain ⟨z, e6, e7⟩ := own_load (p := p) (v := v) (w := w) (x := x) hu (e5 c6).1 hp hv
        simp only [e6, Option.bind_some]
        exact ⟨_, _, rfl, own_P_of e7 rfl rfl, fun _ => (e5 c6).1⟩
    by_cases c6 : t.2 1 (ix (p * 8 + v)) < 0
    · simp only [c6, if_true]; exact h90
    · by_cases c7 : t.2 1 (ix (p * 8 + v)) < 32
      · simp only [c6, c7, if_true, if_false]
        have hb : inb (t.2 1 (ix (p * 8 + v))) 32 := inb_lt c6 c7 (by decide)
        obtain ⟨z, e6, e7⟩ := own_hit (w := w) (x := x) (s := t) hb hp
        simp only [e6, Option.bind_some]
        exact ⟨_, _, rfl, own_P_of (own_P_of (t := z) ht (by rw [e7]) (by rw [e7])) rfl rfl, fun _ => hb⟩
      · simp only [c6, c7, if_false]; exact h90
  · simp only [c5, if_false]; exact ⟨_, _, rfl, h, no 4 (by decide) (by decide) s⟩
theorem own_read {n : Nat} (hn : 40 ≤ n) {p v : Int32} {s : St} (h : own_P s) : ∃ c s', f_read n p v s = some (c, s') ∧ own_P s' := by
  obtain ⟨c, t, e1, e2, e3⟩ := own_access hn (p := p) (v := v) (w := 0) (x := 0) h
  simp only [f_read, e1, Option.bind_some, bnd_eq]
  have ht : own_P (setI t 22 c) := own_P_of e2 rfl rfl
  by_cases c1 : c = 1
  · simp only [c1, if_true, f_read_24]
    have hb : inb ((setI t 22 1).1 21) 32 := e3 (Or.inl c1)
    rw [grd_pos hb]; exact ⟨_, _, rfl, c1 ▸ ht⟩
  · by_cases c2 : c = 2
    · simp only [c2, if_true, f_read_24, show ¬ ((2 : Int32) = 1) by decide, if_false]
      have hb : inb ((setI t 22 2).1 21) 32 := e3 (Or.inr c2)
      rw [grd_pos hb]; exact ⟨_, _, rfl, c2 ▸ ht⟩
    · simp only [c1, c2, if_false]; exact ⟨_, _, rfl, ht⟩
theorem own_write {n : Nat} (hn : 40 ≤ n) {p v x : Int32} {s : St} (h : own_P s) : ∃ c s', f_write n p v x s = some (c, s') ∧ own_P s' := by
  obtain ⟨c, t, e1, e2, e3⟩ := own_access hn (p := p) (v := v) (w := 1) (x := x) h
  simp only [f_write, e1, Option.bind_some, bnd_eq]
  exact ⟨_, _, rfl, own_P_of e2 rfl rfl⟩
theorem own_tick {n : Nat} (hn : 40 ≤ n) {s : St} (h : own_P s) : ∃ c s', f_tick n s = some (c, s') ∧ own_P s' := by
  obtain ⟨c, t, e1, e2⟩ := own_cwb hn (s := setI s 19 (s.1 19 + 1)) (own_P_of h rfl rfl)
  simp only [f_tick, bnd_eq, e1, Option.bind_some]
  exact ⟨_, _, rfl, own_P_of (own_P_of (t := setI s 19 (s.1 19 + 1)) h rfl rfl) (by rw [e2]) (by rw [e2])⟩
theorem own_free {f : Int32} {s : St} (hf : inb f 32) : ∃ s', f_freeFrame f s = some s' ∧ s'.1 = s.1 := by
  simp only [f_freeFrame, bnd_eq, grd_pos hf]; exact ⟨_, rfl, rfl⟩
theorem own_out9 (n N : Nat) (hN : N ≤ 32) {p : Int32} (hp : inb p 4) (c1 : ¬ p < 0) (c2 : ¬ 3 < p) : ∀ (m i k : Nat) (s : St), i + m = N → m < k → s.1 15 = Int32.ofNat N → ∃ s', f_doSwapOut_9 n k p (Int32.ofNat i) s = some s' ∧ s'.1 = s.1 := by
  intro m
  induction m with
  | zero =>
    intro i k s hi hk e
    obtain ⟨k, rfl⟩ : ∃ k', k = k' + 1 := ⟨k - 1, by omega⟩
    have : i = N := by omega
    subst this
    rw [u_doSwapOut_9, e, if_neg (fun q => by rw [N_lt (by omega) (by omega)] at q; omega), grd_pos hp, bnd_eq]
    exact ⟨_, rfl, rfl⟩
  | succ m ih =>
    intro i k s hi hk e
    obtain ⟨k, rfl⟩ : ∃ k', k = k' + 1 := ⟨k - 1, by omega⟩
    have hb : inb (Int32.ofNat i) 32 := (inb_N (by omega)).mpr (by omega)
    rw [u_doSwapOut_9, e, if_pos ((N_lt (by omega) (by omega)).mpr (by omega)), grd_pos hb, N_succ]
    by_cases c : s.2 2 (ix (Int32.ofNat i)) = p
    · rw [if_pos c, grd_pos (idx8 c1 c2)]
      simp only [bnd_eq, grd_pos hp]
      obtain ⟨t, e1, e2⟩ := own_free (f := Int32.ofNat i) (s := setA (setA (setA s 0 (ix (p * 8 + (s.2 3 (ix (Int32.ofNat i)) &&& 7))) (s.2 4 (ix (Int32.ofNat i)))) 12 (ix p) ((setA s 0 (ix (p * 8 + (s.2 3 (ix (Int32.ofNat i)) &&& 7))) (s.2 4 (ix (Int32.ofNat i)))).2 12 (ix p) ||| 1 <<< ((s.2 3 (ix (Int32.ofNat i)) &&& 7) &&& 31))) 1 (ix (p * 8 + (s.2 3 (ix (Int32.ofNat i)) &&& 7))) (-1)) hb
      simp only [e1, Option.bind_some]
      obtain ⟨u, e3, e4⟩ := ih (i + 1) k t (by omega) (by omega) (by rw [e2]; exact e)
      exact ⟨u, e3, e4.trans e2⟩
    · rw [if_neg c]; exact ih (i + 1) k s (by omega) (by omega) e
theorem own_out {n : Nat} (hn : 40 ≤ n) {p : Int32} (c1 : ¬ p < 0) (c2 : ¬ 3 < p) {s : St} (h : own_P s) : ∃ s', f_doSwapOut n p s = some s' ∧ own_P s' := by
  have hp : inb p 4 := inb_le c1 c2 (by decide)
  have h0 := h
  obtain ⟨N, H, a, b, c, d, e⟩ := h
  simp only [f_doSwapOut, grd_pos hp, bnd_eq]
  obtain ⟨t, e1, e2⟩ := own_out9 n N c hp c1 c2 N 0 n (setA s 12 (ix p) 0) (by omega) (by omega) a
  exact ⟨t, e1, own_P_of h0 (by rw [e2]; rfl) (by rw [e2]; rfl)⟩
theorem own_swapOut {n : Nat} (hn : 40 ≤ n) {p : Int32} {s : St} (h : own_P s) : ∃ c s', f_swapOut n p s = some (c, s') ∧ own_P s' := by
  unfold f_swapOut
  by_cases c1 : p < 0
  · simp only [c1, if_true]; exact ⟨_, _, rfl, h⟩
  by_cases c2 : 3 < p
  · simp only [c1, c2, if_true, if_false]; exact ⟨_, _, rfl, h⟩
  simp only [c1, c2, if_false, grd_pos (inb_le c1 c2 (by decide) : inb p 4)]
  by_cases c3 : s.2 9 (ix p) = 0
  · simp only [c3, if_true]
    obtain ⟨t, e1, e2⟩ := own_out hn c1 c2 h
    simp only [e1, Option.bind_some]; exact ⟨_, _, rfl, e2⟩
  · simp only [c3, if_false]; exact ⟨_, _, rfl, h⟩
theorem own_bit4 (n : Nat) (s : St) (b : Int32) : ∀ (m i k : Nat) (c : Int32), i + m = 8 → m < k → ∃ v, f_bitCount_4 n s k b c (Int32.ofNat i) = some v := by
  intro m
  induction m with
  | zero =>
    intro i k c hi hk
    obtain ⟨k, rfl⟩ : ∃ k', k = k' + 1 := ⟨k - 1, by omega⟩
    have : i = 8 := by omega
    subst this
    rw [u_bitCount_4, if_neg (by decide)]; exact ⟨_, rfl⟩
  | succ m ih =>
    intro i k c hi hk
    obtain ⟨k, rfl⟩ : ∃ k', k = k' + 1 := ⟨k - 1, by omega⟩
    rw [u_bitCount_4, if_pos (ltZ (i := i) (z := 8) 8 rfl (by omega) (by omega)), N_succ]
    split
    · exact ih (i + 1) k _ (by omega) (by omega)
    · exact ih (i + 1) k _ (by omega) (by omega)
theorem own_bit {n : Nat} (hn : 40 ≤ n) (s : St) (b : Int32) : ∃ v, f_bitCount n s b = some v := own_bit4 n s b 8 0 n 0 (by omega) (by omega)
theorem own_cf4 (n N : Nat) (hN : N ≤ 32) (s : St) (e : s.1 15 = Int32.ofNat N) : ∀ (m i k : Nat) (c : Int32), i + m = N → m < k → ∃ v, f_countFree_4 n s k c (Int32.ofNat i) = some v := by
  intro m
  induction m with
  | zero =>
    intro i k c hi hk
    obtain ⟨k, rfl⟩ : ∃ k', k = k' + 1 := ⟨k - 1, by omega⟩
    have : i = N := by omega
    subst this
    rw [u_countFree_4, e, if_neg (fun q => by rw [N_lt (by omega) (by omega)] at q; omega)]; exact ⟨_, rfl⟩
  | succ m ih =>
    intro i k c hi hk
    obtain ⟨k, rfl⟩ : ∃ k', k = k' + 1 := ⟨k - 1, by omega⟩
    rw [u_countFree_4, e, if_pos ((N_lt (by omega) (by omega)).mpr (by omega)), grd_pos ((inb_N (by omega)).mpr (by omega)), N_succ]
    split
    · exact ih (i + 1) k _ (by omega) (by omega)
    · exact ih (i + 1) k _ (by omega) (by omega)
theorem own_cf {n : Nat} (hn : 40 ≤ n) {s : St} (h : own_P s) : ∃ v, f_countFree n s = some v := by
  obtain ⟨N, H, a, b, c, d, e⟩ := h
  exact own_cf4 n N c s a N 0 n 0 (by omega) (by omega)
theorem own_lf2 (n N : Nat) (hN : N ≤ 32) (s : St) (e : s.1 15 = Int32.ofNat N) : ∀ (m i k : Nat), i + m = N → m < k → ∃ v, f_lowestFree_2 n s k (Int32.ofNat i) = some v ∧ (¬ v < 0 → inb v 32) := by
  intro m
  induction m with
  | zero =>
    intro i k hi hk
    obtain ⟨k, rfl⟩ : ∃ k', k = k' + 1 := ⟨k - 1, by omega⟩
    have : i = N := by omega
    subst this
    rw [u_lowestFree_2, e, if_neg (fun q => by rw [N_lt (by omega) (by omega)] at q; omega)]; exact ⟨_, rfl, fun q => absurd (by decide) q⟩
  | succ m ih =>
    intro i k hi hk
    obtain ⟨k, rfl⟩ : ∃ k', k = k' + 1 := ⟨k - 1, by omega⟩
    have hb : inb (Int32.ofNat i) 32 := (inb_N (by omega)).mpr (by omega)
    rw [u_lowestFree_2, e, if_pos ((N_lt (by omega) (by omega)).mpr (by omega)), grd_pos hb, N_succ]
    split
    · exact ⟨_, rfl, fun _ => hb⟩
    · exact ih (i + 1) k (by omega) (by omega)
theorem own_lf {n : Nat} (hn : 40 ≤ n) {s : St} (h : own_P s) : ∃ v, f_lowestFree n s = some v ∧ (¬ v < 0 → inb v 32) := by
  obtain ⟨N, H, a, b, c, d, e⟩ := h
  exact own_lf2 n N c s a N 0 n (by omega) (by omega)
theorem own_in2 {n : Nat} (hn : 40 ≤ n) {p : Int32} (hp : inb p 4) (c1 : ¬ p < 0) (c2 : ¬ 3 < p) : ∀ (m i k : Nat) (s : St), i + m = 8 → m < k → own_P s → ∃ s', f_doSwapIn_2 n k p (Int32.ofNat i) s = some s' ∧ own_P s' := by
  intro m
  induction m with
  | zero =>
    intro i k s hi hk h
    obtain ⟨k, rfl⟩ : ∃ k', k = k' + 1 := ⟨k - 1, by omega⟩
    have : i = 8 := by omega
    subst this
    rw [u_doSwapIn_2, if_neg (by decide)]
    simp only [grd_pos hp, bnd_eq]; exact ⟨_, rfl, own_P_of h rfl rfl⟩
  | succ m ih =>
    intro i k s hi hk h
    obtain ⟨k, rfl⟩ : ∃ k', k = k' + 1 := ⟨k - 1, by omega⟩
    rw [u_doSwapIn_2, if_pos (ltZ (i := i) (z := 8) 8 rfl (by omega) (by omega)), grd_pos hp, N_succ]
    have h7 : ¬ 7 < Int32.ofNat i := fun q => by rw [show (7 : Int32) = Int32.ofNat 7 from rfl, N_lt (by omega) (by omega)] at q; omega
    obtain ⟨hv, -⟩ := idx8' c1 c2 (N_neg (i := i) (by omega)) h7
    split
    · exact ih (i + 1) k s (by omega) (by omega) h
    · obtain ⟨f, e1, e2⟩ := own_lf hn h
      simp only [e1, Option.bind_some]
      by_cases c : f < 0
      · simp only [c, if_true]; exact ih (i + 1) k s (by omega) (by omega) h
      · simp only [c, if_false, grd_pos (e2 c), grd_pos hv, bnd_eq]
        exact ih (i + 1) k _ (by omega) (by omega) (own_P_of h rfl rfl)
theorem own_in {n : Nat} (hn : 40 ≤ n) {p : Int32} (c1 : ¬ p < 0) (c2 : ¬ 3 < p) {s : St} (h : own_P s) : ∃ s', f_doSwapIn n p s = some s' ∧ own_P s' :=
  own_in2 hn (inb_le c1 c2 (by decide)) c1 c2 8 0 n s (by omega) (by omega) h
theorem own_swapIn {n : Nat} (hn : 40 ≤ n) {p : Int32} {s : St} (h : own_P s) : ∃ c s', f_swapIn n p s = some (c, s') ∧ own_P s' := by
  unfold f_swapIn
  by_cases c1 : p < 0
  · simp only [c1, if_true]; exact ⟨_, _, rfl, h⟩
  by_cases c2 : 3 < p
  · simp only [c1, c2, if_true, if_false]; exact ⟨_, _, rfl, h⟩
  simp only [c1, c2, if_false, grd_pos (inb_le c1 c2 (by decide) : inb p 4)]
  by_cases c3 : s.2 9 (ix p) = 0
  · simp only [c3, if_true]; exact ⟨_, _, rfl, h⟩
  · simp only [c3, if_false]
    obtain ⟨v1, e1⟩ := own_bit hn s (s.2 12 (ix p))
    obtain ⟨v2, e2⟩ := own_cf hn h
    simp only [e1, e2, Option.bind_some]
    by_cases c4 : v2 < v1
    · simp only [c4, if_true]; exact ⟨_, _, rfl, h⟩
    · simp only [c4, if_false]
      obtain ⟨t, e3, e4⟩ := own_in hn c1 c2 h
      simp only [e3, Option.bind_some]; exact ⟨_, _, rfl, e4⟩
theorem own_dec28 {n : Nat} (hn : 40 ≤ n) {p q : Int32} {s : St} (h : own_P s) : ∃ c s', f_decide_28 n p q s = some (c, s') ∧ own_P s' := by
  unfold f_decide_28
  by_cases c1 : p < 0
  · simp only [c1, if_true]; exact ⟨_, _, rfl, h⟩
  by_cases c2 : 3 < p
  · simp only [c1, c2, if_true, if_false]; exact ⟨_, _, rfl, h⟩
  by_cases c3 : q = 0
  · simp only [c1, c2, c3, if_true, if_false]; exact ⟨_, _, rfl, h⟩
  simp only [c1, c2, c3, if_false, grd_pos (inb_le c1 c2 (by decide) : inb p 4)]
  obtain ⟨v1, e1⟩ := own_bit hn s (s.2 12 (ix p))
  obtain ⟨v2, e2⟩ := own_cf hn h
  simp only [e1, e2, Option.bind_some]
  by_cases c4 : v2 < v1
  · simp only [c4, if_true]; exact ⟨_, _, rfl, h⟩
  · simp only [c4, if_false]
    obtain ⟨t, e3, e4⟩ := own_in hn c1 c2 h
    simp only [e3, Option.bind_some]; exact ⟨_, _, rfl, e4⟩
theorem own_dec {n : Nat} (hn : 40 ≤ n) {a b p q r : Int32} {s : St} (h : own_P s) : ∃ c s', f_decide n a b p q r s = some (c, s') ∧ own_P s' := by
  unfold f_decide
  by_cases c0 : a = 0
  · simp only [c0, if_true]; exact own_dec28 hn h
  by_cases c1 : b < 2
  · simp only [c0, c1, if_true, if_false]; exact own_dec28 hn h
  by_cases c2 : p < 0
  · simp only [c0, c1, c2, if_true, if_false]; exact own_dec28 hn h
  by_cases c3 : 3 < p
  · simp only [c0, c1, c2, c3, if_true, if_false]; exact own_dec28 hn h
  simp only [c0, c1, c2, c3, if_false]
  obtain ⟨t, e3, e4⟩ := own_out hn c2 c3 h
  simp only [e3, Option.bind_some]; exact ⟨_, _, rfl, e4⟩
theorem own_ctl121 (n : Nat) : ∀ (m i k : Nat) (c : Int32) (s : St), i + m = 4 → m < k → own_P s → ∃ c' s', f_control_121 n k c (Int32.ofNat i) s = some (c', s') ∧ own_P s' := by
  intro m
  induction m with
  | zero =>
    intro i k c s hi hk h
    obtain ⟨k, rfl⟩ : ∃ k', k = k' + 1 := ⟨k - 1, by omega⟩
    have : i = 4 := by omega
    subst this
    rw [u_control_121, if_neg (by decide)]; exact ⟨_, _, rfl, h⟩
  | succ m ih =>
    intro i k c s hi hk h
    obtain ⟨k, rfl⟩ : ∃ k', k = k' + 1 := ⟨k - 1, by omega⟩
    rw [u_control_121, if_pos (ltZ (i := i) (z := 4) 4 rfl (by omega) (by omega)), grd_pos ((inb_N (by omega)).mpr (by omega)), N_succ]
    simp only [bnd_eq]
    exact ih (i + 1) k _ _ (by omega) (by omega) (own_P_of h rfl rfl)
theorem own_ctl15 {n : Nat} (hn : 40 ≤ n) : ∀ (m i k : Nat) (a b c d e : Int32) (s : St), i + m = 4 → m < k → own_P s → ∃ c' s', f_control_15 n k a b c d e (Int32.ofNat i) s = some (c', s') ∧ own_P s' := by
  intro m
  induction m with
  | zero =>
    intro i k a b c d e s hi hk h
    obtain ⟨k, rfl⟩ : ∃ k', k = k' + 1 := ⟨k - 1, by omega⟩
    have : i = 4 := by omega
    subst this
    rw [u_control_15, if_neg (by decide)]
    obtain ⟨v, t, e1, e2⟩ := own_dec hn (a := d) (b := a) (p := b) (q := c) (r := e) h
    simp only [e1, Option.bind_some]
    exact own_ctl121 n 4 0 n v t (by omega) (by omega) e2
  | succ m ih =>
    intro i k a b c d e s hi hk h
    obtain ⟨k, rfl⟩ : ∃ k', k = k' + 1 := ⟨k - 1, by omega⟩
    have hb : inb (Int32.ofNat i) 4 := (inb_N (by omega)).mpr (by omega)
    have go := ih (i + 1) k
    rw [u_control_15, if_pos (ltZ (i := i) (z := 4) 4 rfl (by omega) (by omega)), grd_pos hb, N_succ]
    have h72 : ∀ a b c d e : Int32, ∃ c' s', f_control_72 n (f_control_15 n k) a b c d e (Int32.ofNat i) s = some (c', s') ∧ own_P s' := fun a b c d e => by
      rw [f_control_72, grd_pos hb, N_succ]
      split
      · exact go _ _ _ _ _ _ (by omega) (by omega) h
      · exact go _ _ _ _ _ _ (by omega) (by omega) h
    split
    · split
      · exact h72 _ _ _ _ _
      · exact h72 _ _ _ _ _
    · split
      · exact go _ _ _ _ _ _ (by omega) (by omega) h
      · exact go _ _ _ _ _ _ (by omega) (by omega) h
theorem own_ctl {n : Nat} (hn : 40 ≤ n) {s : St} (h : own_P s) : ∃ c s', f_control n s = some (c, s') ∧ own_P s' :=
  own_ctl15 hn 4 0 n _ _ _ _ _ s (by omega) (by omega) h

theorem own_sa (s : St) (j i : Nat) (z : Int32) : (setA s j i z).2 j = fun x => if x = i then z else s.2 j x := by
  funext x; rw [setA_2]; by_cases h : x = i <;> simp [h]
theorem own_sn {j k : Nat} (h : k ≠ j) (s : St) (i : Nat) (z : Int32) : (setA s j i z).2 k = s.2 k := by
  funext x; rw [setA_2, if_neg (fun q => h q.1)]
theorem own_ne1 {i : Nat} (h : i < 2147483648) : Int32.ofNat i ≠ -1 := fun q => by
  have := congrArg Int32.toInt q
  rw [N_toInt h] at this
  have e : (-1 : Int32).toInt = -1 := rfl
  omega
theorem own_and7 : ∀ g, g < 8 → Int32.ofNat g &&& 7 = Int32.ofNat g := by decide +kernel
theorem own_idx (o g : Nat) : Int32.ofNat o * 8 + Int32.ofNat g = Int32.ofNat (o * 8 + g) := by
  rw [show (8 : Int32) = Int32.ofNat 8 from rfl, N_mul, N_add]
theorem own_o3 {i : Nat} (hi : i < 4) : ¬ (3 : Int32) < Int32.ofNat i := fun q => by
  rw [show (3 : Int32) = Int32.ofNat 3 from rfl, N_lt (by omega) (by omega)] at q; omega
theorem own_g7 {i : Nat} (hi : i < 8) : ¬ (7 : Int32) < Int32.ofNat i := fun q => by
  rw [show (7 : Int32) = Int32.ofNat 7 from rfl, N_lt (by omega) (by omega)] at q; omega
/-- the owners, the pages and the table of places agree -/
def own_JJ (N : Nat) (O G W : Nat → Int32) : Prop :=
  (∀ f, f < N → O f = -1 ∨ ∃ o g : Nat, o < 4 ∧ g < 8 ∧ O f = Int32.ofNat o ∧ G f = Int32.ofNat g ∧ W (o * 8 + g) = Int32.ofNat f) ∧
  ∀ o g : Nat, o < 4 → g < 8 → W (o * 8 + g) = -1 ∨ ∃ f, f < N ∧ W (o * 8 + g) = Int32.ofNat f ∧ O f = Int32.ofNat o ∧ G f = Int32.ofNat g
theorem own_JJw {N : Nat} {O G W : Nat → Int32} (h : own_JJ N O G W) (hN : N ≤ 32) {c o g : Nat} (hc : c < N) (ho : o < 4) (hg : g < 8) (e1 : O c = Int32.ofNat o) (e2 : G c = Int32.ofNat g) : W (o * 8 + g) = Int32.ofNat c := by
  rcases h.1 c hc with q | ⟨o', g', a1, a2, a3, a4, a5⟩
  · rw [e1] at q; exact absurd q (own_ne1 (by omega))
  · rw [e1, N_inj (by omega) (by omega)] at a3
    rw [e2, N_inj (by omega) (by omega)] at a4
    subst a3; subst a4; exact a5
theorem own_JJfree {N : Nat} {O G W : Nat → Int32} (h : own_JJ N O G W) (hN : N ≤ 32) {c o g : Nat} (hc : c < N) (ho : o < 4) (hg : g < 8) (e1 : O c = Int32.ofNat o) (e2 : G c = Int32.ofNat g) (z : Int32) :
    own_JJ N (fun x => if x = c then -1 else O x) (fun x => if x = c then z else G x) (fun x => if x = o * 8 + g then -1 else W x) := by
  have hw := own_JJw h hN hc ho hg e1 e2
  obtain ⟨h1, h2⟩ := h
  refine ⟨fun f hf => ?_, fun o' g' ho' hg' => ?_⟩
  · by_cases q : f = c
    · left; simp [q]
    · rcases h1 f hf with r | ⟨o', g', a1, a2, a3, a4, a5⟩
      · left; simp [q, r]
      · right
        refine ⟨o', g', a1, a2, by simp [q, a3], by simp [q, a4], ?_⟩
        have : ¬ o' * 8 + g' = o * 8 + g := fun r => by
          rw [r, hw, N_inj (by omega) (by omega)] at a5; exact q a5.symm
        simp [this, a5]
  · by_cases q : o' * 8 + g' = o * 8 + g
    · left; simp [q]
    · rcases h2 o' g' ho' hg' with r | ⟨f, b1, b2, b3, b4⟩
      · left; simp [q, r]
      · right
        have : f ≠ c := fun r => by
          subst r
          rw [e1, N_inj (by omega) (by omega)] at b3
          rw [e2, N_inj (by omega) (by omega)] at b4
          omega
        exact ⟨f, b1, by simp [q, b2], by simp [this, b3], by simp [this, b4]⟩
theorem own_JJload {N : Nat} {O G W : Nat → Int32} (h : own_JJ N O G W) (hN : N ≤ 32) {c o g : Nat} (hc : c < N) (ho : o < 4) (hg : g < 8) (e : O c = -1) (w : W (o * 8 + g) = -1) :
    own_JJ N (fun x => if x = c then Int32.ofNat o else O x) (fun x => if x = c then Int32.ofNat g else G x) (fun x => if x = o * 8 + g then Int32.ofNat c else W x) := by
  obtain ⟨h1, h2⟩ := h
  refine ⟨fun f hf => ?_, fun o' g' ho' hg' => ?_⟩
  · by_cases q : f = c
    · right; exact ⟨o, g, ho, hg, by simp [q], by simp [q], by simp [q]⟩
    · rcases h1 f hf with r | ⟨o', g', a1, a2, a3, a4, a5⟩
      · left; simp [q, r]
      · right
        refine ⟨o', g', a1, a2, by simp [q, a3], by simp [q, a4], ?_⟩
        have : ¬ o' * 8 + g' = o * 8 + g := fun r => by
          rw [r, w] at a5; exact own_ne1 (by omega) a5.symm
        simp [this, a5]
  · by_cases q : o' * 8 + g' = o * 8 + g
    · right
      have a : o' = o := by omega
      have b : g' = g := by omega
      subst a; subst b
      exact ⟨c, hc, by simp, by simp, by simp⟩
    · rcases h2 o' g' ho' hg' with r | ⟨f, b1, b2, b3, b4⟩
      · left; simp [q, r]
      · right
        have : f ≠ c := fun r => by
          subst r; rw [e] at b3; exact own_ne1 (by omega) b3.symm
        exact ⟨f, b1, by simp [q, b2], by simp [this, b3], by simp [this, b4]⟩
/-- a clean frame holds what the disk holds -/
def own_DD (N : Nat) (O G V D K : Nat → Int32) : Prop := ∀ f o g : Nat, f < N → o < 4 → g < 8 → O f = Int32.ofNat o → G f = Int32.ofNat g → D f = 0 → K (o * 8 + g) = V f
def own_J (N : Nat) (s : St) : Prop :=
  s.1 15 = Int32.ofNat N ∧ 4 ≤ N ∧ N ≤ 32 ∧ (∃ H, H < N ∧ s.1 20 = Int32.ofNat H) ∧ own_JJ N (s.2 2) (s.2 3) (s.2 1) ∧
  (∀ f, f < N → (s.2 5 f = 0 ∨ s.2 5 f = 1) ∧ (s.2 6 f = 0 ∨ s.2 6 f = 1)) ∧ own_DD N (s.2 2) (s.2 3) (s.2 4) (s.2 5) (s.2 0) ∧
  ∀ o, o < 4 → (s.2 9 o = 0 ∨ s.2 9 o = 1) ∧ (s.2 9 o = 1 → ∀ g, g < 8 → s.2 1 (o * 8 + g) = -1)
theorem own_cwbJ {n N : Nat} (hn : 40 ≤ n) {s : St} (h : own_J N s) : ∃ (c : Nat) (s' : St), f_completeWriteBacks n s = some (Int32.ofNat c, s') ∧ c ≤ N ∧ own_J N s' ∧ s'.1 = s.1 ∧ (∀ k, k ≠ 0 → k ≠ 5 → k ≠ 8 → s'.2 k = s.2 k) ∧
    (∀ f, s'.2 5 f = s.2 5 f ∨ s'.2 5 f = 0) ∧
    (∀ i, s'.2 0 i = s.2 0 i ∨ ∃ f o g : Nat, f < N ∧ o < 4 ∧ g < 8 ∧ s.2 2 f = Int32.ofNat o ∧ s.2 3 f = Int32.ofNat g ∧ i = o * 8 + g ∧ s'.2 0 i = s.2 4 f) := by
  obtain ⟨j1, j2, j3, j4, j5, j6, j7, j8⟩ := h
  obtain ⟨⟨c, t⟩, e1, C, hC, p1, p2, p3, p4, p5, p6⟩ := loopP (F := fun k i (t : Int32 × St) => f_completeWriteBacks_4 n k t.1 i t.2) (N := N)
    (P := fun i t => ∃ C : Nat, C ≤ i ∧ t.1 = Int32.ofNat C ∧ t.2.1 = s.1 ∧ (∀ k, k ≠ 0 → k ≠ 5 → k ≠ 8 → t.2.2 k = s.2 k) ∧ (∀ f, t.2.2 5 f = s.2 5 f ∨ t.2.2 5 f = 0) ∧
      own_DD N (s.2 2) (s.2 3) (s.2 4) (t.2.2 5) (t.2.2 0) ∧
      (∀ i, t.2.2 0 i = s.2 0 i ∨ ∃ f o g : Nat, f < N ∧ o < 4 ∧ g < 8 ∧ s.2 2 f = Int32.ofNat o ∧ s.2 3 f = Int32.ofNat g ∧ i = o * 8 + g ∧ t.2.2 0 i = s.2 4 f))
    (Q := fun t => ∃ C : Nat, C ≤ N ∧ t.1 = Int32.ofNat C ∧ t.2.1 = s.1 ∧ (∀ k, k ≠ 0 → k ≠ 5 → k ≠ 8 → t.2.2 k = s.2 k) ∧ (∀ f, t.2.2 5 f = s.2 5 f ∨ t.2.2 5 f = 0) ∧
      own_DD N (s.2 2) (s.2 3) (s.2 4) (t.2.2 5) (t.2.2 0) ∧
      (∀ i, t.2.2 0 i = s.2 0 i ∨ ∃ f o g : Nat, f < N ∧ o < 4 ∧ g < 8 ∧ s.2 2 f = Int32.ofNat o ∧ s.2 3 f = Int32.ofNat g ∧ i = o * 8 + g ∧ t.2.2 0 i = s.2 4 f))
    (fun k i t hi hp => Or.inl (by
      obtain ⟨c, t⟩ := t
      obtain ⟨C, hC, p1, p2, p3, p4, p5, p6⟩ := hp
      simp only at p1 p2 p3 p4 p5 p6
      show ∃ s' : Int32 × St, f_completeWriteBacks_4 n (k + 1) c (Int32.ofNat i) t = f_completeWriteBacks_4 n k s'.1 (Int32.ofNat i + 1) s'.2 ∧ _
      have hb : inb (Int32.ofNat i) 32 := inbN (by omega) (by omega)
      have q2 : t.2 2 = s.2 2 := p3 _ (by decide) (by decide) (by decide)
      have q3 : t.2 3 = s.2 3 := p3 _ (by decide) (by decide) (by decide)
      have q4 : t.2 4 = s.2 4 := p3 _ (by decide) (by decide) (by decide)
      rw [u_completeWriteBacks_4, p2, j1, if_pos (ltN hi (by omega)), grd_pos hb, ix_N (by omega), q2, q3, q4]
      have keep : ∃ s' : Int32 × St, f_completeWriteBacks_4 n k c (Int32.ofNat i + 1) t = f_completeWriteBacks_4 n k s'.1 (Int32.ofNat i + 1) s'.2 ∧ ∃ C : Nat, C ≤ i + 1 ∧ s'.1 = Int32.ofNat C ∧ s'.2.1 = s.1 ∧ (∀ k, k ≠ 0 → k ≠ 5 → k ≠ 8 → s'.2.2 k = s.2 k) ∧ (∀ f, s'.2.2 5 f = s.2 5 f ∨ s'.2.2 5 f = 0) ∧
          own_DD N (s.2 2) (s.2 3) (s.2 4) (s'.2.2 5) (s'.2.2 0) ∧
          (∀ i, s'.2.2 0 i = s.2 0 i ∨ ∃ f o g : Nat, f < N ∧ o < 4 ∧ g < 8 ∧ s.2 2 f = Int32.ofNat o ∧ s.2 3 f = Int32.ofNat g ∧ i = o * 8 + g ∧ s'.2.2 0 i = s.2 4 f) :=
        ⟨(c, t), rfl, C, by omega, p1, p2, p3, p4, p5, p6⟩
      rcases j5.1 i hi with r | ⟨o, g, a1, a2, a3, a4, a5⟩
      · rw [r, if_pos (by decide)]; exact keep
      · rw [a3, if_neg (N_neg (by omega)), if_neg (own_o3 a1)]
        split
        · exact keep
        · split
          · exact keep
          · rw [a4, own_and7 g a2, own_idx, grd_pos (inbN (show o * 8 + g < 32 by omega) (by omega)), ix_N (by omega)]
            simp only [bnd_eq]
            refine ⟨(c + 1, setA (setA (setA t 0 (o * 8 + g) (s.2 4 i)) 5 i 0) 8 i 0), rfl, C + 1, by omega, ?_, p2, fun k k1 k2 k3 => ?_, fun f => ?_, ?_, fun x => ?_⟩
            · show c + 1 = _
              rw [p1, N_succ]
            · show (setA (setA (setA t 0 (o * 8 + g) (s.2 4 i)) 5 i 0) 8 i 0).2 k = _
              rw [own_sn k3, own_sn k2, own_sn k1]; exact p3 k k1 k2 k3
            · show (setA (setA (setA t 0 (o * 8 + g) (s.2 4 i)) 5 i 0) 8 i 0).2 5 f = _ ∨ (setA (setA (setA t 0 (o * 8 + g) (s.2 4 i)) 5 i 0) 8 i 0).2 5 f = 0
              rw [own_sn (by decide), own_sa]
              by_cases qf : f = i
              · right; simp [qf]
              · simp only [qf, if_false]; rw [own_sn (by decide)]; exact p4 f
            · show own_DD N _ _ _ ((setA (setA (setA t 0 (o * 8 + g) (s.2 4 i)) 5 i 0) 8 i 0).2 5) ((setA (setA (setA t 0 (o * 8 + g) (s.2 4 i)) 5 i 0) 8 i 0).2 0)
              rw [own_sn (by decide), own_sa, own_sn (by decide), own_sn (by decide), own_sn (by decide), own_sa]
              intro f o' g' b1 b2 b3 b4 b5 b6
              by_cases qf : f = i
              · subst qf
                rw [a3, N_inj (by omega) (by omega)] at b4
                rw [a4, N_inj (by omega) (by omega)] at b5
                subst b4; subst b5; simp
              · simp only [qf, if_false] at b6
                have ne : ¬ o' * 8 + g' = o * 8 + g := fun r => by
                  have w := own_JJw j5 j3 b1 b2 b3 b4 b5
                  rw [r, a5, N_inj (by omega) (by omega)] at w
                  exact qf w.symm
                simp only [ne, if_false]
                exact p5 f o' g' b1 b2 b3 b4 b5 b6
            · show (setA (setA (setA t 0 (o * 8 + g) (s.2 4 i)) 5 i 0) 8 i 0).2 0 x = _ ∨ ∃ f o' g' : Nat, f < N ∧ o' < 4 ∧ g' < 8 ∧ _ ∧ _ ∧ _ ∧ (setA (setA (setA t 0 (o * 8 + g) (s.2 4 i)) 5 i 0) 8 i 0).2 0 x = s.2 4 f
              rw [own_sn (by decide), own_sn (by decide), own_sa]
              by_cases qx : x = o * 8 + g
              · right; exact ⟨i, o, g, hi, a1, a2, a3, a4, qx, by simp [qx]⟩
              · simp only [qx, if_false]; exact p6 x))
    (fun k t hp => by
      obtain ⟨c, t⟩ := t
      obtain ⟨C, hC, p1, p2, p3, p4, p5, p6⟩ := hp
      simp only at p1 p2 p3 p4 p5 p6
      show ∃ r, f_completeWriteBacks_4 n (k + 1) c (Int32.ofNat N) t = some r ∧ _
      rw [u_completeWriteBacks_4, p2, j1, if_neg (nltN (by omega))]
      exact ⟨(c, t), rfl, C, hC, p1, p2, p3, p4, p5, p6⟩) N 0 n (0, s) (by omega) (by omega) ⟨0, by omega, rfl, rfl, fun _ _ _ _ => rfl, fun _ => Or.inl rfl, j7, fun _ => Or.inl rfl⟩
  simp only at p1 p2 p3 p4 p5 p6
  refine ⟨C, t, ?_, hC, ⟨by rw [p2]; exact j1, j2, j3, by rw [p2]; exact j4, ?_, fun f hf => ⟨?_, ?_⟩, ?_, fun o ho => ?_⟩, p2, p3, p4, p6⟩
  · rw [← p1]; exact e1
  · rw [p3 _ (by decide) (by decide) (by decide), p3 _ (by decide) (by decide) (by decide), p3 _ (by decide) (by decide) (by decide)]; exact j5
  · rcases p4 f with r | r
    · rw [r]; exact (j6 f hf).1
    · exact Or.inl r
  · rw [p3 _ (by decide) (by decide) (by decide)]; exact (j6 f hf).2
  · rw [p3 2 (by decide) (by decide) (by decide), p3 3 (by decide) (by decide) (by decide), p3 4 (by decide) (by decide) (by decide)]; exact p5
  · rw [p3 9 (by decide) (by decide) (by decide), p3 1 (by decide) (by decide) (by decide)]; exact j8 o ho
theorem own_J6 {N : Nat} {s t : St} (h : own_J N s) (e1 : t.1 = s.1) (ek : ∀ k, k ≠ 6 → k ≠ 7 → k ≠ 8 → t.2 k = s.2 k) (er : ∀ f, f < N → t.2 6 f = 0 ∨ t.2 6 f = 1) : own_J N t := by
  obtain ⟨j1, j2, j3, j4, j5, j6, j7, j8⟩ := h
  refine ⟨by rw [e1]; exact j1, j2, j3, by rw [e1]; exact j4, ?_, fun f hf => ⟨?_, er f hf⟩, ?_, fun o ho => ?_⟩
  · rw [ek 2 (by decide) (by decide) (by decide), ek 3 (by decide) (by decide) (by decide), ek 1 (by decide) (by decide) (by decide)]; exact j5
  · rw [ek 5 (by decide) (by decide) (by decide)]; exact (j6 f hf).1
  · rw [ek 2 (by decide) (by decide) (by decide), ek 3 (by decide) (by decide) (by decide), ek 4 (by decide) (by decide) (by decide), ek 5 (by decide) (by decide) (by decide), ek 0 (by decide) (by decide) (by decide)]; exact j7
  · rw [ek 9 (by decide) (by decide) (by decide), ek 1 (by decide) (by decide) (by decide)]; exact j8 o ho
theorem own_swpJ {n N : Nat} (hn : 40 ≤ n) {s : St} (h : own_J N s) : ∃ (v : Int32) (s' : St), f_sweep n s = some (v, s') ∧ own_J N s' ∧ s'.1 = s.1 ∧ (∀ k, k ≠ 6 → k ≠ 7 → k ≠ 8 → s'.2 k = s.2 k) ∧
    (v = -1 ∨ ∃ c : Nat, c < N ∧ v = Int32.ofNat c ∧ (s.2 2 c = -1 ∨ (s.2 5 c = 0 ∧ s'.2 6 c = 0 ∧ ∃ o : Nat, o < 4 ∧ s.2 2 c = Int32.ofNat o ∧ s.1 16 < s.2 10 o - s'.2 7 c))) ∧
    (∀ f, (s'.2 6 f = s.2 6 f ∧ s'.2 7 f = s.2 7 f) ∨ (s'.2 6 f = 0 ∧ ∃ o : Nat, o < 4 ∧ s.2 2 f = Int32.ofNat o ∧ s'.2 7 f = s.2 10 o)) := by
  have h0 := h
  obtain ⟨j1, j2, j3, ⟨H, hH, jH⟩, j5, j6, j7, j8⟩ := h
  have hne : Int32.ofNat N ≠ 0 := fun q => by
    rw [show (0 : Int32) = Int32.ofNat 0 from rfl, N_inj (by omega) (by omega)] at q; omega
  obtain ⟨⟨v, t⟩, e1, ⟨p1, p2, p3⟩, p4⟩ := loopP (F := fun k i t => f_sweep_2 n k i t) (N := N)
    (P := fun _ t => t.1 = s.1 ∧ (∀ k, k ≠ 6 → k ≠ 7 → k ≠ 8 → t.2 k = s.2 k) ∧ (∀ f, (t.2 6 f = s.2 6 f ∧ t.2 7 f = s.2 7 f) ∨ (t.2 6 f = 0 ∧ ∃ o : Nat, o < 4 ∧ s.2 2 f = Int32.ofNat o ∧ t.2 7 f = s.2 10 o)))
    (Q := fun r => (r.2.1 = s.1 ∧ (∀ k, k ≠ 6 → k ≠ 7 → k ≠ 8 → r.2.2 k = s.2 k) ∧ (∀ f, (r.2.2 6 f = s.2 6 f ∧ r.2.2 7 f = s.2 7 f) ∨ (r.2.2 6 f = 0 ∧ ∃ o : Nat, o < 4 ∧ s.2 2 f = Int32.ofNat o ∧ r.2.2 7 f = s.2 10 o))) ∧
      (r.1 = -1 ∨ ∃ c : Nat, c < N ∧ r.1 = Int32.ofNat c ∧ (s.2 2 c = -1 ∨ (s.2 5 c = 0 ∧ r.2.2 6 c = 0 ∧ ∃ o : Nat, o < 4 ∧ s.2 2 c = Int32.ofNat o ∧ s.1 16 < s.2 10 o - r.2.2 7 c))))
    (fun k i t hi hp => by
      obtain ⟨p1, p2, p3⟩ := hp
      have hc : (H + i) % N < N := Nat.mod_lt _ (by omega)
      generalize hcc : (H + i) % N = c at hc
      have hb : inb (Int32.ofNat c) 32 := inbN (by omega) (by omega)
      have q2 : t.2 2 = s.2 2 := p2 _ (by decide) (by decide) (by decide)
      have q10 : t.2 10 = s.2 10 := p2 _ (by decide) (by decide) (by decide)
      have q5 : t.2 5 = s.2 5 := p2 _ (by decide) (by decide) (by decide)
      show (∃ s', f_sweep_2 n (k + 1) (Int32.ofNat i) t = f_sweep_2 n k (Int32.ofNat i + 1) s' ∧ _) ∨ ∃ r, f_sweep_2 n (k + 1) (Int32.ofNat i) t = some r ∧ _
      rw [u_sweep_2, p1, j1, jH, if_pos (ltN hi (by omega)), grd_pos hne, N_add, rem_N (by omega) (by omega) (by omega), hcc, grd_pos hb, ix_N (by omega), bnd_eq, q2]
      rcases j5.1 c hc with r | ⟨o, g, a1, a2, a3, a4, a5⟩
      · rw [r, if_pos (by decide)]
        exact Or.inr ⟨_, rfl, ⟨p1, p2, p3⟩, Or.inr ⟨c, hc, rfl, Or.inl r⟩⟩
      · rw [a3, if_neg (N_neg (by omega)), if_neg (own_o3 a1), ix_N (by omega), grd_pos (inbN (show o < 4 by omega) (by omega)), bnd_eq, q10, q5]
        by_cases cr : t.2 6 c = 0
        · rw [if_pos cr]
          by_cases cw : s.1 16 < s.2 10 o - t.2 7 c
          · rw [if_pos cw]
            by_cases cd : s.2 5 c = 0
            · rw [if_pos cd]
              exact Or.inr ⟨_, rfl, ⟨p1, p2, p3⟩, Or.inr ⟨c, hc, rfl, Or.inr ⟨cd, cr, o, a1, a3, cw⟩⟩⟩
            · rw [if_neg cd]
              by_cases cu : t.2 8 c = 0
              · rw [if_pos cu, bnd_eq]
                refine Or.inl ⟨_, rfl, p1, fun k k1 k2 k3 => ?_, fun f => ?_⟩
                · rw [own_sn k3]; exact p2 k k1 k2 k3
                · rw [own_sn (by decide), own_sn (by decide)]; exact p3 f
              · rw [if_neg cu]; exact Or.inl ⟨t, rfl, p1, p2, p3⟩
          · rw [if_neg cw]; exact Or.inl ⟨t, rfl, p1, p2, p3⟩
        · rw [if_neg cr]
          simp only [bnd_eq, grd_pos (inbN (show o < 4 by omega) (show o < 2147483648 by omega))]
          refine Or.inl ⟨_, rfl, p1, fun k k1 k2 k3 => ?_, fun f => ?_⟩
          · rw [own_sn k2, own_sn k1]; exact p2 k k1 k2 k3
          · rw [own_sn (by decide), own_sa, own_sa]
            by_cases qf : f = c
            · right
              refine ⟨by simp [qf], o, a1, by rw [qf]; exact a3, ?_⟩
              simp only [qf, if_true]
              rw [own_sn (by decide), q10]
            · simp only [qf, if_false]
              rw [own_sn (by decide)]
              exact p3 f)
    (fun k t hp => by
      obtain ⟨p1, p2, p3⟩ := hp
      show ∃ r, f_sweep_2 n (k + 1) (Int32.ofNat N) t = some r ∧ _
      rw [u_sweep_2, p1, j1, if_neg (nltN (by omega))]
      exact ⟨_, rfl, ⟨p1, p2, p3⟩, Or.inl rfl⟩) N 0 n s (by omega) (by omega) ⟨rfl, fun _ _ _ _ => rfl, fun _ => Or.inl ⟨rfl, rfl⟩⟩
  simp only at p1 p2 p3 p4
  refine ⟨v, t, e1, own_J6 h0 p1 p2 (fun f hf => ?_), p1, p2, p4, p3⟩
  rcases p3 f with ⟨r, -⟩ | ⟨r, -⟩
  · rw [r]; exact (j6 f hf).2
  · exact Or.inl r
theorem own_ldJ {N : Nat} {s : St} (h : own_J N s) {c o g : Nat} (hc : c < N) (ho : o < 4) (hg : g < 8) (hw : s.2 1 (o * 8 + g) = -1) (hsw : s.2 9 o = 0) (w x : Int32) :
    ∃ s', f_load (Int32.ofNat c) (Int32.ofNat o) (Int32.ofNat g) w x s = some s' ∧ own_J N s' ∧ s'.1 20 = Int32.ofNat ((c + 1) % N) ∧ (∀ k, k ≠ 20 → s'.1 k = s.1 k) ∧ s'.2 1 (o * 8 + g) = Int32.ofNat c ∧
      s'.2 2 c = Int32.ofNat o ∧ s'.2 3 c = Int32.ofNat g ∧ s'.2 4 c = (if w = 0 then s.2 0 (o * 8 + g) else x) ∧ s'.2 5 c = (if w = 0 then 0 else 1) ∧ s'.2 6 c = 1 ∧ s'.2 7 c = s.2 10 o + 1 ∧ s'.2 8 c = 0 ∧
      (∀ y, s'.2 10 y = if y = o then s.2 10 o + 1 else s.2 10 y) ∧ (∀ y, s'.2 14 y = if y = o then s.2 14 o + 1 else s.2 14 y) ∧ (∀ k, k = 0 ∨ k = 9 ∨ k = 11 ∨ k = 12 ∨ k = 13 → s'.2 k = s.2 k) ∧
      (∀ f, f ≠ c → ∀ k, 2 ≤ k → k ≤ 8 → s'.2 k f = s.2 k f) ∧ (∀ i, i ≠ o * 8 + g → s'.2 1 i = s.2 1 i ∨ (s'.2 1 i = -1 ∧ s.2 1 i = Int32.ofNat c)) := by
  have h0 := h
  obtain ⟨j1, j2, j3, ⟨H, hH, jH⟩, j5, j6, j7, j8⟩ := h
  have hb : inb (Int32.ofNat c) 32 := inbN (by omega) (by omega)
  have bo : inb (Int32.ofNat o) 4 := inbN (by omega) (by omega)
  have bi : inb (Int32.ofNat (o * 8 + g)) 32 := inbN (by omega) (by omega)
  have hne : Int32.ofNat N ≠ 0 := fun q => by
    rw [show (0 : Int32) = Int32.ofNat 0 from rfl, N_inj (by omega) (by omega)] at q; omega
  obtain ⟨u, eu, u1, uk, uJ, uw, ui⟩ : ∃ u : St, f_load (Int32.ofNat c) (Int32.ofNat o) (Int32.ofNat g) w x s = f_load_44 (Int32.ofNat c) (Int32.ofNat o) (Int32.ofNat g) w x u ∧ u.1 = s.1 ∧ (∀ k, k ≠ 1 → u.2 k = s.2 k) ∧
      own_JJ N (fun y => if y = c then -1 else s.2 2 y) (s.2 3) (u.2 1) ∧ u.2 1 (o * 8 + g) = -1 ∧ (∀ i, u.2 1 i = s.2 1 i ∨ (u.2 1 i = -1 ∧ s.2 1 i = Int32.ofNat c)) := by
    unfold f_load
    rw [grd_pos hb, ix_N (by omega)]
    rcases j5.1 c hc with r | ⟨o', g', a1, a2, a3, a4, a5⟩
    · rw [r, if_pos (by decide)]
      have e : (fun y => if y = c then -1 else s.2 2 y) = s.2 2 := by
        funext y; by_cases q : y = c
        · simp [q, r]
        · simp [q]
      exact ⟨s, rfl, rfl, fun _ _ => rfl, by rw [e]; exact j5, hw, fun _ => Or.inl rfl⟩
    · rw [a3, if_neg (N_neg (by omega)), if_neg (own_o3 a1), a4, own_and7 g' a2, own_idx, bnd_eq, grd_pos (inbN (show o' * 8 + g' < 32 by omega) (by omega)), ix_N (by omega), bnd_eq]
      have e : (fun y => if y = c then s.2 3 c else s.2 3 y) = s.2 3 := by
        funext y; by_cases q : y = c
        · simp [q]
        · simp [q]
      have J := own_JJfree j5 j3 hc a1 a2 a3 a4 (s.2 3 c)
      rw [e] at J
      refine ⟨_, rfl, rfl, fun k hk => own_sn hk _ _ _, by rw [own_sa]; exact J, ?_, fun i => ?_⟩
      · rw [own_sa]
        by_cases q : o * 8 + g = o' * 8 + g'
        · simp [q]
        · simp [q, hw]
      · rw [own_sa]
        by_cases q : i = o' * 8 + g'
        · right; rw [q]; exact ⟨by simp, a5⟩
        · left; simp [q]
  have u2 := uk 2 (by decide)
  have u3 := uk 3 (by decide)
  have u4 := uk 4 (by decide)
  have u5 := uk 5 (by decide)
  have u6 := uk 6 (by decide)
  have u7 := uk 7 (by decide)
  have u8 := uk 8 (by decide)
  have u0 := uk 0 (by decide)
  have u10 := uk 10 (by decide)
  have u14 := uk 14 (by decide)
  have L := own_JJload uJ j3 hc ho hg (by simp) uw
  have eO : (fun y => if y = c then Int32.ofNat o else (if y = c then -1 else s.2 2 y)) = fun y => if y = c then Int32.ofNat o else s.2 2 y := by
    funext y; by_cases q : y = c
    · simp [q]
    · simp [q]
  simp only [eO] at L
  obtain ⟨T, eT, t1, t1', tO, tG, tW, tV, tD, tR, tL, tU, tv, ta, tk⟩ : ∃ T : St, f_load_44 (Int32.ofNat c) (Int32.ofNat o) (Int32.ofNat g) w x u = some T ∧ T.1 20 = Int32.ofNat ((c + 1) % N) ∧ (∀ k, k ≠ 20 → T.1 k = s.1 k) ∧
      T.2 2 = (fun y => if y = c then Int32.ofNat o else s.2 2 y) ∧ T.2 3 = (fun y => if y = c then Int32.ofNat g else s.2 3 y) ∧ T.2 1 = (fun y => if y = o * 8 + g then Int32.ofNat c else u.2 1 y) ∧
      T.2 4 = (fun y => if y = c then (if w = 0 then s.2 0 (o * 8 + g) else x) else s.2 4 y) ∧ T.2 5 = (fun y => if y = c then (if w = 0 then 0 else 1) else s.2 5 y) ∧ T.2 6 = (fun y => if y = c then 1 else s.2 6 y) ∧
      T.2 7 = (fun y => if y = c then s.2 10 o + 1 else s.2 7 y) ∧ T.2 8 = (fun y => if y = c then 0 else s.2 8 y) ∧ T.2 10 = (fun y => if y = o then s.2 10 o + 1 else s.2 10 y) ∧ T.2 14 = (fun y => if y = o then s.2 14 o + 1 else s.2 14 y) ∧
      (∀ k, k = 0 ∨ k = 9 ∨ k = 11 ∨ k = 12 ∨ k = 13 → T.2 k = s.2 k) := by
    unfold f_load_44 f_load_160
    simp only [own_idx, grd_pos hb, grd_pos bo, grd_pos bi, bnd_eq, setA_1, u1, j1, grd_pos hne, N_succ, rem_N (show c + 1 < 2147483648 by omega) (show N < 2147483648 by omega) (show 0 < N by omega), ix_N (show c < 2147483648 by omega), ix_N (show o < 2147483648 by omega), ix_N (show o * 8 + g < 2147483648 by omega)]
    by_cases qw : w = 0
    · simp only [qw, if_true]
      refine ⟨_, rfl, by simp [setI_1], fun k hk => by simp [setI_1, setA_1, hk, u1], ?_, ?_, ?_, ?_, ?_, ?_, ?_, ?_, ?_, ?_, fun k hk => ?_⟩
      · funext y; simp [setI_2, setA_2, u2]
      · funext y; simp [setI_2, setA_2, u3]
      · funext y; simp [setI_2, setA_2]
      · funext y; simp [setI_2, setA_2, u4, u0]
      · funext y; simp [setI_2, setA_2, u5]
      · funext y; simp [setI_2, setA_2, u6]
      · funext y; simp [setI_2, setA_2, u7, u10]
      · funext y; simp [setI_2, setA_2, u8]
      · funext y; simp [setI_2, setA_2, u10]
      · funext y; simp [setI_2, setA_2, u14]
      · rw [← uk k (by omega)]
        funext y
        simp only [setI_2, setA_2]
        repeat rw [if_neg (by omega)]
    · simp only [qw, if_false]
      refine ⟨_, rfl, by simp [setI_1], fun k hk => by simp [setI_1, setA_1, hk, u1], ?_, ?_, ?_, ?_, ?_, ?_, ?_, ?_, ?_, ?_, fun k hk => ?_⟩
      · funext y; simp [setI_2, setA_2, u2]
      · funext y; simp [setI_2, setA_2, u3]
      · funext y; simp [setI_2, setA_2]
      · funext y; by_cases q : y = c <;> simp [setI_2, setA_2, u4, u0, q]
      · funext y; by_cases q : y = c <;> simp [setI_2, setA_2, u5, q]
      · funext y; simp [setI_2, setA_2, u6]
      · funext y; simp [setI_2, setA_2, u7, u10]
      · funext y; simp [setI_2, setA_2, u8]
      · funext y; simp [setI_2, setA_2, u10]
      · funext y; simp [setI_2, setA_2, u14]
      · rw [← uk k (by omega)]
        funext y
        simp only [setI_2, setA_2]
        repeat rw [if_neg (by omega)]
  refine ⟨T, eu.trans eT, ⟨?_, j2, j3, ⟨(c + 1) % N, Nat.mod_lt _ (by omega), t1⟩, ?_, fun f hf => ?_, ?_, fun p hp => ?_⟩, t1, t1', by rw [tW]; simp, by rw [tO]; simp, by rw [tG]; simp, by rw [tV]; simp, by rw [tD]; simp, by rw [tR]; simp, by rw [tL]; simp, by rw [tU]; simp,
    fun y => by rw [tv], fun y => by rw [ta], tk, fun f hf k k1 k2 => ?_, fun i hi => ?_⟩
  · rw [t1' _ (by decide)]; exact j1
  · rw [tO, tG, tW]; exact L
  · rw [tD, tR]
    by_cases q : f = c
    · simp only [q, if_true]
      by_cases qw : w = 0 <;> simp [qw]
    · simp only [q, if_false]; exact j6 f hf
  · rw [tO, tG, tV, tD, tk 0 (by omega)]
    intro f o' g' b1 b2 b3 b4 b5 b6
    by_cases q : f = c
    · simp only [q, if_true] at b4 b5 b6 ⊢
      rw [N_inj (by omega) (by omega)] at b4 b5
      subst b4; subst b5
      by_cases qw : w = 0
      · simp [qw]
      · simp [qw] at b6
    · simp only [q, if_false] at b4 b5 b6 ⊢
      exact j7 f o' g' b1 b2 b3 b4 b5 b6
  · rw [tk 9 (by omega), tW]
    refine ⟨(j8 p hp).1, fun q g' hg' => ?_⟩
    have ne : p ≠ o := fun r => by rw [r, hsw] at q; exact absurd q (by decide)
    have ne2 : ¬ p * 8 + g' = o * 8 + g := by omega
    simp only [ne2, if_false]
    rcases ui (p * 8 + g') with r | ⟨r, -⟩
    · rw [r]; exact (j8 p hp).2 q g' hg'
    · exact r
  · have : k = 2 ∨ k = 3 ∨ k = 4 ∨ k = 5 ∨ k = 6 ∨ k = 7 ∨ k = 8 := by omega
    rcases this with rfl | rfl | rfl | rfl | rfl | rfl | rfl
    · rw [tO]; simp [hf]
    · rw [tG]; simp [hf]
    · rw [tV]; simp [hf]
    · rw [tD]; simp [hf]
    · rw [tR]; simp [hf]
    · rw [tL]; simp [hf]
    · rw [tU]; simp [hf]
  · rw [tW]; simp only [hi, if_false]; exact ui i
/-- what a page holds, wherever it lies -/
def own_L (s : St) (o g : Nat) : Int32 := if s.2 1 (o * 8 + g) = -1 then s.2 0 (o * 8 + g) else s.2 4 (ix (s.2 1 (o * 8 + g)))
theorem own_Lw {s : St} {o g f : Nat} (e : s.2 1 (o * 8 + g) = Int32.ofNat f) (hf : f < 32) : own_L s o g = s.2 4 f := by
  unfold own_L; rw [e, if_neg (own_ne1 (by omega)), ix_N (by omega)]
theorem own_Ln {s : St} {o g : Nat} (e : s.2 1 (o * 8 + g) = -1) : own_L s o g = s.2 0 (o * 8 + g) := by
  unfold own_L; rw [e, if_pos rfl]
theorem own_cwbL {n N : Nat} (hn : 40 ≤ n) {s : St} (h : own_J N s) : ∃ (c : Nat) (s' : St), f_completeWriteBacks n s = some (Int32.ofNat c, s') ∧ c ≤ N ∧ own_J N s' ∧ s'.1 = s.1 ∧ (∀ k, k ≠ 0 → k ≠ 5 → k ≠ 8 → s'.2 k = s.2 k) ∧ (∀ o g, o < 4 → g < 8 → own_L s' o g = own_L s o g) ∧ ∀ f, s'.2 5 f = s.2 5 f ∨ s'.2 5 f = 0 := by
  obtain ⟨c, t, e, hc, J, e1, ek, edd, ed⟩ := own_cwbJ hn h
  refine ⟨c, t, e, hc, J, e1, ek, fun o g ho hg => ?_, edd⟩
  obtain ⟨j1, j2, j3, j4, j5, j6, j7, j8⟩ := h
  have w := ek 1 (by decide) (by decide) (by decide)
  have v := ek 4 (by decide) (by decide) (by decide)
  rcases j5.2 o g ho hg with r | ⟨f, b1, b2, b3, b4⟩
  · rw [own_Ln r, own_Ln (by rw [w]; exact r)]
    rcases ed (o * 8 + g) with q | ⟨f, o', g', a1, a2, a3, a4, a5, a6, a7⟩
    · exact q
    · have hw := own_JJw j5 j3 a1 a2 a3 a4 a5
      rw [← a6, r] at hw
      exact absurd hw.symm (own_ne1 (by omega))
  · rw [own_Lw b2 (by omega), own_Lw (f := f) (by rw [w]; exact b2) (by omega), v]
/-- an access to a page of a process that is not swapped out -/
theorem own_accJ {n N : Nat} (hn : 40 ≤ n) {s : St} (h : own_J N s) {o g : Nat} (ho : o < 4) (hg : g < 8) (hs : s.2 9 o = 0) (w x : Int32) :
    ∃ (st : Int32) (s' : St), f_access n (Int32.ofNat o) (Int32.ofNat g) w x s = some (st, s') ∧ own_J N s' ∧ s'.1 19 = s.1 19 + 1 ∧ (∀ k, k ≠ 19 → k ≠ 20 → k ≠ 21 → s'.1 k = s.1 k) ∧ s'.2 9 = s.2 9 ∧ s'.2 12 = s.2 12 ∧
    ((st = 1 ∧ (∃ f : Nat, f < N ∧ s.2 1 (o * 8 + g) = Int32.ofNat f ∧ s'.1 21 = Int32.ofNat f ∧ s'.2 6 f = 1 ∧ (∀ y, y ≠ f → s'.2 6 y = s.2 6 y) ∧ (w ≠ 0 → s'.2 5 f = 1 ∧ s'.2 8 f = 0) ∧ (w = 0 → ∀ z, s'.2 5 z = s.2 5 z ∨ s'.2 5 z = 0)) ∧ s'.1 20 = s.1 20 ∧
        (∀ k, k = 1 ∨ k = 2 ∨ k = 3 ∨ k = 7 ∨ k = 11 ∨ k = 13 → s'.2 k = s.2 k) ∧ (∀ y, s'.2 10 y = if y = o then s.2 10 o + 1 else s.2 10 y) ∧ (∀ y, s'.2 14 y = if y = o then s.2 14 o + 1 else s.2 14 y) ∧
        (∀ o' g', o' < 4 → g' < 8 → own_L s' o' g' = if o' = o ∧ g' = g ∧ w ≠ 0 then x else own_L s o' g')) ∨
     (st = 2 ∧ s.2 1 (o * 8 + g) = -1 ∧ (∃ c : Nat, c < N ∧ (s.2 2 c = -1 ∨ ∃ o' : Nat, o' < 4 ∧ s.2 2 c = Int32.ofNat o' ∧ (s.2 6 c = 0 ∧ s.1 16 < s.2 10 o' - s.2 7 c ∨ s.1 16 < s.2 10 o' - s.2 10 o')) ∧ s'.2 1 (o * 8 + g) = Int32.ofNat c ∧ s'.1 21 = Int32.ofNat c ∧ s'.1 20 = Int32.ofNat ((c + 1) % N) ∧
          s'.2 2 c = Int32.ofNat o ∧ s'.2 3 c = Int32.ofNat g ∧ s'.2 5 c = (if w = 0 then 0 else 1) ∧ s'.2 6 c = 1 ∧ s'.2 7 c = s.2 10 o + 1 ∧ s'.2 8 c = 0 ∧
          (∀ f, f ≠ c → s'.2 2 f = s.2 2 f ∧ s'.2 3 f = s.2 3 f ∧ ((s'.2 6 f = s.2 6 f ∧ s'.2 7 f = s.2 7 f) ∨ (s'.2 6 f = 0 ∧ ∃ o' : Nat, o' < 4 ∧ s.2 2 f = Int32.ofNat o' ∧ s'.2 7 f = s.2 10 o'))) ∧
          (∀ i, i ≠ o * 8 + g → s'.2 1 i = s.2 1 i ∨ (s'.2 1 i = -1 ∧ s.2 1 i = Int32.ofNat c))) ∧
        (∀ y, s'.2 10 y = if y = o then s.2 10 o + 1 else s.2 10 y) ∧ (∀ y, s'.2 14 y = if y = o then s.2 14 o + 1 else s.2 14 y) ∧ (∀ y, s'.2 11 y = if y = o then s.2 11 o + 1 else s.2 11 y) ∧ (∀ y, s'.2 13 y = if y = o then s.2 13 o + 1 else s.2 13 y) ∧
        (∀ o' g', o' < 4 → g' < 8 → own_L s' o' g' = if o' = o ∧ g' = g ∧ w ≠ 0 then x else own_L s o' g')) ∨
     (st = 3 ∧ s.2 1 (o * 8 + g) = -1 ∧ s'.1 20 = s.1 20 ∧ (∀ k, k = 1 ∨ k = 2 ∨ k = 3 ∨ k = 10 ∨ k = 14 → s'.2 k = s.2 k) ∧ (∀ y, s'.2 11 y = if y = o then s.2 11 o + 1 else s.2 11 y) ∧ (∀ y, s'.2 13 y = if y = o then s.2 13 o + 1 else s.2 13 y) ∧
        (∀ f, (s'.2 6 f = s.2 6 f ∧ s'.2 7 f = s.2 7 f) ∨ (s'.2 6 f = 0 ∧ ∃ o' : Nat, o' < 4 ∧ s.2 2 f = Int32.ofNat o' ∧ s'.2 7 f = s.2 10 o')) ∧
        (∀ o' g', o' < 4 → g' < 8 → own_L s' o' g' = own_L s o' g'))) := by
  have h0 := h
  obtain ⟨j1, j2, j3, j4, j5, j6, j7, j8⟩ := h
  have bo : inb (Int32.ofNat o) 4 := inbN (by omega) (by omega)
  have bi : inb (Int32.ofNat (o * 8 + g)) 32 := inbN (by omega) (by omega)
  -- the clock, then the write-backs
  have hJ1 : own_J N (setI s 19 (s.1 19 + 1)) := ⟨j1, j2, j3, j4, j5, j6, j7, j8⟩
  obtain ⟨cc, t, et, -, tJ, t1, tk, tL, td0⟩ := own_cwbL hn hJ1
  have td : ∀ f, t.2 5 f = s.2 5 f ∨ t.2 5 f = 0 := td0
  have tL' : ∀ o g, o < 4 → g < 8 → own_L t o g = own_L s o g := fun o g a b => tL o g a b
  have tk' : ∀ k, k ≠ 0 → k ≠ 5 → k ≠ 8 → t.2 k = s.2 k := fun k a b c => tk k a b c
  have tw := tk' 1 (by decide) (by decide) (by decide)
  have tn : t.1 19 = s.1 19 + 1 := by rw [t1]; simp [setI_1]
  have ti : ∀ k, k ≠ 19 → t.1 k = s.1 k := fun k hk => by rw [t1]; simp [setI_1, hk]
  have acc : f_access n (Int32.ofNat o) (Int32.ofNat g) w x s = (if t.2 1 (o * 8 + g) < 0 then f_access_90 n (Int32.ofNat o) (Int32.ofNat g) w x t else if t.2 1 (o * 8 + g) < 32 then
      (f_hit (t.2 1 (o * 8 + g)) (Int32.ofNat o) w x t).bind fun q14 => bnd (setI q14 21 (t.2 1 (o * 8 + g))) fun s16 => some ((1 : Int32), s16) else f_access_90 n (Int32.ofNat o) (Int32.ofNat g) w x t) := by
    unfold f_access
    rw [if_neg (N_neg (by omega)), if_neg (own_o3 ho), if_neg (N_neg (by omega)), if_neg (own_g7 hg), grd_pos bo, ix_N (by omega), if_pos hs, bnd_eq, et]
    simp only [Option.bind_some]
    rw [own_idx, grd_pos bi, ix_N (by omega), bnd_eq]
  rcases j5.2 o g ho hg with r | ⟨f, b1, b2, b3, b4⟩
  · -- not resident: a fault
    rw [tw, r, if_pos (by decide)] at acc
    rw [acc]
    unfold f_access_90
    rw [grd_pos bo, ix_N (by omega)]
    simp only [bnd_eq]
    obtain ⟨u, hu⟩ : ∃ u, u = setA (setA t 11 o (t.2 11 o + 1)) 13 o ((setA t 11 o (t.2 11 o + 1)).2 13 o + 1) := ⟨_, rfl⟩
    rw [← hu]
    have uk : ∀ k, k ≠ 11 → k ≠ 13 → u.2 k = t.2 k := fun k a b => by rw [hu, own_sn b, own_sn a]
    have u1 : u.1 = t.1 := by rw [hu]; rfl
    have uf : ∀ y, u.2 11 y = if y = o then s.2 11 o + 1 else s.2 11 y := fun y => by
      rw [hu, own_sn (by decide), own_sa, tk' 11 (by decide) (by decide) (by decide)]
    have us : ∀ y, u.2 13 y = if y = o then s.2 13 o + 1 else s.2 13 y := fun y => by
      rw [hu, own_sa, own_sn (by decide), tk' 13 (by decide) (by decide) (by decide)]
    have uJ : own_J N u := by
      obtain ⟨k1, k2, k3, k4, k5, k6, k7, k8⟩ := tJ
      refine ⟨by rw [u1]; exact k1, k2, k3, by rw [u1]; exact k4, ?_, fun f hf => ?_, ?_, fun p hp => ?_⟩
      · rw [uk 2 (by decide) (by decide), uk 3 (by decide) (by decide), uk 1 (by decide) (by decide)]; exact k5
      · rw [uk 5 (by decide) (by decide), uk 6 (by decide) (by decide)]; exact k6 f hf
      · rw [uk 2 (by decide) (by decide), uk 3 (by decide) (by decide), uk 4 (by decide) (by decide), uk 5 (by decide) (by decide), uk 0 (by decide) (by decide)]; exact k7
      · rw [uk 9 (by decide) (by decide), uk 1 (by decide) (by decide)]; exact k8 p hp
    have uL : ∀ o' g', o' < 4 → g' < 8 → own_L u o' g' = own_L s o' g' := fun o' g' a b => by
      rw [← tL' o' g' a b]; unfold own_L; rw [uk 1 (by decide) (by decide), uk 4 (by decide) (by decide), uk 0 (by decide) (by decide)]
    obtain ⟨v, y, ey, yJ, y1, yk, yv, yf⟩ := own_swpJ hn uJ
    rw [ey]
    simp only [Option.bind_some]
    have uks : ∀ k, k ≠ 0 → k ≠ 5 → k ≠ 8 → k ≠ 11 → k ≠ 13 → u.2 k = s.2 k := fun k a b c d e => (uk k d e).trans (tk' k a b c)
    have yks : ∀ k, k ≠ 0 → k ≠ 5 → k ≠ 8 → k ≠ 11 → k ≠ 13 → k ≠ 6 → k ≠ 7 → y.2 k = s.2 k := fun k a b c d e f g => (yk k f g c).trans (uks k a b c d e)
    have yn : y.1 19 = s.1 19 + 1 := by rw [y1, u1]; exact tn
    have yi : ∀ k, k ≠ 19 → y.1 k = s.1 k := fun k hk => by rw [y1, u1]; exact ti k hk
    have yL : ∀ o' g', o' < 4 → g' < 8 → own_L y o' g' = own_L s o' g' := fun o' g' a b => by
      rw [← uL o' g' a b]; unfold own_L; rw [yk 1 (by decide) (by decide) (by decide), yk 4 (by decide) (by decide) (by decide), yk 0 (by decide) (by decide) (by decide)]
    have yw := yks 1 (by decide) (by decide) (by decide) (by decide) (by decide) (by decide) (by decide)
    have yo := yks 2 (by decide) (by decide) (by decide) (by decide) (by decide) (by decide) (by decide)
    have yp := yks 3 (by decide) (by decide) (by decide) (by decide) (by decide) (by decide) (by decide)
    have yvt := yks 10 (by decide) (by decide) (by decide) (by decide) (by decide) (by decide) (by decide)
    have ysa := yks 14 (by decide) (by decide) (by decide) (by decide) (by decide) (by decide) (by decide)
    have ysw := yks 9 (by decide) (by decide) (by decide) (by decide) (by decide) (by decide) (by decide)
    have ysv := yks 12 (by decide) (by decide) (by decide) (by decide) (by decide) (by decide) (by decide)
    have yfl := yk 11 (by decide) (by decide) (by decide)
    have ysf := yk 13 (by decide) (by decide) (by decide)
    have urf := uks 6 (by decide) (by decide) (by decide) (by decide) (by decide)
    have ula := uks 7 (by decide) (by decide) (by decide) (by decide) (by decide)
    have uow := uks 2 (by decide) (by decide) (by decide) (by decide) (by decide)
    have uvt := uks 10 (by decide) (by decide) (by decide) (by decide) (by decide)
    have yf' : ∀ f, (y.2 6 f = s.2 6 f ∧ y.2 7 f = s.2 7 f) ∨ (y.2 6 f = 0 ∧ ∃ o' : Nat, o' < 4 ∧ s.2 2 f = Int32.ofNat o' ∧ y.2 7 f = s.2 10 o') := fun f => by
      have := yf f
      rw [urf, ula, uow, uvt] at this
      exact this
    rcases yv with rv | ⟨c, hc, rv, hv⟩
    · rw [rv, if_pos (by decide)]
      refine ⟨3, y, rfl, yJ, yn, fun k a _ _ => yi k a, ysw, ysv, Or.inr (Or.inr ⟨rfl, r, yi _ (by decide), fun k hk => ?_, fun z => by rw [yfl]; exact uf z, fun z => by rw [ysf]; exact us z, yf', yL⟩)⟩
      rcases hk with rfl | rfl | rfl | rfl | rfl
      · exact yw
      · exact yo
      · exact yp
      · exact yvt
      · exact ysa
    · rw [rv, if_neg (N_neg (by omega))]
      obtain ⟨T, eT, TJ, T1, T1', Tw, To, Tg, Tv, Td, Tr, Tl, Tu, Tvt, Tsa, Tk, Tf, Ti⟩ := own_ldJ yJ hc ho hg (by rw [yw]; exact r) (by rw [ysw]; exact hs) w x
      rw [eT]
      simp only [Option.bind_some, bnd_eq]
      refine ⟨2, setI T 21 (Int32.ofNat c), rfl, ?_, ?_, fun k a b d => ?_, (Tk 9 (by omega)).trans ysw, (Tk 12 (by omega)).trans ysv, Or.inr (Or.inl ⟨rfl, r, ⟨c, hc, ?_, Tw, by simp [setI_1], ?_, To, Tg, Td, Tr, ?_, Tu, fun f hf => ⟨?_, ?_, ?_⟩, fun i hi => ?_⟩, fun z => ?_, fun z => ?_, fun z => ?_, fun z => ?_, fun o' g' a b => ?_⟩)⟩
      · obtain ⟨k1, k2, k3, k4, k5, k6, k7, k8⟩ := TJ
        exact ⟨k1, k2, k3, k4, k5, k6, k7, k8⟩
      · rw [setI_1, if_neg (by decide), T1' _ (by decide)]; exact yn
      · rw [setI_1, if_neg d, T1' _ b]; exact yi k a
      · rcases hv with q | ⟨-, q2, o', q3, q4, q5⟩
        · left; rw [← uow]; exact q
        · right
          refine ⟨o', q3, by rw [← uow]; exact q4, ?_⟩
          rw [uvt, u1, ti _ (by decide)] at q5
          rcases yf' c with ⟨z1, z2⟩ | ⟨z1, o2, z2, z3, z4⟩
          · left; rw [z2] at q5; rw [z1] at q2; exact ⟨q2, q5⟩
          · right
            rw [uow, z3, N_inj (by omega) (by omega)] at q4
            subst q4
            rw [z4] at q5; exact q5
      · rw [setI_1, if_neg (by decide)]; exact T1
      · show T.2 7 c = _
        rw [Tl, yvt]
      · show T.2 2 f = _
        rw [Tf f hf _ (by decide) (by decide), yo]
      · show T.2 3 f = _
        rw [Tf f hf _ (by decide) (by decide), yp]
      · show (T.2 6 f = _ ∧ T.2 7 f = _) ∨ (T.2 6 f = 0 ∧ ∃ o' : Nat, o' < 4 ∧ _ ∧ T.2 7 f = _)
        rw [Tf f hf 6 (by decide) (by decide), Tf f hf 7 (by decide) (by decide)]
        exact yf' f
      · show T.2 1 i = _ ∨ (T.2 1 i = -1 ∧ _)
        have := Ti i hi
        rw [yw] at this
        exact this
      · show T.2 10 z = _
        rw [Tvt, yvt]
      · show T.2 14 z = _
        rw [Tsa, ysa]
      · show T.2 11 z = _
        rw [Tk 11 (by omega), yfl]; exact uf z
      · show T.2 13 z = _
        rw [Tk 13 (by omega), ysf]; exact us z
      · show own_L T o' g' = _
        have j3' : N ≤ 32 := j3
        by_cases q : o' = o ∧ g' = g
        · obtain ⟨rfl, rfl⟩ := q
          rw [own_Lw Tw (by omega), Tv]
          by_cases qw : w = 0
          · simp only [qw, if_true, ne_eq, not_true, and_false, if_false]
            rw [← yL o' g' a b, own_Ln (by rw [yw]; exact r)]
          · simp [qw]
        · have : ¬ (o' = o ∧ g' = g ∧ w ≠ 0) := fun z => q ⟨z.1, z.2.1⟩
          rw [if_neg this, ← yL o' g' a b]
          have ne : o' * 8 + g' ≠ o * 8 + g := fun z => q ⟨by omega, by omega⟩
          rcases Ti _ ne with z | ⟨z1, z2⟩
          · obtain ⟨k1, k2, k3, k4, k5, k6, k7, k8⟩ := yJ
            rcases k5.2 o' g' a b with m | ⟨f, m1, m2, m3, m4⟩
            · rw [own_Ln m, own_Ln (z.trans m), Tk 0 (by omega)]
            · have fc : f ≠ c := fun q => by
                subst q
                -- the frame's page would be the new one
                obtain ⟨l1, l2, l3, l4, l5, l6, l7, l8⟩ := TJ
                have ww := z.trans m2
                rcases l5.2 o' g' a b with n1 | ⟨f2, n1, n2, n3, n4⟩
                · rw [n1] at ww; exact own_ne1 (by omega) ww.symm
                · rw [ww, N_inj (by omega) (by omega)] at n2
                  subst n2
                  rw [To, N_inj (by omega) (by omega)] at n3
                  rw [Tg, N_inj (by omega) (by omega)] at n4
                  exact q ⟨n3.symm, n4.symm⟩
              rw [own_Lw m2 (by omega), own_Lw (z.trans m2) (by omega), Tf f fc _ (by decide) (by decide)]
          · rw [own_Ln z1, own_Lw z2 (by omega), Tk 0 (by omega)]
            obtain ⟨k1, k2, k3, k4, k5, k6, k7, k8⟩ := yJ
            rcases k5.2 o' g' a b with m | ⟨f, m1, m2, m3, m4⟩
            · rw [m] at z2; exact absurd z2.symm (own_ne1 (by omega))
            · rw [z2, N_inj (by omega) (by omega)] at m2
              subst m2
              refine k7 c o' g' hc a b m3 m4 ?_
              rcases hv with q | ⟨q1, -⟩
              · rw [uow] at q; rw [yo, q] at m3
                exact absurd m3.symm (own_ne1 (by omega))
              · rw [yk 5 (by decide) (by decide) (by decide)]; exact q1
  · -- resident: a hit
    rw [tw, b2, if_neg (N_neg (by omega)), if_pos (ltZ (z := 32) 32 rfl (by omega) (by omega))] at acc
    rw [acc]
    have bf : inb (Int32.ofNat f) 32 := inbN (by omega) (by omega)
    have tv := tk' 10 (by decide) (by decide) (by decide)
    have ta := tk' 14 (by decide) (by decide) (by decide)
    have tr := tk' 6 (by decide) (by decide) (by decide)
    obtain ⟨T, eT, T1, Tk, Tv, Ta, Tr, Td, Tu, TV⟩ : ∃ T : St, f_hit (Int32.ofNat f) (Int32.ofNat o) w x t = some T ∧ T.1 = t.1 ∧ (∀ k, k ≠ 10 → k ≠ 14 → k ≠ 6 → k ≠ 4 → k ≠ 5 → k ≠ 8 → T.2 k = t.2 k) ∧ T.2 10 = (fun z => if z = o then s.2 10 o + 1 else s.2 10 z) ∧ T.2 14 = (fun z => if z = o then s.2 14 o + 1 else s.2 14 z) ∧
        T.2 6 = (fun z => if z = f then 1 else s.2 6 z) ∧ T.2 5 = (fun z => if z = f ∧ w ≠ 0 then 1 else t.2 5 z) ∧ T.2 8 = (fun z => if z = f ∧ w ≠ 0 then 0 else t.2 8 z) ∧ T.2 4 = (fun z => if z = f ∧ w ≠ 0 then x else t.2 4 z) := by
      unfold f_hit
      simp only [grd_pos bo, grd_pos bf, bnd_eq, ix_N (show f < 2147483648 by omega), ix_N (show o < 2147483648 by omega)]
      by_cases qw : w = 0
      · simp only [qw, if_true]
        refine ⟨_, rfl, rfl, fun k h1 h2 h3 h4 h5 h6 => by rw [own_sn h3, own_sn h2, own_sn h1], ?_, ?_, ?_, ?_, ?_, ?_⟩
        · funext z; simp [setA_2, tv]
        · funext z; simp [setA_2, ta]
        · funext z; simp [setA_2, tr]
        · funext z; simp [setA_2]
        · funext z; simp [setA_2]
        · funext z; simp [setA_2]
      · simp only [qw, if_false]
        refine ⟨_, rfl, rfl, fun k h1 h2 h3 h4 h5 h6 => by rw [own_sn h6, own_sn h5, own_sn h4, own_sn h3, own_sn h2, own_sn h1], ?_, ?_, ?_, ?_, ?_, ?_⟩
        · funext z; simp [setA_2, tv]
        · funext z; simp [setA_2, ta]
        · funext z; simp [setA_2, tr]
        · funext z; simp [setA_2, qw]
        · funext z; simp [setA_2, qw]
        · funext z; simp [setA_2, qw]
    rw [eT]
    simp only [Option.bind_some, bnd_eq]
    have Tks : ∀ k, k ≠ 10 → k ≠ 14 → k ≠ 6 → k ≠ 4 → k ≠ 5 → k ≠ 8 → k ≠ 0 → T.2 k = s.2 k := fun k h1 h2 h3 h4 h5 h6 h7 => (Tk k h1 h2 h3 h4 h5 h6).trans (tk' k h7 h5 h6)
    have Tw := Tks 1 (by decide) (by decide) (by decide) (by decide) (by decide) (by decide) (by decide)
    have To := Tks 2 (by decide) (by decide) (by decide) (by decide) (by decide) (by decide) (by decide)
    have Tg := Tks 3 (by decide) (by decide) (by decide) (by decide) (by decide) (by decide) (by decide)
    have Tdk := Tk 0 (by decide) (by decide) (by decide) (by decide) (by decide) (by decide)
    refine ⟨1, setI T 21 (Int32.ofNat f), rfl, ?_, ?_, fun k a b d => ?_, Tks 9 (by decide) (by decide) (by decide) (by decide) (by decide) (by decide) (by decide), Tks 12 (by decide) (by decide) (by decide) (by decide) (by decide) (by decide) (by decide),
      Or.inl ⟨rfl, ⟨f, b1, b2, by simp [setI_1], ?_, fun z hz => ?_, fun qw => ⟨?_, ?_⟩, fun qw z => ?_⟩, ?_, fun k hk => ?_, fun z => ?_, fun z => ?_, fun o' g' a b => ?_⟩⟩
    · obtain ⟨k1, k2, k3, k4, k5, k6, k7, k8⟩ := tJ
      refine ⟨?_, k2, k3, ?_, ?_, fun z hz => ?_, ?_, fun p hp => ?_⟩
      · show T.1 15 = _
        rw [T1]; exact k1
      · show ∃ H, H < N ∧ T.1 20 = _
        rw [T1]; exact k4
      · show own_JJ N (T.2 2) (T.2 3) (T.2 1)
        rw [To, Tg, Tw]; exact j5
      · show (T.2 5 z = 0 ∨ T.2 5 z = 1) ∧ (T.2 6 z = 0 ∨ T.2 6 z = 1)
        rw [Td, Tr]
        constructor
        · by_cases q : z = f ∧ w ≠ 0
          · simp [q]
          · simp only [q, if_false]; exact (k6 z hz).1
        · by_cases q : z = f
          · simp [q]
          · simp only [q, if_false]; rw [← tr]; exact (k6 z hz).2
      · show own_DD N (T.2 2) (T.2 3) (T.2 4) (T.2 5) (T.2 0)
        rw [To, Tg, TV, Td, Tdk]
        intro z o' g' c1 c2 c3 c4 c5 c6
        by_cases q : z = f ∧ w ≠ 0
        · simp only [q, and_self, if_true, ne_eq, not_false_eq_true] at c6
          exact absurd c6 (by decide)
        · simp only [q, if_false] at c6 ⊢
          refine k7 z o' g' c1 c2 c3 ?_ ?_ c6
          · rw [tk' 2 (by decide) (by decide) (by decide)]; exact c4
          · rw [tk' 3 (by decide) (by decide) (by decide)]; exact c5
      · show (T.2 9 p = 0 ∨ T.2 9 p = 1) ∧ (T.2 9 p = 1 → ∀ g, g < 8 → T.2 1 (p * 8 + g) = -1)
        rw [Tks 9 (by decide) (by decide) (by decide) (by decide) (by decide) (by decide) (by decide), Tw]; exact j8 p hp
    · rw [setI_1, if_neg (by decide), T1]; exact tn
    · rw [setI_1, if_neg d, T1]; exact ti k a
    · show T.2 6 f = 1
      rw [Tr]; simp
    · show T.2 6 z = _
      rw [Tr]; simp [hz]
    · show T.2 5 f = 1
      rw [Td]; simp [qw]
    · show T.2 8 f = 0
      rw [Tu]; simp [qw]
    · show T.2 5 z = _ ∨ T.2 5 z = 0
      rw [Td]; simp only [qw, ne_eq, not_true, and_false, if_false]; exact td z
    · rw [setI_1, if_neg (by decide), T1]; exact ti _ (by decide)
    · show T.2 k = _
      refine Tks k ?_ ?_ ?_ ?_ ?_ ?_ ?_ <;> omega
    · show T.2 10 z = _
      rw [Tv]
    · show T.2 14 z = _
      rw [Ta]
    · show own_L T o' g' = _
      rcases j5.2 o' g' a b with m | ⟨f', m1, m2, m3, m4⟩
      · have : ¬ (o' = o ∧ g' = g ∧ w ≠ 0) := fun q => by
          obtain ⟨rfl, rfl, -⟩ := q
          rw [b2] at m; exact own_ne1 (by omega) m
        rw [if_neg this, ← tL' o' g' a b, own_Ln (by rw [Tw]; exact m), own_Ln (by rw [tw]; exact m), Tdk]
      · rw [own_Lw (f := f') (by rw [Tw]; exact m2) (by omega), TV]
        by_cases q : f' = f
        · subst q
          rw [b3, N_inj (by omega) (by omega)] at m3
          rw [b4, N_inj (by omega) (by omega)] at m4
          subst m3; subst m4
          by_cases qw : w = 0
          · simp only [qw, ne_eq, not_true, and_false, if_false]
            rw [← tL' o g a b, own_Lw (f := f') (by rw [tw]; exact m2) (by omega)]
          · simp [qw]
        · have n1 : ¬ (o' = o ∧ g' = g ∧ w ≠ 0) := fun z => by
            obtain ⟨rfl, rfl, -⟩ := z
            rw [b2, N_inj (by omega) (by omega)] at m2
            exact q m2.symm
          have n2 : ¬ (f' = f ∧ w ≠ 0) := fun z => q z.1
          simp only [n1, n2, if_false]
          rw [← tL' o' g' a b, own_Lw (f := f') (by rw [tw]; exact m2) (by omega)]
theorem own_tickJ {n N : Nat} (hn : 40 ≤ n) {s : St} (h : own_J N s) : ∃ (c : Nat) (s' : St), f_tick n s = some (Int32.ofNat c, s') ∧ c ≤ N ∧ own_J N s' ∧ s'.1 19 = s.1 19 + 1 ∧ (∀ k, k ≠ 19 → s'.1 k = s.1 k) ∧ (∀ k, k ≠ 0 → k ≠ 5 → k ≠ 8 → s'.2 k = s.2 k) ∧
    ∀ o g, o < 4 → g < 8 → own_L s' o g = own_L s o g := by
  obtain ⟨j1, j2, j3, j4, j5, j6, j7, j8⟩ := h
  have hJ1 : own_J N (setI s 19 (s.1 19 + 1)) := ⟨j1, j2, j3, j4, j5, j6, j7, j8⟩
  obtain ⟨c, t, et, hc, tJ, t1, tk, tL, -⟩ := own_cwbL hn hJ1
  unfold f_tick
  rw [bnd_eq, et]
  simp only [Option.bind_some]
  exact ⟨c, t, rfl, hc, tJ, by rw [t1]; simp [setI_1], fun k hk => by rw [t1]; simp [setI_1, hk], tk, tL⟩
/-! counting -/
def own_cnt (P : Nat → Bool) : Nat → Nat
  | 0 => 0
  | n + 1 => own_cnt P n + if P n then 1 else 0
theorem own_cnt_le (P : Nat → Bool) : ∀ n, own_cnt P n ≤ n := by
  intro n
  induction n with
  | zero => exact Nat.le_refl _
  | succ n ih => simp only [own_cnt]; split <;> omega
theorem own_cnt_congr {P Q : Nat → Bool} : ∀ n, (∀ i, i < n → P i = Q i) → own_cnt P n = own_cnt Q n := by
  intro n
  induction n with
  | zero => intro _; rfl
  | succ n ih => intro h; simp only [own_cnt]; rw [ih (fun i hi => h i (by omega)), h n (by omega)]
theorem own_cnt_drop {P Q : Nat → Bool} {c : Nat} (h1 : P c = true) (h2 : Q c = false) (h3 : ∀ i, i ≠ c → P i = Q i) : ∀ n, c < n → own_cnt P n = own_cnt Q n + 1 := by
  intro n
  induction n with
  | zero => intro h; omega
  | succ n ih =>
    intro h
    simp only [own_cnt]
    by_cases q : c = n
    · subst q
      rw [h1, h2, own_cnt_congr c (fun i hi => h3 i (by omega))]
      simp
    · rw [ih (by omega), h3 n (fun r => q r.symm)]; omega
theorem own_cnt_pos {P : Nat → Bool} {c : Nat} (h : P c = true) : ∀ n, c < n → 0 < own_cnt P n := by
  intro n
  induction n with
  | zero => intro q; omega
  | succ n ih =>
    intro q
    simp only [own_cnt]
    by_cases e : c = n
    · subst e; rw [h]; simp
    · have := ih (by omega); omega
theorem own_cnt_zero {P : Nat → Bool} : ∀ n, (∀ i, i < n → P i = false) → own_cnt P n = 0 := by
  intro n
  induction n with
  | zero => intro _; rfl
  | succ n ih => intro h; simp only [own_cnt]; rw [ih (fun i hi => h i (by omega)), h n (by omega)]; rfl
theorem own_neg1 {N : Nat} {O G W : Nat → Int32} (h : own_JJ N O G W) {f : Nat} (hf : f < N) : (O f < 0 ↔ O f = -1) := by
  rcases h.1 f hf with r | ⟨o, g, a1, a2, a3, a4, a5⟩
  · rw [r]; decide
  · rw [a3]; exact ⟨fun q => absurd q (N_neg (by omega)), fun q => absurd q (own_ne1 (by omega))⟩
theorem own_cfE {n N : Nat} (hn : 40 ≤ n) {s : St} (j1 : s.1 15 = Int32.ofNat N) (j3 : N ≤ 32) (h0 : own_JJ N (s.2 2) (s.2 3) (s.2 1)) : f_countFree n s = some (Int32.ofNat (own_cnt (fun f => decide (s.2 2 f = -1)) N)) := by
  obtain ⟨r, e1, e2⟩ := loopP (F := fun k i (c : Int32) => f_countFree_4 n s k c i) (N := N) (P := fun i c => c = Int32.ofNat (own_cnt (fun f => decide (s.2 2 f = -1)) i)) (Q := fun r => r = Int32.ofNat (own_cnt (fun f => decide (s.2 2 f = -1)) N))
    (fun k i c hi hp => Or.inl (by
      show ∃ s', f_countFree_4 n s (k + 1) c (Int32.ofNat i) = f_countFree_4 n s k s' (Int32.ofNat i + 1) ∧ _
      rw [u_countFree_4, j1, if_pos (ltN hi (by omega)), grd_pos (inbN (show i < 32 by omega) (by omega)), ix_N (by omega)]
      simp only [own_cnt]
      by_cases q : s.2 2 i = -1
      · rw [if_pos ((own_neg1 h0 hi).mpr q)]
        exact ⟨_, rfl, by rw [hp, N_succ]; simp [q]⟩
      · rw [if_neg (fun z => q ((own_neg1 h0 hi).mp z))]
        exact ⟨_, rfl, by rw [hp]; simp [q]⟩))
    (fun k c hp => ⟨c, by
      show f_countFree_4 n s (k + 1) c (Int32.ofNat N) = _
      rw [u_countFree_4, j1, if_neg (nltN (by omega))], hp⟩) N 0 n 0 (by omega) (by omega) rfl
  subst e2; exact e1
theorem own_bcE {n : Nat} (hn : 40 ≤ n) (s : St) {M : Nat} (hM : M < 256) : f_bitCount n s (Int32.ofNat M) = some (Int32.ofNat (own_cnt (fun g => M.testBit g) 8)) := by
  have tb : ∀ M, M < 256 → ∀ g, g < 8 → (Int32.ofNat M &&& ((1 : Int32) <<< (Int32.ofNat g &&& 31)) = 0 ↔ M.testBit g = false) := by decide +kernel
  obtain ⟨r, e1, e2⟩ := loopP (F := fun k i (c : Int32) => f_bitCount_4 n s k (Int32.ofNat M) c i) (N := 8) (P := fun i c => c = Int32.ofNat (own_cnt (fun g => M.testBit g) i)) (Q := fun r => r = Int32.ofNat (own_cnt (fun g => M.testBit g) 8))
    (fun k i c hi hp => Or.inl (by
      show ∃ s', f_bitCount_4 n s (k + 1) (Int32.ofNat M) c (Int32.ofNat i) = f_bitCount_4 n s k (Int32.ofNat M) s' (Int32.ofNat i + 1) ∧ _
      rw [u_bitCount_4, if_pos (ltZ (z := 8) 8 rfl hi (by omega))]
      simp only [own_cnt]
      by_cases q : M.testBit i = false
      · rw [if_pos ((tb M hM i hi).mpr q)]
        exact ⟨_, rfl, by rw [hp]; simp [q]⟩
      · rw [if_neg (fun z => q ((tb M hM i hi).mp z))]
        exact ⟨_, rfl, by rw [hp, N_succ]; simp at q; simp [q]⟩))
    (fun k c hp => ⟨c, by
      show f_bitCount_4 n s (k + 1) (Int32.ofNat M) c (Int32.ofNat 8) = _
      rw [u_bitCount_4, if_neg (by decide)], hp⟩) 8 0 n 0 (by omega) (by omega) rfl
  subst e2; exact e1
theorem own_lfE {n N : Nat} (hn : 40 ≤ n) {s : St} (j1 : s.1 15 = Int32.ofNat N) (j3 : N ≤ 32) (h0 : own_JJ N (s.2 2) (s.2 3) (s.2 1)) (hp : 0 < own_cnt (fun f => decide (s.2 2 f = -1)) N) : ∃ c, c < N ∧ s.2 2 c = -1 ∧ f_lowestFree n s = some (Int32.ofNat c) := by
  obtain ⟨r, e1, c, e2, e3, e4⟩ := loopP (F := fun k i (c : Unit) => f_lowestFree_2 n s k i) (N := N) (P := fun i _ => ∀ f, f < i → s.2 2 f ≠ -1) (Q := fun r => ∃ c, r = Int32.ofNat c ∧ c < N ∧ s.2 2 c = -1)
    (fun k i c hi hq => by
      show (∃ s' : Unit, f_lowestFree_2 n s (k + 1) (Int32.ofNat i) = f_lowestFree_2 n s k (Int32.ofNat i + 1) ∧ _) ∨ ∃ r, f_lowestFree_2 n s (k + 1) (Int32.ofNat i) = some r ∧ _
      rw [u_lowestFree_2, j1, if_pos (ltN hi (by omega)), grd_pos (inbN (show i < 32 by omega) (by omega)), ix_N (by omega)]
      by_cases q : s.2 2 i = -1
      · rw [if_pos ((own_neg1 h0 hi).mpr q)]
        exact Or.inr ⟨_, rfl, i, rfl, hi, q⟩
      · rw [if_neg (fun z => q ((own_neg1 h0 hi).mp z))]
        refine Or.inl ⟨(), rfl, fun f hf => ?_⟩
        by_cases e : f = i
        · rw [e]; exact q
        · exact hq f (by omega))
    (fun k c hq => by
      exfalso
      rw [own_cnt_zero N (fun i hi => by simp [hq i hi])] at hp
      omega) N 0 n () (by omega) (by omega) (fun f hf => by omega)
  subst e2; exact ⟨c, e3, e4, e1⟩
theorem own_orE : ∀ M, M < 256 → ∀ g, g < 8 → Int32.ofNat M ||| ((1 : Int32) <<< (Int32.ofNat g &&& 31)) = Int32.ofNat (M ||| 2 ^ g) ∧ M ||| 2 ^ g < 256 := by decide +kernel
theorem own_outJ {n N : Nat} (hn : 40 ≤ n) {s : St} (h : own_J N s) {p : Nat} (hp : p < 4) :
    ∃ s', f_doSwapOut n (Int32.ofNat p) s = some s' ∧ own_J N s' ∧ s'.1 = s.1 ∧ (∀ q, s'.2 9 q = if q = p then 1 else s.2 9 q) ∧ (∀ k, k = 10 ∨ k = 11 ∨ k = 13 ∨ k = 14 → s'.2 k = s.2 k) ∧
      (∀ g, g < 8 → s'.2 1 (p * 8 + g) = -1) ∧ (∀ x, (∀ g, g < 8 → x ≠ p * 8 + g) → s'.2 1 x = s.2 1 x ∧ s'.2 0 x = s.2 0 x) ∧ (∀ f, s.2 2 f ≠ Int32.ofNat p → ∀ k, 2 ≤ k → k ≤ 8 → s'.2 k f = s.2 k f) ∧
      (∀ f, f < N → s.2 2 f = Int32.ofNat p → s'.2 2 f = -1) ∧ (∃ M, M < 256 ∧ s'.2 12 p = Int32.ofNat M ∧ (∀ g, g < 8 → M.testBit g = decide (s.2 1 (p * 8 + g) ≠ -1)) ∧ own_cnt (fun g => M.testBit g) 8 ≤ own_cnt (fun f => decide (s'.2 2 f = -1)) N) ∧ (∀ q, q ≠ p → s'.2 12 q = s.2 12 q) ∧
      (∀ o g, o < 4 → g < 8 → own_L s' o g = own_L s o g) := by
  have h0 := h
  obtain ⟨j1, j2, j3, j4, j5, j6, j7, j8⟩ := h
  have bp : inb (Int32.ofNat p) 4 := inbN hp (by omega)
  obtain ⟨R, e1, t, eR, p1, p2, p3, p4, p5, p6, p7, p8, ⟨M, hM, m1, m2⟩, ⟨M2, hM2, n1, n2⟩, p10⟩ := loopP (F := fun k i t => f_doSwapOut_9 n k (Int32.ofNat p) i t) (N := N)
    (P := fun i t => t.1 = s.1 ∧ (∀ k, k = 9 ∨ k = 10 ∨ k = 11 ∨ k = 13 ∨ k = 14 → t.2 k = s.2 k) ∧ own_JJ N (t.2 2) (t.2 3) (t.2 1) ∧ (∀ f, f < N → (t.2 5 f = 0 ∨ t.2 5 f = 1) ∧ (t.2 6 f = 0 ∨ t.2 6 f = 1)) ∧
      own_DD N (t.2 2) (t.2 3) (t.2 4) (t.2 5) (t.2 0) ∧ (∀ f, (s.2 2 f ≠ Int32.ofNat p ∨ i ≤ f) → ∀ k, 2 ≤ k → k ≤ 8 → t.2 k f = s.2 k f) ∧ (∀ f, f < i → s.2 2 f = Int32.ofNat p → t.2 2 f = -1) ∧
      (∀ x, (∀ g, g < 8 → x ≠ p * 8 + g) → t.2 1 x = s.2 1 x ∧ t.2 0 x = s.2 0 x) ∧
      (∃ M, M < 256 ∧ t.2 12 p = Int32.ofNat M ∧ ∀ g, g < 8 → (t.2 1 (p * 8 + g) = s.2 1 (p * 8 + g) ∧ t.2 0 (p * 8 + g) = s.2 0 (p * 8 + g) ∧ M.testBit g = false) ∨ (t.2 1 (p * 8 + g) = -1 ∧ M.testBit g = true ∧ ∃ f, f < N ∧ s.2 1 (p * 8 + g) = Int32.ofNat f ∧ t.2 0 (p * 8 + g) = s.2 4 f)) ∧
      (∃ M, M < 256 ∧ t.2 12 p = Int32.ofNat M ∧ own_cnt (fun f => decide (t.2 2 f = -1)) N = own_cnt (fun f => decide (s.2 2 f = -1)) N + own_cnt (fun g => M.testBit g) 8) ∧
      (∀ q, q ≠ p → t.2 12 q = s.2 12 q))
    (Q := fun R => ∃ t : St, R = setA t 9 p 1 ∧ t.1 = s.1 ∧ (∀ k, k = 9 ∨ k = 10 ∨ k = 11 ∨ k = 13 ∨ k = 14 → t.2 k = s.2 k) ∧ own_JJ N (t.2 2) (t.2 3) (t.2 1) ∧ (∀ f, f < N → (t.2 5 f = 0 ∨ t.2 5 f = 1) ∧ (t.2 6 f = 0 ∨ t.2 6 f = 1)) ∧
      own_DD N (t.2 2) (t.2 3) (t.2 4) (t.2 5) (t.2 0) ∧ (∀ f, (s.2 2 f ≠ Int32.ofNat p ∨ N ≤ f) → ∀ k, 2 ≤ k → k ≤ 8 → t.2 k f = s.2 k f) ∧ (∀ f, f < N → s.2 2 f = Int32.ofNat p → t.2 2 f = -1) ∧
      (∀ x, (∀ g, g < 8 → x ≠ p * 8 + g) → t.2 1 x = s.2 1 x ∧ t.2 0 x = s.2 0 x) ∧
      (∃ M, M < 256 ∧ t.2 12 p = Int32.ofNat M ∧ ∀ g, g < 8 → (t.2 1 (p * 8 + g) = s.2 1 (p * 8 + g) ∧ t.2 0 (p * 8 + g) = s.2 0 (p * 8 + g) ∧ M.testBit g = false) ∨ (t.2 1 (p * 8 + g) = -1 ∧ M.testBit g = true ∧ ∃ f, f < N ∧ s.2 1 (p * 8 + g) = Int32.ofNat f ∧ t.2 0 (p * 8 + g) = s.2 4 f)) ∧
      (∃ M, M < 256 ∧ t.2 12 p = Int32.ofNat M ∧ own_cnt (fun f => decide (t.2 2 f = -1)) N = own_cnt (fun f => decide (s.2 2 f = -1)) N + own_cnt (fun g => M.testBit g) 8) ∧
      (∀ q, q ≠ p → t.2 12 q = s.2 12 q))
    (fun k i t hi hP => Or.inl (by
      obtain ⟨p1, p2, p3, p4, p5, p6, p7, p8, ⟨M, hM, m1, m2⟩, ⟨M2, hM2, n1, n2⟩, p10⟩ := hP
      have eM : M = M2 := by
        rw [m1, N_inj (by omega) (by omega)] at n1; exact n1
      subst eM
      show ∃ s', f_doSwapOut_9 n (k + 1) (Int32.ofNat p) (Int32.ofNat i) t = f_doSwapOut_9 n k (Int32.ofNat p) (Int32.ofNat i + 1) s' ∧ _
      have hb : inb (Int32.ofNat i) 32 := inbN (by omega) (by omega)
      have tO := p6 i (Or.inr (Nat.le_refl _)) 2 (by decide) (by decide)
      have tG := p6 i (Or.inr (Nat.le_refl _)) 3 (by decide) (by decide)
      have tV := p6 i (Or.inr (Nat.le_refl _)) 4 (by decide) (by decide)
      rw [u_doSwapOut_9, p1, j1, if_pos (ltN hi (by omega)), grd_pos hb, ix_N (by omega), tO]
      by_cases hO : s.2 2 i = Int32.ofNat p
      · rw [if_pos hO]
        obtain ⟨g, hg, a4, a5⟩ : ∃ g, g < 8 ∧ s.2 3 i = Int32.ofNat g ∧ s.2 1 (p * 8 + g) = Int32.ofNat i := by
          rcases j5.1 i hi with r | ⟨o, g, a1, a2, a3, a4, a5⟩
          · rw [hO] at r; exact absurd r (own_ne1 (by omega))
          · rw [hO, N_inj (by omega) (by omega)] at a3
            subst a3; exact ⟨g, a2, a4, a5⟩
        have bi : inb (Int32.ofNat (p * 8 + g)) 32 := inbN (by omega) (by omega)
        obtain ⟨o1, o2⟩ := own_orE M hM g hg
        obtain ⟨T, hT⟩ : ∃ T : St, T = setA (setA (setA (setA (setA (setA (setA (setA (setA (setA t 0 (p * 8 + g) (s.2 4 i)) 12 p (Int32.ofNat (M ||| 2 ^ g))) 1 (p * 8 + g) (-1)) 2 i (-1)) 3 i 0) 4 i 0) 5 i 0) 6 i 0) 7 i 0) 8 i 0 := ⟨_, rfl⟩
        have T2 : T.2 2 = fun x => if x = i then -1 else t.2 2 x := by rw [hT]; funext x; simp [setA_2]
        have T3 : T.2 3 = fun x => if x = i then 0 else t.2 3 x := by rw [hT]; funext x; simp [setA_2]
        have T1 : T.2 1 = fun x => if x = p * 8 + g then -1 else t.2 1 x := by rw [hT]; funext x; simp [setA_2]
        have T0 : T.2 0 = fun x => if x = p * 8 + g then s.2 4 i else t.2 0 x := by rw [hT]; funext x; simp [setA_2]
        have T5 : T.2 5 = fun x => if x = i then 0 else t.2 5 x := by rw [hT]; funext x; simp [setA_2]
        have T6 : T.2 6 = fun x => if x = i then 0 else t.2 6 x := by rw [hT]; funext x; simp [setA_2]
        have T12 : T.2 12 = fun x => if x = p then Int32.ofNat (M ||| 2 ^ g) else t.2 12 x := by rw [hT]; funext x; simp [setA_2]
        have Tf : ∀ f, f ≠ i → ∀ k, 2 ≤ k → k ≤ 8 → T.2 k f = t.2 k f := fun f hf k k1 k2 => by
          rw [hT]; simp only [setA_2]
          repeat rw [if_neg (by omega)]
        have Tk : ∀ k, k = 9 ∨ k = 10 ∨ k = 11 ∨ k = 13 ∨ k = 14 → T.2 k = t.2 k := fun k hk => by
          rw [hT]; funext x; simp only [setA_2]
          repeat rw [if_neg (by omega)]
        refine ⟨T, ?_, by rw [hT]; exact p1, fun k hk => (Tk k hk).trans (p2 k hk), ?_, fun f hf => ?_, ?_, fun f hf k k1 k2 => ?_, fun f hf e => ?_, fun x hx => ?_, ⟨M ||| 2 ^ g, o2, by rw [T12]; simp, fun g' hg' => ?_⟩, ⟨M ||| 2 ^ g, o2, by rw [T12]; simp, ?_⟩, fun q hq => by rw [T12]; simp only [hq, if_false]; exact p10 q hq⟩
        · rw [tG, a4, own_and7 g hg, own_idx, grd_pos bi, tV]
          simp only [bnd_eq, grd_pos bp, f_freeFrame, grd_pos hb, ix_N (show p * 8 + g < 2147483648 by omega), ix_N (show p < 2147483648 by omega), ix_N (show i < 2147483648 by omega), Option.bind_some]
          rw [own_sn (show (12 : Nat) ≠ 0 by decide), m1, o1, hT]
        · rw [T2, T3, T1]
          exact own_JJfree p3 j3 hi hp hg (tO.trans hO) (tG.trans a4) 0
        · rw [T5, T6]
          by_cases q : f = i
          · simp [q]
          · simp only [q, if_false]; exact p4 f hf
        · rw [T2, T3, T5, T0]
          intro f o' g' b1 b2 b3 b4 b5 b6
          by_cases q : f = i
          · simp only [q, if_true] at b4
            exact absurd b4.symm (own_ne1 (by omega))
          · simp only [q, if_false] at b4 b5 b6
            have ne : ¬ o' * 8 + g' = p * 8 + g := fun r => by
              have w1 := own_JJw p3 j3 b1 b2 b3 b4 b5
              have w2 := own_JJw p3 j3 hi hp hg (tO.trans hO) (tG.trans a4)
              rw [r, w2, N_inj (by omega) (by omega)] at w1
              exact q w1.symm
            simp only [ne, if_false]
            rw [Tf f q _ (by decide) (by decide)]
            exact p5 f o' g' b1 b2 b3 b4 b5 b6
        · have : f ≠ i := fun r => by
            subst r
            rcases hf with z | z
            · exact z hO
            · omega
          rw [Tf f this k k1 k2]
          refine p6 f ?_ k k1 k2
          rcases hf with z | z
          · exact Or.inl z
          · exact Or.inr (by omega)
        · rw [T2]
          by_cases q : f = i
          · simp [q]
          · simp only [q, if_false]; exact p7 f (by omega) e
        · rw [T1, T0]
          have := hx g hg
          simp only [this, if_false]; exact p8 x hx
        · rw [T1, T0]
          by_cases q : g' = g
          · subst q
            right
            refine ⟨by simp, ?_, i, hi, a5, by simp⟩
            rw [Nat.testBit_or, Nat.testBit_two_pow_self, Bool.or_true]
          · have ne : ¬ p * 8 + g' = p * 8 + g := by omega
            have tb : (M ||| 2 ^ g).testBit g' = M.testBit g' := by
              rw [Nat.testBit_or, Nat.testBit_two_pow_of_ne (fun r => q r.symm), Bool.or_false]
            simp only [ne, if_false, tb]; exact m2 g' hg'
        · have bg : M.testBit g = false := by
            rcases m2 g hg with ⟨-, -, z⟩ | ⟨z, -⟩
            · exact z
            · rw [own_JJw p3 j3 hi hp hg (tO.trans hO) (tG.trans a4)] at z
              exact absurd z (own_ne1 (by omega))
          have d1 := own_cnt_drop (P := fun f => decide (T.2 2 f = -1)) (Q := fun f => decide (t.2 2 f = -1)) (c := i) (by rw [T2]; simp) (by rw [tO, hO]; simp [own_ne1 (show p < 2147483648 by omega)]) (fun z hz => by rw [T2]; simp [hz]) N hi
          have d2 := own_cnt_drop (P := fun z => (M ||| 2 ^ g).testBit z) (Q := fun z => M.testBit z) (c := g) (by rw [Nat.testBit_or, Nat.testBit_two_pow_self, Bool.or_true]) bg (fun z hz => by rw [Nat.testBit_or, Nat.testBit_two_pow_of_ne (fun r => hz r.symm), Bool.or_false]) 8 hg
          omega
      · rw [if_neg hO]
        refine ⟨t, rfl, p1, p2, p3, p4, p5, fun f hf => p6 f ?_, fun f hf e => ?_, p8, ⟨M, hM, m1, m2⟩, ⟨M, hM, m1, n2⟩, p10⟩
        · rcases hf with z | z
          · exact Or.inl z
          · exact Or.inr (by omega)
        · by_cases q : f = i
          · rw [q] at e; exact absurd e hO
          · exact p7 f (by omega) e))
    (fun k t hP => by
      obtain ⟨p1, p2, p3, p4, p5, p6, p7, p8, m, m', p10⟩ := hP
      show ∃ R, f_doSwapOut_9 n (k + 1) (Int32.ofNat p) (Int32.ofNat N) t = some R ∧ _
      rw [u_doSwapOut_9, p1, j1, if_neg (nltN (by omega)), grd_pos bp, bnd_eq, ix_N (by omega)]
      exact ⟨_, rfl, t, rfl, p1, p2, p3, p4, p5, p6, p7, p8, m, m', p10⟩) N 0 n (setA s 12 p 0) (by omega) (by omega)
    ⟨rfl, fun k hk => own_sn (by omega) _ _ _, by rw [own_sn (by decide), own_sn (by decide), own_sn (by decide)]; exact j5, fun f hf => by rw [own_sn (by decide), own_sn (by decide)]; exact j6 f hf,
      by rw [own_sn (by decide), own_sn (by decide), own_sn (by decide), own_sn (by decide), own_sn (by decide)]; exact j7, fun f _ k k1 k2 => by rw [own_sn (by omega)], fun f hf => by omega, fun x _ => ⟨by rw [own_sn (by decide)], by rw [own_sn (by decide)]⟩,
      ⟨0, by omega, by rw [own_sa]; simp, fun g hg => Or.inl ⟨by rw [own_sn (by decide)], by rw [own_sn (by decide)], Nat.zero_testBit g⟩⟩,
      ⟨0, by omega, by rw [own_sa]; simp, by rw [own_sn (by decide), own_cnt_zero 8 (fun g _ => Nat.zero_testBit g)]; rfl⟩, fun q hq => by rw [own_sa]; simp [hq]⟩
  have allN : ∀ g, g < 8 → t.2 1 (p * 8 + g) = -1 := fun g hg => by
    rcases p3.2 p g hp hg with r | ⟨f, b1, b2, b3, b4⟩
    · exact r
    · exfalso
      by_cases q : s.2 2 f = Int32.ofNat p
      · rw [p7 f b1 q] at b3; exact own_ne1 (by omega) b3.symm
      · rw [p6 f (Or.inl q) _ (by decide) (by decide)] at b3; exact q b3
  subst eR
  refine ⟨setA t 9 p 1, ?_, ⟨by rw [setA_1, p1]; exact j1, j2, j3, by rw [setA_1, p1]; exact j4, ?_, fun f hf => ?_, ?_, fun q hq => ?_⟩, p1, fun q => ?_, fun k hk => ?_, fun g hg => ?_, fun x hx => ?_, fun f hf k k1 k2 => ?_, fun f hf e => ?_, ⟨M, hM, ?_, fun g hg => ?_, ?_⟩, fun q hq => ?_, fun o g ho hg => ?_⟩
  · unfold f_doSwapOut
    rw [grd_pos bp, bnd_eq, ix_N (by omega)]
    exact e1
  · rw [own_sn (by decide), own_sn (by decide), own_sn (by decide)]; exact p3
  · rw [own_sn (by decide), own_sn (by decide)]; exact p4 f hf
  · rw [own_sn (by decide), own_sn (by decide), own_sn (by decide), own_sn (by decide), own_sn (by decide)]; exact p5
  · rw [own_sa, own_sn (show (1 : Nat) ≠ 9 by decide), p2 9 (by omega)]
    by_cases z : q = p
    · subst z
      exact ⟨Or.inr (by simp), fun _ => allN⟩
    · simp only [z, if_false]
      refine ⟨(j8 q hq).1, fun e g hg => ?_⟩
      rw [(p8 _ (fun g' hg' => by omega)).1]
      exact (j8 q hq).2 e g hg
  · rw [own_sa, p2 9 (by omega)]
  · rw [own_sn (by omega), p2 k (by omega)]
  · rw [own_sn (by decide)]; exact allN g hg
  · rw [own_sn (by decide), own_sn (by decide)]; exact p8 x hx
  · rw [own_sn (by omega)]; exact p6 f (Or.inl hf) k k1 k2
  · rw [own_sn (by decide)]; exact p7 f hf e
  · rw [own_sn (by decide)]; exact m1
  · rcases m2 g hg with ⟨z1, -, z3⟩ | ⟨z1, z2, f, z3, z4, z5⟩
    · rw [z3, ← z1, allN g hg]; simp
    · rw [z2, z4]; simp [own_ne1 (show f < 2147483648 by omega)]
  · have eM : M = M2 := by
      rw [m1, N_inj (by omega) (by omega)] at n1; exact n1
    subst eM
    rw [own_sn (by decide)]; omega
  · rw [own_sn (by decide)]; exact p10 q hq
  · unfold own_L
    rw [own_sn (show (1 : Nat) ≠ 9 by decide), own_sn (show (0 : Nat) ≠ 9 by decide), own_sn (show (4 : Nat) ≠ 9 by decide)]
    by_cases q : o = p
    · subst q
      rw [allN g hg, if_pos rfl]
      rcases m2 g hg with ⟨z1, z2, z3⟩ | ⟨z1, z2, f, z3, z4, z5⟩
      · rw [← z1, allN g hg, if_pos rfl, z2]
      · rw [z4, if_neg (own_ne1 (by omega)), ix_N (by omega), z5]
    · obtain ⟨z1, z2⟩ := p8 (o * 8 + g) (fun g' hg' => by omega)
      rw [z1, z2]
      rcases j5.2 o g ho hg with r | ⟨f, b1, b2, b3, b4⟩
      · rw [r, if_pos rfl, if_pos rfl]
      · rw [b2, if_neg (own_ne1 (by omega)), if_neg (own_ne1 (by omega)), ix_N (by omega)]
        exact p6 f (Or.inl (fun z => by rw [b3, N_inj (by omega) (by omega)] at z; exact q z)) _ (by decide) (by decide)
theorem own_cnt_mono (P : Nat → Bool) : ∀ b a, a ≤ b → own_cnt P a ≤ own_cnt P b := by
  intro b
  induction b with
  | zero => intro a h; have : a = 0 := by omega
            subst this; exact Nat.le_refl _
  | succ b ih =>
    intro a h
    by_cases q : a = b + 1
    · subst q; exact Nat.le_refl _
    · have := ih a (by omega)
      simp only [own_cnt]; omega
theorem own_inJ {n N : Nat} (hn : 40 ≤ n) {s : St} (h : own_J N s) {p M : Nat} (hp : p < 4) (hM : M < 256) (hsv : s.2 12 p = Int32.ofNat M) (hs : s.2 9 p = 1) (hfree : own_cnt (fun g => M.testBit g) 8 ≤ own_cnt (fun f => decide (s.2 2 f = -1)) N) :
    ∃ s', f_doSwapIn n (Int32.ofNat p) s = some s' ∧ own_J N s' ∧ s'.1 = s.1 ∧ (∀ q, s'.2 9 q = if q = p then 0 else s.2 9 q) ∧ (∀ q, s'.2 12 q = if q = p then 0 else s.2 12 q) ∧ (∀ k, k = 0 ∨ k = 10 ∨ k = 11 ∨ k = 13 ∨ k = 14 → s'.2 k = s.2 k) ∧
      (∀ x, (∀ g, g < 8 → x ≠ p * 8 + g) → s'.2 1 x = s.2 1 x) ∧ (∀ f, s.2 2 f ≠ -1 → ∀ k, 2 ≤ k → k ≤ 8 → s'.2 k f = s.2 k f) ∧
      (∀ g, g < 8 → if M.testBit g = true then ∃ f, f < N ∧ s'.2 1 (p * 8 + g) = Int32.ofNat f ∧ s'.2 2 f = Int32.ofNat p ∧ s'.2 3 f = Int32.ofNat g ∧ s'.2 4 f = s.2 0 (p * 8 + g) ∧ s'.2 5 f = 0 ∧ s'.2 6 f = 0 ∧ s'.2 7 f = s.2 10 p ∧ s'.2 8 f = 0 else s'.2 1 (p * 8 + g) = -1) ∧
      (∀ o g, o < 4 → g < 8 → own_L s' o g = own_L s o g) := by
  have h0 := h
  obtain ⟨j1, j2, j3, j4, j5, j6, j7, j8⟩ := h
  have bp : inb (Int32.ofNat p) 4 := inbN hp (by omega)
  have tb : ∀ M, M < 256 → ∀ g, g < 8 → (Int32.ofNat M &&& ((1 : Int32) <<< (Int32.ofNat g &&& 31)) = 0 ↔ M.testBit g = false) := by decide +kernel
  obtain ⟨R, e1, t, eR, p1, p2, p3, p4, p5, p6, p7, p8⟩ := loopP (F := fun k i t => f_doSwapIn_2 n k (Int32.ofNat p) i t) (N := 8)
    (P := fun v t => t.1 = s.1 ∧ (∀ k, k = 0 ∨ k = 9 ∨ k = 12 ∨ k = 10 ∨ k = 11 ∨ k = 13 ∨ k = 14 → t.2 k = s.2 k) ∧ own_JJ N (t.2 2) (t.2 3) (t.2 1) ∧ (∀ f, f < N → (t.2 5 f = 0 ∨ t.2 5 f = 1) ∧ (t.2 6 f = 0 ∨ t.2 6 f = 1)) ∧
      own_DD N (t.2 2) (t.2 3) (t.2 4) (t.2 5) (s.2 0) ∧ (∀ f, s.2 2 f ≠ -1 → ∀ k, 2 ≤ k → k ≤ 8 → t.2 k f = s.2 k f) ∧ (∀ x, (∀ g, g < 8 → x ≠ p * 8 + g) → t.2 1 x = s.2 1 x) ∧
      (∀ g, g < 8 → if g < v ∧ M.testBit g = true then ∃ f, f < N ∧ t.2 1 (p * 8 + g) = Int32.ofNat f ∧ t.2 2 f = Int32.ofNat p ∧ t.2 3 f = Int32.ofNat g ∧ t.2 4 f = s.2 0 (p * 8 + g) ∧ t.2 5 f = 0 ∧ t.2 6 f = 0 ∧ t.2 7 f = s.2 10 p ∧ t.2 8 f = 0 else t.2 1 (p * 8 + g) = -1) ∧
      own_cnt (fun f => decide (t.2 2 f = -1)) N + own_cnt (fun g => M.testBit g) v = own_cnt (fun f => decide (s.2 2 f = -1)) N)
    (Q := fun R => ∃ t : St, R = setA (setA t 12 p 0) 9 p 0 ∧ t.1 = s.1 ∧ (∀ k, k = 0 ∨ k = 9 ∨ k = 12 ∨ k = 10 ∨ k = 11 ∨ k = 13 ∨ k = 14 → t.2 k = s.2 k) ∧ own_JJ N (t.2 2) (t.2 3) (t.2 1) ∧ (∀ f, f < N → (t.2 5 f = 0 ∨ t.2 5 f = 1) ∧ (t.2 6 f = 0 ∨ t.2 6 f = 1)) ∧
      own_DD N (t.2 2) (t.2 3) (t.2 4) (t.2 5) (s.2 0) ∧ (∀ f, s.2 2 f ≠ -1 → ∀ k, 2 ≤ k → k ≤ 8 → t.2 k f = s.2 k f) ∧ (∀ x, (∀ g, g < 8 → x ≠ p * 8 + g) → t.2 1 x = s.2 1 x) ∧
      (∀ g, g < 8 → if g < 8 ∧ M.testBit g = true then ∃ f, f < N ∧ t.2 1 (p * 8 + g) = Int32.ofNat f ∧ t.2 2 f = Int32.ofNat p ∧ t.2 3 f = Int32.ofNat g ∧ t.2 4 f = s.2 0 (p * 8 + g) ∧ t.2 5 f = 0 ∧ t.2 6 f = 0 ∧ t.2 7 f = s.2 10 p ∧ t.2 8 f = 0 else t.2 1 (p * 8 + g) = -1))
    (fun k v t hv hP => Or.inl (by
      obtain ⟨p1, p2, p3, p4, p5, p6, p7, p8, p9⟩ := hP
      show ∃ s', f_doSwapIn_2 n (k + 1) (Int32.ofNat p) (Int32.ofNat v) t = f_doSwapIn_2 n k (Int32.ofNat p) (Int32.ofNat v + 1) s' ∧ _
      rw [u_doSwapIn_2, if_pos (ltZ (z := 8) 8 rfl hv (by omega)), grd_pos bp, ix_N (by omega), p2 12 (by omega), hsv]
      by_cases hbit : M.testBit v = false
      · rw [if_pos ((tb M hM v hv).mpr hbit)]
        refine ⟨t, rfl, p1, p2, p3, p4, p5, p6, p7, fun g hg => ?_, ?_⟩
        · have := p8 g hg
          by_cases q : g = v
          · subst q
            rw [if_neg (fun z => by omega)] at this
            rw [if_neg (fun z => by rw [hbit] at z; exact absurd z.2 (by decide))]; exact this
          · have e : (g < v + 1 ∧ M.testBit g = true) ↔ (g < v ∧ M.testBit g = true) := ⟨fun z => ⟨by omega, z.2⟩, fun z => ⟨by omega, z.2⟩⟩
            simp only [e]; exact this
        · simp only [own_cnt, hbit]; simpa using p9
      · rw [if_neg (fun z => hbit ((tb M hM v hv).mp z))]
        have hbit' : M.testBit v = true := by simpa using hbit
        have bs : own_cnt (fun g => M.testBit g) (v + 1) = own_cnt (fun g => M.testBit g) v + 1 := by simp [own_cnt, hbit']
        have mono := own_cnt_mono (fun g => M.testBit g) 8 (v + 1) (by omega)
        obtain ⟨c, hc, cO, ec⟩ := own_lfE hn (s := t) (N := N) (by rw [p1]; exact j1) j3 p3 (by omega)
        have hb : inb (Int32.ofNat c) 32 := inbN (by omega) (by omega)
        have bi : inb (Int32.ofNat (p * 8 + v)) 32 := inbN (by omega) (by omega)
        have wv : t.2 1 (p * 8 + v) = -1 := by
          have := p8 v hv
          rwa [if_neg (fun z => by omega)] at this
        obtain ⟨T, hT⟩ : ∃ T : St, T = setA (setA (setA (setA (setA (setA (setA (setA t 2 c (Int32.ofNat p)) 3 c (Int32.ofNat v)) 1 (p * 8 + v) (Int32.ofNat c)) 4 c (s.2 0 (p * 8 + v))) 5 c 0) 6 c 0) 8 c 0) 7 c (s.2 10 p) := ⟨_, rfl⟩
        have T2 : T.2 2 = fun x => if x = c then Int32.ofNat p else t.2 2 x := by rw [hT]; funext x; simp [setA_2]
        have T3 : T.2 3 = fun x => if x = c then Int32.ofNat v else t.2 3 x := by rw [hT]; funext x; simp [setA_2]
        have T1 : T.2 1 = fun x => if x = p * 8 + v then Int32.ofNat c else t.2 1 x := by rw [hT]; funext x; simp [setA_2]
        have T4 : T.2 4 = fun x => if x = c then s.2 0 (p * 8 + v) else t.2 4 x := by rw [hT]; funext x; simp [setA_2]
        have T5 : T.2 5 = fun x => if x = c then 0 else t.2 5 x := by rw [hT]; funext x; simp [setA_2]
        have T6 : T.2 6 = fun x => if x = c then 0 else t.2 6 x := by rw [hT]; funext x; simp [setA_2]
        have T7 : T.2 7 = fun x => if x = c then s.2 10 p else t.2 7 x := by rw [hT]; funext x; simp [setA_2]
        have T8 : T.2 8 = fun x => if x = c then 0 else t.2 8 x := by rw [hT]; funext x; simp [setA_2]
        have Tf : ∀ f, f ≠ c → ∀ k, 2 ≤ k → k ≤ 8 → T.2 k f = t.2 k f := fun f hf k k1 k2 => by
          rw [hT]; simp only [setA_2]
          repeat rw [if_neg (by omega)]
        have Tk : ∀ k, k = 0 ∨ k = 9 ∨ k = 12 ∨ k = 10 ∨ k = 11 ∨ k = 13 ∨ k = 14 → T.2 k = t.2 k := fun k hk => by
          rw [hT]; funext x; simp only [setA_2]
          repeat rw [if_neg (by omega)]
        refine ⟨T, ?_, by rw [hT]; exact p1, fun k hk => (Tk k hk).trans (p2 k hk), ?_, fun f hf => ?_, ?_, fun f hf k k1 k2 => ?_, fun x hx => ?_, fun g hg => ?_, ?_⟩
        · rw [ec]
          simp only [Option.bind_some]
          rw [if_neg (N_neg (by omega)), grd_pos hb]
          simp only [bnd_eq, own_idx, grd_pos bi, ix_N (show c < 2147483648 by omega), ix_N (show p * 8 + v < 2147483648 by omega), ix_N (show p < 2147483648 by omega)]
          rw [own_sn (show (0 : Nat) ≠ 1 by decide), own_sn (show (0 : Nat) ≠ 3 by decide), own_sn (show (0 : Nat) ≠ 2 by decide), p2 0 (by omega), own_sn (show (10 : Nat) ≠ 8 by decide), own_sn (show (10 : Nat) ≠ 6 by decide), own_sn (show (10 : Nat) ≠ 5 by decide), own_sn (show (10 : Nat) ≠ 4 by decide),
            own_sn (show (10 : Nat) ≠ 1 by decide), own_sn (show (10 : Nat) ≠ 3 by decide), own_sn (show (10 : Nat) ≠ 2 by decide), p2 10 (by omega), hT]
        · rw [T2, T3, T1]
          exact own_JJload p3 j3 hc hp hv cO wv
        · rw [T5, T6]
          by_cases q : f = c
          · simp [q]
          · simp only [q, if_false]; exact p4 f hf
        · rw [T2, T3, T4, T5]
          intro f o' g' b1 b2 b3 b4 b5 b6
          by_cases q : f = c
          · simp only [q, if_true] at b4 b5 ⊢
            rw [N_inj (by omega) (by omega)] at b4 b5
            subst b4; subst b5; rfl
          · simp only [q, if_false] at b4 b5 b6 ⊢
            exact p5 f o' g' b1 b2 b3 b4 b5 b6
        · have : f ≠ c := fun r => by
            subst r
            have := p6 f hf 2 (by decide) (by decide)
            rw [cO] at this; exact hf this.symm
          rw [Tf f this k k1 k2]; exact p6 f hf k k1 k2
        · rw [T1]
          have := hx v hv
          simp only [this, if_false]; exact p7 x hx
        · by_cases q : g = v
          · subst q
            rw [if_pos ⟨by omega, hbit'⟩]
            exact ⟨c, hc, by rw [T1]; simp, by rw [T2]; simp, by rw [T3]; simp, by rw [T4]; simp, by rw [T5]; simp, by rw [T6]; simp, by rw [T7]; simp, by rw [T8]; simp⟩
          · have e : (g < v + 1 ∧ M.testBit g = true) ↔ (g < v ∧ M.testBit g = true) := ⟨fun z => ⟨by omega, z.2⟩, fun z => ⟨by omega, z.2⟩⟩
            have ne : ¬ p * 8 + g = p * 8 + v := by omega
            simp only [e]
            have := p8 g hg
            by_cases q2 : g < v ∧ M.testBit g = true
            · rw [if_pos q2] at this ⊢
              obtain ⟨f, f1, f2, f3, f4, f5, f6, f7, f8, f9⟩ := this
              have fc : f ≠ c := fun r => by
                subst r; rw [cO] at f3; exact own_ne1 (by omega) f3.symm
              refine ⟨f, f1, by rw [T1]; simp only [ne, if_false]; exact f2, ?_, ?_, ?_, ?_, ?_, ?_, ?_⟩
              · rw [Tf f fc _ (by decide) (by decide)]; exact f3
              · rw [Tf f fc _ (by decide) (by decide)]; exact f4
              · rw [Tf f fc _ (by decide) (by decide)]; exact f5
              · rw [Tf f fc _ (by decide) (by decide)]; exact f6
              · rw [Tf f fc _ (by decide) (by decide)]; exact f7
              · rw [Tf f fc _ (by decide) (by decide)]; exact f8
              · rw [Tf f fc _ (by decide) (by decide)]; exact f9
            · rw [if_neg q2] at this ⊢
              rw [T1]; simp only [ne, if_false]; exact this
        · have d := own_cnt_drop (P := fun f => decide (t.2 2 f = -1)) (Q := fun f => decide (T.2 2 f = -1)) (c := c) (by simp [cO]) (by rw [T2]; simp [own_ne1 (show p < 2147483648 by omega)]) (fun i hi => by rw [T2]; simp [hi]) N hc
          omega))
    (fun k t hP => by
      obtain ⟨p1, p2, p3, p4, p5, p6, p7, p8, p9⟩ := hP
      show ∃ R, f_doSwapIn_2 n (k + 1) (Int32.ofNat p) (Int32.ofNat 8) t = some R ∧ _
      rw [u_doSwapIn_2, if_neg (by decide), grd_pos bp]
      simp only [bnd_eq, ix_N (show p < 2147483648 by omega)]
      exact ⟨_, rfl, t, rfl, p1, p2, p3, p4, p5, p6, p7, p8⟩) 8 0 n s (by omega) (by omega)
    ⟨rfl, fun _ _ => rfl, j5, j6, j7, fun _ _ _ _ _ => rfl, fun _ _ => rfl, fun g hg => by rw [if_neg (fun z => by omega)]; exact (j8 p hp).2 hs g hg, by simp [own_cnt]⟩
  subst eR
  have Rk : ∀ k, k ≠ 12 → k ≠ 9 → (setA (setA t 12 p 0) 9 p 0).2 k = t.2 k := fun k a b => by rw [own_sn b, own_sn a]
  have sw : ∀ g, g < 8 → s.2 1 (p * 8 + g) = -1 := (j8 p hp).2 hs
  refine ⟨setA (setA t 12 p 0) 9 p 0, e1, ⟨by rw [setA_1, setA_1, p1]; exact j1, j2, j3, by rw [setA_1, setA_1, p1]; exact j4, ?_, fun f hf => ?_, ?_, fun q hq => ?_⟩, p1, fun q => ?_, fun q => ?_, fun k hk => ?_, fun x hx => ?_, fun f hf k k1 k2 => ?_, fun g hg => ?_, fun o g ho hg => ?_⟩
  · rw [Rk _ (by decide) (by decide), Rk _ (by decide) (by decide), Rk _ (by decide) (by decide)]; exact p3
  · rw [Rk _ (by decide) (by decide), Rk _ (by decide) (by decide)]; exact p4 f hf
  · rw [Rk 2 (by decide) (by decide), Rk 3 (by decide) (by decide), Rk 4 (by decide) (by decide), Rk 5 (by decide) (by decide), Rk 0 (by decide) (by decide), p2 0 (by omega)]; exact p5
  · rw [own_sa, own_sn (show (9 : Nat) ≠ 12 by decide), p2 9 (by omega), Rk 1 (by decide) (by decide)]
    by_cases z : q = p
    · simp [z]
    · simp only [z, if_false]
      refine ⟨(j8 q hq).1, fun e g hg => ?_⟩
      rw [p7 _ (fun g' hg' => by omega)]
      exact (j8 q hq).2 e g hg
  · rw [own_sa, own_sn (show (9 : Nat) ≠ 12 by decide), p2 9 (by omega)]
  · rw [own_sn (show (12 : Nat) ≠ 9 by decide), own_sa, p2 12 (by omega)]
  · rw [Rk k (by omega) (by omega), p2 k (by omega)]
  · rw [Rk _ (by decide) (by decide)]; exact p7 x hx
  · rw [Rk k (by omega) (by omega)]; exact p6 f hf k k1 k2
  · have := p8 g hg
    by_cases q : M.testBit g = true
    · rw [if_pos ⟨hg, q⟩] at this
      rw [if_pos q]
      rw [Rk 1 (by decide) (by decide), Rk 2 (by decide) (by decide), Rk 3 (by decide) (by decide), Rk 4 (by decide) (by decide), Rk 5 (by decide) (by decide), Rk 6 (by decide) (by decide), Rk 7 (by decide) (by decide), Rk 8 (by decide) (by decide)]
      exact this
    · rw [if_neg (fun z => q z.2)] at this
      rw [if_neg q, Rk 1 (by decide) (by decide)]; exact this
  · unfold own_L
    rw [Rk 1 (by decide) (by decide), Rk 0 (by decide) (by decide), Rk 4 (by decide) (by decide), p2 0 (by omega)]
    by_cases q : o = p
    · subst q
      rw [sw g hg, if_pos rfl]
      have := p8 g hg
      by_cases q2 : M.testBit g = true
      · rw [if_pos ⟨hg, q2⟩] at this
        obtain ⟨f, f1, f2, f3, f4, f5, -⟩ := this
        rw [f2, if_neg (own_ne1 (by omega)), ix_N (by omega), f5]
      · rw [if_neg (fun z => q2 z.2)] at this
        rw [this, if_pos rfl]
    · rw [p7 (o * 8 + g) (fun g' hg' => by omega)]
      rcases j5.2 o g ho hg with r | ⟨f, b1, b2, b3, b4⟩
      · rw [r, if_pos rfl, if_pos rfl]
      · rw [b2, if_neg (own_ne1 (by omega)), if_neg (own_ne1 (by omega)), ix_N (by omega)]
        exact p6 f (by rw [b3]; exact own_ne1 (by omega)) _ (by decide) (by decide)

theorem own_cmp (a : Int64) : XT.cmpL a a = 0 := by
  unfold XT.cmpL
  rw [if_neg (Int64.lt_irrefl), if_pos (by trivial)]
theorem own_64 {a : Nat} (h : a < 2147483648) : (Int32.ofNat a).toInt64 = Int64.ofNat a := by
  rw [← Int64.toInt_inj, Int32.toInt_toInt64, N_toInt h, Int64.toInt_ofNat_of_lt (by omega)]
theorem own_64a (a b : Nat) : Int64.ofNat a + Int64.ofNat b = Int64.ofNat (a + b) := (Int64.ofNat_add a b).symm
theorem own_64s (a : Nat) : Int64.ofNat a + 1 = Int64.ofNat (a + 1) := (Int64.ofNat_add a 1).symm
theorem own_piE (s : St) {q : Nat} (hq : q < 4) : f_procInfo s (Int32.ofNat q) 0 = some (s.2 10 q) ∧ f_procInfo s (Int32.ofNat q) 1 = some (s.2 11 q) ∧ f_procInfo s (Int32.ofNat q) 2 = some (if s.2 9 q = 0 then 0 else 1) ∧ f_procInfo s (Int32.ofNat q) 3 = some (s.2 12 q) ∧
    f_procInfo s (Int32.ofNat q) 4 = some (s.2 13 q) ∧ f_procInfo s (Int32.ofNat q) 5 = some (s.2 14 q) := by
  have hb : inb (Int32.ofNat q) 4 := inbN hq (by omega)
  have n0 := N_neg (i := q) (by omega)
  have n3 := own_o3 hq
  have i := ix_N (i := q) (by omega)
  refine ⟨?_, ?_, ?_, ?_, ?_, ?_⟩
  · simp [f_procInfo, n0, n3, grd_pos hb, i]
  · simp [f_procInfo, n0, n3, grd_pos hb, i]
  · by_cases z : s.2 9 q = 0 <;> simp [f_procInfo, n0, n3, grd_pos hb, i, z]
  · simp [f_procInfo, n0, n3, grd_pos hb, i]
  · simp [f_procInfo, n0, n3, grd_pos hb, i]
  · simp [f_procInfo, n0, n3, grd_pos hb, i]
theorem own_foE (s : St) {o g : Nat} (ho : o < 4) (hg : g < 8) : f_frameOf s (Int32.ofNat o) (Int32.ofNat g) = some (s.2 1 (o * 8 + g)) := by
  unfold f_frameOf
  rw [if_neg (N_neg (by omega)), if_neg (own_o3 ho), if_neg (N_neg (by omega)), if_neg (own_g7 hg), own_idx, grd_pos (inbN (show o * 8 + g < 32 by omega) (by omega)), ix_N (by omega)]
theorem own_wneg {N : Nat} {s : St} (h : own_J N s) {o g : Nat} (ho : o < 4) (hg : g < 8) : (s.2 1 (o * 8 + g) < 0 ↔ s.2 1 (o * 8 + g) = -1) := by
  obtain ⟨j1, j2, j3, j4, j5, j6, j7, j8⟩ := h
  rcases j5.2 o g ho hg with r | ⟨f, b1, b2, b3, b4⟩
  · rw [r]; decide
  · rw [b2]; exact ⟨fun q => absurd q (N_neg (by omega)), fun q => absurd q (own_ne1 (by omega))⟩
theorem own_JI {N : Nat} {s : St} (h : own_J N s) (k : Nat) (v : Int32) (h1 : k ≠ 15) (h2 : k ≠ 20) : own_J N (setI s k v) := by
  obtain ⟨j1, j2, j3, j4, j5, j6, j7, j8⟩ := h
  refine ⟨?_, j2, j3, ?_, j5, j6, j7, j8⟩
  · rw [setI_1, if_neg (fun q => h1 q.symm)]; exact j1
  · obtain ⟨H, a, b⟩ := j4
    exact ⟨H, a, by rw [setI_1, if_neg (fun q => h2 q.symm)]; exact b⟩
theorem own_rd {n : Nat} {a b st : Int32} {s s' : St} (e : f_access n a b 0 0 s = some (st, s')) (hi : st = 1 ∨ st = 2 → inb (s'.1 21) 32) : ∃ r, f_read n a b s = some (r, setI s' 22 st) ∧ (st ≠ 1 → st ≠ 2 → r = 0) := by
  unfold f_read
  rw [e]
  simp only [Option.bind_some, bnd_eq]
  by_cases q : st = 1
  · rw [if_pos q]
    unfold f_read_24
    rw [grd_pos (show inb ((setI s' 22 st).1 21) 32 from hi (Or.inl q))]
    exact ⟨_, rfl, fun z => absurd q z⟩
  · rw [if_neg q]
    by_cases q2 : st = 2
    · rw [if_pos q2]
      unfold f_read_24
      rw [grd_pos (show inb ((setI s' 22 st).1 21) 32 from hi (Or.inr q2))]
      exact ⟨_, rfl, fun _ z => absurd q2 z⟩
    · rw [if_neg q2]
      exact ⟨_, rfl, fun _ _ => rfl⟩
theorem own_wr {n : Nat} {a b st x : Int32} {s s' : St} (e : f_access n a b 1 x s = some (st, s')) : f_write n a b x s = some (st, setI s' 22 st) := by
  unfold f_write
  rw [e]
  simp only [Option.bind_some, bnd_eq]
theorem own_121 {n : Nat} (hn : 40 ≤ n) (x : Int32) (s : St) : ∃ s', f_control_121 n n x 0 s = some (x, s') ∧ s'.1 = s.1 ∧ (∀ k, k ≠ 13 → k ≠ 14 → s'.2 k = s.2 k) ∧ ∀ q, q < 4 → s'.2 13 q = 0 ∧ s'.2 14 q = 0 := by
  have q := loopN (F := fun k i s => f_control_121 n k x i s) (N := 4) (f := fun i s => setA (setA s 13 i 0) 14 i 0) (fin := fun s => some (x, s))
    (fun k i s hi => by
      show f_control_121 n (k + 1) x (Int32.ofNat i) s = f_control_121 n k x (Int32.ofNat i + 1) _
      rw [u_control_121, if_pos (ltZ (z := 4) 4 rfl hi (by omega)), grd_pos (inbN (n := 4) hi (by omega)), bnd_eq, bnd_eq, ix_N (by omega)])
    (fun k s => by
      show f_control_121 n (k + 1) x (Int32.ofNat 4) s = _
      rw [u_control_121, if_neg (by decide)]) 4 0 n s (by omega) (by omega)
  rw [itr_pt (f := fun i s => setA (setA s 13 i 0) 14 i 0) (u := fun j v => if j = 13 ∨ j = 14 then 0 else v) (fun _ _ => rfl) (fun i s j y => by
    simp only [setA_2]
    by_cases e : y = i
    · by_cases e1 : j = 13
      · simp [e, e1]
      · by_cases e2 : j = 14
        · simp [e, e2]
        · simp [e1, e2]
    · simp [e])] at q
  refine ⟨_, q, rfl, fun k h1 h2 => ?_, fun z hz => ?_⟩
  · funext y
    show (if 0 ≤ y ∧ y < 0 + 4 then (if k = 13 ∨ k = 14 then 0 else s.2 k y) else s.2 k y) = s.2 k y
    have : ¬ (k = 13 ∨ k = 14) := fun r => r.elim h1 h2
    simp [this]
  · have : 0 ≤ z ∧ z < 0 + 4 := by omega
    simp [this]

def own_H (s : St) : Prop := own_J 6 s ∧ ∀ q, q < 4 → ∃ M, M < 256 ∧ s.2 12 q = Int32.ofNat M
theorem own_HI {s : St} (h : own_H s) (k : Nat) (v : Int32) (h1 : k ≠ 15) (h2 : k ≠ 20) : own_H (setI s k v) := ⟨own_JI h.1 k v h1 h2, h.2⟩
theorem own_accH {n : Nat} (hn : 40 ≤ n) {s : St} (h : own_H s) (w x : Int32) {p v : Nat} (hp : p < 5) (hv : v < 9) : ∃ (st : Int32) (s' : St), f_access n (Int32.ofNat p) (Int32.ofNat v) w x s = some (st, s') ∧ own_H s' ∧ (st = 1 ∨ st = 2 → inb (s'.1 21) 32) := by
  obtain ⟨hJ, hS⟩ := h
  by_cases bad : 4 ≤ p ∨ 8 ≤ v
  · refine ⟨5, s, ?_, ⟨hJ, hS⟩, fun z => absurd z (by decide)⟩
    unfold f_access
    rw [if_neg (N_neg (by omega))]
    by_cases q : 4 ≤ p
    · rw [if_pos (show (3 : Int32) < Int32.ofNat p from ltN (i := 3) (by omega) (by omega))]
    · rw [if_neg (own_o3 (by omega)), if_neg (N_neg (by omega)), if_pos (show (7 : Int32) < Int32.ofNat v from ltN (i := 7) (by omega) (by omega))]
  · have hp4 : p < 4 := by omega
    have hv8 : v < 8 := by omega
    have hJ0 := hJ
    obtain ⟨j1, j2, j3, j4, j5, j6, j7, j8⟩ := hJ
    rcases (j8 p hp4).1 with sw | sw
    · obtain ⟨st, s', e, J', n1, i1, w9, w12, out⟩ := own_accJ hn hJ0 hp4 hv8 sw w x
      refine ⟨st, s', e, ⟨J', by rw [w12]; exact hS⟩, fun _ => ?_⟩
      rcases out with ⟨rfl, ⟨f, f1, f2, f3, -⟩, -⟩ | ⟨rfl, r1, ⟨c, c1, -, c3, c4, -⟩, -⟩ | ⟨rfl, -⟩
      · rw [f3]; exact inbN (by omega) (by omega)
      · rw [c4]; exact inbN (by omega) (by omega)
      · rename_i z; exact absurd z (by decide)
    · refine ⟨4, s, ?_, ⟨hJ0, hS⟩, fun z => absurd z (by decide)⟩
      unfold f_access
      rw [if_neg (N_neg (by omega)), if_neg (own_o3 hp4), if_neg (N_neg (by omega)), if_neg (own_g7 hv8), grd_pos (inbN hp4 (by omega)), ix_N (by omega), if_neg (by rw [sw]; decide)]
theorem own_rdH {n : Nat} (hn : 40 ≤ n) {s : St} (h : own_H s) {p v : Nat} (hp : p < 5) (hv : v < 9) : ∃ r s', f_read n (Int32.ofNat p) (Int32.ofNat v) s = some (r, s') ∧ own_H s' := by
  obtain ⟨st, s', e, H, hi⟩ := own_accH hn h 0 0 hp hv
  obtain ⟨r, er, -⟩ := own_rd e hi
  exact ⟨r, _, er, own_HI H _ _ (by decide) (by decide)⟩
theorem own_wrH {n : Nat} (hn : 40 ≤ n) {s : St} (h : own_H s) (x : Int32) {p v : Nat} (hp : p < 5) (hv : v < 9) : ∃ r s', f_write n (Int32.ofNat p) (Int32.ofNat v) x s = some (r, s') ∧ own_H s' := by
  obtain ⟨st, s', e, H, hi⟩ := own_accH hn h 1 x hp hv
  exact ⟨st, _, own_wr e, own_HI H _ _ (by decide) (by decide)⟩
theorem own_outH {n : Nat} (hn : 40 ≤ n) {s : St} (h : own_H s) {p : Nat} (hp : p < 4) : ∃ s', f_doSwapOut n (Int32.ofNat p) s = some s' ∧ own_H s' := by
  obtain ⟨s', e, J', -, -, -, -, -, -, -, ⟨M, hM, m1, -⟩, ev, -⟩ := own_outJ hn h.1 hp
  refine ⟨s', e, J', fun q hq => ?_⟩
  by_cases z : q = p
  · rw [z]; exact ⟨M, hM, m1⟩
  · rw [ev q z]; exact h.2 q hq
/-- where there is room, the swap-in stands -/
theorem own_inH {n : Nat} (hn : 40 ≤ n) {s : St} (h : own_H s) {p : Nat} (hp : p < 4) (sw : s.2 9 p = 1) (c : Int32) : ∃ r s', ((f_bitCount n s (s.2 12 p)).bind fun q5 => (f_countFree n s).bind fun q7 => if q7 < q5 then some (c, s) else (f_doSwapIn n (Int32.ofNat p) s).bind fun q10 => some ((32 : Int32) + Int32.ofNat p, q10)) = some (r, s') ∧ own_H s' := by
  obtain ⟨M, hM, m1⟩ := h.2 p hp
  have hJ := h.1
  obtain ⟨j1, j2, j3, j4, j5, j6, j7, j8⟩ := hJ
  have l1 := own_cnt_le (fun g => M.testBit g) 8
  have l2 := own_cnt_le (fun f => decide (s.2 2 f = -1)) 6
  rw [m1, own_bcE hn s hM, own_cfE hn j1 j3 j5]
  simp only [Option.bind_some]
  by_cases q : own_cnt (fun f => decide (s.2 2 f = -1)) 6 < own_cnt (fun g => M.testBit g) 8
  · rw [if_pos (ltN q (by omega))]; exact ⟨_, _, rfl, h⟩
  · obtain ⟨s', e, J', -, -, ev, -⟩ := own_inJ hn h.1 hp hM m1 sw (by omega)
    rw [if_neg (fun z => q ((N_lt (by omega) (by omega)).mp z)), e]
    refine ⟨_, _, rfl, J', fun z hz => ?_⟩
    rw [ev]
    by_cases y : z = p
    · exact ⟨0, by omega, by simp [y]⟩
    · simp only [y, if_false]; exact h.2 z hz
theorem own_soH {n : Nat} (hn : 40 ≤ n) {s : St} (h : own_H s) {p : Nat} (hp : p < 5) : ∃ r s', f_swapOut n (Int32.ofNat p) s = some (r, s') ∧ own_H s' := by
  unfold f_swapOut
  rw [if_neg (N_neg (by omega))]
  by_cases q : 4 ≤ p
  · rw [if_pos (show (3 : Int32) < Int32.ofNat p from ltN (i := 3) (by omega) (by omega))]; exact ⟨_, _, rfl, h⟩
  · obtain ⟨s', e, H⟩ := own_outH hn h (show p < 4 by omega)
    rw [if_neg (own_o3 (by omega)), grd_pos (inbN (by omega) (by omega)), e]
    split
    · exact ⟨_, _, rfl, H⟩
    · exact ⟨_, _, rfl, h⟩
theorem own_siH {n : Nat} (hn : 40 ≤ n) {s : St} (h : own_H s) {p : Nat} (hp : p < 5) : ∃ r s', f_swapIn n (Int32.ofNat p) s = some (r, s') ∧ own_H s' := by
  unfold f_swapIn
  rw [if_neg (N_neg (by omega))]
  by_cases q : 4 ≤ p
  · rw [if_pos (show (3 : Int32) < Int32.ofNat p from ltN (i := 3) (by omega) (by omega))]; exact ⟨_, _, rfl, h⟩
  · have hp4 : p < 4 := by omega
    rw [if_neg (own_o3 hp4), grd_pos (inbN hp4 (by omega)), ix_N (by omega)]
    rcases (h.1.2.2.2.2.2.2.2 p hp4).1 with sw | sw
    · rw [if_pos sw]; exact ⟨_, _, rfl, h⟩
    · rw [if_neg (by rw [sw]; decide)]
      obtain ⟨M, hM, m1⟩ := h.2 p hp4
      obtain ⟨j1, j2, j3, j4, j5, j6, j7, j8⟩ := h.1
      have l1 := own_cnt_le (fun g => M.testBit g) 8
      have l2 := own_cnt_le (fun f => decide (s.2 2 f = -1)) 6
      rw [m1, own_bcE hn s hM, own_cfE hn j1 j3 j5]
      simp only [Option.bind_some]
      by_cases q : own_cnt (fun f => decide (s.2 2 f = -1)) 6 < own_cnt (fun g => M.testBit g) 8
      · rw [if_pos (ltN q (by omega))]; exact ⟨_, _, rfl, h⟩
      · obtain ⟨s', e, J', -, -, ev, -⟩ := own_inJ hn h.1 hp4 hM m1 sw (by omega)
        rw [if_neg (fun z => q ((N_lt (by omega) (by omega)).mp z)), e]
        refine ⟨_, _, rfl, J', fun z hz => ?_⟩
        rw [ev]
        by_cases y : z = p
        · exact ⟨0, by omega, by simp [y]⟩
        · simp only [y, if_false]; exact h.2 z hz
theorem own_d28H {n : Nat} (hn : 40 ≤ n) {s : St} (h : own_H s) {l : Int32} (c : Int32) (hl : l = -1 ∨ ∃ q, q < 4 ∧ l = Int32.ofNat q ∧ s.2 9 q = 1) : ∃ r s', f_decide_28 n l c s = some (r, s') ∧ own_H s' := by
  unfold f_decide_28
  rcases hl with z | ⟨q, hq, z1, z2⟩
  · rw [z, if_pos (by decide)]; exact ⟨_, _, rfl, h⟩
  · rw [z1, if_neg (N_neg (by omega)), if_neg (own_o3 hq)]
    by_cases hc : c = 0
    · rw [if_pos hc]; exact ⟨_, _, rfl, h⟩
    · rw [if_neg hc, grd_pos (inbN hq (by omega)), ix_N (by omega)]
      exact own_inH hn h hq z2 0
theorem own_121H {n : Nat} (hn : 40 ≤ n) (x : Int32) {s : St} (h : own_H s) : ∃ r s', f_control_121 n n x 0 s = some (r, s') ∧ own_H s' := by
  obtain ⟨s', e, e1, ek, -⟩ := own_121 hn x s
  obtain ⟨⟨j1, j2, j3, j4, j5, j6, j7, j8⟩, hS⟩ := h
  refine ⟨x, s', e, ⟨by rw [e1]; exact j1, j2, j3, by rw [e1]; exact j4, ?_, fun f hf => ?_, ?_, fun o ho => ?_⟩, fun q hq => ?_⟩
  · rw [ek 2 (by decide) (by decide), ek 3 (by decide) (by decide), ek 1 (by decide) (by decide)]; exact j5
  · rw [ek 5 (by decide) (by decide), ek 6 (by decide) (by decide)]; exact j6 f hf
  · rw [ek 2 (by decide) (by decide), ek 3 (by decide) (by decide), ek 4 (by decide) (by decide), ek 5 (by decide) (by decide), ek 0 (by decide) (by decide)]; exact j7
  · rw [ek 9 (by decide) (by decide), ek 1 (by decide) (by decide)]; exact j8 o ho
  · rw [ek 12 (by decide) (by decide)]; exact hS q hq
theorem own_ctlH {n : Nat} (hn : 40 ≤ n) {s : St} (h : own_H s) : ∃ r s', f_control n s = some (r, s') ∧ own_H s' := by
  have go : ∀ (m i k : Nat) (a b l t c : Int32), i + m = 4 → m < k → (b = -1 ∨ ∃ q, q < 4 ∧ b = Int32.ofNat q) → (l = -1 ∨ ∃ q, q < 4 ∧ l = Int32.ofNat q ∧ s.2 9 q = 1) → ∃ r s', f_control_15 n k a b l t c (Int32.ofNat i) s = some (r, s') ∧ own_H s' := by
    intro m
    induction m with
    | zero =>
      intro i k a b l t c hi hk hb hl
      obtain ⟨k, rfl⟩ : ∃ z, k = z + 1 := ⟨k - 1, by omega⟩
      have : i = 4 := by omega
      subst this
      rw [u_control_15, if_neg (by decide)]
      obtain ⟨r, s1, e, H⟩ : ∃ r s', f_decide n t a b l c s = some (r, s') ∧ own_H s' := by
        unfold f_decide
        by_cases q1 : t = 0
        · rw [if_pos q1]; exact own_d28H hn h c hl
        · rw [if_neg q1]
          by_cases q2 : a < 2
          · rw [if_pos q2]; exact own_d28H hn h c hl
          · rw [if_neg q2]
            rcases hb with z | ⟨q, hq, z⟩
            · rw [z, if_pos (by decide)]; exact own_d28H hn h c hl
            · obtain ⟨s', e, H⟩ := own_outH hn h hq
              rw [z, if_neg (N_neg (by omega)), if_neg (own_o3 hq), e]
              exact ⟨_, _, rfl, H⟩
      rw [e]
      exact own_121H hn r H
    | succ m ih =>
      intro i k a b l t c hi hk hb hl
      obtain ⟨k, rfl⟩ : ∃ z, k = z + 1 := ⟨k - 1, by omega⟩
      have hi4 : i < 4 := by omega
      have hbi : inb (Int32.ofNat i) 4 := inbN hi4 (by omega)
      have st := fun a t c => ih (i + 1) k a (Int32.ofNat i) l t c (by omega) (by omega) (Or.inr ⟨i, hi4, rfl⟩) hl
      rw [u_control_15, if_pos (ltZ (z := 4) 4 rfl hi4 (by omega)), grd_pos hbi, ix_N (by omega)]
      have c72 : ∀ a t c, ∃ r s', f_control_72 n (f_control_15 n k) a (Int32.ofNat i) l t c (Int32.ofNat i) s = some (r, s') ∧ own_H s' := fun a t c => by
        unfold f_control_72
        rw [grd_pos hbi, N_succ]
        split
        · exact st _ _ _
        · exact st _ _ _
      rcases (h.1.2.2.2.2.2.2.2 i hi4).1 with sw | sw
      · rw [if_pos sw]
        split
        · exact c72 _ _ _
        · exact c72 _ _ _
      · rw [if_neg (by rw [sw]; decide), N_succ]
        split
        · exact ih (i + 1) k a b (Int32.ofNat i) t c (by omega) (by omega) hb (Or.inr ⟨i, hi4, rfl, sw⟩)
        · exact ih (i + 1) k a b l t c (by omega) (by omega) hb hl
  exact go 4 0 n 0 (-1) (-1) 0 1 (by omega) (by omega) (Or.inl rfl) (Or.inl rfl)
theorem own_tickH {n : Nat} (hn : 40 ≤ n) {s : St} (h : own_H s) : ∃ r s', f_tick n s = some (r, s') ∧ own_H s' := by
  obtain ⟨c, s', e, -, J', -, -, ek, -⟩ := own_tickJ hn h.1
  exact ⟨_, s', e, J', by rw [ek 12 (by decide) (by decide) (by decide)]; exact h.2⟩
/-! ### the round trip -/
/-- what the others' hash reads is the same in both states -/
def own_E (p : Nat) (s t : St) : Prop := t.1 15 = s.1 15 ∧ (∀ q, q < 4 → q ≠ p → ∀ k, 9 ≤ k → k ≤ 14 → t.2 k q = s.2 k q) ∧ (∀ q g, q < 4 → q ≠ p → g < 8 → t.2 1 (q * 8 + g) = s.2 1 (q * 8 + g) ∧ t.2 0 (q * 8 + g) = s.2 0 (q * 8 + g)) ∧
  ∀ q g f, q < 4 → q ≠ p → g < 8 → s.2 1 (q * 8 + g) = Int32.ofNat f → f < 6 → ∀ k, 2 ≤ k → k ≤ 8 → t.2 k f = s.2 k f
theorem own_dvE (s : St) {o g : Nat} (ho : o < 4) (hg : g < 8) : f_diskValue s (Int32.ofNat o) (Int32.ofNat g) = some (s.2 0 (o * 8 + g)) := by
  unfold f_diskValue
  rw [if_neg (N_neg (by omega)), if_neg (own_o3 ho), if_neg (N_neg (by omega)), if_neg (own_g7 hg), own_idx, grd_pos (inbN (show o * 8 + g < 32 by omega) (by omega)), ix_N (by omega)]
theorem own_oth55 {n : Nat} {s t : St} (h : own_J 6 s) {p : Nat} (E : own_E p s t) {q : Nat} (hq : q < 4) (hqp : q ≠ p) (K L : Int32 → Int64 → Int32 → Option Int64) (x1 : Int32) : ∀ (m i k : Nat) (z : Int64), i + m = 8 → m < k → ∃ z', f_hothers_55 n s K k x1 z (Int32.ofNat q) (Int32.ofNat i) = K x1 z' (Int32.ofNat q + 1) ∧ f_hothers_55 n t L k x1 z (Int32.ofNat q) (Int32.ofNat i) = L x1 z' (Int32.ofNat q + 1) := by
  intro m
  obtain ⟨E1, E2, E3, E4⟩ := E
  induction m with
  | zero =>
    intro i k z hi hk
    obtain ⟨k, rfl⟩ : ∃ y, k = y + 1 := ⟨k - 1, by omega⟩
    have : i = 8 := by omega
    subst this
    rw [u_hothers_55, if_neg (by decide), u_hothers_55, if_neg (by decide)]
    exact ⟨z, rfl, rfl⟩
  | succ m ih =>
    intro i k z hi hk
    obtain ⟨k, rfl⟩ : ∃ y, k = y + 1 := ⟨k - 1, by omega⟩
    have hi8 : i < 8 := by omega
    have l8 : Int32.ofNat i < 8 := ltZ (z := 8) 8 rfl hi8 (by omega)
    obtain ⟨a1, a2⟩ := E3 q i hq hqp hi8
    rw [u_hothers_55, if_pos l8, u_hothers_55, if_pos l8, own_foE s hq hi8, own_foE t hq hi8, own_dvE s hq hi8, own_dvE t hq hi8, a1, a2]
    simp only [Option.bind_some, bnd_eq]
    obtain ⟨j1, j2, j3, j4, j5, j6, j7, j8⟩ := h
    rcases j5.2 q i hq hi8 with r | ⟨f, b1, b2, b3, b4⟩
    · rw [r, if_pos (by decide), if_pos (by decide), N_succ]
      exact ih (i + 1) k _ (by omega) (by omega)
    · rw [b2, if_neg (N_neg (by omega)), if_neg (N_neg (by omega)), N_succ]
      have ek := E4 q i f hq hqp hi8 b2 b1
      have lf : Int32.ofNat f < Int32.ofNat 6 := ltN b1 (by omega)
      have bf : inb (Int32.ofNat f) 32 := inbN (by omega) (by omega)
      have xf : ix (Int32.ofNat f) = f := ix_N (by omega)
      obtain ⟨v1, e1⟩ : ∃ v, f_frameInfo s (Int32.ofNat f) = some v := by
        unfold f_frameInfo
        rw [if_neg (N_neg (by omega)), j1, if_pos lf, grd_pos bf, bnd_eq]
        split
        · exact ⟨_, rfl⟩
        · split <;> exact ⟨_, rfl⟩
      obtain ⟨v2, e2⟩ : ∃ v, f_lastUse s (Int32.ofNat f) = some v := by
        unfold f_lastUse
        rw [if_neg (N_neg (by omega)), j1, if_pos lf, grd_pos bf]
        split <;> exact ⟨_, rfl⟩
      obtain ⟨v3, e3⟩ : ∃ v, f_dueTime s (Int32.ofNat f) = some v := by
        unfold f_dueTime
        rw [if_neg (N_neg (by omega)), j1, if_pos lf, grd_pos bf]
        split <;> exact ⟨_, rfl⟩
      have c1 : f_frameInfo t (Int32.ofNat f) = f_frameInfo s (Int32.ofNat f) := by
        unfold f_frameInfo
        rw [xf, E1, ek 2 (by decide) (by decide), ek 3 (by decide) (by decide), ek 5 (by decide) (by decide), ek 6 (by decide) (by decide), ek 8 (by decide) (by decide)]
      have c2 : f_lastUse t (Int32.ofNat f) = f_lastUse s (Int32.ofNat f) := by
        unfold f_lastUse
        rw [xf, E1, ek 2 (by decide) (by decide), ek 7 (by decide) (by decide)]
      have c3 : f_dueTime t (Int32.ofNat f) = f_dueTime s (Int32.ofNat f) := by
        unfold f_dueTime
        rw [xf, E1, ek 2 (by decide) (by decide), ek 8 (by decide) (by decide)]
      rw [c1, c2, c3, e1, e2, e3]
      simp only [Option.bind_some]
      exact ih (i + 1) k _ (by omega) (by omega)
theorem own_oth23 {n : Nat} (hn : 40 ≤ n) {s t : St} (h : own_J 6 s) {p : Nat} (E : own_E p s t) {q : Nat} (hq : q < 4) (hqp : q ≠ p) (K L : Int32 → Int64 → Int32 → Option Int64) (x1 : Int32) : ∀ (m i k : Nat) (z : Int64), i + m = 6 → m < k → ∃ z', f_hothers_23 n s K k x1 z (Int32.ofNat q) (Int32.ofNat i) = K x1 z' (Int32.ofNat q + 1) ∧ f_hothers_23 n t L k x1 z (Int32.ofNat q) (Int32.ofNat i) = L x1 z' (Int32.ofNat q + 1) := by
  intro m
  induction m with
  | zero =>
    intro i k z hi hk
    obtain ⟨k, rfl⟩ : ∃ y, k = y + 1 := ⟨k - 1, by omega⟩
    have : i = 6 := by omega
    subst this
    rw [u_hothers_23, if_neg (by decide), u_hothers_23, if_neg (by decide)]
    exact own_oth55 h E hq hqp K L x1 8 0 n z (by omega) (by omega)
  | succ m ih =>
    intro i k z hi hk
    obtain ⟨k, rfl⟩ : ∃ y, k = y + 1 := ⟨k - 1, by omega⟩
    have hi6 : i < 6 := by omega
    have l6 : Int32.ofNat i < 6 := ltZ (z := 6) 6 rfl hi6 (by omega)
    obtain ⟨s0, s1, s2, s3, s4, s5⟩ := own_piE s hq
    obtain ⟨t0, t1, t2, t3, t4, t5⟩ := own_piE t hq
    have ek := E.2.1 q hq hqp
    obtain ⟨v, e1, e2⟩ : ∃ v, f_procInfo s (Int32.ofNat q) (Int32.ofNat i) = some v ∧ f_procInfo t (Int32.ofNat q) (Int32.ofNat i) = some v := by
      have : i = 0 ∨ i = 1 ∨ i = 2 ∨ i = 3 ∨ i = 4 ∨ i = 5 := by omega
      rcases this with rfl | rfl | rfl | rfl | rfl | rfl
      · exact ⟨_, s0, by rw [← ek 10 (by decide) (by decide)]; exact t0⟩
      · exact ⟨_, s1, by rw [← ek 11 (by decide) (by decide)]; exact t1⟩
      · exact ⟨_, s2, by rw [← ek 9 (by decide) (by decide)]; exact t2⟩
      · exact ⟨_, s3, by rw [← ek 12 (by decide) (by decide)]; exact t3⟩
      · exact ⟨_, s4, by rw [← ek 13 (by decide) (by decide)]; exact t4⟩
      · exact ⟨_, s5, by rw [← ek 14 (by decide) (by decide)]; exact t5⟩
    rw [u_hothers_23, if_pos l6, u_hothers_23, if_pos l6, e1, e2]
    simp only [Option.bind_some, bnd_eq]
    rw [N_succ]
    exact ih (i + 1) k _ (by omega) (by omega)
theorem own_oth {n : Nat} (hn : 40 ≤ n) {s t : St} (h : own_J 6 s) {p : Nat} (hp : p < 4) (E : own_E p s t) : ∃ z, f_hothers n s (Int32.ofNat p) = some z ∧ f_hothers n t (Int32.ofNat p) = some z := by
  have go : ∀ (m i k : Nat) (z : Int64), i + m = 4 → m < k → ∃ z', f_hothers_5 n s k (Int32.ofNat p) z (Int32.ofNat i) = some z' ∧ f_hothers_5 n t k (Int32.ofNat p) z (Int32.ofNat i) = some z' := by
    intro m
    induction m with
    | zero =>
      intro i k z hi hk
      obtain ⟨k, rfl⟩ : ∃ y, k = y + 1 := ⟨k - 1, by omega⟩
      have : i = 4 := by omega
      subst this
      rw [u_hothers_5, if_neg (by decide), u_hothers_5, if_neg (by decide)]
      exact ⟨z, rfl, rfl⟩
    | succ m ih =>
      intro i k z hi hk
      obtain ⟨k, rfl⟩ : ∃ y, k = y + 1 := ⟨k - 1, by omega⟩
      have hi4 : i < 4 := by omega
      have l4 : Int32.ofNat i < 4 := ltZ (z := 4) 4 rfl hi4 (by omega)
      rw [u_hothers_5, if_pos l4, u_hothers_5, if_pos l4]
      by_cases q : i = p
      · rw [if_pos (congrArg Int32.ofNat q), if_pos (congrArg Int32.ofNat q), N_succ]
        exact ih (i + 1) k z (by omega) (by omega)
      · have ne : ¬ Int32.ofNat i = Int32.ofNat p := fun y => q ((N_inj (by omega) (by omega)).mp y)
        obtain ⟨z', a1, a2⟩ := own_oth23 hn h E hi4 q (f_hothers_5 n s k) (f_hothers_5 n t k) (Int32.ofNat p) 6 0 n z (by omega) (by omega)
        rw [if_neg ne, if_neg ne, show (0 : Int32) = Int32.ofNat 0 from rfl, a1, a2, N_succ]
        exact ih (i + 1) k z' (by omega) (by omega)
  exact go 4 0 n 0 (by omega) (by omega)
/-- the running hash of the pages of p that lie in frames -/
def own_hs (s : St) (p : Nat) : Nat → Int64
  | 0 => 0
  | v + 1 => if s.2 1 (p * 8 + v) = -1 then own_hs s p v else own_hs s p v * 1000003 + (own_L s p v).toInt64
/-- a read of a page that lies in a frame -/
theorem own_hitR {n : Nat} (hn : 40 ≤ n) {s : St} (h : own_H s) {p v : Nat} (hp : p < 4) (hv : v < 8) (sw : s.2 9 p = 0) (hw : s.2 1 (p * 8 + v) ≠ -1) : ∃ s', f_read n (Int32.ofNat p) (Int32.ofNat v) s = some (own_L s p v, s') ∧ own_H s' ∧ s'.2 1 = s.2 1 ∧ s'.2 9 = s.2 9 ∧
    (∀ o g, o < 4 → g < 8 → own_L s' o g = own_L s o g) ∧ (∀ z, s'.2 5 z = s.2 5 z ∨ s'.2 5 z = 0) := by
  obtain ⟨st, s', e, J', n1, i1, w9, w12, out⟩ := own_accJ hn h.1 hp hv sw 0 0
  rcases out with ⟨rfl, ⟨f, f1, f2, f3, f4, f5, f6, f7⟩, o1, o2, o3, o4, o5⟩ | ⟨rfl, r1, -⟩ | ⟨rfl, r1, -⟩
  · refine ⟨setI s' 22 1, ?_, own_HI ⟨J', by rw [w12]; exact h.2⟩ _ _ (by decide) (by decide), o2 1 (by omega), w9, fun o g ho hg => ?_, fun z => f7 rfl z⟩
    · unfold f_read
      rw [e]
      simp only [Option.bind_some, bnd_eq]
      rw [if_pos (by trivial)]
      unfold f_read_24
      rw [grd_pos (show inb ((setI s' 22 1).1 21) 32 by show inb (s'.1 21) 32; rw [f3]; exact inbN (by omega) (by omega))]
      have l := o5 p v hp hv
      rw [if_neg (fun z => z.2.2 rfl), own_Lw (f := f) (by rw [o2 1 (by omega)]; exact f2) (by omega)] at l
      show some (s'.2 4 (ix (s'.1 21)), _) = _
      rw [f3, ix_N (by omega), l]
    · show own_L s' o g = _
      rw [o5 o g ho hg, if_neg (fun z => z.2.2 rfl)]
  · exact absurd r1 hw
  · exact absurd r1 hw
theorem own_372 {n : Nat} (hn : 40 ≤ n) {s0 : St} {p M : Nat} (hp : p < 4) (hM : M < 256) (hb : ∀ g, g < 8 → M.testBit g = decide (s0.2 1 (p * 8 + g) ≠ -1)) : ∀ (m i k : Nat) (s : St), i + m = 8 → m < k → own_H s → s.2 9 p = 0 → (∀ g, g < 8 → (s.2 1 (p * 8 + g) = -1 ↔ s0.2 1 (p * 8 + g) = -1)) →
    (∀ g, g < 8 → own_L s p g = own_L s0 p g) → (∀ g f, g < 8 → s.2 1 (p * 8 + g) = Int32.ofNat f → f < 6 → s.2 5 f = 0) → ∃ s', f_hroundTrip_372 n k (Int32.ofNat p) (Int32.ofNat M) (own_hs s0 p 8) (own_hs s0 p i) (own_hs s0 p i) (Int32.ofNat i) s = some (1, s') ∧ own_H s' := by
  have tb : ∀ M, M < 256 → ∀ g, g < 8 → ((Int32.ofNat M >>> (Int32.ofNat g &&& 31)) &&& 1 = 0 ↔ M.testBit g = false) := by decide +kernel
  intro m
  induction m with
  | zero =>
    intro i k s hi hk H sw hw hL hd
    obtain ⟨k, rfl⟩ : ∃ y, k = y + 1 := ⟨k - 1, by omega⟩
    have : i = 8 := by omega
    subst this
    rw [u_hroundTrip_372, if_neg (by decide), own_cmp, if_pos rfl, if_pos rfl]
    exact ⟨s, rfl, H⟩
  | succ m ih =>
    intro i k s hi hk H sw hw hL hd
    obtain ⟨k, rfl⟩ : ∃ y, k = y + 1 := ⟨k - 1, by omega⟩
    have hi8 : i < 8 := by omega
    rw [u_hroundTrip_372, if_pos (ltZ (z := 8) 8 rfl hi8 (by omega))]
    by_cases q : s0.2 1 (p * 8 + i) = -1
    · have eh : own_hs s0 p (i + 1) = own_hs s0 p i := by simp [own_hs, q]
      rw [if_pos ((tb M hM i hi8).mpr (by rw [hb i hi8, q]; decide)), N_succ, ← eh]
      exact ih (i + 1) k s (by omega) (by omega) H sw hw hL hd
    · have q' : s.2 1 (p * 8 + i) ≠ -1 := fun z => q ((hw i hi8).mp z)
      have eh : own_hs s0 p (i + 1) = own_hs s0 p i * 1000003 + (own_L s0 p i).toInt64 := by simp [own_hs, q]
      obtain ⟨s', e, H', w', sw', L', d'⟩ := own_hitR hn H hp hi8 sw q'
      have dk : s.2 0 (p * 8 + i) = own_L s0 p i := by
        obtain ⟨j1, j2, j3, j4, j5, j6, j7, j8⟩ := H.1
        rcases j5.2 p i hp hi8 with r | ⟨f, b1, b2, b3, b4⟩
        · exact absurd r q'
        · rw [← hL i hi8, own_Lw b2 (by omega)]
          exact j7 f p i b1 hp hi8 b3 b4 (hd i f hi8 b2 b1)
      rw [if_neg (fun z => by have := (tb M hM i hi8).mp z; rw [hb i hi8] at this; simp [q] at this), own_dvE s hp hi8, e]
      simp only [Option.bind_some, bnd_eq]
      rw [dk, hL i hi8, ← eh, N_succ]
      refine ih (i + 1) k s' (by omega) (by omega) H' (by rw [sw']; exact sw) (fun g hg => by rw [w']; exact hw g hg) (fun g hg => (L' p g hp hg).trans (hL g hg)) (fun g f hg e1 hf => ?_)
      rw [w'] at e1
      rcases d' f with z | z
      · rw [z]; exact hd g f hg e1 hf
      · exact z
theorem own_hsE {s t : St} {p : Nat} : ∀ v, (∀ g, g < v → (t.2 1 (p * 8 + g) = -1 ↔ s.2 1 (p * 8 + g) = -1) ∧ own_L t p g = own_L s p g) → own_hs t p v = own_hs s p v := by
  intro v
  induction v with
  | zero => intro _; rfl
  | succ v ih =>
    intro h
    obtain ⟨a, b⟩ := h v (by omega)
    simp only [own_hs]
    rw [ih (fun g hg => h g (by omega)), b]
    by_cases q : s.2 1 (p * 8 + v) = -1
    · rw [if_pos q, if_pos (a.mpr q)]
    · rw [if_neg q, if_neg (fun z => q (a.mp z))]
theorem own_279 {n : Nat} (hn : 40 ≤ n) {p M : Nat} (hp : p < 4) (hM : M < 256) {s : St} (H : own_H s) (x3 : Int64) (x7 : Int32) (hb : ∀ g, g < 8 → M.testBit g = decide (s.2 1 (p * 8 + g) ≠ -1))
    (hf : ∀ g f, g < 8 → s.2 1 (p * 8 + g) = Int32.ofNat f → f < 6 → s.2 5 f = 0 ∧ s.2 6 f = 0 ∧ s.2 7 f = x7 ∧ s.2 8 f = 0) : ∀ (m i k : Nat), i + m = 8 → m < k →
    f_hroundTrip_279 n k (Int32.ofNat p) (Int32.ofNat M) x3 x7 (Int32.ofNat i) s = f_hroundTrip_372 n n (Int32.ofNat p) (Int32.ofNat M) x3 0 0 0 s := by
  have tb : ∀ M, M < 256 → ∀ g, g < 8 → ((Int32.ofNat M >>> (Int32.ofNat g &&& 31)) &&& 1 = 0 ↔ M.testBit g = false) := by decide +kernel
  have tf : ∀ o, o < 4 → ∀ g, g < 8 → (((((32 : Int32) + Int32.ofNat o * 8) + Int32.ofNat g) + 64 * 0) + 128 * 0) = (32 + Int32.ofNat o * 8) + Int32.ofNat g := by decide +kernel
  obtain ⟨j1, j2, j3, j4, j5, j6, j7, j8⟩ := H.1
  intro m
  induction m with
  | zero =>
    intro i k hi hk
    obtain ⟨k, rfl⟩ : ∃ y, k = y + 1 := ⟨k - 1, by omega⟩
    have : i = 8 := by omega
    subst this
    rw [u_hroundTrip_279, if_neg (by decide)]
  | succ m ih =>
    intro i k hi hk
    obtain ⟨k, rfl⟩ : ∃ y, k = y + 1 := ⟨k - 1, by omega⟩
    have hi8 : i < 8 := by omega
    rw [u_hroundTrip_279, if_pos (ltZ (z := 8) 8 rfl hi8 (by omega)), own_foE s hp hi8]
    simp only [Option.bind_some]
    rcases j5.2 p i hp hi8 with r | ⟨f, b1, b2, b3, b4⟩
    · rw [if_pos ((tb M hM i hi8).mpr (by rw [hb i hi8, r]; decide)), if_pos (by rw [r]; decide), N_succ]
      exact ih (i + 1) k (by omega) (by omega)
    · obtain ⟨d1, d2, d3, d4⟩ := hf i f hi8 b2 b1
      have lf : Int32.ofNat f < Int32.ofNat 6 := ltN b1 (by omega)
      have bf : inb (Int32.ofNat f) 32 := inbN (by omega) (by omega)
      have c1 : f_frameInfo s (Int32.ofNat f) = some ((32 + Int32.ofNat p * 8) + Int32.ofNat i) := by
        unfold f_frameInfo
        rw [if_neg (N_neg (by omega)), j1, if_pos lf, grd_pos bf, ix_N (by omega), b3, if_neg (N_neg (by omega)), b4, d1, d2, bnd_eq, tf p hp i hi8, if_pos d4]
      have c2 : f_lastUse s (Int32.ofNat f) = some x7 := by
        unfold f_lastUse
        rw [if_neg (N_neg (by omega)), j1, if_pos lf, grd_pos bf, ix_N (by omega), b3, if_neg (N_neg (by omega)), d3]
      have c3 : f_dueTime s (Int32.ofNat f) = some 0 := by
        unfold f_dueTime
        rw [if_neg (N_neg (by omega)), j1, if_pos lf, grd_pos bf, ix_N (by omega), b3, if_neg (N_neg (by omega)), d4]
      rw [if_neg (fun z => by have := (tb M hM i hi8).mp z; rw [hb i hi8, b2] at this; simp [own_ne1 (show f < 2147483648 by omega)] at this), b2, if_neg (N_neg (by omega)), c1]
      simp only [Option.bind_some]
      rw [if_pos (by trivial), c2]
      simp only [Option.bind_some]
      rw [if_pos (by trivial), c3]
      simp only [Option.bind_some]
      rw [if_pos (by trivial), N_succ]
      exact ih (i + 1) k (by omega) (by omega)
/-- out and in again -/
theorem own_trip {n : Nat} (hn : 40 ≤ n) {p M : Nat} (hp : p < 4) (hM : M < 256) {s : St} (H : own_H s) (sw : s.2 9 p = 0) (hb : ∀ g, g < 8 → M.testBit g = decide (s.2 1 (p * 8 + g) ≠ -1)) :
    ∃ s1 s2, f_swapOut n (Int32.ofNat p) s = some (6, s1) ∧ s1.2 12 p = Int32.ofNat M ∧ f_swapIn n (Int32.ofNat p) s1 = some (6, s2) ∧ own_H s2 ∧ s2.1 = s.1 ∧ s2.2 12 p = 0 ∧ s2.2 9 p = 0 ∧ (∀ k, k = 10 ∨ k = 11 ∨ k = 13 ∨ k = 14 → s2.2 k = s.2 k) ∧ own_E p s s2 ∧
      (∀ g, g < 8 → (s2.2 1 (p * 8 + g) = -1 ↔ s.2 1 (p * 8 + g) = -1)) ∧ (∀ g, g < 8 → own_L s2 p g = own_L s p g) ∧
      (∀ g f, g < 8 → s2.2 1 (p * 8 + g) = Int32.ofNat f → f < 6 → s2.2 5 f = 0 ∧ s2.2 6 f = 0 ∧ s2.2 7 f = s.2 10 p ∧ s2.2 8 f = 0) := by
  obtain ⟨s1, e1, J1, a1, a9, ak, aw, ax, af, ao, ⟨M', hM', m1, m2, m3⟩, av, aL⟩ := own_outJ hn H.1 hp
  have eM : M' = M := by
    refine Nat.eq_of_testBit_eq (fun g => ?_)
    by_cases q : g < 8
    · rw [m2 g q, hb g q]
    · rw [Nat.testBit_lt_two_pow (Nat.lt_of_lt_of_le hM' (Nat.pow_le_pow_right (n := 2) (by omega) (show 8 ≤ g by omega))), Nat.testBit_lt_two_pow (Nat.lt_of_lt_of_le hM (Nat.pow_le_pow_right (n := 2) (by omega) (show 8 ≤ g by omega)))]
  subst eM
  have sw1 : s1.2 9 p = 1 := by rw [a9]; simp
  obtain ⟨s2, e2, J2, b1, b9, bv, bk, bx, bf, bg, bL⟩ := own_inJ hn J1 hp hM m1 sw1 m3
  have j5 := H.1.2.2.2.2.1
  have j3 : 6 ≤ 32 := by omega
  have k1 := J1
  obtain ⟨i1, i2, i3, i4, i5, i6, i7, i8⟩ := k1
  have l1 := own_cnt_le (fun g => M'.testBit g) 8
  have l2 := own_cnt_le (fun f => decide (s1.2 2 f = -1)) 6
  refine ⟨s1, s2, ?_, m1, ?_, ⟨J2, fun q hq => ?_⟩, b1.trans a1, by rw [bv]; simp, by rw [b9]; simp, fun k hk => (bk k (by omega)).trans (ak k hk), ⟨by rw [b1, a1], fun q hq hqp k k1 k2 => ?_, fun q g hq hqp hg => ?_, fun q g f hq hqp hg e hf k k1 k2 => ?_⟩, fun g hg => ?_, fun g hg => ?_, fun g f hg e hf => ?_⟩
  · unfold f_swapOut
    rw [if_neg (N_neg (by omega)), if_neg (own_o3 hp), grd_pos (inbN hp (by omega)), ix_N (by omega), if_pos sw, e1]
    rfl
  · unfold f_swapIn
    rw [if_neg (N_neg (by omega)), if_neg (own_o3 hp), grd_pos (inbN hp (by omega)), ix_N (by omega), if_neg (by rw [sw1]; decide), m1, own_bcE hn s1 hM, own_cfE hn i1 i3 i5]
    simp only [Option.bind_some]
    rw [if_neg (fun z => by rw [N_lt (by omega) (by omega)] at z; omega), e2]
    rfl
  · rw [bv]
    by_cases y : q = p
    · exact ⟨0, by omega, by simp [y]⟩
    · simp only [y, if_false]; rw [av q y]; exact H.2 q hq
  · have : k = 9 ∨ k = 10 ∨ k = 11 ∨ k = 12 ∨ k = 13 ∨ k = 14 := by omega
    rcases this with rfl | rfl | rfl | rfl | rfl | rfl
    · rw [b9, if_neg hqp, a9, if_neg hqp]
    · rw [bk 10 (by omega), ak 10 (by omega)]
    · rw [bk 11 (by omega), ak 11 (by omega)]
    · rw [bv, if_neg hqp, av q hqp]
    · rw [bk 13 (by omega), ak 13 (by omega)]
    · rw [bk 14 (by omega), ak 14 (by omega)]
  · have hx : ∀ g', g' < 8 → q * 8 + g ≠ p * 8 + g' := fun g' hg' => by omega
    obtain ⟨y1, y2⟩ := ax (q * 8 + g) hx
    exact ⟨(bx _ hx).trans y1, by rw [bk 0 (by omega)]; exact y2⟩
  · have ow : s.2 2 f = Int32.ofNat q := by
      rcases j5.2 q g hq hg with r | ⟨f', y1, y2, y3, y4⟩
      · rw [e] at r; exact absurd r (own_ne1 (by omega))
      · rw [e, N_inj (by omega) (by omega)] at y2
        subst y2; exact y3
    have ne : s.2 2 f ≠ Int32.ofNat p := fun z => by rw [ow, N_inj (by omega) (by omega)] at z; exact hqp z
    have o1 := af f ne 2 (by decide) (by decide)
    rw [bf f (by rw [o1, ow]; exact own_ne1 (by omega)) k k1 k2]
    exact af f ne k k1 k2
  · have := bg g hg
    by_cases q : M'.testBit g = true
    · rw [if_pos q] at this
      obtain ⟨f, f1, f2, -⟩ := this
      rw [hb g hg] at q
      refine ⟨fun z => by rw [f2] at z; exact absurd z (own_ne1 (by omega)), fun z => by rw [z] at q; exact absurd q (by decide)⟩
    · rw [if_neg q] at this
      rw [hb g hg] at q
      exact ⟨fun _ => by simpa using q, fun _ => this⟩
  · rw [bL p g hp hg, aL p g hp hg]
  · have := bg g hg
    by_cases q : M'.testBit g = true
    · rw [if_pos q] at this
      obtain ⟨f', f1, f2, f3, f4, f5, f6, f7, f8, f9⟩ := this
      rw [e, N_inj (by omega) (by omega)] at f2
      subst f2
      exact ⟨f6, f7, by rw [f8, ak 10 (by omega)], f9⟩
    · rw [if_neg q, e] at this
      exact absurd this (own_ne1 (by omega))
theorem own_23 {n : Nat} (hn : 40 ≤ n) {s0 : St} {p : Nat} (hp : p < 4) : ∀ (m i k M : Nat) (s : St), i + m = 8 → m < k → own_H s → s.2 9 p = 0 → s.2 1 = s0.2 1 → (∀ g, g < 8 → own_L s p g = own_L s0 p g) → M < 256 → (∀ g, g < 8 → M.testBit g = (decide (g < i) && decide (s0.2 1 (p * 8 + g) ≠ -1))) →
    ∃ s', f_hroundTrip_23 n k (Int32.ofNat p) (Int32.ofNat M) (own_hs s0 p i) (Int32.ofNat i) s = some (1, s') ∧ own_H s' := by
  intro m
  induction m with
  | zero =>
    intro i k M s hi hk H sw hw hL hM hb
    obtain ⟨k, rfl⟩ : ∃ y, k = y + 1 := ⟨k - 1, by omega⟩
    have : i = 8 := by omega
    subst this
    have hb' : ∀ g, g < 8 → M.testBit g = decide (s.2 1 (p * 8 + g) ≠ -1) := fun g hg => by rw [hb g hg, hw]; simp [hg]
    obtain ⟨s1, s2, e1, m1, e2, H2, q1, q2, q3, q4, E, q5, q6, q7⟩ := own_trip hn hp hM H sw hb'
    obtain ⟨z, z1, z2⟩ := own_oth hn H.1 hp E
    obtain ⟨i0, i1, i2, i3, i4, i5⟩ := own_piE s hp
    obtain ⟨u0, u1, u2, u3, u4, u5⟩ := own_piE s2 hp
    obtain ⟨w0, w1, w2, w3, w4, w5⟩ := own_piE s1 hp
    rw [u_hroundTrip_23, if_neg (by decide), z1, i0, i1, i4, i5]
    unfold f_hand f_now f_lastStatus
    simp only [Option.bind_some, e1]
    rw [if_pos (by trivial), w3]
    simp only [Option.bind_some]
    rw [if_pos m1, e2]
    simp only [Option.bind_some]
    rw [if_pos (by trivial), u3]
    simp only [Option.bind_some]
    rw [if_pos q2, u2, if_pos q3]
    simp only [Option.bind_some]
    rw [if_pos (by trivial), u0]
    simp only [Option.bind_some]
    rw [if_pos (by rw [q4 10 (by omega)]), u1]
    simp only [Option.bind_some]
    rw [if_pos (by rw [q4 11 (by omega)]), u4]
    simp only [Option.bind_some]
    rw [if_pos (by rw [q4 13 (by omega)]), u5]
    simp only [Option.bind_some]
    rw [if_pos (by rw [q4 14 (by omega)]), q1, if_pos (by trivial), if_pos (by trivial), if_pos (by trivial), z2]
    simp only [Option.bind_some]
    rw [own_cmp, if_pos (by trivial)]
    have h3 : ∀ g, g < 8 → (s2.2 1 (p * 8 + g) = -1 ↔ s0.2 1 (p * 8 + g) = -1) := fun g hg => by rw [q5 g hg, hw]
    have h4 : ∀ g, g < 8 → own_L s2 p g = own_L s0 p g := fun g hg => (q6 g hg).trans (hL g hg)
    have hb2 : ∀ g, g < 8 → M.testBit g = decide (s2.2 1 (p * 8 + g) ≠ -1) := fun g hg => by
      rw [hb' g hg]; simp only [ne_eq, decide_not, decide_eq_decide, q5 g hg]
    have hb0 : ∀ g, g < 8 → M.testBit g = decide (s0.2 1 (p * 8 + g) ≠ -1) := fun g hg => by rw [hb' g hg, hw]
    have a := own_279 hn hp hM H2 (own_hs s0 p 8) (s.2 10 p) hb2 q7 8 0 n (by omega) (by omega)
    rw [show (0 : Int32) = Int32.ofNat 0 from rfl, a]
    exact own_372 hn hp hM hb0 8 0 n s2 (by omega) (by omega) H2 q3 h3 h4 (fun g f hg e hf => (q7 g f hg e hf).1)
  | succ m ih =>
    intro i k M s hi hk H sw hw hL hM hb
    obtain ⟨k, rfl⟩ : ∃ y, k = y + 1 := ⟨k - 1, by omega⟩
    have hi8 : i < 8 := by omega
    rw [u_hroundTrip_23, if_pos (ltZ (z := 8) 8 rfl hi8 (by omega)), own_foE s hp hi8]
    simp only [Option.bind_some]
    by_cases q : s0.2 1 (p * 8 + i) = -1
    · have eh : own_hs s0 p (i + 1) = own_hs s0 p i := by simp [own_hs, q]
      rw [if_pos (by rw [hw, q]; decide), N_succ, ← eh]
      refine ih (i + 1) k M s (by omega) (by omega) H sw hw hL hM (fun g hg => ?_)
      rw [hb g hg]
      by_cases y : g = i
      · subst y; simp [q]
      · have : (g < i + 1) ↔ (g < i) := by omega
        simp only [this]
    · have q' : s.2 1 (p * 8 + i) ≠ -1 := by rw [hw]; exact q
      have eh : own_hs s0 p (i + 1) = own_hs s0 p i * 1000003 + (own_L s0 p i).toInt64 := by simp [own_hs, q]
      obtain ⟨s', e, H', w', sw', L', -⟩ := own_hitR hn H hp hi8 sw q'
      obtain ⟨o1, o2⟩ := own_orE M hM i hi8
      rw [if_neg (fun z => q' ((own_wneg H.1 hp hi8).mp z)), e]
      simp only [Option.bind_some, bnd_eq]
      rw [hL i hi8, ← eh, o1, N_succ]
      refine ih (i + 1) k (M ||| 2 ^ i) s' (by omega) (by omega) H' (by rw [sw']; exact sw) (w'.trans hw) (fun g hg => (L' p g hp hg).trans (hL g hg)) o2 (fun g hg => ?_)
      rw [Nat.testBit_or, hb g hg]
      by_cases y : g = i
      · subst y
        rw [Nat.testBit_two_pow_self]; simp [q]
      · rw [Nat.testBit_two_pow_of_ne (fun r => y r.symm)]
        have : (g < i + 1) ↔ (g < i) := by omega
        simp only [this, Bool.or_false]
theorem own_rt {n : Nat} (hn : 40 ≤ n) {s : St} (H : own_H s) {p : Nat} (hp : p < 5) : ∃ s', f_hroundTrip n (Int32.ofNat p) s = some (1, s') ∧ own_H s' := by
  unfold f_hroundTrip
  by_cases q : 4 ≤ p
  · rw [if_pos (show (3 : Int32) < Int32.ofNat p from ltN (i := 3) (by omega) (by omega))]; exact ⟨s, rfl, H⟩
  · have hp4 : p < 4 := by omega
    rw [if_neg (own_o3 hp4), (own_piE s hp4).2.2.1]
    simp only [Option.bind_some]
    rcases (H.1.2.2.2.2.2.2.2 p hp4).1 with sw | sw
    · rw [if_pos sw, if_pos (by trivial)]
      exact own_23 hn (s0 := s) hp4 8 0 n 0 s (by omega) (by omega) H sw rfl (fun _ _ => rfl) (by omega) (fun g hg => by rw [Nat.zero_testBit]; simp)
    · have e : (if s.2 9 p = 0 then (0 : Int32) else 1) = 1 := if_neg (by rw [sw]; decide)
      rw [e, if_neg (by decide)]
      exact ⟨s, rfl, H⟩
theorem own_loop {n sn : Nat} (hn : 40 ≤ n) (hs : sn ≤ 260) (sf : Nat → Int32) : ∀ (m i k : Nat) (s : St), 4 * i + 4 * m ≥ sn → i ≤ 70 → m < k → own_H s → ∃ w, f_law_15 n sn sf k (Int32.ofNat (4 * i)) s = some (1, w) := by
  have e3 : ∀ i : Nat, Int32.ofNat (4 * i) + 3 = Int32.ofNat (4 * i + 3) := fun i => by rw [show (3 : Int32) = Int32.ofNat 3 from rfl, N_add]
  have e4 : ∀ i : Nat, Int32.ofNat (4 * i) + 4 = Int32.ofNat (4 * (i + 1)) := fun i => by rw [show (4 : Int32) = Int32.ofNat 4 from rfl, N_add]; congr 1
  have nr : ∀ (x : Int32) (m : Nat), m < 2147483648 → ∃ a, x &&& Int32.ofNat m = Int32.ofNat a ∧ a ≤ m := fun x m hm => by
    have := and_rng x (m := m) hm
    obtain ⟨a, a1, -, a3⟩ := own_nat (x := x &&& Int32.ofNat m) (lo := 0) (hi := m) (by omega) (by omega)
    exact ⟨a, a1, a3⟩
  intro m
  induction m with
  | zero =>
    intro i k s hi hi2 hk H
    obtain ⟨k, rfl⟩ : ∃ k', k = k' + 1 := ⟨k - 1, by omega⟩
    rw [u_law_15, if_neg]
    · exact ⟨_, rfl⟩
    · rw [e3]
      exact fun q => by rw [show sn.toInt32 = Int32.ofNat sn from rfl, N_lt (by omega) (by omega)] at q; omega
  | succ m ih =>
    intro i k s hi hi2 hk H
    obtain ⟨k, rfl⟩ : ∃ k', k = k' + 1 := ⟨k - 1, by omega⟩
    by_cases c : Int32.ofNat (4 * i) + 3 < sn.toInt32
    · have hc : 4 * i + 3 < sn := by
        rw [e3, show sn.toInt32 = Int32.ofNat sn from rfl, N_lt (by omega) (by omega)] at c; exact c
      have b0 : inb (Int32.ofNat (4 * i)) sn := inbN (by omega) (by omega)
      have b1 : inb (Int32.ofNat (4 * i) + 1) sn := by rw [N_succ]; exact inbN (by omega) (by omega)
      have b2 : inb (Int32.ofNat (4 * i) + 2) sn := by rw [show (2 : Int32) = Int32.ofNat 2 from rfl, N_add]; exact inbN (by omega) (by omega)
      have b3 : inb (Int32.ofNat (4 * i) + 3) sn := by rw [e3]; exact inbN (by omega) (by omega)
      rw [u_law_15, if_pos c, grd_pos b0, grd_pos b1, bnd_eq, grd_pos b2, bnd_eq, grd_pos b3]
      obtain ⟨a, a1, a2⟩ := nr (sf (ix (Int32.ofNat (4 * i) + 1))) 7 (by omega)
      obtain ⟨b, c1, c2⟩ := nr (sf (ix (Int32.ofNat (4 * i) + 2))) 15 (by omega)
      rw [show Int32.ofNat 7 = (7 : Int32) from rfl] at a1
      rw [show Int32.ofNat 15 = (15 : Int32) from rfl] at c1
      have ha := Nat.mod_lt a (show 0 < 5 by omega)
      have hb := Nat.mod_lt b (show 0 < 9 by omega)
      have ep : Int32.ofNat a % 5 = Int32.ofNat (a % 5) := rem_N (N := 5) (by omega) (by omega) (by omega)
      have ev : Int32.ofNat b % 9 = Int32.ofNat (b % 9) := rem_N (N := 9) (by omega) (by omega) (by omega)
      rw [a1, c1, ep, ev, e4]
      have go := fun s' H' => ih (i + 1) k s' (by omega) (by omega) (by omega) H'
      obtain ⟨r1, s1, y1, H1⟩ := own_rdH hn H ha hb
      obtain ⟨r2, s2, y2, H2⟩ := own_tickH hn H
      obtain ⟨r3, s3, y3, H3⟩ := own_soH hn H ha
      obtain ⟨r4, s4, y4, H4⟩ := own_siH hn H ha
      obtain ⟨r5, s5, y5, H5⟩ := own_ctlH hn H
      obtain ⟨s6, y6, H6⟩ := own_rt hn H ha
      obtain ⟨r7, s7, y7, H7⟩ := own_wrH hn H (sf (ix (Int32.ofNat (4 * i) + 3))) ha hb
      simp only [y1, y2, y3, y4, y5, y6, y7, Option.bind_some]
      split
      · exact go _ H1
      · split
        · split
          · exact go _ H2
          · split
            · exact go _ H3
            · split
              · exact go _ H4
              · split
                · exact go _ H5
                · rw [if_neg (by decide)]; exact go _ H6
        · exact go _ H7
    · rw [u_law_15, if_neg c]; exact ⟨_, rfl⟩
theorem plain (sn : Nat) (sf : Nat → Int32) (hs : sn ≤ 260) : ∃ n w, f_law n sn sf = some (1, w) := by
  obtain ⟨s, e, h1, h2, h3, h4, h5, h6, h7, h8⟩ := own_ctor (n := 100) (by omega) 6 2 2 2
  have z : ∀ j x, x < 32 → j ≠ 1 → j ≠ 2 → s.2 j x = 0 := fun j x hx a b => by
    rw [h8 j x hx, if_neg (fun q => q.elim a b)]
  have hw : ∀ x, x < 32 → s.2 1 x = -1 := fun x hx => by rw [h8 _ x hx, if_pos (Or.inl rfl)]
  have ho : ∀ x, x < 32 → s.2 2 x = -1 := fun x hx => by rw [h8 _ x hx, if_pos (Or.inr rfl)]
  have J : own_J 6 s := by
    refine ⟨h1.trans (by decide), by omega, by omega, ⟨0, by omega, h5⟩, ⟨fun f hf => Or.inl (ho f (by omega)), fun o g a b => Or.inl (hw _ (by omega))⟩, fun f hf => ⟨Or.inl (z _ _ (by omega) (by decide) (by decide)), Or.inl (z _ _ (by omega) (by decide) (by decide))⟩, fun f o g a b c d => ?_, fun o a => ⟨Or.inl (z _ _ (by omega) (by decide) (by decide)), fun _ g b => hw _ (by omega)⟩⟩
    rw [ho f (by omega)] at d
    exact absurd d.symm (own_ne1 (by omega))
  obtain ⟨w, ew⟩ := own_loop (n := 100) (by omega) hs sf 65 0 100 s (by omega) (by omega) (by omega) ⟨J, fun q hq => ⟨0, by omega, z _ _ (by omega) (by decide) (by decide)⟩⟩
  refine ⟨100, w, ?_⟩
  unfold f_law f_law_12
  rw [e]
  exact ew
theorem main_1_1 : Claimed_1_1 := comes_1 plain fun _ _ _ _ _ _ h hF => ⟨h.1, hF⟩
theorem main_1_2 : Claimed_1_2 := comes_1 plain fun _ _ _ _ _ _ h hF => ⟨h.2.1, hF⟩

end Jvm.Pilot.@@N@@
namespace Jvm.Pilot.@@N@@
open Jvm Jvm.ClassFile Sem Op Lib Jvm.Free Jvm.Stand Jvm.Pilot.@@N@@.Jvm.D
/-! MADE BY PROGRAM (witnessworld.py) out of the Statement's table words and the real class files: 11 classes; the members and pool entries that the words name. The judged class is class 1, her method 1. -/
namespace start1
open Jvm.ClassFile
def u (s : String) : CpInfo := .utf8 (stringToUtf16 s)
/-- a pool by its gaps: so many unusable entries, then the entry; so many at the end -/
def gap : Nat → List CpInfo → List CpInfo
  | 0, r => r
  | n + 1, r => .unusable :: gap n r
def poolList (es : List (Nat × CpInfo)) (last : Nat) : List CpInfo := es.foldr (fun e r => gap e.1 (e.2 :: r)) (gap last [])
def pool (es : List (Nat × CpInfo)) (last : Nat) : Array CpInfo := ⟨poolList es last⟩
def fileOf (pool : Array CpInfo) (this : Nat) (attrs : Array Attribute := #[]) (ms : Array MethodInfo := #[]) (fl : Nat := 33) (sup : Nat := 0) (ifs : Array Nat := #[]) (fds : Array FieldInfo := #[]) : ClassFile where
  minorVersion := 0
  majorVersion := 65
  constantPool := pool
  accessFlags := fl
  thisClass := this
  superClass := sup
  interfaces := ifs
  fields := fds
  methods := ms
  attributes := attrs
def plain (name : String) (sup : Option ClassId) : Class where
  name := name
  kind := .ordinary
  loader := none
  accessFlags := 33
  super := sup
  interfaces := #[]
  cf := none
  fields := #[]
  methods := #[]
  instanceTypes := #[]
  staticTypes := #[]
  resolved := #[]
  callSites := []
  init := .initialized
  statics := none
  mirror := none

def pool0 : Array CpInfo := pool [(5, u "<init>"), (0, u "()V"), (1, .class_ 10), (1, u "java/lang/Object")] 113

def k0c0 : Code := { maxStack := 0, maxLocals := 1, code := object_method_1_code, exceptionTable := #[], attributes := #[] }
def k0m0 : Method := { name := "<init>", desc := "()V", sig := { parameters := [], returnType := none }, accessFlags := 1, code := some k0c0 }
/-- java/lang/Object -/
def k0 : Class := { plain "java/lang/Object" none with
  accessFlags := 33
  interfaces := #[]
  cf := some (fileOf pool0 8 #[] #[{ accessFlags := 1, nameIndex := 5, descriptorIndex := 6, attributes := #[] }] 33 0 #[] #[])
  fields := #[]
  methods := #[k0m0]
  instanceTypes := #[]
  staticTypes := #[]
  resolved := Array.replicate 124 none
  statics := none }

def pool1 : Array CpInfo := pool [(2, .class_ 4), (1, u "java/lang/Object"), (0, u "<init>"), (0, u "()V"), (0, .class_ 8), (0, u "WorkingSetPager"), (0, .methodref 7 10), (0, .nameAndType 5 11), (0, u "(IIII)V"), (0, .methodref 7 13), (0, .nameAndType 14 15), (0, u "read"), (0, u "(II)I"), (0, .methodref 7 17), (0, .nameAndType 18 19), (0, u "write"), (0, u "(III)I"), (0, .methodref 7 21), (0, .nameAndType 22 23), (0, u "tick"), (0, u "()I"), (0, .methodref 7 25), (0, .nameAndType 26 27), (0, u "swapOut"), (0, u "(I)I"), (0, .methodref 7 29), (0, .nameAndType 30 27), (0, u "swapIn"), (0, .methodref 7 32), (0, .nameAndType 33 23), (0, u "control"), (0, .methodref 35 36), (0, .class_ 37), (0, .nameAndType 38 39), (0, u "WorkingSetPagerL7"), (0, u "roundTrip"), (0, u "(LWorkingSetPager;I)Z"), (0, .methodref 7 41), (0, .nameAndType 42 15), (0, u "procInfo"), (0, .methodref 7 44), (0, .nameAndType 45 15), (0, u "frameOf"), (0, .long 1000003), (1, .methodref 35 49), (0, .nameAndType 50 51), (0, u "others"), (0, u "(LWorkingSetPager;I)J"), (0, .methodref 7 53), (0, .nameAndType 54 23), (0, u "hand"), (0, .methodref 7 56), (0, .nameAndType 57 23), (0, u "now"), (0, .methodref 7 59), (0, .nameAndType 60 23), (0, u "lastStatus"), (0, .methodref 7 62), (0, .nameAndType 63 27), (0, u "frameInfo"), (0, .methodref 7 65), (0, .nameAndType 66 27), (0, u "lastUse"), (0, .methodref 7 68), (0, .nameAndType 69 27), (0, u "dueTime"), (0, .methodref 7 71), (0, .nameAndType 72 15), (0, u "diskValue"), (2, u "law"), (0, u "([I)Z")] 5

def k1m0 : Method := { name := "<init>", desc := "()V", sig := { parameters := [], returnType := none }, accessFlags := 1, code := none }
def k1c1 : Code := { maxStack := 6, maxLocals := 7, code := code, exceptionTable := #[], attributes := #[] }
def k1m1 : Method := { name := "law", desc := "([I)Z", sig := { parameters := [(.array .int)], returnType := some .boolean }, accessFlags := 9, code := some k1c1 }
def k1c2 : Code := { maxStack := 4, maxLocals := 21, code := method_3_code, exceptionTable := #[], attributes := #[] }
def k1m2 : Method := { name := "roundTrip", desc := "(LWorkingSetPager;I)Z", sig := { parameters := [(.object "WorkingSetPager"), .int], returnType := some .boolean }, accessFlags := 10, code := some k1c2 }
def k1c3 : Code := { maxStack := 5, maxLocals := 7, code := method_4_code, exceptionTable := #[], attributes := #[] }
def k1m3 : Method := { name := "others", desc := "(LWorkingSetPager;I)J", sig := { parameters := [(.object "WorkingSetPager"), .int], returnType := some .long }, accessFlags := 10, code := some k1c3 }
/-- WorkingSetPagerL7 -/
def k1 : Class := { plain "WorkingSetPagerL7" (some 0) with
  accessFlags := 33
  interfaces := #[]
  cf := some (fileOf pool1 35 #[] #[{ accessFlags := 1, nameIndex := 5, descriptorIndex := 6, attributes := #[] }, { accessFlags := 9, nameIndex := 75, descriptorIndex := 76, attributes := #[] }, { accessFlags := 10, nameIndex := 38, descriptorIndex := 39, attributes := #[] }, { accessFlags := 10, nameIndex := 50, descriptorIndex := 51, attributes := #[] }] 33 2 #[] #[])
  fields := #[]
  methods := #[k1m0, k1m1, k1m2, k1m3]
  instanceTypes := #[]
  staticTypes := #[]
  resolved := Array.replicate 82 none
  statics := none }

def pool2 : Array CpInfo := pool [(1, .methodref 2 3), (0, .class_ 4), (0, .nameAndType 5 6), (0, u "java/lang/Object"), (0, u "<init>"), (0, u "()V"), (0, .fieldref 8 9), (0, .class_ 10), (0, .nameAndType 11 12), (0, u "WorkingSetPager"), (0, u "disk"), (0, u "[I"), (0, .fieldref 8 14), (0, .nameAndType 15 12), (0, u "where"), (0, .fieldref 8 17), (0, .nameAndType 18 12), (0, u "fOwner"), (0, .fieldref 8 20), (0, .nameAndType 21 12), (0, u "fPage"), (0, .fieldref 8 23), (0, .nameAndType 24 12), (0, u "fValue"), (0, .fieldref 8 26), (0, .nameAndType 27 12), (0, u "fDirty"), (0, .fieldref 8 29), (0, .nameAndType 30 12), (0, u "fRef"), (0, .fieldref 8 32), (0, .nameAndType 33 12), (0, u "fLast"), (0, .fieldref 8 35), (0, .nameAndType 36 12), (0, u "fDue"), (0, .fieldref 8 38), (0, .nameAndType 39 40), (0, u "swapped"), (0, u "[Z"), (0, .fieldref 8 42), (0, .nameAndType 43 12), (0, u "vt"), (0, .fieldref 8 45), (0, .nameAndType 46 12), (0, u "faults"), (0, .fieldref 8 48), (0, .nameAndType 49 12), (0, u "saved"), (0, .fieldref 8 51), (0, .nameAndType 52 12), (0, u "sf"), (0, .fieldref 8 54), (0, .nameAndType 55 12), (0, u "sa"), (0, .methodref 8 57), (0, .nameAndType 58 59), (0, u "clamp"), (0, u "(III)I"), (0, .fieldref 8 61), (0, .nameAndType 62 63), (0, u "nF"), (0, u "I"), (0, .fieldref 8 65), (0, .nameAndType 66 63), (0, u "win"), (0, .fieldref 8 68), (0, .nameAndType 69 63), (0, u "delay"), (0, .fieldref 8 71), (0, .nameAndType 72 63), (0, u "pffK"), (0, .methodref 8 74), (0, .nameAndType 75 76), (0, u "access"), (0, u "(IIZI)I"), (0, .fieldref 8 78), (0, .nameAndType 79 63), (0, u "lastSt"), (0, .fieldref 8 81), (0, .nameAndType 82 63), (0, u "accFrame"), (0, .fieldref 8 84), (0, .nameAndType 85 63), (0, u "now"), (0, .methodref 8 87), (0, .nameAndType 88 89), (0, u "completeWriteBacks"), (0, u "()I"), (0, .methodref 8 91), (0, .nameAndType 92 93), (0, u "hit"), (0, u "(IIZI)V"), (0, .methodref 8 95), (0, .nameAndType 96 89), (0, u "sweep"), (0, .methodref 8 98), (0, .nameAndType 99 100), (0, u "load"), (0, u "(IIIZI)V"), (0, .fieldref 8 102), (0, .nameAndType 103 63), (0, u "hand"), (0, .methodref 8 105), (0, .nameAndType 106 107), (0, u "doSwapOut"), (0, u "(I)V"), (0, .methodref 8 109), (0, .nameAndType 110 107), (0, u "freeFrame"), (0, .methodref 8 112), (0, .nameAndType 113 114), (0, u "bitCount"), (0, u "(I)I"), (0, .methodref 8 116), (0, .nameAndType 117 89), (0, u "countFree"), (0, .methodref 8 119), (0, .nameAndType 120 107), (0, u "doSwapIn"), (0, .methodref 8 122), (0, .nameAndType 123 89), (0, u "lowestFree"), (0, .methodref 8 125), (0, .nameAndType 126 127), (0, u "decide"), (0, u "(ZIIIZ)I"), (0, u "ST_NONE"), (2, u "ST_HIT"), (1, u "ST_FAULT"), (1, u "ST_NOFRAME"), (1, u "ST_SWAPPED"), (1, u "ST_BAD"), (1, u "ST_OK"), (1, u "ST_NOT_SWAPPED"), (1, u "CTL_NONE"), (0, u "CTL_OUT"), (1, u "CTL_IN"), (1, u "PI_VT"), (0, u "PI_FAULTS"), (0, u "PI_STATE"), (0, u "PI_SAVED"), (0, u "PI_SF"), (0, u "PI_SA"), (0, u "(IIII)V"), (3, u "read"), (0, u "(II)I"), (0, u "write"), (0, u "lastStatus"), (0, u "tick"), (0, u "swapOut"), (0, u "swapIn"), (0, u "control"), (0, u "frameOf"), (0, u "frameInfo"), (0, u "lastUse"), (0, u "dueTime"), (0, u "procInfo"), (0, u "diskValue")] 2

def k2c0 : Code := { maxStack := 5, maxLocals := 6, code := prog_1_method_1_code, exceptionTable := #[], attributes := #[] }
def k2m0 : Method := { name := "<init>", desc := "(IIII)V", sig := { parameters := [.int, .int, .int, .int], returnType := none }, accessFlags := 1, code := some k2c0 }
def k2c1 : Code := { maxStack := 2, maxLocals := 4, code := prog_1_method_2_code, exceptionTable := #[], attributes := #[] }
def k2m1 : Method := { name := "clamp", desc := "(III)I", sig := { parameters := [.int, .int, .int], returnType := some .int }, accessFlags := 2, code := some k2c1 }
def k2c2 : Code := { maxStack := 5, maxLocals := 4, code := prog_1_method_3_code, exceptionTable := #[], attributes := #[] }
def k2m2 : Method := { name := "read", desc := "(II)I", sig := { parameters := [.int, .int], returnType := some .int }, accessFlags := 1, code := some k2c2 }
def k2c3 : Code := { maxStack := 5, maxLocals := 5, code := prog_1_method_4_code, exceptionTable := #[], attributes := #[] }
def k2m3 : Method := { name := "write", desc := "(III)I", sig := { parameters := [.int, .int, .int], returnType := some .int }, accessFlags := 1, code := some k2c3 }
def k2c4 : Code := { maxStack := 1, maxLocals := 1, code := prog_1_method_5_code, exceptionTable := #[], attributes := #[] }
def k2m4 : Method := { name := "lastStatus", desc := "()I", sig := { parameters := [], returnType := some .int }, accessFlags := 1, code := some k2c4 }
def k2c5 : Code := { maxStack := 3, maxLocals := 1, code := prog_1_method_6_code, exceptionTable := #[], attributes := #[] }
def k2m5 : Method := { name := "tick", desc := "()I", sig := { parameters := [], returnType := some .int }, accessFlags := 1, code := some k2c5 }
def k2c6 : Code := { maxStack := 6, maxLocals := 7, code := prog_1_method_7_code, exceptionTable := #[], attributes := #[] }
def k2m6 : Method := { name := "access", desc := "(IIZI)I", sig := { parameters := [.int, .int, .boolean, .int], returnType := some .int }, accessFlags := 2, code := some k2c6 }
def k2c7 : Code := { maxStack := 4, maxLocals := 5, code := prog_1_method_8_code, exceptionTable := #[], attributes := #[] }
def k2m7 : Method := { name := "hit", desc := "(IIZI)V", sig := { parameters := [.int, .int, .boolean, .int], returnType := none }, accessFlags := 2, code := some k2c7 }
def k2c8 : Code := { maxStack := 4, maxLocals := 5, code := prog_1_method_9_code, exceptionTable := #[], attributes := #[] }
def k2m8 : Method := { name := "sweep", desc := "()I", sig := { parameters := [], returnType := some .int }, accessFlags := 2, code := some k2c8 }
def k2c9 : Code := { maxStack := 5, maxLocals := 8, code := prog_1_method_10_code, exceptionTable := #[], attributes := #[] }
def k2m9 : Method := { name := "load", desc := "(IIIZI)V", sig := { parameters := [.int, .int, .int, .boolean, .int], returnType := none }, accessFlags := 2, code := some k2c9 }
def k2c10 : Code := { maxStack := 4, maxLocals := 4, code := prog_1_method_11_code, exceptionTable := #[], attributes := #[] }
def k2m10 : Method := { name := "completeWriteBacks", desc := "()I", sig := { parameters := [], returnType := some .int }, accessFlags := 2, code := some k2c10 }
def k2c11 : Code := { maxStack := 3, maxLocals := 2, code := prog_1_method_12_code, exceptionTable := #[], attributes := #[] }
def k2m11 : Method := { name := "freeFrame", desc := "(I)V", sig := { parameters := [.int], returnType := none }, accessFlags := 2, code := some k2c11 }
def k2c12 : Code := { maxStack := 2, maxLocals := 2, code := prog_1_method_13_code, exceptionTable := #[], attributes := #[] }
def k2m12 : Method := { name := "swapOut", desc := "(I)I", sig := { parameters := [.int], returnType := some .int }, accessFlags := 1, code := some k2c12 }
def k2c13 : Code := { maxStack := 5, maxLocals := 4, code := prog_1_method_14_code, exceptionTable := #[], attributes := #[] }
def k2m13 : Method := { name := "doSwapOut", desc := "(I)V", sig := { parameters := [.int], returnType := none }, accessFlags := 2, code := some k2c13 }
def k2c14 : Code := { maxStack := 3, maxLocals := 4, code := prog_1_method_15_code, exceptionTable := #[], attributes := #[] }
def k2m14 : Method := { name := "swapIn", desc := "(I)I", sig := { parameters := [.int], returnType := some .int }, accessFlags := 1, code := some k2c14 }
def k2c15 : Code := { maxStack := 5, maxLocals := 4, code := prog_1_method_16_code, exceptionTable := #[], attributes := #[] }
def k2m15 : Method := { name := "doSwapIn", desc := "(I)V", sig := { parameters := [.int], returnType := none }, accessFlags := 2, code := some k2c15 }
def k2c16 : Code := { maxStack := 2, maxLocals := 2, code := prog_1_method_17_code, exceptionTable := #[], attributes := #[] }
def k2m16 : Method := { name := "lowestFree", desc := "()I", sig := { parameters := [], returnType := some .int }, accessFlags := 2, code := some k2c16 }
def k2c17 : Code := { maxStack := 2, maxLocals := 3, code := prog_1_method_18_code, exceptionTable := #[], attributes := #[] }
def k2m17 : Method := { name := "countFree", desc := "()I", sig := { parameters := [], returnType := some .int }, accessFlags := 2, code := some k2c17 }
def k2c18 : Code := { maxStack := 3, maxLocals := 4, code := prog_1_method_19_code, exceptionTable := #[], attributes := #[] }
def k2m18 : Method := { name := "bitCount", desc := "(I)I", sig := { parameters := [.int], returnType := some .int }, accessFlags := 2, code := some k2c18 }
def k2c19 : Code := { maxStack := 6, maxLocals := 8, code := prog_1_method_20_code, exceptionTable := #[], attributes := #[] }
def k2m19 : Method := { name := "control", desc := "()I", sig := { parameters := [], returnType := some .int }, accessFlags := 1, code := some k2c19 }
def k2c20 : Code := { maxStack := 3, maxLocals := 8, code := prog_1_method_21_code, exceptionTable := #[], attributes := #[] }
def k2m20 : Method := { name := "decide", desc := "(ZIIIZ)I", sig := { parameters := [.boolean, .int, .int, .int, .boolean], returnType := some .int }, accessFlags := 2, code := some k2c20 }
def k2c21 : Code := { maxStack := 3, maxLocals := 3, code := prog_1_method_22_code, exceptionTable := #[], attributes := #[] }
def k2m21 : Method := { name := "frameOf", desc := "(II)I", sig := { parameters := [.int, .int], returnType := some .int }, accessFlags := 1, code := some k2c21 }
def k2c22 : Code := { maxStack := 4, maxLocals := 4, code := prog_1_method_23_code, exceptionTable := #[], attributes := #[] }
def k2m22 : Method := { name := "frameInfo", desc := "(I)I", sig := { parameters := [.int], returnType := some .int }, accessFlags := 1, code := some k2c22 }
def k2c23 : Code := { maxStack := 2, maxLocals := 2, code := prog_1_method_24_code, exceptionTable := #[], attributes := #[] }
def k2m23 : Method := { name := "lastUse", desc := "(I)I", sig := { parameters := [.int], returnType := some .int }, accessFlags := 1, code := some k2c23 }
def k2c24 : Code := { maxStack := 2, maxLocals := 2, code := prog_1_method_25_code, exceptionTable := #[], attributes := #[] }
def k2m24 : Method := { name := "dueTime", desc := "(I)I", sig := { parameters := [.int], returnType := some .int }, accessFlags := 1, code := some k2c24 }
def k2c25 : Code := { maxStack := 1, maxLocals := 1, code := prog_1_method_26_code, exceptionTable := #[], attributes := #[] }
def k2m25 : Method := { name := "hand", desc := "()I", sig := { parameters := [], returnType := some .int }, accessFlags := 1, code := some k2c25 }
def k2c26 : Code := { maxStack := 1, maxLocals := 1, code := prog_1_method_27_code, exceptionTable := #[], attributes := #[] }
def k2m26 : Method := { name := "now", desc := "()I", sig := { parameters := [], returnType := some .int }, accessFlags := 1, code := some k2c26 }
def k2c27 : Code := { maxStack := 2, maxLocals := 3, code := prog_1_method_28_code, exceptionTable := #[], attributes := #[] }
def k2m27 : Method := { name := "procInfo", desc := "(II)I", sig := { parameters := [.int, .int], returnType := some .int }, accessFlags := 1, code := some k2c27 }
def k2c28 : Code := { maxStack := 3, maxLocals := 3, code := prog_1_method_29_code, exceptionTable := #[], attributes := #[] }
def k2m28 : Method := { name := "diskValue", desc := "(II)I", sig := { parameters := [.int, .int], returnType := some .int }, accessFlags := 1, code := some k2c28 }
/-- WorkingSetPager -/
def k2 : Class := { plain "WorkingSetPager" (some 0) with
  accessFlags := 49
  interfaces := #[]
  cf := some (fileOf pool2 8 #[] #[{ accessFlags := 1, nameIndex := 5, descriptorIndex := 156, attributes := #[] }, { accessFlags := 2, nameIndex := 58, descriptorIndex := 59, attributes := #[] }, { accessFlags := 1, nameIndex := 160, descriptorIndex := 161, attributes := #[] }, { accessFlags := 1, nameIndex := 162, descriptorIndex := 59, attributes := #[] }, { accessFlags := 1, nameIndex := 163, descriptorIndex := 89, attributes := #[] }, { accessFlags := 1, nameIndex := 164, descriptorIndex := 89, attributes := #[] }, { accessFlags := 2, nameIndex := 75, descriptorIndex := 76, attributes := #[] }, { accessFlags := 2, nameIndex := 92, descriptorIndex := 93, attributes := #[] }, { accessFlags := 2, nameIndex := 96, descriptorIndex := 89, attributes := #[] }, { accessFlags := 2, nameIndex := 99, descriptorIndex := 100, attributes := #[] }, { accessFlags := 2, nameIndex := 88, descriptorIndex := 89, attributes := #[] }, { accessFlags := 2, nameIndex := 110, descriptorIndex := 107, attributes := #[] }, { accessFlags := 1, nameIndex := 165, descriptorIndex := 114, attributes := #[] }, { accessFlags := 2, nameIndex := 106, descriptorIndex := 107, attributes := #[] }, { accessFlags := 1, nameIndex := 166, descriptorIndex := 114, attributes := #[] }, { accessFlags := 2, nameIndex := 120, descriptorIndex := 107, attributes := #[] }, { accessFlags := 2, nameIndex := 123, descriptorIndex := 89, attributes := #[] }, { accessFlags := 2, nameIndex := 117, descriptorIndex := 89, attributes := #[] }, { accessFlags := 2, nameIndex := 113, descriptorIndex := 114, attributes := #[] }, { accessFlags := 1, nameIndex := 167, descriptorIndex := 89, attributes := #[] }, { accessFlags := 2, nameIndex := 126, descriptorIndex := 127, attributes := #[] }, { accessFlags := 1, nameIndex := 168, descriptorIndex := 161, attributes := #[] }, { accessFlags := 1, nameIndex := 169, descriptorIndex := 114, attributes := #[] }, { accessFlags := 1, nameIndex := 170, descriptorIndex := 114, attributes := #[] }, { accessFlags := 1, nameIndex := 171, descriptorIndex := 114, attributes := #[] }, { accessFlags := 1, nameIndex := 103, descriptorIndex := 89, attributes := #[] }, { accessFlags := 1, nameIndex := 85, descriptorIndex := 89, attributes := #[] }, { accessFlags := 1, nameIndex := 172, descriptorIndex := 161, attributes := #[] }, { accessFlags := 1, nameIndex := 173, descriptorIndex := 161, attributes := #[] }] 49 2 #[] #[{ accessFlags := 25, nameIndex := 128, descriptorIndex := 63, attributes := #[] }, { accessFlags := 25, nameIndex := 131, descriptorIndex := 63, attributes := #[] }, { accessFlags := 25, nameIndex := 133, descriptorIndex := 63, attributes := #[] }, { accessFlags := 25, nameIndex := 135, descriptorIndex := 63, attributes := #[] }, { accessFlags := 25, nameIndex := 137, descriptorIndex := 63, attributes := #[] }, { accessFlags := 25, nameIndex := 139, descriptorIndex := 63, attributes := #[] }, { accessFlags := 25, nameIndex := 141, descriptorIndex := 63, attributes := #[] }, { accessFlags := 25, nameIndex := 143, descriptorIndex := 63, attributes := #[] }, { accessFlags := 25, nameIndex := 145, descriptorIndex := 63, attributes := #[] }, { accessFlags := 25, nameIndex := 146, descriptorIndex := 63, attributes := #[] }, { accessFlags := 25, nameIndex := 148, descriptorIndex := 63, attributes := #[] }, { accessFlags := 25, nameIndex := 150, descriptorIndex := 63, attributes := #[] }, { accessFlags := 25, nameIndex := 151, descriptorIndex := 63, attributes := #[] }, { accessFlags := 25, nameIndex := 152, descriptorIndex := 63, attributes := #[] }, { accessFlags := 25, nameIndex := 153, descriptorIndex := 63, attributes := #[] }, { accessFlags := 25, nameIndex := 154, descriptorIndex := 63, attributes := #[] }, { accessFlags := 25, nameIndex := 155, descriptorIndex := 63, attributes := #[] }, { accessFlags := 2, nameIndex := 62, descriptorIndex := 63, attributes := #[] }, { accessFlags := 2, nameIndex := 66, descriptorIndex := 63, attributes := #[] }, { accessFlags := 2, nameIndex := 69, descriptorIndex := 63, attributes := #[] }, { accessFlags := 2, nameIndex := 72, descriptorIndex := 63, attributes := #[] }, { accessFlags := 2, nameIndex := 85, descriptorIndex := 63, attributes := #[] }, { accessFlags := 2, nameIndex := 103, descriptorIndex := 63, attributes := #[] }, { accessFlags := 2, nameIndex := 79, descriptorIndex := 63, attributes := #[] }, { accessFlags := 2, nameIndex := 82, descriptorIndex := 63, attributes := #[] }, { accessFlags := 2, nameIndex := 11, descriptorIndex := 12, attributes := #[] }, { accessFlags := 2, nameIndex := 15, descriptorIndex := 12, attributes := #[] }, { accessFlags := 2, nameIndex := 18, descriptorIndex := 12, attributes := #[] }, { accessFlags := 2, nameIndex := 21, descriptorIndex := 12, attributes := #[] }, { accessFlags := 2, nameIndex := 24, descriptorIndex := 12, attributes := #[] }, { accessFlags := 2, nameIndex := 27, descriptorIndex := 12, attributes := #[] }, { accessFlags := 2, nameIndex := 30, descriptorIndex := 12, attributes := #[] }, { accessFlags := 2, nameIndex := 33, descriptorIndex := 12, attributes := #[] }, { accessFlags := 2, nameIndex := 36, descriptorIndex := 12, attributes := #[] }, { accessFlags := 2, nameIndex := 39, descriptorIndex := 40, attributes := #[] }, { accessFlags := 2, nameIndex := 43, descriptorIndex := 12, attributes := #[] }, { accessFlags := 2, nameIndex := 46, descriptorIndex := 12, attributes := #[] }, { accessFlags := 2, nameIndex := 49, descriptorIndex := 12, attributes := #[] }, { accessFlags := 2, nameIndex := 52, descriptorIndex := 12, attributes := #[] }, { accessFlags := 2, nameIndex := 55, descriptorIndex := 12, attributes := #[] }])
  fields := #[{ name := "ST_NONE", type := .int, accessFlags := 25, slot := 0, constantValue := 0 }, { name := "ST_HIT", type := .int, accessFlags := 25, slot := 1, constantValue := 0 }, { name := "ST_FAULT", type := .int, accessFlags := 25, slot := 2, constantValue := 0 }, { name := "ST_NOFRAME", type := .int, accessFlags := 25, slot := 3, constantValue := 0 }, { name := "ST_SWAPPED", type := .int, accessFlags := 25, slot := 4, constantValue := 0 }, { name := "ST_BAD", type := .int, accessFlags := 25, slot := 5, constantValue := 0 }, { name := "ST_OK", type := .int, accessFlags := 25, slot := 6, constantValue := 0 }, { name := "ST_NOT_SWAPPED", type := .int, accessFlags := 25, slot := 7, constantValue := 0 }, { name := "CTL_NONE", type := .int, accessFlags := 25, slot := 8, constantValue := 0 }, { name := "CTL_OUT", type := .int, accessFlags := 25, slot := 9, constantValue := 0 }, { name := "CTL_IN", type := .int, accessFlags := 25, slot := 10, constantValue := 0 }, { name := "PI_VT", type := .int, accessFlags := 25, slot := 11, constantValue := 0 }, { name := "PI_FAULTS", type := .int, accessFlags := 25, slot := 12, constantValue := 0 }, { name := "PI_STATE", type := .int, accessFlags := 25, slot := 13, constantValue := 0 }, { name := "PI_SAVED", type := .int, accessFlags := 25, slot := 14, constantValue := 0 }, { name := "PI_SF", type := .int, accessFlags := 25, slot := 15, constantValue := 0 }, { name := "PI_SA", type := .int, accessFlags := 25, slot := 16, constantValue := 0 }, { name := "nF", type := .int, accessFlags := 2, slot := 0, constantValue := 0 }, { name := "win", type := .int, accessFlags := 2, slot := 1, constantValue := 0 }, { name := "delay", type := .int, accessFlags := 2, slot := 2, constantValue := 0 }, { name := "pffK", type := .int, accessFlags := 2, slot := 3, constantValue := 0 }, { name := "now", type := .int, accessFlags := 2, slot := 4, constantValue := 0 }, { name := "hand", type := .int, accessFlags := 2, slot := 5, constantValue := 0 }, { name := "lastSt", type := .int, accessFlags := 2, slot := 6, constantValue := 0 }, { name := "accFrame", type := .int, accessFlags := 2, slot := 7, constantValue := 0 }, { name := "disk", type := (.array .int), accessFlags := 2, slot := 8, constantValue := 0 }, { name := "where", type := (.array .int), accessFlags := 2, slot := 9, constantValue := 0 }, { name := "fOwner", type := (.array .int), accessFlags := 2, slot := 10, constantValue := 0 }, { name := "fPage", type := (.array .int), accessFlags := 2, slot := 11, constantValue := 0 }, { name := "fValue", type := (.array .int), accessFlags := 2, slot := 12, constantValue := 0 }, { name := "fDirty", type := (.array .int), accessFlags := 2, slot := 13, constantValue := 0 }, { name := "fRef", type := (.array .int), accessFlags := 2, slot := 14, constantValue := 0 }, { name := "fLast", type := (.array .int), accessFlags := 2, slot := 15, constantValue := 0 }, { name := "fDue", type := (.array .int), accessFlags := 2, slot := 16, constantValue := 0 }, { name := "swapped", type := (.array .boolean), accessFlags := 2, slot := 17, constantValue := 0 }, { name := "vt", type := (.array .int), accessFlags := 2, slot := 18, constantValue := 0 }, { name := "faults", type := (.array .int), accessFlags := 2, slot := 19, constantValue := 0 }, { name := "saved", type := (.array .int), accessFlags := 2, slot := 20, constantValue := 0 }, { name := "sf", type := (.array .int), accessFlags := 2, slot := 21, constantValue := 0 }, { name := "sa", type := (.array .int), accessFlags := 2, slot := 22, constantValue := 0 }]
  methods := #[k2m0, k2m1, k2m2, k2m3, k2m4, k2m5, k2m6, k2m7, k2m8, k2m9, k2m10, k2m11, k2m12, k2m13, k2m14, k2m15, k2m16, k2m17, k2m18, k2m19, k2m20, k2m21, k2m22, k2m23, k2m24, k2m25, k2m26, k2m27, k2m28]
  instanceTypes := #[.int, .int, .int, .int, .int, .int, .int, .int, (.array .int), (.array .int), (.array .int), (.array .int), (.array .int), (.array .int), (.array .int), (.array .int), (.array .int), (.array .boolean), (.array .int), (.array .int), (.array .int), (.array .int), (.array .int)]
  staticTypes := #[.int, .int, .int, .int, .int, .int, .int, .int, .int, .int, .int, .int, .int, .int, .int, .int, .int]
  resolved := Array.replicate 176 none
  statics := none }

def pool3 : Array CpInfo := pool [(1, u "java/lang/Cloneable"), (0, .class_ 1), (0, u "java/lang/Object"), (0, .class_ 3)] 3

/-- java/lang/Cloneable -/
def k3 : Class := { plain "java/lang/Cloneable" (some 0) with
  accessFlags := 1537
  interfaces := #[]
  cf := some (fileOf pool3 2 #[] #[] 1537 4 #[] #[])
  fields := #[]
  methods := #[]
  instanceTypes := #[]
  staticTypes := #[]
  resolved := Array.replicate 8 none
  statics := none }

def pool4 : Array CpInfo := pool [(1, u "java/io/Serializable"), (0, .class_ 1), (0, u "java/lang/Object"), (0, .class_ 3)] 3

/-- java/io/Serializable -/
def k4 : Class := { plain "java/io/Serializable" (some 0) with
  accessFlags := 1537
  interfaces := #[]
  cf := some (fileOf pool4 2 #[] #[] 1537 4 #[] #[])
  fields := #[]
  methods := #[]
  instanceTypes := #[]
  staticTypes := #[]
  resolved := Array.replicate 8 none
  statics := none }

/-- the primitive boolean -/
def k5 : Class := { plain "boolean" none with kind := .primitive 'Z', accessFlags := 0x411 }
/-- [Z -/
def k6 : Class := { plain "[Z" (some 0) with kind := .array 5 .boolean, interfaces := #[3, 4], accessFlags := 1041 }

/-- the primitive byte -/
def k7 : Class := { plain "byte" none with kind := .primitive 'B', accessFlags := 0x411 }
/-- [B -/
def k8 : Class := { plain "[B" (some 0) with kind := .array 7 .byte, interfaces := #[3, 4], accessFlags := 1041 }

/-- the primitive int -/
def k9 : Class := { plain "int" none with kind := .primitive 'I', accessFlags := 0x411 }
/-- [I -/
def k10 : Class := { plain "[I" (some 0) with kind := .array 9 .int, interfaces := #[3, 4], accessFlags := 1041 }

def heap : Heap := #[{ cls := 10, slots := #[.int 1, .int 2, .int 3], vm := .none }]
def classes : Array Class := #[k0, k1, k2, k3, k4, k5, k6, k7, k8, k9, k10]
def interned : List (Array UInt16 × Addr) := []
def slotsUsed : Nat := 3
def theMethod : MethodId := ⟨1, 1⟩
def args0 : Array Value := #[.ref 0]
def aboutOver (below : List Frame) : State where
  vm := { classes := classes, interned := interned.toArray }
  heap := heap
  slotsUsed := slotsUsed
  threads := #[{ frames := .invoking theMethod args0 :: below }]
def below0 : List Frame := [.native { method := ⟨0, 0⟩, args := #[] }]
def about1 : State := aboutOver below0
def p0 : Program := .bare "" "" ""
def e0 : Env := launch0.env 0 0 0
theorem w_frames : about1.frames = Frame.invoking theMethod args0 :: below0 := rfl
set_option maxRecDepth 65536 in
theorem w_args : argsFit about1.vm theMethod args0 = true := by decide +kernel
set_option maxRecDepth 65536 in
theorem w_heap : heapFits about1 = true := by decide +kernel
set_option maxRecDepth 65536 in
theorem w_runnable : about1.curStatus? = some .runnable := by decide +kernel
set_option maxRecDepth 65536 in
theorem w_alone : about1.alone = true := by decide +kernel
set_option maxRecDepth 65536 in
theorem w_named : about1.methodNamed? x = some theMethod := by decide +kernel
set_option maxRecDepth 65536 in
theorem w_hears : about1.hears theMethod below0 = true := by decide +kernel
set_option maxRecDepth 65536 in
theorem w_ripe : about1.ripe theMethod args0 below0 = true := by decide +kernel
theorem w_running : about1.status = .running := rfl
set_option maxRecDepth 65536 in
theorem w_room : about1.hasRoom e0.platform room_1 = true :=
  launch0.hasRoom_least _ room_1 (by decide +kernel) (by decide +kernel) (by decide +kernel) (by decide +kernel) (by decide +kernel) (by decide +kernel)
theorem allAtoms_all (ts : List Jvm.Cond) (a : Array Jvm.Value) (st : Jvm.State) : (allAtoms ts).before a st = ts.all (fun c => c.before a st) := by
  induction ts with
  | nil => rfl
  | cons c t ih =>
    show (Jvm.Cond.and c (allAtoms t)).before a st = _
    rw [Jvm.Cond.before_and, ih, List.all_cons]
def words1 : List Jvm.Cond := Jvm.Cond.code x code maxLocals ret :: tables_1
/-- a 'code' word, met by the world's own term for the bytes: nothing is compared byte by byte -/
theorem code_word {y : MethodName} {bytes : ByteArray} {mx : Nat} {rt : Option FieldType} {a : Array Value} {s : State} {m : MethodId} {meth : Method} {c : Code} (h1 : s.methodNamed? y = some m) (h2 : s.vm.method? m = some meth) (h3 : meth.code = some c) (h4 : c.code = bytes)
    (h5 : (c.maxLocals == mx && c.exceptionTable.isEmpty && decide (c.maxStack ≤ mostOperands) && decide (meth.sig.returnType = rt) && !meth.locks && decide (parseMethodDescriptor y.desc = some meth.sig)) = true) : (Jvm.Cond.code y bytes mx rt).before a s = true := by
  simp only [Bool.and_eq_true, beq_iff_eq, Bool.not_eq_true', decide_eq_true_eq] at h5
  obtain ⟨⟨⟨⟨⟨g1, g2⟩, g3⟩, g4⟩, g5⟩, g6⟩ := h5
  simp [Cond.before, Cond.holds, Cond.value, h1, h2, h3, h4, g1, g2, g3, g4, g5, g6]
def isCode : Jvm.Cond → Bool
  | .code _ _ _ _ => true
  | _ => false
theorem all_split {L : List Jvm.Cond} {P : Jvm.Cond → Bool} (h1 : L.all (fun c => isCode c || P c) = true) (h2 : ∀ c ∈ L.filter isCode, P c = true) : L.all P = true := by
  refine List.all_eq_true.mpr fun c hc => ?_
  have h := List.all_eq_true.mp h1 c hc
  rcases Bool.eq_false_or_eq_true (isCode c) with hi | hi
  · exact h2 c (List.mem_filter.mpr ⟨hc, hi⟩)
  · simpa [hi] using h
set_option maxRecDepth 65536 in
theorem w_c0 : (Jvm.Cond.code x code maxLocals ret).before args0 about1 = true := code_word (m := ⟨1, 1⟩) (meth := k1m1) (c := k1c1) (by decide +kernel) rfl rfl rfl (by decide +kernel)
set_option maxRecDepth 65536 in
theorem w_c1 : (Jvm.Cond.code ({ cls := "WorkingSetPager", name := "<init>", desc := "(IIII)V" } : Jvm.MethodName) prog_1_method_1_code (6 : Nat) (Option.none : Option Jvm.ClassFile.FieldType)).before args0 about1 = true := code_word (m := ⟨2, 0⟩) (meth := k2m0) (c := k2c0) (by decide +kernel) rfl rfl rfl (by decide +kernel)
set_option maxRecDepth 65536 in
theorem w_c2 : (Jvm.Cond.code ({ cls := "java/lang/Object", name := "<init>", desc := "()V" } : Jvm.MethodName) object_method_1_code (1 : Nat) (Option.none : Option Jvm.ClassFile.FieldType)).before args0 about1 = true := code_word (m := ⟨0, 0⟩) (meth := k0m0) (c := k0c0) (by decide +kernel) rfl rfl rfl (by decide +kernel)
set_option maxRecDepth 65536 in
theorem w_c3 : (Jvm.Cond.code ({ cls := "WorkingSetPager", name := "clamp", desc := "(III)I" } : Jvm.MethodName) prog_1_method_2_code (4 : Nat) (Option.some Jvm.ClassFile.FieldType.int)).before args0 about1 = true := code_word (m := ⟨2, 1⟩) (meth := k2m1) (c := k2c1) (by decide +kernel) rfl rfl rfl (by decide +kernel)
set_option maxRecDepth 65536 in
theorem w_c4 : (Jvm.Cond.code ({ cls := "WorkingSetPager", name := "tick", desc := "()I" } : Jvm.MethodName) prog_1_method_6_code (1 : Nat) (Option.some Jvm.ClassFile.FieldType.int)).before args0 about1 = true := code_word (m := ⟨2, 5⟩) (meth := k2m5) (c := k2c5) (by decide +kernel) rfl rfl rfl (by decide +kernel)
set_option maxRecDepth 65536 in
theorem w_c5 : (Jvm.Cond.code ({ cls := "WorkingSetPager", name := "completeWriteBacks", desc := "()I" } : Jvm.MethodName) prog_1_method_11_code (4 : Nat) (Option.some Jvm.ClassFile.FieldType.int)).before args0 about1 = true := code_word (m := ⟨2, 10⟩) (meth := k2m10) (c := k2c10) (by decide +kernel) rfl rfl rfl (by decide +kernel)
set_option maxRecDepth 65536 in
theorem w_c6 : (Jvm.Cond.code ({ cls := "WorkingSetPager", name := "write", desc := "(III)I" } : Jvm.MethodName) prog_1_method_4_code (5 : Nat) (Option.some Jvm.ClassFile.FieldType.int)).before args0 about1 = true := code_word (m := ⟨2, 3⟩) (meth := k2m3) (c := k2c3) (by decide +kernel) rfl rfl rfl (by decide +kernel)
set_option maxRecDepth 65536 in
theorem w_c7 : (Jvm.Cond.code ({ cls := "WorkingSetPager", name := "access", desc := "(IIZI)I" } : Jvm.MethodName) prog_1_method_7_code (7 : Nat) (Option.some Jvm.ClassFile.FieldType.int)).before args0 about1 = true := code_word (m := ⟨2, 6⟩) (meth := k2m6) (c := k2c6) (by decide +kernel) rfl rfl rfl (by decide +kernel)
set_option maxRecDepth 65536 in
theorem w_c8 : (Jvm.Cond.code ({ cls := "WorkingSetPager", name := "sweep", desc := "()I" } : Jvm.MethodName) prog_1_method_9_code (5 : Nat) (Option.some Jvm.ClassFile.FieldType.int)).before args0 about1 = true := code_word (m := ⟨2, 8⟩) (meth := k2m8) (c := k2c8) (by decide +kernel) rfl rfl rfl (by decide +kernel)
set_option maxRecDepth 65536 in
theorem w_c9 : (Jvm.Cond.code ({ cls := "WorkingSetPager", name := "load", desc := "(IIIZI)V" } : Jvm.MethodName) prog_1_method_10_code (8 : Nat) (Option.none : Option Jvm.ClassFile.FieldType)).before args0 about1 = true := code_word (m := ⟨2, 9⟩) (meth := k2m9) (c := k2c9) (by decide +kernel) rfl rfl rfl (by decide +kernel)
set_option maxRecDepth 65536 in
theorem w_c10 : (Jvm.Cond.code ({ cls := "WorkingSetPager", name := "read", desc := "(II)I" } : Jvm.MethodName) prog_1_method_3_code (4 : Nat) (Option.some Jvm.ClassFile.FieldType.int)).before args0 about1 = true := code_word (m := ⟨2, 2⟩) (meth := k2m2) (c := k2c2) (by decide +kernel) rfl rfl rfl (by decide +kernel)
set_option maxRecDepth 65536 in
theorem w_c11 : (Jvm.Cond.code ({ cls := "WorkingSetPager", name := "hit", desc := "(IIZI)V" } : Jvm.MethodName) prog_1_method_8_code (5 : Nat) (Option.none : Option Jvm.ClassFile.FieldType)).before args0 about1 = true := code_word (m := ⟨2, 7⟩) (meth := k2m7) (c := k2c7) (by decide +kernel) rfl rfl rfl (by decide +kernel)
set_option maxRecDepth 65536 in
theorem w_c12 : (Jvm.Cond.code ({ cls := "WorkingSetPager", name := "control", desc := "()I" } : Jvm.MethodName) prog_1_method_20_code (8 : Nat) (Option.some Jvm.ClassFile.FieldType.int)).before args0 about1 = true := code_word (m := ⟨2, 19⟩) (meth := k2m19) (c := k2c19) (by decide +kernel) rfl rfl rfl (by decide +kernel)
set_option maxRecDepth 65536 in
theorem w_c13 : (Jvm.Cond.code ({ cls := "WorkingSetPager", name := "decide", desc := "(ZIIIZ)I" } : Jvm.MethodName) prog_1_method_21_code (8 : Nat) (Option.some Jvm.ClassFile.FieldType.int)).before args0 about1 = true := code_word (m := ⟨2, 20⟩) (meth := k2m20) (c := k2c20) (by decide +kernel) rfl rfl rfl (by decide +kernel)
set_option maxRecDepth 65536 in
theorem w_c14 : (Jvm.Cond.code ({ cls := "WorkingSetPagerL7", name := "roundTrip", desc := "(LWorkingSetPager;I)Z" } : Jvm.MethodName) method_3_code (21 : Nat) (Option.some Jvm.ClassFile.FieldType.boolean)).before args0 about1 = true := code_word (m := ⟨1, 2⟩) (meth := k1m2) (c := k1c2) (by decide +kernel) rfl rfl rfl (by decide +kernel)
set_option maxRecDepth 65536 in
theorem w_c15 : (Jvm.Cond.code ({ cls := "WorkingSetPager", name := "procInfo", desc := "(II)I" } : Jvm.MethodName) prog_1_method_28_code (3 : Nat) (Option.some Jvm.ClassFile.FieldType.int)).before args0 about1 = true := code_word (m := ⟨2, 27⟩) (meth := k2m27) (c := k2c27) (by decide +kernel) rfl rfl rfl (by decide +kernel)
set_option maxRecDepth 65536 in
theorem w_c16 : (Jvm.Cond.code ({ cls := "WorkingSetPager", name := "frameOf", desc := "(II)I" } : Jvm.MethodName) prog_1_method_22_code (3 : Nat) (Option.some Jvm.ClassFile.FieldType.int)).before args0 about1 = true := code_word (m := ⟨2, 21⟩) (meth := k2m21) (c := k2c21) (by decide +kernel) rfl rfl rfl (by decide +kernel)
set_option maxRecDepth 65536 in
theorem w_c17 : (Jvm.Cond.code ({ cls := "WorkingSetPagerL7", name := "others", desc := "(LWorkingSetPager;I)J" } : Jvm.MethodName) method_4_code (7 : Nat) (Option.some Jvm.ClassFile.FieldType.long)).before args0 about1 = true := code_word (m := ⟨1, 3⟩) (meth := k1m3) (c := k1c3) (by decide +kernel) rfl rfl rfl (by decide +kernel)
set_option maxRecDepth 65536 in
theorem w_c18 : (Jvm.Cond.code ({ cls := "WorkingSetPager", name := "diskValue", desc := "(II)I" } : Jvm.MethodName) prog_1_method_29_code (3 : Nat) (Option.some Jvm.ClassFile.FieldType.int)).before args0 about1 = true := code_word (m := ⟨2, 28⟩) (meth := k2m28) (c := k2c28) (by decide +kernel) rfl rfl rfl (by decide +kernel)
set_option maxRecDepth 65536 in
theorem w_c19 : (Jvm.Cond.code ({ cls := "WorkingSetPager", name := "hand", desc := "()I" } : Jvm.MethodName) prog_1_method_26_code (1 : Nat) (Option.some Jvm.ClassFile.FieldType.int)).before args0 about1 = true := code_word (m := ⟨2, 25⟩) (meth := k2m25) (c := k2c25) (by decide +kernel) rfl rfl rfl (by decide +kernel)
set_option maxRecDepth 65536 in
theorem w_c20 : (Jvm.Cond.code ({ cls := "WorkingSetPager", name := "now", desc := "()I" } : Jvm.MethodName) prog_1_method_27_code (1 : Nat) (Option.some Jvm.ClassFile.FieldType.int)).before args0 about1 = true := code_word (m := ⟨2, 26⟩) (meth := k2m26) (c := k2c26) (by decide +kernel) rfl rfl rfl (by decide +kernel)
set_option maxRecDepth 65536 in
theorem w_c21 : (Jvm.Cond.code ({ cls := "WorkingSetPager", name := "lastStatus", desc := "()I" } : Jvm.MethodName) prog_1_method_5_code (1 : Nat) (Option.some Jvm.ClassFile.FieldType.int)).before args0 about1 = true := code_word (m := ⟨2, 4⟩) (meth := k2m4) (c := k2c4) (by decide +kernel) rfl rfl rfl (by decide +kernel)
set_option maxRecDepth 65536 in
theorem w_c22 : (Jvm.Cond.code ({ cls := "WorkingSetPager", name := "swapOut", desc := "(I)I" } : Jvm.MethodName) prog_1_method_13_code (2 : Nat) (Option.some Jvm.ClassFile.FieldType.int)).before args0 about1 = true := code_word (m := ⟨2, 12⟩) (meth := k2m12) (c := k2c12) (by decide +kernel) rfl rfl rfl (by decide +kernel)
set_option maxRecDepth 65536 in
theorem w_c23 : (Jvm.Cond.code ({ cls := "WorkingSetPager", name := "doSwapOut", desc := "(I)V" } : Jvm.MethodName) prog_1_method_14_code (4 : Nat) (Option.none : Option Jvm.ClassFile.FieldType)).before args0 about1 = true := code_word (m := ⟨2, 13⟩) (meth := k2m13) (c := k2c13) (by decide +kernel) rfl rfl rfl (by decide +kernel)
set_option maxRecDepth 65536 in
theorem w_c24 : (Jvm.Cond.code ({ cls := "WorkingSetPager", name := "swapIn", desc := "(I)I" } : Jvm.MethodName) prog_1_method_15_code (4 : Nat) (Option.some Jvm.ClassFile.FieldType.int)).before args0 about1 = true := code_word (m := ⟨2, 14⟩) (meth := k2m14) (c := k2c14) (by decide +kernel) rfl rfl rfl (by decide +kernel)
set_option maxRecDepth 65536 in
theorem w_c25 : (Jvm.Cond.code ({ cls := "WorkingSetPager", name := "bitCount", desc := "(I)I" } : Jvm.MethodName) prog_1_method_19_code (4 : Nat) (Option.some Jvm.ClassFile.FieldType.int)).before args0 about1 = true := code_word (m := ⟨2, 18⟩) (meth := k2m18) (c := k2c18) (by decide +kernel) rfl rfl rfl (by decide +kernel)
set_option maxRecDepth 65536 in
theorem w_c26 : (Jvm.Cond.code ({ cls := "WorkingSetPager", name := "countFree", desc := "()I" } : Jvm.MethodName) prog_1_method_18_code (3 : Nat) (Option.some Jvm.ClassFile.FieldType.int)).before args0 about1 = true := code_word (m := ⟨2, 17⟩) (meth := k2m17) (c := k2c17) (by decide +kernel) rfl rfl rfl (by decide +kernel)
set_option maxRecDepth 65536 in
theorem w_c27 : (Jvm.Cond.code ({ cls := "WorkingSetPager", name := "doSwapIn", desc := "(I)V" } : Jvm.MethodName) prog_1_method_16_code (4 : Nat) (Option.none : Option Jvm.ClassFile.FieldType)).before args0 about1 = true := code_word (m := ⟨2, 15⟩) (meth := k2m15) (c := k2c15) (by decide +kernel) rfl rfl rfl (by decide +kernel)
set_option maxRecDepth 65536 in
theorem w_c28 : (Jvm.Cond.code ({ cls := "WorkingSetPager", name := "frameInfo", desc := "(I)I" } : Jvm.MethodName) prog_1_method_23_code (4 : Nat) (Option.some Jvm.ClassFile.FieldType.int)).before args0 about1 = true := code_word (m := ⟨2, 22⟩) (meth := k2m22) (c := k2c22) (by decide +kernel) rfl rfl rfl (by decide +kernel)
set_option maxRecDepth 65536 in
theorem w_c29 : (Jvm.Cond.code ({ cls := "WorkingSetPager", name := "lastUse", desc := "(I)I" } : Jvm.MethodName) prog_1_method_24_code (2 : Nat) (Option.some Jvm.ClassFile.FieldType.int)).before args0 about1 = true := code_word (m := ⟨2, 23⟩) (meth := k2m23) (c := k2c23) (by decide +kernel) rfl rfl rfl (by decide +kernel)
set_option maxRecDepth 65536 in
theorem w_c30 : (Jvm.Cond.code ({ cls := "WorkingSetPager", name := "dueTime", desc := "(I)I" } : Jvm.MethodName) prog_1_method_25_code (2 : Nat) (Option.some Jvm.ClassFile.FieldType.int)).before args0 about1 = true := code_word (m := ⟨2, 24⟩) (meth := k2m24) (c := k2c24) (by decide +kernel) rfl rfl rfl (by decide +kernel)
set_option maxRecDepth 65536 in
theorem w_c31 : (Jvm.Cond.code ({ cls := "WorkingSetPager", name := "freeFrame", desc := "(I)V" } : Jvm.MethodName) prog_1_method_12_code (2 : Nat) (Option.none : Option Jvm.ClassFile.FieldType)).before args0 about1 = true := code_word (m := ⟨2, 11⟩) (meth := k2m11) (c := k2c11) (by decide +kernel) rfl rfl rfl (by decide +kernel)
set_option maxRecDepth 65536 in
theorem w_c32 : (Jvm.Cond.code ({ cls := "WorkingSetPager", name := "lowestFree", desc := "()I" } : Jvm.MethodName) prog_1_method_17_code (2 : Nat) (Option.some Jvm.ClassFile.FieldType.int)).before args0 about1 = true := code_word (m := ⟨2, 16⟩) (meth := k2m16) (c := k2c16) (by decide +kernel) rfl rfl rfl (by decide +kernel)
def codes1 : List Jvm.Cond := [Jvm.Cond.code x code maxLocals ret, Jvm.Cond.code ({ cls := "WorkingSetPager", name := "<init>", desc := "(IIII)V" } : Jvm.MethodName) prog_1_method_1_code (6 : Nat) (Option.none : Option Jvm.ClassFile.FieldType), Jvm.Cond.code ({ cls := "java/lang/Object", name := "<init>", desc := "()V" } : Jvm.MethodName) object_method_1_code (1 : Nat) (Option.none : Option Jvm.ClassFile.FieldType), Jvm.Cond.code ({ cls := "WorkingSetPager", name := "clamp", desc := "(III)I" } : Jvm.MethodName) prog_1_method_2_code (4 : Nat) (Option.some Jvm.ClassFile.FieldType.int), Jvm.Cond.code ({ cls := "WorkingSetPager", name := "tick", desc := "()I" } : Jvm.MethodName) prog_1_method_6_code (1 : Nat) (Option.some Jvm.ClassFile.FieldType.int), Jvm.Cond.code ({ cls := "WorkingSetPager", name := "completeWriteBacks", desc := "()I" } : Jvm.MethodName) prog_1_method_11_code (4 : Nat) (Option.some Jvm.ClassFile.FieldType.int), Jvm.Cond.code ({ cls := "WorkingSetPager", name := "write", desc := "(III)I" } : Jvm.MethodName) prog_1_method_4_code (5 : Nat) (Option.some Jvm.ClassFile.FieldType.int), Jvm.Cond.code ({ cls := "WorkingSetPager", name := "access", desc := "(IIZI)I" } : Jvm.MethodName) prog_1_method_7_code (7 : Nat) (Option.some Jvm.ClassFile.FieldType.int), Jvm.Cond.code ({ cls := "WorkingSetPager", name := "sweep", desc := "()I" } : Jvm.MethodName) prog_1_method_9_code (5 : Nat) (Option.some Jvm.ClassFile.FieldType.int), Jvm.Cond.code ({ cls := "WorkingSetPager", name := "load", desc := "(IIIZI)V" } : Jvm.MethodName) prog_1_method_10_code (8 : Nat) (Option.none : Option Jvm.ClassFile.FieldType), Jvm.Cond.code ({ cls := "WorkingSetPager", name := "read", desc := "(II)I" } : Jvm.MethodName) prog_1_method_3_code (4 : Nat) (Option.some Jvm.ClassFile.FieldType.int), Jvm.Cond.code ({ cls := "WorkingSetPager", name := "hit", desc := "(IIZI)V" } : Jvm.MethodName) prog_1_method_8_code (5 : Nat) (Option.none : Option Jvm.ClassFile.FieldType), Jvm.Cond.code ({ cls := "WorkingSetPager", name := "control", desc := "()I" } : Jvm.MethodName) prog_1_method_20_code (8 : Nat) (Option.some Jvm.ClassFile.FieldType.int), Jvm.Cond.code ({ cls := "WorkingSetPager", name := "decide", desc := "(ZIIIZ)I" } : Jvm.MethodName) prog_1_method_21_code (8 : Nat) (Option.some Jvm.ClassFile.FieldType.int), Jvm.Cond.code ({ cls := "WorkingSetPagerL7", name := "roundTrip", desc := "(LWorkingSetPager;I)Z" } : Jvm.MethodName) method_3_code (21 : Nat) (Option.some Jvm.ClassFile.FieldType.boolean), Jvm.Cond.code ({ cls := "WorkingSetPager", name := "procInfo", desc := "(II)I" } : Jvm.MethodName) prog_1_method_28_code (3 : Nat) (Option.some Jvm.ClassFile.FieldType.int), Jvm.Cond.code ({ cls := "WorkingSetPager", name := "frameOf", desc := "(II)I" } : Jvm.MethodName) prog_1_method_22_code (3 : Nat) (Option.some Jvm.ClassFile.FieldType.int), Jvm.Cond.code ({ cls := "WorkingSetPagerL7", name := "others", desc := "(LWorkingSetPager;I)J" } : Jvm.MethodName) method_4_code (7 : Nat) (Option.some Jvm.ClassFile.FieldType.long), Jvm.Cond.code ({ cls := "WorkingSetPager", name := "diskValue", desc := "(II)I" } : Jvm.MethodName) prog_1_method_29_code (3 : Nat) (Option.some Jvm.ClassFile.FieldType.int), Jvm.Cond.code ({ cls := "WorkingSetPager", name := "hand", desc := "()I" } : Jvm.MethodName) prog_1_method_26_code (1 : Nat) (Option.some Jvm.ClassFile.FieldType.int), Jvm.Cond.code ({ cls := "WorkingSetPager", name := "now", desc := "()I" } : Jvm.MethodName) prog_1_method_27_code (1 : Nat) (Option.some Jvm.ClassFile.FieldType.int), Jvm.Cond.code ({ cls := "WorkingSetPager", name := "lastStatus", desc := "()I" } : Jvm.MethodName) prog_1_method_5_code (1 : Nat) (Option.some Jvm.ClassFile.FieldType.int), Jvm.Cond.code ({ cls := "WorkingSetPager", name := "swapOut", desc := "(I)I" } : Jvm.MethodName) prog_1_method_13_code (2 : Nat) (Option.some Jvm.ClassFile.FieldType.int), Jvm.Cond.code ({ cls := "WorkingSetPager", name := "doSwapOut", desc := "(I)V" } : Jvm.MethodName) prog_1_method_14_code (4 : Nat) (Option.none : Option Jvm.ClassFile.FieldType), Jvm.Cond.code ({ cls := "WorkingSetPager", name := "swapIn", desc := "(I)I" } : Jvm.MethodName) prog_1_method_15_code (4 : Nat) (Option.some Jvm.ClassFile.FieldType.int), Jvm.Cond.code ({ cls := "WorkingSetPager", name := "bitCount", desc := "(I)I" } : Jvm.MethodName) prog_1_method_19_code (4 : Nat) (Option.some Jvm.ClassFile.FieldType.int), Jvm.Cond.code ({ cls := "WorkingSetPager", name := "countFree", desc := "()I" } : Jvm.MethodName) prog_1_method_18_code (3 : Nat) (Option.some Jvm.ClassFile.FieldType.int), Jvm.Cond.code ({ cls := "WorkingSetPager", name := "doSwapIn", desc := "(I)V" } : Jvm.MethodName) prog_1_method_16_code (4 : Nat) (Option.none : Option Jvm.ClassFile.FieldType), Jvm.Cond.code ({ cls := "WorkingSetPager", name := "frameInfo", desc := "(I)I" } : Jvm.MethodName) prog_1_method_23_code (4 : Nat) (Option.some Jvm.ClassFile.FieldType.int), Jvm.Cond.code ({ cls := "WorkingSetPager", name := "lastUse", desc := "(I)I" } : Jvm.MethodName) prog_1_method_24_code (2 : Nat) (Option.some Jvm.ClassFile.FieldType.int), Jvm.Cond.code ({ cls := "WorkingSetPager", name := "dueTime", desc := "(I)I" } : Jvm.MethodName) prog_1_method_25_code (2 : Nat) (Option.some Jvm.ClassFile.FieldType.int), Jvm.Cond.code ({ cls := "WorkingSetPager", name := "freeFrame", desc := "(I)V" } : Jvm.MethodName) prog_1_method_12_code (2 : Nat) (Option.none : Option Jvm.ClassFile.FieldType), Jvm.Cond.code ({ cls := "WorkingSetPager", name := "lowestFree", desc := "()I" } : Jvm.MethodName) prog_1_method_17_code (2 : Nat) (Option.some Jvm.ClassFile.FieldType.int)]
set_option maxRecDepth 65536 in
theorem codes_eq : words1.filter isCode = codes1 := rfl
theorem w_codes : ∀ c ∈ words1.filter isCode, c.before args0 about1 = true := by
  rw [codes_eq]
  intro c hc
  simp only [codes1, List.mem_cons, List.not_mem_nil, or_false] at hc
  rcases hc with rfl | rfl | rfl | rfl | rfl | rfl | rfl | rfl | rfl | rfl | rfl | rfl | rfl | rfl | rfl | rfl | rfl | rfl | rfl | rfl | rfl | rfl | rfl | rfl | rfl | rfl | rfl | rfl | rfl | rfl | rfl | rfl | rfl
  · exact w_c0
  · exact w_c1
  · exact w_c2
  · exact w_c3
  · exact w_c4
  · exact w_c5
  · exact w_c6
  · exact w_c7
  · exact w_c8
  · exact w_c9
  · exact w_c10
  · exact w_c11
  · exact w_c12
  · exact w_c13
  · exact w_c14
  · exact w_c15
  · exact w_c16
  · exact w_c17
  · exact w_c18
  · exact w_c19
  · exact w_c20
  · exact w_c21
  · exact w_c22
  · exact w_c23
  · exact w_c24
  · exact w_c25
  · exact w_c26
  · exact w_c27
  · exact w_c28
  · exact w_c29
  · exact w_c30
  · exact w_c31
  · exact w_c32
set_option maxRecDepth 65536 in
theorem w_t1 : (words1.take 24).all (fun c => isCode c || c.before args0 about1) = true := by decide +kernel
set_option maxRecDepth 65536 in
theorem w_t2 : ((words1.drop 24).take 24).all (fun c => isCode c || c.before args0 about1) = true := by decide +kernel
set_option maxRecDepth 65536 in
theorem w_t3 : (((words1.drop 24).drop 24).take 24).all (fun c => isCode c || c.before args0 about1) = true := by decide +kernel
set_option maxRecDepth 65536 in
theorem w_t4 : ((((words1.drop 24).drop 24).drop 24).take 24).all (fun c => isCode c || c.before args0 about1) = true := by decide +kernel
set_option maxRecDepth 65536 in
theorem w_t5 : (((((words1.drop 24).drop 24).drop 24).drop 24).take 24).all (fun c => isCode c || c.before args0 about1) = true := by decide +kernel
set_option maxRecDepth 65536 in
theorem w_t6 : ((((((words1.drop 24).drop 24).drop 24).drop 24).drop 24).take 24).all (fun c => isCode c || c.before args0 about1) = true := by decide +kernel
set_option maxRecDepth 65536 in
theorem w_t7 : (((((((words1.drop 24).drop 24).drop 24).drop 24).drop 24).drop 24).take 24).all (fun c => isCode c || c.before args0 about1) = true := by decide +kernel
set_option maxRecDepth 65536 in
theorem w_t8 : ((((((((words1.drop 24).drop 24).drop 24).drop 24).drop 24).drop 24).drop 24).take 24).all (fun c => isCode c || c.before args0 about1) = true := by decide +kernel
set_option maxRecDepth 65536 in
theorem w_t9 : ((((((((words1.drop 24).drop 24).drop 24).drop 24).drop 24).drop 24).drop 24).drop 24).all (fun c => isCode c || c.before args0 about1) = true := by decide +kernel
theorem w_tables : (allAtoms (Jvm.Cond.code x code maxLocals ret :: tables_1)).before args0 about1 = true := by
  rw [allAtoms_all]
  show words1.all (fun c => c.before args0 about1) = true
  refine all_split ?_ w_codes
  rw [← List.take_append_drop 24 words1, List.all_append, w_t1, ← List.take_append_drop 24 (words1.drop 24), List.all_append, w_t2, ← List.take_append_drop 24 ((words1.drop 24).drop 24), List.all_append, w_t3, ← List.take_append_drop 24 (((words1.drop 24).drop 24).drop 24), List.all_append, w_t4, ← List.take_append_drop 24 ((((words1.drop 24).drop 24).drop 24).drop 24), List.all_append, w_t5, ← List.take_append_drop 24 (((((words1.drop 24).drop 24).drop 24).drop 24).drop 24), List.all_append, w_t6, ← List.take_append_drop 24 ((((((words1.drop 24).drop 24).drop 24).drop 24).drop 24).drop 24), List.all_append, w_t7, ← List.take_append_drop 24 (((((((words1.drop 24).drop 24).drop 24).drop 24).drop 24).drop 24).drop 24), List.all_append, w_t8, w_t9]
  rfl
set_option maxRecDepth 65536 in
theorem w_rest : rest_1_c.before args0 about1 = true := by decide +kernel
set_option maxRecDepth 65536 in
theorem w_case : (Jvm.Cond.and given_1 narrow_1).before args0 about1 = true := by decide +kernel
theorem w_applies : (headSpec (Jvm.Cond.code x code maxLocals ret :: tables_1) room_1).applies x e0.platform about1 = true :=
  (Spec.applies_iff w_frames).mpr ⟨w_running, w_runnable, w_alone, w_named, w_hears, w_ripe, w_room, w_tables⟩
theorem atStart : AtStart classFile x code maxLocals ret World_1 tables_1 room_1 Calls_1 rest_1 Pre_1 launch0 p0 e0 about1 theMethod args0 below0 :=
  ⟨lists_1, trivial, launch0.admits_env _ _ _, launch0.least_env, fairChoices_fair.cas, fairChoices_fair.clock, w_frames, w_args, w_heap, w_applies, trivial, w_rest, w_case⟩
end start1
theorem witness_1 : WitnessClaimed_1 := ⟨start1.p0, start1.e0, start1.about1, start1.theMethod, start1.args0, start1.below0, start1.atStart⟩
end Jvm.Pilot.@@N@@
