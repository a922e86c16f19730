import JvmDerived
import JvmDerived.Pilot.@@N@@Statement
import JvmDerived.Pilot.@@N@@Code
set_option linter.unusedVariables false
set_option linter.unusedSimpArgs false
namespace Jvm.Own
open Sem ClassFile Op Lib Jvm.Stand Jvm.Free Jvm.LawKit Jvm.RoadKit
/-! ## 1. Small heaps: a list of cells: an object of the one class (its fields in order), or an array (of booleans, of ints) -/
abbrev MCell := List Value ⊕ (Bool × List Int32)
abbrev MHeap := List MCell
abbrev Fd := String × String × FieldType
/-- start, its arguments, launch, the script's place, the heap's first length, the class, its fields, its slots -/
abbrev Ctx := State × Array Value × Launch × Option Nat × Nat × String × List Fd × Nat
abbrev gZ (G : Ctx) : State := G.1
abbrev gA (G : Ctx) : Array Value := G.2.1
abbrev gL (G : Ctx) : Launch := G.2.2.1
abbrev gS (G : Ctx) : Option Nat := G.2.2.2.1
abbrev gN (G : Ctx) : Nat := G.2.2.2.2.1
abbrev gC (G : Ctx) : String := G.2.2.2.2.2.1
abbrev gF (G : Ctx) : List Fd := G.2.2.2.2.2.2.1
abbrev gK (G : Ctx) : Nat := G.2.2.2.2.2.2.2
/-- a method: name, bytes, locals, result, frames and words that it needs -/
abbrev Mi := MethodName × ByteArray × Nat × Option FieldType × Nat × Nat
abbrev mN (M : Mi) : MethodName := M.1
abbrev mB (M : Mi) : ByteArray := M.2.1
abbrev mL (M : Mi) : Nat := M.2.2.1
abbrev mR (M : Mi) : Option FieldType := M.2.2.2.1
abbrev mF (M : Mi) : Nat := M.2.2.2.2.1
abbrev mW (M : Mi) : Nat := M.2.2.2.2.2
def rhoA (sa : Option Nat) (n0 i : Nat) : Nat := match sa with
  | none => n0 + i
  | some a => match i with
    | 0 => a
    | j + 1 => n0 + j
def k0A (sa : Option Nat) : Nat := match sa with
  | none => 0
  | some _ => 1
def rho (G : Ctx) (i : Nat) : Nat := rhoA (gS G) (gN G) i
def k0 (G : Ctx) : Nat := k0A (gS G)
def tr (G : Ctx) : Value → Value
  | .ref i => .ref (rho G i)
  | v => v
def trS (G : Ctx) : Slot → Slot
  | .val v => .val (tr G v)
  | s => s
theorem tr_cat (G : Ctx) (v : Value) : (tr G v).category = v.category := by cases v <;> rfl
theorem tr_cats (G : Ctx) (S : List Value) : ((S.map (tr G)).map fun v => v.category).sum = (S.map fun v => v.category).sum := by
  rw [List.map_map]
  congr 1
  exact List.map_congr_left fun v _ => tr_cat G v
def kd : Bool → FieldType
  | true => .boolean
  | false => .int
def CellAt (G : Ctx) (hr : Heap) (a : Nat) : MCell → Prop
  | .inl fs => Exa (gZ G) hr a (gC G) ∧ fs.length = (gF G).length ∧ ∀ (j : Nat) (n d : String) (ty : FieldType) (v : Value), (gF G)[j]? = some (n, d, ty) → fs[j]? = some v → Fld (gZ G) hr a (gC G) n d (tr G v)
  | .inr bx => ∃ c : Cell, Arr (gZ G) hr a c (kd bx.1) ∧ c.slots = (bx.2.map Value.int).toArray
def Rel (G : Ctx) (hr : Heap) (h : MHeap) : Prop :=
  hr.size + k0 G = gN G + h.length ∧ k0 G ≤ h.length ∧ (∀ a, gS G = some a → a < gN G) ∧ ∀ i c, h[i]? = some c → CellAt G hr (rho G i) c
/-- what the sheet says of the class -/
def GOk (G : Ctx) : Prop :=
  (∀ (j : Nat) (n d : String) (ty : FieldType), (gF G)[j]? = some (n, d, ty) → Laid (gZ G) (gA G) (gC G) (gC G) n d ∧ parseFieldDescriptor d = some ty) ∧
  (∀ (j j' : Nat) (f f' : Fd), (gF G)[j]? = some f → (gF G)[j']? = some f' → j ≠ j' → f.1 ≠ f'.1) ∧
  (Cond.instantiable (gC G) (gK G)).before (gA G) (gZ G) = true ∧ (Cond.initialized (gC G)).before (gA G) (gZ G) = true
theorem rhoA_inj {sa : Option Nat} {n0 i j : Nat} (h : ∀ a, sa = some a → a < n0) (e : rhoA sa n0 i = rhoA sa n0 j) : i = j := by
  cases sa with
  | none => simp only [rhoA] at e; omega
  | some a =>
    have := h a rfl
    cases i <;> cases j <;> simp only [rhoA] at e <;> omega
theorem rho_inj {G : Ctx} {i j : Nat} (h : ∀ a, gS G = some a → a < gN G) (e : rho G i = rho G j) : i = j := rhoA_inj h e
theorem rhoA_new {sa : Option Nat} {n0 i : Nat} (h : k0A sa ≤ i) : rhoA sa n0 i = n0 + (i - k0A sa) := by
  cases sa with
  | none => simp only [rhoA, k0A]; omega
  | some a =>
    cases i with
    | zero => simp only [k0A] at h; omega
    | succ j => simp only [rhoA, k0A]; omega
theorem rho_new {G : Ctx} {i : Nat} (h : k0 G ≤ i) : rho G i = gN G + (i - k0 G) := rhoA_new h
theorem rho_ge {G : Ctx} {i : Nat} (h : k0 G ≤ i) : gN G ≤ rho G i := by rw [rho_new h]; omega
theorem CellAt.other {G : Ctx} {hr hr' : Heap} {a b : Nat} {sl : Nat} {v : Value} (W : Wr hr hr' a sl v) (hne : b ≠ a) : ∀ {c : MCell}, CellAt G hr b c → CellAt G hr' b c
  | .inl _, ⟨h1, h2, h3⟩ => ⟨h1.wr W, h2, fun j n d ty v hf hv => Fld.other W (h3 j n d ty v hf hv) (Or.inl hne)⟩
  | .inr _, ⟨c, h1, h2⟩ => ⟨c, h1.other W hne, h2⟩
theorem CellAt.ext {G : Ctx} {hr hr' : Heap} {b : Nat} (E : Ext hr hr') : ∀ {c : MCell}, CellAt G hr b c → CellAt G hr' b c
  | .inl _, ⟨h1, h2, h3⟩ => ⟨h1.ext E, h2, fun j n d ty v hf hv => Fld.ext E (h3 j n d ty v hf hv)⟩
  | .inr _, ⟨c, h1, h2⟩ => ⟨c, h1.ext E, h2⟩
theorem Rel.push {G : Ctx} {hr hr' : Heap} {h : MHeap} {c : MCell} (R : Rel G hr h) (E : Ext hr hr') (hs : hr'.size = hr.size + 1) (hc : CellAt G hr' hr.size c) : Rel G hr' (h ++ [c]) := by
  obtain ⟨h1, h2, h3, h4⟩ := R
  refine ⟨by rw [List.length_append, List.length_singleton]; omega, by rw [List.length_append]; omega, h3, fun i c' hi => ?_⟩
  rcases Nat.lt_or_ge i h.length with q | q
  · rw [List.getElem?_append_left q] at hi
    exact (h4 i c' hi).ext E
  · have hi2 := hi
    rw [List.getElem?_append_right q] at hi2
    have : i - h.length = 0 := by
      rcases Nat.eq_zero_or_pos (i - h.length) with z | z
      · exact z
      · rw [List.getElem?_eq_none (by simp; omega)] at hi2; cases hi2
    have e : i = h.length := by omega
    subst e
    rw [Nat.sub_self] at hi2
    cases hi2
    have : rho G h.length = hr.size := by rw [rho_new h2]; omega
    rw [this]; exact hc
theorem Rel.wrArr {G : Ctx} {hr hr' : Heap} {h : MHeap} {i j : Nat} {b : Bool} {xs : List Int32} {x : Int32} (R : Rel G hr h) (hi : h[i]? = some (.inr (b, xs))) (W : Wr hr hr' (rho G i) j (.int x)) : Rel G hr' (h.set i (.inr (b, xs.set j x))) := by
  obtain ⟨h1, h2, h3, h4⟩ := R
  refine ⟨by rw [W.size, List.length_set]; exact h1, by rw [List.length_set]; exact h2, h3, fun k c' hk => ?_⟩
  by_cases e : i = k
  · subst e
    rw [List.getElem?_set_self (List.getElem?_eq_some_iff.mp hi).1] at hk
    cases hk
    obtain ⟨c, A, hs⟩ := h4 i _ hi
    refine ⟨c.setSlot j (.int x), A.same W, ?_⟩
    show c.slots.setIfInBounds j (.int x) = _
    rw [hs]
    simp [List.map_set]
  · rw [List.getElem?_set_ne e] at hk
    exact (h4 k c' hk).other W fun q => e (rho_inj h3 q).symm
theorem Rel.wrFld {G : Ctx} {hr hr' : Heap} {h : MHeap} {i j : Nat} {fs : List Value} {n d : String} {ty : FieldType} {v : Value} (R : Rel G hr h) (K : GOk G) (hi : h[i]? = some (.inl fs)) (hF : (gF G)[j]? = some (n, d, ty)) (W : Wr hr hr' (rho G i) (Jvm.RoadKit.slotOf (gZ G) (gC G) n d) (tr G v)) : Rel G hr' (h.set i (.inl (fs.set j v))) := by
  obtain ⟨h1, h2, h3, h4⟩ := R
  refine ⟨by rw [W.size, List.length_set]; exact h1, by rw [List.length_set]; exact h2, h3, fun k c' hk => ?_⟩
  by_cases e : i = k
  · subst e
    rw [List.getElem?_set_self (List.getElem?_eq_some_iff.mp hi).1] at hk
    cases hk
    obtain ⟨e1, e2, e3⟩ := h4 i _ hi
    refine ⟨e1.wr W, by rw [List.length_set]; exact e2, fun j' n' d' ty' v' hf' hv' => ?_⟩
    by_cases q : j = j'
    · subst q
      cases hF.symm.trans hf'
      have hlt : j < fs.length := by rw [e2]; exact (List.getElem?_eq_some_iff.mp hF).1
      rw [List.getElem?_set_self hlt] at hv'
      cases hv'
      obtain ⟨w, hw⟩ : ∃ w, fs[j]? = some w := ⟨_, List.getElem?_eq_getElem hlt⟩
      exact Fld.same W (e3 j n d ty w hF hw)
    · rw [List.getElem?_set_ne q] at hv'
      refine Fld.other W (e3 j' n' d' ty' v' hf' hv') (Or.inr ?_)
      exact slot_ne (K.1 j' n' d' ty' hf').1 (K.1 j n d ty hF).1 (K.2.1 j' j _ _ hf' hF (Ne.symm q)) (K.1 j' n' d' ty' hf').2 (K.1 j n d ty hF).2
  · rw [List.getElem?_set_ne e] at hk
    exact (h4 k c' hk).other W fun q => e (rho_inj h3 q).symm
def csl (k : Nat) : MCell → Nat
  | .inl _ => k
  | .inr bx => bx.2.length
def hsl (k : Nat) (h : MHeap) : Nat := (h.map (csl k)).sum
theorem hsl_push (k : Nat) (h : MHeap) (c : MCell) : hsl k (h ++ [c]) = hsl k h + csl k c := by simp [hsl]
theorem hsl_set (k : Nat) : ∀ (h : MHeap) (i : Nat) (c c' : MCell), h[i]? = some c → csl k c' = csl k c → hsl k (h.set i c') = hsl k h
  | [], _, _, _, h, _ => by simp at h
  | a :: t, 0, c, c', h, e => by simp at h; subst h; simp [hsl, e]
  | a :: t, i + 1, c, c', h, e => by
    have := hsl_set k t i c c' (by simpa using h) e
    simp only [hsl, List.set_cons_succ, List.map_cons, List.sum_cons] at this ⊢
    omega
/-! ## 2. Storing a local variable, on lists -/
def lsetAt (l : List Slot) (i : Nat) (x : Slot) : Option (List Slot) := if i < l.length then some (l.set i x) else none
def lstoreSelf (l : List Slot) (i : Nat) (v : Value) : Option (List Slot) :=
  match lsetAt l i (.val v) with
  | none => none
  | some l => if v.category = 2 then
      (match l[i + 1]? with
      | none => none
      | some (.val old) => if old.category = 2 then (match lsetAt l (i + 2) .unset with | none => none | some l2 => lsetAt l2 (i + 1) .second) else lsetAt l (i + 1) .second
      | some _ => lsetAt l (i + 1) .second)
    else some l
def mst (l : List Slot) (i : Nat) (v : Value) : Option (List Slot) :=
  match l[i]? with
  | none => none
  | some .second => (match lsetAt l (i - 1) .unset with | none => none | some l2 => lstoreSelf l2 i v)
  | some (.val old) => if old.category = 2 then (match lsetAt l (i + 1) .unset with | none => none | some l2 => lstoreSelf l2 i v) else lstoreSelf l i v
  | some .unset => lstoreSelf l i v
def arL (G : Ctx) (l : List Slot) : Array Slot := (l.map (trS G)).toArray
theorem setAt_map (G : Ctx) (l : List Slot) (i : Nat) (x : Slot) : setAt (arL G l) i (trS G x) = (lsetAt l i x).map (arL G) := by
  unfold setAt lsetAt arL
  by_cases h : i < l.length <;> simp [h, List.map_set]
theorem arL_get (G : Ctx) (l : List Slot) (i : Nat) : (arL G l)[i]? = (l[i]?).map (trS G) := by simp [arL]
theorem storeSelf_map (G : Ctx) (l : List Slot) (i : Nat) (v : Value) : storeSelf (arL G l) i (tr G v) = (lstoreSelf l i v).map (arL G) := by
  unfold storeSelf lstoreSelf
  have e := setAt_map G l i (.val v)
  simp only [trS] at e
  rw [e]
  cases h1 : lsetAt l i (.val v) with
  | none => rfl
  | some l1 =>
    simp only [Option.map_some, Option.bind_eq_bind, Option.bind_some, tr_cat]
    by_cases hc : v.category = 2
    · simp only [hc, if_true, arL_get]
      cases h2 : l1[i + 1]? with
      | none => rfl
      | some sl =>
        simp only [Option.map_some, Option.bind_some]
        have u2 := setAt_map G l1 (i + 2) .unset
        have s1 := setAt_map G l1 (i + 1) .second
        simp only [trS] at u2 s1
        cases sl with
        | unset => exact s1
        | second => exact s1
        | val old =>
          simp only [trS, tr_cat]
          by_cases hq : old.category = 2
          · simp only [hq, if_true, u2]
            cases h3 : lsetAt l1 (i + 2) .unset with
            | none => rfl
            | some l2 =>
              have s2 := setAt_map G l2 (i + 1) .second
              simp only [trS] at s2
              exact s2
          · simp only [hq, if_false]
            exact s1
    · simp only [hc, if_false]
      rfl
theorem mst_map (G : Ctx) (l : List Slot) (i : Nat) (v : Value) : storeLocals (arL G l) i (tr G v) = (mst l i v).map (arL G) := by
  unfold storeLocals mst
  simp only [arL_get]
  cases h1 : l[i]? with
  | none => rfl
  | some sl =>
    simp only [Option.map_some, Option.bind_eq_bind, Option.bind_some]
    have u1 := setAt_map G l (i - 1) .unset
    have u2 := setAt_map G l (i + 1) .unset
    simp only [trS] at u1 u2
    cases sl with
    | unset => exact storeSelf_map G l i v
    | second =>
      simp only [trS, u1]
      cases h3 : lsetAt l (i - 1) .unset with
      | none => rfl
      | some l2 => exact storeSelf_map G l2 i v
    | val old =>
      simp only [trS, tr_cat]
      by_cases hq : old.category = 2
      · simp only [hq, if_true, u2]
        cases h3 : lsetAt l (i + 1) .unset with
        | none => rfl
        | some l2 => exact storeSelf_map G l2 i v
      · simp only [hq, if_false]
        exact storeSelf_map G l i v
theorem lsetAt_len {l l' : List Slot} {i : Nat} {x : Slot} (h : lsetAt l i x = some l') : l'.length = l.length := by
  unfold lsetAt at h; split at h
  · cases h; simp
  · cases h
theorem lstoreSelf_len {l l' : List Slot} {i : Nat} {v : Value} (h : lstoreSelf l i v = some l') : l'.length = l.length := by
  unfold lstoreSelf at h
  split at h
  · cases h
  · rename_i l1 h1
    have e1 := lsetAt_len h1
    split at h
    · split at h
      · cases h
      · split at h
        · split at h
          · cases h
          · rename_i h2; rw [lsetAt_len h, lsetAt_len h2, e1]
        · rw [lsetAt_len h, e1]
      · rw [lsetAt_len h, e1]
    · cases h; exact e1
theorem mst_len {l l' : List Slot} {i : Nat} {v : Value} (h : mst l i v = some l') : l'.length = l.length := by
  unfold mst at h
  split at h
  · cases h
  · split at h
    · cases h
    · rename_i h2; rw [lstoreSelf_len h, lsetAt_len h2]
  · split at h
    · split at h
      · cases h
      · rename_i h2; rw [lstoreSelf_len h, lsetAt_len h2]
    · exact lstoreSelf_len h
  · exact lstoreSelf_len h
theorem st_of {G : Ctx} {l l' : List Slot} {i : Nat} {v : Value} (h : mst l i v = some l') : storeLocals (arL G l) i (tr G v) = some (arL G l') := by rw [mst_map, h]; rfl
theorem ld_of {G : Ctx} {l : List Slot} {i : Nat} {s : Slot} (h : l[i]? = some s) : (arL G l)[i]? = some (trS G s) := by rw [arL_get, h]; rfl
/-! ## 3. What a run of a body from a point does -/
def Ev (G : Ctx) (M : Mi) (pc : Nat) (L : List Slot) (S : List Value) (h : MHeap) (r : Option Value × MHeap) : Prop :=
  (h.length ≤ r.2.length ∧ hsl (gK G) h ≤ hsl (gK G) r.2) ∧
  ∀ (p : Program) (e : Env) (R : Room) (s : State) (m : MethodId) (args : Array Value) (below : List Frame) (meth : Method) (c : Code) (T : State) (locs : List Loc) (cells slots : Nat),
    Stand p (gL G) e R s m args below meth c T locs cells slots → p.tables.exec = Jvm.exec → (gZ G).Warmed39 s.vm → s.vm.findClass (mN M).cls = some m.cls →
    c.code = mB M → c.maxLocals = mL M → meth.sig.returnType = mR M → meth.name = (mN M).name → L.length = mL M → mF M ≤ R.frames → mW M ≤ R.locals →
    s.heap.size + cells = T.heap.size → Rel G T.heap h → Fr (gN G) locs → cells + (r.2.length - h.length) ≤ R.cells → slots + (hsl (gK G) r.2 - hsl (gK G) h) ≤ R.slots →
    ∃ T' locs', Stand p (gL G) e R s m args below meth c T' locs' (cells + (r.2.length - h.length)) (slots + (hsl (gK G) r.2 - hsl (gK G) h)) ∧ Rel G T'.heap r.2 ∧ Fr (gN G) locs' ∧
      ∀ fs, (∀ (f : JFrame) (acts : List Action), f.method = m → f.locked = none → f.entered = [] → (doReturn e (T'.setTop f) acts (r.1.map (tr G))).1 = T'.setFrames fs) →
        Steps p.tables e below (T.setTop (mkF m pc (arL G L) (S.map (tr G)))) (T'.setFrames fs)
/-- a whole call -/
def EvC (G : Ctx) (y : Mi) (args : List Value) (h : MHeap) (r : Option Value × MHeap) : Prop :=
  (h.length ≤ r.2.length ∧ hsl (gK G) h ≤ hsl (gK G) r.2) ∧
  ∀ (ws : List Jvm.Cond) (R : Room) (hr : Heap), mF y ≤ R.frames → mW y ≤ R.locals → r.2.length - h.length ≤ R.cells → hsl (gK G) r.2 - hsl (gK G) h ≤ R.slots → Rel G hr h →
    MetFree (gL G) (mN y) (head1 (Jvm.Cond.code (mN y) (mB y) (mL y) (mR y) :: ws) R) (fun a U => a = (args.map (tr G)).toArray ∧ (gZ G).Warmed39 U.vm ∧ U.heap = hr) (fun _ _ _ _ _ => True)
      (fun _ U o U' => ∃ v L, o = .returned v ∧ (v = r.1.map (tr G) ∧ Fr (gN G) L ∧ Rel G U'.heap r.2) ∧ FrameEnd U o U' L (r.2.length - h.length) (hsl (gK G) r.2 - hsl (gK G) h))
section Rules
variable {G : Ctx} {M : Mi} {pc : Nat} {L : List Slot} {S : List Value} {h : MHeap} {r : Option Value × MHeap}
theorem Ev.gen {pc' : Nat} {L' : List Slot} {S' : List Value} {h' : MHeap} (hm1 : h.length ≤ h'.length) (hm2 : hsl (gK G) h ≤ hsl (gK G) h') (hL : L'.length = L.length) (hn : Ev G M pc' L' S' h' r)
    (st : ∀ {p : Program} {e : Env} {R : Room} {s : State} {m : MethodId} {args : Array Value} {below : List Frame} {meth : Method} {c : Code} {T : State} {locs : List Loc} {cells slots : Nat},
      Stand p (gL G) e R s m args below meth c T locs cells slots → p.tables.exec = Jvm.exec → (gZ G).Warmed39 s.vm → s.vm.findClass (mN M).cls = some m.cls →
      c.code = mB M → c.maxLocals = mL M → meth.name = (mN M).name → L.length = mL M → mF M ≤ R.frames → mW M ≤ R.locals →
      s.heap.size + cells = T.heap.size → Rel G T.heap h → Fr (gN G) locs → cells + (h'.length - h.length) ≤ R.cells → slots + (hsl (gK G) h' - hsl (gK G) h) ≤ R.slots →
      ∃ T' locs', Stand p (gL G) e R s m args below meth c T' locs' (cells + (h'.length - h.length)) (slots + (hsl (gK G) h' - hsl (gK G) h)) ∧ Rel G T'.heap h' ∧ Fr (gN G) locs' ∧
        ∀ target, Steps p.tables e below (T'.setTop (mkF m pc' (arL G L') (S'.map (tr G)))) target → Steps p.tables e below (T.setTop (mkF m pc (arL G L) (S.map (tr G)))) target) :
    Ev G M pc L S h r := by
  obtain ⟨⟨g1, g2⟩, hn⟩ := hn
  refine ⟨⟨Nat.le_trans hm1 g1, Nat.le_trans hm2 g2⟩, ?_⟩
  intro p e R s m args below meth c T locs cells slots X hx hZ hown hby hml hret hnm hLm hfr hlo hsz hR hF hc hs
  obtain ⟨T1, locs1, X1, R1, F1, st1⟩ := st X hx hZ hown hby hml hnm hLm hfr hlo hsz hR hF (by omega) (by omega)
  have hsz1 : s.heap.size + (cells + (h'.length - h.length)) = T1.heap.size := by
    have a1 := hR.1
    have a2 := R1.1
    omega
  obtain ⟨T2, locs2, X2, R2, F2, st2⟩ := hn p e R s m args below meth c T1 locs1 _ _ X1 hx hZ hown hby hml hret hnm (hL.trans hLm) hfr hlo hsz1 R1 F1 (by omega) (by omega)
  refine ⟨T2, locs2, ?_, R2, F2, fun fs hl => st1 _ (st2 fs hl)⟩
  have e1 : cells + (h'.length - h.length) + (r.2.length - h'.length) = cells + (r.2.length - h.length) := by omega
  have e2 : slots + (hsl (gK G) h' - hsl (gK G) h) + (hsl (gK G) r.2 - hsl (gK G) h') = slots + (hsl (gK G) r.2 - hsl (gK G) h) := by omega
  rw [e1, e2] at X2
  exact X2
/-- a step that leaves the heap -/
theorem Ev.same {pc' : Nat} {L' : List Slot} {S' : List Value} (hL : L'.length = L.length) (hn : Ev G M pc' L' S' h r)
    (st : ∀ {p : Program} {e : Env} {R : Room} {s : State} {m : MethodId} {args : Array Value} {below : List Frame} {meth : Method} {c : Code} {T : State} {locs : List Loc} {cells slots : Nat},
      Stand p (gL G) e R s m args below meth c T locs cells slots → p.tables.exec = Jvm.exec → (gZ G).Warmed39 s.vm → s.vm.findClass (mN M).cls = some m.cls →
      c.code = mB M → c.maxLocals = mL M → L.length = mL M → mF M ≤ R.frames → mW M ≤ R.locals → Rel G T.heap h →
      ∃ T', Stand p (gL G) e R s m args below meth c T' locs cells slots ∧ T'.heap = T.heap ∧
        ∀ target, Steps p.tables e below (T'.setTop (mkF m pc' (arL G L') (S'.map (tr G)))) target → Steps p.tables e below (T.setTop (mkF m pc (arL G L) (S.map (tr G)))) target) :
    Ev G M pc L S h r := by
  refine Ev.gen (Nat.le_refl _) (Nat.le_refl _) hL hn ?_
  intro p e R s m args below meth c T locs cells slots X hx hZ hown hby hml hnm hLm hfr hlo hsz hR hF hc hs
  obtain ⟨T', X', e', st'⟩ := st X hx hZ hown hby hml hLm hfr hlo hR
  refine ⟨T', locs, ?_, by rw [e']; exact hR, hF, st'⟩
  rw [Nat.sub_self, Nat.sub_self, Nat.add_zero, Nat.add_zero]
  exact X'
/-- a step that leaves all but the frame -/
theorem Ev.pure {pc' : Nat} {L' : List Slot} {S' : List Value} (hL : L'.length = L.length) (hn : Ev G M pc' L' S' h r)
    (st : ∀ {p : Program} {e : Env} {R : Room} {s : State} {m : MethodId} {args : Array Value} {below : List Frame} {meth : Method} {c : Code} {T : State} {locs : List Loc} {cells slots : Nat},
      Stand p (gL G) e R s m args below meth c T locs cells slots → p.tables.exec = Jvm.exec → (gZ G).Warmed39 s.vm → s.vm.findClass (mN M).cls = some m.cls →
      c.code = mB M → ∀ target, Steps p.tables e below (T.setTop (mkF m pc' (arL G L') (S'.map (tr G)))) target → Steps p.tables e below (T.setTop (mkF m pc (arL G L) (S.map (tr G)))) target) :
    Ev G M pc L S h r :=
  Ev.same hL hn fun {p e R s m args below meth c T locs cells slots} X hx hZ hown hby hml hLm hfr hlo hR => ⟨T, X, rfl, st X hx hZ hown hby⟩
/-! ### loads, stores, constants -/
theorem Ev.iload {k : Nat} {v : Int32} (hd : decode (mB M) pc = .ok (.iload k, 2)) (hl : L[k]? = some (.val (.int v))) (hn : Ev G M (pc + 2) L (.int v :: S) h r) : Ev G M pc L S h r :=
  Ev.pure rfl hn fun {_ _ _ _ m _ _ _ _ _ _ _ _} X hx hZ hown hby target q => XS.iload (g := mkF m pc (arL G L) (List.map (tr G) S)) X.here hx rfl (hb hby hd) (ld_of hl) q
theorem Ev.iloadN {k : Fin 4} {v : Int32} (hd : decode (mB M) pc = .ok (.iload_n k, 1)) (hl : L[k.val]? = some (.val (.int v))) (hn : Ev G M (pc + 1) L (.int v :: S) h r) : Ev G M pc L S h r :=
  Ev.pure rfl hn fun {_ _ _ _ m _ _ _ _ _ _ _ _} X hx hZ hown hby target q => XS.iloadN (g := mkF m pc (arL G L) (List.map (tr G) S)) X.here hx rfl (hb hby hd) (ld_of hl) q
theorem Ev.aload {k : Nat} {v : Nat} (hd : decode (mB M) pc = .ok (.aload k, 2)) (hl : L[k]? = some (.val (.ref v))) (hn : Ev G M (pc + 2) L (.ref v :: S) h r) : Ev G M pc L S h r :=
  Ev.pure rfl hn fun {_ _ _ _ m _ _ _ _ _ _ _ _} X hx hZ hown hby target q => XS.aload (g := mkF m pc (arL G L) (List.map (tr G) S)) X.here hx rfl (hb hby hd) (ld_of hl) rfl q
theorem Ev.aloadN {k : Fin 4} {v : Nat} (hd : decode (mB M) pc = .ok (.aload_n k, 1)) (hl : L[k.val]? = some (.val (.ref v))) (hn : Ev G M (pc + 1) L (.ref v :: S) h r) : Ev G M pc L S h r :=
  Ev.pure rfl hn fun {_ _ _ _ m _ _ _ _ _ _ _ _} X hx hZ hown hby target q => XS.aloadN (g := mkF m pc (arL G L) (List.map (tr G) S)) X.here hx rfl (hb hby hd) (ld_of hl) rfl q
theorem Ev.lload {k : Nat} {v : Int64} (hd : decode (mB M) pc = .ok (.lload k, 2)) (hl : L[k]? = some (.val (.long v))) (hn : Ev G M (pc + 2) L (.long v :: S) h r) : Ev G M pc L S h r :=
  Ev.pure rfl hn fun {_ _ _ _ m _ _ _ _ _ _ _ _} X hx hZ hown hby target q => XT.lload (g := mkF m pc (arL G L) (List.map (tr G) S)) X.here hx rfl (hb hby hd) (ld_of hl) q
theorem Ev.lloadN {k : Fin 4} {v : Int64} (hd : decode (mB M) pc = .ok (.lload_n k, 1)) (hl : L[k.val]? = some (.val (.long v))) (hn : Ev G M (pc + 1) L (.long v :: S) h r) : Ev G M pc L S h r :=
  Ev.pure rfl hn fun {_ _ _ _ m _ _ _ _ _ _ _ _} X hx hZ hown hby target q => XT.lloadN (g := mkF m pc (arL G L) (List.map (tr G) S)) X.here hx rfl (hb hby hd) (ld_of hl) q
theorem Ev.istore {k : Nat} {v : Int32} {L' : List Slot} (hd : decode (mB M) pc = .ok (.istore k, 2)) (hl : mst L k (.int v) = some L') (hn : Ev G M (pc + 2) L' S h r) : Ev G M pc L (.int v :: S) h r :=
  Ev.pure (mst_len hl) hn fun {_ _ _ _ m _ _ _ _ _ _ _ _} X hx hZ hown hby target q => XS.istore (g := mkF m pc (arL G L) (List.map (tr G) (Value.int v :: S))) X.here hx rfl (hb hby hd) rfl (st_of hl) q
theorem Ev.istoreN {k : Fin 4} {v : Int32} {L' : List Slot} (hd : decode (mB M) pc = .ok (.istore_n k, 1)) (hl : mst L k.val (.int v) = some L') (hn : Ev G M (pc + 1) L' S h r) : Ev G M pc L (.int v :: S) h r :=
  Ev.pure (mst_len hl) hn fun {_ _ _ _ m _ _ _ _ _ _ _ _} X hx hZ hown hby target q => XS.istoreN (g := mkF m pc (arL G L) (List.map (tr G) (Value.int v :: S))) X.here hx rfl (hb hby hd) rfl (st_of hl) q
theorem Ev.astore {k v : Nat} {L' : List Slot} (hd : decode (mB M) pc = .ok (.astore k, 2)) (hl : mst L k (.ref v) = some L') (hn : Ev G M (pc + 2) L' S h r) : Ev G M pc L (.ref v :: S) h r :=
  Ev.pure (mst_len hl) hn fun {_ _ _ _ m _ _ _ _ _ _ _ _} X hx hZ hown hby target q => XS.astore (g := mkF m pc (arL G L) (List.map (tr G) (Value.ref v :: S))) X.here hx rfl (hb hby hd) rfl rfl (st_of hl) q
theorem Ev.astoreN {k : Fin 4} {v : Nat} {L' : List Slot} (hd : decode (mB M) pc = .ok (.astore_n k, 1)) (hl : mst L k.val (.ref v) = some L') (hn : Ev G M (pc + 1) L' S h r) : Ev G M pc L (.ref v :: S) h r :=
  Ev.pure (mst_len hl) hn fun {_ _ _ _ m _ _ _ _ _ _ _ _} X hx hZ hown hby target q => XS.astoreN (g := mkF m pc (arL G L) (List.map (tr G) (Value.ref v :: S))) X.here hx rfl (hb hby hd) rfl rfl (st_of hl) q
theorem Ev.lstore {k : Nat} {v : Int64} {L' : List Slot} (hd : decode (mB M) pc = .ok (.lstore k, 2)) (hl : mst L k (.long v) = some L') (hn : Ev G M (pc + 2) L' S h r) : Ev G M pc L (.long v :: S) h r :=
  Ev.pure (mst_len hl) hn fun {_ _ _ _ m _ _ _ _ _ _ _ _} X hx hZ hown hby target q => XT.lstore (g := mkF m pc (arL G L) (List.map (tr G) (Value.long v :: S))) X.here hx rfl (hb hby hd) rfl (st_of hl) q
theorem Ev.lstoreN {k : Fin 4} {v : Int64} {L' : List Slot} (hd : decode (mB M) pc = .ok (.lstore_n k, 1)) (hl : mst L k.val (.long v) = some L') (hn : Ev G M (pc + 1) L' S h r) : Ev G M pc L (.long v :: S) h r :=
  Ev.pure (mst_len hl) hn fun {_ _ _ _ m _ _ _ _ _ _ _ _} X hx hZ hown hby target q => XT.lstoreN (g := mkF m pc (arL G L) (List.map (tr G) (Value.long v :: S))) X.here hx rfl (hb hby hd) rfl (st_of hl) q
theorem Ev.iconst {i : Int} {z : Int32} (hd : decode (mB M) pc = .ok (.iconst i, 1)) (hz : Int32.ofInt i = z) (hn : Ev G M (pc + 1) L (.int z :: S) h r) : Ev G M pc L S h r :=
  Ev.pure rfl (hz ▸ hn) fun {_ _ _ _ m _ _ _ _ _ _ _ _} X hx hZ hown hby target q => XS.iconst (g := mkF m pc (arL G L) (List.map (tr G) S)) X.here hx rfl (hb hby hd) q
theorem Ev.bipush {i : Int} {z : Int32} (hd : decode (mB M) pc = .ok (.bipush i, 2)) (hz : (Int8.ofInt i).toInt32 = z) (hn : Ev G M (pc + 2) L (.int z :: S) h r) : Ev G M pc L S h r :=
  Ev.pure rfl (hz ▸ hn) fun {_ _ _ _ m _ _ _ _ _ _ _ _} X hx hZ hown hby target q => XS.bipush (g := mkF m pc (arL G L) (List.map (tr G) S)) X.here hx rfl (hb hby hd) q
theorem Ev.sipush {i : Int} {z : Int32} (hd : decode (mB M) pc = .ok (.sipush i, 3)) (hz : (Int16.ofInt i).toInt32 = z) (hn : Ev G M (pc + 3) L (.int z :: S) h r) : Ev G M pc L S h r :=
  Ev.pure rfl (hz ▸ hn) fun {_ _ _ _ m _ _ _ _ _ _ _ _} X hx hZ hown hby target q => XS.sipush (g := mkF m pc (arL G L) (List.map (tr G) S)) X.here hx rfl (hb hby hd) q
theorem Ev.lconst {k : Fin 2} {z : Int64} (hd : decode (mB M) pc = .ok (.lconst k, 1)) (hz : Int64.ofNat k = z) (hn : Ev G M (pc + 1) L (.long z :: S) h r) : Ev G M pc L S h r :=
  Ev.pure rfl (hz ▸ hn) fun {_ _ _ _ m _ _ _ _ _ _ _ _} X hx hZ hown hby target q => XT.lconst (g := mkF m pc (arL G L) (List.map (tr G) S)) X.here hx rfl (hb hby hd) q
theorem Ev.ldc {k : Nat} {v : Int32} (w : (Jvm.Cond.constant (mN M).cls k v).before (gA G) (gZ G) = true) (hd : decode (mB M) pc = .ok (.ldc k, 2)) (hn : Ev G M (pc + 2) L (.int v :: S) h r) : Ev G M pc L S h r :=
  Ev.pure rfl hn fun {_ _ _ _ m _ _ _ _ _ _ _ _} X hx hZ hown hby target q => X.ldcInt hx hown (mvT hZ w) (g := mkF m pc (arL G L) (List.map (tr G) S)) rfl (hb hby hd) target q
theorem Ev.ldcW {k : Nat} {v : Int32} (w : (Jvm.Cond.constant (mN M).cls k v).before (gA G) (gZ G) = true) (hd : decode (mB M) pc = .ok (.ldc_w k, 3)) (hn : Ev G M (pc + 3) L (.int v :: S) h r) : Ev G M pc L S h r :=
  Ev.pure rfl hn fun {_ _ _ _ m _ _ _ _ _ _ _ _} X hx hZ hown hby target q => X.ldcwInt hx hown (mvT hZ w) (g := mkF m pc (arL G L) (List.map (tr G) S)) rfl (hb hby hd) target q
theorem Ev.ldcL {k : Nat} {v : Int64} (w : (Jvm.Cond.constantLong (mN M).cls k v).before (gA G) (gZ G) = true) (hd : decode (mB M) pc = .ok (.ldc2_w k, 3)) (hn : Ev G M (pc + 3) L (.long v :: S) h r) : Ev G M pc L S h r :=
  Ev.pure rfl hn fun {_ _ _ _ m _ _ _ _ _ _ _ _} X hx hZ hown hby target q => X.ldc2Long hx hown (mvT hZ w) (g := mkF m pc (arL G L) (List.map (tr G) S)) rfl (hb hby hd) target q
/-! ### reckoning -/
theorem Ev.iadd {x y : Int32} (hd : decode (mB M) pc = .ok (.iadd, 1)) (hn : Ev G M (pc + 1) L (.int (x + y) :: S) h r) : Ev G M pc L (.int y :: .int x :: S) h r :=
  Ev.pure rfl hn fun {_ _ _ _ m _ _ _ _ _ _ _ _} X hx hZ hown hby target q => XS.iadd (g := mkF m pc (arL G L) (List.map (tr G) (Value.int y :: Value.int x :: S))) X.here hx rfl (hb hby hd) rfl q
theorem Ev.isub {x y : Int32} (hd : decode (mB M) pc = .ok (.isub, 1)) (hn : Ev G M (pc + 1) L (.int (x - y) :: S) h r) : Ev G M pc L (.int y :: .int x :: S) h r :=
  Ev.pure rfl hn fun {_ _ _ _ m _ _ _ _ _ _ _ _} X hx hZ hown hby target q => XS.isub (g := mkF m pc (arL G L) (List.map (tr G) (Value.int y :: Value.int x :: S))) X.here hx rfl (hb hby hd) rfl q
theorem Ev.imul {x y : Int32} (hd : decode (mB M) pc = .ok (.imul, 1)) (hn : Ev G M (pc + 1) L (.int (x * y) :: S) h r) : Ev G M pc L (.int y :: .int x :: S) h r :=
  Ev.pure rfl hn fun {_ _ _ _ m _ _ _ _ _ _ _ _} X hx hZ hown hby target q => XS.imul (g := mkF m pc (arL G L) (List.map (tr G) (Value.int y :: Value.int x :: S))) X.here hx rfl (hb hby hd) rfl q
theorem Ev.idiv {x y : Int32} (hd : decode (mB M) pc = .ok (.idiv, 1)) (hy : y ≠ 0) (hn : Ev G M (pc + 1) L (.int (x / y) :: S) h r) : Ev G M pc L (.int y :: .int x :: S) h r :=
  Ev.pure rfl hn fun {_ _ _ _ m _ _ _ _ _ _ _ _} X hx hZ hown hby target q => XS.idiv (g := mkF m pc (arL G L) (List.map (tr G) (Value.int y :: Value.int x :: S))) X.here hx rfl (hb hby hd) rfl hy q
theorem Ev.irem {x y : Int32} (hd : decode (mB M) pc = .ok (.irem, 1)) (hy : y ≠ 0) (hn : Ev G M (pc + 1) L (.int (x % y) :: S) h r) : Ev G M pc L (.int y :: .int x :: S) h r :=
  Ev.pure rfl hn fun {_ _ _ _ m _ _ _ _ _ _ _ _} X hx hZ hown hby target q => iremM (g := mkF m pc (arL G L) (List.map (tr G) (Value.int y :: Value.int x :: S))) X hx rfl (hb hby hd) rfl hy q
theorem Ev.ineg {x : Int32} (hd : decode (mB M) pc = .ok (.ineg, 1)) (hn : Ev G M (pc + 1) L (.int (-x) :: S) h r) : Ev G M pc L (.int x :: S) h r :=
  Ev.pure rfl hn fun {_ _ _ _ m _ _ _ _ _ _ _ _} X hx hZ hown hby target q => XS.ineg (g := mkF m pc (arL G L) (List.map (tr G) (Value.int x :: S))) X.here hx rfl (hb hby hd) rfl q
theorem Ev.iand {x y : Int32} (hd : decode (mB M) pc = .ok (.iand, 1)) (hn : Ev G M (pc + 1) L (.int (x &&& y) :: S) h r) : Ev G M pc L (.int y :: .int x :: S) h r :=
  Ev.pure rfl hn fun {_ _ _ _ m _ _ _ _ _ _ _ _} X hx hZ hown hby target q => XS.iand (g := mkF m pc (arL G L) (List.map (tr G) (Value.int y :: Value.int x :: S))) X.here hx rfl (hb hby hd) rfl q
theorem Ev.ior {x y : Int32} (hd : decode (mB M) pc = .ok (.ior, 1)) (hn : Ev G M (pc + 1) L (.int (x ||| y) :: S) h r) : Ev G M pc L (.int y :: .int x :: S) h r :=
  Ev.pure rfl hn fun {_ _ _ _ m _ _ _ _ _ _ _ _} X hx hZ hown hby target q => XT.ior (g := mkF m pc (arL G L) (List.map (tr G) (Value.int y :: Value.int x :: S))) X.here hx rfl (hb hby hd) rfl q
theorem Ev.ixor {x y : Int32} (hd : decode (mB M) pc = .ok (.ixor, 1)) (hn : Ev G M (pc + 1) L (.int (x ^^^ y) :: S) h r) : Ev G M pc L (.int y :: .int x :: S) h r :=
  Ev.pure rfl hn fun {_ _ _ _ m _ _ _ _ _ _ _ _} X hx hZ hown hby target q => XT.ixor (g := mkF m pc (arL G L) (List.map (tr G) (Value.int y :: Value.int x :: S))) X.here hx rfl (hb hby hd) rfl q
theorem Ev.ishl {x y : Int32} (hd : decode (mB M) pc = .ok (.ishl, 1)) (hn : Ev G M (pc + 1) L (.int (x <<< (y &&& 31)) :: S) h r) : Ev G M pc L (.int y :: .int x :: S) h r :=
  Ev.pure rfl hn fun {_ _ _ _ m _ _ _ _ _ _ _ _} X hx hZ hown hby target q => XT.ishl (g := mkF m pc (arL G L) (List.map (tr G) (Value.int y :: Value.int x :: S))) X.here hx rfl (hb hby hd) rfl q
theorem Ev.ishr {x y : Int32} (hd : decode (mB M) pc = .ok (.ishr, 1)) (hn : Ev G M (pc + 1) L (.int (x >>> (y &&& 31)) :: S) h r) : Ev G M pc L (.int y :: .int x :: S) h r :=
  Ev.pure rfl hn fun {_ _ _ _ m _ _ _ _ _ _ _ _} X hx hZ hown hby target q => XT.ishr (g := mkF m pc (arL G L) (List.map (tr G) (Value.int y :: Value.int x :: S))) X.here hx rfl (hb hby hd) rfl q
theorem Ev.iushr {x y : Int32} (hd : decode (mB M) pc = .ok (.iushr, 1)) (hn : Ev G M (pc + 1) L (.int (XT.ushr x y) :: S) h r) : Ev G M pc L (.int y :: .int x :: S) h r :=
  Ev.pure rfl hn fun {_ _ _ _ m _ _ _ _ _ _ _ _} X hx hZ hown hby target q => XT.iushr (g := mkF m pc (arL G L) (List.map (tr G) (Value.int y :: Value.int x :: S))) X.here hx rfl (hb hby hd) rfl q
theorem Ev.ladd {x y : Int64} (hd : decode (mB M) pc = .ok (.ladd, 1)) (hn : Ev G M (pc + 1) L (.long (x + y) :: S) h r) : Ev G M pc L (.long y :: .long x :: S) h r :=
  Ev.pure rfl hn fun {_ _ _ _ m _ _ _ _ _ _ _ _} X hx hZ hown hby target q => XT.ladd (g := mkF m pc (arL G L) (List.map (tr G) (Value.long y :: Value.long x :: S))) X.here hx rfl (hb hby hd) rfl q
theorem Ev.lsub {x y : Int64} (hd : decode (mB M) pc = .ok (.lsub, 1)) (hn : Ev G M (pc + 1) L (.long (x - y) :: S) h r) : Ev G M pc L (.long y :: .long x :: S) h r :=
  Ev.pure rfl hn fun {_ _ _ _ m _ _ _ _ _ _ _ _} X hx hZ hown hby target q => XT.lsub (g := mkF m pc (arL G L) (List.map (tr G) (Value.long y :: Value.long x :: S))) X.here hx rfl (hb hby hd) rfl q
theorem Ev.lmul {x y : Int64} (hd : decode (mB M) pc = .ok (.lmul, 1)) (hn : Ev G M (pc + 1) L (.long (x * y) :: S) h r) : Ev G M pc L (.long y :: .long x :: S) h r :=
  Ev.pure rfl hn fun {_ _ _ _ m _ _ _ _ _ _ _ _} X hx hZ hown hby target q => XT.lmul (g := mkF m pc (arL G L) (List.map (tr G) (Value.long y :: Value.long x :: S))) X.here hx rfl (hb hby hd) rfl q
theorem Ev.ldiv {x y : Int64} (hd : decode (mB M) pc = .ok (.ldiv, 1)) (hy : y ≠ 0) (hn : Ev G M (pc + 1) L (.long (x / y) :: S) h r) : Ev G M pc L (.long y :: .long x :: S) h r :=
  Ev.pure rfl hn fun {_ _ _ _ m _ _ _ _ _ _ _ _} X hx hZ hown hby target q => XT.ldiv (g := mkF m pc (arL G L) (List.map (tr G) (Value.long y :: Value.long x :: S))) X.here hx rfl (hb hby hd) rfl hy q
theorem Ev.lneg {x : Int64} (hd : decode (mB M) pc = .ok (.lneg, 1)) (hn : Ev G M (pc + 1) L (.long (-x) :: S) h r) : Ev G M pc L (.long x :: S) h r :=
  Ev.pure rfl hn fun {_ _ _ _ m _ _ _ _ _ _ _ _} X hx hZ hown hby target q => XT.lneg (g := mkF m pc (arL G L) (List.map (tr G) (Value.long x :: S))) X.here hx rfl (hb hby hd) rfl q
theorem Ev.land {x y : Int64} (hd : decode (mB M) pc = .ok (.land, 1)) (hn : Ev G M (pc + 1) L (.long (x &&& y) :: S) h r) : Ev G M pc L (.long y :: .long x :: S) h r :=
  Ev.pure rfl hn fun {_ _ _ _ m _ _ _ _ _ _ _ _} X hx hZ hown hby target q => XT.land (g := mkF m pc (arL G L) (List.map (tr G) (Value.long y :: Value.long x :: S))) X.here hx rfl (hb hby hd) rfl q
theorem Ev.lor {x y : Int64} (hd : decode (mB M) pc = .ok (.lor, 1)) (hn : Ev G M (pc + 1) L (.long (x ||| y) :: S) h r) : Ev G M pc L (.long y :: .long x :: S) h r :=
  Ev.pure rfl hn fun {_ _ _ _ m _ _ _ _ _ _ _ _} X hx hZ hown hby target q => XT.lor (g := mkF m pc (arL G L) (List.map (tr G) (Value.long y :: Value.long x :: S))) X.here hx rfl (hb hby hd) rfl q
theorem Ev.lxor {x y : Int64} (hd : decode (mB M) pc = .ok (.lxor, 1)) (hn : Ev G M (pc + 1) L (.long (x ^^^ y) :: S) h r) : Ev G M pc L (.long y :: .long x :: S) h r :=
  Ev.pure rfl hn fun {_ _ _ _ m _ _ _ _ _ _ _ _} X hx hZ hown hby target q => XT.lxor (g := mkF m pc (arL G L) (List.map (tr G) (Value.long y :: Value.long x :: S))) X.here hx rfl (hb hby hd) rfl q
theorem Ev.lshl {x : Int64} {y : Int32} (hd : decode (mB M) pc = .ok (.lshl, 1)) (hn : Ev G M (pc + 1) L (.long (x <<< (y.toInt64 &&& 63)) :: S) h r) : Ev G M pc L (.int y :: .long x :: S) h r :=
  Ev.pure rfl hn fun {_ _ _ _ m _ _ _ _ _ _ _ _} X hx hZ hown hby target q => XT.lshl (g := mkF m pc (arL G L) (List.map (tr G) (Value.int y :: Value.long x :: S))) X.here hx rfl (hb hby hd) rfl q
theorem Ev.lushr {x : Int64} {y : Int32} (hd : decode (mB M) pc = .ok (.lushr, 1)) (hn : Ev G M (pc + 1) L (.long (XT.ushrL x y) :: S) h r) : Ev G M pc L (.int y :: .long x :: S) h r :=
  Ev.pure rfl hn fun {_ _ _ _ m _ _ _ _ _ _ _ _} X hx hZ hown hby target q => XT.lushr (g := mkF m pc (arL G L) (List.map (tr G) (Value.int y :: Value.long x :: S))) X.here hx rfl (hb hby hd) rfl q
theorem Ev.lcmp {x y : Int64} (hd : decode (mB M) pc = .ok (.lcmp, 1)) (hn : Ev G M (pc + 1) L (.int (XT.cmpL x y) :: S) h r) : Ev G M pc L (.long y :: .long x :: S) h r :=
  Ev.pure rfl hn fun {_ _ _ _ m _ _ _ _ _ _ _ _} X hx hZ hown hby target q => XT.lcmp (g := mkF m pc (arL G L) (List.map (tr G) (Value.long y :: Value.long x :: S))) X.here hx rfl (hb hby hd) rfl q
theorem Ev.i2l {x : Int32} (hd : decode (mB M) pc = .ok (.i2l, 1)) (hn : Ev G M (pc + 1) L (.long x.toInt64 :: S) h r) : Ev G M pc L (.int x :: S) h r :=
  Ev.pure rfl hn fun {_ _ _ _ m _ _ _ _ _ _ _ _} X hx hZ hown hby target q => XT.i2l (g := mkF m pc (arL G L) (List.map (tr G) (Value.int x :: S))) X.here hx rfl (hb hby hd) rfl q
theorem Ev.l2i {x : Int64} (hd : decode (mB M) pc = .ok (.l2i, 1)) (hn : Ev G M (pc + 1) L (.int x.toInt32 :: S) h r) : Ev G M pc L (.long x :: S) h r :=
  Ev.pure rfl hn fun {_ _ _ _ m _ _ _ _ _ _ _ _} X hx hZ hown hby target q => XT.l2i (g := mkF m pc (arL G L) (List.map (tr G) (Value.long x :: S))) X.here hx rfl (hb hby hd) rfl q
theorem Ev.i2b {x : Int32} (hd : decode (mB M) pc = .ok (.i2b, 1)) (hn : Ev G M (pc + 1) L (.int x.toInt8.toInt32 :: S) h r) : Ev G M pc L (.int x :: S) h r :=
  Ev.pure rfl hn fun {_ _ _ _ m _ _ _ _ _ _ _ _} X hx hZ hown hby target q => XT.i2b (g := mkF m pc (arL G L) (List.map (tr G) (Value.int x :: S))) X.here hx rfl (hb hby hd) rfl q
theorem Ev.iinc {k : Nat} {i : Int} {x z : Int32} {L' : List Slot} (hd : decode (mB M) pc = .ok (.iinc k i, 3)) (hl : L[k]? = some (.val (.int x))) (hz : Int32.ofInt i = z) (hl' : mst L k (.int (x + z)) = some L') (hn : Ev G M (pc + 3) L' S h r) : Ev G M pc L S h r :=
  Ev.pure (mst_len hl') hn fun {_ _ _ _ m _ _ _ _ _ _ _ _} X hx hZ hown hby target q => XS.iinc (g := mkF m pc (arL G L) (List.map (tr G) S)) X.here hx rfl (hb hby hd) (ld_of hl) (by rw [hz]; exact st_of hl') q
theorem iincW {tb : Tables} [Ours tb] {e : Env} {below : List Frame} {T target : State} {m : MethodId} {c : Code} {g : JFrame} (h : At T m c below) (hx : tb.exec = Jvm.exec) (hg : g.method = m) {k : Nat} {cst : Int} {x : Int32} {l' : Array Slot} (hd : decode c.code g.pc = .ok (.iinc k cst, 6)) (hl : g.locals[k]? = some (.val (.int x))) (hl' : storeLocals g.locals k (.int (x + Int32.ofInt cst)) = some l')
    (hr : Steps tb e below (T.setTop { g with pc := g.pc + 6, locals := l' }) target) : Steps tb e below (T.setTop g) target := by
  subst hg
  jvm_step h [h.top, hx, hd, hl, hl']
  exact hr
theorem Ev.iincW {k : Nat} {i : Int} {x z : Int32} {L' : List Slot} (hd : decode (mB M) pc = .ok (.iinc k i, 6)) (hl : L[k]? = some (.val (.int x))) (hz : Int32.ofInt i = z) (hl' : mst L k (.int (x + z)) = some L') (hn : Ev G M (pc + 6) L' S h r) : Ev G M pc L S h r :=
  Ev.pure (mst_len hl') hn fun {_ _ _ _ m _ _ _ _ _ _ _ _} X hx hZ hown hby target q => Own.iincW (g := mkF m pc (arL G L) (List.map (tr G) S)) X.here hx rfl (hb hby hd) (ld_of hl) (by rw [hz]; exact st_of hl') q
theorem Ev.dup {x : Value} (hd : decode (mB M) pc = .ok (.dup, 1)) (hc : x.category = 1) (hn : Ev G M (pc + 1) L (x :: x :: S) h r) : Ev G M pc L (x :: S) h r :=
  Ev.pure rfl hn fun {_ _ _ _ m _ _ _ _ _ _ _ _} X hx hZ hown hby target q => XS.dup (g := mkF m pc (arL G L) (List.map (tr G) (x :: S))) X.here hx rfl (hb hby hd) rfl ((tr_cat G x).trans hc) q
theorem Ev.dup2 {x y : Value} (hd : decode (mB M) pc = .ok (.dup2, 1)) (hc : x.category = 1) (hc' : y.category = 1) (hn : Ev G M (pc + 1) L (x :: y :: x :: y :: S) h r) : Ev G M pc L (x :: y :: S) h r :=
  Ev.pure rfl hn fun {_ _ _ _ m _ _ _ _ _ _ _ _} X hx hZ hown hby target q => XT.dup2 (g := mkF m pc (arL G L) (List.map (tr G) (x :: y :: S))) X.here hx rfl (hb hby hd) rfl ((tr_cat G x).trans hc) ((tr_cat G y).trans hc') q
theorem Ev.pop {x : Value} (hd : decode (mB M) pc = .ok (.pop, 1)) (hc : x.category = 1) (hn : Ev G M (pc + 1) L S h r) : Ev G M pc L (x :: S) h r :=
  Ev.pure rfl hn fun {_ _ _ _ m _ _ _ _ _ _ _ _} X hx hZ hown hby target q => XT.pop (g := mkF m pc (arL G L) (List.map (tr G) (x :: S))) X.here hx rfl (hb hby hd) rfl ((tr_cat G x).trans hc) q
/-! ### branches -/
theorem Ev.goto {o : Int} {t : Nat} (hd : decode (mB M) pc = .ok (.goto o, 3)) (hp : (pc : Int) + o = (t : Int)) (hn : Ev G M t L S h r) : Ev G M pc L S h r :=
  Ev.pure rfl hn fun {_ _ _ _ m _ _ _ _ _ _ _ _} X hx hZ hown hby target q => XS.goto (g := mkF m pc (arL G L) (List.map (tr G) S)) X.here hx rfl rfl (hb hby hd) (by rw [hp]; exact Int.natCast_nonneg t) (by rw [hp]; rfl) q
theorem Ev.ifc {cd : ClassFile.Cond} {x : Int32} {o : Int} {t : Nat} (hd : decode (mB M) pc = .ok (.ifCond cd o, 3)) (hp : (pc : Int) + o = (t : Int)) (h1 : ifCond.holds cd x = true → Ev G M t L S h r) (h2 : ifCond.holds cd x = false → Ev G M (pc + 3) L S h r) : Ev G M pc L (.int x :: S) h r := by
  cases hc : ifCond.holds cd x with
  | true => exact Ev.pure rfl (h1 hc) fun {_ _ _ _ m _ _ _ _ _ _ _ _} X hx hZ hown hby target q => XS.ifYes (g := mkF m pc (arL G L) (List.map (tr G) (Value.int x :: S))) X.here hx rfl rfl (hb hby hd) rfl hc (by rw [hp]; exact Int.natCast_nonneg t) (by rw [hp]; rfl) q
  | false => exact Ev.pure rfl (h2 hc) fun {_ _ _ _ m _ _ _ _ _ _ _ _} X hx hZ hown hby target q => XS.ifNo (g := mkF m pc (arL G L) (List.map (tr G) (Value.int x :: S))) X.here hx rfl (hb hby hd) rfl hc q
theorem Ev.icc {cd : ClassFile.Cond} {x y : Int32} {o : Int} {t : Nat} (hd : decode (mB M) pc = .ok (.if_icmp cd o, 3)) (hp : (pc : Int) + o = (t : Int)) (h1 : if_icmp.holds cd x y = true → Ev G M t L S h r) (h2 : if_icmp.holds cd x y = false → Ev G M (pc + 3) L S h r) : Ev G M pc L (.int y :: .int x :: S) h r := by
  cases hc : if_icmp.holds cd x y with
  | true => exact Ev.pure rfl (h1 hc) fun {_ _ _ _ m _ _ _ _ _ _ _ _} X hx hZ hown hby target q => XS.icmpYes (g := mkF m pc (arL G L) (List.map (tr G) (Value.int y :: Value.int x :: S))) X.here hx rfl rfl (hb hby hd) rfl hc (by rw [hp]; exact Int.natCast_nonneg t) (by rw [hp]; rfl) q
  | false => exact Ev.pure rfl (h2 hc) fun {_ _ _ _ m _ _ _ _ _ _ _ _} X hx hZ hown hby target q => XS.icmpNo (g := mkF m pc (arL G L) (List.map (tr G) (Value.int y :: Value.int x :: S))) X.here hx rfl (hb hby hd) rfl hc q
theorem Ev.iclt {x y : Int32} {o : Int} {t : Nat} (hd : decode (mB M) pc = .ok (.if_icmp .lt o, 3)) (hp : (pc : Int) + o = (t : Int)) (h1 : x < y → Ev G M t L S h r) (h2 : ¬ x < y → Ev G M (pc + 3) L S h r) : Ev G M pc L (.int y :: .int x :: S) h r :=
  Ev.icc hd hp (fun q => h1 (by simpa [if_icmp.holds] using q)) (fun q => h2 (by simpa [if_icmp.holds] using q))
theorem Ev.icge {x y : Int32} {o : Int} {t : Nat} (hd : decode (mB M) pc = .ok (.if_icmp .ge o, 3)) (hp : (pc : Int) + o = (t : Int)) (h1 : x < y → Ev G M (pc + 3) L S h r) (h2 : ¬ x < y → Ev G M t L S h r) : Ev G M pc L (.int y :: .int x :: S) h r :=
  Ev.icc hd hp (fun q => h2 (by simpa [if_icmp.holds] using q)) (fun q => h1 (by simpa [if_icmp.holds] using q))
theorem Ev.icgt {x y : Int32} {o : Int} {t : Nat} (hd : decode (mB M) pc = .ok (.if_icmp .gt o, 3)) (hp : (pc : Int) + o = (t : Int)) (h1 : y < x → Ev G M t L S h r) (h2 : ¬ y < x → Ev G M (pc + 3) L S h r) : Ev G M pc L (.int y :: .int x :: S) h r :=
  Ev.icc hd hp (fun q => h1 (by simpa [if_icmp.holds] using q)) (fun q => h2 (by simpa [if_icmp.holds] using q))
theorem Ev.icle {x y : Int32} {o : Int} {t : Nat} (hd : decode (mB M) pc = .ok (.if_icmp .le o, 3)) (hp : (pc : Int) + o = (t : Int)) (h1 : y < x → Ev G M (pc + 3) L S h r) (h2 : ¬ y < x → Ev G M t L S h r) : Ev G M pc L (.int y :: .int x :: S) h r :=
  Ev.icc hd hp (fun q => h2 (by simpa [if_icmp.holds] using q)) (fun q => h1 (by simpa [if_icmp.holds] using q))
theorem Ev.iceq {x y : Int32} {o : Int} {t : Nat} (hd : decode (mB M) pc = .ok (.if_icmp .eq o, 3)) (hp : (pc : Int) + o = (t : Int)) (h1 : x = y → Ev G M t L S h r) (h2 : ¬ x = y → Ev G M (pc + 3) L S h r) : Ev G M pc L (.int y :: .int x :: S) h r :=
  Ev.icc hd hp (fun q => h1 (by simpa [if_icmp.holds] using q)) (fun q => h2 (by simpa [if_icmp.holds] using q))
theorem Ev.icne {x y : Int32} {o : Int} {t : Nat} (hd : decode (mB M) pc = .ok (.if_icmp .ne o, 3)) (hp : (pc : Int) + o = (t : Int)) (h1 : x = y → Ev G M (pc + 3) L S h r) (h2 : ¬ x = y → Ev G M t L S h r) : Ev G M pc L (.int y :: .int x :: S) h r :=
  Ev.icc hd hp (fun q => h2 (by simpa [if_icmp.holds] using q)) (fun q => h1 (by simpa [if_icmp.holds] using q))
theorem Ev.iflt {x : Int32} {o : Int} {t : Nat} (hd : decode (mB M) pc = .ok (.ifCond .lt o, 3)) (hp : (pc : Int) + o = (t : Int)) (h1 : x < 0 → Ev G M t L S h r) (h2 : ¬ x < 0 → Ev G M (pc + 3) L S h r) : Ev G M pc L (.int x :: S) h r :=
  Ev.ifc hd hp (fun q => h1 (by simpa [ifCond.holds] using q)) (fun q => h2 (by simpa [ifCond.holds] using q))
theorem Ev.ifge {x : Int32} {o : Int} {t : Nat} (hd : decode (mB M) pc = .ok (.ifCond .ge o, 3)) (hp : (pc : Int) + o = (t : Int)) (h1 : x < 0 → Ev G M (pc + 3) L S h r) (h2 : ¬ x < 0 → Ev G M t L S h r) : Ev G M pc L (.int x :: S) h r :=
  Ev.ifc hd hp (fun q => h2 (by simpa [ifCond.holds] using q)) (fun q => h1 (by simpa [ifCond.holds] using q))
theorem Ev.ifgt {x : Int32} {o : Int} {t : Nat} (hd : decode (mB M) pc = .ok (.ifCond .gt o, 3)) (hp : (pc : Int) + o = (t : Int)) (h1 : 0 < x → Ev G M t L S h r) (h2 : ¬ 0 < x → Ev G M (pc + 3) L S h r) : Ev G M pc L (.int x :: S) h r :=
  Ev.ifc hd hp (fun q => h1 (by simpa [ifCond.holds] using q)) (fun q => h2 (by simpa [ifCond.holds] using q))
theorem Ev.ifle {x : Int32} {o : Int} {t : Nat} (hd : decode (mB M) pc = .ok (.ifCond .le o, 3)) (hp : (pc : Int) + o = (t : Int)) (h1 : 0 < x → Ev G M (pc + 3) L S h r) (h2 : ¬ 0 < x → Ev G M t L S h r) : Ev G M pc L (.int x :: S) h r :=
  Ev.ifc hd hp (fun q => h2 (by simpa [ifCond.holds] using q)) (fun q => h1 (by simpa [ifCond.holds] using q))
theorem Ev.ifeq {x : Int32} {o : Int} {t : Nat} (hd : decode (mB M) pc = .ok (.ifCond .eq o, 3)) (hp : (pc : Int) + o = (t : Int)) (h1 : x = 0 → Ev G M t L S h r) (h2 : ¬ x = 0 → Ev G M (pc + 3) L S h r) : Ev G M pc L (.int x :: S) h r :=
  Ev.ifc hd hp (fun q => h1 (by simpa [ifCond.holds] using q)) (fun q => h2 (by simpa [ifCond.holds] using q))
theorem Ev.ifne {x : Int32} {o : Int} {t : Nat} (hd : decode (mB M) pc = .ok (.ifCond .ne o, 3)) (hp : (pc : Int) + o = (t : Int)) (h1 : x = 0 → Ev G M (pc + 3) L S h r) (h2 : ¬ x = 0 → Ev G M t L S h r) : Ev G M pc L (.int x :: S) h r :=
  Ev.ifc hd hp (fun q => h2 (by simpa [ifCond.holds] using q)) (fun q => h1 (by simpa [ifCond.holds] using q))
theorem Ev.tswIn {x : Int32} {dflt low high : Int} {offs : Array Int} {len t : Nat} {o : Int} (hd : decode (mB M) pc = .ok (.tableswitch dflt low high offs, len)) (hin : ¬ (x.toInt < low ∨ x.toInt > high)) (ho : offs[(x.toInt - low).toNat]? = some o) (hp : (pc : Int) + o = (t : Int)) (hn : Ev G M t L S h r) : Ev G M pc L (.int x :: S) h r :=
  Ev.pure rfl hn fun {_ _ _ _ m _ _ _ _ _ _ _ _} X hx hZ hown hby target q => XS.tswIn (g := mkF m pc (arL G L) (List.map (tr G) (Value.int x :: S))) X.here hx rfl rfl (hb hby hd) rfl hin ho (by rw [hp]; exact Int.natCast_nonneg t) (by rw [hp]; rfl) q
theorem Ev.tswOut {x : Int32} {dflt low high : Int} {offs : Array Int} {len t : Nat} (hd : decode (mB M) pc = .ok (.tableswitch dflt low high offs, len)) (hout : x.toInt < low ∨ x.toInt > high) (hp : (pc : Int) + dflt = (t : Int)) (hn : Ev G M t L S h r) : Ev G M pc L (.int x :: S) h r :=
  Ev.pure rfl hn fun {_ _ _ _ m _ _ _ _ _ _ _ _} X hx hZ hown hby target q => XS.tswOut (g := mkF m pc (arL G L) (List.map (tr G) (Value.int x :: S))) X.here hx rfl rfl (hb hby hd) rfl hout (by rw [hp]; exact Int.natCast_nonneg t) (by rw [hp]; rfl) q
/-! ### fields -/
theorem Ev.getfield {idx j i : Nat} {n d : String} {ty : FieldType} {fs : List Value} {v : Value} (w : (Jvm.Cond.fieldLink (mN M).cls idx (gC G) n d).before (gA G) (gZ G) = true) (hd : decode (mB M) pc = .ok (.getfield idx, 3))
    (hF : (gF G)[j]? = some (n, d, ty)) (hi : h[i]? = some (.inl fs)) (hv : fs[j]? = some v) (hn : Ev G M (pc + 3) L (v :: S) h r) : Ev G M pc L (.ref i :: S) h r := by
  refine Ev.same rfl hn ?_
  intro p e R s m args below meth c T locs cells slots X hx hZ hown hby hml hLm hfr hlo hR
  obtain ⟨-, -, h3⟩ := hR.2.2.2 i _ hi
  obtain ⟨T', X', e', st⟩ := getF X hx hZ hown (host := "") (Or.inl w) Via.refl rfl (h3 j n d ty v hF hv) (g := mkF m pc (arL G L) ((Value.ref i :: S).map (tr G))) rfl rfl (hb hby hd)
  exact ⟨T', X', e', st⟩
def mput : FieldType → Value → Option Value
  | .int, .int z => some (.int z)
  | .boolean, .int z => some (.int (z &&& 1))
  | .array _, .ref a => some (.ref a)
  | _, _ => none
theorem mput_spec {G : Ctx} {ty : FieldType} {v v' : Value} (h : mput ty v = some v') : narrow ty (tr G v) = tr G v' ∧ fits ty (tr G v') = true := by
  unfold mput at h
  split at h
  · cases h; exact ⟨rfl, rfl⟩
  · cases h; exact ⟨rfl, fits_nar_bool _⟩
  · cases h; exact ⟨rfl, rfl⟩
  · cases h
theorem Ev.putfield {idx j i : Nat} {n d : String} {ty : FieldType} {fs : List Value} {v v' : Value} (K : GOk G) (w : (Jvm.Cond.fieldLink (mN M).cls idx (gC G) n d).before (gA G) (gZ G) = true)
    (wl : (Jvm.Cond.lays (gC G) (gC G) n d).before (gA G) (gZ G) = true ∨ ((Jvm.Cond.laysFinal (gC G) (gC G) n d).before (gA G) (gZ G) = true ∧ (mN M).cls = gC G ∧ (mN M).name = "<init>"))
    (hd : decode (mB M) pc = .ok (.putfield idx, 3)) (hF : (gF G)[j]? = some (n, d, ty)) (hk : k0 G ≤ i) (hi : h[i]? = some (.inl fs)) (hp : mput ty v = some v') (hn : Ev G M (pc + 3) L S (h.set i (.inl (fs.set j v'))) r) : Ev G M pc L (v :: .ref i :: S) h r := by
  have hs := hsl_set (gK G) h i (.inl fs) (.inl (fs.set j v')) hi rfl
  refine Ev.gen (by rw [List.length_set]; exact Nat.le_refl _) (by rw [hs]; exact Nat.le_refl _) rfl hn ?_
  intro p e R s m args below meth c T locs cells slots X hx hZ hown hby hml hnm hLm hfr hlo hsz hR hFr hc hsq
  obtain ⟨e1, e2, e3⟩ := hR.2.2.2 i _ hi
  obtain ⟨q1, q2⟩ := mput_spec (G := G) hp
  have hlt : j < fs.length := by rw [e2]; exact (List.getElem?_eq_some_iff.mp hF).1
  have F := e3 j n d ty _ hF (List.getElem?_eq_getElem hlt)
  obtain ⟨T', h', X', eT', W, st⟩ := putFN X hx hZ hown w Via.refl rfl F e1 (wl.imp id fun ⟨a, b, c⟩ => ⟨a, b, by rw [hnm]; exact c⟩) K.2.2.1 (K.1 j n d ty hF).2 q1 q2 (g := mkF m pc (arL G L) ((v :: Value.ref i :: S).map (tr G))) rfl rfl (hb hby hd)
  refine ⟨T', _, ?_, ?_, Fr.snoc X' hFr (rho_ge hk), st⟩
  · rw [hs, List.length_set, Nat.sub_self, Nat.sub_self, Nat.add_zero, Nat.add_zero]; exact X'
  · rw [eT']; exact hR.wrFld K hi hF W
/-! ### arrays -/
theorem get_arr {xs : List Int32} {c : Cell} (hs : c.slots = (xs.map Value.int).toArray) (k : Nat) : c.slots[k]? = (xs[k]?).map Value.int := by rw [hs]; simp
theorem arr_size {xs : List Int32} {c : Cell} (hs : c.slots = (xs.map Value.int).toArray) : c.slots.size = xs.length := by rw [hs]; simp
theorem Ev.arraylength {i : Nat} {b : Bool} {xs : List Int32} (hd : decode (mB M) pc = .ok (.arraylength, 1)) (hi : h[i]? = some (.inr (b, xs))) (hn : Ev G M (pc + 1) L (.int xs.length.toInt32 :: S) h r) : Ev G M pc L (.ref i :: S) h r := by
  refine Ev.same rfl hn ?_
  intro p e R s m args below meth c T locs cells slots X hx hZ hown hby hml hLm hfr hlo hR
  obtain ⟨cl, A, hs⟩ := hR.2.2.2 i _ hi
  refine ⟨T, X, rfl, fun target k => X.arraylength hx A.1 (State.isArrayOf_alike hZ.alike A.2.1) (g := mkF m pc (arL G L) ((Value.ref i :: S).map (tr G))) rfl rfl (hb hby hd) target ?_⟩
  rw [arr_size hs]; exact k
theorem Ev.iaload {i : Nat} {xs : List Int32} {j v : Int32} (hd : decode (mB M) pc = .ok (.iaload, 1)) (hi : h[i]? = some (.inr (false, xs))) (hj : ¬ j < 0) (hv : xs[j.toNatClampNeg]? = some v) (hn : Ev G M (pc + 1) L (.int v :: S) h r) : Ev G M pc L (.int j :: .ref i :: S) h r := by
  refine Ev.same rfl hn ?_
  intro p e R s m args below meth c T locs cells slots X hx hZ hown hby hml hLm hfr hlo hR
  obtain ⟨cl, A, hs⟩ := hR.2.2.2 i _ hi
  have hlt := (List.getElem?_eq_some_iff.mp hv).1
  exact ⟨T, X, rfl, fun target k => X.iaload hx A.1 (State.isArrayOf_alike hZ.alike A.2.1) A.2.2 (fun q => q.elim hj fun q => absurd (arr_size hs ▸ q) (Nat.not_le.mpr hlt)) (by rw [get_arr hs, hv]; rfl) (g := mkF m pc (arL G L) ((Value.int j :: Value.ref i :: S).map (tr G))) rfl rfl (hb hby hd) target k⟩
theorem Ev.baload {i : Nat} {xs : List Int32} {j v : Int32} (hd : decode (mB M) pc = .ok (.baload, 1)) (hi : h[i]? = some (.inr (true, xs))) (hj : ¬ j < 0) (hv : xs[j.toNatClampNeg]? = some v) (hn : Ev G M (pc + 1) L (.int v :: S) h r) : Ev G M pc L (.int j :: .ref i :: S) h r := by
  refine Ev.same rfl hn ?_
  intro p e R s m args below meth c T locs cells slots X hx hZ hown hby hml hLm hfr hlo hR
  obtain ⟨cl, A, hs⟩ := hR.2.2.2 i _ hi
  have hlt := (List.getElem?_eq_some_iff.mp hv).1
  exact ⟨T, X, rfl, fun target k => X.baloadBooleans hx A.1 (State.isArrayOf_alike hZ.alike A.2.1) A.2.2 (fun q => q.elim hj fun q => absurd (arr_size hs ▸ q) (Nat.not_le.mpr hlt)) (by rw [get_arr hs, hv]; rfl) (g := mkF m pc (arL G L) ((Value.int j :: Value.ref i :: S).map (tr G))) rfl rfl (hb hby hd) target k⟩
theorem Ev.iastore {i : Nat} {xs : List Int32} {j v : Int32} (hd : decode (mB M) pc = .ok (.iastore, 1)) (hk : k0 G ≤ i) (hi : h[i]? = some (.inr (false, xs))) (hj : ¬ j < 0) (hlt : j.toNatClampNeg < xs.length) (hn : Ev G M (pc + 1) L S (h.set i (.inr (false, xs.set j.toNatClampNeg v))) r) : Ev G M pc L (.int v :: .int j :: .ref i :: S) h r := by
  have hs := hsl_set (gK G) h i (.inr (false, xs)) (.inr (false, xs.set j.toNatClampNeg v)) hi (by simp [csl])
  refine Ev.gen (by rw [List.length_set]; exact Nat.le_refl _) (by rw [hs]; exact Nat.le_refl _) rfl hn ?_
  intro p e R s m args below meth c T locs cells slots X hx hZ hown hby hml hnm hLm hfr hlo hsz hR hFr hc hsq
  obtain ⟨cl, A, hsz'⟩ := hR.2.2.2 i _ hi
  obtain ⟨T', h', X', eT', W, st⟩ := stI X hx hZ rfl A (j := j) (x := v) (fun q => q.elim hj fun q => absurd (arr_size hsz' ▸ q) (Nat.not_le.mpr hlt)) (g := mkF m pc (arL G L) ((Value.int v :: Value.int j :: Value.ref i :: S).map (tr G))) rfl rfl (hb hby hd)
  refine ⟨T', _, ?_, ?_, Fr.snoc X' hFr (rho_ge hk), st⟩
  · rw [hs, List.length_set, Nat.sub_self, Nat.sub_self, Nat.add_zero, Nat.add_zero]; exact X'
  · rw [eT']; exact hR.wrArr hi W
theorem Ev.bastore {i : Nat} {xs : List Int32} {j v : Int32} (hd : decode (mB M) pc = .ok (.bastore, 1)) (hk : k0 G ≤ i) (hi : h[i]? = some (.inr (true, xs))) (hj : ¬ j < 0) (hlt : j.toNatClampNeg < xs.length) (hn : Ev G M (pc + 1) L S (h.set i (.inr (true, xs.set j.toNatClampNeg (v &&& 1)))) r) : Ev G M pc L (.int v :: .int j :: .ref i :: S) h r := by
  have hs := hsl_set (gK G) h i (.inr (true, xs)) (.inr (true, xs.set j.toNatClampNeg (v &&& 1))) hi (by simp [csl])
  refine Ev.gen (by rw [List.length_set]; exact Nat.le_refl _) (by rw [hs]; exact Nat.le_refl _) rfl hn ?_
  intro p e R s m args below meth c T locs cells slots X hx hZ hown hby hml hnm hLm hfr hlo hsz hR hFr hc hsq
  obtain ⟨cl, A, hsz'⟩ := hR.2.2.2 i _ hi
  obtain ⟨T', h', X', eT', W, st⟩ := stZ X hx hZ rfl A (j := j) (x := v) (fun q => q.elim hj fun q => absurd (arr_size hsz' ▸ q) (Nat.not_le.mpr hlt)) (g := mkF m pc (arL G L) ((Value.int v :: Value.int j :: Value.ref i :: S).map (tr G))) rfl rfl (hb hby hd)
  refine ⟨T', _, ?_, ?_, Fr.snoc X' hFr (rho_ge hk), st⟩
  · rw [hs, List.length_set, Nat.sub_self, Nat.sub_self, Nat.add_zero, Nat.add_zero]; exact X'
  · rw [eT']; exact hR.wrArr hi W
/-! ### making -/
theorem Ev.new {idx : Nat} {fs : List Value} (K : GOk G) (w : (Jvm.Cond.classLink (mN M).cls idx (gC G)).before (gA G) (gZ G) = true) (hd : decode (mB M) pc = .ok (.new idx, 3)) (hf : fs = (gF G).map fun f => defaultValue f.2.2)
    (hn : Ev G M (pc + 3) L (.ref h.length :: S) (h ++ [.inl fs]) r) : Ev G M pc L S h r := by
  subst hf
  have hs := hsl_push (gK G) h (.inl ((gF G).map fun f => defaultValue f.2.2))
  refine Ev.gen (by simp) (by rw [hs]; exact Nat.le_add_right _ _) rfl hn ?_
  intro p e R s m args below meth c T locs cells slots X hx hZ hown hby hml hnm hLm hfr hlo hsz hR hFr hc hsq
  have el : (h ++ [(.inl ((gF G).map fun f => defaultValue f.2.2) : MCell)]).length - h.length = 1 := by simp
  have es : hsl (gK G) (h ++ [.inl ((gF G).map fun f => defaultValue f.2.2)]) - hsl (gK G) h = gK G := by rw [hs]; simp [csl]
  rw [el] at hc
  rw [es] at hsq
  obtain ⟨T', h', X', eT', E, A, D, -, st⟩ := newO X hx hZ hown w K.2.2.1 K.2.2.2 rfl (g := mkF m pc (arL G L) (S.map (tr G))) rfl (hb hby hd) hc hsq
  rw [el, es]
  have hrho : rho G h.length = T.heap.size := by rw [rho_new hR.2.1]; have := hR.1; have := hR.2.1; omega
  refine ⟨T', _, X', ?_, hFr, fun target k => st target ?_⟩
  · rw [eT']
    refine hR.push E ?_ ⟨A, by simp, fun j n d ty v hf hv => ?_⟩
    · have h1 := X'.heapSize
      have h2 : T.heap.size < h'.size := A.lt
      rw [eT'] at h1
      omega
    · rw [List.getElem?_map, hf] at hv
      cases hv
      have := D (K.1 j n d ty hf).1 (K.1 j n d ty hf).2
      have e : tr G (defaultValue ty) = defaultValue ty := by cases ty <;> rfl
      rw [e]; exact this
  · rw [← hrho]; exact k
theorem Ev.newarray {aty : ArrayType} {b : Bool} {n : Int32} {k : Nat} (w : (Jvm.Cond.arrayClass (newarray.typeOf aty)).before (gA G) (gZ G) = true) (hb' : newarray.typeOf aty = kd b) (hd : decode (mB M) pc = .ok (.newarray aty, 2)) (hn0 : ¬ n < 0) (hk : n.toNatClampNeg = k) (hcap : k ≤ 67108864)
    (hn : Ev G M (pc + 2) L (.ref h.length :: S) (h ++ [.inr (b, List.replicate k 0)]) r) : Ev G M pc L (.int n :: S) h r := by
  subst hk
  have hs := hsl_push (gK G) h (.inr (b, List.replicate n.toNatClampNeg 0))
  refine Ev.gen (by simp) (by rw [hs]; exact Nat.le_add_right _ _) rfl hn ?_
  intro p e R s m args below meth c T locs cells slots X hx hZ hown hby hml hnm hLm hfr hlo hsz hR hFr hc hsq
  have el : (h ++ [(.inr (b, List.replicate n.toNatClampNeg 0) : MCell)]).length - h.length = 1 := by simp
  have es : hsl (gK G) (h ++ [.inr (b, List.replicate n.toNatClampNeg 0)]) - hsl (gK G) h = n.toNatClampNeg := by rw [hs]; simp [csl]
  rw [el] at hc
  rw [es] at hsq
  obtain ⟨T', h', cA, X', eT', E, A, st⟩ := newP X hx hZ w rfl (g := mkF m pc (arL G L) ((Value.int n :: S).map (tr G))) rfl (hb hby hd) rfl hn0 (cap := n.toNatClampNeg) (Nat.le_refl _) (by omega) hc hsq
  rw [el, es]
  have hrho : rho G h.length = T.heap.size := by rw [rho_new hR.2.1]; have := hR.1; have := hR.2.1; omega
  refine ⟨T', _, X', ?_, hFr, fun target k => st target ?_⟩
  · rw [eT']
    refine hR.push E ?_ ⟨_, hb' ▸ A, ?_⟩
    · have h1 := X'.heapSize
      have h2 : T.heap.size < h'.size := A.lt
      rw [eT'] at h1
      omega
    · have e0 : defaultValue (kd b) = .int 0 := by cases b <;> rfl
      show Array.replicate n.toNatClampNeg (defaultValue (kd b)) = _
      rw [e0]
      simp
  · rw [← hrho]; exact k
theorem Ev.initO {idx i : Nat} (w1 : (Jvm.Cond.methodLink (mN M).cls idx Lib.objectInit).before (gA G) (gZ G) = true) (w2 : (Jvm.Cond.instanceMethod Lib.objectInit).before (gA G) (gZ G) = true) (w3 : (Jvm.Cond.code Lib.objectInit ⟨#[0xb1]⟩ 1 none).before (gA G) (gZ G) = true)
    (hd : decode (mB M) pc = .ok (.invokespecial idx, 3)) (hf : 1 ≤ mF M) (hl : (S.map fun v => v.category).sum + 12 ≤ mW M) (hn : Ev G M (pc + 3) L S h r) : Ev G M pc L (.ref i :: S) h r := by
  refine Ev.same rfl hn ?_
  intro p e R s m args below meth c T locs cells slots X hx hZ hown hby hml hLm hfr hlo hR
  obtain ⟨T', X', e', st⟩ := RoadKit.initO X hx hZ hown w1 w2 w3 rfl (g := mkF m pc (arL G L) ((Value.ref i :: S).map (tr G))) rfl (by rw [hml, ← hLm]; simp [arL]) (a := rho G i) (rest := S.map (tr G)) rfl (hb hby hd) (Nat.le_trans hf hfr) (W := (S.map fun v => v.category).sum) (by rw [tr_cats]; show 2 * 0 + _ ≤ _; omega) (by omega)
  exact ⟨T', X', e', st⟩
/-! ### calls -/
def notMH (y : Mi) : Prop := (mN y).cls ≠ "java/lang/invoke/MethodHandle" ∧ (mN y).cls ≠ "java/lang/invoke/VarHandle"
theorem mapRev (G : Ctx) (args : List Value) : (args.reverse).map (tr G) = (args.map (tr G)).reverse := by simp
theorem vList (G : Ctx) (v : Option Value) (S : List Value) : (v.map (tr G)).toList ++ S.map (tr G) = (v.toList ++ S).map (tr G) := by cases v <;> simp
theorem back_of_evc {p : Program} {e : Env} {R : Room} {s : State} {args0 : Array Value} {below : List Frame} {y : Mi} {args : List Value} {r1 : Option Value × MHeap} {hr : Heap} {W : Nat} (hC : EvC G y args h r1) (hR : Rel G hr h) (hZ : (gZ G).Warmed39 s.vm)
    (wc : (Jvm.Cond.code (mN y) (mB y) (mL y) (mR y)).before (gA G) (gZ G) = true) (wz : (Jvm.Cond.initialized (mN y).cls).before (gA G) (gZ G) = true) (hf : mF y + 1 ≤ R.frames) (hl : W + (mL y + 11) + mW y ≤ R.locals) :
    Back (gL G) R p e below s args0 (mN y) 3 W (fun A a => a = (args.map (tr G)).toArray ∧ A.U.heap = hr ∧ A.cells + (r1.2.length - h.length) ≤ R.cells ∧ A.slots + (hsl (gK G) r1.2 - hsl (gK G) h) ≤ R.slots)
      (fun A _ v B => ∃ L, (v = r1.1.map (tr G) ∧ Fr (gN G) L ∧ Rel G B.U.heap r1.2) ∧ B.locs = A.locs ++ L ∧ B.cells = A.cells + (r1.2.length - h.length) ∧ B.slots = A.slots + (hsl (gK G) r1.2 - hsl (gK G) h)) :=
  backOf (Q := fun v hp L => v = r1.1.map (tr G) ∧ Fr (gN G) L ∧ Rel G hp r1.2) (rm := { frames := mF y, cells := r1.2.length - h.length, slots := hsl (gK G) r1.2 - hsl (gK G) h, locals := mW y })
    (hC.2 [] { frames := mF y, cells := r1.2.length - h.length, slots := hsl (gK G) r1.2 - hsl (gK G) h, locals := mW y } hr (Nat.le_refl _) (Nat.le_refl _) (Nat.le_refl _) (Nat.le_refl _) hR) hZ wc wz hf hl
/-- a private method of the class -/
theorem Ev.priv {y : Mi} {idx i : Nat} {args rest : List Value} {v : Option Value} {h1 : MHeap} {fs : List Value} (K : GOk G) (hcls : (mN y).cls = gC G) (hy : notMH y)
    (wl : (Jvm.Cond.methodLink (mN M).cls idx (mN y)).before (gA G) (gZ G) = true) (wi : (Jvm.Cond.instanceMethod (mN y)).before (gA G) (gZ G) = true) (wp : (Jvm.Cond.privateMethod (mN y)).before (gA G) (gZ G) = true)
    (wc : (Jvm.Cond.code (mN y) (mB y) (mL y) (mR y)).before (gA G) (gZ G) = true) (hlen : ∀ sig, parseMethodDescriptor (mN y).desc = some sig → args.length = sig.parameters.length)
    (hd : decode (mB M) pc = .ok (.invokevirtual idx, 3)) (hi : h[i]? = some (.inl fs)) (hC : EvC G y (.ref i :: args) h (v, h1)) (hfr : mF y + 1 ≤ mF M) (hlo : (rest.map fun v => v.category).sum + (mL y + 11) + mW y ≤ mW M)
    (hS : S = args.reverse ++ .ref i :: rest) (hn : Ev G M (pc + 3) L (v.toList ++ rest) h1 r) : Ev G M pc L S h r := by
  subst hS
  refine Ev.gen hC.1.1 hC.1.2 rfl hn ?_
  intro p e R s m args0 below meth c T locs cells slots X hx hZ hown hby hml hnm hLm hfr' hlo' hsz hR hFr hc hsq
  obtain ⟨e1, -, -⟩ := hR.2.2.2 i _ hi
  obtain ⟨cell, hcell, hobj⟩ := e1.cell
  have hwi : (Jvm.Cond.instanceMethod (mN y)).before args0 s = true := mvT hZ wi
  have hpr := Jvm.Cond.privateMethod_at (mvP hZ wp (args := #[]))
  have hsel : (Jvm.Cond.selects (mN y).cls (mN y) (mN y)).before args0 s = true := by
    obtain ⟨c0, k0', q1, q2, -, q4, -⟩ := Jvm.Cond.instantiable_spec (mvT hZ K.2.2.1 (args := #[]) (s := s))
    refine selects_self_of_private (c := c0) (k := k0') (by rw [hcls]; exact q1) q2 ?_ hpr hwi hy
    simp only [Bool.or_eq_false_iff] at q4
    exact q4.1
  obtain ⟨v', vm1, ⟨T', L', k', n'⟩, -, X', ⟨Lc, ⟨rfl, hF', hR'⟩, l1, l2, l3⟩, st⟩ := X.privateBack hx (y := mN y) hown (mvT hZ wl) hwi hsel hpr (mvT hZ wc) hy
    (back_of_evc (W := (rest.map fun v => v.category).sum) hC hR hZ wc (hcls ▸ K.2.2.2) (Nat.le_trans hfr hfr') (Nat.le_trans hlo hlo')) (g := mkF m pc (arL G L) ((args.reverse ++ Value.ref i :: rest).map (tr G))) rfl (by rw [hml, ← hLm]; simp [arL]) (Steps.refl _) hcell hobj
    (argsL := args.map (tr G)) (rest := rest.map (tr G)) (fun sig hsig => by rw [List.length_map]; exact hlen sig hsig) (by simp [tr]) (by rw [tr_cats]; show 2 * 0 + _ ≤ _; omega) (hb hby hd) (fun vm1 hW1 => ⟨rfl, rfl, hc, hsq⟩)
  dsimp only [Pt.U, Pt.locs, Pt.cells, Pt.slots] at X' l1 l2 l3 st hR'
  subst l1 l2 l3
  refine ⟨T', _, X', hR', hFr.app hF', fun target k => st.trans ?_⟩
  rw [vList]
  exact k
/-- a method of the class that no one overrides -/
theorem Ev.virt {y : Mi} {idx i : Nat} {args rest : List Value} {v : Option Value} {h1 : MHeap} {fs : List Value} (K : GOk G) (hcls : (mN y).cls = gC G) (hy : notMH y)
    (wl : (Jvm.Cond.methodLink (mN M).cls idx (mN y)).before (gA G) (gZ G) = true) (wd : (Jvm.Cond.declares (mN y)).before (gA G) (gZ G) = true) (wi : (Jvm.Cond.instanceMethod (mN y)).before (gA G) (gZ G) = true) (ws : (Jvm.Cond.selects (gC G) (mN y) (mN y)).before (gA G) (gZ G) = true)
    (wc : (Jvm.Cond.code (mN y) (mB y) (mL y) (mR y)).before (gA G) (gZ G) = true) (hlen : ∀ sig, parseMethodDescriptor (mN y).desc = some sig → args.length = sig.parameters.length)
    (hd : decode (mB M) pc = .ok (.invokevirtual idx, 3)) (hi : h[i]? = some (.inl fs)) (hC : EvC G y (.ref i :: args) h (v, h1)) (hfr : mF y + 1 ≤ mF M) (hlo : (rest.map fun v => v.category).sum + (mL y + 11) + mW y ≤ mW M)
    (hS : S = args.reverse ++ .ref i :: rest) (hn : Ev G M (pc + 3) L (v.toList ++ rest) h1 r) : Ev G M pc L S h r := by
  subst hS
  refine Ev.gen hC.1.1 hC.1.2 rfl hn ?_
  intro p e R s m args0 below meth c T locs cells slots X hx hZ hown hby hml hnm hLm hfr' hlo' hsz hR hFr hc hsq
  obtain ⟨e1, -, -⟩ := hR.2.2.2 i _ hi
  obtain ⟨cq, kq, qa, qb, qc⟩ := isOf (T := T) hZ rfl e1
  obtain ⟨v', vm1, ⟨T', L', k', n'⟩, -, X', ⟨Lc, ⟨rfl, hF', hR'⟩, l1, l2, l3⟩, st⟩ := X.virtualBack hx (y := mN y) (z := mN y) hown (mvT hZ wl) (mvT hZ wd) (notFace_of_selects (args := #[]) (mvT hZ ws)) (mvT hZ ws) (mvT hZ wi) hy
    (back_of_evc (W := (rest.map fun v => v.category).sum) hC hR hZ wc (hcls ▸ K.2.2.2) (Nat.le_trans hfr hfr') (Nat.le_trans hlo hlo')) qa qc (g := mkF m pc (arL G L) ((args.reverse ++ Value.ref i :: rest).map (tr G))) rfl (by rw [hml, ← hLm]; simp [arL]) (Steps.refl _)
    (argsL := args.map (tr G)) (rest := rest.map (tr G)) (fun sig hsig => by rw [List.length_map]; exact hlen sig hsig) (by simp [tr]) (by rw [tr_cats]; show 2 * 0 + _ ≤ _; omega) (hb hby hd) (fun vm1 hW1 => ⟨rfl, rfl, hc, hsq⟩)
  dsimp only [Pt.U, Pt.locs, Pt.cells, Pt.slots] at X' l1 l2 l3 st hR'
  subst l1 l2 l3
  refine ⟨T', _, X', hR', hFr.app hF', fun target k => st.trans ?_⟩
  rw [vList]
  exact k
/-- a constructor -/
theorem Ev.ctor {y : Mi} {idx i : Nat} {args rest : List Value} {v : Option Value} {h1 : MHeap} (hy1 : (mN y).name = "<init>") (hret : mR y = none) (hy : notMH y)
    (wl : (Jvm.Cond.methodLink (mN M).cls idx (mN y)).before (gA G) (gZ G) = true) (wi : (Jvm.Cond.instanceMethod (mN y)).before (gA G) (gZ G) = true)
    (wc : (Jvm.Cond.code (mN y) (mB y) (mL y) (mR y)).before (gA G) (gZ G) = true) (wz : (Jvm.Cond.initialized (mN y).cls).before (gA G) (gZ G) = true) (hlen : ∀ sig, parseMethodDescriptor (mN y).desc = some sig → args.length = sig.parameters.length)
    (hd : decode (mB M) pc = .ok (.invokespecial idx, 3)) (hC : EvC G y (.ref i :: args) h (v, h1)) (hfr : mF y + 1 ≤ mF M) (hlo : (rest.map fun v => v.category).sum + (mL y + 11) + mW y ≤ mW M)
    (hS : S = args.reverse ++ .ref i :: rest) (hn : Ev G M (pc + 3) L (v.toList ++ rest) h1 r) : Ev G M pc L S h r := by
  subst hS
  refine Ev.gen hC.1.1 hC.1.2 rfl hn ?_
  intro p e R s m args0 below meth c T locs cells slots X hx hZ hown hby hml hnm hLm hfr' hlo' hsz hR hFr hc hsq
  obtain ⟨v', vm1, ⟨T', L', k', n'⟩, -, X', ⟨Lc, ⟨rfl, hF', hR'⟩, l1, l2, l3⟩, st⟩ := X.specialBack hx (y := mN y) hy1 hown (mvT hZ wl) (mvT hZ wi) (mvT hZ (hret ▸ wc)) hy
    (back_of_evc (W := (rest.map fun v => v.category).sum) hC hR hZ wc wz (Nat.le_trans hfr hfr') (Nat.le_trans hlo hlo')) (g := mkF m pc (arL G L) ((args.reverse ++ Value.ref i :: rest).map (tr G))) rfl (by rw [hml, ← hLm]; simp [arL]) (Steps.refl _)
    (a := rho G i) (argsL := args.map (tr G)) (rest := rest.map (tr G)) (fun sig hsig => by rw [List.length_map]; exact hlen sig hsig) (by simp [tr]) (by rw [tr_cats]; show 2 * 0 + _ ≤ _; omega) (hb hby hd) (fun vm1 hW1 => ⟨rfl, rfl, hc, hsq⟩)
  dsimp only [Pt.U, Pt.locs, Pt.cells, Pt.slots] at X' l1 l2 l3 st hR'
  subst l1 l2 l3
  refine ⟨T', _, X', hR', hFr.app hF', fun target k => st.trans ?_⟩
  rw [vList]
  exact k
/-- a static method -/
theorem Ev.stat {y : Mi} {idx : Nat} {args rest : List Value} {v : Option Value} {h1 : MHeap} (hy : notMH y)
    (wl : (Jvm.Cond.methodLink (mN M).cls idx (mN y)).before (gA G) (gZ G) = true) (wst : (Jvm.Cond.static (mN y)).before (gA G) (gZ G) = true) (wz : (Jvm.Cond.initialized (mN y).cls).before (gA G) (gZ G) = true)
    (wc : (Jvm.Cond.code (mN y) (mB y) (mL y) (mR y)).before (gA G) (gZ G) = true) (hlen : ∀ sig, parseMethodDescriptor (mN y).desc = some sig → args.length = sig.parameters.length)
    (hd : decode (mB M) pc = .ok (.invokestatic idx, 3)) (hC : EvC G y args h (v, h1)) (hfr : mF y + 1 ≤ mF M) (hlo : (rest.map fun v => v.category).sum + (mL y + 11) + mW y ≤ mW M)
    (hS : S = args.reverse ++ rest) (hn : Ev G M (pc + 3) L (v.toList ++ rest) h1 r) : Ev G M pc L S h r := by
  subst hS
  refine Ev.gen hC.1.1 hC.1.2 rfl hn ?_
  intro p e R s m args0 below meth c T locs cells slots X hx hZ hown hby hml hnm hLm hfr' hlo' hsz hR hFr hc hsq
  obtain ⟨v', vm1, ⟨T', L', k', n'⟩, -, X', ⟨Lc, ⟨rfl, hF', hR'⟩, l1, l2, l3⟩, st⟩ := Jvm.LawKit.callS X hx (y := mN y) hown (mvT hZ wl) (mvT hZ wst) (mvT hZ wz) (mvT hZ wc) hy
    (back_of_evc (W := (rest.map fun v => v.category).sum) hC hR hZ wc wz (Nat.le_trans hfr hfr') (Nat.le_trans hlo hlo')) (g := mkF m pc (arL G L) ((args.reverse ++ rest).map (tr G))) rfl (by rw [hml, ← hLm]; simp [arL])
    (argsL := args.map (tr G)) (rest := rest.map (tr G)) (fun sig hsig => by rw [List.length_map]; exact hlen sig hsig) (by simp) (by rw [tr_cats]; show 2 * 0 + _ ≤ _; omega) (hb hby hd) (fun vm1 hW1 => ⟨rfl, rfl, hc, hsq⟩)
  dsimp only [Pt.U, Pt.locs, Pt.cells, Pt.slots] at X' l1 l2 l3 st hR'
  subst l1 l2 l3
  refine ⟨T', _, X', hR', hFr.app hF', fun target k => st target ?_⟩
  rw [vList]
  exact k
/-! ### returns -/
theorem Ev.ret {v : Option Value} (st : ∀ {p : Program} {e : Env} {R : Room} {s : State} {m : MethodId} {args : Array Value} {below : List Frame} {meth : Method} {c : Code} {T : State} {locs : List Loc} {cells slots : Nat},
      Stand p (gL G) e R s m args below meth c T locs cells slots → p.tables.exec = Jvm.exec → c.code = mB M → meth.sig.returnType = mR M → ∀ fs,
      (∀ (f : JFrame) (acts : List Action), f.method = m → f.locked = none → f.entered = [] → (doReturn e (T.setTop f) acts (v.map (tr G))).1 = T.setFrames fs) → Steps p.tables e below (T.setTop (mkF m pc (arL G L) (S.map (tr G)))) (T.setFrames fs)) :
    Ev G M pc L S h (v, h) := by
  refine ⟨⟨Nat.le_refl _, Nat.le_refl _⟩, ?_⟩
  intro p e R s m args below meth c T locs cells slots X hx hZ hown hby hml hret hnm hLm hfr hlo hsz hR hF hc hs
  refine ⟨T, locs, ?_, hR, hF, st X hx hby hret⟩
  rw [Nat.sub_self, Nat.sub_self, Nat.add_zero, Nat.add_zero]
  exact X
theorem Ev.ireturn {z : Int32} (hret : mR M = some .int) (hd : decode (mB M) pc = .ok (.ireturn, 1)) : Ev G M pc L (.int z :: S) h (some (.int z), h) :=
  Ev.ret fun X hx hby hr fs hl => retOut X hx (hr.trans hret) rfl (Or.inl ⟨rfl, Or.inl rfl, z, rfl⟩) (hb hby hd) hl
theorem Ev.zreturn {z : Int32} (hret : mR M = some .boolean) (hd : decode (mB M) pc = .ok (.ireturn, 1)) : Ev G M pc L (.int z :: S) h (some (.int (z &&& 1)), h) :=
  Ev.ret fun X hx hby hr fs hl => retN X hx (t := .boolean) (hr.trans hret) (Or.inl rfl) (hb hby hd) hl
theorem Ev.lreturn {z : Int64} (hret : mR M = some .long) (hd : decode (mB M) pc = .ok (.lreturn, 1)) : Ev G M pc L (.long z :: S) h (some (.long z), h) :=
  Ev.ret fun X hx hby hr fs hl => retOut X hx (hr.trans hret) rfl (Or.inr (Or.inl ⟨rfl, rfl, z, rfl⟩)) (hb hby hd) hl
theorem Ev.vreturn (hret : mR M = none) (hd : decode (mB M) pc = .ok (.return_, 1)) : Ev G M pc L [] h (none, h) :=
  Ev.ret fun X hx hby hr fs hl => X.returnOut hx (hr.trans hret) (hb hby hd) hl
/-! ### entering -/
def margs : List Value → List Slot
  | [] => []
  | v :: vs => if v.category = 2 then .val v :: .second :: margs vs else .val v :: margs vs
theorem margs_fold (vs : List Value) : ∀ acc : Array Slot, vs.foldl (init := acc) (fun acc v => if v.category = 2 then (acc.push (.val v)).push .second else acc.push (.val v)) = acc ++ (margs vs).toArray := by
  induction vs with
  | nil => intro acc; simp [margs]
  | cons v vs ih =>
    intro acc
    rw [List.foldl_cons, ih]
    by_cases h : v.category = 2
    · simp [margs, h]
    · simp [margs, h]
theorem margs_map (G : Ctx) : ∀ vs : List Value, margs (vs.map (tr G)) = (margs vs).map (trS G)
  | [] => rfl
  | v :: vs => by
    have ih := margs_map G vs
    by_cases h : v.category = 2
    · simp only [List.map_cons, margs, tr_cat, h, if_true, ih]; rfl
    · simp only [List.map_cons, margs, tr_cat, h, if_false, ih]; rfl
def ment (args : List Value) (k : Nat) : List Slot := margs args ++ List.replicate (k - (margs args).length) .unset
theorem entry_eq (G : Ctx) (m : MethodId) (args : List Value) (k : Nat) : entryFrame m (args.map (tr G)).toArray k = mkF m 0 (arL G (ment args k)) [] := by
  have e : argsToLocals (args.map (tr G)).toArray k = arL G (ment args k) := by
    unfold argsToLocals arL ment
    have q := margs_fold (args.map (tr G)) #[]
    rw [List.foldl_toArray']
    · rw [q, margs_map]
      simp [trS]
    · simp
  unfold entryFrame
  rw [e]
theorem EvC.enter {y : Mi} {args : List Value} {L0 : List Slot} (hp : plainFor (mN y) = true) (hv : mR y = none → r.1 = none) (hL : ment args (mL y) = L0) (hlen : L0.length = mL y) (hn : Ev G y 0 L0 [] h r) : EvC G y args h r := by
  subst hL
  refine ⟨hn.1, fun ws R hr hf hl hc hs hR => ?_⟩
  refine MetFree.of_bodySF hp hisR ?_
  intro p e s m args' below meth c s₁ Bd hml0 hP hK
  obtain ⟨rfl, hZ, hh⟩ := hP
  have X0 : Stand p (gL G) e R s m _ below meth c s₁ [] 0 0 := Stand.of_body Bd
  have e0 : s₁.heap = hr := by rw [← hh, Bd.state]; rfl
  obtain ⟨T', locs', X', R', F', st⟩ := hn.2 p e R s m _ below meth c s₁ [] 0 0 X0 Bd.exec hZ (findClass_of_methodNamed Bd.named) Bd.bytes hml0 Bd.returns (name_of_methodNamed Bd.named Bd.method).1 hlen hf hl (by rw [e0, hh]; rfl) (by rw [e0]; exact hR) (Fr.nil _) (by omega) (by omega)
  rw [Nat.zero_add, Nat.zero_add] at X'
  obtain ⟨fs, hret, hrun, hended, hW, hsame⟩ := X'.leave (v := r.1.map (tr G)) (fun q => by rw [hv (Bd.returns.symm.trans q)]; rfl)
  refine ⟨_, _, castTop (entry_eq G m args (mL y)) (st fs hret), hrun, hended, _, _, rfl, ⟨rfl, F', ?_⟩, ⟨_, rfl⟩, hW, hsame⟩
  exact R'
end Rules
end Jvm.Own
namespace Jvm.Own
open Sem ClassFile Op Lib Jvm.Stand Jvm.Free Jvm.LawKit Jvm.RoadKit
/-! ## 4. An object as two functions: its ints by the field's number, its arrays by the field's number and the place -/
abbrev St := (Nat → Int32) × (Nat → Nat → Int32)
def setI (s : St) (j : Nat) (z : Int32) : St := (fun k => if k = j then z else s.1 k, s.2)
def setA (s : St) (j i : Nat) (z : Int32) : St := (s.1, fun k x => if k = j ∧ x = i then z else s.2 k x)
def zeroS : St := (fun _ => 0, fun _ _ => 0)
theorem setI_1 (s : St) (j : Nat) (z : Int32) (k : Nat) : (setI s j z).1 k = if k = j then z else s.1 k := rfl
theorem setI_2 (s : St) (j : Nat) (z : Int32) : (setI s j z).2 = s.2 := rfl
theorem setA_1 (s : St) (j i : Nat) (z : Int32) : (setA s j i z).1 = s.1 := rfl
theorem setA_2 (s : St) (j i : Nat) (z : Int32) (k x : Nat) : (setA s j i z).2 k x = if k = j ∧ x = i then z else s.2 k x := rfl
def ix (j : Int32) : Nat := j.toNatClampNeg
/-- the place j lies in an array of n -/
def inb (j : Int32) (n : Nat) : Prop := ¬ j < 0 ∧ ix j < n
instance (j : Int32) (n : Nat) : Decidable (inb j n) := inferInstanceAs (Decidable (_ ∧ _))
def bnd {α β : Type} (x : α) (f : α → β) : β := f x
theorem bnd_eq {α β : Type} (x : α) (f : α → β) : bnd x f = f x := rfl
def tab (n : Nat) (f : Nat → Int32) : List Int32 := (List.range n).map f
theorem tab_len (n : Nat) (f : Nat → Int32) : (tab n f).length = n := by simp [tab]
theorem tab_get {n : Nat} {f : Nat → Int32} {i : Nat} (h : i < n) : (tab n f)[i]? = some (f i) := by simp [tab, h]
theorem tab_set {n : Nat} {f : Nat → Int32} {i : Nat} {z : Int32} : (tab n f).set i z = tab n (fun x => if x = i then z else f x) := by
  apply List.ext_getElem?
  intro k
  rw [List.getElem?_set]
  by_cases h : i = k
  · subst h
    by_cases q : i < n
    · simp [tab, q]
    · simp [tab, q]
  · by_cases q : k < n
    · simp [tab, q, h, Ne.symm h]
    · simp [tab, q, h]
theorem tab_zero (n : Nat) : tab n (fun _ => 0) = List.replicate n 0 := by
  apply List.ext_getElem?
  intro k
  by_cases q : k < n <;> simp [tab, q]
theorem tab_of (xs : List Int32) : xs = tab xs.length (fun i => xs.getD i 0) := by
  apply List.ext_getElem?
  intro k
  by_cases q : k < xs.length
  · simp [tab, q]
  · simp [tab, q]
def isA : FieldType → Bool
  | .array _ => true
  | _ => false
def isB : FieldType → Bool
  | .boolean => true
  | _ => false
def fv1 (r : Nat → Nat) (s : St) (j : Nat) (f : Fd) : Value := match f.2.2 with
  | .array _ => .ref (r j)
  | _ => .int (s.1 j)
def fvA (r : Nat → Nat) (s : St) : Nat → List Fd → List Value
  | _, [] => []
  | j, f :: fs => fv1 r s j f :: fvA r s (j + 1) fs
theorem fvA_get (r : Nat → Nat) (s : St) : ∀ (F : List Fd) (k j : Nat), (fvA r s k F)[j]? = (F[j]?).map (fv1 r s (k + j))
  | [], _, _ => by simp [fvA]
  | f :: fs, k, 0 => by simp [fvA]
  | f :: fs, k, j + 1 => by
    have := fvA_get r s fs (k + 1) j
    simp only [fvA, List.getElem?_cons_succ, this]
    rw [show k + 1 + j = k + (j + 1) by omega]
theorem fvA_len (r : Nat → Nat) (s : St) : ∀ (F : List Fd) (k : Nat), (fvA r s k F).length = F.length
  | [], _ => rfl
  | f :: fs, k => by simp [fvA, fvA_len r s fs (k + 1)]
theorem fvA_set {r : Nat → Nat} {s : St} {F : List Fd} {j : Nat} {f : Fd} {z : Int32} (hF : F[j]? = some f) (ht : isA f.2.2 = false) : (fvA r s 0 F).set j (.int z) = fvA r (setI s j z) 0 F := by
  apply List.ext_getElem?
  intro k
  rw [List.getElem?_set, fvA_get, fvA_get, Nat.zero_add]
  by_cases h : j = k
  · subst h
    simp only [if_true, fvA_len, (List.getElem?_eq_some_iff.mp hF).1, hF, Option.map_some]
    congr 1
    unfold fv1
    split
    · rename_i t e; rw [e] at ht; cases ht
    · simp [setI_1]
  · simp only [h, if_false]
    cases F[k]? with
    | none => rfl
    | some g =>
      simp only [Option.map_some]
      congr 1
      unfold fv1
      split
      · rfl
      · rw [setI_1, if_neg (Ne.symm h)]
theorem fvA_same (r : Nat → Nat) {s s' : St} (h : s.1 = s'.1) : ∀ (F : List Fd) (k : Nat), fvA r s k F = fvA r s' k F
  | [], _ => rfl
  | f :: fs, k => by
    simp only [fvA, fvA_same r h fs (k + 1)]
    congr 1
    unfold fv1
    split
    · rfl
    · rw [h]
/-- the heap K s shows the object at o, its arrays at r, as s tells -/
def View (G : Ctx) (Ln : Nat → Nat) (K : St → MHeap) (o : Nat) (r : Nat → Nat) : Prop :=
  k0 G ≤ o ∧ (∀ s, (K s)[o]? = some (.inl (fvA r s 0 (gF G)))) ∧
  (∀ s j f z, (gF G)[j]? = some f → isA f.2.2 = false → (K s).set o (.inl ((fvA r s 0 (gF G)).set j (.int z))) = K (setI s j z)) ∧
  (∀ j n d t, (gF G)[j]? = some (n, d, .array t) → k0 G ≤ r j ∧ (∀ s, (K s)[r j]? = some (.inr (isB t, tab (Ln j) (s.2 j)))) ∧ ∀ s i z, i < Ln j → (K s).set (r j) (.inr (isB t, (tab (Ln j) (s.2 j)).set i z)) = K (setA s j i z))
section ViewRules
variable {G : Ctx} {M : Mi} {pc : Nat} {L : List Slot} {S : List Value} {rr : Option Value × MHeap} {Ln : Nat → Nat} {K : St → MHeap} {o : Nat} {r : Nat → Nat} {s : St}
theorem Ev.gI {idx j : Nat} {n d : String} {ty : FieldType} (V : View G Ln K o r) (w : (Jvm.Cond.fieldLink (mN M).cls idx (gC G) n d).before (gA G) (gZ G) = true) (hd : decode (mB M) pc = .ok (.getfield idx, 3)) (hF : (gF G)[j]? = some (n, d, ty)) (ht : isA ty = false)
    (hn : Ev G M (pc + 3) L (.int (s.1 j) :: S) (K s) rr) : Ev G M pc L (.ref o :: S) (K s) rr :=
  Ev.getfield w hd hF (V.2.1 s) (v := .int (s.1 j)) (by rw [fvA_get, hF, Nat.zero_add]; simp only [Option.map_some, fv1]; cases ty <;> first | rfl | cases ht) hn
theorem Ev.gAr {idx j : Nat} {n d : String} {t : FieldType} (V : View G Ln K o r) (w : (Jvm.Cond.fieldLink (mN M).cls idx (gC G) n d).before (gA G) (gZ G) = true) (hd : decode (mB M) pc = .ok (.getfield idx, 3)) (hF : (gF G)[j]? = some (n, d, .array t))
    (hn : Ev G M (pc + 3) L (.ref (r j) :: S) (K s) rr) : Ev G M pc L (.ref o :: S) (K s) rr :=
  Ev.getfield w hd hF (V.2.1 s) (v := .ref (r j)) (by rw [fvA_get, hF, Nat.zero_add]; rfl) hn
theorem Ev.pI {idx j : Nat} {n d : String} {z : Int32} (V : View G Ln K o r) (Kk : GOk G) (w : (Jvm.Cond.fieldLink (mN M).cls idx (gC G) n d).before (gA G) (gZ G) = true)
    (wl : (Jvm.Cond.lays (gC G) (gC G) n d).before (gA G) (gZ G) = true ∨ ((Jvm.Cond.laysFinal (gC G) (gC G) n d).before (gA G) (gZ G) = true ∧ (mN M).cls = gC G ∧ (mN M).name = "<init>"))
    (hd : decode (mB M) pc = .ok (.putfield idx, 3)) (hF : (gF G)[j]? = some (n, d, .int)) (hn : Ev G M (pc + 3) L S (K (setI s j z)) rr) : Ev G M pc L (.int z :: .ref o :: S) (K s) rr := by
  refine Ev.putfield Kk w wl hd hF V.1 (V.2.1 s) (v' := .int z) rfl ?_
  rw [V.2.2.1 s j _ z hF rfl]; exact hn
theorem Ev.pZ {idx j : Nat} {n d : String} {z : Int32} (V : View G Ln K o r) (Kk : GOk G) (w : (Jvm.Cond.fieldLink (mN M).cls idx (gC G) n d).before (gA G) (gZ G) = true)
    (wl : (Jvm.Cond.lays (gC G) (gC G) n d).before (gA G) (gZ G) = true ∨ ((Jvm.Cond.laysFinal (gC G) (gC G) n d).before (gA G) (gZ G) = true ∧ (mN M).cls = gC G ∧ (mN M).name = "<init>"))
    (hd : decode (mB M) pc = .ok (.putfield idx, 3)) (hF : (gF G)[j]? = some (n, d, .boolean)) (hn : Ev G M (pc + 3) L S (K (setI s j (z &&& 1))) rr) : Ev G M pc L (.int z :: .ref o :: S) (K s) rr := by
  refine Ev.putfield Kk w wl hd hF V.1 (V.2.1 s) (v' := .int (z &&& 1)) rfl ?_
  rw [V.2.2.1 s j _ _ hF rfl]; exact hn
theorem Ev.ial {j : Nat} {n d : String} {i : Int32} {N : Nat} (V : View G Ln K o r) (hF : (gF G)[j]? = some (n, d, .array .int)) (hN : Ln j = N) (hd : decode (mB M) pc = .ok (.iaload, 1)) (hb : inb i N) (hn : Ev G M (pc + 1) L (.int (s.2 j (ix i)) :: S) (K s) rr) : Ev G M pc L (.int i :: .ref (r j) :: S) (K s) rr :=
  Ev.iaload hd ((V.2.2.2 j n d _ hF).2.1 s) hb.1 (tab_get (hN ▸ hb.2)) hn
theorem Ev.bal {j : Nat} {n d : String} {i : Int32} {N : Nat} (V : View G Ln K o r) (hF : (gF G)[j]? = some (n, d, .array .boolean)) (hN : Ln j = N) (hd : decode (mB M) pc = .ok (.baload, 1)) (hb : inb i N) (hn : Ev G M (pc + 1) L (.int (s.2 j (ix i)) :: S) (K s) rr) : Ev G M pc L (.int i :: .ref (r j) :: S) (K s) rr :=
  Ev.baload hd ((V.2.2.2 j n d _ hF).2.1 s) hb.1 (tab_get (hN ▸ hb.2)) hn
theorem Ev.ias {j : Nat} {n d : String} {i z : Int32} {N : Nat} (V : View G Ln K o r) (hF : (gF G)[j]? = some (n, d, .array .int)) (hN : Ln j = N) (hd : decode (mB M) pc = .ok (.iastore, 1)) (hb : inb i N) (hn : Ev G M (pc + 1) L S (K (setA s j (ix i) z)) rr) : Ev G M pc L (.int z :: .int i :: .ref (r j) :: S) (K s) rr := by
  obtain ⟨q1, q2, q3⟩ := V.2.2.2 j n d _ hF
  refine Ev.iastore hd q1 (q2 s) hb.1 (by rw [tab_len, hN]; exact hb.2) ?_
  have := q3 s (ix i) z (hN ▸ hb.2)
  exact this ▸ hn
theorem Ev.bas {j : Nat} {n d : String} {i z : Int32} {N : Nat} (V : View G Ln K o r) (hF : (gF G)[j]? = some (n, d, .array .boolean)) (hN : Ln j = N) (hd : decode (mB M) pc = .ok (.bastore, 1)) (hb : inb i N) (hn : Ev G M (pc + 1) L S (K (setA s j (ix i) (z &&& 1))) rr) : Ev G M pc L (.int z :: .int i :: .ref (r j) :: S) (K s) rr := by
  obtain ⟨q1, q2, q3⟩ := V.2.2.2 j n d _ hF
  refine Ev.bastore hd q1 (q2 s) hb.1 (by rw [tab_len, hN]; exact hb.2) ?_
  have := q3 s (ix i) (z &&& 1) (hN ▸ hb.2)
  exact this ▸ hn
theorem Ev.sal {h : MHeap} {i : Int32} {N k : Nat} {f : Nat → Int32} (hs : h[k]? = some (.inr (false, tab N f))) (hd : decode (mB M) pc = .ok (.iaload, 1)) (hb : inb i N) (hn : Ev G M (pc + 1) L (.int (f (ix i)) :: S) h rr) : Ev G M pc L (.int i :: .ref k :: S) h rr :=
  Ev.iaload hd hs hb.1 (tab_get hb.2) hn
theorem Ev.sln {h : MHeap} {N k : Nat} {f : Nat → Int32} (hs : h[k]? = some (.inr (false, tab N f))) (hd : decode (mB M) pc = .ok (.arraylength, 1)) (hn : Ev G M (pc + 1) L (.int N.toInt32 :: S) h rr) : Ev G M pc L (.ref k :: S) h rr :=
  Ev.arraylength hd hs (by rw [tab_len]; exact hn)
theorem Ev.zret1 {h : MHeap} (hret : mR M = some .boolean) (hd : decode (mB M) pc = .ok (.ireturn, 1)) : Ev G M pc L (.int 1 :: S) h (some (.int 1), h) := Ev.zreturn hret hd
theorem Ev.zret0 {h : MHeap} (hret : mR M = some .boolean) (hd : decode (mB M) pc = .ok (.ireturn, 1)) : Ev G M pc L (.int 0 :: S) h (some (.int 0), h) := Ev.zreturn hret hd
/-- a slot over which an int may be stored at once -/
def one1 : Slot → Bool
  | .unset => true
  | .val v => v.category == 1
  | .second => false
theorem mst_one {l : List Slot} {i : Nat} {v : Value} {o : Slot} (ho : l[i]? = some o) (h1 : one1 o = true) (hv : v.category = 1) : mst l i v = some (l.set i (.val v)) := by
  have hlt := (List.getElem?_eq_some_iff.mp ho).1
  have e : lstoreSelf l i v = some (l.set i (.val v)) := by simp [lstoreSelf, lsetAt, hlt, hv]
  unfold mst
  rw [ho]
  cases o with
  | unset => exact e
  | second => cases h1
  | val w =>
    have : w.category = 1 := by simpa [one1] using h1
    simp only [this]
    exact e
theorem Ev.istD {k : Nat} {v : Int32} {L' : List Slot} {o : Slot} {h : MHeap} (hd : decode (mB M) pc = .ok (.istore k, 2)) (ho : L[k]? = some o) (h1 : one1 o = true) (hl : L.set k (.val (.int v)) = L') (hn : Ev G M (pc + 2) L' S h rr) : Ev G M pc L (.int v :: S) h rr :=
  Ev.istore hd (by rw [mst_one ho h1 rfl, hl]) hn
theorem Ev.istDN {k : Fin 4} {v : Int32} {L' : List Slot} {o : Slot} {h : MHeap} (hd : decode (mB M) pc = .ok (.istore_n k, 1)) (ho : L[k.val]? = some o) (h1 : one1 o = true) (hl : L.set k.val (.val (.int v)) = L') (hn : Ev G M (pc + 1) L' S h rr) : Ev G M pc L (.int v :: S) h rr :=
  Ev.istoreN hd (by rw [mst_one ho h1 rfl, hl]) hn
/-- a pair of slots over which a long may be stored at once -/
def two2 (a b : Slot) : Prop := (one1 a = true ∧ one1 b = true) ∨ (∃ x, a = .val (.long x) ∧ b = .second)
theorem set_set2 {l : List Slot} {i : Nat} {a b c : Slot} : ((l.set (i + 1) a).set i b).set (i + 1) c = (l.set i b).set (i + 1) c := by
  rw [List.set_comm _ _ (by omega : i + 1 ≠ i), List.set_set]
theorem mst_two {l : List Slot} {i : Nat} {v : Int64} {o o' : Slot} (ho : l[i]? = some o) (ho' : l[i + 1]? = some o') (h2 : two2 o o') : mst l i (.long v) = some ((l.set i (.val (.long v))).set (i + 1) .second) := by
  have hlt := (List.getElem?_eq_some_iff.mp ho).1
  have hlt' := (List.getElem?_eq_some_iff.mp ho').1
  rcases h2 with ⟨h1, h1'⟩ | ⟨x, rfl, rfl⟩
  · have e : lstoreSelf l i (.long v) = some ((l.set i (.val (.long v))).set (i + 1) .second) := by
      have q : (l.set i (.val (.long v)))[i + 1]? = some o' := by rw [List.getElem?_set_ne (by omega)]; exact ho'
      have hcat : (Value.long v).category = 2 := rfl
      simp only [lstoreSelf, lsetAt, hlt, if_true, hcat, q]
      cases o' with
      | unset => simp [hlt']
      | second => cases h1'
      | val w =>
        have : w.category = 1 := by simpa [one1] using h1'
        simp [this, hlt']
    unfold mst
    rw [ho]
    cases o with
    | unset => exact e
    | second => cases h1
    | val w =>
      have : w.category = 1 := by simpa [one1] using h1
      simp only [this]
      exact e
  · unfold mst
    rw [ho]
    have q : ((l.set (i + 1) Slot.unset).set i (.val (.long v)))[i + 1]? = some .unset := by
      rw [List.getElem?_set_ne (by omega), List.getElem?_set_self hlt']
    simp only [Value.category, if_true, lsetAt, hlt', lstoreSelf, List.length_set, hlt, q, set_set2]
theorem Ev.lstD {k : Nat} {v : Int64} {L' : List Slot} {o o' : Slot} {h : MHeap} (hd : decode (mB M) pc = .ok (.lstore k, 2)) (ho : L[k]? = some o) (ho' : L[k + 1]? = some o') (h2 : two2 o o') (hl : (L.set k (.val (.long v))).set (k + 1) .second = L') (hn : Ev G M (pc + 2) L' S h rr) : Ev G M pc L (.long v :: S) h rr :=
  Ev.lstore hd (by rw [mst_two ho ho' h2, hl]) hn
theorem Ev.lstDN {k : Fin 4} {v : Int64} {L' : List Slot} {o o' : Slot} {h : MHeap} (hd : decode (mB M) pc = .ok (.lstore_n k, 1)) (ho : L[k.val]? = some o) (ho' : L[k.val + 1]? = some o') (h2 : two2 o o') (hl : (L.set k.val (.val (.long v))).set (k.val + 1) .second = L') (hn : Ev G M (pc + 1) L' S h rr) : Ev G M pc L (.long v :: S) h rr :=
  Ev.lstoreN hd (by rw [mst_two ho ho' h2, hl]) hn
end ViewRules
/-! ## 5. One object among others -/
/-- al: the array fields in the order in which the constructor makes them, each with 'of booleans' -/
def rA (o : Nat) (al : List (Nat × Bool)) (j : Nat) : Nat := o + 1 + al.findIdx (fun q => q.1 == j)
def arr1 (Ln : Nat → Nat) (s : St) (q : Nat × Bool) : MCell := .inr (q.2, tab (Ln q.1) (s.2 q.1))
def KO (F : List Fd) (al : List (Nat × Bool)) (Ln : Nat → Nat) (o : Nat) (s : St) : MHeap := .inl (fvA (rA o al) s 0 F) :: al.map (arr1 Ln s)
def KH (F : List Fd) (al : List (Nat × Bool)) (Ln : Nat → Nat) (pre post : MHeap) (s : St) : MHeap := pre ++ (KO F al Ln pre.length s ++ post)
def alOk (F : List Fd) (al : List (Nat × Bool)) : Bool := (List.range F.length).all (fun j => match F[j]? with
  | some (_, _, .array t) => al[al.findIdx (fun q => q.1 == j)]? == some (j, isB t)
  | _ => true)
theorem KO_len {F : List Fd} {al : List (Nat × Bool)} {Ln : Nat → Nat} {o : Nat} {s : St} : (KO F al Ln o s).length = al.length + 1 := by simp [KO]
theorem app_get (pre post l : MHeap) (k : Nat) (h : k < l.length) : (pre ++ (l ++ post))[pre.length + k]? = l[k]? := by
  rw [List.getElem?_append_right (by omega), Nat.add_sub_cancel_left, List.getElem?_append_left h]
theorem app_set (pre post l : MHeap) (k : Nat) (c : MCell) (h : k < l.length) : (pre ++ (l ++ post)).set (pre.length + k) c = pre ++ (l.set k c ++ post) := by
  rw [List.set_append_right _ _ (by omega), Nat.add_sub_cancel_left, List.set_append_left _ _ h]
theorem view_of {G : Ctx} {al : List (Nat × Bool)} {Ln : Nat → Nat} {pre post : MHeap} (hk : k0 G ≤ pre.length) (h1 : alOk (gF G) al = true) (h2 : (al.map (·.1)).Nodup) :
    View G Ln (KH (gF G) al Ln pre post) pre.length (rA pre.length al) := by
  refine ⟨hk, fun s => ?_, fun s j f z hF ht => ?_, fun j n d t hF => ?_⟩
  · have := app_get pre post (KO (gF G) al Ln pre.length s) 0 (by rw [KO_len]; omega)
    exact this
  · have := app_set pre post (KO (gF G) al Ln pre.length s) 0 (.inl ((fvA (rA pre.length al) s 0 (gF G)).set j (.int z))) (by rw [KO_len]; omega)
    refine Eq.trans this ?_
    show pre ++ ((.inl _ :: al.map (arr1 Ln s)) ++ post) = pre ++ ((.inl _ :: al.map (arr1 Ln (setI s j z))) ++ post)
    rw [fvA_set hF ht]
    rfl
  · have hj : j < (gF G).length := (List.getElem?_eq_some_iff.mp hF).1
    have hq := List.all_eq_true.mp h1 j (List.mem_range.mpr hj)
    simp only [hF, beq_iff_eq] at hq
    have hlt := (List.getElem?_eq_some_iff.mp hq).1
    have hlen : ∀ s, al.findIdx (fun q => q.1 == j) + 1 < (KO (gF G) al Ln pre.length s).length := fun s => by rw [KO_len]; omega
    have hr : rA pre.length al j = pre.length + (al.findIdx (fun q => q.1 == j) + 1) := by unfold rA; omega
    refine ⟨by rw [hr]; omega, fun s => ?_, fun s i z hi => ?_⟩
    · rw [hr]
      refine (app_get pre post _ _ (hlen s)).trans ?_
      show (al.map (arr1 Ln s))[al.findIdx fun q => q.1 == j]? = _
      rw [List.getElem?_map, hq]
      rfl
    · rw [hr]
      refine (app_set pre post _ _ _ (hlen s)).trans ?_
      show pre ++ ((.inl (fvA (rA pre.length al) s 0 (gF G)) :: (al.map (arr1 Ln s)).set (al.findIdx fun q => q.1 == j) (.inr (isB t, (tab (Ln j) (s.2 j)).set i z))) ++ post) = pre ++ ((.inl (fvA (rA pre.length al) (setA s j i z) 0 (gF G)) :: al.map (arr1 Ln (setA s j i z))) ++ post)
      rw [fvA_same (s := s) (s' := setA s j i z) _ rfl]
      congr 3
      apply List.ext_getElem?
      intro k
      rw [List.getElem?_set, List.getElem?_map, List.getElem?_map, List.length_map]
      by_cases e : al.findIdx (fun q => q.1 == j) = k
      · subst e
        simp only [if_true, hlt, hq, Option.map_some, arr1, tab_set]
        congr 4
        funext x
        rw [setA_2]
        simp
      · simp only [e, if_false]
        cases hk2 : al[k]? with
        | none => rfl
        | some q =>
          simp only [Option.map_some, arr1]
          have ne : q.1 ≠ j := fun hqj => by
            have a1 : (al.map (·.1))[al.findIdx (fun q => q.1 == j)]? = some j := by rw [List.getElem?_map, hq]; rfl
            have a2 : (al.map (·.1))[k]? = some j := by rw [List.getElem?_map, hk2]; simp [hqj]
            have := (List.getElem?_inj (by rw [List.length_map]; exact hlt) h2).mp (a1.trans a2.symm)
            exact e this
          congr 4
          funext x
          rw [setA_2]
          simp [ne]
/-! ### while the constructor makes the arrays -/
def cons (pre : MHeap) (fs : List Value) (as : List (Bool × List Int32)) : MHeap := pre ++ (.inl fs :: as.map .inr)
section ConsRules
variable {G : Ctx} {M : Mi} {pc : Nat} {L : List Slot} {S : List Value} {rr : Option Value × MHeap} {pre : MHeap} {fs fs' : List Value} {as : List (Bool × List Int32)}
theorem cons_get : (cons pre fs as)[pre.length]? = some (.inl fs) := by unfold cons; rw [List.getElem?_append_right (Nat.le_refl _), Nat.sub_self]; rfl
theorem cons_set (c : List Value) : (cons pre fs as).set pre.length (.inl c) = cons pre c as := by unfold cons; rw [List.set_append_right _ _ (Nat.le_refl _), Nat.sub_self]; rfl
theorem cons_len : (cons pre fs as).length = pre.length + 1 + as.length := by simp [cons]; omega
theorem cons_push (b : Bool) (xs : List Int32) : cons pre fs as ++ [.inr (b, xs)] = cons pre fs (as ++ [(b, xs)]) := by simp [cons]
theorem Ev.cput {idx j : Nat} {n d : String} {ty : FieldType} {v v' : Value} (K : GOk G) (hk : k0 G ≤ pre.length) (w : (Jvm.Cond.fieldLink (mN M).cls idx (gC G) n d).before (gA G) (gZ G) = true)
    (wl : (Jvm.Cond.lays (gC G) (gC G) n d).before (gA G) (gZ G) = true ∨ ((Jvm.Cond.laysFinal (gC G) (gC G) n d).before (gA G) (gZ G) = true ∧ (mN M).cls = gC G ∧ (mN M).name = "<init>"))
    (hd : decode (mB M) pc = .ok (.putfield idx, 3)) (hF : (gF G)[j]? = some (n, d, ty)) (hp : mput ty v = some v') (hs : fs.set j v' = fs') (hn : Ev G M (pc + 3) L S (cons pre fs' as) rr) : Ev G M pc L (v :: .ref pre.length :: S) (cons pre fs as) rr := by
  subst hs
  refine Ev.putfield K w wl hd hF hk cons_get hp ?_
  rw [cons_set]; exact hn
theorem Ev.cget {idx j : Nat} {n d : String} {ty : FieldType} {v : Value} (w : (Jvm.Cond.fieldLink (mN M).cls idx (gC G) n d).before (gA G) (gZ G) = true) (hd : decode (mB M) pc = .ok (.getfield idx, 3)) (hF : (gF G)[j]? = some (n, d, ty)) (hv : fs[j]? = some v)
    (hn : Ev G M (pc + 3) L (v :: S) (cons pre fs as) rr) : Ev G M pc L (.ref pre.length :: S) (cons pre fs as) rr := Ev.getfield w hd hF cons_get hv hn
theorem Ev.cnew {aty : ArrayType} {b : Bool} {n : Int32} {k q : Nat} {as' : List (Bool × List Int32)} (w : (Jvm.Cond.arrayClass (newarray.typeOf aty)).before (gA G) (gZ G) = true) (hb' : newarray.typeOf aty = kd b) (hd : decode (mB M) pc = .ok (.newarray aty, 2)) (hn0 : ¬ n < 0) (hk : n.toNatClampNeg = k) (hcap : k ≤ 67108864)
    (hq : as.length = q) (has : as ++ [(b, tab k (fun _ => 0))] = as') (hn : Ev G M (pc + 2) L (.ref (pre.length + 1 + q) :: S) (cons pre fs as') rr) : Ev G M pc L (.int n :: S) (cons pre fs as) rr := by
  subst hq has
  refine Ev.newarray w hb' hd hn0 hk hcap ?_
  rw [cons_push, cons_len, ← tab_zero]; exact hn
end ConsRules
theorem forall_get {P : Nat → Fd → Prop} : ∀ (F : List Fd) (k : Nat), (∀ j f, F[j]? = some f → P (k + j) f) → True := fun _ _ _ => trivial
def AllF (P : Fd → Prop) : List Fd → Prop
  | [] => True
  | f :: fs => P f ∧ AllF P fs
theorem AllF.mem {P : Fd → Prop} : ∀ {F : List Fd}, AllF P F → ∀ f ∈ F, P f
  | _ :: _, ⟨h1, h2⟩, f, hf => (List.mem_cons.mp hf).elim (fun e => e ▸ h1) (AllF.mem h2 f)
theorem gok_of {G : Ctx} (h1 : AllF (fun f => Laid (gZ G) (gA G) (gC G) (gC G) f.1 f.2.1 ∧ parseFieldDescriptor f.2.1 = some f.2.2) (gF G)) (h2 : ((gF G).map (·.1)).Nodup)
    (h3 : (Jvm.Cond.instantiable (gC G) (gK G)).before (gA G) (gZ G) = true) (h4 : (Jvm.Cond.initialized (gC G)).before (gA G) (gZ G) = true) : GOk G := by
  refine ⟨fun j n d ty hF => h1.mem _ (List.mem_of_getElem? hF), fun j j' f f' hF hF' ne e => ne ?_, h3, h4⟩
  have a1 : ((gF G).map (·.1))[j]? = some f.1 := by rw [List.getElem?_map, hF]; rfl
  have a2 : ((gF G).map (·.1))[j']? = some f.1 := by rw [List.getElem?_map, hF', e]; rfl
  exact (List.getElem?_inj (by rw [List.length_map]; exact (List.getElem?_eq_some_iff.mp hF).1) h2).mp (a1.trans a2.symm)
end Jvm.Own
namespace Jvm.Own
open Sem ClassFile Op Lib Jvm.Stand Jvm.Free Jvm.LawKit Jvm.RoadKit
def grd {α : Type} (c : Prop) [Decidable c] (x : Option α) : Option α := if c then x else none
theorem grd_some {α : Type} {c : Prop} [Decidable c] {x : Option α} {w : α} (h : grd c x = some w) : c ∧ x = some w := by
  unfold grd at h; split at h
  · exact ⟨by assumption, h⟩
  · cases h
theorem grd_pos {α : Type} {c : Prop} [Decidable c] {x : Option α} (h : c) : grd c x = x := if_pos h
theorem KH_len (F : List Fd) (al : List (Nat × Bool)) (Ln : Nat → Nat) (pre post : MHeap) (s : St) : (KH F al Ln pre post s).length = pre.length + (al.length + 1 + post.length) := by simp [KH, KO]; omega
theorem hsl_app (k : Nat) (a b : MHeap) : hsl k (a ++ b) = hsl k a + hsl k b := by simp [hsl]
theorem hsl_arr (k : Nat) (Ln : Nat → Nat) (s : St) : ∀ al : List (Nat × Bool), hsl k (al.map (arr1 Ln s)) = (al.map fun q => Ln q.1).sum
  | [] => rfl
  | q :: al => by
    have := hsl_arr k Ln s al
    simp only [hsl, List.map_cons, List.sum_cons] at this ⊢
    rw [this]
    simp [arr1, csl, tab_len]
theorem hsl_KH (k : Nat) (F : List Fd) (al : List (Nat × Bool)) (Ln : Nat → Nat) (pre post : MHeap) (s : St) : hsl k (KH F al Ln pre post s) = hsl k pre + (k + (al.map fun q => Ln q.1).sum + hsl k post) := by
  unfold KH
  rw [hsl_app, hsl_app]
  have : hsl k (KO F al Ln pre.length s) = k + (al.map fun q => Ln q.1).sum := by
    have := hsl_arr k Ln s al
    simp only [KO, hsl, List.map_cons, List.sum_cons, csl] at this ⊢
    rw [this]
  rw [this]
theorem ne_lit {x z : Int32} {k : Int} (h : ¬ x = z) (e : z.toInt = k) : x.toInt ≠ k := fun q => h (Int32.toInt_inj.mp (q.trans e.symm))
section
variable {G : Ctx} {M : Mi} {pc : Nat} {L : List Slot} {S : List Value} {rr : Option Value × MHeap}
theorem Ev.astD {k v : Nat} {L' : List Slot} {o : Slot} {h : MHeap} (hd : decode (mB M) pc = .ok (.astore k, 2)) (ho : L[k]? = some o) (h1 : one1 o = true) (hl : L.set k (.val (.ref v)) = L') (hn : Ev G M (pc + 2) L' S h rr) : Ev G M pc L (.ref v :: S) h rr :=
  Ev.astore hd (by rw [mst_one ho h1 rfl, hl]) hn
theorem Ev.astDN {k : Fin 4} {v : Nat} {L' : List Slot} {o : Slot} {h : MHeap} (hd : decode (mB M) pc = .ok (.astore_n k, 1)) (ho : L[k.val]? = some o) (h1 : one1 o = true) (hl : L.set k.val (.val (.ref v)) = L') (hn : Ev G M (pc + 1) L' S h rr) : Ev G M pc L (.ref v :: S) h rr :=
  Ev.astoreN hd (by rw [mst_one ho h1 rfl, hl]) hn
end
end Jvm.Own
namespace Jvm.Own
open Sem ClassFile Op Lib Jvm.Stand Jvm.Free Jvm.LawKit Jvm.RoadKit
section
variable {G : Ctx} {M : Mi} {pc : Nat} {L : List Slot} {S : List Value} {rr : Option Value × MHeap}
theorem mst_T {l : List Slot} {i : Nat} {v : Value} {o o' : Slot} (ho : l[i]? = some o) (ho' : l[i + 1]? = some o') (h2 : two2 o o') (hv : v.category = 1) : ∃ b, one1 b = true ∧ mst l i v = some ((l.set i (.val v)).set (i + 1) b) := by
  have hlt := (List.getElem?_eq_some_iff.mp ho).1
  have hlt' := (List.getElem?_eq_some_iff.mp ho').1
  rcases h2 with ⟨h1, h1'⟩ | ⟨x, rfl, rfl⟩
  · refine ⟨o', h1', ?_⟩
    rw [mst_one ho h1 hv]
    congr 1
    apply List.ext_getElem?
    intro k
    by_cases e : i + 1 = k
    · subst e
      rw [List.getElem?_set_self (by simpa using hlt'), List.getElem?_set_ne (by omega), ho']
    · rw [List.getElem?_set_ne e]
  · refine ⟨.unset, rfl, ?_⟩
    unfold mst
    rw [ho]
    have c2 : (Value.long x).category = 2 := rfl
    simp only [c2, if_true, lsetAt, hlt', lstoreSelf, List.length_set, hlt, hv]
    rw [List.set_comm _ _ (by omega : i + 1 ≠ i)]
    simp
theorem Ev.istT {k : Nat} {v : Int32} {L' : Slot → List Slot} {o o' : Slot} {h : MHeap} (hd : decode (mB M) pc = .ok (.istore k, 2)) (ho : L[k]? = some o) (ho' : L[k + 1]? = some o') (h2 : two2 o o') (hl : ∀ b, (L.set k (.val (.int v))).set (k + 1) b = L' b) (hn : ∀ b, one1 b = true → Ev G M (pc + 2) (L' b) S h rr) : Ev G M pc L (.int v :: S) h rr := by
  obtain ⟨b, h1, e⟩ := mst_T (v := .int v) ho ho' h2 rfl
  exact Ev.istore hd e (by rw [hl]; exact hn b h1)
theorem Ev.istTN {k : Fin 4} {v : Int32} {L' : Slot → List Slot} {o o' : Slot} {h : MHeap} (hd : decode (mB M) pc = .ok (.istore_n k, 1)) (ho : L[k.val]? = some o) (ho' : L[k.val + 1]? = some o') (h2 : two2 o o') (hl : ∀ b, (L.set k.val (.val (.int v))).set (k.val + 1) b = L' b) (hn : ∀ b, one1 b = true → Ev G M (pc + 1) (L' b) S h rr) : Ev G M pc L (.int v :: S) h rr := by
  obtain ⟨b, h1, e⟩ := mst_T (v := .int v) ho ho' h2 rfl
  exact Ev.istoreN hd e (by rw [hl]; exact hn b h1)
end
section
variable {G : Ctx} {Ln : Nat → Nat} {K : St → MHeap} {o len : Nat} {r : Nat → Nat} {F : List Fd} {al : List (Nat × Bool)}
theorem View.le (V : View G Ln K o r) (s : St) : k0 G ≤ (K s).length := Nat.le_trans V.1 (Nat.le_of_lt (List.getElem?_eq_some_iff.mp (V.2.1 s)).1)
theorem View.app (V : View G Ln K o r) (X : MHeap) : View G Ln (fun s => K s ++ X) o r := by
  refine ⟨V.1, fun s => ?_, fun s j f z hF ht => ?_, fun j n d t hF => ?_⟩
  · show (K s ++ X)[o]? = _
    rw [List.getElem?_append_left (List.getElem?_eq_some_iff.mp (V.2.1 s)).1]; exact V.2.1 s
  · show (K s ++ X).set o _ = _
    rw [List.set_append_left _ _ (List.getElem?_eq_some_iff.mp (V.2.1 s)).1, V.2.2.1 s j f z hF ht]
  · obtain ⟨q1, q2, q3⟩ := V.2.2.2 j n d t hF
    refine ⟨q1, fun s => ?_, fun s i z hi => ?_⟩
    · show (K s ++ X)[r j]? = _
      rw [List.getElem?_append_left (List.getElem?_eq_some_iff.mp (q2 s)).1]; exact q2 s
    · show (K s ++ X).set (r j) _ = _
      rw [List.set_append_left _ _ (List.getElem?_eq_some_iff.mp (q2 s)).1, q3 s i z hi]
theorem View.app2 (V : View G Ln K o r) (hl : ∀ s, (K s).length = len) (t : St) : View G Ln (fun s => KH F al Ln (K s) [] t) o r := by
  have e : (fun s => KH F al Ln (K s) [] t) = fun s => K s ++ (KO F al Ln len t ++ []) := by
    funext s; unfold KH; rw [hl]
  rw [e]
  exact V.app _
theorem app2_get (V : View G Ln K o r) {s t : St} {c : MCell} (h : (K s)[0]? = some c) : (KH F al Ln (K s) [] t)[0]? = some c := by
  unfold KH
  rw [List.getElem?_append_left (List.getElem?_eq_some_iff.mp h).1]; exact h
end
end Jvm.Own
namespace Jvm.Own
open Sem ClassFile Op Lib Jvm.Stand Jvm.Free Jvm.LawKit Jvm.RoadKit
def toI : Value → Int32
  | .int z => z
  | _ => 0
theorem script_rel {s : State} {a : Nat} {cl : Cell} {args : Array Value} {l : Launch} {C : String} {F : List Fd} {k : Nat} (hf : Fit s) (A : Arr s s.heap a cl .int) :
    ∃ xs : List Int32, xs.length = cl.slots.size ∧ Rel (s, args, l, some a, s.heap.size, C, F, k) s.heap [.inr (false, tab xs.length (fun i => xs.getD i 0))] := by
  have hl : (cl.slots.toList.map toI).length = cl.slots.size := by simp
  refine ⟨cl.slots.toList.map toI, hl, rfl, Nat.le_refl _, fun a' q => by cases q; exact A.lt, fun i c q => ?_⟩
  match i, q with
  | 0, q =>
    cases q
    refine ⟨cl, A, ?_⟩
    rw [← tab_of]
    apply Array.ext'
    apply List.ext_getElem?
    intro j
    simp only [List.map_map, List.getElem?_map]
    cases hj : cl.slots.toList[j]? with
    | none => rfl
    | some v =>
      have hj' : cl.slots[j]? = some v := by simpa using hj
      obtain ⟨hlt, hv⟩ := Array.getElem?_eq_some_iff.mp hj'
      have q := hf A.1 hlt
      obtain ⟨hs, kk, hk, comp, hkind⟩ := A.2.1
      have e : s.slotType? cl.cls cl.vm j = some .int := by
        cases hq : cl.vm <;> first | exact absurd hq (hs _) | simp [State.slotType?, hk, hkind]
      have q2 : fits .int v = true := by rw [hv] at q; simpa [State.fitsSlot, e] using q
      obtain ⟨z, rfl⟩ := fit_I q2 (Or.inl rfl)
      rfl
theorem script_len {s : State} {args : Array Value} {t : Term} {a : Nat} {cl : Cell} (A : Arr s s.heap a cl .int) (ea : t.eval args s none [] s = some (.ref a)) (h1 : (Jvm.Cond.isInt (.length t)).value args s none s [] = some true) (h2 : (Jvm.Cond.le (.length t) (.int 260)).value args s none s [] = some true) : cl.slots.size ≤ 260 := by
  obtain ⟨z, ez⟩ := is_v h1
  have ha := A.fin (Vm.Alike.refl s.vm)
  have hlen : cl.slots.size < 2 ^ 31 := by
    rcases Nat.lt_or_ge cl.slots.size (2 ^ 31) with q | q
    · exact q
    · simp [Term.eval, ea, ha, Nat.not_lt.mpr q] at ez
  have e1 := len_f ea ha hlen
  have q : cl.slots.size.toInt32 ≤ 260 := by
    have := Cond.le_ints e1 (Term.int_eval (260 : Int32)) (args := args) (first := s) (o := none) (s := s) (idx := [])
    exact gotT this h2
  have q2 := Int32.le_iff_toInt_le.mp q
  rw [len_toInt hlen] at q2
  have : (260 : Int32).toInt = 260 := by decide
  omega
end Jvm.Own
namespace Jvm.Own
open Sem ClassFile Op Lib Jvm.Stand Jvm.Free Jvm.LawKit Jvm.RoadKit
def decs (b : ByteArray) : List (Nat × Instr × Nat) → Bool
  | [] => true
  | q :: t => decide (decode b q.1 = .ok (q.2.1, q.2.2)) && decs b t
theorem dget {b : ByteArray} : ∀ {l : List (Nat × Instr × Nat)}, decs b l = true → ∀ {k p : Nat} {i : Instr} {n : Nat}, l[k]? = some (p, i, n) → decode b p = .ok (i, n)
  | [], _, k, _, _, _, hk => by simp at hk
  | q :: t, h, 0, p, i, n, hk => by
    simp only [decs, Bool.and_eq_true, decide_eq_true_eq] at h
    simp only [List.getElem?_cons_zero, Option.some.injEq] at hk
    subst hk
    exact h.1
  | q :: t, h, k + 1, p, i, n, hk => by
    simp only [decs, Bool.and_eq_true] at h
    exact dget h.2 (by simpa using hk)
end Jvm.Own
namespace Jvm.Own
/-! ## 6. Ints of 32 bits and naturals -/
theorem N_toInt {i : Nat} (h : i < 2147483648) : (Int32.ofNat i).toInt = i := Int32.toInt_ofNat_of_lt h
theorem N_lt {i j : Nat} (hi : i < 2147483648) (hj : j < 2147483648) : Int32.ofNat i < Int32.ofNat j ↔ i < j := by
  rw [Int32.lt_iff_toInt_lt, N_toInt hi, N_toInt hj]; omega
theorem N_inj {i j : Nat} (hi : i < 2147483648) (hj : j < 2147483648) : Int32.ofNat i = Int32.ofNat j ↔ i = j := by
  rw [← Int32.toInt_inj, N_toInt hi, N_toInt hj]; omega
theorem N_succ (i : Nat) : Int32.ofNat i + 1 = Int32.ofNat (i + 1) := (Int32.ofNat_add i 1).symm
theorem N_add (i j : Nat) : Int32.ofNat i + Int32.ofNat j = Int32.ofNat (i + j) := (Int32.ofNat_add i j).symm
theorem N_mul (i j : Nat) : Int32.ofNat i * Int32.ofNat j = Int32.ofNat (i * j) := (Int32.ofNat_mul i j).symm
theorem N_neg {i : Nat} (h : i < 2147483648) : ¬ Int32.ofNat i < 0 := by
  rw [Int32.lt_iff_toInt_lt, N_toInt h]; simp
theorem ix_N {i : Nat} (h : i < 2147483648) : ix (Int32.ofNat i) = i := by
  unfold ix Int32.toNatClampNeg; rw [N_toInt h]; simp
theorem inb_N {i n : Nat} (h : i < 2147483648) : inb (Int32.ofNat i) n ↔ i < n := by
  unfold inb; rw [ix_N h]; exact ⟨fun q => q.2, fun q => ⟨N_neg h, q⟩⟩
theorem ix_toInt {x : Int32} (h : ¬ x < 0) : (ix x : Int) = x.toInt := by
  unfold ix Int32.toNatClampNeg
  rw [Int32.lt_iff_toInt_lt] at h
  have : (0 : Int32).toInt = 0 := rfl
  omega
theorem ix_lt (x : Int32) : ix x < 2147483648 := by
  unfold ix Int32.toNatClampNeg
  have := Int32.toInt_lt x
  omega
theorem N_ix {x : Int32} (h : ¬ x < 0) : Int32.ofNat (ix x) = x := by
  rw [← Int32.toInt_inj, N_toInt (ix_lt x), ix_toInt h]
theorem ix_eq {x y : Int32} (hx : ¬ x < 0) (hy : ¬ y < 0) : ix x = ix y ↔ x = y := by
  refine ⟨fun e => ?_, fun e => e ▸ rfl⟩
  rw [← N_ix hx, ← N_ix hy, e]
theorem rng (x : Int32) : -2147483648 ≤ x.toInt ∧ x.toInt < 2147483648 := ⟨Int32.le_toInt x, Int32.toInt_lt x⟩
theorem lt_I {x y : Int32} : x < y ↔ x.toInt < y.toInt := Int32.lt_iff_toInt_lt
theorem le_I {x y : Int32} : x ≤ y ↔ x.toInt ≤ y.toInt := Int32.le_iff_toInt_le
theorem eq_I {x y : Int32} : x = y ↔ x.toInt = y.toInt := Int32.toInt_inj.symm
theorem bmod_eq {x : Int} (h1 : -2147483648 ≤ x) (h2 : x < 2147483648) : x.bmod (2 ^ 32) = x := by
  apply Int.bmod_eq_of_le <;> omega
theorem add_I {x y : Int32} (h1 : -2147483648 ≤ x.toInt + y.toInt) (h2 : x.toInt + y.toInt < 2147483648) : (x + y).toInt = x.toInt + y.toInt := by
  rw [Int32.toInt_add]; exact bmod_eq h1 h2
theorem sub_I {x y : Int32} (h1 : -2147483648 ≤ x.toInt - y.toInt) (h2 : x.toInt - y.toInt < 2147483648) : (x - y).toInt = x.toInt - y.toInt := by
  rw [Int32.toInt_sub]; exact bmod_eq h1 h2
theorem mul_I {x y : Int32} (h1 : -2147483648 ≤ x.toInt * y.toInt) (h2 : x.toInt * y.toInt < 2147483648) : (x * y).toInt = x.toInt * y.toInt := by
  rw [Int32.toInt_mul]; exact bmod_eq h1 h2
theorem inb_I {x : Int32} {n : Nat} (h1 : 0 ≤ x.toInt) (h2 : x.toInt < n) : inb x n := by
  have h : ¬ x < 0 := by rw [lt_I]; have : (0 : Int32).toInt = 0 := rfl; omega
  refine ⟨h, ?_⟩
  have := ix_toInt h
  omega
/-- an int between 0 and n is one of them -/
theorem cases_N {x : Int32} {n : Nat} (hn : n < 2147483648) (h0 : ¬ x < 0) (h1 : x < Int32.ofNat n) : ∃ i, i < n ∧ x = Int32.ofNat i := by
  refine ⟨ix x, ?_, (N_ix h0).symm⟩
  have a := ix_toInt h0
  rw [lt_I, N_toInt hn] at h1
  omega
/-! ## 7. Loops that count from i to N -/
def itr {α : Type} (f : Nat → α → α) : Nat → Nat → α → α
  | _, 0, s => s
  | i, m + 1, s => itr f (i + 1) m (f i s)
theorem loopN {α β : Type} {F : Nat → Int32 → α → Option β} {N : Nat} {f : Nat → α → α} {fin : α → Option β}
    (hF : ∀ k i s, i < N → F (k + 1) (Int32.ofNat i) s = F k (Int32.ofNat i + 1) (f i s)) (hE : ∀ k s, F (k + 1) (Int32.ofNat N) s = fin s) :
    ∀ m i k s, i + m = N → m < k → F k (Int32.ofNat i) s = fin (itr f i m s) := by
  intro m
  induction m with
  | zero =>
    intro i k s hi hk
    obtain ⟨k, rfl⟩ : ∃ k', k = k' + 1 := ⟨k - 1, by omega⟩
    have : i = N := by omega
    subst this
    exact hE k s
  | succ m ih =>
    intro i k s hi hk
    obtain ⟨k, rfl⟩ : ∃ k', k = k' + 1 := ⟨k - 1, by omega⟩
    rw [hF k i s (by omega), N_succ]
    exact ih (i + 1) k _ (by omega) (by omega)
theorem itr_ind {α : Type} {f : Nat → α → α} {P : Nat → α → Prop} {N : Nat} (h : ∀ i s, i < N → P i s → P (i + 1) (f i s)) : ∀ m i s, i + m = N → P i s → P N (itr f i m s) := by
  intro m
  induction m with
  | zero => intro i s hi hp; have : i = N := by omega
            subst this; exact hp
  | succ m ih => intro i s hi hp; exact ih (i + 1) _ (by omega) (h i s (by omega) hp)
theorem itr_pt {f : Nat → St → St} {u : Nat → Int32 → Int32} (h1 : ∀ i s, (f i s).1 = s.1) (h2 : ∀ i s k x, (f i s).2 k x = if x = i then u k (s.2 k x) else s.2 k x) :
    ∀ m i s, itr f i m s = (s.1, fun k x => if i ≤ x ∧ x < i + m then u k (s.2 k x) else s.2 k x) := by
  intro m
  induction m with
  | zero =>
    intro i s
    refine Prod.ext rfl ?_
    funext k x
    have : ¬ (i ≤ x ∧ x < i + 0) := by omega
    simp only [this, if_false]
    rfl
  | succ m ih =>
    intro i s
    show itr f (i + 1) m (f i s) = _
    rw [ih]
    refine Prod.ext (h1 i s) ?_
    funext k x
    simp only [h2]
    by_cases e : x = i
    · subst e
      have a : ¬ (x + 1 ≤ x ∧ x < x + 1 + m) := by omega
      have b : x ≤ x ∧ x < x + (m + 1) := by omega
      simp only [a, b, if_false, if_true, and_self]
    · have : (i + 1 ≤ x ∧ x < i + 1 + m) ↔ (i ≤ x ∧ x < i + (m + 1)) := by omega
      simp only [this, e, if_false]
theorem itr_fill (K : Nat) (z : Int32) (m : Nat) (s : St) : itr (fun i s => setA s K i z) 0 m s = (s.1, fun k x => if k = K ∧ x < m then z else s.2 k x) := by
  rw [itr_pt (f := fun i s => setA s K i z) (u := fun k v => if k = K then z else v) (fun _ _ => rfl) (fun i s j x => by
    simp only [setA_2]
    by_cases e : x = i <;> by_cases e1 : j = K <;> simp [e, e1])]
  refine Prod.ext rfl ?_
  funext k x
  have : (0 ≤ x ∧ x < 0 + m) ↔ x < m := by omega
  simp only [this]
  by_cases e : x < m <;> by_cases e1 : k = K <;> simp [e, e1]
theorem and_rng (x : Int32) {m : Nat} (hm : m < 2147483648) : 0 ≤ (x &&& Int32.ofNat m).toInt ∧ (x &&& Int32.ofNat m).toInt ≤ m := by
  have h1 : (x &&& Int32.ofNat m).toBitVec.toNat ≤ m := by
    rw [Int32.toBitVec_and, BitVec.toNat_and]
    refine Nat.le_trans Nat.and_le_right ?_
    show (BitVec.ofNat 32 m).toNat ≤ m
    rw [BitVec.toNat_ofNat]
    exact Nat.mod_le _ _
  have h2 : (x &&& Int32.ofNat m).toInt = ((x &&& Int32.ofNat m).toBitVec.toNat : Int) := by
    show (x &&& Int32.ofNat m).toBitVec.toInt = _
    exact BitVec.toInt_eq_toNat_of_lt (by omega)
  omega
theorem idx8 {o p : Int32} (h0 : ¬ o < 0) (h3 : ¬ 3 < o) : inb (o * 8 + (p &&& 7)) 32 := by
  have a := and_rng p (m := 7) (by omega)
  rw [show Int32.ofNat 7 = (7 : Int32) from rfl] at a
  rw [lt_I] at h0 h3
  have e0 : (0 : Int32).toInt = 0 := rfl
  have e3 : (3 : Int32).toInt = 3 := rfl
  have e8 : (8 : Int32).toInt = 8 := rfl
  have em : (o * 8).toInt = o.toInt * 8 := by rw [mul_I] <;> rw [e8] <;> omega
  have ea : (o * 8 + (p &&& 7)).toInt = o.toInt * 8 + (p &&& 7).toInt := by rw [add_I] <;> rw [em] <;> omega
  exact inb_I (by omega) (by omega)
theorem idx8' {o p : Int32} (h0 : ¬ o < 0) (h3 : ¬ 3 < o) (g0 : ¬ p < 0) (g7 : ¬ 7 < p) : inb (o * 8 + p) 32 ∧ (o * 8 + p).toInt = o.toInt * 8 + p.toInt := by
  rw [lt_I] at h0 h3 g0 g7
  have e0 : (0 : Int32).toInt = 0 := rfl
  have e3 : (3 : Int32).toInt = 3 := rfl
  have e7 : (7 : Int32).toInt = 7 := rfl
  have e8 : (8 : Int32).toInt = 8 := rfl
  have em : (o * 8).toInt = o.toInt * 8 := by rw [mul_I] <;> rw [e8] <;> omega
  have ea : (o * 8 + p).toInt = o.toInt * 8 + p.toInt := by rw [add_I] <;> rw [em] <;> omega
  exact ⟨inb_I (by omega) (by omega), ea⟩
theorem inb_le {x : Int32} {m : Int32} {n : Nat} (h0 : ¬ x < 0) (h1 : ¬ m < x) (hm : m.toInt < n) : inb x n := by
  rw [lt_I] at h0 h1
  have e0 : (0 : Int32).toInt = 0 := rfl
  exact inb_I (by omega) (by omega)
theorem inb_lt {x : Int32} {m : Int32} {n : Nat} (h0 : ¬ x < 0) (h1 : x < m) (hm : m.toInt ≤ n) : inb x n := by
  rw [lt_I] at h0 h1
  have e0 : (0 : Int32).toInt = 0 := rfl
  exact inb_I (by omega) (by omega)
theorem rem_N {a N : Nat} (ha : a < 2147483648) (hN : N < 2147483648) (h0 : 0 < N) : Int32.ofNat a % Int32.ofNat N = Int32.ofNat (a % N) := by
  have h1 : a % N < N := Nat.mod_lt _ h0
  rw [← Int32.toInt_inj, Int32.toInt_mod, N_toInt ha, N_toInt hN, N_toInt (by omega)]
  rw [Int.tmod_eq_emod_of_nonneg (by omega)]
  rfl
/-- the rule of a loop that counts from i to N: P before each turn; Q of what it gives -/
theorem loopP {α β : Type} {F : Nat → Int32 → α → Option β} {N : Nat} {P : Nat → α → Prop} {Q : β → Prop}
    (hF : ∀ k i s, i < N → P i s → (∃ s', F (k + 1) (Int32.ofNat i) s = F k (Int32.ofNat i + 1) s' ∧ P (i + 1) s') ∨ ∃ r, F (k + 1) (Int32.ofNat i) s = some r ∧ Q r)
    (hE : ∀ k s, P N s → ∃ r, F (k + 1) (Int32.ofNat N) s = some r ∧ Q r) :
    ∀ m i k s, i + m = N → m < k → P i s → ∃ r, F k (Int32.ofNat i) s = some r ∧ Q r := by
  intro m
  induction m with
  | zero =>
    intro i k s hi hk hp
    obtain ⟨k, rfl⟩ : ∃ k', k = k' + 1 := ⟨k - 1, by omega⟩
    have : i = N := by omega
    subst this
    exact hE k s hp
  | succ m ih =>
    intro i k s hi hk hp
    obtain ⟨k, rfl⟩ : ∃ k', k = k' + 1 := ⟨k - 1, by omega⟩
    rcases hF k i s (by omega) hp with ⟨s', e, hp'⟩ | h
    · rw [e, N_succ]
      exact ih (i + 1) k s' (by omega) (by omega) hp'
    · exact h
theorem ltN {i j : Nat} (h : i < j) (hj : j < 2147483648) : Int32.ofNat i < Int32.ofNat j := (N_lt (by omega) hj).mpr h
theorem ltZ {i : Nat} {z : Int32} (N : Nat) (hz : Int32.ofNat N = z) (h : i < N) (hN : N < 2147483648) : Int32.ofNat i < z := hz ▸ ltN h hN
theorem nltN {i : Nat} (hi : i < 2147483648) : ¬ Int32.ofNat i < Int32.ofNat i := fun q => by rw [N_lt hi hi] at q; omega
theorem inbN {i n : Nat} (h : i < n) (hi : i < 2147483648) : inb (Int32.ofNat i) n := (inb_N hi).mpr h
def own_cl (a lo hi : Int32) : Int32 := if a < lo then lo else if hi < a then hi else a
theorem own_cl_rng {a lo hi : Int32} (h : ¬ hi < lo) : lo.toInt ≤ (own_cl a lo hi).toInt ∧ (own_cl a lo hi).toInt ≤ hi.toInt := by
  unfold own_cl
  rw [lt_I] at h
  split
  · omega
  · rename_i q; rw [lt_I] at q
    split
    · omega
    · rename_i q2; rw [lt_I] at q2; omega
theorem own_nat {x : Int32} {lo hi : Nat} (h1 : (lo : Int) ≤ x.toInt) (h2 : x.toInt ≤ hi) : ∃ N : Nat, x = Int32.ofNat N ∧ lo ≤ N ∧ N ≤ hi := by
  have := rng x
  refine ⟨x.toInt.toNat, ?_, by omega, by omega⟩
  rw [← Int32.toInt_inj, N_toInt (by omega)]; omega
theorem own_clN (a : Int32) {lo hi : Nat} (h : lo ≤ hi) (hi' : hi < 2147483648) : ∃ N : Nat, own_cl a (Int32.ofNat lo) (Int32.ofNat hi) = Int32.ofNat N ∧ lo ≤ N ∧ N ≤ hi := by
  have q := own_cl_rng (a := a) (lo := Int32.ofNat lo) (hi := Int32.ofNat hi) (fun q => by rw [N_lt (by omega) (by omega)] at q; omega)
  rw [N_toInt (by omega), N_toInt (by omega)] at q
  exact own_nat q.1 q.2
end Jvm.Own
namespace Jvm.Pilot.@@N@@
open Jvm Jvm.ClassFile Sem Op Lib Jvm.Free Jvm.Stand Jvm.LawKit Jvm.RoadKit Bundle Jvm.Pilot.@@N@@.Jvm.D Jvm.Own
/-! ### the class and its words (printed by a program of this repo) -/
abbrev GT := State × Array Value × Launch × Option Addr × Nat
def flds : List Fd := [("OP_END", "I", FieldType.int), ("OP_VAR", "I", FieldType.int), ("OP_CONST", "I", FieldType.int), ("OP_ADD", "I", FieldType.int), ("OP_SUB", "I", FieldType.int), ("OP_MUL", "I", FieldType.int), ("OP_LT", "I", FieldType.int), ("OP_EQ", "I", FieldType.int), ("OP_TRUE", "I", FieldType.int), ("OP_FALSE", "I", FieldType.int), ("OP_NOT", "I", FieldType.int), ("OP_AND", "I", FieldType.int), ("OP_OR", "I", FieldType.int), ("S_ASSIGN", "I", FieldType.int), ("S_IF", "I", FieldType.int), ("S_WHILE", "I", FieldType.int), ("T_FORM", "I", FieldType.int), ("T_FORM_REST", "I", FieldType.int), ("T_CONJ", "I", FieldType.int), ("T_CONJ_REST", "I", FieldType.int), ("T_LIT", "I", FieldType.int), ("T_REL", "I", FieldType.int), ("T_EXPR", "I", FieldType.int), ("T_EXPR_REST", "I", FieldType.int), ("T_TERM", "I", FieldType.int), ("T_TERM_REST", "I", FieldType.int), ("T_ATOM", "I", FieldType.int), ("T_STMTS", "I", FieldType.int), ("T_STMT", "I", FieldType.int), ("K_EXPECT", "I", FieldType.int), ("K_END", "I", FieldType.int), ("K_BEGIN", "I", FieldType.int), ("K_EMIT", "I", FieldType.int), ("K_OPEN", "I", FieldType.int), ("K_CLOSE", "I", FieldType.int), ("MAX_ST", "I", FieldType.int), ("MAX_IDS", "I", FieldType.int), ("MAX_CODE", "I", FieldType.int), ("MAX_TASKS", "I", FieldType.int), ("buf", "[I", FieldType.array FieldType.int), ("codeOp", "[I", FieldType.array FieldType.int), ("codeArg", "[I", FieldType.array FieldType.int), ("fStart", "[I", FieldType.array FieldType.int), ("stKind", "[I", FieldType.array FieldType.int), ("stVar", "[I", FieldType.array FieldType.int), ("stFirstA", "[I", FieldType.array FieldType.int), ("stFirstB", "[I", FieldType.array FieldType.int), ("stNext", "[I", FieldType.array FieldType.int), ("stParent", "[I", FieldType.array FieldType.int), ("loopStmt", "[I", FieldType.array FieldType.int), ("tkCode", "[I", FieldType.array FieldType.int), ("tkArg", "[I", FieldType.array FieldType.int), ("lsParent", "[I", FieldType.array FieldType.int), ("lsWhich", "[I", FieldType.array FieldType.int), ("lsLast", "[I", FieldType.array FieldType.int), ("vStack", "[I", FieldType.array FieldType.int), ("cap", "I", FieldType.int), ("len", "I", FieldType.int), ("parsed", "Z", FieldType.boolean), ("errPos", "I", FieldType.int), ("cex", "I", FieldType.int), ("hasRun", "Z", FieldType.boolean), ("tkTop", "I", FieldType.int), ("codeLen", "I", FieldType.int), ("stCount", "I", FieldType.int), ("loopCount", "I", FieldType.int), ("lsTop", "I", FieldType.int), ("mainFirst", "I", FieldType.int), ("pPos", "I", FieldType.int), ("pFail", "Z", FieldType.boolean), ("pDone", "Z", FieldType.boolean)]
def GG (g : GT) : Ctx := (g.1, g.2.1, g.2.2.1, g.2.2.2.1, g.2.2.2.2, "VcGenerator", flds, 78)
def HW (g : GT) : Prop := ∀ d ∈ tables_1, d.before g.2.1 g.1 = true
def al : List (Nat × Bool) := [(39, false), (40, false), (41, false), (42, false), (43, false), (44, false), (45, false), (46, false), (47, false), (48, false), (49, false), (50, false), (51, false), (52, false), (53, false), (54, false), (55, false)]
def Ln (j : Nat) : Nat := [0, 0, 0, 0, 0, 0, 0, 0, 0, 0, 0, 0, 0, 0, 0, 0, 0, 0, 0, 0, 0, 0, 0, 0, 0, 0, 0, 0, 0, 0, 0, 0, 0, 0, 0, 0, 0, 0, 0, 128, 512, 512, 160, 64, 64, 64, 64, 64, 64, 64, 1024, 1024, 64, 64, 64, 512, 0, 0, 0, 0, 0, 0, 0, 0, 0, 0, 0, 0, 0, 0, 0].getD j 0
def dfl : List Value := [.int 0, .int 0, .int 0, .int 0, .int 0, .int 0, .int 0, .int 0, .int 0, .int 0, .int 0, .int 0, .int 0, .int 0, .int 0, .int 0, .int 0, .int 0, .int 0, .int 0, .int 0, .int 0, .int 0, .int 0, .int 0, .int 0, .int 0, .int 0, .int 0, .int 0, .int 0, .int 0, .int 0, .int 0, .int 0, .int 0, .int 0, .int 0, .int 0, .null, .null, .null, .null, .null, .null, .null, .null, .null, .null, .null, .null, .null, .null, .null, .null, .null, .int 0, .int 0, .int 0, .int 0, .int 0, .int 0, .int 0, .int 0, .int 0, .int 0, .int 0, .int 0, .int 0, .int 0, .int 0]
theorem ww {g : GT} (hw : HW g) (k : Nat) {d : Jvm.Cond} (h : tables_1[k]? = some d) : d.before (gA (GG g)) (gZ (GG g)) = true := hw _ (List.mem_of_getElem? h)
theorem fld_nd : (flds.map (·.1)).Nodup := by decide +kernel
theorem al_ok : alOk flds al = true := by decide +kernel
theorem al_nd : (al.map (·.1)).Nodup := by decide +kernel
theorem gok {g : GT} (hw : HW g) : GOk (GG g) := gok_of ⟨⟨Or.inr (ww hw 10 rfl), by decide⟩, ⟨Or.inr (ww hw 12 rfl), by decide⟩, ⟨Or.inr (ww hw 14 rfl), by decide⟩, ⟨Or.inr (ww hw 16 rfl), by decide⟩, ⟨Or.inr (ww hw 18 rfl), by decide⟩, ⟨Or.inr (ww hw 20 rfl), by decide⟩, ⟨Or.inr (ww hw 22 rfl), by decide⟩, ⟨Or.inr (ww hw 24 rfl), by decide⟩, ⟨Or.inr (ww hw 26 rfl), by decide⟩, ⟨Or.inr (ww hw 28 rfl), by decide⟩, ⟨Or.inr (ww hw 30 rfl), by decide⟩, ⟨Or.inr (ww hw 32 rfl), by decide⟩, ⟨Or.inr (ww hw 34 rfl), by decide⟩, ⟨Or.inr (ww hw 36 rfl), by decide⟩, ⟨Or.inr (ww hw 38 rfl), by decide⟩, ⟨Or.inr (ww hw 40 rfl), by decide⟩, ⟨Or.inr (ww hw 42 rfl), by decide⟩, ⟨Or.inr (ww hw 44 rfl), by decide⟩, ⟨Or.inr (ww hw 46 rfl), by decide⟩, ⟨Or.inr (ww hw 48 rfl), by decide⟩, ⟨Or.inr (ww hw 50 rfl), by decide⟩, ⟨Or.inr (ww hw 52 rfl), by decide⟩, ⟨Or.inr (ww hw 54 rfl), by decide⟩, ⟨Or.inr (ww hw 56 rfl), by decide⟩, ⟨Or.inr (ww hw 58 rfl), by decide⟩, ⟨Or.inr (ww hw 60 rfl), by decide⟩, ⟨Or.inr (ww hw 62 rfl), by decide⟩, ⟨Or.inr (ww hw 64 rfl), by decide⟩, ⟨Or.inr (ww hw 66 rfl), by decide⟩, ⟨Or.inr (ww hw 68 rfl), by decide⟩, ⟨Or.inr (ww hw 70 rfl), by decide⟩, ⟨Or.inr (ww hw 72 rfl), by decide⟩, ⟨Or.inr (ww hw 74 rfl), by decide⟩, ⟨Or.inr (ww hw 76 rfl), by decide⟩, ⟨Or.inr (ww hw 78 rfl), by decide⟩, ⟨Or.inr (ww hw 80 rfl), by decide⟩, ⟨Or.inr (ww hw 82 rfl), by decide⟩, ⟨Or.inr (ww hw 84 rfl), by decide⟩, ⟨Or.inr (ww hw 86 rfl), by decide⟩, ⟨Or.inr (ww hw 89 rfl), by decide⟩, ⟨Or.inr (ww hw 91 rfl), by decide⟩, ⟨Or.inr (ww hw 93 rfl), by decide⟩, ⟨Or.inr (ww hw 95 rfl), by decide⟩, ⟨Or.inr (ww hw 97 rfl), by decide⟩, ⟨Or.inr (ww hw 99 rfl), by decide⟩, ⟨Or.inr (ww hw 101 rfl), by decide⟩, ⟨Or.inr (ww hw 103 rfl), by decide⟩, ⟨Or.inr (ww hw 105 rfl), by decide⟩, ⟨Or.inr (ww hw 107 rfl), by decide⟩, ⟨Or.inr (ww hw 109 rfl), by decide⟩, ⟨Or.inr (ww hw 111 rfl), by decide⟩, ⟨Or.inr (ww hw 113 rfl), by decide⟩, ⟨Or.inr (ww hw 115 rfl), by decide⟩, ⟨Or.inr (ww hw 117 rfl), by decide⟩, ⟨Or.inr (ww hw 119 rfl), by decide⟩, ⟨Or.inr (ww hw 121 rfl), by decide⟩, ⟨Or.inl (ww hw 123 rfl), by decide⟩, ⟨Or.inl (ww hw 125 rfl), by decide⟩, ⟨Or.inl (ww hw 131 rfl), by decide⟩, ⟨Or.inl (ww hw 133 rfl), by decide⟩, ⟨Or.inl (ww hw 135 rfl), by decide⟩, ⟨Or.inl (ww hw 137 rfl), by decide⟩, ⟨Or.inl (ww hw 148 rfl), by decide⟩, ⟨Or.inl (ww hw 150 rfl), by decide⟩, ⟨Or.inl (ww hw 152 rfl), by decide⟩, ⟨Or.inl (ww hw 154 rfl), by decide⟩, ⟨Or.inl (ww hw 156 rfl), by decide⟩, ⟨Or.inl (ww hw 158 rfl), by decide⟩, ⟨Or.inl (ww hw 160 rfl), by decide⟩, ⟨Or.inl (ww hw 162 rfl), by decide⟩, ⟨Or.inl (ww hw 164 rfl), by decide⟩, trivial⟩ fld_nd (ww hw 1 rfl) (ww hw 2 rfl)
theorem pcls : plainName "VcGenerator" = true := by first | (simp [plainName, overriddenIn]; done) | decide +kernel
theorem pclsL : plainName "VcGeneratorL2" = true := by first | (simp [plainName, overriddenIn]; done) | decide +kernel
theorem nmh : "VcGenerator" ≠ "java/lang/invoke/MethodHandle" ∧ "VcGenerator" ≠ "java/lang/invoke/VarHandle" := by decide
theorem nmhL : "VcGeneratorL2" ≠ "java/lang/invoke/MethodHandle" ∧ "VcGeneratorL2" ≠ "java/lang/invoke/VarHandle" := by decide
def M_clearResults : Mi := ((⟨"VcGenerator", "clearResults", "()V"⟩ : MethodName), prog_1_method_16_code, 1, none, 0, 0)
theorem pl_clearResults : plainFor (mN M_clearResults) = true := plainFor_of_name pcls
theorem nm_clearResults : notMH M_clearResults := nmh
theorem pd_clearResults : parseMethodDescriptor (mN M_clearResults).desc = some ⟨[], none⟩ := by decide +kernel
def M_ctor : Mi := ((⟨"VcGenerator", "<init>", "(I)V"⟩ : MethodName), prog_1_method_1_code, 3, none, 1, 12)
theorem pl_ctor : plainFor (mN M_ctor) = true := plainFor_of_name pcls
theorem nm_ctor : notMH M_ctor := nmh
theorem pd_ctor : parseMethodDescriptor (mN M_ctor).desc = some ⟨[.int], none⟩ := by decide +kernel
def M_push : Mi := ((⟨"VcGenerator", "push", "(II)V"⟩ : MethodName), prog_1_method_24_code, 3, none, 0, 0)
theorem pl_push : plainFor (mN M_push) = true := plainFor_of_name pcls
theorem nm_push : notMH M_push := nmh
theorem pd_push : parseMethodDescriptor (mN M_push).desc = some ⟨[.int, .int], none⟩ := by decide +kernel
def M_pushProgram : Mi := ((⟨"VcGenerator", "pushProgram", "()V"⟩ : MethodName), prog_1_method_22_code, 1, none, 1, 14)
theorem pl_pushProgram : plainFor (mN M_pushProgram) = true := plainFor_of_name pcls
theorem nm_pushProgram : notMH M_pushProgram := nmh
theorem pd_pushProgram : parseMethodDescriptor (mN M_pushProgram).desc = some ⟨[], none⟩ := by decide +kernel
def M_la : Mi := ((⟨"VcGenerator", "la", "()I"⟩ : MethodName), prog_1_method_23_code, 1, (some .int), 0, 0)
theorem pl_la : plainFor (mN M_la) = true := plainFor_of_name pcls
theorem nm_la : notMH M_la := nmh
theorem pd_la : parseMethodDescriptor (mN M_la).desc = some ⟨[], some .int⟩ := by decide +kernel
def M_stepAction : Mi := ((⟨"VcGenerator", "stepAction", "(II)V"⟩ : MethodName), prog_1_method_37_code, 3, none, 1, 12)
theorem pl_stepAction : plainFor (mN M_stepAction) = true := plainFor_of_name pcls
theorem nm_stepAction : notMH M_stepAction := nmh
theorem pd_stepAction : parseMethodDescriptor (mN M_stepAction).desc = some ⟨[.int, .int], none⟩ := by decide +kernel
def M_step : Mi := ((⟨"VcGenerator", "step", "(II)V"⟩ : MethodName), prog_1_method_26_code, 3, none, 2, 26)
theorem pl_step : plainFor (mN M_step) = true := plainFor_of_name pcls
theorem nm_step : notMH M_step := nmh
theorem pd_step : parseMethodDescriptor (mN M_step).desc = some ⟨[.int, .int], none⟩ := by decide +kernel
def M_doParse : Mi := ((⟨"VcGenerator", "doParse", "()Z"⟩ : MethodName), prog_1_method_21_code, 2, (some .boolean), 3, 40)
theorem pl_doParse : plainFor (mN M_doParse) = true := plainFor_of_name pcls
theorem nm_doParse : notMH M_doParse := nmh
theorem pd_doParse : parseMethodDescriptor (mN M_doParse).desc = some ⟨[], some .boolean⟩ := by decide +kernel
def M_parse : Mi := ((⟨"VcGenerator", "parse", "()I"⟩ : MethodName), prog_1_method_6_code, 2, (some .int), 4, 53)
theorem pl_parse : plainFor (mN M_parse) = true := plainFor_of_name pcls
theorem nm_parse : notMH M_parse := nmh
theorem pd_parse : parseMethodDescriptor (mN M_parse).desc = some ⟨[], some .int⟩ := by decide +kernel
def M_errorPosition : Mi := ((⟨"VcGenerator", "errorPosition", "()I"⟩ : MethodName), prog_1_method_7_code, 1, (some .int), 0, 0)
theorem pl_errorPosition : plainFor (mN M_errorPosition) = true := plainFor_of_name pcls
theorem nm_errorPosition : notMH M_errorPosition := nmh
theorem pd_errorPosition : parseMethodDescriptor (mN M_errorPosition).desc = some ⟨[], some .int⟩ := by decide +kernel
def M_varIndex : Mi := ((⟨"VcGenerator", "varIndex", "(I)I"⟩ : MethodName), prog_1_method_17_code, 2, (some .int), 0, 0)
theorem pl_varIndex : plainFor (mN M_varIndex) = true := plainFor_of_name pcls
theorem nm_varIndex : notMH M_varIndex := nmh
theorem pd_varIndex : parseMethodDescriptor (mN M_varIndex).desc = some ⟨[.int], some .int⟩ := by decide +kernel
def M_accepted : Mi := ((⟨"VcGenerator", "accepted", "(I)Z"⟩ : MethodName), prog_1_method_18_code, 2, (some .boolean), 1, 13)
theorem pl_accepted : plainFor (mN M_accepted) = true := plainFor_of_name pcls
theorem nm_accepted : notMH M_accepted := nmh
theorem pd_accepted : parseMethodDescriptor (mN M_accepted).desc = some ⟨[.int], some .boolean⟩ := by decide +kernel
def M_addChar : Mi := ((⟨"VcGenerator", "addChar", "(I)I"⟩ : MethodName), prog_1_method_2_code, 2, (some .int), 2, 26)
theorem pl_addChar : plainFor (mN M_addChar) = true := plainFor_of_name pcls
theorem nm_addChar : notMH M_addChar := nmh
theorem pd_addChar : parseMethodDescriptor (mN M_addChar).desc = some ⟨[.int], some .int⟩ := by decide +kernel
def M_length : Mi := ((⟨"VcGenerator", "length", "()I"⟩ : MethodName), prog_1_method_4_code, 1, (some .int), 0, 0)
theorem pl_length : plainFor (mN M_length) = true := plainFor_of_name pcls
theorem nm_length : notMH M_length := nmh
theorem pd_length : parseMethodDescriptor (mN M_length).desc = some ⟨[], some .int⟩ := by decide +kernel
def M_charAt : Mi := ((⟨"VcGenerator", "charAt", "(I)I"⟩ : MethodName), prog_1_method_5_code, 2, (some .int), 0, 0)
theorem pl_charAt : plainFor (mN M_charAt) = true := plainFor_of_name pcls
theorem nm_charAt : notMH M_charAt := nmh
theorem pd_charAt : parseMethodDescriptor (mN M_charAt).desc = some ⟨[.int], some .int⟩ := by decide +kernel
def M_vcCount : Mi := ((⟨"VcGenerator", "vcCount", "()I"⟩ : MethodName), prog_1_method_8_code, 1, (some .int), 0, 0)
theorem pl_vcCount : plainFor (mN M_vcCount) = true := plainFor_of_name pcls
theorem nm_vcCount : notMH M_vcCount := nmh
theorem pd_vcCount : parseMethodDescriptor (mN M_vcCount).desc = some ⟨[], some .int⟩ := by decide +kernel
def M_haccepted : Mi := ((⟨"VcGeneratorL2", "accepted", "(I)Z"⟩ : MethodName), method_2_code, 1, (some .boolean), 0, 0)
theorem pl_haccepted : plainFor (mN M_haccepted) = true := plainFor_of_name pclsL
theorem nm_haccepted : notMH M_haccepted := nmhL
theorem pd_haccepted : parseMethodDescriptor (mN M_haccepted).desc = some ⟨[.int], some .boolean⟩ := by decide +kernel
def M_law : Mi := (x, code, maxLocals, ret, 5, 66)
theorem pl_law : plainFor (mN M_law) = true := plainFor_of_name (by first | (simp [plainName, overriddenIn, x]; done) | decide +kernel)
def c2 : List (Nat × Instr × Nat) := [(0, .aload_n 0, 1), (1, .iconst 0, 1), (2, .putfield 196, 3), (5, .aload_n 0, 1), (6, .iconst (-1), 1), (7, .putfield 203, 3), (10, .aload_n 0, 1), (11, .iconst (-1), 1), (12, .putfield 213, 3), (15, .aload_n 0, 1), (16, .iconst 0, 1), (17, .putfield 235, 3), (20, .return_, 1)]
theorem D2 : decs prog_1_method_16_code c2 = true := by decide +kernel
theorem d2 (k : Nat) {p : Nat} {i : Instr} {n : Nat} (h : c2[k]? = some (p, i, n)) : decode prog_1_method_16_code p = .ok (i, n) := dget D2 h
def c0 : List (Nat × Instr × Nat) := [(0, .aload_n 0, 1), (1, .invokespecial 1, 3), (4, .aload_n 0, 1), (5, .iconst 0, 1), (6, .putfield 7, 3), (9, .aload_n 0, 1), (10, .iconst 1, 1), (11, .putfield 13, 3), (14, .aload_n 0, 1), (15, .iconst 2, 1), (16, .putfield 16, 3), (19, .aload_n 0, 1), (20, .iconst 3, 1), (21, .putfield 19, 3), (24, .aload_n 0, 1), (25, .iconst 4, 1), (26, .putfield 22, 3), (29, .aload_n 0, 1), (30, .iconst 5, 1), (31, .putfield 25, 3), (34, .aload_n 0, 1), (35, .bipush 6, 2), (37, .putfield 28, 3), (40, .aload_n 0, 1), (41, .bipush 7, 2), (43, .putfield 31, 3), (46, .aload_n 0, 1), (47, .bipush 8, 2), (49, .putfield 34, 3), (52, .aload_n 0, 1), (53, .bipush 9, 2), (55, .putfield 37, 3), (58, .aload_n 0, 1), (59, .bipush 10, 2), (61, .putfield 40, 3), (64, .aload_n 0, 1), (65, .bipush 11, 2), (67, .putfield 43, 3), (70, .aload_n 0, 1), (71, .bipush 12, 2), (73, .putfield 46, 3), (76, .aload_n 0, 1), (77, .iconst 0, 1), (78, .putfield 49, 3), (81, .aload_n 0, 1), (82, .iconst 1, 1), (83, .putfield 52, 3), (86, .aload_n 0, 1), (87, .iconst 2, 1), (88, .putfield 55, 3), (91, .aload_n 0, 1), (92, .iconst 1, 1), (93, .putfield 58, 3), (96, .aload_n 0, 1), (97, .iconst 2, 1), (98, .putfield 61, 3), (101, .aload_n 0, 1), (102, .iconst 3, 1), (103, .putfield 64, 3), (106, .aload_n 0, 1), (107, .iconst 4, 1), (108, .putfield 67, 3), (111, .aload_n 0, 1), (112, .iconst 5, 1), (113, .putfield 70, 3), (116, .aload_n 0, 1), (117, .bipush 6, 2), (119, .putfield 73, 3), (122, .aload_n 0, 1), (123, .bipush 7, 2), (125, .putfield 76, 3), (128, .aload_n 0, 1), (129, .bipush 8, 2), (131, .putfield 79, 3), (134, .aload_n 0, 1), (135, .bipush 9, 2), (137, .putfield 82, 3), (140, .aload_n 0, 1), (141, .bipush 10, 2), (143, .putfield 85, 3), (146, .aload_n 0, 1), (147, .bipush 11, 2), (149, .putfield 88, 3), (152, .aload_n 0, 1), (153, .bipush 12, 2), (155, .putfield 91, 3), (158, .aload_n 0, 1), (159, .bipush 13, 2), (161, .putfield 94, 3), (164, .aload_n 0, 1), (165, .bipush 14, 2), (167, .putfield 97, 3), (170, .aload_n 0, 1), (171, .bipush 15, 2), (173, .putfield 100, 3), (176, .aload_n 0, 1), (177, .bipush 16, 2), (179, .putfield 103, 3), (182, .aload_n 0, 1), (183, .bipush 17, 2), (185, .putfield 106, 3), (188, .aload_n 0, 1), (189, .bipush 18, 2), (191, .putfield 109, 3), (194, .aload_n 0, 1), (195, .bipush 19, 2), (197, .putfield 112, 3), (200, .aload_n 0, 1), (201, .bipush 64, 2), (203, .putfield 115, 3), (206, .aload_n 0, 1), (207, .sipush 160, 3), (210, .putfield 118, 3), (213, .aload_n 0, 1), (214, .sipush 512, 3), (217, .putfield 121, 3), (220, .aload_n 0, 1), (221, .sipush 1024, 3), (224, .putfield 124, 3), (227, .aload_n 0, 1), (228, .sipush 128, 3), (231, .newarray .int, 2), (233, .putfield 127, 3), (236, .aload_n 0, 1), (237, .sipush 512, 3), (240, .newarray .int, 2), (242, .putfield 131, 3), (245, .aload_n 0, 1), (246, .sipush 512, 3), (249, .newarray .int, 2), (251, .putfield 134, 3), (254, .aload_n 0, 1), (255, .sipush 160, 3), (258, .newarray .int, 2), (260, .putfield 137, 3), (263, .aload_n 0, 1), (264, .bipush 64, 2), (266, .newarray .int, 2), (268, .putfield 140, 3), (271, .aload_n 0, 1), (272, .bipush 64, 2), (274, .newarray .int, 2), (276, .putfield 143, 3), (279, .aload_n 0, 1), (280, .bipush 64, 2), (282, .newarray .int, 2), (284, .putfield 146, 3), (287, .aload_n 0, 1), (288, .bipush 64, 2), (290, .newarray .int, 2), (292, .putfield 149, 3), (295, .aload_n 0, 1), (296, .bipush 64, 2), (298, .newarray .int, 2), (300, .putfield 152, 3), (303, .aload_n 0, 1), (304, .bipush 64, 2), (306, .newarray .int, 2), (308, .putfield 155, 3), (311, .aload_n 0, 1), (312, .bipush 64, 2), (314, .newarray .int, 2), (316, .putfield 158, 3), (319, .aload_n 0, 1), (320, .sipush 1024, 3), (323, .newarray .int, 2), (325, .putfield 161, 3), (328, .aload_n 0, 1), (329, .sipush 1024, 3), (332, .newarray .int, 2), (334, .putfield 164, 3), (337, .aload_n 0, 1), (338, .bipush 64, 2), (340, .newarray .int, 2), (342, .putfield 167, 3), (345, .aload_n 0, 1), (346, .bipush 64, 2), (348, .newarray .int, 2), (350, .putfield 170, 3), (353, .aload_n 0, 1), (354, .bipush 64, 2), (356, .newarray .int, 2), (358, .putfield 173, 3), (361, .aload_n 0, 1), (362, .sipush 512, 3), (365, .newarray .int, 2), (367, .putfield 176, 3), (370, .iload_n 1, 1), (371, .istore_n 2, 1), (372, .iload_n 2, 1), (373, .bipush 8, 2), (375, .if_icmp .ge 6, 3), (378, .bipush 8, 2), (380, .istore_n 2, 1), (381, .iload_n 2, 1), (382, .sipush 128, 3), (385, .if_icmp .le 7, 3), (388, .sipush 128, 3), (391, .istore_n 2, 1), (392, .aload_n 0, 1), (393, .iload_n 2, 1), (394, .putfield 179, 3), (397, .aload_n 0, 1), (398, .iconst 0, 1), (399, .putfield 182, 3), (402, .aload_n 0, 1), (403, .invokevirtual 185, 3), (406, .return_, 1)]
theorem D0 : decs prog_1_method_1_code c0 = true := by decide +kernel
theorem d0 (k : Nat) {p : Nat} {i : Instr} {n : Nat} (h : c0[k]? = some (p, i, n)) : decode prog_1_method_1_code p = .ok (i, n) := dget D0 h
def c6 : List (Nat × Instr × Nat) := [(0, .aload_n 0, 1), (1, .getfield 253, 3), (4, .sipush 1024, 3), (7, .if_icmp .lt 9, 3), (10, .aload_n 0, 1), (11, .iconst 1, 1), (12, .putfield 265, 3), (15, .return_, 1), (16, .aload_n 0, 1), (17, .getfield 161, 3), (20, .aload_n 0, 1), (21, .getfield 253, 3), (24, .iload_n 1, 1), (25, .iastore, 1), (26, .aload_n 0, 1), (27, .getfield 164, 3), (30, .aload_n 0, 1), (31, .getfield 253, 3), (34, .iload_n 2, 1), (35, .iastore, 1), (36, .aload_n 0, 1), (37, .dup, 1), (38, .getfield 253, 3), (41, .iconst 1, 1), (42, .iadd, 1), (43, .putfield 253, 3), (46, .return_, 1)]
theorem D6 : decs prog_1_method_24_code c6 = true := by decide +kernel
theorem d6 (k : Nat) {p : Nat} {i : Instr} {n : Nat} (h : c6[k]? = some (p, i, n)) : decode prog_1_method_24_code p = .ok (i, n) := dget D6 h
def c5 : List (Nat × Instr × Nat) := [(0, .aload_n 0, 1), (1, .bipush 15, 2), (3, .iconst 0, 1), (4, .invokevirtual 279, 3), (7, .aload_n 0, 1), (8, .bipush 17, 2), (10, .iconst 0, 1), (11, .invokevirtual 279, 3), (14, .aload_n 0, 1), (15, .iconst 1, 1), (16, .iconst 0, 1), (17, .invokevirtual 279, 3), (20, .aload_n 0, 1), (21, .bipush 16, 2), (23, .iconst 1, 1), (24, .invokevirtual 279, 3), (27, .aload_n 0, 1), (28, .bipush 14, 2), (30, .bipush 81, 2), (32, .invokevirtual 279, 3), (35, .aload_n 0, 1), (36, .bipush 19, 2), (38, .iconst 0, 1), (39, .invokevirtual 279, 3), (42, .aload_n 0, 1), (43, .bipush 12, 2), (45, .iconst 0, 1), (46, .invokevirtual 279, 3), (49, .aload_n 0, 1), (50, .bipush 18, 2), (52, .iconst 0, 1), (53, .invokevirtual 279, 3), (56, .aload_n 0, 1), (57, .bipush 14, 2), (59, .bipush 59, 2), (61, .invokevirtual 279, 3), (64, .aload_n 0, 1), (65, .bipush 17, 2), (67, .iconst 0, 1), (68, .invokevirtual 279, 3), (71, .aload_n 0, 1), (72, .iconst 1, 1), (73, .iconst 0, 1), (74, .invokevirtual 279, 3), (77, .aload_n 0, 1), (78, .bipush 16, 2), (80, .iconst 0, 1), (81, .invokevirtual 279, 3), (84, .aload_n 0, 1), (85, .bipush 14, 2), (87, .bipush 80, 2), (89, .invokevirtual 279, 3), (92, .return_, 1)]
theorem D5 : decs prog_1_method_22_code c5 = true := by decide +kernel
theorem d5 (k : Nat) {p : Nat} {i : Instr} {n : Nat} (h : c5[k]? = some (p, i, n)) : decode prog_1_method_22_code p = .ok (i, n) := dget D5 h
def c9 : List (Nat × Instr × Nat) := [(0, .aload_n 0, 1), (1, .getfield 200, 3), (4, .ifCond .lt 24, 3), (7, .aload_n 0, 1), (8, .getfield 200, 3), (11, .aload_n 0, 1), (12, .getfield 182, 3), (15, .if_icmp .ge 13, 3), (18, .aload_n 0, 1), (19, .getfield 127, 3), (22, .aload_n 0, 1), (23, .getfield 200, 3), (26, .iaload, 1), (27, .ireturn, 1), (28, .iconst (-1), 1), (29, .ireturn, 1)]
theorem D9 : decs prog_1_method_23_code c9 = true := by decide +kernel
theorem d9 (k : Nat) {p : Nat} {i : Instr} {n : Nat} (h : c9[k]? = some (p, i, n)) : decode prog_1_method_23_code p = .ok (i, n) := dget D9 h
def c8 : List (Nat × Instr × Nat) := [(0, .iload_n 1, 1), (1, .bipush 14, 2), (3, .if_icmp .ne 32, 3), (6, .aload_n 0, 1), (7, .invokevirtual 295, 3), (10, .iload_n 2, 1), (11, .if_icmp .ne 16, 3), (14, .aload_n 0, 1), (15, .dup, 1), (16, .getfield 200, 3), (19, .iconst 1, 1), (20, .iadd, 1), (21, .putfield 200, 3), (24, .goto 134, 3), (27, .aload_n 0, 1), (28, .iconst 1, 1), (29, .putfield 265, 3), (32, .goto 126, 3), (35, .iload_n 1, 1), (36, .bipush 15, 2), (38, .if_icmp .ne 30, 3), (41, .aload_n 0, 1), (42, .getfield 200, 3), (45, .aload_n 0, 1), (46, .getfield 182, 3), (49, .if_icmp .ne 11, 3), (52, .aload_n 0, 1), (53, .iconst 1, 1), (54, .putfield 268, 3), (57, .goto 101, 3), (60, .aload_n 0, 1), (61, .iconst 1, 1), (62, .putfield 265, 3), (65, .goto 93, 3), (68, .iload_n 1, 1), (69, .bipush 16, 2), (71, .if_icmp .ne 27, 3), (74, .iload_n 2, 1), (75, .ifCond .lt 83, 3), (78, .iload_n 2, 1), (79, .sipush 160, 3), (82, .if_icmp .ge 76, 3), (85, .aload_n 0, 1), (86, .getfield 137, 3), (89, .iload_n 2, 1), (90, .aload_n 0, 1), (91, .getfield 256, 3), (94, .iastore, 1), (95, .goto 63, 3), (98, .iload_n 1, 1), (99, .bipush 17, 2), (101, .if_icmp .ne 12, 3), (104, .aload_n 0, 1), (105, .iload_n 2, 1), (106, .iconst 0, 1), (107, .invokevirtual 306, 3), (110, .goto 48, 3), (113, .iload_n 1, 1), (114, .bipush 18, 2), (116, .if_icmp .ne 11, 3), (119, .aload_n 0, 1), (120, .iload_n 2, 1), (121, .invokevirtual 330, 3), (124, .goto 34, 3), (127, .iload_n 1, 1), (128, .bipush 19, 2), (130, .if_icmp .ne 23, 3), (133, .aload_n 0, 1), (134, .getfield 262, 3), (137, .ifCond .le 21, 3), (140, .aload_n 0, 1), (141, .dup, 1), (142, .getfield 262, 3), (145, .iconst 1, 1), (146, .isub, 1), (147, .putfield 262, 3), (150, .goto 8, 3), (153, .aload_n 0, 1), (154, .iconst 1, 1), (155, .putfield 265, 3), (158, .return_, 1)]
theorem D8 : decs prog_1_method_37_code c8 = true := by decide +kernel
theorem d8 (k : Nat) {p : Nat} {i : Instr} {n : Nat} (h : c8[k]? = some (p, i, n)) : decode prog_1_method_37_code p = .ok (i, n) := dget D8 h
def c7 : List (Nat × Instr × Nat) := [(0, .iload_n 1, 1), (1, .bipush 6, 2), (3, .if_icmp .gt 11, 3), (6, .aload_n 0, 1), (7, .iload_n 1, 1), (8, .invokevirtual 282, 3), (11, .goto 37, 3), (14, .iload_n 1, 1), (15, .bipush 11, 2), (17, .if_icmp .gt 11, 3), (20, .aload_n 0, 1), (21, .iload_n 1, 1), (22, .invokevirtual 286, 3), (25, .goto 23, 3), (28, .iload_n 1, 1), (29, .bipush 13, 2), (31, .if_icmp .gt 11, 3), (34, .aload_n 0, 1), (35, .iload_n 1, 1), (36, .invokevirtual 289, 3), (39, .goto 9, 3), (42, .aload_n 0, 1), (43, .iload_n 1, 1), (44, .iload_n 2, 1), (45, .invokevirtual 292, 3), (48, .return_, 1)]
theorem D7 : decs prog_1_method_26_code c7 = true := by decide +kernel
theorem d7 (k : Nat) {p : Nat} {i : Instr} {n : Nat} (h : c7[k]? = some (p, i, n)) : decode prog_1_method_26_code p = .ok (i, n) := dget D7 h
def c4 : List (Nat × Instr × Nat) := [(0, .aload_n 0, 1), (1, .iconst 0, 1), (2, .putfield 253, 3), (5, .aload_n 0, 1), (6, .iconst 0, 1), (7, .putfield 256, 3), (10, .aload_n 0, 1), (11, .iconst 0, 1), (12, .putfield 259, 3), (15, .aload_n 0, 1), (16, .iconst 0, 1), (17, .putfield 206, 3), (20, .aload_n 0, 1), (21, .iconst 0, 1), (22, .putfield 262, 3), (25, .aload_n 0, 1), (26, .iconst (-1), 1), (27, .putfield 228, 3), (30, .aload_n 0, 1), (31, .iconst 0, 1), (32, .putfield 200, 3), (35, .aload_n 0, 1), (36, .iconst 0, 1), (37, .putfield 265, 3), (40, .aload_n 0, 1), (41, .iconst 0, 1), (42, .putfield 268, 3), (45, .aload_n 0, 1), (46, .invokevirtual 271, 3), (49, .iconst 0, 1), (50, .istore_n 1, 1), (51, .iload_n 1, 1), (52, .ldc_w 274, 3), (55, .if_icmp .ge 73, 3), (58, .aload_n 0, 1), (59, .getfield 265, 3), (62, .ifCond .ne 66, 3), (65, .aload_n 0, 1), (66, .getfield 268, 3), (69, .ifCond .eq 6, 3), (72, .goto 56, 3), (75, .aload_n 0, 1), (76, .getfield 253, 3), (79, .ifCond .gt 11, 3), (82, .aload_n 0, 1), (83, .iconst 1, 1), (84, .putfield 265, 3), (87, .goto 41, 3), (90, .aload_n 0, 1), (91, .dup, 1), (92, .getfield 253, 3), (95, .iconst 1, 1), (96, .isub, 1), (97, .putfield 253, 3), (100, .aload_n 0, 1), (101, .aload_n 0, 1), (102, .getfield 161, 3), (105, .aload_n 0, 1), (106, .getfield 253, 3), (109, .iaload, 1), (110, .aload_n 0, 1), (111, .getfield 164, 3), (114, .aload_n 0, 1), (115, .getfield 253, 3), (118, .iaload, 1), (119, .invokevirtual 275, 3), (122, .iinc 1 1, 3), (125, .goto (-74), 3), (128, .aload_n 0, 1), (129, .getfield 268, 3), (132, .ifCond .eq 14, 3), (135, .aload_n 0, 1), (136, .getfield 265, 3), (139, .ifCond .ne 7, 3), (142, .iconst 1, 1), (143, .goto 4, 3), (146, .iconst 0, 1), (147, .ireturn, 1)]
theorem D4 : decs prog_1_method_21_code c4 = true := by decide +kernel
theorem d4 (k : Nat) {p : Nat} {i : Instr} {n : Nat} (h : c4[k]? = some (p, i, n)) : decode prog_1_method_21_code p = .ok (i, n) := dget D4 h
def c3 : List (Nat × Instr × Nat) := [(0, .aload_n 0, 1), (1, .invokevirtual 185, 3), (4, .aload_n 0, 1), (5, .invokevirtual 192, 3), (8, .istore_n 1, 1), (9, .iload_n 1, 1), (10, .ifCond .eq 10, 3), (13, .aload_n 0, 1), (14, .iconst 1, 1), (15, .putfield 196, 3), (18, .iconst 0, 1), (19, .ireturn, 1), (20, .aload_n 0, 1), (21, .aload_n 0, 1), (22, .getfield 200, 3), (25, .putfield 203, 3), (28, .bipush (-3), 2), (30, .ireturn, 1)]
theorem D3 : decs prog_1_method_6_code c3 = true := by decide +kernel
theorem d3 (k : Nat) {p : Nat} {i : Instr} {n : Nat} (h : c3[k]? = some (p, i, n)) : decode prog_1_method_6_code p = .ok (i, n) := dget D3 h
def c10 : List (Nat × Instr × Nat) := [(0, .aload_n 0, 1), (1, .getfield 203, 3), (4, .ireturn, 1)]
theorem D10 : decs prog_1_method_7_code c10 = true := by decide +kernel
theorem d10 (k : Nat) {p : Nat} {i : Instr} {n : Nat} (h : c10[k]? = some (p, i, n)) : decode prog_1_method_7_code p = .ok (i, n) := dget D10 h
def c13 : List (Nat × Instr × Nat) := [(0, .iload_n 1, 1), (1, .bipush 120, 2), (3, .if_icmp .ne 5, 3), (6, .iconst 0, 1), (7, .ireturn, 1), (8, .iload_n 1, 1), (9, .bipush 121, 2), (11, .if_icmp .ne 5, 3), (14, .iconst 1, 1), (15, .ireturn, 1), (16, .iload_n 1, 1), (17, .bipush 122, 2), (19, .if_icmp .ne 5, 3), (22, .iconst 2, 1), (23, .ireturn, 1), (24, .iconst (-1), 1), (25, .ireturn, 1)]
theorem D13 : decs prog_1_method_17_code c13 = true := by decide +kernel
theorem d13 (k : Nat) {p : Nat} {i : Instr} {n : Nat} (h : c13[k]? = some (p, i, n)) : decode prog_1_method_17_code p = .ok (i, n) := dget D13 h
def c12 : List (Nat × Instr × Nat) := [(0, .aload_n 0, 1), (1, .iload_n 1, 1), (2, .invokevirtual 250, 3), (5, .ifCond .ge 15, 3), (8, .iload_n 1, 1), (9, .bipush 48, 2), (11, .if_icmp .lt 11, 3), (14, .iload_n 1, 1), (15, .bipush 57, 2), (17, .if_icmp .gt 5, 3), (20, .iconst 1, 1), (21, .ireturn, 1), (22, .iload_n 1, 1), (23, .bipush 43, 2), (25, .if_icmp .eq 33, 3), (28, .iload_n 1, 1), (29, .bipush 45, 2), (31, .if_icmp .eq 27, 3), (34, .iload_n 1, 1), (35, .bipush 42, 2), (37, .if_icmp .eq 21, 3), (40, .iload_n 1, 1), (41, .bipush 60, 2), (43, .if_icmp .eq 15, 3), (46, .iload_n 1, 1), (47, .bipush 61, 2), (49, .if_icmp .eq 9, 3), (52, .iload_n 1, 1), (53, .bipush 33, 2), (55, .if_icmp .ne 5, 3), (58, .iconst 1, 1), (59, .ireturn, 1), (60, .iload_n 1, 1), (61, .bipush 38, 2), (63, .if_icmp .eq 33, 3), (66, .iload_n 1, 1), (67, .bipush 124, 2), (69, .if_icmp .eq 27, 3), (72, .iload_n 1, 1), (73, .bipush 91, 2), (75, .if_icmp .eq 21, 3), (78, .iload_n 1, 1), (79, .bipush 93, 2), (81, .if_icmp .eq 15, 3), (84, .iload_n 1, 1), (85, .bipush 40, 2), (87, .if_icmp .eq 9, 3), (90, .iload_n 1, 1), (91, .bipush 41, 2), (93, .if_icmp .ne 5, 3), (96, .iconst 1, 1), (97, .ireturn, 1), (98, .iload_n 1, 1), (99, .bipush 123, 2), (101, .if_icmp .eq 27, 3), (104, .iload_n 1, 1), (105, .bipush 125, 2), (107, .if_icmp .eq 21, 3), (110, .iload_n 1, 1), (111, .bipush 59, 2), (113, .if_icmp .eq 15, 3), (116, .iload_n 1, 1), (117, .bipush 63, 2), (119, .if_icmp .eq 9, 3), (122, .iload_n 1, 1), (123, .bipush 64, 2), (125, .if_icmp .ne 5, 3), (128, .iconst 1, 1), (129, .ireturn, 1), (130, .iload_n 1, 1), (131, .bipush 87, 2), (133, .if_icmp .eq 27, 3), (136, .iload_n 1, 1), (137, .bipush 80, 2), (139, .if_icmp .eq 21, 3), (142, .iload_n 1, 1), (143, .bipush 81, 2), (145, .if_icmp .eq 15, 3), (148, .iload_n 1, 1), (149, .bipush 84, 2), (151, .if_icmp .eq 9, 3), (154, .iload_n 1, 1), (155, .bipush 70, 2), (157, .if_icmp .ne 7, 3), (160, .iconst 1, 1), (161, .goto 4, 3), (164, .iconst 0, 1), (165, .ireturn, 1)]
theorem D12 : decs prog_1_method_18_code c12 = true := by decide +kernel
theorem d12 (k : Nat) {p : Nat} {i : Instr} {n : Nat} (h : c12[k]? = some (p, i, n)) : decode prog_1_method_18_code p = .ok (i, n) := dget D12 h
def c11 : List (Nat × Instr × Nat) := [(0, .aload_n 0, 1), (1, .iload_n 1, 1), (2, .invokevirtual 188, 3), (5, .ifCond .ne 5, 3), (8, .iconst (-1), 1), (9, .ireturn, 1), (10, .aload_n 0, 1), (11, .getfield 182, 3), (14, .aload_n 0, 1), (15, .getfield 179, 3), (18, .if_icmp .lt 6, 3), (21, .bipush (-2), 2), (23, .ireturn, 1), (24, .aload_n 0, 1), (25, .getfield 127, 3), (28, .aload_n 0, 1), (29, .getfield 182, 3), (32, .iload_n 1, 1), (33, .iastore, 1), (34, .aload_n 0, 1), (35, .dup, 1), (36, .getfield 182, 3), (39, .iconst 1, 1), (40, .iadd, 1), (41, .putfield 182, 3), (44, .aload_n 0, 1), (45, .invokevirtual 185, 3), (48, .iconst 0, 1), (49, .ireturn, 1)]
theorem D11 : decs prog_1_method_2_code c11 = true := by decide +kernel
theorem d11 (k : Nat) {p : Nat} {i : Instr} {n : Nat} (h : c11[k]? = some (p, i, n)) : decode prog_1_method_2_code p = .ok (i, n) := dget D11 h
def c14 : List (Nat × Instr × Nat) := [(0, .aload_n 0, 1), (1, .getfield 182, 3), (4, .ireturn, 1)]
theorem D14 : decs prog_1_method_4_code c14 = true := by decide +kernel
theorem d14 (k : Nat) {p : Nat} {i : Instr} {n : Nat} (h : c14[k]? = some (p, i, n)) : decode prog_1_method_4_code p = .ok (i, n) := dget D14 h
def c15 : List (Nat × Instr × Nat) := [(0, .iload_n 1, 1), (1, .ifCond .lt 11, 3), (4, .iload_n 1, 1), (5, .aload_n 0, 1), (6, .getfield 182, 3), (9, .if_icmp .lt 5, 3), (12, .iconst (-1), 1), (13, .ireturn, 1), (14, .aload_n 0, 1), (15, .getfield 127, 3), (18, .iload_n 1, 1), (19, .iaload, 1), (20, .ireturn, 1)]
theorem D15 : decs prog_1_method_5_code c15 = true := by decide +kernel
theorem d15 (k : Nat) {p : Nat} {i : Instr} {n : Nat} (h : c15[k]? = some (p, i, n)) : decode prog_1_method_5_code p = .ok (i, n) := dget D15 h
def c16 : List (Nat × Instr × Nat) := [(0, .aload_n 0, 1), (1, .getfield 196, 3), (4, .ifCond .ne 6, 3), (7, .bipush (-4), 2), (9, .ireturn, 1), (10, .iconst 1, 1), (11, .iconst 2, 1), (12, .aload_n 0, 1), (13, .getfield 206, 3), (16, .imul, 1), (17, .iadd, 1), (18, .ireturn, 1)]
theorem D16 : decs prog_1_method_8_code c16 = true := by decide +kernel
theorem d16 (k : Nat) {p : Nat} {i : Instr} {n : Nat} (h : c16[k]? = some (p, i, n)) : decode prog_1_method_8_code p = .ok (i, n) := dget D16 h
def c17 : List (Nat × Instr × Nat) := [(0, .iload_n 0, 1), (1, .bipush 48, 2), (3, .if_icmp .lt 11, 3), (6, .iload_n 0, 1), (7, .bipush 57, 2), (9, .if_icmp .gt 5, 3), (12, .iconst 1, 1), (13, .ireturn, 1), (14, .iload_n 0, 1), (15, .bipush 120, 2), (17, .if_icmp .eq 15, 3), (20, .iload_n 0, 1), (21, .bipush 121, 2), (23, .if_icmp .eq 9, 3), (26, .iload_n 0, 1), (27, .bipush 122, 2), (29, .if_icmp .ne 5, 3), (32, .iconst 1, 1), (33, .ireturn, 1), (34, .iload_n 0, 1), (35, .bipush 43, 2), (37, .if_icmp .eq 33, 3), (40, .iload_n 0, 1), (41, .bipush 45, 2), (43, .if_icmp .eq 27, 3), (46, .iload_n 0, 1), (47, .bipush 42, 2), (49, .if_icmp .eq 21, 3), (52, .iload_n 0, 1), (53, .bipush 60, 2), (55, .if_icmp .eq 15, 3), (58, .iload_n 0, 1), (59, .bipush 61, 2), (61, .if_icmp .eq 9, 3), (64, .iload_n 0, 1), (65, .bipush 33, 2), (67, .if_icmp .ne 5, 3), (70, .iconst 1, 1), (71, .ireturn, 1), (72, .iload_n 0, 1), (73, .bipush 38, 2), (75, .if_icmp .eq 33, 3), (78, .iload_n 0, 1), (79, .bipush 124, 2), (81, .if_icmp .eq 27, 3), (84, .iload_n 0, 1), (85, .bipush 91, 2), (87, .if_icmp .eq 21, 3), (90, .iload_n 0, 1), (91, .bipush 93, 2), (93, .if_icmp .eq 15, 3), (96, .iload_n 0, 1), (97, .bipush 40, 2), (99, .if_icmp .eq 9, 3), (102, .iload_n 0, 1), (103, .bipush 41, 2), (105, .if_icmp .ne 5, 3), (108, .iconst 1, 1), (109, .ireturn, 1), (110, .iload_n 0, 1), (111, .bipush 123, 2), (113, .if_icmp .eq 27, 3), (116, .iload_n 0, 1), (117, .bipush 125, 2), (119, .if_icmp .eq 21, 3), (122, .iload_n 0, 1), (123, .bipush 59, 2), (125, .if_icmp .eq 15, 3), (128, .iload_n 0, 1), (129, .bipush 63, 2), (131, .if_icmp .eq 9, 3), (134, .iload_n 0, 1), (135, .bipush 64, 2), (137, .if_icmp .ne 5, 3), (140, .iconst 1, 1), (141, .ireturn, 1), (142, .iload_n 0, 1), (143, .bipush 87, 2), (145, .if_icmp .eq 27, 3), (148, .iload_n 0, 1), (149, .bipush 80, 2), (151, .if_icmp .eq 21, 3), (154, .iload_n 0, 1), (155, .bipush 81, 2), (157, .if_icmp .eq 15, 3), (160, .iload_n 0, 1), (161, .bipush 84, 2), (163, .if_icmp .eq 9, 3), (166, .iload_n 0, 1), (167, .bipush 70, 2), (169, .if_icmp .ne 7, 3), (172, .iconst 1, 1), (173, .goto 4, 3), (176, .iconst 0, 1), (177, .ireturn, 1)]
theorem D17 : decs method_2_code c17 = true := by decide +kernel
theorem d17 (k : Nat) {p : Nat} {i : Instr} {n : Nat} (h : c17[k]? = some (p, i, n)) : decode method_2_code p = .ok (i, n) := dget D17 h
def H0 : MHeap := []
def KL (s : St) : MHeap := KH flds al Ln H0 [] s
def f_clearResults (s : St) : Option (St) :=
  bnd (setI s 58 ((0 : Int32) &&& 1)) fun s1 =>
  bnd (setI s1 59 (-1 : Int32)) fun s2 =>
  bnd (setI s2 60 (-1 : Int32)) fun s3 =>
  bnd (setI s3 61 ((0 : Int32) &&& 1)) fun s4 =>
  some s4
set_option maxRecDepth 100000 in
theorem e_clearResults {g : GT} {s : St} {w : St} (hw : HW g) {K : St → MHeap} {o : Nat} {r : Nat → Nat} (V : View (GG g) Ln K o r) (hr : f_clearResults s = some w) : EvC (GG g) M_clearResults [.ref o] (K s) (none, (K w)) := by
  refine EvC.enter (L0 := [.val (.ref o)]) pl_clearResults (fun _ => rfl) rfl rfl ?_
  unfold f_clearResults at hr
  refine Ev.aloadN (d2 0 rfl) rfl ?_
  refine Ev.iconst (z := 0) (d2 1 rfl) rfl ?_
  refine Ev.pZ V (gok hw) (ww hw 130 rfl) (Or.inl (ww hw 131 rfl)) (d2 2 rfl) (j := 58) rfl ?_
  revert hr
  generalize setI s 58 ((0 : Int32) &&& 1) = s1
  intro hr
  replace hr := (bnd_eq _ _).symm.trans hr
  refine Ev.aloadN (d2 3 rfl) rfl ?_
  refine Ev.iconst (z := -1) (d2 4 rfl) rfl ?_
  refine Ev.pI V (gok hw) (ww hw 132 rfl) (Or.inl (ww hw 133 rfl)) (d2 5 rfl) (j := 59) rfl ?_
  revert hr
  generalize setI s1 59 (-1 : Int32) = s2
  intro hr
  replace hr := (bnd_eq _ _).symm.trans hr
  refine Ev.aloadN (d2 6 rfl) rfl ?_
  refine Ev.iconst (z := -1) (d2 7 rfl) rfl ?_
  refine Ev.pI V (gok hw) (ww hw 134 rfl) (Or.inl (ww hw 135 rfl)) (d2 8 rfl) (j := 60) rfl ?_
  revert hr
  generalize setI s2 60 (-1 : Int32) = s3
  intro hr
  replace hr := (bnd_eq _ _).symm.trans hr
  refine Ev.aloadN (d2 9 rfl) rfl ?_
  refine Ev.iconst (z := 0) (d2 10 rfl) rfl ?_
  refine Ev.pZ V (gok hw) (ww hw 136 rfl) (Or.inl (ww hw 137 rfl)) (d2 11 rfl) (j := 61) rfl ?_
  revert hr
  generalize setI s3 61 ((0 : Int32) &&& 1) = s4
  intro hr
  replace hr := (bnd_eq _ _).symm.trans hr
  cases hr
  exact Ev.vreturn rfl (d2 12 rfl)
def f_ctor_392 (x2 : Int32) (s : St) : Option (St) :=
  bnd (setI s 56 x2) fun s1 =>
  bnd (setI s1 57 (0 : Int32)) fun s2 =>
  (f_clearResults s2).bind fun q3 =>
  some q3
set_option maxRecDepth 100000 in
theorem e_ctor_392 {g : GT} (hw : HW g) {K : St → MHeap} {o : Nat} {r : Nat → Nat} (V : View (GG g) Ln K o r) (x2 : Int32) (s : St) (y1 : Slot) (hy1 : one1 y1 = true) (w : St) (hr : f_ctor_392 x2 s = some w) : Ev (GG g) M_ctor 392 [.val (.ref o), y1, .val (.int x2)] [] (K s) (none, (K w)) := by
  unfold f_ctor_392 at hr
  refine Ev.aloadN (d0 199 rfl) rfl ?_
  refine Ev.iloadN (d0 200 rfl) rfl ?_
  refine Ev.pI V (gok hw) (ww hw 122 rfl) (Or.inl (ww hw 123 rfl)) (d0 201 rfl) (j := 56) rfl ?_
  revert hr
  generalize setI s 56 x2 = s1
  intro hr
  replace hr := (bnd_eq _ _).symm.trans hr
  refine Ev.aloadN (d0 202 rfl) rfl ?_
  refine Ev.iconst (z := 0) (d0 203 rfl) rfl ?_
  refine Ev.pI V (gok hw) (ww hw 124 rfl) (Or.inl (ww hw 125 rfl)) (d0 204 rfl) (j := 57) rfl ?_
  revert hr
  generalize setI s1 57 (0 : Int32) = s2
  intro hr
  replace hr := (bnd_eq _ _).symm.trans hr
  refine Ev.aloadN (d0 205 rfl) rfl ?_
  obtain ⟨q3, hq4, hr⟩ := Option.bind_eq_some_iff.mp hr
  refine Ev.priv (y := M_clearResults) (args := []) (rest := []) (gok hw) rfl nm_clearResults (ww hw 126 rfl) (ww hw 127 rfl) (ww hw 128 rfl) (ww hw 129 rfl) (lenOf pd_clearResults rfl) (d0 206 rfl) (V.2.1 s2) (e_clearResults hw V hq4) (by decide) (Nat.le_of_ble_eq_true rfl) rfl ?_
  cases hr
  exact Ev.vreturn rfl (d0 207 rfl)
def f_ctor_381 (x2 : Int32) (s : St) : Option (St) :=
  if (128 : Int32) < x2 then
    f_ctor_392 (128 : Int32) s
  else
    f_ctor_392 x2 s
set_option maxRecDepth 100000 in
theorem e_ctor_381 {g : GT} (hw : HW g) {K : St → MHeap} {o : Nat} {r : Nat → Nat} (V : View (GG g) Ln K o r) (x2 : Int32) (s : St) (y1 : Slot) (hy1 : one1 y1 = true) (w : St) (hr : f_ctor_381 x2 s = some w) : Ev (GG g) M_ctor 381 [.val (.ref o), y1, .val (.int x2)] [] (K s) (none, (K w)) := by
  unfold f_ctor_381 at hr
  refine Ev.iloadN (d0 194 rfl) rfl ?_
  refine Ev.sipush (z := 128) (d0 195 rfl) rfl ?_
  refine Ev.icle (t := 392) (d0 196 rfl) rfl (fun c1 => ?_) (fun c1 => ?_)
  · replace hr := (if_pos c1).symm.trans hr
    refine Ev.sipush (z := 128) (d0 197 rfl) rfl ?_
    refine Ev.istDN (L' := [.val (.ref o), y1, .val (.int (128 : Int32))]) (d0 198 rfl) rfl rfl rfl ?_
    exact e_ctor_392 hw V  (128 : Int32) s y1 hy1 _ hr
  · replace hr := (if_neg c1).symm.trans hr
    exact e_ctor_392 hw V  x2 s y1 hy1 _ hr
def f_ctor_370 (x1 : Int32) (s : St) : Option (St) :=
  if x1 < (8 : Int32) then
    f_ctor_381 (8 : Int32) s
  else
    f_ctor_381 x1 s
set_option maxRecDepth 100000 in
theorem e_ctor_370 {g : GT} (hw : HW g) {K : St → MHeap} {o : Nat} {r : Nat → Nat} (V : View (GG g) Ln K o r) (x1 : Int32) (s : St) (y2 : Slot) (hy2 : one1 y2 = true) (w : St) (hr : f_ctor_370 x1 s = some w) : Ev (GG g) M_ctor 370 [.val (.ref o), .val (.int x1), y2] [] (K s) (none, (K w)) := by
  unfold f_ctor_370 at hr
  refine Ev.iloadN (d0 187 rfl) rfl ?_
  refine Ev.istDN (L' := [.val (.ref o), .val (.int x1), .val (.int x1)]) (d0 188 rfl) rfl hy2 rfl ?_
  refine Ev.iloadN (d0 189 rfl) rfl ?_
  refine Ev.bipush (z := 8) (d0 190 rfl) rfl ?_
  refine Ev.icge (t := 381) (d0 191 rfl) rfl (fun c1 => ?_) (fun c1 => ?_)
  · replace hr := (if_pos c1).symm.trans hr
    refine Ev.bipush (z := 8) (d0 192 rfl) rfl ?_
    refine Ev.istDN (L' := [.val (.ref o), .val (.int x1), .val (.int (8 : Int32))]) (d0 193 rfl) rfl rfl rfl ?_
    exact e_ctor_381 hw V  (8 : Int32) s (.val (.int x1)) rfl _ hr
  · replace hr := (if_neg c1).symm.trans hr
    exact e_ctor_381 hw V  x1 s (.val (.int x1)) rfl _ hr
def f_ctor (a0 : Int32) : Option (St) :=
  f_ctor_370 a0 (setI (setI (setI (setI (setI (setI (setI (setI (setI (setI (setI (setI (setI (setI (setI (setI (setI (setI (setI (setI (setI (setI (setI (setI (setI (setI (setI (setI (setI (setI (setI (setI (setI (setI (setI (setI (setI (setI (setI zeroS 0 (0 : Int32)) 1 (1 : Int32)) 2 (2 : Int32)) 3 (3 : Int32)) 4 (4 : Int32)) 5 (5 : Int32)) 6 (6 : Int32)) 7 (7 : Int32)) 8 (8 : Int32)) 9 (9 : Int32)) 10 (10 : Int32)) 11 (11 : Int32)) 12 (12 : Int32)) 13 (0 : Int32)) 14 (1 : Int32)) 15 (2 : Int32)) 16 (1 : Int32)) 17 (2 : Int32)) 18 (3 : Int32)) 19 (4 : Int32)) 20 (5 : Int32)) 21 (6 : Int32)) 22 (7 : Int32)) 23 (8 : Int32)) 24 (9 : Int32)) 25 (10 : Int32)) 26 (11 : Int32)) 27 (12 : Int32)) 28 (13 : Int32)) 29 (14 : Int32)) 30 (15 : Int32)) 31 (16 : Int32)) 32 (17 : Int32)) 33 (18 : Int32)) 34 (19 : Int32)) 35 (64 : Int32)) 36 (160 : Int32)) 37 (512 : Int32)) 38 (1024 : Int32))
set_option maxRecDepth 100000 in
theorem e_ctor {g : GT} {a0 : Int32} {w : St} (hw : HW g) {pre : MHeap} (hk : k0 (GG g) ≤ pre.length) (hr : f_ctor a0 = some w) : EvC (GG g) M_ctor [.ref pre.length, .int a0] (pre ++ [.inl dfl]) (none, KH flds al Ln pre [] w) := by
  refine EvC.enter (L0 := [.val (.ref pre.length), .val (.int a0), .unset]) pl_ctor (fun _ => rfl) rfl rfl ?_
  unfold f_ctor at hr
  refine Ev.aloadN (d0 0 rfl) rfl ?_
  refine Ev.initO (ww hw 6 rfl) (ww hw 7 rfl) (ww hw 8 rfl) (d0 1 rfl) (by decide) (Nat.le_of_ble_eq_true rfl) ?_
  show Ev (GG g) M_ctor 4 _ _ (cons pre dfl []) _
  refine Ev.aloadN (d0 2 rfl) rfl ?_
  refine Ev.iconst (z := 0) (d0 3 rfl) rfl ?_
  refine Ev.cput (v' := .int (0 : Int32)) (fs' := [.int (0 : Int32), .int 0, .int 0, .int 0, .int 0, .int 0, .int 0, .int 0, .int 0, .int 0, .int 0, .int 0, .int 0, .int 0, .int 0, .int 0, .int 0, .int 0, .int 0, .int 0, .int 0, .int 0, .int 0, .int 0, .int 0, .int 0, .int 0, .int 0, .int 0, .int 0, .int 0, .int 0, .int 0, .int 0, .int 0, .int 0, .int 0, .int 0, .int 0, .null, .null, .null, .null, .null, .null, .null, .null, .null, .null, .null, .null, .null, .null, .null, .null, .null, .int 0, .int 0, .int 0, .int 0, .int 0, .int 0, .int 0, .int 0, .int 0, .int 0, .int 0, .int 0, .int 0, .int 0, .int 0]) (gok hw) hk (ww hw 9 rfl) (Or.inr ⟨ww hw 10 rfl, rfl, rfl⟩) (d0 4 rfl) (j := 0) rfl rfl rfl ?_
  refine Ev.aloadN (d0 5 rfl) rfl ?_
  refine Ev.iconst (z := 1) (d0 6 rfl) rfl ?_
  refine Ev.cput (v' := .int (1 : Int32)) (fs' := [.int (0 : Int32), .int (1 : Int32), .int 0, .int 0, .int 0, .int 0, .int 0, .int 0, .int 0, .int 0, .int 0, .int 0, .int 0, .int 0, .int 0, .int 0, .int 0, .int 0, .int 0, .int 0, .int 0, .int 0, .int 0, .int 0, .int 0, .int 0, .int 0, .int 0, .int 0, .int 0, .int 0, .int 0, .int 0, .int 0, .int 0, .int 0, .int 0, .int 0, .int 0, .null, .null, .null, .null, .null, .null, .null, .null, .null, .null, .null, .null, .null, .null, .null, .null, .null, .int 0, .int 0, .int 0, .int 0, .int 0, .int 0, .int 0, .int 0, .int 0, .int 0, .int 0, .int 0, .int 0, .int 0, .int 0]) (gok hw) hk (ww hw 11 rfl) (Or.inr ⟨ww hw 12 rfl, rfl, rfl⟩) (d0 7 rfl) (j := 1) rfl rfl rfl ?_
  refine Ev.aloadN (d0 8 rfl) rfl ?_
  refine Ev.iconst (z := 2) (d0 9 rfl) rfl ?_
  refine Ev.cput (v' := .int (2 : Int32)) (fs' := [.int (0 : Int32), .int (1 : Int32), .int (2 : Int32), .int 0, .int 0, .int 0, .int 0, .int 0, .int 0, .int 0, .int 0, .int 0, .int 0, .int 0, .int 0, .int 0, .int 0, .int 0, .int 0, .int 0, .int 0, .int 0, .int 0, .int 0, .int 0, .int 0, .int 0, .int 0, .int 0, .int 0, .int 0, .int 0, .int 0, .int 0, .int 0, .int 0, .int 0, .int 0, .int 0, .null, .null, .null, .null, .null, .null, .null, .null, .null, .null, .null, .null, .null, .null, .null, .null, .null, .int 0, .int 0, .int 0, .int 0, .int 0, .int 0, .int 0, .int 0, .int 0, .int 0, .int 0, .int 0, .int 0, .int 0, .int 0]) (gok hw) hk (ww hw 13 rfl) (Or.inr ⟨ww hw 14 rfl, rfl, rfl⟩) (d0 10 rfl) (j := 2) rfl rfl rfl ?_
  refine Ev.aloadN (d0 11 rfl) rfl ?_
  refine Ev.iconst (z := 3) (d0 12 rfl) rfl ?_
  refine Ev.cput (v' := .int (3 : Int32)) (fs' := [.int (0 : Int32), .int (1 : Int32), .int (2 : Int32), .int (3 : Int32), .int 0, .int 0, .int 0, .int 0, .int 0, .int 0, .int 0, .int 0, .int 0, .int 0, .int 0, .int 0, .int 0, .int 0, .int 0, .int 0, .int 0, .int 0, .int 0, .int 0, .int 0, .int 0, .int 0, .int 0, .int 0, .int 0, .int 0, .int 0, .int 0, .int 0, .int 0, .int 0, .int 0, .int 0, .int 0, .null, .null, .null, .null, .null, .null, .null, .null, .null, .null, .null, .null, .null, .null, .null, .null, .null, .int 0, .int 0, .int 0, .int 0, .int 0, .int 0, .int 0, .int 0, .int 0, .int 0, .int 0, .int 0, .int 0, .int 0, .int 0]) (gok hw) hk (ww hw 15 rfl) (Or.inr ⟨ww hw 16 rfl, rfl, rfl⟩) (d0 13 rfl) (j := 3) rfl rfl rfl ?_
  refine Ev.aloadN (d0 14 rfl) rfl ?_
  refine Ev.iconst (z := 4) (d0 15 rfl) rfl ?_
  refine Ev.cput (v' := .int (4 : Int32)) (fs' := [.int (0 : Int32), .int (1 : Int32), .int (2 : Int32), .int (3 : Int32), .int (4 : Int32), .int 0, .int 0, .int 0, .int 0, .int 0, .int 0, .int 0, .int 0, .int 0, .int 0, .int 0, .int 0, .int 0, .int 0, .int 0, .int 0, .int 0, .int 0, .int 0, .int 0, .int 0, .int 0, .int 0, .int 0, .int 0, .int 0, .int 0, .int 0, .int 0, .int 0, .int 0, .int 0, .int 0, .int 0, .null, .null, .null, .null, .null, .null, .null, .null, .null, .null, .null, .null, .null, .null, .null, .null, .null, .int 0, .int 0, .int 0, .int 0, .int 0, .int 0, .int 0, .int 0, .int 0, .int 0, .int 0, .int 0, .int 0, .int 0, .int 0]) (gok hw) hk (ww hw 17 rfl) (Or.inr ⟨ww hw 18 rfl, rfl, rfl⟩) (d0 16 rfl) (j := 4) rfl rfl rfl ?_
  refine Ev.aloadN (d0 17 rfl) rfl ?_
  refine Ev.iconst (z := 5) (d0 18 rfl) rfl ?_
  refine Ev.cput (v' := .int (5 : Int32)) (fs' := [.int (0 : Int32), .int (1 : Int32), .int (2 : Int32), .int (3 : Int32), .int (4 : Int32), .int (5 : Int32), .int 0, .int 0, .int 0, .int 0, .int 0, .int 0, .int 0, .int 0, .int 0, .int 0, .int 0, .int 0, .int 0, .int 0, .int 0, .int 0, .int 0, .int 0, .int 0, .int 0, .int 0, .int 0, .int 0, .int 0, .int 0, .int 0, .int 0, .int 0, .int 0, .int 0, .int 0, .int 0, .int 0, .null, .null, .null, .null, .null, .null, .null, .null, .null, .null, .null, .null, .null, .null, .null, .null, .null, .int 0, .int 0, .int 0, .int 0, .int 0, .int 0, .int 0, .int 0, .int 0, .int 0, .int 0, .int 0, .int 0, .int 0, .int 0]) (gok hw) hk (ww hw 19 rfl) (Or.inr ⟨ww hw 20 rfl, rfl, rfl⟩) (d0 19 rfl) (j := 5) rfl rfl rfl ?_
  refine Ev.aloadN (d0 20 rfl) rfl ?_
  refine Ev.bipush (z := 6) (d0 21 rfl) rfl ?_
  refine Ev.cput (v' := .int (6 : Int32)) (fs' := [.int (0 : Int32), .int (1 : Int32), .int (2 : Int32), .int (3 : Int32), .int (4 : Int32), .int (5 : Int32), .int (6 : Int32), .int 0, .int 0, .int 0, .int 0, .int 0, .int 0, .int 0, .int 0, .int 0, .int 0, .int 0, .int 0, .int 0, .int 0, .int 0, .int 0, .int 0, .int 0, .int 0, .int 0, .int 0, .int 0, .int 0, .int 0, .int 0, .int 0, .int 0, .int 0, .int 0, .int 0, .int 0, .int 0, .null, .null, .null, .null, .null, .null, .null, .null, .null, .null, .null, .null, .null, .null, .null, .null, .null, .int 0, .int 0, .int 0, .int 0, .int 0, .int 0, .int 0, .int 0, .int 0, .int 0, .int 0, .int 0, .int 0, .int 0, .int 0]) (gok hw) hk (ww hw 21 rfl) (Or.inr ⟨ww hw 22 rfl, rfl, rfl⟩) (d0 22 rfl) (j := 6) rfl rfl rfl ?_
  refine Ev.aloadN (d0 23 rfl) rfl ?_
  refine Ev.bipush (z := 7) (d0 24 rfl) rfl ?_
  refine Ev.cput (v' := .int (7 : Int32)) (fs' := [.int (0 : Int32), .int (1 : Int32), .int (2 : Int32), .int (3 : Int32), .int (4 : Int32), .int (5 : Int32), .int (6 : Int32), .int (7 : Int32), .int 0, .int 0, .int 0, .int 0, .int 0, .int 0, .int 0, .int 0, .int 0, .int 0, .int 0, .int 0, .int 0, .int 0, .int 0, .int 0, .int 0, .int 0, .int 0, .int 0, .int 0, .int 0, .int 0, .int 0, .int 0, .int 0, .int 0, .int 0, .int 0, .int 0, .int 0, .null, .null, .null, .null, .null, .null, .null, .null, .null, .null, .null, .null, .null, .null, .null, .null, .null, .int 0, .int 0, .int 0, .int 0, .int 0, .int 0, .int 0, .int 0, .int 0, .int 0, .int 0, .int 0, .int 0, .int 0, .int 0]) (gok hw) hk (ww hw 23 rfl) (Or.inr ⟨ww hw 24 rfl, rfl, rfl⟩) (d0 25 rfl) (j := 7) rfl rfl rfl ?_
  refine Ev.aloadN (d0 26 rfl) rfl ?_
  refine Ev.bipush (z := 8) (d0 27 rfl) rfl ?_
  refine Ev.cput (v' := .int (8 : Int32)) (fs' := [.int (0 : Int32), .int (1 : Int32), .int (2 : Int32), .int (3 : Int32), .int (4 : Int32), .int (5 : Int32), .int (6 : Int32), .int (7 : Int32), .int (8 : Int32), .int 0, .int 0, .int 0, .int 0, .int 0, .int 0, .int 0, .int 0, .int 0, .int 0, .int 0, .int 0, .int 0, .int 0, .int 0, .int 0, .int 0, .int 0, .int 0, .int 0, .int 0, .int 0, .int 0, .int 0, .int 0, .int 0, .int 0, .int 0, .int 0, .int 0, .null, .null, .null, .null, .null, .null, .null, .null, .null, .null, .null, .null, .null, .null, .null, .null, .null, .int 0, .int 0, .int 0, .int 0, .int 0, .int 0, .int 0, .int 0, .int 0, .int 0, .int 0, .int 0, .int 0, .int 0, .int 0]) (gok hw) hk (ww hw 25 rfl) (Or.inr ⟨ww hw 26 rfl, rfl, rfl⟩) (d0 28 rfl) (j := 8) rfl rfl rfl ?_
  refine Ev.aloadN (d0 29 rfl) rfl ?_
  refine Ev.bipush (z := 9) (d0 30 rfl) rfl ?_
  refine Ev.cput (v' := .int (9 : Int32)) (fs' := [.int (0 : Int32), .int (1 : Int32), .int (2 : Int32), .int (3 : Int32), .int (4 : Int32), .int (5 : Int32), .int (6 : Int32), .int (7 : Int32), .int (8 : Int32), .int (9 : Int32), .int 0, .int 0, .int 0, .int 0, .int 0, .int 0, .int 0, .int 0, .int 0, .int 0, .int 0, .int 0, .int 0, .int 0, .int 0, .int 0, .int 0, .int 0, .int 0, .int 0, .int 0, .int 0, .int 0, .int 0, .int 0, .int 0, .int 0, .int 0, .int 0, .null, .null, .null, .null, .null, .null, .null, .null, .null, .null, .null, .null, .null, .null, .null, .null, .null, .int 0, .int 0, .int 0, .int 0, .int 0, .int 0, .int 0, .int 0, .int 0, .int 0, .int 0, .int 0, .int 0, .int 0, .int 0]) (gok hw) hk (ww hw 27 rfl) (Or.inr ⟨ww hw 28 rfl, rfl, rfl⟩) (d0 31 rfl) (j := 9) rfl rfl rfl ?_
  refine Ev.aloadN (d0 32 rfl) rfl ?_
  refine Ev.bipush (z := 10) (d0 33 rfl) rfl ?_
  refine Ev.cput (v' := .int (10 : Int32)) (fs' := [.int (0 : Int32), .int (1 : Int32), .int (2 : Int32), .int (3 : Int32), .int (4 : Int32), .int (5 : Int32), .int (6 : Int32), .int (7 : Int32), .int (8 : Int32), .int (9 : Int32), .int (10 : Int32), .int 0, .int 0, .int 0, .int 0, .int 0, .int 0, .int 0, .int 0, .int 0, .int 0, .int 0, .int 0, .int 0, .int 0, .int 0, .int 0, .int 0, .int 0, .int 0, .int 0, .int 0, .int 0, .int 0, .int 0, .int 0, .int 0, .int 0, .int 0, .null, .null, .null, .null, .null, .null, .null, .null, .null, .null, .null, .null, .null, .null, .null, .null, .null, .int 0, .int 0, .int 0, .int 0, .int 0, .int 0, .int 0, .int 0, .int 0, .int 0, .int 0, .int 0, .int 0, .int 0, .int 0]) (gok hw) hk (ww hw 29 rfl) (Or.inr ⟨ww hw 30 rfl, rfl, rfl⟩) (d0 34 rfl) (j := 10) rfl rfl rfl ?_
  refine Ev.aloadN (d0 35 rfl) rfl ?_
  refine Ev.bipush (z := 11) (d0 36 rfl) rfl ?_
  refine Ev.cput (v' := .int (11 : Int32)) (fs' := [.int (0 : Int32), .int (1 : Int32), .int (2 : Int32), .int (3 : Int32), .int (4 : Int32), .int (5 : Int32), .int (6 : Int32), .int (7 : Int32), .int (8 : Int32), .int (9 : Int32), .int (10 : Int32), .int (11 : Int32), .int 0, .int 0, .int 0, .int 0, .int 0, .int 0, .int 0, .int 0, .int 0, .int 0, .int 0, .int 0, .int 0, .int 0, .int 0, .int 0, .int 0, .int 0, .int 0, .int 0, .int 0, .int 0, .int 0, .int 0, .int 0, .int 0, .int 0, .null, .null, .null, .null, .null, .null, .null, .null, .null, .null, .null, .null, .null, .null, .null, .null, .null, .int 0, .int 0, .int 0, .int 0, .int 0, .int 0, .int 0, .int 0, .int 0, .int 0, .int 0, .int 0, .int 0, .int 0, .int 0]) (gok hw) hk (ww hw 31 rfl) (Or.inr ⟨ww hw 32 rfl, rfl, rfl⟩) (d0 37 rfl) (j := 11) rfl rfl rfl ?_
  refine Ev.aloadN (d0 38 rfl) rfl ?_
  refine Ev.bipush (z := 12) (d0 39 rfl) rfl ?_
  refine Ev.cput (v' := .int (12 : Int32)) (fs' := [.int (0 : Int32), .int (1 : Int32), .int (2 : Int32), .int (3 : Int32), .int (4 : Int32), .int (5 : Int32), .int (6 : Int32), .int (7 : Int32), .int (8 : Int32), .int (9 : Int32), .int (10 : Int32), .int (11 : Int32), .int (12 : Int32), .int 0, .int 0, .int 0, .int 0, .int 0, .int 0, .int 0, .int 0, .int 0, .int 0, .int 0, .int 0, .int 0, .int 0, .int 0, .int 0, .int 0, .int 0, .int 0, .int 0, .int 0, .int 0, .int 0, .int 0, .int 0, .int 0, .null, .null, .null, .null, .null, .null, .null, .null, .null, .null, .null, .null, .null, .null, .null, .null, .null, .int 0, .int 0, .int 0, .int 0, .int 0, .int 0, .int 0, .int 0, .int 0, .int 0, .int 0, .int 0, .int 0, .int 0, .int 0]) (gok hw) hk (ww hw 33 rfl) (Or.inr ⟨ww hw 34 rfl, rfl, rfl⟩) (d0 40 rfl) (j := 12) rfl rfl rfl ?_
  refine Ev.aloadN (d0 41 rfl) rfl ?_
  refine Ev.iconst (z := 0) (d0 42 rfl) rfl ?_
  refine Ev.cput (v' := .int (0 : Int32)) (fs' := [.int (0 : Int32), .int (1 : Int32), .int (2 : Int32), .int (3 : Int32), .int (4 : Int32), .int (5 : Int32), .int (6 : Int32), .int (7 : Int32), .int (8 : Int32), .int (9 : Int32), .int (10 : Int32), .int (11 : Int32), .int (12 : Int32), .int (0 : Int32), .int 0, .int 0, .int 0, .int 0, .int 0, .int 0, .int 0, .int 0, .int 0, .int 0, .int 0, .int 0, .int 0, .int 0, .int 0, .int 0, .int 0, .int 0, .int 0, .int 0, .int 0, .int 0, .int 0, .int 0, .int 0, .null, .null, .null, .null, .null, .null, .null, .null, .null, .null, .null, .null, .null, .null, .null, .null, .null, .int 0, .int 0, .int 0, .int 0, .int 0, .int 0, .int 0, .int 0, .int 0, .int 0, .int 0, .int 0, .int 0, .int 0, .int 0]) (gok hw) hk (ww hw 35 rfl) (Or.inr ⟨ww hw 36 rfl, rfl, rfl⟩) (d0 43 rfl) (j := 13) rfl rfl rfl ?_
  refine Ev.aloadN (d0 44 rfl) rfl ?_
  refine Ev.iconst (z := 1) (d0 45 rfl) rfl ?_
  refine Ev.cput (v' := .int (1 : Int32)) (fs' := [.int (0 : Int32), .int (1 : Int32), .int (2 : Int32), .int (3 : Int32), .int (4 : Int32), .int (5 : Int32), .int (6 : Int32), .int (7 : Int32), .int (8 : Int32), .int (9 : Int32), .int (10 : Int32), .int (11 : Int32), .int (12 : Int32), .int (0 : Int32), .int (1 : Int32), .int 0, .int 0, .int 0, .int 0, .int 0, .int 0, .int 0, .int 0, .int 0, .int 0, .int 0, .int 0, .int 0, .int 0, .int 0, .int 0, .int 0, .int 0, .int 0, .int 0, .int 0, .int 0, .int 0, .int 0, .null, .null, .null, .null, .null, .null, .null, .null, .null, .null, .null, .null, .null, .null, .null, .null, .null, .int 0, .int 0, .int 0, .int 0, .int 0, .int 0, .int 0, .int 0, .int 0, .int 0, .int 0, .int 0, .int 0, .int 0, .int 0]) (gok hw) hk (ww hw 37 rfl) (Or.inr ⟨ww hw 38 rfl, rfl, rfl⟩) (d0 46 rfl) (j := 14) rfl rfl rfl ?_
  refine Ev.aloadN (d0 47 rfl) rfl ?_
  refine Ev.iconst (z := 2) (d0 48 rfl) rfl ?_
  refine Ev.cput (v' := .int (2 : Int32)) (fs' := [.int (0 : Int32), .int (1 : Int32), .int (2 : Int32), .int (3 : Int32), .int (4 : Int32), .int (5 : Int32), .int (6 : Int32), .int (7 : Int32), .int (8 : Int32), .int (9 : Int32), .int (10 : Int32), .int (11 : Int32), .int (12 : Int32), .int (0 : Int32), .int (1 : Int32), .int (2 : Int32), .int 0, .int 0, .int 0, .int 0, .int 0, .int 0, .int 0, .int 0, .int 0, .int 0, .int 0, .int 0, .int 0, .int 0, .int 0, .int 0, .int 0, .int 0, .int 0, .int 0, .int 0, .int 0, .int 0, .null, .null, .null, .null, .null, .null, .null, .null, .null, .null, .null, .null, .null, .null, .null, .null, .null, .int 0, .int 0, .int 0, .int 0, .int 0, .int 0, .int 0, .int 0, .int 0, .int 0, .int 0, .int 0, .int 0, .int 0, .int 0]) (gok hw) hk (ww hw 39 rfl) (Or.inr ⟨ww hw 40 rfl, rfl, rfl⟩) (d0 49 rfl) (j := 15) rfl rfl rfl ?_
  refine Ev.aloadN (d0 50 rfl) rfl ?_
  refine Ev.iconst (z := 1) (d0 51 rfl) rfl ?_
  refine Ev.cput (v' := .int (1 : Int32)) (fs' := [.int (0 : Int32), .int (1 : Int32), .int (2 : Int32), .int (3 : Int32), .int (4 : Int32), .int (5 : Int32), .int (6 : Int32), .int (7 : Int32), .int (8 : Int32), .int (9 : Int32), .int (10 : Int32), .int (11 : Int32), .int (12 : Int32), .int (0 : Int32), .int (1 : Int32), .int (2 : Int32), .int (1 : Int32), .int 0, .int 0, .int 0, .int 0, .int 0, .int 0, .int 0, .int 0, .int 0, .int 0, .int 0, .int 0, .int 0, .int 0, .int 0, .int 0, .int 0, .int 0, .int 0, .int 0, .int 0, .int 0, .null, .null, .null, .null, .null, .null, .null, .null, .null, .null, .null, .null, .null, .null, .null, .null, .null, .int 0, .int 0, .int 0, .int 0, .int 0, .int 0, .int 0, .int 0, .int 0, .int 0, .int 0, .int 0, .int 0, .int 0, .int 0]) (gok hw) hk (ww hw 41 rfl) (Or.inr ⟨ww hw 42 rfl, rfl, rfl⟩) (d0 52 rfl) (j := 16) rfl rfl rfl ?_
  refine Ev.aloadN (d0 53 rfl) rfl ?_
  refine Ev.iconst (z := 2) (d0 54 rfl) rfl ?_
  refine Ev.cput (v' := .int (2 : Int32)) (fs' := [.int (0 : Int32), .int (1 : Int32), .int (2 : Int32), .int (3 : Int32), .int (4 : Int32), .int (5 : Int32), .int (6 : Int32), .int (7 : Int32), .int (8 : Int32), .int (9 : Int32), .int (10 : Int32), .int (11 : Int32), .int (12 : Int32), .int (0 : Int32), .int (1 : Int32), .int (2 : Int32), .int (1 : Int32), .int (2 : Int32), .int 0, .int 0, .int 0, .int 0, .int 0, .int 0, .int 0, .int 0, .int 0, .int 0, .int 0, .int 0, .int 0, .int 0, .int 0, .int 0, .int 0, .int 0, .int 0, .int 0, .int 0, .null, .null, .null, .null, .null, .null, .null, .null, .null, .null, .null, .null, .null, .null, .null, .null, .null, .int 0, .int 0, .int 0, .int 0, .int 0, .int 0, .int 0, .int 0, .int 0, .int 0, .int 0, .int 0, .int 0, .int 0, .int 0]) (gok hw) hk (ww hw 43 rfl) (Or.inr ⟨ww hw 44 rfl, rfl, rfl⟩) (d0 55 rfl) (j := 17) rfl rfl rfl ?_
  refine Ev.aloadN (d0 56 rfl) rfl ?_
  refine Ev.iconst (z := 3) (d0 57 rfl) rfl ?_
  refine Ev.cput (v' := .int (3 : Int32)) (fs' := [.int (0 : Int32), .int (1 : Int32), .int (2 : Int32), .int (3 : Int32), .int (4 : Int32), .int (5 : Int32), .int (6 : Int32), .int (7 : Int32), .int (8 : Int32), .int (9 : Int32), .int (10 : Int32), .int (11 : Int32), .int (12 : Int32), .int (0 : Int32), .int (1 : Int32), .int (2 : Int32), .int (1 : Int32), .int (2 : Int32), .int (3 : Int32), .int 0, .int 0, .int 0, .int 0, .int 0, .int 0, .int 0, .int 0, .int 0, .int 0, .int 0, .int 0, .int 0, .int 0, .int 0, .int 0, .int 0, .int 0, .int 0, .int 0, .null, .null, .null, .null, .null, .null, .null, .null, .null, .null, .null, .null, .null, .null, .null, .null, .null, .int 0, .int 0, .int 0, .int 0, .int 0, .int 0, .int 0, .int 0, .int 0, .int 0, .int 0, .int 0, .int 0, .int 0, .int 0]) (gok hw) hk (ww hw 45 rfl) (Or.inr ⟨ww hw 46 rfl, rfl, rfl⟩) (d0 58 rfl) (j := 18) rfl rfl rfl ?_
  refine Ev.aloadN (d0 59 rfl) rfl ?_
  refine Ev.iconst (z := 4) (d0 60 rfl) rfl ?_
  refine Ev.cput (v' := .int (4 : Int32)) (fs' := [.int (0 : Int32), .int (1 : Int32), .int (2 : Int32), .int (3 : Int32), .int (4 : Int32), .int (5 : Int32), .int (6 : Int32), .int (7 : Int32), .int (8 : Int32), .int (9 : Int32), .int (10 : Int32), .int (11 : Int32), .int (12 : Int32), .int (0 : Int32), .int (1 : Int32), .int (2 : Int32), .int (1 : Int32), .int (2 : Int32), .int (3 : Int32), .int (4 : Int32), .int 0, .int 0, .int 0, .int 0, .int 0, .int 0, .int 0, .int 0, .int 0, .int 0, .int 0, .int 0, .int 0, .int 0, .int 0, .int 0, .int 0, .int 0, .int 0, .null, .null, .null, .null, .null, .null, .null, .null, .null, .null, .null, .null, .null, .null, .null, .null, .null, .int 0, .int 0, .int 0, .int 0, .int 0, .int 0, .int 0, .int 0, .int 0, .int 0, .int 0, .int 0, .int 0, .int 0, .int 0]) (gok hw) hk (ww hw 47 rfl) (Or.inr ⟨ww hw 48 rfl, rfl, rfl⟩) (d0 61 rfl) (j := 19) rfl rfl rfl ?_
  refine Ev.aloadN (d0 62 rfl) rfl ?_
  refine Ev.iconst (z := 5) (d0 63 rfl) rfl ?_
  refine Ev.cput (v' := .int (5 : Int32)) (fs' := [.int (0 : Int32), .int (1 : Int32), .int (2 : Int32), .int (3 : Int32), .int (4 : Int32), .int (5 : Int32), .int (6 : Int32), .int (7 : Int32), .int (8 : Int32), .int (9 : Int32), .int (10 : Int32), .int (11 : Int32), .int (12 : Int32), .int (0 : Int32), .int (1 : Int32), .int (2 : Int32), .int (1 : Int32), .int (2 : Int32), .int (3 : Int32), .int (4 : Int32), .int (5 : Int32), .int 0, .int 0, .int 0, .int 0, .int 0, .int 0, .int 0, .int 0, .int 0, .int 0, .int 0, .int 0, .int 0, .int 0, .int 0, .int 0, .int 0, .int 0, .null, .null, .null, .null, .null, .null, .null, .null, .null, .null, .null, .null, .null, .null, .null, .null, .null, .int 0, .int 0, .int 0, .int 0, .int 0, .int 0, .int 0, .int 0, .int 0, .int 0, .int 0, .int 0, .int 0, .int 0, .int 0]) (gok hw) hk (ww hw 49 rfl) (Or.inr ⟨ww hw 50 rfl, rfl, rfl⟩) (d0 64 rfl) (j := 20) rfl rfl rfl ?_
  refine Ev.aloadN (d0 65 rfl) rfl ?_
  refine Ev.bipush (z := 6) (d0 66 rfl) rfl ?_
  refine Ev.cput (v' := .int (6 : Int32)) (fs' := [.int (0 : Int32), .int (1 : Int32), .int (2 : Int32), .int (3 : Int32), .int (4 : Int32), .int (5 : Int32), .int (6 : Int32), .int (7 : Int32), .int (8 : Int32), .int (9 : Int32), .int (10 : Int32), .int (11 : Int32), .int (12 : Int32), .int (0 : Int32), .int (1 : Int32), .int (2 : Int32), .int (1 : Int32), .int (2 : Int32), .int (3 : Int32), .int (4 : Int32), .int (5 : Int32), .int (6 : Int32), .int 0, .int 0, .int 0, .int 0, .int 0, .int 0, .int 0, .int 0, .int 0, .int 0, .int 0, .int 0, .int 0, .int 0, .int 0, .int 0, .int 0, .null, .null, .null, .null, .null, .null, .null, .null, .null, .null, .null, .null, .null, .null, .null, .null, .null, .int 0, .int 0, .int 0, .int 0, .int 0, .int 0, .int 0, .int 0, .int 0, .int 0, .int 0, .int 0, .int 0, .int 0, .int 0]) (gok hw) hk (ww hw 51 rfl) (Or.inr ⟨ww hw 52 rfl, rfl, rfl⟩) (d0 67 rfl) (j := 21) rfl rfl rfl ?_
  refine Ev.aloadN (d0 68 rfl) rfl ?_
  refine Ev.bipush (z := 7) (d0 69 rfl) rfl ?_
  refine Ev.cput (v' := .int (7 : Int32)) (fs' := [.int (0 : Int32), .int (1 : Int32), .int (2 : Int32), .int (3 : Int32), .int (4 : Int32), .int (5 : Int32), .int (6 : Int32), .int (7 : Int32), .int (8 : Int32), .int (9 : Int32), .int (10 : Int32), .int (11 : Int32), .int (12 : Int32), .int (0 : Int32), .int (1 : Int32), .int (2 : Int32), .int (1 : Int32), .int (2 : Int32), .int (3 : Int32), .int (4 : Int32), .int (5 : Int32), .int (6 : Int32), .int (7 : Int32), .int 0, .int 0, .int 0, .int 0, .int 0, .int 0, .int 0, .int 0, .int 0, .int 0, .int 0, .int 0, .int 0, .int 0, .int 0, .int 0, .null, .null, .null, .null, .null, .null, .null, .null, .null, .null, .null, .null, .null, .null, .null, .null, .null, .int 0, .int 0, .int 0, .int 0, .int 0, .int 0, .int 0, .int 0, .int 0, .int 0, .int 0, .int 0, .int 0, .int 0, .int 0]) (gok hw) hk (ww hw 53 rfl) (Or.inr ⟨ww hw 54 rfl, rfl, rfl⟩) (d0 70 rfl) (j := 22) rfl rfl rfl ?_
  refine Ev.aloadN (d0 71 rfl) rfl ?_
  refine Ev.bipush (z := 8) (d0 72 rfl) rfl ?_
  refine Ev.cput (v' := .int (8 : Int32)) (fs' := [.int (0 : Int32), .int (1 : Int32), .int (2 : Int32), .int (3 : Int32), .int (4 : Int32), .int (5 : Int32), .int (6 : Int32), .int (7 : Int32), .int (8 : Int32), .int (9 : Int32), .int (10 : Int32), .int (11 : Int32), .int (12 : Int32), .int (0 : Int32), .int (1 : Int32), .int (2 : Int32), .int (1 : Int32), .int (2 : Int32), .int (3 : Int32), .int (4 : Int32), .int (5 : Int32), .int (6 : Int32), .int (7 : Int32), .int (8 : Int32), .int 0, .int 0, .int 0, .int 0, .int 0, .int 0, .int 0, .int 0, .int 0, .int 0, .int 0, .int 0, .int 0, .int 0, .int 0, .null, .null, .null, .null, .null, .null, .null, .null, .null, .null, .null, .null, .null, .null, .null, .null, .null, .int 0, .int 0, .int 0, .int 0, .int 0, .int 0, .int 0, .int 0, .int 0, .int 0, .int 0, .int 0, .int 0, .int 0, .int 0]) (gok hw) hk (ww hw 55 rfl) (Or.inr ⟨ww hw 56 rfl, rfl, rfl⟩) (d0 73 rfl) (j := 23) rfl rfl rfl ?_
  refine Ev.aloadN (d0 74 rfl) rfl ?_
  refine Ev.bipush (z := 9) (d0 75 rfl) rfl ?_
  refine Ev.cput (v' := .int (9 : Int32)) (fs' := [.int (0 : Int32), .int (1 : Int32), .int (2 : Int32), .int (3 : Int32), .int (4 : Int32), .int (5 : Int32), .int (6 : Int32), .int (7 : Int32), .int (8 : Int32), .int (9 : Int32), .int (10 : Int32), .int (11 : Int32), .int (12 : Int32), .int (0 : Int32), .int (1 : Int32), .int (2 : Int32), .int (1 : Int32), .int (2 : Int32), .int (3 : Int32), .int (4 : Int32), .int (5 : Int32), .int (6 : Int32), .int (7 : Int32), .int (8 : Int32), .int (9 : Int32), .int 0, .int 0, .int 0, .int 0, .int 0, .int 0, .int 0, .int 0, .int 0, .int 0, .int 0, .int 0, .int 0, .int 0, .null, .null, .null, .null, .null, .null, .null, .null, .null, .null, .null, .null, .null, .null, .null, .null, .null, .int 0, .int 0, .int 0, .int 0, .int 0, .int 0, .int 0, .int 0, .int 0, .int 0, .int 0, .int 0, .int 0, .int 0, .int 0]) (gok hw) hk (ww hw 57 rfl) (Or.inr ⟨ww hw 58 rfl, rfl, rfl⟩) (d0 76 rfl) (j := 24) rfl rfl rfl ?_
  refine Ev.aloadN (d0 77 rfl) rfl ?_
  refine Ev.bipush (z := 10) (d0 78 rfl) rfl ?_
  refine Ev.cput (v' := .int (10 : Int32)) (fs' := [.int (0 : Int32), .int (1 : Int32), .int (2 : Int32), .int (3 : Int32), .int (4 : Int32), .int (5 : Int32), .int (6 : Int32), .int (7 : Int32), .int (8 : Int32), .int (9 : Int32), .int (10 : Int32), .int (11 : Int32), .int (12 : Int32), .int (0 : Int32), .int (1 : Int32), .int (2 : Int32), .int (1 : Int32), .int (2 : Int32), .int (3 : Int32), .int (4 : Int32), .int (5 : Int32), .int (6 : Int32), .int (7 : Int32), .int (8 : Int32), .int (9 : Int32), .int (10 : Int32), .int 0, .int 0, .int 0, .int 0, .int 0, .int 0, .int 0, .int 0, .int 0, .int 0, .int 0, .int 0, .int 0, .null, .null, .null, .null, .null, .null, .null, .null, .null, .null, .null, .null, .null, .null, .null, .null, .null, .int 0, .int 0, .int 0, .int 0, .int 0, .int 0, .int 0, .int 0, .int 0, .int 0, .int 0, .int 0, .int 0, .int 0, .int 0]) (gok hw) hk (ww hw 59 rfl) (Or.inr ⟨ww hw 60 rfl, rfl, rfl⟩) (d0 79 rfl) (j := 25) rfl rfl rfl ?_
  refine Ev.aloadN (d0 80 rfl) rfl ?_
  refine Ev.bipush (z := 11) (d0 81 rfl) rfl ?_
  refine Ev.cput (v' := .int (11 : Int32)) (fs' := [.int (0 : Int32), .int (1 : Int32), .int (2 : Int32), .int (3 : Int32), .int (4 : Int32), .int (5 : Int32), .int (6 : Int32), .int (7 : Int32), .int (8 : Int32), .int (9 : Int32), .int (10 : Int32), .int (11 : Int32), .int (12 : Int32), .int (0 : Int32), .int (1 : Int32), .int (2 : Int32), .int (1 : Int32), .int (2 : Int32), .int (3 : Int32), .int (4 : Int32), .int (5 : Int32), .int (6 : Int32), .int (7 : Int32), .int (8 : Int32), .int (9 : Int32), .int (10 : Int32), .int (11 : Int32), .int 0, .int 0, .int 0, .int 0, .int 0, .int 0, .int 0, .int 0, .int 0, .int 0, .int 0, .int 0, .null, .null, .null, .null, .null, .null, .null, .null, .null, .null, .null, .null, .null, .null, .null, .null, .null, .int 0, .int 0, .int 0, .int 0, .int 0, .int 0, .int 0, .int 0, .int 0, .int 0, .int 0, .int 0, .int 0, .int 0, .int 0]) (gok hw) hk (ww hw 61 rfl) (Or.inr ⟨ww hw 62 rfl, rfl, rfl⟩) (d0 82 rfl) (j := 26) rfl rfl rfl ?_
  refine Ev.aloadN (d0 83 rfl) rfl ?_
  refine Ev.bipush (z := 12) (d0 84 rfl) rfl ?_
  refine Ev.cput (v' := .int (12 : Int32)) (fs' := [.int (0 : Int32), .int (1 : Int32), .int (2 : Int32), .int (3 : Int32), .int (4 : Int32), .int (5 : Int32), .int (6 : Int32), .int (7 : Int32), .int (8 : Int32), .int (9 : Int32), .int (10 : Int32), .int (11 : Int32), .int (12 : Int32), .int (0 : Int32), .int (1 : Int32), .int (2 : Int32), .int (1 : Int32), .int (2 : Int32), .int (3 : Int32), .int (4 : Int32), .int (5 : Int32), .int (6 : Int32), .int (7 : Int32), .int (8 : Int32), .int (9 : Int32), .int (10 : Int32), .int (11 : Int32), .int (12 : Int32), .int 0, .int 0, .int 0, .int 0, .int 0, .int 0, .int 0, .int 0, .int 0, .int 0, .int 0, .null, .null, .null, .null, .null, .null, .null, .null, .null, .null, .null, .null, .null, .null, .null, .null, .null, .int 0, .int 0, .int 0, .int 0, .int 0, .int 0, .int 0, .int 0, .int 0, .int 0, .int 0, .int 0, .int 0, .int 0, .int 0]) (gok hw) hk (ww hw 63 rfl) (Or.inr ⟨ww hw 64 rfl, rfl, rfl⟩) (d0 85 rfl) (j := 27) rfl rfl rfl ?_
  refine Ev.aloadN (d0 86 rfl) rfl ?_
  refine Ev.bipush (z := 13) (d0 87 rfl) rfl ?_
  refine Ev.cput (v' := .int (13 : Int32)) (fs' := [.int (0 : Int32), .int (1 : Int32), .int (2 : Int32), .int (3 : Int32), .int (4 : Int32), .int (5 : Int32), .int (6 : Int32), .int (7 : Int32), .int (8 : Int32), .int (9 : Int32), .int (10 : Int32), .int (11 : Int32), .int (12 : Int32), .int (0 : Int32), .int (1 : Int32), .int (2 : Int32), .int (1 : Int32), .int (2 : Int32), .int (3 : Int32), .int (4 : Int32), .int (5 : Int32), .int (6 : Int32), .int (7 : Int32), .int (8 : Int32), .int (9 : Int32), .int (10 : Int32), .int (11 : Int32), .int (12 : Int32), .int (13 : Int32), .int 0, .int 0, .int 0, .int 0, .int 0, .int 0, .int 0, .int 0, .int 0, .int 0, .null, .null, .null, .null, .null, .null, .null, .null, .null, .null, .null, .null, .null, .null, .null, .null, .null, .int 0, .int 0, .int 0, .int 0, .int 0, .int 0, .int 0, .int 0, .int 0, .int 0, .int 0, .int 0, .int 0, .int 0, .int 0]) (gok hw) hk (ww hw 65 rfl) (Or.inr ⟨ww hw 66 rfl, rfl, rfl⟩) (d0 88 rfl) (j := 28) rfl rfl rfl ?_
  refine Ev.aloadN (d0 89 rfl) rfl ?_
  refine Ev.bipush (z := 14) (d0 90 rfl) rfl ?_
  refine Ev.cput (v' := .int (14 : Int32)) (fs' := [.int (0 : Int32), .int (1 : Int32), .int (2 : Int32), .int (3 : Int32), .int (4 : Int32), .int (5 : Int32), .int (6 : Int32), .int (7 : Int32), .int (8 : Int32), .int (9 : Int32), .int (10 : Int32), .int (11 : Int32), .int (12 : Int32), .int (0 : Int32), .int (1 : Int32), .int (2 : Int32), .int (1 : Int32), .int (2 : Int32), .int (3 : Int32), .int (4 : Int32), .int (5 : Int32), .int (6 : Int32), .int (7 : Int32), .int (8 : Int32), .int (9 : Int32), .int (10 : Int32), .int (11 : Int32), .int (12 : Int32), .int (13 : Int32), .int (14 : Int32), .int 0, .int 0, .int 0, .int 0, .int 0, .int 0, .int 0, .int 0, .int 0, .null, .null, .null, .null, .null, .null, .null, .null, .null, .null, .null, .null, .null, .null, .null, .null, .null, .int 0, .int 0, .int 0, .int 0, .int 0, .int 0, .int 0, .int 0, .int 0, .int 0, .int 0, .int 0, .int 0, .int 0, .int 0]) (gok hw) hk (ww hw 67 rfl) (Or.inr ⟨ww hw 68 rfl, rfl, rfl⟩) (d0 91 rfl) (j := 29) rfl rfl rfl ?_
  refine Ev.aloadN (d0 92 rfl) rfl ?_
  refine Ev.bipush (z := 15) (d0 93 rfl) rfl ?_
  refine Ev.cput (v' := .int (15 : Int32)) (fs' := [.int (0 : Int32), .int (1 : Int32), .int (2 : Int32), .int (3 : Int32), .int (4 : Int32), .int (5 : Int32), .int (6 : Int32), .int (7 : Int32), .int (8 : Int32), .int (9 : Int32), .int (10 : Int32), .int (11 : Int32), .int (12 : Int32), .int (0 : Int32), .int (1 : Int32), .int (2 : Int32), .int (1 : Int32), .int (2 : Int32), .int (3 : Int32), .int (4 : Int32), .int (5 : Int32), .int (6 : Int32), .int (7 : Int32), .int (8 : Int32), .int (9 : Int32), .int (10 : Int32), .int (11 : Int32), .int (12 : Int32), .int (13 : Int32), .int (14 : Int32), .int (15 : Int32), .int 0, .int 0, .int 0, .int 0, .int 0, .int 0, .int 0, .int 0, .null, .null, .null, .null, .null, .null, .null, .null, .null, .null, .null, .null, .null, .null, .null, .null, .null, .int 0, .int 0, .int 0, .int 0, .int 0, .int 0, .int 0, .int 0, .int 0, .int 0, .int 0, .int 0, .int 0, .int 0, .int 0]) (gok hw) hk (ww hw 69 rfl) (Or.inr ⟨ww hw 70 rfl, rfl, rfl⟩) (d0 94 rfl) (j := 30) rfl rfl rfl ?_
  refine Ev.aloadN (d0 95 rfl) rfl ?_
  refine Ev.bipush (z := 16) (d0 96 rfl) rfl ?_
  refine Ev.cput (v' := .int (16 : Int32)) (fs' := [.int (0 : Int32), .int (1 : Int32), .int (2 : Int32), .int (3 : Int32), .int (4 : Int32), .int (5 : Int32), .int (6 : Int32), .int (7 : Int32), .int (8 : Int32), .int (9 : Int32), .int (10 : Int32), .int (11 : Int32), .int (12 : Int32), .int (0 : Int32), .int (1 : Int32), .int (2 : Int32), .int (1 : Int32), .int (2 : Int32), .int (3 : Int32), .int (4 : Int32), .int (5 : Int32), .int (6 : Int32), .int (7 : Int32), .int (8 : Int32), .int (9 : Int32), .int (10 : Int32), .int (11 : Int32), .int (12 : Int32), .int (13 : Int32), .int (14 : Int32), .int (15 : Int32), .int (16 : Int32), .int 0, .int 0, .int 0, .int 0, .int 0, .int 0, .int 0, .null, .null, .null, .null, .null, .null, .null, .null, .null, .null, .null, .null, .null, .null, .null, .null, .null, .int 0, .int 0, .int 0, .int 0, .int 0, .int 0, .int 0, .int 0, .int 0, .int 0, .int 0, .int 0, .int 0, .int 0, .int 0]) (gok hw) hk (ww hw 71 rfl) (Or.inr ⟨ww hw 72 rfl, rfl, rfl⟩) (d0 97 rfl) (j := 31) rfl rfl rfl ?_
  refine Ev.aloadN (d0 98 rfl) rfl ?_
  refine Ev.bipush (z := 17) (d0 99 rfl) rfl ?_
  refine Ev.cput (v' := .int (17 : Int32)) (fs' := [.int (0 : Int32), .int (1 : Int32), .int (2 : Int32), .int (3 : Int32), .int (4 : Int32), .int (5 : Int32), .int (6 : Int32), .int (7 : Int32), .int (8 : Int32), .int (9 : Int32), .int (10 : Int32), .int (11 : Int32), .int (12 : Int32), .int (0 : Int32), .int (1 : Int32), .int (2 : Int32), .int (1 : Int32), .int (2 : Int32), .int (3 : Int32), .int (4 : Int32), .int (5 : Int32), .int (6 : Int32), .int (7 : Int32), .int (8 : Int32), .int (9 : Int32), .int (10 : Int32), .int (11 : Int32), .int (12 : Int32), .int (13 : Int32), .int (14 : Int32), .int (15 : Int32), .int (16 : Int32), .int (17 : Int32), .int 0, .int 0, .int 0, .int 0, .int 0, .int 0, .null, .null, .null, .null, .null, .null, .null, .null, .null, .null, .null, .null, .null, .null, .null, .null, .null, .int 0, .int 0, .int 0, .int 0, .int 0, .int 0, .int 0, .int 0, .int 0, .int 0, .int 0, .int 0, .int 0, .int 0, .int 0]) (gok hw) hk (ww hw 73 rfl) (Or.inr ⟨ww hw 74 rfl, rfl, rfl⟩) (d0 100 rfl) (j := 32) rfl rfl rfl ?_
  refine Ev.aloadN (d0 101 rfl) rfl ?_
  refine Ev.bipush (z := 18) (d0 102 rfl) rfl ?_
  refine Ev.cput (v' := .int (18 : Int32)) (fs' := [.int (0 : Int32), .int (1 : Int32), .int (2 : Int32), .int (3 : Int32), .int (4 : Int32), .int (5 : Int32), .int (6 : Int32), .int (7 : Int32), .int (8 : Int32), .int (9 : Int32), .int (10 : Int32), .int (11 : Int32), .int (12 : Int32), .int (0 : Int32), .int (1 : Int32), .int (2 : Int32), .int (1 : Int32), .int (2 : Int32), .int (3 : Int32), .int (4 : Int32), .int (5 : Int32), .int (6 : Int32), .int (7 : Int32), .int (8 : Int32), .int (9 : Int32), .int (10 : Int32), .int (11 : Int32), .int (12 : Int32), .int (13 : Int32), .int (14 : Int32), .int (15 : Int32), .int (16 : Int32), .int (17 : Int32), .int (18 : Int32), .int 0, .int 0, .int 0, .int 0, .int 0, .null, .null, .null, .null, .null, .null, .null, .null, .null, .null, .null, .null, .null, .null, .null, .null, .null, .int 0, .int 0, .int 0, .int 0, .int 0, .int 0, .int 0, .int 0, .int 0, .int 0, .int 0, .int 0, .int 0, .int 0, .int 0]) (gok hw) hk (ww hw 75 rfl) (Or.inr ⟨ww hw 76 rfl, rfl, rfl⟩) (d0 103 rfl) (j := 33) rfl rfl rfl ?_
  refine Ev.aloadN (d0 104 rfl) rfl ?_
  refine Ev.bipush (z := 19) (d0 105 rfl) rfl ?_
  refine Ev.cput (v' := .int (19 : Int32)) (fs' := [.int (0 : Int32), .int (1 : Int32), .int (2 : Int32), .int (3 : Int32), .int (4 : Int32), .int (5 : Int32), .int (6 : Int32), .int (7 : Int32), .int (8 : Int32), .int (9 : Int32), .int (10 : Int32), .int (11 : Int32), .int (12 : Int32), .int (0 : Int32), .int (1 : Int32), .int (2 : Int32), .int (1 : Int32), .int (2 : Int32), .int (3 : Int32), .int (4 : Int32), .int (5 : Int32), .int (6 : Int32), .int (7 : Int32), .int (8 : Int32), .int (9 : Int32), .int (10 : Int32), .int (11 : Int32), .int (12 : Int32), .int (13 : Int32), .int (14 : Int32), .int (15 : Int32), .int (16 : Int32), .int (17 : Int32), .int (18 : Int32), .int (19 : Int32), .int 0, .int 0, .int 0, .int 0, .null, .null, .null, .null, .null, .null, .null, .null, .null, .null, .null, .null, .null, .null, .null, .null, .null, .int 0, .int 0, .int 0, .int 0, .int 0, .int 0, .int 0, .int 0, .int 0, .int 0, .int 0, .int 0, .int 0, .int 0, .int 0]) (gok hw) hk (ww hw 77 rfl) (Or.inr ⟨ww hw 78 rfl, rfl, rfl⟩) (d0 106 rfl) (j := 34) rfl rfl rfl ?_
  refine Ev.aloadN (d0 107 rfl) rfl ?_
  refine Ev.bipush (z := 64) (d0 108 rfl) rfl ?_
  refine Ev.cput (v' := .int (64 : Int32)) (fs' := [.int (0 : Int32), .int (1 : Int32), .int (2 : Int32), .int (3 : Int32), .int (4 : Int32), .int (5 : Int32), .int (6 : Int32), .int (7 : Int32), .int (8 : Int32), .int (9 : Int32), .int (10 : Int32), .int (11 : Int32), .int (12 : Int32), .int (0 : Int32), .int (1 : Int32), .int (2 : Int32), .int (1 : Int32), .int (2 : Int32), .int (3 : Int32), .int (4 : Int32), .int (5 : Int32), .int (6 : Int32), .int (7 : Int32), .int (8 : Int32), .int (9 : Int32), .int (10 : Int32), .int (11 : Int32), .int (12 : Int32), .int (13 : Int32), .int (14 : Int32), .int (15 : Int32), .int (16 : Int32), .int (17 : Int32), .int (18 : Int32), .int (19 : Int32), .int (64 : Int32), .int 0, .int 0, .int 0, .null, .null, .null, .null, .null, .null, .null, .null, .null, .null, .null, .null, .null, .null, .null, .null, .null, .int 0, .int 0, .int 0, .int 0, .int 0, .int 0, .int 0, .int 0, .int 0, .int 0, .int 0, .int 0, .int 0, .int 0, .int 0]) (gok hw) hk (ww hw 79 rfl) (Or.inr ⟨ww hw 80 rfl, rfl, rfl⟩) (d0 109 rfl) (j := 35) rfl rfl rfl ?_
  refine Ev.aloadN (d0 110 rfl) rfl ?_
  refine Ev.sipush (z := 160) (d0 111 rfl) rfl ?_
  refine Ev.cput (v' := .int (160 : Int32)) (fs' := [.int (0 : Int32), .int (1 : Int32), .int (2 : Int32), .int (3 : Int32), .int (4 : Int32), .int (5 : Int32), .int (6 : Int32), .int (7 : Int32), .int (8 : Int32), .int (9 : Int32), .int (10 : Int32), .int (11 : Int32), .int (12 : Int32), .int (0 : Int32), .int (1 : Int32), .int (2 : Int32), .int (1 : Int32), .int (2 : Int32), .int (3 : Int32), .int (4 : Int32), .int (5 : Int32), .int (6 : Int32), .int (7 : Int32), .int (8 : Int32), .int (9 : Int32), .int (10 : Int32), .int (11 : Int32), .int (12 : Int32), .int (13 : Int32), .int (14 : Int32), .int (15 : Int32), .int (16 : Int32), .int (17 : Int32), .int (18 : Int32), .int (19 : Int32), .int (64 : Int32), .int (160 : Int32), .int 0, .int 0, .null, .null, .null, .null, .null, .null, .null, .null, .null, .null, .null, .null, .null, .null, .null, .null, .null, .int 0, .int 0, .int 0, .int 0, .int 0, .int 0, .int 0, .int 0, .int 0, .int 0, .int 0, .int 0, .int 0, .int 0, .int 0]) (gok hw) hk (ww hw 81 rfl) (Or.inr ⟨ww hw 82 rfl, rfl, rfl⟩) (d0 112 rfl) (j := 36) rfl rfl rfl ?_
  refine Ev.aloadN (d0 113 rfl) rfl ?_
  refine Ev.sipush (z := 512) (d0 114 rfl) rfl ?_
  refine Ev.cput (v' := .int (512 : Int32)) (fs' := [.int (0 : Int32), .int (1 : Int32), .int (2 : Int32), .int (3 : Int32), .int (4 : Int32), .int (5 : Int32), .int (6 : Int32), .int (7 : Int32), .int (8 : Int32), .int (9 : Int32), .int (10 : Int32), .int (11 : Int32), .int (12 : Int32), .int (0 : Int32), .int (1 : Int32), .int (2 : Int32), .int (1 : Int32), .int (2 : Int32), .int (3 : Int32), .int (4 : Int32), .int (5 : Int32), .int (6 : Int32), .int (7 : Int32), .int (8 : Int32), .int (9 : Int32), .int (10 : Int32), .int (11 : Int32), .int (12 : Int32), .int (13 : Int32), .int (14 : Int32), .int (15 : Int32), .int (16 : Int32), .int (17 : Int32), .int (18 : Int32), .int (19 : Int32), .int (64 : Int32), .int (160 : Int32), .int (512 : Int32), .int 0, .null, .null, .null, .null, .null, .null, .null, .null, .null, .null, .null, .null, .null, .null, .null, .null, .null, .int 0, .int 0, .int 0, .int 0, .int 0, .int 0, .int 0, .int 0, .int 0, .int 0, .int 0, .int 0, .int 0, .int 0, .int 0]) (gok hw) hk (ww hw 83 rfl) (Or.inr ⟨ww hw 84 rfl, rfl, rfl⟩) (d0 115 rfl) (j := 37) rfl rfl rfl ?_
  refine Ev.aloadN (d0 116 rfl) rfl ?_
  refine Ev.sipush (z := 1024) (d0 117 rfl) rfl ?_
  refine Ev.cput (v' := .int (1024 : Int32)) (fs' := [.int (0 : Int32), .int (1 : Int32), .int (2 : Int32), .int (3 : Int32), .int (4 : Int32), .int (5 : Int32), .int (6 : Int32), .int (7 : Int32), .int (8 : Int32), .int (9 : Int32), .int (10 : Int32), .int (11 : Int32), .int (12 : Int32), .int (0 : Int32), .int (1 : Int32), .int (2 : Int32), .int (1 : Int32), .int (2 : Int32), .int (3 : Int32), .int (4 : Int32), .int (5 : Int32), .int (6 : Int32), .int (7 : Int32), .int (8 : Int32), .int (9 : Int32), .int (10 : Int32), .int (11 : Int32), .int (12 : Int32), .int (13 : Int32), .int (14 : Int32), .int (15 : Int32), .int (16 : Int32), .int (17 : Int32), .int (18 : Int32), .int (19 : Int32), .int (64 : Int32), .int (160 : Int32), .int (512 : Int32), .int (1024 : Int32), .null, .null, .null, .null, .null, .null, .null, .null, .null, .null, .null, .null, .null, .null, .null, .null, .null, .int 0, .int 0, .int 0, .int 0, .int 0, .int 0, .int 0, .int 0, .int 0, .int 0, .int 0, .int 0, .int 0, .int 0, .int 0]) (gok hw) hk (ww hw 85 rfl) (Or.inr ⟨ww hw 86 rfl, rfl, rfl⟩) (d0 118 rfl) (j := 38) rfl rfl rfl ?_
  refine Ev.aloadN (d0 119 rfl) rfl ?_
  refine Ev.sipush (z := 128) (d0 120 rfl) rfl ?_
  refine Ev.cnew (aty := .int) (b := false) (k := 128) (q := 0) (as' := [(false, tab 128 (fun _ => 0))]) (ww hw 87 rfl) rfl (d0 121 rfl) (by decide) rfl (by decide) rfl rfl ?_
  refine Ev.cput (v' := .ref (pre.length + 1 + 0)) (fs' := [.int (0 : Int32), .int (1 : Int32), .int (2 : Int32), .int (3 : Int32), .int (4 : Int32), .int (5 : Int32), .int (6 : Int32), .int (7 : Int32), .int (8 : Int32), .int (9 : Int32), .int (10 : Int32), .int (11 : Int32), .int (12 : Int32), .int (0 : Int32), .int (1 : Int32), .int (2 : Int32), .int (1 : Int32), .int (2 : Int32), .int (3 : Int32), .int (4 : Int32), .int (5 : Int32), .int (6 : Int32), .int (7 : Int32), .int (8 : Int32), .int (9 : Int32), .int (10 : Int32), .int (11 : Int32), .int (12 : Int32), .int (13 : Int32), .int (14 : Int32), .int (15 : Int32), .int (16 : Int32), .int (17 : Int32), .int (18 : Int32), .int (19 : Int32), .int (64 : Int32), .int (160 : Int32), .int (512 : Int32), .int (1024 : Int32), .ref (pre.length + 1 + 0), .null, .null, .null, .null, .null, .null, .null, .null, .null, .null, .null, .null, .null, .null, .null, .null, .int 0, .int 0, .int 0, .int 0, .int 0, .int 0, .int 0, .int 0, .int 0, .int 0, .int 0, .int 0, .int 0, .int 0, .int 0]) (gok hw) hk (ww hw 88 rfl) (Or.inr ⟨ww hw 89 rfl, rfl, rfl⟩) (d0 122 rfl) (j := 39) rfl rfl rfl ?_
  refine Ev.aloadN (d0 123 rfl) rfl ?_
  refine Ev.sipush (z := 512) (d0 124 rfl) rfl ?_
  refine Ev.cnew (aty := .int) (b := false) (k := 512) (q := 1) (as' := [(false, tab 128 (fun _ => 0)), (false, tab 512 (fun _ => 0))]) (ww hw 87 rfl) rfl (d0 125 rfl) (by decide) rfl (by decide) rfl rfl ?_
  refine Ev.cput (v' := .ref (pre.length + 1 + 1)) (fs' := [.int (0 : Int32), .int (1 : Int32), .int (2 : Int32), .int (3 : Int32), .int (4 : Int32), .int (5 : Int32), .int (6 : Int32), .int (7 : Int32), .int (8 : Int32), .int (9 : Int32), .int (10 : Int32), .int (11 : Int32), .int (12 : Int32), .int (0 : Int32), .int (1 : Int32), .int (2 : Int32), .int (1 : Int32), .int (2 : Int32), .int (3 : Int32), .int (4 : Int32), .int (5 : Int32), .int (6 : Int32), .int (7 : Int32), .int (8 : Int32), .int (9 : Int32), .int (10 : Int32), .int (11 : Int32), .int (12 : Int32), .int (13 : Int32), .int (14 : Int32), .int (15 : Int32), .int (16 : Int32), .int (17 : Int32), .int (18 : Int32), .int (19 : Int32), .int (64 : Int32), .int (160 : Int32), .int (512 : Int32), .int (1024 : Int32), .ref (pre.length + 1 + 0), .ref (pre.length + 1 + 1), .null, .null, .null, .null, .null, .null, .null, .null, .null, .null, .null, .null, .null, .null, .null, .int 0, .int 0, .int 0, .int 0, .int 0, .int 0, .int 0, .int 0, .int 0, .int 0, .int 0, .int 0, .int 0, .int 0, .int 0]) (gok hw) hk (ww hw 90 rfl) (Or.inr ⟨ww hw 91 rfl, rfl, rfl⟩) (d0 126 rfl) (j := 40) rfl rfl rfl ?_
  refine Ev.aloadN (d0 127 rfl) rfl ?_
  refine Ev.sipush (z := 512) (d0 128 rfl) rfl ?_
  refine Ev.cnew (aty := .int) (b := false) (k := 512) (q := 2) (as' := [(false, tab 128 (fun _ => 0)), (false, tab 512 (fun _ => 0)), (false, tab 512 (fun _ => 0))]) (ww hw 87 rfl) rfl (d0 129 rfl) (by decide) rfl (by decide) rfl rfl ?_
  refine Ev.cput (v' := .ref (pre.length + 1 + 2)) (fs' := [.int (0 : Int32), .int (1 : Int32), .int (2 : Int32), .int (3 : Int32), .int (4 : Int32), .int (5 : Int32), .int (6 : Int32), .int (7 : Int32), .int (8 : Int32), .int (9 : Int32), .int (10 : Int32), .int (11 : Int32), .int (12 : Int32), .int (0 : Int32), .int (1 : Int32), .int (2 : Int32), .int (1 : Int32), .int (2 : Int32), .int (3 : Int32), .int (4 : Int32), .int (5 : Int32), .int (6 : Int32), .int (7 : Int32), .int (8 : Int32), .int (9 : Int32), .int (10 : Int32), .int (11 : Int32), .int (12 : Int32), .int (13 : Int32), .int (14 : Int32), .int (15 : Int32), .int (16 : Int32), .int (17 : Int32), .int (18 : Int32), .int (19 : Int32), .int (64 : Int32), .int (160 : Int32), .int (512 : Int32), .int (1024 : Int32), .ref (pre.length + 1 + 0), .ref (pre.length + 1 + 1), .ref (pre.length + 1 + 2), .null, .null, .null, .null, .null, .null, .null, .null, .null, .null, .null, .null, .null, .null, .int 0, .int 0, .int 0, .int 0, .int 0, .int 0, .int 0, .int 0, .int 0, .int 0, .int 0, .int 0, .int 0, .int 0, .int 0]) (gok hw) hk (ww hw 92 rfl) (Or.inr ⟨ww hw 93 rfl, rfl, rfl⟩) (d0 130 rfl) (j := 41) rfl rfl rfl ?_
  refine Ev.aloadN (d0 131 rfl) rfl ?_
  refine Ev.sipush (z := 160) (d0 132 rfl) rfl ?_
  refine Ev.cnew (aty := .int) (b := false) (k := 160) (q := 3) (as' := [(false, tab 128 (fun _ => 0)), (false, tab 512 (fun _ => 0)), (false, tab 512 (fun _ => 0)), (false, tab 160 (fun _ => 0))]) (ww hw 87 rfl) rfl (d0 133 rfl) (by decide) rfl (by decide) rfl rfl ?_
  refine Ev.cput (v' := .ref (pre.length + 1 + 3)) (fs' := [.int (0 : Int32), .int (1 : Int32), .int (2 : Int32), .int (3 : Int32), .int (4 : Int32), .int (5 : Int32), .int (6 : Int32), .int (7 : Int32), .int (8 : Int32), .int (9 : Int32), .int (10 : Int32), .int (11 : Int32), .int (12 : Int32), .int (0 : Int32), .int (1 : Int32), .int (2 : Int32), .int (1 : Int32), .int (2 : Int32), .int (3 : Int32), .int (4 : Int32), .int (5 : Int32), .int (6 : Int32), .int (7 : Int32), .int (8 : Int32), .int (9 : Int32), .int (10 : Int32), .int (11 : Int32), .int (12 : Int32), .int (13 : Int32), .int (14 : Int32), .int (15 : Int32), .int (16 : Int32), .int (17 : Int32), .int (18 : Int32), .int (19 : Int32), .int (64 : Int32), .int (160 : Int32), .int (512 : Int32), .int (1024 : Int32), .ref (pre.length + 1 + 0), .ref (pre.length + 1 + 1), .ref (pre.length + 1 + 2), .ref (pre.length + 1 + 3), .null, .null, .null, .null, .null, .null, .null, .null, .null, .null, .null, .null, .null, .int 0, .int 0, .int 0, .int 0, .int 0, .int 0, .int 0, .int 0, .int 0, .int 0, .int 0, .int 0, .int 0, .int 0, .int 0]) (gok hw) hk (ww hw 94 rfl) (Or.inr ⟨ww hw 95 rfl, rfl, rfl⟩) (d0 134 rfl) (j := 42) rfl rfl rfl ?_
  refine Ev.aloadN (d0 135 rfl) rfl ?_
  refine Ev.bipush (z := 64) (d0 136 rfl) rfl ?_
  refine Ev.cnew (aty := .int) (b := false) (k := 64) (q := 4) (as' := [(false, tab 128 (fun _ => 0)), (false, tab 512 (fun _ => 0)), (false, tab 512 (fun _ => 0)), (false, tab 160 (fun _ => 0)), (false, tab 64 (fun _ => 0))]) (ww hw 87 rfl) rfl (d0 137 rfl) (by decide) rfl (by decide) rfl rfl ?_
  refine Ev.cput (v' := .ref (pre.length + 1 + 4)) (fs' := [.int (0 : Int32), .int (1 : Int32), .int (2 : Int32), .int (3 : Int32), .int (4 : Int32), .int (5 : Int32), .int (6 : Int32), .int (7 : Int32), .int (8 : Int32), .int (9 : Int32), .int (10 : Int32), .int (11 : Int32), .int (12 : Int32), .int (0 : Int32), .int (1 : Int32), .int (2 : Int32), .int (1 : Int32), .int (2 : Int32), .int (3 : Int32), .int (4 : Int32), .int (5 : Int32), .int (6 : Int32), .int (7 : Int32), .int (8 : Int32), .int (9 : Int32), .int (10 : Int32), .int (11 : Int32), .int (12 : Int32), .int (13 : Int32), .int (14 : Int32), .int (15 : Int32), .int (16 : Int32), .int (17 : Int32), .int (18 : Int32), .int (19 : Int32), .int (64 : Int32), .int (160 : Int32), .int (512 : Int32), .int (1024 : Int32), .ref (pre.length + 1 + 0), .ref (pre.length + 1 + 1), .ref (pre.length + 1 + 2), .ref (pre.length + 1 + 3), .ref (pre.length + 1 + 4), .null, .null, .null, .null, .null, .null, .null, .null, .null, .null, .null, .null, .int 0, .int 0, .int 0, .int 0, .int 0, .int 0, .int 0, .int 0, .int 0, .int 0, .int 0, .int 0, .int 0, .int 0, .int 0]) (gok hw) hk (ww hw 96 rfl) (Or.inr ⟨ww hw 97 rfl, rfl, rfl⟩) (d0 138 rfl) (j := 43) rfl rfl rfl ?_
  refine Ev.aloadN (d0 139 rfl) rfl ?_
  refine Ev.bipush (z := 64) (d0 140 rfl) rfl ?_
  refine Ev.cnew (aty := .int) (b := false) (k := 64) (q := 5) (as' := [(false, tab 128 (fun _ => 0)), (false, tab 512 (fun _ => 0)), (false, tab 512 (fun _ => 0)), (false, tab 160 (fun _ => 0)), (false, tab 64 (fun _ => 0)), (false, tab 64 (fun _ => 0))]) (ww hw 87 rfl) rfl (d0 141 rfl) (by decide) rfl (by decide) rfl rfl ?_
  refine Ev.cput (v' := .ref (pre.length + 1 + 5)) (fs' := [.int (0 : Int32), .int (1 : Int32), .int (2 : Int32), .int (3 : Int32), .int (4 : Int32), .int (5 : Int32), .int (6 : Int32), .int (7 : Int32), .int (8 : Int32), .int (9 : Int32), .int (10 : Int32), .int (11 : Int32), .int (12 : Int32), .int (0 : Int32), .int (1 : Int32), .int (2 : Int32), .int (1 : Int32), .int (2 : Int32), .int (3 : Int32), .int (4 : Int32), .int (5 : Int32), .int (6 : Int32), .int (7 : Int32), .int (8 : Int32), .int (9 : Int32), .int (10 : Int32), .int (11 : Int32), .int (12 : Int32), .int (13 : Int32), .int (14 : Int32), .int (15 : Int32), .int (16 : Int32), .int (17 : Int32), .int (18 : Int32), .int (19 : Int32), .int (64 : Int32), .int (160 : Int32), .int (512 : Int32), .int (1024 : Int32), .ref (pre.length + 1 + 0), .ref (pre.length + 1 + 1), .ref (pre.length + 1 + 2), .ref (pre.length + 1 + 3), .ref (pre.length + 1 + 4), .ref (pre.length + 1 + 5), .null, .null, .null, .null, .null, .null, .null, .null, .null, .null, .null, .int 0, .int 0, .int 0, .int 0, .int 0, .int 0, .int 0, .int 0, .int 0, .int 0, .int 0, .int 0, .int 0, .int 0, .int 0]) (gok hw) hk (ww hw 98 rfl) (Or.inr ⟨ww hw 99 rfl, rfl, rfl⟩) (d0 142 rfl) (j := 44) rfl rfl rfl ?_
  refine Ev.aloadN (d0 143 rfl) rfl ?_
  refine Ev.bipush (z := 64) (d0 144 rfl) rfl ?_
  refine Ev.cnew (aty := .int) (b := false) (k := 64) (q := 6) (as' := [(false, tab 128 (fun _ => 0)), (false, tab 512 (fun _ => 0)), (false, tab 512 (fun _ => 0)), (false, tab 160 (fun _ => 0)), (false, tab 64 (fun _ => 0)), (false, tab 64 (fun _ => 0)), (false, tab 64 (fun _ => 0))]) (ww hw 87 rfl) rfl (d0 145 rfl) (by decide) rfl (by decide) rfl rfl ?_
  refine Ev.cput (v' := .ref (pre.length + 1 + 6)) (fs' := [.int (0 : Int32), .int (1 : Int32), .int (2 : Int32), .int (3 : Int32), .int (4 : Int32), .int (5 : Int32), .int (6 : Int32), .int (7 : Int32), .int (8 : Int32), .int (9 : Int32), .int (10 : Int32), .int (11 : Int32), .int (12 : Int32), .int (0 : Int32), .int (1 : Int32), .int (2 : Int32), .int (1 : Int32), .int (2 : Int32), .int (3 : Int32), .int (4 : Int32), .int (5 : Int32), .int (6 : Int32), .int (7 : Int32), .int (8 : Int32), .int (9 : Int32), .int (10 : Int32), .int (11 : Int32), .int (12 : Int32), .int (13 : Int32), .int (14 : Int32), .int (15 : Int32), .int (16 : Int32), .int (17 : Int32), .int (18 : Int32), .int (19 : Int32), .int (64 : Int32), .int (160 : Int32), .int (512 : Int32), .int (1024 : Int32), .ref (pre.length + 1 + 0), .ref (pre.length + 1 + 1), .ref (pre.length + 1 + 2), .ref (pre.length + 1 + 3), .ref (pre.length + 1 + 4), .ref (pre.length + 1 + 5), .ref (pre.length + 1 + 6), .null, .null, .null, .null, .null, .null, .null, .null, .null, .null, .int 0, .int 0, .int 0, .int 0, .int 0, .int 0, .int 0, .int 0, .int 0, .int 0, .int 0, .int 0, .int 0, .int 0, .int 0]) (gok hw) hk (ww hw 100 rfl) (Or.inr ⟨ww hw 101 rfl, rfl, rfl⟩) (d0 146 rfl) (j := 45) rfl rfl rfl ?_
  refine Ev.aloadN (d0 147 rfl) rfl ?_
  refine Ev.bipush (z := 64) (d0 148 rfl) rfl ?_
  refine Ev.cnew (aty := .int) (b := false) (k := 64) (q := 7) (as' := [(false, tab 128 (fun _ => 0)), (false, tab 512 (fun _ => 0)), (false, tab 512 (fun _ => 0)), (false, tab 160 (fun _ => 0)), (false, tab 64 (fun _ => 0)), (false, tab 64 (fun _ => 0)), (false, tab 64 (fun _ => 0)), (false, tab 64 (fun _ => 0))]) (ww hw 87 rfl) rfl (d0 149 rfl) (by decide) rfl (by decide) rfl rfl ?_
  refine Ev.cput (v' := .ref (pre.length + 1 + 7)) (fs' := [.int (0 : Int32), .int (1 : Int32), .int (2 : Int32), .int (3 : Int32), .int (4 : Int32), .int (5 : Int32), .int (6 : Int32), .int (7 : Int32), .int (8 : Int32), .int (9 : Int32), .int (10 : Int32), .int (11 : Int32), .int (12 : Int32), .int (0 : Int32), .int (1 : Int32), .int (2 : Int32), .int (1 : Int32), .int (2 : Int32), .int (3 : Int32), .int (4 : Int32), .int (5 : Int32), .int (6 : Int32), .int (7 : Int32), .int (8 : Int32), .int (9 : Int32), .int (10 : Int32), .int (11 : Int32), .int (12 : Int32), .int (13 : Int32), .int (14 : Int32), .int (15 : Int32), .int (16 : Int32), .int (17 : Int32), .int (18 : Int32), .int (19 : Int32), .int (64 : Int32), .int (160 : Int32), .int (512 : Int32), .int (1024 : Int32), .ref (pre.length + 1 + 0), .ref (pre.length + 1 + 1), .ref (pre.length + 1 + 2), .ref (pre.length + 1 + 3), .ref (pre.length + 1 + 4), .ref (pre.length + 1 + 5), .ref (pre.length + 1 + 6), .ref (pre.length + 1 + 7), .null, .null, .null, .null, .null, .null, .null, .null, .null, .int 0, .int 0, .int 0, .int 0, .int 0, .int 0, .int 0, .int 0, .int 0, .int 0, .int 0, .int 0, .int 0, .int 0, .int 0]) (gok hw) hk (ww hw 102 rfl) (Or.inr ⟨ww hw 103 rfl, rfl, rfl⟩) (d0 150 rfl) (j := 46) rfl rfl rfl ?_
  refine Ev.aloadN (d0 151 rfl) rfl ?_
  refine Ev.bipush (z := 64) (d0 152 rfl) rfl ?_
  refine Ev.cnew (aty := .int) (b := false) (k := 64) (q := 8) (as' := [(false, tab 128 (fun _ => 0)), (false, tab 512 (fun _ => 0)), (false, tab 512 (fun _ => 0)), (false, tab 160 (fun _ => 0)), (false, tab 64 (fun _ => 0)), (false, tab 64 (fun _ => 0)), (false, tab 64 (fun _ => 0)), (false, tab 64 (fun _ => 0)), (false, tab 64 (fun _ => 0))]) (ww hw 87 rfl) rfl (d0 153 rfl) (by decide) rfl (by decide) rfl rfl ?_
  refine Ev.cput (v' := .ref (pre.length + 1 + 8)) (fs' := [.int (0 : Int32), .int (1 : Int32), .int (2 : Int32), .int (3 : Int32), .int (4 : Int32), .int (5 : Int32), .int (6 : Int32), .int (7 : Int32), .int (8 : Int32), .int (9 : Int32), .int (10 : Int32), .int (11 : Int32), .int (12 : Int32), .int (0 : Int32), .int (1 : Int32), .int (2 : Int32), .int (1 : Int32), .int (2 : Int32), .int (3 : Int32), .int (4 : Int32), .int (5 : Int32), .int (6 : Int32), .int (7 : Int32), .int (8 : Int32), .int (9 : Int32), .int (10 : Int32), .int (11 : Int32), .int (12 : Int32), .int (13 : Int32), .int (14 : Int32), .int (15 : Int32), .int (16 : Int32), .int (17 : Int32), .int (18 : Int32), .int (19 : Int32), .int (64 : Int32), .int (160 : Int32), .int (512 : Int32), .int (1024 : Int32), .ref (pre.length + 1 + 0), .ref (pre.length + 1 + 1), .ref (pre.length + 1 + 2), .ref (pre.length + 1 + 3), .ref (pre.length + 1 + 4), .ref (pre.length + 1 + 5), .ref (pre.length + 1 + 6), .ref (pre.length + 1 + 7), .ref (pre.length + 1 + 8), .null, .null, .null, .null, .null, .null, .null, .null, .int 0, .int 0, .int 0, .int 0, .int 0, .int 0, .int 0, .int 0, .int 0, .int 0, .int 0, .int 0, .int 0, .int 0, .int 0]) (gok hw) hk (ww hw 104 rfl) (Or.inr ⟨ww hw 105 rfl, rfl, rfl⟩) (d0 154 rfl) (j := 47) rfl rfl rfl ?_
  refine Ev.aloadN (d0 155 rfl) rfl ?_
  refine Ev.bipush (z := 64) (d0 156 rfl) rfl ?_
  refine Ev.cnew (aty := .int) (b := false) (k := 64) (q := 9) (as' := [(false, tab 128 (fun _ => 0)), (false, tab 512 (fun _ => 0)), (false, tab 512 (fun _ => 0)), (false, tab 160 (fun _ => 0)), (false, tab 64 (fun _ => 0)), (false, tab 64 (fun _ => 0)), (false, tab 64 (fun _ => 0)), (false, tab 64 (fun _ => 0)), (false, tab 64 (fun _ => 0)), (false, tab 64 (fun _ => 0))]) (ww hw 87 rfl) rfl (d0 157 rfl) (by decide) rfl (by decide) rfl rfl ?_
  refine Ev.cput (v' := .ref (pre.length + 1 + 9)) (fs' := [.int (0 : Int32), .int (1 : Int32), .int (2 : Int32), .int (3 : Int32), .int (4 : Int32), .int (5 : Int32), .int (6 : Int32), .int (7 : Int32), .int (8 : Int32), .int (9 : Int32), .int (10 : Int32), .int (11 : Int32), .int (12 : Int32), .int (0 : Int32), .int (1 : Int32), .int (2 : Int32), .int (1 : Int32), .int (2 : Int32), .int (3 : Int32), .int (4 : Int32), .int (5 : Int32), .int (6 : Int32), .int (7 : Int32), .int (8 : Int32), .int (9 : Int32), .int (10 : Int32), .int (11 : Int32), .int (12 : Int32), .int (13 : Int32), .int (14 : Int32), .int (15 : Int32), .int (16 : Int32), .int (17 : Int32), .int (18 : Int32), .int (19 : Int32), .int (64 : Int32), .int (160 : Int32), .int (512 : Int32), .int (1024 : Int32), .ref (pre.length + 1 + 0), .ref (pre.length + 1 + 1), .ref (pre.length + 1 + 2), .ref (pre.length + 1 + 3), .ref (pre.length + 1 + 4), .ref (pre.length + 1 + 5), .ref (pre.length + 1 + 6), .ref (pre.length + 1 + 7), .ref (pre.length + 1 + 8), .ref (pre.length + 1 + 9), .null, .null, .null, .null, .null, .null, .null, .int 0, .int 0, .int 0, .int 0, .int 0, .int 0, .int 0, .int 0, .int 0, .int 0, .int 0, .int 0, .int 0, .int 0, .int 0]) (gok hw) hk (ww hw 106 rfl) (Or.inr ⟨ww hw 107 rfl, rfl, rfl⟩) (d0 158 rfl) (j := 48) rfl rfl rfl ?_
  refine Ev.aloadN (d0 159 rfl) rfl ?_
  refine Ev.bipush (z := 64) (d0 160 rfl) rfl ?_
  refine Ev.cnew (aty := .int) (b := false) (k := 64) (q := 10) (as' := [(false, tab 128 (fun _ => 0)), (false, tab 512 (fun _ => 0)), (false, tab 512 (fun _ => 0)), (false, tab 160 (fun _ => 0)), (false, tab 64 (fun _ => 0)), (false, tab 64 (fun _ => 0)), (false, tab 64 (fun _ => 0)), (false, tab 64 (fun _ => 0)), (false, tab 64 (fun _ => 0)), (false, tab 64 (fun _ => 0)), (false, tab 64 (fun _ => 0))]) (ww hw 87 rfl) rfl (d0 161 rfl) (by decide) rfl (by decide) rfl rfl ?_
  refine Ev.cput (v' := .ref (pre.length + 1 + 10)) (fs' := [.int (0 : Int32), .int (1 : Int32), .int (2 : Int32), .int (3 : Int32), .int (4 : Int32), .int (5 : Int32), .int (6 : Int32), .int (7 : Int32), .int (8 : Int32), .int (9 : Int32), .int (10 : Int32), .int (11 : Int32), .int (12 : Int32), .int (0 : Int32), .int (1 : Int32), .int (2 : Int32), .int (1 : Int32), .int (2 : Int32), .int (3 : Int32), .int (4 : Int32), .int (5 : Int32), .int (6 : Int32), .int (7 : Int32), .int (8 : Int32), .int (9 : Int32), .int (10 : Int32), .int (11 : Int32), .int (12 : Int32), .int (13 : Int32), .int (14 : Int32), .int (15 : Int32), .int (16 : Int32), .int (17 : Int32), .int (18 : Int32), .int (19 : Int32), .int (64 : Int32), .int (160 : Int32), .int (512 : Int32), .int (1024 : Int32), .ref (pre.length + 1 + 0), .ref (pre.length + 1 + 1), .ref (pre.length + 1 + 2), .ref (pre.length + 1 + 3), .ref (pre.length + 1 + 4), .ref (pre.length + 1 + 5), .ref (pre.length + 1 + 6), .ref (pre.length + 1 + 7), .ref (pre.length + 1 + 8), .ref (pre.length + 1 + 9), .ref (pre.length + 1 + 10), .null, .null, .null, .null, .null, .null, .int 0, .int 0, .int 0, .int 0, .int 0, .int 0, .int 0, .int 0, .int 0, .int 0, .int 0, .int 0, .int 0, .int 0, .int 0]) (gok hw) hk (ww hw 108 rfl) (Or.inr ⟨ww hw 109 rfl, rfl, rfl⟩) (d0 162 rfl) (j := 49) rfl rfl rfl ?_
  refine Ev.aloadN (d0 163 rfl) rfl ?_
  refine Ev.sipush (z := 1024) (d0 164 rfl) rfl ?_
  refine Ev.cnew (aty := .int) (b := false) (k := 1024) (q := 11) (as' := [(false, tab 128 (fun _ => 0)), (false, tab 512 (fun _ => 0)), (false, tab 512 (fun _ => 0)), (false, tab 160 (fun _ => 0)), (false, tab 64 (fun _ => 0)), (false, tab 64 (fun _ => 0)), (false, tab 64 (fun _ => 0)), (false, tab 64 (fun _ => 0)), (false, tab 64 (fun _ => 0)), (false, tab 64 (fun _ => 0)), (false, tab 64 (fun _ => 0)), (false, tab 1024 (fun _ => 0))]) (ww hw 87 rfl) rfl (d0 165 rfl) (by decide) rfl (by decide) rfl rfl ?_
  refine Ev.cput (v' := .ref (pre.length + 1 + 11)) (fs' := [.int (0 : Int32), .int (1 : Int32), .int (2 : Int32), .int (3 : Int32), .int (4 : Int32), .int (5 : Int32), .int (6 : Int32), .int (7 : Int32), .int (8 : Int32), .int (9 : Int32), .int (10 : Int32), .int (11 : Int32), .int (12 : Int32), .int (0 : Int32), .int (1 : Int32), .int (2 : Int32), .int (1 : Int32), .int (2 : Int32), .int (3 : Int32), .int (4 : Int32), .int (5 : Int32), .int (6 : Int32), .int (7 : Int32), .int (8 : Int32), .int (9 : Int32), .int (10 : Int32), .int (11 : Int32), .int (12 : Int32), .int (13 : Int32), .int (14 : Int32), .int (15 : Int32), .int (16 : Int32), .int (17 : Int32), .int (18 : Int32), .int (19 : Int32), .int (64 : Int32), .int (160 : Int32), .int (512 : Int32), .int (1024 : Int32), .ref (pre.length + 1 + 0), .ref (pre.length + 1 + 1), .ref (pre.length + 1 + 2), .ref (pre.length + 1 + 3), .ref (pre.length + 1 + 4), .ref (pre.length + 1 + 5), .ref (pre.length + 1 + 6), .ref (pre.length + 1 + 7), .ref (pre.length + 1 + 8), .ref (pre.length + 1 + 9), .ref (pre.length + 1 + 10), .ref (pre.length + 1 + 11), .null, .null, .null, .null, .null, .int 0, .int 0, .int 0, .int 0, .int 0, .int 0, .int 0, .int 0, .int 0, .int 0, .int 0, .int 0, .int 0, .int 0, .int 0]) (gok hw) hk (ww hw 110 rfl) (Or.inr ⟨ww hw 111 rfl, rfl, rfl⟩) (d0 166 rfl) (j := 50) rfl rfl rfl ?_
  refine Ev.aloadN (d0 167 rfl) rfl ?_
  refine Ev.sipush (z := 1024) (d0 168 rfl) rfl ?_
  refine Ev.cnew (aty := .int) (b := false) (k := 1024) (q := 12) (as' := [(false, tab 128 (fun _ => 0)), (false, tab 512 (fun _ => 0)), (false, tab 512 (fun _ => 0)), (false, tab 160 (fun _ => 0)), (false, tab 64 (fun _ => 0)), (false, tab 64 (fun _ => 0)), (false, tab 64 (fun _ => 0)), (false, tab 64 (fun _ => 0)), (false, tab 64 (fun _ => 0)), (false, tab 64 (fun _ => 0)), (false, tab 64 (fun _ => 0)), (false, tab 1024 (fun _ => 0)), (false, tab 1024 (fun _ => 0))]) (ww hw 87 rfl) rfl (d0 169 rfl) (by decide) rfl (by decide) rfl rfl ?_
  refine Ev.cput (v' := .ref (pre.length + 1 + 12)) (fs' := [.int (0 : Int32), .int (1 : Int32), .int (2 : Int32), .int (3 : Int32), .int (4 : Int32), .int (5 : Int32), .int (6 : Int32), .int (7 : Int32), .int (8 : Int32), .int (9 : Int32), .int (10 : Int32), .int (11 : Int32), .int (12 : Int32), .int (0 : Int32), .int (1 : Int32), .int (2 : Int32), .int (1 : Int32), .int (2 : Int32), .int (3 : Int32), .int (4 : Int32), .int (5 : Int32), .int (6 : Int32), .int (7 : Int32), .int (8 : Int32), .int (9 : Int32), .int (10 : Int32), .int (11 : Int32), .int (12 : Int32), .int (13 : Int32), .int (14 : Int32), .int (15 : Int32), .int (16 : Int32), .int (17 : Int32), .int (18 : Int32), .int (19 : Int32), .int (64 : Int32), .int (160 : Int32), .int (512 : Int32), .int (1024 : Int32), .ref (pre.length + 1 + 0), .ref (pre.length + 1 + 1), .ref (pre.length + 1 + 2), .ref (pre.length + 1 + 3), .ref (pre.length + 1 + 4), .ref (pre.length + 1 + 5), .ref (pre.length + 1 + 6), .ref (pre.length + 1 + 7), .ref (pre.length + 1 + 8), .ref (pre.length + 1 + 9), .ref (pre.length + 1 + 10), .ref (pre.length + 1 + 11), .ref (pre.length + 1 + 12), .null, .null, .null, .null, .int 0, .int 0, .int 0, .int 0, .int 0, .int 0, .int 0, .int 0, .int 0, .int 0, .int 0, .int 0, .int 0, .int 0, .int 0]) (gok hw) hk (ww hw 112 rfl) (Or.inr ⟨ww hw 113 rfl, rfl, rfl⟩) (d0 170 rfl) (j := 51) rfl rfl rfl ?_
  refine Ev.aloadN (d0 171 rfl) rfl ?_
  refine Ev.bipush (z := 64) (d0 172 rfl) rfl ?_
  refine Ev.cnew (aty := .int) (b := false) (k := 64) (q := 13) (as' := [(false, tab 128 (fun _ => 0)), (false, tab 512 (fun _ => 0)), (false, tab 512 (fun _ => 0)), (false, tab 160 (fun _ => 0)), (false, tab 64 (fun _ => 0)), (false, tab 64 (fun _ => 0)), (false, tab 64 (fun _ => 0)), (false, tab 64 (fun _ => 0)), (false, tab 64 (fun _ => 0)), (false, tab 64 (fun _ => 0)), (false, tab 64 (fun _ => 0)), (false, tab 1024 (fun _ => 0)), (false, tab 1024 (fun _ => 0)), (false, tab 64 (fun _ => 0))]) (ww hw 87 rfl) rfl (d0 173 rfl) (by decide) rfl (by decide) rfl rfl ?_
  refine Ev.cput (v' := .ref (pre.length + 1 + 13)) (fs' := [.int (0 : Int32), .int (1 : Int32), .int (2 : Int32), .int (3 : Int32), .int (4 : Int32), .int (5 : Int32), .int (6 : Int32), .int (7 : Int32), .int (8 : Int32), .int (9 : Int32), .int (10 : Int32), .int (11 : Int32), .int (12 : Int32), .int (0 : Int32), .int (1 : Int32), .int (2 : Int32), .int (1 : Int32), .int (2 : Int32), .int (3 : Int32), .int (4 : Int32), .int (5 : Int32), .int (6 : Int32), .int (7 : Int32), .int (8 : Int32), .int (9 : Int32), .int (10 : Int32), .int (11 : Int32), .int (12 : Int32), .int (13 : Int32), .int (14 : Int32), .int (15 : Int32), .int (16 : Int32), .int (17 : Int32), .int (18 : Int32), .int (19 : Int32), .int (64 : Int32), .int (160 : Int32), .int (512 : Int32), .int (1024 : Int32), .ref (pre.length + 1 + 0), .ref (pre.length + 1 + 1), .ref (pre.length + 1 + 2), .ref (pre.length + 1 + 3), .ref (pre.length + 1 + 4), .ref (pre.length + 1 + 5), .ref (pre.length + 1 + 6), .ref (pre.length + 1 + 7), .ref (pre.length + 1 + 8), .ref (pre.length + 1 + 9), .ref (pre.length + 1 + 10), .ref (pre.length + 1 + 11), .ref (pre.length + 1 + 12), .ref (pre.length + 1 + 13), .null, .null, .null, .int 0, .int 0, .int 0, .int 0, .int 0, .int 0, .int 0, .int 0, .int 0, .int 0, .int 0, .int 0, .int 0, .int 0, .int 0]) (gok hw) hk (ww hw 114 rfl) (Or.inr ⟨ww hw 115 rfl, rfl, rfl⟩) (d0 174 rfl) (j := 52) rfl rfl rfl ?_
  refine Ev.aloadN (d0 175 rfl) rfl ?_
  refine Ev.bipush (z := 64) (d0 176 rfl) rfl ?_
  refine Ev.cnew (aty := .int) (b := false) (k := 64) (q := 14) (as' := [(false, tab 128 (fun _ => 0)), (false, tab 512 (fun _ => 0)), (false, tab 512 (fun _ => 0)), (false, tab 160 (fun _ => 0)), (false, tab 64 (fun _ => 0)), (false, tab 64 (fun _ => 0)), (false, tab 64 (fun _ => 0)), (false, tab 64 (fun _ => 0)), (false, tab 64 (fun _ => 0)), (false, tab 64 (fun _ => 0)), (false, tab 64 (fun _ => 0)), (false, tab 1024 (fun _ => 0)), (false, tab 1024 (fun _ => 0)), (false, tab 64 (fun _ => 0)), (false, tab 64 (fun _ => 0))]) (ww hw 87 rfl) rfl (d0 177 rfl) (by decide) rfl (by decide) rfl rfl ?_
  refine Ev.cput (v' := .ref (pre.length + 1 + 14)) (fs' := [.int (0 : Int32), .int (1 : Int32), .int (2 : Int32), .int (3 : Int32), .int (4 : Int32), .int (5 : Int32), .int (6 : Int32), .int (7 : Int32), .int (8 : Int32), .int (9 : Int32), .int (10 : Int32), .int (11 : Int32), .int (12 : Int32), .int (0 : Int32), .int (1 : Int32), .int (2 : Int32), .int (1 : Int32), .int (2 : Int32), .int (3 : Int32), .int (4 : Int32), .int (5 : Int32), .int (6 : Int32), .int (7 : Int32), .int (8 : Int32), .int (9 : Int32), .int (10 : Int32), .int (11 : Int32), .int (12 : Int32), .int (13 : Int32), .int (14 : Int32), .int (15 : Int32), .int (16 : Int32), .int (17 : Int32), .int (18 : Int32), .int (19 : Int32), .int (64 : Int32), .int (160 : Int32), .int (512 : Int32), .int (1024 : Int32), .ref (pre.length + 1 + 0), .ref (pre.length + 1 + 1), .ref (pre.length + 1 + 2), .ref (pre.length + 1 + 3), .ref (pre.length + 1 + 4), .ref (pre.length + 1 + 5), .ref (pre.length + 1 + 6), .ref (pre.length + 1 + 7), .ref (pre.length + 1 + 8), .ref (pre.length + 1 + 9), .ref (pre.length + 1 + 10), .ref (pre.length + 1 + 11), .ref (pre.length + 1 + 12), .ref (pre.length + 1 + 13), .ref (pre.length + 1 + 14), .null, .null, .int 0, .int 0, .int 0, .int 0, .int 0, .int 0, .int 0, .int 0, .int 0, .int 0, .int 0, .int 0, .int 0, .int 0, .int 0]) (gok hw) hk (ww hw 116 rfl) (Or.inr ⟨ww hw 117 rfl, rfl, rfl⟩) (d0 178 rfl) (j := 53) rfl rfl rfl ?_
  refine Ev.aloadN (d0 179 rfl) rfl ?_
  refine Ev.bipush (z := 64) (d0 180 rfl) rfl ?_
  refine Ev.cnew (aty := .int) (b := false) (k := 64) (q := 15) (as' := [(false, tab 128 (fun _ => 0)), (false, tab 512 (fun _ => 0)), (false, tab 512 (fun _ => 0)), (false, tab 160 (fun _ => 0)), (false, tab 64 (fun _ => 0)), (false, tab 64 (fun _ => 0)), (false, tab 64 (fun _ => 0)), (false, tab 64 (fun _ => 0)), (false, tab 64 (fun _ => 0)), (false, tab 64 (fun _ => 0)), (false, tab 64 (fun _ => 0)), (false, tab 1024 (fun _ => 0)), (false, tab 1024 (fun _ => 0)), (false, tab 64 (fun _ => 0)), (false, tab 64 (fun _ => 0)), (false, tab 64 (fun _ => 0))]) (ww hw 87 rfl) rfl (d0 181 rfl) (by decide) rfl (by decide) rfl rfl ?_
  refine Ev.cput (v' := .ref (pre.length + 1 + 15)) (fs' := [.int (0 : Int32), .int (1 : Int32), .int (2 : Int32), .int (3 : Int32), .int (4 : Int32), .int (5 : Int32), .int (6 : Int32), .int (7 : Int32), .int (8 : Int32), .int (9 : Int32), .int (10 : Int32), .int (11 : Int32), .int (12 : Int32), .int (0 : Int32), .int (1 : Int32), .int (2 : Int32), .int (1 : Int32), .int (2 : Int32), .int (3 : Int32), .int (4 : Int32), .int (5 : Int32), .int (6 : Int32), .int (7 : Int32), .int (8 : Int32), .int (9 : Int32), .int (10 : Int32), .int (11 : Int32), .int (12 : Int32), .int (13 : Int32), .int (14 : Int32), .int (15 : Int32), .int (16 : Int32), .int (17 : Int32), .int (18 : Int32), .int (19 : Int32), .int (64 : Int32), .int (160 : Int32), .int (512 : Int32), .int (1024 : Int32), .ref (pre.length + 1 + 0), .ref (pre.length + 1 + 1), .ref (pre.length + 1 + 2), .ref (pre.length + 1 + 3), .ref (pre.length + 1 + 4), .ref (pre.length + 1 + 5), .ref (pre.length + 1 + 6), .ref (pre.length + 1 + 7), .ref (pre.length + 1 + 8), .ref (pre.length + 1 + 9), .ref (pre.length + 1 + 10), .ref (pre.length + 1 + 11), .ref (pre.length + 1 + 12), .ref (pre.length + 1 + 13), .ref (pre.length + 1 + 14), .ref (pre.length + 1 + 15), .null, .int 0, .int 0, .int 0, .int 0, .int 0, .int 0, .int 0, .int 0, .int 0, .int 0, .int 0, .int 0, .int 0, .int 0, .int 0]) (gok hw) hk (ww hw 118 rfl) (Or.inr ⟨ww hw 119 rfl, rfl, rfl⟩) (d0 182 rfl) (j := 54) rfl rfl rfl ?_
  refine Ev.aloadN (d0 183 rfl) rfl ?_
  refine Ev.sipush (z := 512) (d0 184 rfl) rfl ?_
  refine Ev.cnew (aty := .int) (b := false) (k := 512) (q := 16) (as' := [(false, tab 128 (fun _ => 0)), (false, tab 512 (fun _ => 0)), (false, tab 512 (fun _ => 0)), (false, tab 160 (fun _ => 0)), (false, tab 64 (fun _ => 0)), (false, tab 64 (fun _ => 0)), (false, tab 64 (fun _ => 0)), (false, tab 64 (fun _ => 0)), (false, tab 64 (fun _ => 0)), (false, tab 64 (fun _ => 0)), (false, tab 64 (fun _ => 0)), (false, tab 1024 (fun _ => 0)), (false, tab 1024 (fun _ => 0)), (false, tab 64 (fun _ => 0)), (false, tab 64 (fun _ => 0)), (false, tab 64 (fun _ => 0)), (false, tab 512 (fun _ => 0))]) (ww hw 87 rfl) rfl (d0 185 rfl) (by decide) rfl (by decide) rfl rfl ?_
  refine Ev.cput (v' := .ref (pre.length + 1 + 16)) (fs' := [.int (0 : Int32), .int (1 : Int32), .int (2 : Int32), .int (3 : Int32), .int (4 : Int32), .int (5 : Int32), .int (6 : Int32), .int (7 : Int32), .int (8 : Int32), .int (9 : Int32), .int (10 : Int32), .int (11 : Int32), .int (12 : Int32), .int (0 : Int32), .int (1 : Int32), .int (2 : Int32), .int (1 : Int32), .int (2 : Int32), .int (3 : Int32), .int (4 : Int32), .int (5 : Int32), .int (6 : Int32), .int (7 : Int32), .int (8 : Int32), .int (9 : Int32), .int (10 : Int32), .int (11 : Int32), .int (12 : Int32), .int (13 : Int32), .int (14 : Int32), .int (15 : Int32), .int (16 : Int32), .int (17 : Int32), .int (18 : Int32), .int (19 : Int32), .int (64 : Int32), .int (160 : Int32), .int (512 : Int32), .int (1024 : Int32), .ref (pre.length + 1 + 0), .ref (pre.length + 1 + 1), .ref (pre.length + 1 + 2), .ref (pre.length + 1 + 3), .ref (pre.length + 1 + 4), .ref (pre.length + 1 + 5), .ref (pre.length + 1 + 6), .ref (pre.length + 1 + 7), .ref (pre.length + 1 + 8), .ref (pre.length + 1 + 9), .ref (pre.length + 1 + 10), .ref (pre.length + 1 + 11), .ref (pre.length + 1 + 12), .ref (pre.length + 1 + 13), .ref (pre.length + 1 + 14), .ref (pre.length + 1 + 15), .ref (pre.length + 1 + 16), .int 0, .int 0, .int 0, .int 0, .int 0, .int 0, .int 0, .int 0, .int 0, .int 0, .int 0, .int 0, .int 0, .int 0, .int 0]) (gok hw) hk (ww hw 120 rfl) (Or.inr ⟨ww hw 121 rfl, rfl, rfl⟩) (d0 186 rfl) (j := 55) rfl rfl rfl ?_
  show Ev (GG g) M_ctor 370 [.val (.ref pre.length), .val (.int a0), .unset] [] (KH flds al Ln pre [] (setI (setI (setI (setI (setI (setI (setI (setI (setI (setI (setI (setI (setI (setI (setI (setI (setI (setI (setI (setI (setI (setI (setI (setI (setI (setI (setI (setI (setI (setI (setI (setI (setI (setI (setI (setI (setI (setI (setI zeroS 0 (0 : Int32)) 1 (1 : Int32)) 2 (2 : Int32)) 3 (3 : Int32)) 4 (4 : Int32)) 5 (5 : Int32)) 6 (6 : Int32)) 7 (7 : Int32)) 8 (8 : Int32)) 9 (9 : Int32)) 10 (10 : Int32)) 11 (11 : Int32)) 12 (12 : Int32)) 13 (0 : Int32)) 14 (1 : Int32)) 15 (2 : Int32)) 16 (1 : Int32)) 17 (2 : Int32)) 18 (3 : Int32)) 19 (4 : Int32)) 20 (5 : Int32)) 21 (6 : Int32)) 22 (7 : Int32)) 23 (8 : Int32)) 24 (9 : Int32)) 25 (10 : Int32)) 26 (11 : Int32)) 27 (12 : Int32)) 28 (13 : Int32)) 29 (14 : Int32)) 30 (15 : Int32)) 31 (16 : Int32)) 32 (17 : Int32)) 33 (18 : Int32)) 34 (19 : Int32)) 35 (64 : Int32)) 36 (160 : Int32)) 37 (512 : Int32)) 38 (1024 : Int32))) _
  exact e_ctor_370 hw (K := KH flds al Ln pre []) (o := pre.length) (r := rA pre.length al) (view_of hk al_ok al_nd) a0 (setI (setI (setI (setI (setI (setI (setI (setI (setI (setI (setI (setI (setI (setI (setI (setI (setI (setI (setI (setI (setI (setI (setI (setI (setI (setI (setI (setI (setI (setI (setI (setI (setI (setI (setI (setI (setI (setI (setI zeroS 0 (0 : Int32)) 1 (1 : Int32)) 2 (2 : Int32)) 3 (3 : Int32)) 4 (4 : Int32)) 5 (5 : Int32)) 6 (6 : Int32)) 7 (7 : Int32)) 8 (8 : Int32)) 9 (9 : Int32)) 10 (10 : Int32)) 11 (11 : Int32)) 12 (12 : Int32)) 13 (0 : Int32)) 14 (1 : Int32)) 15 (2 : Int32)) 16 (1 : Int32)) 17 (2 : Int32)) 18 (3 : Int32)) 19 (4 : Int32)) 20 (5 : Int32)) 21 (6 : Int32)) 22 (7 : Int32)) 23 (8 : Int32)) 24 (9 : Int32)) 25 (10 : Int32)) 26 (11 : Int32)) 27 (12 : Int32)) 28 (13 : Int32)) 29 (14 : Int32)) 30 (15 : Int32)) 31 (16 : Int32)) 32 (17 : Int32)) 33 (18 : Int32)) 34 (19 : Int32)) 35 (64 : Int32)) 36 (160 : Int32)) 37 (512 : Int32)) 38 (1024 : Int32)) .unset rfl _ hr
def f_push (a0 : Int32) (a1 : Int32) (s : St) : Option (St) :=
  if (s.1 62) < (1024 : Int32) then
    grd (inb (s.1 62) 1024) <|
    bnd (setA s 50 (ix (s.1 62)) a0) fun s3 =>
    grd (inb (s3.1 62) 1024) <|
    bnd (setA s3 51 (ix (s3.1 62)) a1) fun s5 =>
    bnd (setI s5 62 ((s5.1 62) + (1 : Int32))) fun s6 =>
    some s6
  else
    bnd (setI s 69 ((1 : Int32) &&& 1)) fun s7 =>
    some s7
set_option maxRecDepth 100000 in
theorem e_push {g : GT} {a0 : Int32} {a1 : Int32} {s : St} {w : St} (hw : HW g) {K : St → MHeap} {o : Nat} {r : Nat → Nat} (V : View (GG g) Ln K o r) (hr : f_push a0 a1 s = some w) : EvC (GG g) M_push [.ref o, .int a0, .int a1] (K s) (none, (K w)) := by
  refine EvC.enter (L0 := [.val (.ref o), .val (.int a0), .val (.int a1)]) pl_push (fun _ => rfl) rfl rfl ?_
  unfold f_push at hr
  refine Ev.aloadN (d6 0 rfl) rfl ?_
  refine Ev.gI V (ww hw 147 rfl) (d6 1 rfl) (j := 62) rfl rfl ?_
  refine Ev.sipush (z := 1024) (d6 2 rfl) rfl ?_
  refine Ev.iclt (t := 16) (d6 3 rfl) rfl (fun c1 => ?_) (fun c1 => ?_)
  · replace hr := (if_pos c1).symm.trans hr
    refine Ev.aloadN (d6 8 rfl) rfl ?_
    refine Ev.gAr V (ww hw 110 rfl) (d6 9 rfl) (j := 50) rfl ?_
    refine Ev.aloadN (d6 10 rfl) rfl ?_
    refine Ev.gI V (ww hw 147 rfl) (d6 11 rfl) (j := 62) rfl rfl ?_
    refine Ev.iloadN (d6 12 rfl) rfl ?_
    obtain ⟨b2, hr⟩ := grd_some hr
    refine Ev.ias V (j := 50) rfl rfl (d6 13 rfl) b2 ?_
    revert hr
    generalize setA s 50 (ix (s.1 62)) a0 = s3
    intro hr
    replace hr := (bnd_eq _ _).symm.trans hr
    refine Ev.aloadN (d6 14 rfl) rfl ?_
    refine Ev.gAr V (ww hw 112 rfl) (d6 15 rfl) (j := 51) rfl ?_
    refine Ev.aloadN (d6 16 rfl) rfl ?_
    refine Ev.gI V (ww hw 147 rfl) (d6 17 rfl) (j := 62) rfl rfl ?_
    refine Ev.iloadN (d6 18 rfl) rfl ?_
    obtain ⟨b4, hr⟩ := grd_some hr
    refine Ev.ias V (j := 51) rfl rfl (d6 19 rfl) b4 ?_
    revert hr
    generalize setA s3 51 (ix (s3.1 62)) a1 = s5
    intro hr
    replace hr := (bnd_eq _ _).symm.trans hr
    refine Ev.aloadN (d6 20 rfl) rfl ?_
    refine Ev.dup (d6 21 rfl) rfl ?_
    refine Ev.gI V (ww hw 147 rfl) (d6 22 rfl) (j := 62) rfl rfl ?_
    refine Ev.iconst (z := 1) (d6 23 rfl) rfl ?_
    refine Ev.iadd (d6 24 rfl) ?_
    refine Ev.pI V (gok hw) (ww hw 147 rfl) (Or.inl (ww hw 148 rfl)) (d6 25 rfl) (j := 62) rfl ?_
    revert hr
    generalize setI s5 62 ((s5.1 62) + (1 : Int32)) = s6
    intro hr
    replace hr := (bnd_eq _ _).symm.trans hr
    cases hr
    exact Ev.vreturn rfl (d6 26 rfl)
  · replace hr := (if_neg c1).symm.trans hr
    refine Ev.aloadN (d6 4 rfl) rfl ?_
    refine Ev.iconst (z := 1) (d6 5 rfl) rfl ?_
    refine Ev.pZ V (gok hw) (ww hw 161 rfl) (Or.inl (ww hw 162 rfl)) (d6 6 rfl) (j := 69) rfl ?_
    revert hr
    generalize setI s 69 ((1 : Int32) &&& 1) = s7
    intro hr
    replace hr := (bnd_eq _ _).symm.trans hr
    cases hr
    exact Ev.vreturn rfl (d6 7 rfl)
def f_pushProgram (s : St) : Option (St) :=
  (f_push (15 : Int32) (0 : Int32) s).bind fun q1 =>
  (f_push (17 : Int32) (0 : Int32) q1).bind fun q3 =>
  (f_push (1 : Int32) (0 : Int32) q3).bind fun q5 =>
  (f_push (16 : Int32) (1 : Int32) q5).bind fun q7 =>
  (f_push (14 : Int32) (81 : Int32) q7).bind fun q9 =>
  (f_push (19 : Int32) (0 : Int32) q9).bind fun q11 =>
  (f_push (12 : Int32) (0 : Int32) q11).bind fun q13 =>
  (f_push (18 : Int32) (0 : Int32) q13).bind fun q15 =>
  (f_push (14 : Int32) (59 : Int32) q15).bind fun q17 =>
  (f_push (17 : Int32) (0 : Int32) q17).bind fun q19 =>
  (f_push (1 : Int32) (0 : Int32) q19).bind fun q21 =>
  (f_push (16 : Int32) (0 : Int32) q21).bind fun q23 =>
  (f_push (14 : Int32) (80 : Int32) q23).bind fun q25 =>
  some q25
set_option maxRecDepth 100000 in
theorem e_pushProgram {g : GT} {s : St} {w : St} (hw : HW g) {K : St → MHeap} {o : Nat} {r : Nat → Nat} (V : View (GG g) Ln K o r) (hr : f_pushProgram s = some w) : EvC (GG g) M_pushProgram [.ref o] (K s) (none, (K w)) := by
  refine EvC.enter (L0 := [.val (.ref o)]) pl_pushProgram (fun _ => rfl) rfl rfl ?_
  unfold f_pushProgram at hr
  refine Ev.aloadN (d5 0 rfl) rfl ?_
  refine Ev.bipush (z := 15) (d5 1 rfl) rfl ?_
  refine Ev.iconst (z := 0) (d5 2 rfl) rfl ?_
  obtain ⟨q1, hq2, hr⟩ := Option.bind_eq_some_iff.mp hr
  refine Ev.priv (y := M_push) (args := [.int (15 : Int32), .int (0 : Int32)]) (rest := []) (gok hw) rfl nm_push (ww hw 169 rfl) (ww hw 170 rfl) (ww hw 171 rfl) (ww hw 172 rfl) (lenOf pd_push rfl) (d5 3 rfl) (V.2.1 s) (e_push hw V hq2) (by decide) (Nat.le_of_ble_eq_true rfl) rfl ?_
  refine Ev.aloadN (d5 4 rfl) rfl ?_
  refine Ev.bipush (z := 17) (d5 5 rfl) rfl ?_
  refine Ev.iconst (z := 0) (d5 6 rfl) rfl ?_
  obtain ⟨q3, hq4, hr⟩ := Option.bind_eq_some_iff.mp hr
  refine Ev.priv (y := M_push) (args := [.int (17 : Int32), .int (0 : Int32)]) (rest := []) (gok hw) rfl nm_push (ww hw 169 rfl) (ww hw 170 rfl) (ww hw 171 rfl) (ww hw 172 rfl) (lenOf pd_push rfl) (d5 7 rfl) (V.2.1 q1) (e_push hw V hq4) (by decide) (Nat.le_of_ble_eq_true rfl) rfl ?_
  refine Ev.aloadN (d5 8 rfl) rfl ?_
  refine Ev.iconst (z := 1) (d5 9 rfl) rfl ?_
  refine Ev.iconst (z := 0) (d5 10 rfl) rfl ?_
  obtain ⟨q5, hq6, hr⟩ := Option.bind_eq_some_iff.mp hr
  refine Ev.priv (y := M_push) (args := [.int (1 : Int32), .int (0 : Int32)]) (rest := []) (gok hw) rfl nm_push (ww hw 169 rfl) (ww hw 170 rfl) (ww hw 171 rfl) (ww hw 172 rfl) (lenOf pd_push rfl) (d5 11 rfl) (V.2.1 q3) (e_push hw V hq6) (by decide) (Nat.le_of_ble_eq_true rfl) rfl ?_
  refine Ev.aloadN (d5 12 rfl) rfl ?_
  refine Ev.bipush (z := 16) (d5 13 rfl) rfl ?_
  refine Ev.iconst (z := 1) (d5 14 rfl) rfl ?_
  obtain ⟨q7, hq8, hr⟩ := Option.bind_eq_some_iff.mp hr
  refine Ev.priv (y := M_push) (args := [.int (16 : Int32), .int (1 : Int32)]) (rest := []) (gok hw) rfl nm_push (ww hw 169 rfl) (ww hw 170 rfl) (ww hw 171 rfl) (ww hw 172 rfl) (lenOf pd_push rfl) (d5 15 rfl) (V.2.1 q5) (e_push hw V hq8) (by decide) (Nat.le_of_ble_eq_true rfl) rfl ?_
  refine Ev.aloadN (d5 16 rfl) rfl ?_
  refine Ev.bipush (z := 14) (d5 17 rfl) rfl ?_
  refine Ev.bipush (z := 81) (d5 18 rfl) rfl ?_
  obtain ⟨q9, hq10, hr⟩ := Option.bind_eq_some_iff.mp hr
  refine Ev.priv (y := M_push) (args := [.int (14 : Int32), .int (81 : Int32)]) (rest := []) (gok hw) rfl nm_push (ww hw 169 rfl) (ww hw 170 rfl) (ww hw 171 rfl) (ww hw 172 rfl) (lenOf pd_push rfl) (d5 19 rfl) (V.2.1 q7) (e_push hw V hq10) (by decide) (Nat.le_of_ble_eq_true rfl) rfl ?_
  refine Ev.aloadN (d5 20 rfl) rfl ?_
  refine Ev.bipush (z := 19) (d5 21 rfl) rfl ?_
  refine Ev.iconst (z := 0) (d5 22 rfl) rfl ?_
  obtain ⟨q11, hq12, hr⟩ := Option.bind_eq_some_iff.mp hr
  refine Ev.priv (y := M_push) (args := [.int (19 : Int32), .int (0 : Int32)]) (rest := []) (gok hw) rfl nm_push (ww hw 169 rfl) (ww hw 170 rfl) (ww hw 171 rfl) (ww hw 172 rfl) (lenOf pd_push rfl) (d5 23 rfl) (V.2.1 q9) (e_push hw V hq12) (by decide) (Nat.le_of_ble_eq_true rfl) rfl ?_
  refine Ev.aloadN (d5 24 rfl) rfl ?_
  refine Ev.bipush (z := 12) (d5 25 rfl) rfl ?_
  refine Ev.iconst (z := 0) (d5 26 rfl) rfl ?_
  obtain ⟨q13, hq14, hr⟩ := Option.bind_eq_some_iff.mp hr
  refine Ev.priv (y := M_push) (args := [.int (12 : Int32), .int (0 : Int32)]) (rest := []) (gok hw) rfl nm_push (ww hw 169 rfl) (ww hw 170 rfl) (ww hw 171 rfl) (ww hw 172 rfl) (lenOf pd_push rfl) (d5 27 rfl) (V.2.1 q11) (e_push hw V hq14) (by decide) (Nat.le_of_ble_eq_true rfl) rfl ?_
  refine Ev.aloadN (d5 28 rfl) rfl ?_
  refine Ev.bipush (z := 18) (d5 29 rfl) rfl ?_
  refine Ev.iconst (z := 0) (d5 30 rfl) rfl ?_
  obtain ⟨q15, hq16, hr⟩ := Option.bind_eq_some_iff.mp hr
  refine Ev.priv (y := M_push) (args := [.int (18 : Int32), .int (0 : Int32)]) (rest := []) (gok hw) rfl nm_push (ww hw 169 rfl) (ww hw 170 rfl) (ww hw 171 rfl) (ww hw 172 rfl) (lenOf pd_push rfl) (d5 31 rfl) (V.2.1 q13) (e_push hw V hq16) (by decide) (Nat.le_of_ble_eq_true rfl) rfl ?_
  refine Ev.aloadN (d5 32 rfl) rfl ?_
  refine Ev.bipush (z := 14) (d5 33 rfl) rfl ?_
  refine Ev.bipush (z := 59) (d5 34 rfl) rfl ?_
  obtain ⟨q17, hq18, hr⟩ := Option.bind_eq_some_iff.mp hr
  refine Ev.priv (y := M_push) (args := [.int (14 : Int32), .int (59 : Int32)]) (rest := []) (gok hw) rfl nm_push (ww hw 169 rfl) (ww hw 170 rfl) (ww hw 171 rfl) (ww hw 172 rfl) (lenOf pd_push rfl) (d5 35 rfl) (V.2.1 q15) (e_push hw V hq18) (by decide) (Nat.le_of_ble_eq_true rfl) rfl ?_
  refine Ev.aloadN (d5 36 rfl) rfl ?_
  refine Ev.bipush (z := 17) (d5 37 rfl) rfl ?_
  refine Ev.iconst (z := 0) (d5 38 rfl) rfl ?_
  obtain ⟨q19, hq20, hr⟩ := Option.bind_eq_some_iff.mp hr
  refine Ev.priv (y := M_push) (args := [.int (17 : Int32), .int (0 : Int32)]) (rest := []) (gok hw) rfl nm_push (ww hw 169 rfl) (ww hw 170 rfl) (ww hw 171 rfl) (ww hw 172 rfl) (lenOf pd_push rfl) (d5 39 rfl) (V.2.1 q17) (e_push hw V hq20) (by decide) (Nat.le_of_ble_eq_true rfl) rfl ?_
  refine Ev.aloadN (d5 40 rfl) rfl ?_
  refine Ev.iconst (z := 1) (d5 41 rfl) rfl ?_
  refine Ev.iconst (z := 0) (d5 42 rfl) rfl ?_
  obtain ⟨q21, hq22, hr⟩ := Option.bind_eq_some_iff.mp hr
  refine Ev.priv (y := M_push) (args := [.int (1 : Int32), .int (0 : Int32)]) (rest := []) (gok hw) rfl nm_push (ww hw 169 rfl) (ww hw 170 rfl) (ww hw 171 rfl) (ww hw 172 rfl) (lenOf pd_push rfl) (d5 43 rfl) (V.2.1 q19) (e_push hw V hq22) (by decide) (Nat.le_of_ble_eq_true rfl) rfl ?_
  refine Ev.aloadN (d5 44 rfl) rfl ?_
  refine Ev.bipush (z := 16) (d5 45 rfl) rfl ?_
  refine Ev.iconst (z := 0) (d5 46 rfl) rfl ?_
  obtain ⟨q23, hq24, hr⟩ := Option.bind_eq_some_iff.mp hr
  refine Ev.priv (y := M_push) (args := [.int (16 : Int32), .int (0 : Int32)]) (rest := []) (gok hw) rfl nm_push (ww hw 169 rfl) (ww hw 170 rfl) (ww hw 171 rfl) (ww hw 172 rfl) (lenOf pd_push rfl) (d5 47 rfl) (V.2.1 q21) (e_push hw V hq24) (by decide) (Nat.le_of_ble_eq_true rfl) rfl ?_
  refine Ev.aloadN (d5 48 rfl) rfl ?_
  refine Ev.bipush (z := 14) (d5 49 rfl) rfl ?_
  refine Ev.bipush (z := 80) (d5 50 rfl) rfl ?_
  obtain ⟨q25, hq26, hr⟩ := Option.bind_eq_some_iff.mp hr
  refine Ev.priv (y := M_push) (args := [.int (14 : Int32), .int (80 : Int32)]) (rest := []) (gok hw) rfl nm_push (ww hw 169 rfl) (ww hw 170 rfl) (ww hw 171 rfl) (ww hw 172 rfl) (lenOf pd_push rfl) (d5 51 rfl) (V.2.1 q23) (e_push hw V hq26) (by decide) (Nat.le_of_ble_eq_true rfl) rfl ?_
  cases hr
  exact Ev.vreturn rfl (d5 52 rfl)
def f_la (s : St) : Option (Int32) :=
  if (s.1 68) < 0 then
    some (-1 : Int32)
  else
    if (s.1 68) < (s.1 57) then
      grd (inb (s.1 68) 128) <|
      some (s.2 39 (ix (s.1 68)))
    else
      some (-1 : Int32)
set_option maxRecDepth 100000 in
theorem e_la {g : GT} {s : St} {w : Int32} (hw : HW g) {K : St → MHeap} {o : Nat} {r : Nat → Nat} (V : View (GG g) Ln K o r) (hr : f_la s = some w) : EvC (GG g) M_la [.ref o] (K s) ((some (.int w)), (K s)) := by
  refine EvC.enter (L0 := [.val (.ref o)]) pl_la (fun h => nomatch h) rfl rfl ?_
  unfold f_la at hr
  refine Ev.aloadN (d9 0 rfl) rfl ?_
  refine Ev.gI V (ww hw 159 rfl) (d9 1 rfl) (j := 68) rfl rfl ?_
  refine Ev.iflt (t := 28) (d9 2 rfl) rfl (fun c1 => ?_) (fun c1 => ?_)
  · replace hr := (if_pos c1).symm.trans hr
    refine Ev.iconst (z := -1) (d9 14 rfl) rfl ?_
    cases hr
    exact Ev.ireturn rfl (d9 15 rfl)
  · replace hr := (if_neg c1).symm.trans hr
    refine Ev.aloadN (d9 3 rfl) rfl ?_
    refine Ev.gI V (ww hw 159 rfl) (d9 4 rfl) (j := 68) rfl rfl ?_
    refine Ev.aloadN (d9 5 rfl) rfl ?_
    refine Ev.gI V (ww hw 124 rfl) (d9 6 rfl) (j := 57) rfl rfl ?_
    refine Ev.icge (t := 28) (d9 7 rfl) rfl (fun c2 => ?_) (fun c2 => ?_)
    · replace hr := (if_pos c2).symm.trans hr
      refine Ev.aloadN (d9 8 rfl) rfl ?_
      refine Ev.gAr V (ww hw 88 rfl) (d9 9 rfl) (j := 39) rfl ?_
      refine Ev.aloadN (d9 10 rfl) rfl ?_
      refine Ev.gI V (ww hw 159 rfl) (d9 11 rfl) (j := 68) rfl rfl ?_
      obtain ⟨b3, hr⟩ := grd_some hr
      refine Ev.ial V (j := 39) rfl rfl (d9 12 rfl) b3 ?_
      cases hr
      exact Ev.ireturn rfl (d9 13 rfl)
    · replace hr := (if_neg c2).symm.trans hr
      refine Ev.iconst (z := -1) (d9 14 rfl) rfl ?_
      cases hr
      exact Ev.ireturn rfl (d9 15 rfl)
def f_stepAction (a0 : Int32) (a1 : Int32) (s : St) : Option (St) :=
  if a0 = (14 : Int32) then
    (f_la s).bind fun q2 =>
    if q2 = a1 then
      bnd (setI s 68 ((s.1 68) + (1 : Int32))) fun s5 =>
      some s5
    else
      bnd (setI s 69 ((1 : Int32) &&& 1)) fun s6 =>
      some s6
  else
    if a0 = (15 : Int32) then
      if (s.1 68) = (s.1 57) then
        bnd (setI s 70 ((1 : Int32) &&& 1)) fun s9 =>
        some s9
      else
        bnd (setI s 69 ((1 : Int32) &&& 1)) fun s10 =>
        some s10
    else
      if a0 = (16 : Int32) then
        if a1 < 0 then
          some s
        else
          if a1 < (160 : Int32) then
            grd (inb a1 160) <|
            bnd (setA s 42 (ix a1) (s.1 63)) fun s15 =>
            some s15
          else
            some s
      else
        if a0 = (17 : Int32) then
          none
        else
          if a0 = (18 : Int32) then
            none
          else
            if a0 = (19 : Int32) then
              if 0 < (s.1 66) then
                bnd (setI s 66 ((s.1 66) - (1 : Int32))) fun s20 =>
                some s20
              else
                some s
            else
              bnd (setI s 69 ((1 : Int32) &&& 1)) fun s21 =>
              some s21
set_option maxRecDepth 100000 in
theorem e_stepAction {g : GT} {a0 : Int32} {a1 : Int32} {s : St} {w : St} (hw : HW g) {K : St → MHeap} {o : Nat} {r : Nat → Nat} (V : View (GG g) Ln K o r) (hr : f_stepAction a0 a1 s = some w) : EvC (GG g) M_stepAction [.ref o, .int a0, .int a1] (K s) (none, (K w)) := by
  refine EvC.enter (L0 := [.val (.ref o), .val (.int a0), .val (.int a1)]) pl_stepAction (fun _ => rfl) rfl rfl ?_
  unfold f_stepAction at hr
  refine Ev.iloadN (d8 0 rfl) rfl ?_
  refine Ev.bipush (z := 14) (d8 1 rfl) rfl ?_
  refine Ev.icne (t := 35) (d8 2 rfl) rfl (fun c1 => ?_) (fun c1 => ?_)
  · replace hr := (if_pos c1).symm.trans hr
    refine Ev.aloadN (d8 3 rfl) rfl ?_
    obtain ⟨q2, hq3, hr⟩ := Option.bind_eq_some_iff.mp hr
    refine Ev.priv (y := M_la) (args := []) (rest := []) (gok hw) rfl nm_la (ww hw 182 rfl) (ww hw 183 rfl) (ww hw 184 rfl) (ww hw 185 rfl) (lenOf pd_la rfl) (d8 4 rfl) (V.2.1 s) (e_la hw V hq3) (by decide) (Nat.le_of_ble_eq_true rfl) rfl ?_
    refine Ev.iloadN (d8 5 rfl) rfl ?_
    refine Ev.icne (t := 27) (d8 6 rfl) rfl (fun c4 => ?_) (fun c4 => ?_)
    · replace hr := (if_pos c4).symm.trans hr
      refine Ev.aloadN (d8 7 rfl) rfl ?_
      refine Ev.dup (d8 8 rfl) rfl ?_
      refine Ev.gI V (ww hw 159 rfl) (d8 9 rfl) (j := 68) rfl rfl ?_
      refine Ev.iconst (z := 1) (d8 10 rfl) rfl ?_
      refine Ev.iadd (d8 11 rfl) ?_
      refine Ev.pI V (gok hw) (ww hw 159 rfl) (Or.inl (ww hw 160 rfl)) (d8 12 rfl) (j := 68) rfl ?_
      revert hr
      generalize setI s 68 ((s.1 68) + (1 : Int32)) = s5
      intro hr
      replace hr := (bnd_eq _ _).symm.trans hr
      refine Ev.goto (t := 158) (d8 13 rfl) rfl ?_
      cases hr
      exact Ev.vreturn rfl (d8 80 rfl)
    · replace hr := (if_neg c4).symm.trans hr
      refine Ev.aloadN (d8 14 rfl) rfl ?_
      refine Ev.iconst (z := 1) (d8 15 rfl) rfl ?_
      refine Ev.pZ V (gok hw) (ww hw 161 rfl) (Or.inl (ww hw 162 rfl)) (d8 16 rfl) (j := 69) rfl ?_
      revert hr
      generalize setI s 69 ((1 : Int32) &&& 1) = s6
      intro hr
      replace hr := (bnd_eq _ _).symm.trans hr
      refine Ev.goto (t := 158) (d8 17 rfl) rfl ?_
      cases hr
      exact Ev.vreturn rfl (d8 80 rfl)
  · replace hr := (if_neg c1).symm.trans hr
    refine Ev.iloadN (d8 18 rfl) rfl ?_
    refine Ev.bipush (z := 15) (d8 19 rfl) rfl ?_
    refine Ev.icne (t := 68) (d8 20 rfl) rfl (fun c7 => ?_) (fun c7 => ?_)
    · replace hr := (if_pos c7).symm.trans hr
      refine Ev.aloadN (d8 21 rfl) rfl ?_
      refine Ev.gI V (ww hw 159 rfl) (d8 22 rfl) (j := 68) rfl rfl ?_
      refine Ev.aloadN (d8 23 rfl) rfl ?_
      refine Ev.gI V (ww hw 124 rfl) (d8 24 rfl) (j := 57) rfl rfl ?_
      refine Ev.icne (t := 60) (d8 25 rfl) rfl (fun c8 => ?_) (fun c8 => ?_)
      · replace hr := (if_pos c8).symm.trans hr
        refine Ev.aloadN (d8 26 rfl) rfl ?_
        refine Ev.iconst (z := 1) (d8 27 rfl) rfl ?_
        refine Ev.pZ V (gok hw) (ww hw 163 rfl) (Or.inl (ww hw 164 rfl)) (d8 28 rfl) (j := 70) rfl ?_
        revert hr
        generalize setI s 70 ((1 : Int32) &&& 1) = s9
        intro hr
        replace hr := (bnd_eq _ _).symm.trans hr
        refine Ev.goto (t := 158) (d8 29 rfl) rfl ?_
        cases hr
        exact Ev.vreturn rfl (d8 80 rfl)
      · replace hr := (if_neg c8).symm.trans hr
        refine Ev.aloadN (d8 30 rfl) rfl ?_
        refine Ev.iconst (z := 1) (d8 31 rfl) rfl ?_
        refine Ev.pZ V (gok hw) (ww hw 161 rfl) (Or.inl (ww hw 162 rfl)) (d8 32 rfl) (j := 69) rfl ?_
        revert hr
        generalize setI s 69 ((1 : Int32) &&& 1) = s10
        intro hr
        replace hr := (bnd_eq _ _).symm.trans hr
        refine Ev.goto (t := 158) (d8 33 rfl) rfl ?_
        cases hr
        exact Ev.vreturn rfl (d8 80 rfl)
    · replace hr := (if_neg c7).symm.trans hr
      refine Ev.iloadN (d8 34 rfl) rfl ?_
      refine Ev.bipush (z := 16) (d8 35 rfl) rfl ?_
      refine Ev.icne (t := 98) (d8 36 rfl) rfl (fun c11 => ?_) (fun c11 => ?_)
      · replace hr := (if_pos c11).symm.trans hr
        refine Ev.iloadN (d8 37 rfl) rfl ?_
        refine Ev.iflt (t := 158) (d8 38 rfl) rfl (fun c12 => ?_) (fun c12 => ?_)
        · replace hr := (if_pos c12).symm.trans hr
          cases hr
          exact Ev.vreturn rfl (d8 80 rfl)
        · replace hr := (if_neg c12).symm.trans hr
          refine Ev.iloadN (d8 39 rfl) rfl ?_
          refine Ev.sipush (z := 160) (d8 40 rfl) rfl ?_
          refine Ev.icge (t := 158) (d8 41 rfl) rfl (fun c13 => ?_) (fun c13 => ?_)
          · replace hr := (if_pos c13).symm.trans hr
            refine Ev.aloadN (d8 42 rfl) rfl ?_
            refine Ev.gAr V (ww hw 94 rfl) (d8 43 rfl) (j := 42) rfl ?_
            refine Ev.iloadN (d8 44 rfl) rfl ?_
            refine Ev.aloadN (d8 45 rfl) rfl ?_
            refine Ev.gI V (ww hw 149 rfl) (d8 46 rfl) (j := 63) rfl rfl ?_
            obtain ⟨b14, hr⟩ := grd_some hr
            refine Ev.ias V (j := 42) rfl rfl (d8 47 rfl) b14 ?_
            revert hr
            generalize setA s 42 (ix a1) (s.1 63) = s15
            intro hr
            replace hr := (bnd_eq _ _).symm.trans hr
            refine Ev.goto (t := 158) (d8 48 rfl) rfl ?_
            cases hr
            exact Ev.vreturn rfl (d8 80 rfl)
          · replace hr := (if_neg c13).symm.trans hr
            cases hr
            exact Ev.vreturn rfl (d8 80 rfl)
      · replace hr := (if_neg c11).symm.trans hr
        refine Ev.iloadN (d8 49 rfl) rfl ?_
        refine Ev.bipush (z := 17) (d8 50 rfl) rfl ?_
        refine Ev.icne (t := 113) (d8 51 rfl) rfl (fun c16 => ?_) (fun c16 => ?_)
        · replace hr := (if_pos c16).symm.trans hr
          refine Ev.aloadN (d8 52 rfl) rfl ?_
          refine Ev.iloadN (d8 53 rfl) rfl ?_
          refine Ev.iconst (z := 0) (d8 54 rfl) rfl ?_
          cases hr
        · replace hr := (if_neg c16).symm.trans hr
          refine Ev.iloadN (d8 57 rfl) rfl ?_
          refine Ev.bipush (z := 18) (d8 58 rfl) rfl ?_
          refine Ev.icne (t := 127) (d8 59 rfl) rfl (fun c17 => ?_) (fun c17 => ?_)
          · replace hr := (if_pos c17).symm.trans hr
            refine Ev.aloadN (d8 60 rfl) rfl ?_
            refine Ev.iloadN (d8 61 rfl) rfl ?_
            cases hr
          · replace hr := (if_neg c17).symm.trans hr
            refine Ev.iloadN (d8 64 rfl) rfl ?_
            refine Ev.bipush (z := 19) (d8 65 rfl) rfl ?_
            refine Ev.icne (t := 153) (d8 66 rfl) rfl (fun c18 => ?_) (fun c18 => ?_)
            · replace hr := (if_pos c18).symm.trans hr
              refine Ev.aloadN (d8 67 rfl) rfl ?_
              refine Ev.gI V (ww hw 155 rfl) (d8 68 rfl) (j := 66) rfl rfl ?_
              refine Ev.ifle (t := 158) (d8 69 rfl) rfl (fun c19 => ?_) (fun c19 => ?_)
              · replace hr := (if_pos c19).symm.trans hr
                refine Ev.aloadN (d8 70 rfl) rfl ?_
                refine Ev.dup (d8 71 rfl) rfl ?_
                refine Ev.gI V (ww hw 155 rfl) (d8 72 rfl) (j := 66) rfl rfl ?_
                refine Ev.iconst (z := 1) (d8 73 rfl) rfl ?_
                refine Ev.isub (d8 74 rfl) ?_
                refine Ev.pI V (gok hw) (ww hw 155 rfl) (Or.inl (ww hw 156 rfl)) (d8 75 rfl) (j := 66) rfl ?_
                revert hr
                generalize setI s 66 ((s.1 66) - (1 : Int32)) = s20
                intro hr
                replace hr := (bnd_eq _ _).symm.trans hr
                refine Ev.goto (t := 158) (d8 76 rfl) rfl ?_
                cases hr
                exact Ev.vreturn rfl (d8 80 rfl)
              · replace hr := (if_neg c19).symm.trans hr
                cases hr
                exact Ev.vreturn rfl (d8 80 rfl)
            · replace hr := (if_neg c18).symm.trans hr
              refine Ev.aloadN (d8 77 rfl) rfl ?_
              refine Ev.iconst (z := 1) (d8 78 rfl) rfl ?_
              refine Ev.pZ V (gok hw) (ww hw 161 rfl) (Or.inl (ww hw 162 rfl)) (d8 79 rfl) (j := 69) rfl ?_
              revert hr
              generalize setI s 69 ((1 : Int32) &&& 1) = s21
              intro hr
              replace hr := (bnd_eq _ _).symm.trans hr
              cases hr
              exact Ev.vreturn rfl (d8 80 rfl)
def f_step (a0 : Int32) (a1 : Int32) (s : St) : Option (St) :=
  if (6 : Int32) < a0 then
    if (11 : Int32) < a0 then
      if (13 : Int32) < a0 then
        (f_stepAction a0 a1 s).bind fun q4 =>
        some q4
      else
        none
    else
      none
  else
    none
set_option maxRecDepth 100000 in
theorem e_step {g : GT} {a0 : Int32} {a1 : Int32} {s : St} {w : St} (hw : HW g) {K : St → MHeap} {o : Nat} {r : Nat → Nat} (V : View (GG g) Ln K o r) (hr : f_step a0 a1 s = some w) : EvC (GG g) M_step [.ref o, .int a0, .int a1] (K s) (none, (K w)) := by
  refine EvC.enter (L0 := [.val (.ref o), .val (.int a0), .val (.int a1)]) pl_step (fun _ => rfl) rfl rfl ?_
  unfold f_step at hr
  refine Ev.iloadN (d7 0 rfl) rfl ?_
  refine Ev.bipush (z := 6) (d7 1 rfl) rfl ?_
  refine Ev.icgt (t := 14) (d7 2 rfl) rfl (fun c1 => ?_) (fun c1 => ?_)
  · replace hr := (if_pos c1).symm.trans hr
    refine Ev.iloadN (d7 7 rfl) rfl ?_
    refine Ev.bipush (z := 11) (d7 8 rfl) rfl ?_
    refine Ev.icgt (t := 28) (d7 9 rfl) rfl (fun c2 => ?_) (fun c2 => ?_)
    · replace hr := (if_pos c2).symm.trans hr
      refine Ev.iloadN (d7 14 rfl) rfl ?_
      refine Ev.bipush (z := 13) (d7 15 rfl) rfl ?_
      refine Ev.icgt (t := 42) (d7 16 rfl) rfl (fun c3 => ?_) (fun c3 => ?_)
      · replace hr := (if_pos c3).symm.trans hr
        refine Ev.aloadN (d7 21 rfl) rfl ?_
        refine Ev.iloadN (d7 22 rfl) rfl ?_
        refine Ev.iloadN (d7 23 rfl) rfl ?_
        obtain ⟨q4, hq5, hr⟩ := Option.bind_eq_some_iff.mp hr
        refine Ev.priv (y := M_stepAction) (args := [.int a0, .int a1]) (rest := []) (gok hw) rfl nm_stepAction (ww hw 178 rfl) (ww hw 179 rfl) (ww hw 180 rfl) (ww hw 181 rfl) (lenOf pd_stepAction rfl) (d7 24 rfl) (V.2.1 s) (e_stepAction hw V hq5) (by decide) (Nat.le_of_ble_eq_true rfl) rfl ?_
        cases hr
        exact Ev.vreturn rfl (d7 25 rfl)
      · replace hr := (if_neg c3).symm.trans hr
        refine Ev.aloadN (d7 17 rfl) rfl ?_
        refine Ev.iloadN (d7 18 rfl) rfl ?_
        cases hr
    · replace hr := (if_neg c2).symm.trans hr
      refine Ev.aloadN (d7 10 rfl) rfl ?_
      refine Ev.iloadN (d7 11 rfl) rfl ?_
      cases hr
  · replace hr := (if_neg c1).symm.trans hr
    refine Ev.aloadN (d7 3 rfl) rfl ?_
    refine Ev.iloadN (d7 4 rfl) rfl ?_
    cases hr
def f_doParse_128 (n : Nat) (s : St) : Option (Int32 × St) :=
  if (s.1 70) = 0 then
    some ((0 : Int32), s)
  else
    if (s.1 69) = 0 then
      some ((1 : Int32), s)
    else
      some ((0 : Int32), s)
set_option maxRecDepth 100000 in
theorem e_doParse_128 {g : GT} {n : Nat} (hw : HW g) {K : St → MHeap} {o : Nat} {r : Nat → Nat} (V : View (GG g) Ln K o r) (s : St) (y1 : Slot) (hy1 : one1 y1 = true) (w : Int32 × St) (hr : f_doParse_128 n s = some w) : Ev (GG g) M_doParse 128 [.val (.ref o), y1] [] (K s) ((some (.int w.1)), (K w.2)) := by
  unfold f_doParse_128 at hr
  refine Ev.aloadN (d4 68 rfl) rfl ?_
  refine Ev.gI V (ww hw 163 rfl) (d4 69 rfl) (j := 70) rfl rfl ?_
  refine Ev.ifeq (t := 146) (d4 70 rfl) rfl (fun c1 => ?_) (fun c1 => ?_)
  · replace hr := (if_pos c1).symm.trans hr
    refine Ev.iconst (z := 0) (d4 76 rfl) rfl ?_
    cases hr
    exact Ev.zret0 rfl (d4 77 rfl)
  · replace hr := (if_neg c1).symm.trans hr
    refine Ev.aloadN (d4 71 rfl) rfl ?_
    refine Ev.gI V (ww hw 161 rfl) (d4 72 rfl) (j := 69) rfl rfl ?_
    refine Ev.ifne (t := 146) (d4 73 rfl) rfl (fun c2 => ?_) (fun c2 => ?_)
    · replace hr := (if_pos c2).symm.trans hr
      refine Ev.iconst (z := 1) (d4 74 rfl) rfl ?_
      refine Ev.goto (t := 147) (d4 75 rfl) rfl ?_
      cases hr
      exact Ev.zret1 rfl (d4 77 rfl)
    · replace hr := (if_neg c2).symm.trans hr
      refine Ev.iconst (z := 0) (d4 76 rfl) rfl ?_
      cases hr
      exact Ev.zret0 rfl (d4 77 rfl)
def f_doParse_51 (n : Nat) : Nat → Int32 → St → Option (Int32 × St)
  | 0 => fun _ _ => none
  | k + 1 => fun x1 s =>
    if x1 < (40000 : Int32) then
      if (s.1 69) = 0 then
        if (s.1 70) = 0 then
          if 0 < (s.1 62) then
            bnd (setI s 62 ((s.1 62) - (1 : Int32))) fun s5 =>
            grd (inb (s5.1 62) 1024) <|
            (f_step (s5.2 50 (ix (s5.1 62))) (s5.2 51 (ix (s5.1 62))) s5).bind fun q7 =>
            f_doParse_51 n k (x1 + (1 : Int32)) q7
          else
            bnd (setI s 69 ((1 : Int32) &&& 1)) fun s9 =>
            f_doParse_128 n s9
        else
          f_doParse_128 n s
      else
        f_doParse_128 n s
    else
      f_doParse_128 n s
set_option maxRecDepth 100000 in
theorem e_doParse_51 {g : GT} {n : Nat} (hw : HW g) {K : St → MHeap} {o : Nat} {r : Nat → Nat} (V : View (GG g) Ln K o r) (k : Nat) : ∀ (x1 : Int32) (s : St) (w : Int32 × St), f_doParse_51 n k x1 s = some w → Ev (GG g) M_doParse 51 [.val (.ref o), .val (.int x1)] [] (K s) ((some (.int w.1)), (K w.2)) := by
  induction k with
  | zero => intro x1 s w hr; rw [f_doParse_51] at hr; cases hr
  | succ k ih =>
    intro x1 s w hr
    rw [f_doParse_51] at hr
    refine Ev.iloadN (d4 31 rfl) rfl ?_
    refine Ev.ldcW (ww hw 173 rfl) (d4 32 rfl) ?_
    refine Ev.icge (t := 128) (d4 33 rfl) rfl (fun c1 => ?_) (fun c1 => ?_)
    · replace hr := (if_pos c1).symm.trans hr
      refine Ev.aloadN (d4 34 rfl) rfl ?_
      refine Ev.gI V (ww hw 161 rfl) (d4 35 rfl) (j := 69) rfl rfl ?_
      refine Ev.ifne (t := 128) (d4 36 rfl) rfl (fun c2 => ?_) (fun c2 => ?_)
      · replace hr := (if_pos c2).symm.trans hr
        refine Ev.aloadN (d4 37 rfl) rfl ?_
        refine Ev.gI V (ww hw 163 rfl) (d4 38 rfl) (j := 70) rfl rfl ?_
        refine Ev.ifeq (t := 75) (d4 39 rfl) rfl (fun c3 => ?_) (fun c3 => ?_)
        · replace hr := (if_pos c3).symm.trans hr
          refine Ev.aloadN (d4 41 rfl) rfl ?_
          refine Ev.gI V (ww hw 147 rfl) (d4 42 rfl) (j := 62) rfl rfl ?_
          refine Ev.ifgt (t := 90) (d4 43 rfl) rfl (fun c4 => ?_) (fun c4 => ?_)
          · replace hr := (if_pos c4).symm.trans hr
            refine Ev.aloadN (d4 48 rfl) rfl ?_
            refine Ev.dup (d4 49 rfl) rfl ?_
            refine Ev.gI V (ww hw 147 rfl) (d4 50 rfl) (j := 62) rfl rfl ?_
            refine Ev.iconst (z := 1) (d4 51 rfl) rfl ?_
            refine Ev.isub (d4 52 rfl) ?_
            refine Ev.pI V (gok hw) (ww hw 147 rfl) (Or.inl (ww hw 148 rfl)) (d4 53 rfl) (j := 62) rfl ?_
            revert hr
            generalize setI s 62 ((s.1 62) - (1 : Int32)) = s5
            intro hr
            replace hr := (bnd_eq _ _).symm.trans hr
            refine Ev.aloadN (d4 54 rfl) rfl ?_
            refine Ev.aloadN (d4 55 rfl) rfl ?_
            refine Ev.gAr V (ww hw 110 rfl) (d4 56 rfl) (j := 50) rfl ?_
            refine Ev.aloadN (d4 57 rfl) rfl ?_
            refine Ev.gI V (ww hw 147 rfl) (d4 58 rfl) (j := 62) rfl rfl ?_
            obtain ⟨b6, hr⟩ := grd_some hr
            refine Ev.ial V (j := 50) rfl rfl (d4 59 rfl) b6 ?_
            refine Ev.aloadN (d4 60 rfl) rfl ?_
            refine Ev.gAr V (ww hw 112 rfl) (d4 61 rfl) (j := 51) rfl ?_
            refine Ev.aloadN (d4 62 rfl) rfl ?_
            refine Ev.gI V (ww hw 147 rfl) (d4 63 rfl) (j := 62) rfl rfl ?_
            refine Ev.ial V (j := 51) rfl rfl (d4 64 rfl) b6 ?_
            obtain ⟨q7, hq8, hr⟩ := Option.bind_eq_some_iff.mp hr
            refine Ev.priv (y := M_step) (args := [.int (s5.2 50 (ix (s5.1 62))), .int (s5.2 51 (ix (s5.1 62)))]) (rest := []) (gok hw) rfl nm_step (ww hw 174 rfl) (ww hw 175 rfl) (ww hw 176 rfl) (ww hw 177 rfl) (lenOf pd_step rfl) (d4 65 rfl) (V.2.1 s5) (e_step hw V hq8) (by decide) (Nat.le_of_ble_eq_true rfl) rfl ?_
            refine Ev.iinc (z := 1) (L' := [.val (.ref o), .val (.int (x1 + (1 : Int32)))]) (d4 66 rfl) rfl rfl rfl ?_
            refine Ev.goto (t := 51) (d4 67 rfl) rfl ?_
            exact ih (x1 + (1 : Int32)) q7  _ hr
          · replace hr := (if_neg c4).symm.trans hr
            refine Ev.aloadN (d4 44 rfl) rfl ?_
            refine Ev.iconst (z := 1) (d4 45 rfl) rfl ?_
            refine Ev.pZ V (gok hw) (ww hw 161 rfl) (Or.inl (ww hw 162 rfl)) (d4 46 rfl) (j := 69) rfl ?_
            revert hr
            generalize setI s 69 ((1 : Int32) &&& 1) = s9
            intro hr
            replace hr := (bnd_eq _ _).symm.trans hr
            refine Ev.goto (t := 128) (d4 47 rfl) rfl ?_
            exact e_doParse_128 hw V  s9 (.val (.int x1)) rfl _ hr
        · replace hr := (if_neg c3).symm.trans hr
          refine Ev.goto (t := 128) (d4 40 rfl) rfl ?_
          exact e_doParse_128 hw V  s (.val (.int x1)) rfl _ hr
      · replace hr := (if_neg c2).symm.trans hr
        exact e_doParse_128 hw V  s (.val (.int x1)) rfl _ hr
    · replace hr := (if_neg c1).symm.trans hr
      exact e_doParse_128 hw V  s (.val (.int x1)) rfl _ hr
def f_doParse (n : Nat) (s : St) : Option (Int32 × St) :=
  bnd (setI s 62 (0 : Int32)) fun s1 =>
  bnd (setI s1 63 (0 : Int32)) fun s2 =>
  bnd (setI s2 64 (0 : Int32)) fun s3 =>
  bnd (setI s3 65 (0 : Int32)) fun s4 =>
  bnd (setI s4 66 (0 : Int32)) fun s5 =>
  bnd (setI s5 67 (-1 : Int32)) fun s6 =>
  bnd (setI s6 68 (0 : Int32)) fun s7 =>
  bnd (setI s7 69 ((0 : Int32) &&& 1)) fun s8 =>
  bnd (setI s8 70 ((0 : Int32) &&& 1)) fun s9 =>
  (f_pushProgram s9).bind fun q10 =>
  f_doParse_51 n n (0 : Int32) q10
set_option maxRecDepth 100000 in
theorem e_doParse {g : GT} {n : Nat} {s : St} {w : Int32 × St} (hw : HW g) {K : St → MHeap} {o : Nat} {r : Nat → Nat} (V : View (GG g) Ln K o r) (hr : f_doParse n s = some w) : EvC (GG g) M_doParse [.ref o] (K s) ((some (.int w.1)), (K w.2)) := by
  refine EvC.enter (L0 := [.val (.ref o), .unset]) pl_doParse (fun h => nomatch h) rfl rfl ?_
  unfold f_doParse at hr
  refine Ev.aloadN (d4 0 rfl) rfl ?_
  refine Ev.iconst (z := 0) (d4 1 rfl) rfl ?_
  refine Ev.pI V (gok hw) (ww hw 147 rfl) (Or.inl (ww hw 148 rfl)) (d4 2 rfl) (j := 62) rfl ?_
  revert hr
  generalize setI s 62 (0 : Int32) = s1
  intro hr
  replace hr := (bnd_eq _ _).symm.trans hr
  refine Ev.aloadN (d4 3 rfl) rfl ?_
  refine Ev.iconst (z := 0) (d4 4 rfl) rfl ?_
  refine Ev.pI V (gok hw) (ww hw 149 rfl) (Or.inl (ww hw 150 rfl)) (d4 5 rfl) (j := 63) rfl ?_
  revert hr
  generalize setI s1 63 (0 : Int32) = s2
  intro hr
  replace hr := (bnd_eq _ _).symm.trans hr
  refine Ev.aloadN (d4 6 rfl) rfl ?_
  refine Ev.iconst (z := 0) (d4 7 rfl) rfl ?_
  refine Ev.pI V (gok hw) (ww hw 151 rfl) (Or.inl (ww hw 152 rfl)) (d4 8 rfl) (j := 64) rfl ?_
  revert hr
  generalize setI s2 64 (0 : Int32) = s3
  intro hr
  replace hr := (bnd_eq _ _).symm.trans hr
  refine Ev.aloadN (d4 9 rfl) rfl ?_
  refine Ev.iconst (z := 0) (d4 10 rfl) rfl ?_
  refine Ev.pI V (gok hw) (ww hw 153 rfl) (Or.inl (ww hw 154 rfl)) (d4 11 rfl) (j := 65) rfl ?_
  revert hr
  generalize setI s3 65 (0 : Int32) = s4
  intro hr
  replace hr := (bnd_eq _ _).symm.trans hr
  refine Ev.aloadN (d4 12 rfl) rfl ?_
  refine Ev.iconst (z := 0) (d4 13 rfl) rfl ?_
  refine Ev.pI V (gok hw) (ww hw 155 rfl) (Or.inl (ww hw 156 rfl)) (d4 14 rfl) (j := 66) rfl ?_
  revert hr
  generalize setI s4 66 (0 : Int32) = s5
  intro hr
  replace hr := (bnd_eq _ _).symm.trans hr
  refine Ev.aloadN (d4 15 rfl) rfl ?_
  refine Ev.iconst (z := -1) (d4 16 rfl) rfl ?_
  refine Ev.pI V (gok hw) (ww hw 157 rfl) (Or.inl (ww hw 158 rfl)) (d4 17 rfl) (j := 67) rfl ?_
  revert hr
  generalize setI s5 67 (-1 : Int32) = s6
  intro hr
  replace hr := (bnd_eq _ _).symm.trans hr
  refine Ev.aloadN (d4 18 rfl) rfl ?_
  refine Ev.iconst (z := 0) (d4 19 rfl) rfl ?_
  refine Ev.pI V (gok hw) (ww hw 159 rfl) (Or.inl (ww hw 160 rfl)) (d4 20 rfl) (j := 68) rfl ?_
  revert hr
  generalize setI s6 68 (0 : Int32) = s7
  intro hr
  replace hr := (bnd_eq _ _).symm.trans hr
  refine Ev.aloadN (d4 21 rfl) rfl ?_
  refine Ev.iconst (z := 0) (d4 22 rfl) rfl ?_
  refine Ev.pZ V (gok hw) (ww hw 161 rfl) (Or.inl (ww hw 162 rfl)) (d4 23 rfl) (j := 69) rfl ?_
  revert hr
  generalize setI s7 69 ((0 : Int32) &&& 1) = s8
  intro hr
  replace hr := (bnd_eq _ _).symm.trans hr
  refine Ev.aloadN (d4 24 rfl) rfl ?_
  refine Ev.iconst (z := 0) (d4 25 rfl) rfl ?_
  refine Ev.pZ V (gok hw) (ww hw 163 rfl) (Or.inl (ww hw 164 rfl)) (d4 26 rfl) (j := 70) rfl ?_
  revert hr
  generalize setI s8 70 ((0 : Int32) &&& 1) = s9
  intro hr
  replace hr := (bnd_eq _ _).symm.trans hr
  refine Ev.aloadN (d4 27 rfl) rfl ?_
  obtain ⟨q10, hq11, hr⟩ := Option.bind_eq_some_iff.mp hr
  refine Ev.priv (y := M_pushProgram) (args := []) (rest := []) (gok hw) rfl nm_pushProgram (ww hw 165 rfl) (ww hw 166 rfl) (ww hw 167 rfl) (ww hw 168 rfl) (lenOf pd_pushProgram rfl) (d4 28 rfl) (V.2.1 s9) (e_pushProgram hw V hq11) (by decide) (Nat.le_of_ble_eq_true rfl) rfl ?_
  refine Ev.iconst (z := 0) (d4 29 rfl) rfl ?_
  refine Ev.istDN (L' := [.val (.ref o), .val (.int (0 : Int32))]) (d4 30 rfl) rfl rfl rfl ?_
  exact e_doParse_51 hw V  n (0 : Int32) q10  _ hr
def f_parse (n : Nat) (s : St) : Option (Int32 × St) :=
  (f_clearResults s).bind fun q1 =>
  (f_doParse n q1).bind fun q3 =>
  if q3.1 = 0 then
    bnd (setI q3.2 59 (q3.2.1 68)) fun s6 =>
    some ((-3 : Int32), s6)
  else
    bnd (setI q3.2 58 ((1 : Int32) &&& 1)) fun s7 =>
    some ((0 : Int32), s7)
set_option maxRecDepth 100000 in
theorem e_parse {g : GT} {n : Nat} {s : St} {w : Int32 × St} (hw : HW g) {K : St → MHeap} {o : Nat} {r : Nat → Nat} (V : View (GG g) Ln K o r) (hr : f_parse n s = some w) : EvC (GG g) M_parse [.ref o] (K s) ((some (.int w.1)), (K w.2)) := by
  refine EvC.enter (L0 := [.val (.ref o), .unset]) pl_parse (fun h => nomatch h) rfl rfl ?_
  unfold f_parse at hr
  refine Ev.aloadN (d3 0 rfl) rfl ?_
  obtain ⟨q1, hq2, hr⟩ := Option.bind_eq_some_iff.mp hr
  refine Ev.priv (y := M_clearResults) (args := []) (rest := []) (gok hw) rfl nm_clearResults (ww hw 126 rfl) (ww hw 127 rfl) (ww hw 128 rfl) (ww hw 129 rfl) (lenOf pd_clearResults rfl) (d3 1 rfl) (V.2.1 s) (e_clearResults hw V hq2) (by decide) (Nat.le_of_ble_eq_true rfl) rfl ?_
  refine Ev.aloadN (d3 2 rfl) rfl ?_
  obtain ⟨q3, hq4, hr⟩ := Option.bind_eq_some_iff.mp hr
  refine Ev.priv (y := M_doParse) (args := []) (rest := []) (gok hw) rfl nm_doParse (ww hw 143 rfl) (ww hw 144 rfl) (ww hw 145 rfl) (ww hw 146 rfl) (lenOf pd_doParse rfl) (d3 3 rfl) (V.2.1 q1) (e_doParse hw V hq4) (by decide) (Nat.le_of_ble_eq_true rfl) rfl ?_
  refine Ev.istDN (L' := [.val (.ref o), .val (.int q3.1)]) (d3 4 rfl) rfl rfl rfl ?_
  refine Ev.iloadN (d3 5 rfl) rfl ?_
  refine Ev.ifeq (t := 20) (d3 6 rfl) rfl (fun c5 => ?_) (fun c5 => ?_)
  · replace hr := (if_pos c5).symm.trans hr
    refine Ev.aloadN (d3 12 rfl) rfl ?_
    refine Ev.aloadN (d3 13 rfl) rfl ?_
    refine Ev.gI V (ww hw 159 rfl) (d3 14 rfl) (j := 68) rfl rfl ?_
    refine Ev.pI V (gok hw) (ww hw 132 rfl) (Or.inl (ww hw 133 rfl)) (d3 15 rfl) (j := 59) rfl ?_
    revert hr
    generalize setI q3.2 59 (q3.2.1 68) = s6
    intro hr
    replace hr := (bnd_eq _ _).symm.trans hr
    refine Ev.bipush (z := -3) (d3 16 rfl) rfl ?_
    cases hr
    exact Ev.ireturn rfl (d3 17 rfl)
  · replace hr := (if_neg c5).symm.trans hr
    refine Ev.aloadN (d3 7 rfl) rfl ?_
    refine Ev.iconst (z := 1) (d3 8 rfl) rfl ?_
    refine Ev.pZ V (gok hw) (ww hw 130 rfl) (Or.inl (ww hw 131 rfl)) (d3 9 rfl) (j := 58) rfl ?_
    revert hr
    generalize setI q3.2 58 ((1 : Int32) &&& 1) = s7
    intro hr
    replace hr := (bnd_eq _ _).symm.trans hr
    refine Ev.iconst (z := 0) (d3 10 rfl) rfl ?_
    cases hr
    exact Ev.ireturn rfl (d3 11 rfl)
def f_errorPosition (s : St) : Option (Int32) :=
  some (s.1 59)
set_option maxRecDepth 100000 in
theorem e_errorPosition {g : GT} {s : St} {w : Int32} (hw : HW g) {K : St → MHeap} {o : Nat} {r : Nat → Nat} (V : View (GG g) Ln K o r) (hr : f_errorPosition s = some w) : EvC (GG g) M_errorPosition [.ref o] (K s) ((some (.int w)), (K s)) := by
  refine EvC.enter (L0 := [.val (.ref o)]) pl_errorPosition (fun h => nomatch h) rfl rfl ?_
  unfold f_errorPosition at hr
  refine Ev.aloadN (d10 0 rfl) rfl ?_
  refine Ev.gI V (ww hw 132 rfl) (d10 1 rfl) (j := 59) rfl rfl ?_
  cases hr
  exact Ev.ireturn rfl (d10 2 rfl)
def f_varIndex (s : St) (a0 : Int32) : Option (Int32) :=
  if a0 = (120 : Int32) then
    some (0 : Int32)
  else
    if a0 = (121 : Int32) then
      some (1 : Int32)
    else
      if a0 = (122 : Int32) then
        some (2 : Int32)
      else
        some (-1 : Int32)
set_option maxRecDepth 100000 in
theorem e_varIndex {g : GT} {s : St} {a0 : Int32} {w : Int32} (hw : HW g) {K : St → MHeap} {o : Nat} {r : Nat → Nat} (V : View (GG g) Ln K o r) (hr : f_varIndex s a0 = some w) : EvC (GG g) M_varIndex [.ref o, .int a0] (K s) ((some (.int w)), (K s)) := by
  refine EvC.enter (L0 := [.val (.ref o), .val (.int a0)]) pl_varIndex (fun h => nomatch h) rfl rfl ?_
  unfold f_varIndex at hr
  refine Ev.iloadN (d13 0 rfl) rfl ?_
  refine Ev.bipush (z := 120) (d13 1 rfl) rfl ?_
  refine Ev.icne (t := 8) (d13 2 rfl) rfl (fun c1 => ?_) (fun c1 => ?_)
  · replace hr := (if_pos c1).symm.trans hr
    refine Ev.iconst (z := 0) (d13 3 rfl) rfl ?_
    cases hr
    exact Ev.ireturn rfl (d13 4 rfl)
  · replace hr := (if_neg c1).symm.trans hr
    refine Ev.iloadN (d13 5 rfl) rfl ?_
    refine Ev.bipush (z := 121) (d13 6 rfl) rfl ?_
    refine Ev.icne (t := 16) (d13 7 rfl) rfl (fun c2 => ?_) (fun c2 => ?_)
    · replace hr := (if_pos c2).symm.trans hr
      refine Ev.iconst (z := 1) (d13 8 rfl) rfl ?_
      cases hr
      exact Ev.ireturn rfl (d13 9 rfl)
    · replace hr := (if_neg c2).symm.trans hr
      refine Ev.iloadN (d13 10 rfl) rfl ?_
      refine Ev.bipush (z := 122) (d13 11 rfl) rfl ?_
      refine Ev.icne (t := 24) (d13 12 rfl) rfl (fun c3 => ?_) (fun c3 => ?_)
      · replace hr := (if_pos c3).symm.trans hr
        refine Ev.iconst (z := 2) (d13 13 rfl) rfl ?_
        cases hr
        exact Ev.ireturn rfl (d13 14 rfl)
      · replace hr := (if_neg c3).symm.trans hr
        refine Ev.iconst (z := -1) (d13 15 rfl) rfl ?_
        cases hr
        exact Ev.ireturn rfl (d13 16 rfl)
def f_accepted_22 (s : St) (x1 : Int32) : Option (Int32) :=
  if x1 = (43 : Int32) then
    some (1 : Int32)
  else
    if x1 = (45 : Int32) then
      some (1 : Int32)
    else
      if x1 = (42 : Int32) then
        some (1 : Int32)
      else
        if x1 = (60 : Int32) then
          some (1 : Int32)
        else
          if x1 = (61 : Int32) then
            some (1 : Int32)
          else
            if x1 = (33 : Int32) then
              some (1 : Int32)
            else
              if x1 = (38 : Int32) then
                some (1 : Int32)
              else
                if x1 = (124 : Int32) then
                  some (1 : Int32)
                else
                  if x1 = (91 : Int32) then
                    some (1 : Int32)
                  else
                    if x1 = (93 : Int32) then
                      some (1 : Int32)
                    else
                      if x1 = (40 : Int32) then
                        some (1 : Int32)
                      else
                        if x1 = (41 : Int32) then
                          some (1 : Int32)
                        else
                          if x1 = (123 : Int32) then
                            some (1 : Int32)
                          else
                            if x1 = (125 : Int32) then
                              some (1 : Int32)
                            else
                              if x1 = (59 : Int32) then
                                some (1 : Int32)
                              else
                                if x1 = (63 : Int32) then
                                  some (1 : Int32)
                                else
                                  if x1 = (64 : Int32) then
                                    some (1 : Int32)
                                  else
                                    if x1 = (87 : Int32) then
                                      some (1 : Int32)
                                    else
                                      if x1 = (80 : Int32) then
                                        some (1 : Int32)
                                      else
                                        if x1 = (81 : Int32) then
                                          some (1 : Int32)
                                        else
                                          if x1 = (84 : Int32) then
                                            some (1 : Int32)
                                          else
                                            if x1 = (70 : Int32) then
                                              some (1 : Int32)
                                            else
                                              some (0 : Int32)
set_option maxRecDepth 100000 in
theorem e_accepted_22 {g : GT} {s : St} (hw : HW g) {K : St → MHeap} {o : Nat} {r : Nat → Nat} (V : View (GG g) Ln K o r) (x1 : Int32) (y0 : Slot) (hy0 : one1 y0 = true) (w : Int32) (hr : f_accepted_22 s x1 = some w) : Ev (GG g) M_accepted 22 [y0, .val (.int x1)] [] (K s) ((some (.int w)), (K s)) := by
  unfold f_accepted_22 at hr
  refine Ev.iloadN (d12 12 rfl) rfl ?_
  refine Ev.bipush (z := 43) (d12 13 rfl) rfl ?_
  refine Ev.iceq (t := 58) (d12 14 rfl) rfl (fun c1 => ?_) (fun c1 => ?_)
  · replace hr := (if_pos c1).symm.trans hr
    refine Ev.iconst (z := 1) (d12 30 rfl) rfl ?_
    cases hr
    exact Ev.zret1 rfl (d12 31 rfl)
  · replace hr := (if_neg c1).symm.trans hr
    refine Ev.iloadN (d12 15 rfl) rfl ?_
    refine Ev.bipush (z := 45) (d12 16 rfl) rfl ?_
    refine Ev.iceq (t := 58) (d12 17 rfl) rfl (fun c2 => ?_) (fun c2 => ?_)
    · replace hr := (if_pos c2).symm.trans hr
      refine Ev.iconst (z := 1) (d12 30 rfl) rfl ?_
      cases hr
      exact Ev.zret1 rfl (d12 31 rfl)
    · replace hr := (if_neg c2).symm.trans hr
      refine Ev.iloadN (d12 18 rfl) rfl ?_
      refine Ev.bipush (z := 42) (d12 19 rfl) rfl ?_
      refine Ev.iceq (t := 58) (d12 20 rfl) rfl (fun c3 => ?_) (fun c3 => ?_)
      · replace hr := (if_pos c3).symm.trans hr
        refine Ev.iconst (z := 1) (d12 30 rfl) rfl ?_
        cases hr
        exact Ev.zret1 rfl (d12 31 rfl)
      · replace hr := (if_neg c3).symm.trans hr
        refine Ev.iloadN (d12 21 rfl) rfl ?_
        refine Ev.bipush (z := 60) (d12 22 rfl) rfl ?_
        refine Ev.iceq (t := 58) (d12 23 rfl) rfl (fun c4 => ?_) (fun c4 => ?_)
        · replace hr := (if_pos c4).symm.trans hr
          refine Ev.iconst (z := 1) (d12 30 rfl) rfl ?_
          cases hr
          exact Ev.zret1 rfl (d12 31 rfl)
        · replace hr := (if_neg c4).symm.trans hr
          refine Ev.iloadN (d12 24 rfl) rfl ?_
          refine Ev.bipush (z := 61) (d12 25 rfl) rfl ?_
          refine Ev.iceq (t := 58) (d12 26 rfl) rfl (fun c5 => ?_) (fun c5 => ?_)
          · replace hr := (if_pos c5).symm.trans hr
            refine Ev.iconst (z := 1) (d12 30 rfl) rfl ?_
            cases hr
            exact Ev.zret1 rfl (d12 31 rfl)
          · replace hr := (if_neg c5).symm.trans hr
            refine Ev.iloadN (d12 27 rfl) rfl ?_
            refine Ev.bipush (z := 33) (d12 28 rfl) rfl ?_
            refine Ev.icne (t := 60) (d12 29 rfl) rfl (fun c6 => ?_) (fun c6 => ?_)
            · replace hr := (if_pos c6).symm.trans hr
              refine Ev.iconst (z := 1) (d12 30 rfl) rfl ?_
              cases hr
              exact Ev.zret1 rfl (d12 31 rfl)
            · replace hr := (if_neg c6).symm.trans hr
              refine Ev.iloadN (d12 32 rfl) rfl ?_
              refine Ev.bipush (z := 38) (d12 33 rfl) rfl ?_
              refine Ev.iceq (t := 96) (d12 34 rfl) rfl (fun c7 => ?_) (fun c7 => ?_)
              · replace hr := (if_pos c7).symm.trans hr
                refine Ev.iconst (z := 1) (d12 50 rfl) rfl ?_
                cases hr
                exact Ev.zret1 rfl (d12 51 rfl)
              · replace hr := (if_neg c7).symm.trans hr
                refine Ev.iloadN (d12 35 rfl) rfl ?_
                refine Ev.bipush (z := 124) (d12 36 rfl) rfl ?_
                refine Ev.iceq (t := 96) (d12 37 rfl) rfl (fun c8 => ?_) (fun c8 => ?_)
                · replace hr := (if_pos c8).symm.trans hr
                  refine Ev.iconst (z := 1) (d12 50 rfl) rfl ?_
                  cases hr
                  exact Ev.zret1 rfl (d12 51 rfl)
                · replace hr := (if_neg c8).symm.trans hr
                  refine Ev.iloadN (d12 38 rfl) rfl ?_
                  refine Ev.bipush (z := 91) (d12 39 rfl) rfl ?_
                  refine Ev.iceq (t := 96) (d12 40 rfl) rfl (fun c9 => ?_) (fun c9 => ?_)
                  · replace hr := (if_pos c9).symm.trans hr
                    refine Ev.iconst (z := 1) (d12 50 rfl) rfl ?_
                    cases hr
                    exact Ev.zret1 rfl (d12 51 rfl)
                  · replace hr := (if_neg c9).symm.trans hr
                    refine Ev.iloadN (d12 41 rfl) rfl ?_
                    refine Ev.bipush (z := 93) (d12 42 rfl) rfl ?_
                    refine Ev.iceq (t := 96) (d12 43 rfl) rfl (fun c10 => ?_) (fun c10 => ?_)
                    · replace hr := (if_pos c10).symm.trans hr
                      refine Ev.iconst (z := 1) (d12 50 rfl) rfl ?_
                      cases hr
                      exact Ev.zret1 rfl (d12 51 rfl)
                    · replace hr := (if_neg c10).symm.trans hr
                      refine Ev.iloadN (d12 44 rfl) rfl ?_
                      refine Ev.bipush (z := 40) (d12 45 rfl) rfl ?_
                      refine Ev.iceq (t := 96) (d12 46 rfl) rfl (fun c11 => ?_) (fun c11 => ?_)
                      · replace hr := (if_pos c11).symm.trans hr
                        refine Ev.iconst (z := 1) (d12 50 rfl) rfl ?_
                        cases hr
                        exact Ev.zret1 rfl (d12 51 rfl)
                      · replace hr := (if_neg c11).symm.trans hr
                        refine Ev.iloadN (d12 47 rfl) rfl ?_
                        refine Ev.bipush (z := 41) (d12 48 rfl) rfl ?_
                        refine Ev.icne (t := 98) (d12 49 rfl) rfl (fun c12 => ?_) (fun c12 => ?_)
                        · replace hr := (if_pos c12).symm.trans hr
                          refine Ev.iconst (z := 1) (d12 50 rfl) rfl ?_
                          cases hr
                          exact Ev.zret1 rfl (d12 51 rfl)
                        · replace hr := (if_neg c12).symm.trans hr
                          refine Ev.iloadN (d12 52 rfl) rfl ?_
                          refine Ev.bipush (z := 123) (d12 53 rfl) rfl ?_
                          refine Ev.iceq (t := 128) (d12 54 rfl) rfl (fun c13 => ?_) (fun c13 => ?_)
                          · replace hr := (if_pos c13).symm.trans hr
                            refine Ev.iconst (z := 1) (d12 67 rfl) rfl ?_
                            cases hr
                            exact Ev.zret1 rfl (d12 68 rfl)
                          · replace hr := (if_neg c13).symm.trans hr
                            refine Ev.iloadN (d12 55 rfl) rfl ?_
                            refine Ev.bipush (z := 125) (d12 56 rfl) rfl ?_
                            refine Ev.iceq (t := 128) (d12 57 rfl) rfl (fun c14 => ?_) (fun c14 => ?_)
                            · replace hr := (if_pos c14).symm.trans hr
                              refine Ev.iconst (z := 1) (d12 67 rfl) rfl ?_
                              cases hr
                              exact Ev.zret1 rfl (d12 68 rfl)
                            · replace hr := (if_neg c14).symm.trans hr
                              refine Ev.iloadN (d12 58 rfl) rfl ?_
                              refine Ev.bipush (z := 59) (d12 59 rfl) rfl ?_
                              refine Ev.iceq (t := 128) (d12 60 rfl) rfl (fun c15 => ?_) (fun c15 => ?_)
                              · replace hr := (if_pos c15).symm.trans hr
                                refine Ev.iconst (z := 1) (d12 67 rfl) rfl ?_
                                cases hr
                                exact Ev.zret1 rfl (d12 68 rfl)
                              · replace hr := (if_neg c15).symm.trans hr
                                refine Ev.iloadN (d12 61 rfl) rfl ?_
                                refine Ev.bipush (z := 63) (d12 62 rfl) rfl ?_
                                refine Ev.iceq (t := 128) (d12 63 rfl) rfl (fun c16 => ?_) (fun c16 => ?_)
                                · replace hr := (if_pos c16).symm.trans hr
                                  refine Ev.iconst (z := 1) (d12 67 rfl) rfl ?_
                                  cases hr
                                  exact Ev.zret1 rfl (d12 68 rfl)
                                · replace hr := (if_neg c16).symm.trans hr
                                  refine Ev.iloadN (d12 64 rfl) rfl ?_
                                  refine Ev.bipush (z := 64) (d12 65 rfl) rfl ?_
                                  refine Ev.icne (t := 130) (d12 66 rfl) rfl (fun c17 => ?_) (fun c17 => ?_)
                                  · replace hr := (if_pos c17).symm.trans hr
                                    refine Ev.iconst (z := 1) (d12 67 rfl) rfl ?_
                                    cases hr
                                    exact Ev.zret1 rfl (d12 68 rfl)
                                  · replace hr := (if_neg c17).symm.trans hr
                                    refine Ev.iloadN (d12 69 rfl) rfl ?_
                                    refine Ev.bipush (z := 87) (d12 70 rfl) rfl ?_
                                    refine Ev.iceq (t := 160) (d12 71 rfl) rfl (fun c18 => ?_) (fun c18 => ?_)
                                    · replace hr := (if_pos c18).symm.trans hr
                                      refine Ev.iconst (z := 1) (d12 84 rfl) rfl ?_
                                      refine Ev.goto (t := 165) (d12 85 rfl) rfl ?_
                                      cases hr
                                      exact Ev.zret1 rfl (d12 87 rfl)
                                    · replace hr := (if_neg c18).symm.trans hr
                                      refine Ev.iloadN (d12 72 rfl) rfl ?_
                                      refine Ev.bipush (z := 80) (d12 73 rfl) rfl ?_
                                      refine Ev.iceq (t := 160) (d12 74 rfl) rfl (fun c19 => ?_) (fun c19 => ?_)
                                      · replace hr := (if_pos c19).symm.trans hr
                                        refine Ev.iconst (z := 1) (d12 84 rfl) rfl ?_
                                        refine Ev.goto (t := 165) (d12 85 rfl) rfl ?_
                                        cases hr
                                        exact Ev.zret1 rfl (d12 87 rfl)
                                      · replace hr := (if_neg c19).symm.trans hr
                                        refine Ev.iloadN (d12 75 rfl) rfl ?_
                                        refine Ev.bipush (z := 81) (d12 76 rfl) rfl ?_
                                        refine Ev.iceq (t := 160) (d12 77 rfl) rfl (fun c20 => ?_) (fun c20 => ?_)
                                        · replace hr := (if_pos c20).symm.trans hr
                                          refine Ev.iconst (z := 1) (d12 84 rfl) rfl ?_
                                          refine Ev.goto (t := 165) (d12 85 rfl) rfl ?_
                                          cases hr
                                          exact Ev.zret1 rfl (d12 87 rfl)
                                        · replace hr := (if_neg c20).symm.trans hr
                                          refine Ev.iloadN (d12 78 rfl) rfl ?_
                                          refine Ev.bipush (z := 84) (d12 79 rfl) rfl ?_
                                          refine Ev.iceq (t := 160) (d12 80 rfl) rfl (fun c21 => ?_) (fun c21 => ?_)
                                          · replace hr := (if_pos c21).symm.trans hr
                                            refine Ev.iconst (z := 1) (d12 84 rfl) rfl ?_
                                            refine Ev.goto (t := 165) (d12 85 rfl) rfl ?_
                                            cases hr
                                            exact Ev.zret1 rfl (d12 87 rfl)
                                          · replace hr := (if_neg c21).symm.trans hr
                                            refine Ev.iloadN (d12 81 rfl) rfl ?_
                                            refine Ev.bipush (z := 70) (d12 82 rfl) rfl ?_
                                            refine Ev.icne (t := 164) (d12 83 rfl) rfl (fun c22 => ?_) (fun c22 => ?_)
                                            · replace hr := (if_pos c22).symm.trans hr
                                              refine Ev.iconst (z := 1) (d12 84 rfl) rfl ?_
                                              refine Ev.goto (t := 165) (d12 85 rfl) rfl ?_
                                              cases hr
                                              exact Ev.zret1 rfl (d12 87 rfl)
                                            · replace hr := (if_neg c22).symm.trans hr
                                              refine Ev.iconst (z := 0) (d12 86 rfl) rfl ?_
                                              cases hr
                                              exact Ev.zret0 rfl (d12 87 rfl)
def f_accepted (s : St) (a0 : Int32) : Option (Int32) :=
  (f_varIndex s a0).bind fun q1 =>
  if q1 < 0 then
    if a0 < (48 : Int32) then
      f_accepted_22 s a0
    else
      if (57 : Int32) < a0 then
        f_accepted_22 s a0
      else
        some (1 : Int32)
  else
    some (1 : Int32)
set_option maxRecDepth 100000 in
theorem e_accepted {g : GT} {s : St} {a0 : Int32} {w : Int32} (hw : HW g) {K : St → MHeap} {o : Nat} {r : Nat → Nat} (V : View (GG g) Ln K o r) (hr : f_accepted s a0 = some w) : EvC (GG g) M_accepted [.ref o, .int a0] (K s) ((some (.int w)), (K s)) := by
  refine EvC.enter (L0 := [.val (.ref o), .val (.int a0)]) pl_accepted (fun h => nomatch h) rfl rfl ?_
  unfold f_accepted at hr
  refine Ev.aloadN (d12 0 rfl) rfl ?_
  refine Ev.iloadN (d12 1 rfl) rfl ?_
  obtain ⟨q1, hq2, hr⟩ := Option.bind_eq_some_iff.mp hr
  refine Ev.priv (y := M_varIndex) (args := [.int a0]) (rest := []) (gok hw) rfl nm_varIndex (ww hw 200 rfl) (ww hw 201 rfl) (ww hw 202 rfl) (ww hw 203 rfl) (lenOf pd_varIndex rfl) (d12 2 rfl) (V.2.1 s) (e_varIndex hw V hq2) (by decide) (Nat.le_of_ble_eq_true rfl) rfl ?_
  refine Ev.ifge (t := 20) (d12 3 rfl) rfl (fun c3 => ?_) (fun c3 => ?_)
  · replace hr := (if_pos c3).symm.trans hr
    refine Ev.iloadN (d12 4 rfl) rfl ?_
    refine Ev.bipush (z := 48) (d12 5 rfl) rfl ?_
    refine Ev.iclt (t := 22) (d12 6 rfl) rfl (fun c4 => ?_) (fun c4 => ?_)
    · replace hr := (if_pos c4).symm.trans hr
      exact e_accepted_22 hw V  a0 (.val (.ref o)) rfl _ hr
    · replace hr := (if_neg c4).symm.trans hr
      refine Ev.iloadN (d12 7 rfl) rfl ?_
      refine Ev.bipush (z := 57) (d12 8 rfl) rfl ?_
      refine Ev.icgt (t := 22) (d12 9 rfl) rfl (fun c5 => ?_) (fun c5 => ?_)
      · replace hr := (if_pos c5).symm.trans hr
        exact e_accepted_22 hw V  a0 (.val (.ref o)) rfl _ hr
      · replace hr := (if_neg c5).symm.trans hr
        refine Ev.iconst (z := 1) (d12 10 rfl) rfl ?_
        cases hr
        exact Ev.zret1 rfl (d12 11 rfl)
  · replace hr := (if_neg c3).symm.trans hr
    refine Ev.iconst (z := 1) (d12 10 rfl) rfl ?_
    cases hr
    exact Ev.zret1 rfl (d12 11 rfl)
def f_addChar (a0 : Int32) (s : St) : Option (Int32 × St) :=
  (f_accepted s a0).bind fun q1 =>
  if q1 = 0 then
    some ((-1 : Int32), s)
  else
    if (s.1 57) < (s.1 56) then
      grd (inb (s.1 57) 128) <|
      bnd (setA s 39 (ix (s.1 57)) a0) fun s6 =>
      bnd (setI s6 57 ((s6.1 57) + (1 : Int32))) fun s7 =>
      (f_clearResults s7).bind fun q8 =>
      some ((0 : Int32), q8)
    else
      some ((-2 : Int32), s)
set_option maxRecDepth 100000 in
theorem e_addChar {g : GT} {a0 : Int32} {s : St} {w : Int32 × St} (hw : HW g) {K : St → MHeap} {o : Nat} {r : Nat → Nat} (V : View (GG g) Ln K o r) (hr : f_addChar a0 s = some w) : EvC (GG g) M_addChar [.ref o, .int a0] (K s) ((some (.int w.1)), (K w.2)) := by
  refine EvC.enter (L0 := [.val (.ref o), .val (.int a0)]) pl_addChar (fun h => nomatch h) rfl rfl ?_
  unfold f_addChar at hr
  refine Ev.aloadN (d11 0 rfl) rfl ?_
  refine Ev.iloadN (d11 1 rfl) rfl ?_
  obtain ⟨q1, hq2, hr⟩ := Option.bind_eq_some_iff.mp hr
  refine Ev.priv (y := M_accepted) (args := [.int a0]) (rest := []) (gok hw) rfl nm_accepted (ww hw 196 rfl) (ww hw 197 rfl) (ww hw 198 rfl) (ww hw 199 rfl) (lenOf pd_accepted rfl) (d11 2 rfl) (V.2.1 s) (e_accepted hw V hq2) (by decide) (Nat.le_of_ble_eq_true rfl) rfl ?_
  refine Ev.ifne (t := 10) (d11 3 rfl) rfl (fun c3 => ?_) (fun c3 => ?_)
  · replace hr := (if_pos c3).symm.trans hr
    refine Ev.iconst (z := -1) (d11 4 rfl) rfl ?_
    cases hr
    exact Ev.ireturn rfl (d11 5 rfl)
  · replace hr := (if_neg c3).symm.trans hr
    refine Ev.aloadN (d11 6 rfl) rfl ?_
    refine Ev.gI V (ww hw 124 rfl) (d11 7 rfl) (j := 57) rfl rfl ?_
    refine Ev.aloadN (d11 8 rfl) rfl ?_
    refine Ev.gI V (ww hw 122 rfl) (d11 9 rfl) (j := 56) rfl rfl ?_
    refine Ev.iclt (t := 24) (d11 10 rfl) rfl (fun c4 => ?_) (fun c4 => ?_)
    · replace hr := (if_pos c4).symm.trans hr
      refine Ev.aloadN (d11 13 rfl) rfl ?_
      refine Ev.gAr V (ww hw 88 rfl) (d11 14 rfl) (j := 39) rfl ?_
      refine Ev.aloadN (d11 15 rfl) rfl ?_
      refine Ev.gI V (ww hw 124 rfl) (d11 16 rfl) (j := 57) rfl rfl ?_
      refine Ev.iloadN (d11 17 rfl) rfl ?_
      obtain ⟨b5, hr⟩ := grd_some hr
      refine Ev.ias V (j := 39) rfl rfl (d11 18 rfl) b5 ?_
      revert hr
      generalize setA s 39 (ix (s.1 57)) a0 = s6
      intro hr
      replace hr := (bnd_eq _ _).symm.trans hr
      refine Ev.aloadN (d11 19 rfl) rfl ?_
      refine Ev.dup (d11 20 rfl) rfl ?_
      refine Ev.gI V (ww hw 124 rfl) (d11 21 rfl) (j := 57) rfl rfl ?_
      refine Ev.iconst (z := 1) (d11 22 rfl) rfl ?_
      refine Ev.iadd (d11 23 rfl) ?_
      refine Ev.pI V (gok hw) (ww hw 124 rfl) (Or.inl (ww hw 125 rfl)) (d11 24 rfl) (j := 57) rfl ?_
      revert hr
      generalize setI s6 57 ((s6.1 57) + (1 : Int32)) = s7
      intro hr
      replace hr := (bnd_eq _ _).symm.trans hr
      refine Ev.aloadN (d11 25 rfl) rfl ?_
      obtain ⟨q8, hq9, hr⟩ := Option.bind_eq_some_iff.mp hr
      refine Ev.priv (y := M_clearResults) (args := []) (rest := []) (gok hw) rfl nm_clearResults (ww hw 126 rfl) (ww hw 127 rfl) (ww hw 128 rfl) (ww hw 129 rfl) (lenOf pd_clearResults rfl) (d11 26 rfl) (V.2.1 s7) (e_clearResults hw V hq9) (by decide) (Nat.le_of_ble_eq_true rfl) rfl ?_
      refine Ev.iconst (z := 0) (d11 27 rfl) rfl ?_
      cases hr
      exact Ev.ireturn rfl (d11 28 rfl)
    · replace hr := (if_neg c4).symm.trans hr
      refine Ev.bipush (z := -2) (d11 11 rfl) rfl ?_
      cases hr
      exact Ev.ireturn rfl (d11 12 rfl)
def f_length (s : St) : Option (Int32) :=
  some (s.1 57)
set_option maxRecDepth 100000 in
theorem e_length {g : GT} {s : St} {w : Int32} (hw : HW g) {K : St → MHeap} {o : Nat} {r : Nat → Nat} (V : View (GG g) Ln K o r) (hr : f_length s = some w) : EvC (GG g) M_length [.ref o] (K s) ((some (.int w)), (K s)) := by
  refine EvC.enter (L0 := [.val (.ref o)]) pl_length (fun h => nomatch h) rfl rfl ?_
  unfold f_length at hr
  refine Ev.aloadN (d14 0 rfl) rfl ?_
  refine Ev.gI V (ww hw 124 rfl) (d14 1 rfl) (j := 57) rfl rfl ?_
  cases hr
  exact Ev.ireturn rfl (d14 2 rfl)
def f_charAt (s : St) (a0 : Int32) : Option (Int32) :=
  if a0 < 0 then
    some (-1 : Int32)
  else
    if a0 < (s.1 57) then
      grd (inb a0 128) <|
      some (s.2 39 (ix a0))
    else
      some (-1 : Int32)
set_option maxRecDepth 100000 in
theorem e_charAt {g : GT} {s : St} {a0 : Int32} {w : Int32} (hw : HW g) {K : St → MHeap} {o : Nat} {r : Nat → Nat} (V : View (GG g) Ln K o r) (hr : f_charAt s a0 = some w) : EvC (GG g) M_charAt [.ref o, .int a0] (K s) ((some (.int w)), (K s)) := by
  refine EvC.enter (L0 := [.val (.ref o), .val (.int a0)]) pl_charAt (fun h => nomatch h) rfl rfl ?_
  unfold f_charAt at hr
  refine Ev.iloadN (d15 0 rfl) rfl ?_
  refine Ev.iflt (t := 12) (d15 1 rfl) rfl (fun c1 => ?_) (fun c1 => ?_)
  · replace hr := (if_pos c1).symm.trans hr
    refine Ev.iconst (z := -1) (d15 6 rfl) rfl ?_
    cases hr
    exact Ev.ireturn rfl (d15 7 rfl)
  · replace hr := (if_neg c1).symm.trans hr
    refine Ev.iloadN (d15 2 rfl) rfl ?_
    refine Ev.aloadN (d15 3 rfl) rfl ?_
    refine Ev.gI V (ww hw 124 rfl) (d15 4 rfl) (j := 57) rfl rfl ?_
    refine Ev.iclt (t := 14) (d15 5 rfl) rfl (fun c2 => ?_) (fun c2 => ?_)
    · replace hr := (if_pos c2).symm.trans hr
      refine Ev.aloadN (d15 8 rfl) rfl ?_
      refine Ev.gAr V (ww hw 88 rfl) (d15 9 rfl) (j := 39) rfl ?_
      refine Ev.iloadN (d15 10 rfl) rfl ?_
      obtain ⟨b3, hr⟩ := grd_some hr
      refine Ev.ial V (j := 39) rfl rfl (d15 11 rfl) b3 ?_
      cases hr
      exact Ev.ireturn rfl (d15 12 rfl)
    · replace hr := (if_neg c2).symm.trans hr
      refine Ev.iconst (z := -1) (d15 6 rfl) rfl ?_
      cases hr
      exact Ev.ireturn rfl (d15 7 rfl)
def f_vcCount (s : St) : Option (Int32) :=
  if (s.1 58) = 0 then
    some (-4 : Int32)
  else
    some ((1 : Int32) + ((2 : Int32) * (s.1 65)))
set_option maxRecDepth 100000 in
theorem e_vcCount {g : GT} {s : St} {w : Int32} (hw : HW g) {K : St → MHeap} {o : Nat} {r : Nat → Nat} (V : View (GG g) Ln K o r) (hr : f_vcCount s = some w) : EvC (GG g) M_vcCount [.ref o] (K s) ((some (.int w)), (K s)) := by
  refine EvC.enter (L0 := [.val (.ref o)]) pl_vcCount (fun h => nomatch h) rfl rfl ?_
  unfold f_vcCount at hr
  refine Ev.aloadN (d16 0 rfl) rfl ?_
  refine Ev.gI V (ww hw 130 rfl) (d16 1 rfl) (j := 58) rfl rfl ?_
  refine Ev.ifne (t := 10) (d16 2 rfl) rfl (fun c1 => ?_) (fun c1 => ?_)
  · replace hr := (if_pos c1).symm.trans hr
    refine Ev.bipush (z := -4) (d16 3 rfl) rfl ?_
    cases hr
    exact Ev.ireturn rfl (d16 4 rfl)
  · replace hr := (if_neg c1).symm.trans hr
    refine Ev.iconst (z := 1) (d16 5 rfl) rfl ?_
    refine Ev.iconst (z := 2) (d16 6 rfl) rfl ?_
    refine Ev.aloadN (d16 7 rfl) rfl ?_
    refine Ev.gI V (ww hw 153 rfl) (d16 8 rfl) (j := 65) rfl rfl ?_
    refine Ev.imul (d16 9 rfl) ?_
    refine Ev.iadd (d16 10 rfl) ?_
    cases hr
    exact Ev.ireturn rfl (d16 11 rfl)
def f_haccepted_14 (x0 : Int32) : Option (Int32) :=
  if x0 = (120 : Int32) then
    some (1 : Int32)
  else
    if x0 = (121 : Int32) then
      some (1 : Int32)
    else
      if x0 = (122 : Int32) then
        some (1 : Int32)
      else
        if x0 = (43 : Int32) then
          some (1 : Int32)
        else
          if x0 = (45 : Int32) then
            some (1 : Int32)
          else
            if x0 = (42 : Int32) then
              some (1 : Int32)
            else
              if x0 = (60 : Int32) then
                some (1 : Int32)
              else
                if x0 = (61 : Int32) then
                  some (1 : Int32)
                else
                  if x0 = (33 : Int32) then
                    some (1 : Int32)
                  else
                    if x0 = (38 : Int32) then
                      some (1 : Int32)
                    else
                      if x0 = (124 : Int32) then
                        some (1 : Int32)
                      else
                        if x0 = (91 : Int32) then
                          some (1 : Int32)
                        else
                          if x0 = (93 : Int32) then
                            some (1 : Int32)
                          else
                            if x0 = (40 : Int32) then
                              some (1 : Int32)
                            else
                              if x0 = (41 : Int32) then
                                some (1 : Int32)
                              else
                                if x0 = (123 : Int32) then
                                  some (1 : Int32)
                                else
                                  if x0 = (125 : Int32) then
                                    some (1 : Int32)
                                  else
                                    if x0 = (59 : Int32) then
                                      some (1 : Int32)
                                    else
                                      if x0 = (63 : Int32) then
                                        some (1 : Int32)
                                      else
                                        if x0 = (64 : Int32) then
                                          some (1 : Int32)
                                        else
                                          if x0 = (87 : Int32) then
                                            some (1 : Int32)
                                          else
                                            if x0 = (80 : Int32) then
                                              some (1 : Int32)
                                            else
                                              if x0 = (81 : Int32) then
                                                some (1 : Int32)
                                              else
                                                if x0 = (84 : Int32) then
                                                  some (1 : Int32)
                                                else
                                                  if x0 = (70 : Int32) then
                                                    some (1 : Int32)
                                                  else
                                                    some (0 : Int32)
set_option maxRecDepth 100000 in
theorem e_haccepted_14 {g : GT} (hw : HW g) {h : MHeap} (x0 : Int32) (w : Int32) (hr : f_haccepted_14 x0 = some w) : Ev (GG g) M_haccepted 14 [.val (.int x0)] [] h ((some (.int w)), h) := by
  unfold f_haccepted_14 at hr
  refine Ev.iloadN (d17 8 rfl) rfl ?_
  refine Ev.bipush (z := 120) (d17 9 rfl) rfl ?_
  refine Ev.iceq (t := 32) (d17 10 rfl) rfl (fun c1 => ?_) (fun c1 => ?_)
  · replace hr := (if_pos c1).symm.trans hr
    refine Ev.iconst (z := 1) (d17 17 rfl) rfl ?_
    cases hr
    exact Ev.zret1 rfl (d17 18 rfl)
  · replace hr := (if_neg c1).symm.trans hr
    refine Ev.iloadN (d17 11 rfl) rfl ?_
    refine Ev.bipush (z := 121) (d17 12 rfl) rfl ?_
    refine Ev.iceq (t := 32) (d17 13 rfl) rfl (fun c2 => ?_) (fun c2 => ?_)
    · replace hr := (if_pos c2).symm.trans hr
      refine Ev.iconst (z := 1) (d17 17 rfl) rfl ?_
      cases hr
      exact Ev.zret1 rfl (d17 18 rfl)
    · replace hr := (if_neg c2).symm.trans hr
      refine Ev.iloadN (d17 14 rfl) rfl ?_
      refine Ev.bipush (z := 122) (d17 15 rfl) rfl ?_
      refine Ev.icne (t := 34) (d17 16 rfl) rfl (fun c3 => ?_) (fun c3 => ?_)
      · replace hr := (if_pos c3).symm.trans hr
        refine Ev.iconst (z := 1) (d17 17 rfl) rfl ?_
        cases hr
        exact Ev.zret1 rfl (d17 18 rfl)
      · replace hr := (if_neg c3).symm.trans hr
        refine Ev.iloadN (d17 19 rfl) rfl ?_
        refine Ev.bipush (z := 43) (d17 20 rfl) rfl ?_
        refine Ev.iceq (t := 70) (d17 21 rfl) rfl (fun c4 => ?_) (fun c4 => ?_)
        · replace hr := (if_pos c4).symm.trans hr
          refine Ev.iconst (z := 1) (d17 37 rfl) rfl ?_
          cases hr
          exact Ev.zret1 rfl (d17 38 rfl)
        · replace hr := (if_neg c4).symm.trans hr
          refine Ev.iloadN (d17 22 rfl) rfl ?_
          refine Ev.bipush (z := 45) (d17 23 rfl) rfl ?_
          refine Ev.iceq (t := 70) (d17 24 rfl) rfl (fun c5 => ?_) (fun c5 => ?_)
          · replace hr := (if_pos c5).symm.trans hr
            refine Ev.iconst (z := 1) (d17 37 rfl) rfl ?_
            cases hr
            exact Ev.zret1 rfl (d17 38 rfl)
          · replace hr := (if_neg c5).symm.trans hr
            refine Ev.iloadN (d17 25 rfl) rfl ?_
            refine Ev.bipush (z := 42) (d17 26 rfl) rfl ?_
            refine Ev.iceq (t := 70) (d17 27 rfl) rfl (fun c6 => ?_) (fun c6 => ?_)
            · replace hr := (if_pos c6).symm.trans hr
              refine Ev.iconst (z := 1) (d17 37 rfl) rfl ?_
              cases hr
              exact Ev.zret1 rfl (d17 38 rfl)
            · replace hr := (if_neg c6).symm.trans hr
              refine Ev.iloadN (d17 28 rfl) rfl ?_
              refine Ev.bipush (z := 60) (d17 29 rfl) rfl ?_
              refine Ev.iceq (t := 70) (d17 30 rfl) rfl (fun c7 => ?_) (fun c7 => ?_)
              · replace hr := (if_pos c7).symm.trans hr
                refine Ev.iconst (z := 1) (d17 37 rfl) rfl ?_
                cases hr
                exact Ev.zret1 rfl (d17 38 rfl)
              · replace hr := (if_neg c7).symm.trans hr
                refine Ev.iloadN (d17 31 rfl) rfl ?_
                refine Ev.bipush (z := 61) (d17 32 rfl) rfl ?_
                refine Ev.iceq (t := 70) (d17 33 rfl) rfl (fun c8 => ?_) (fun c8 => ?_)
                · replace hr := (if_pos c8).symm.trans hr
                  refine Ev.iconst (z := 1) (d17 37 rfl) rfl ?_
                  cases hr
                  exact Ev.zret1 rfl (d17 38 rfl)
                · replace hr := (if_neg c8).symm.trans hr
                  refine Ev.iloadN (d17 34 rfl) rfl ?_
                  refine Ev.bipush (z := 33) (d17 35 rfl) rfl ?_
                  refine Ev.icne (t := 72) (d17 36 rfl) rfl (fun c9 => ?_) (fun c9 => ?_)
                  · replace hr := (if_pos c9).symm.trans hr
                    refine Ev.iconst (z := 1) (d17 37 rfl) rfl ?_
                    cases hr
                    exact Ev.zret1 rfl (d17 38 rfl)
                  · replace hr := (if_neg c9).symm.trans hr
                    refine Ev.iloadN (d17 39 rfl) rfl ?_
                    refine Ev.bipush (z := 38) (d17 40 rfl) rfl ?_
                    refine Ev.iceq (t := 108) (d17 41 rfl) rfl (fun c10 => ?_) (fun c10 => ?_)
                    · replace hr := (if_pos c10).symm.trans hr
                      refine Ev.iconst (z := 1) (d17 57 rfl) rfl ?_
                      cases hr
                      exact Ev.zret1 rfl (d17 58 rfl)
                    · replace hr := (if_neg c10).symm.trans hr
                      refine Ev.iloadN (d17 42 rfl) rfl ?_
                      refine Ev.bipush (z := 124) (d17 43 rfl) rfl ?_
                      refine Ev.iceq (t := 108) (d17 44 rfl) rfl (fun c11 => ?_) (fun c11 => ?_)
                      · replace hr := (if_pos c11).symm.trans hr
                        refine Ev.iconst (z := 1) (d17 57 rfl) rfl ?_
                        cases hr
                        exact Ev.zret1 rfl (d17 58 rfl)
                      · replace hr := (if_neg c11).symm.trans hr
                        refine Ev.iloadN (d17 45 rfl) rfl ?_
                        refine Ev.bipush (z := 91) (d17 46 rfl) rfl ?_
                        refine Ev.iceq (t := 108) (d17 47 rfl) rfl (fun c12 => ?_) (fun c12 => ?_)
                        · replace hr := (if_pos c12).symm.trans hr
                          refine Ev.iconst (z := 1) (d17 57 rfl) rfl ?_
                          cases hr
                          exact Ev.zret1 rfl (d17 58 rfl)
                        · replace hr := (if_neg c12).symm.trans hr
                          refine Ev.iloadN (d17 48 rfl) rfl ?_
                          refine Ev.bipush (z := 93) (d17 49 rfl) rfl ?_
                          refine Ev.iceq (t := 108) (d17 50 rfl) rfl (fun c13 => ?_) (fun c13 => ?_)
                          · replace hr := (if_pos c13).symm.trans hr
                            refine Ev.iconst (z := 1) (d17 57 rfl) rfl ?_
                            cases hr
                            exact Ev.zret1 rfl (d17 58 rfl)
                          · replace hr := (if_neg c13).symm.trans hr
                            refine Ev.iloadN (d17 51 rfl) rfl ?_
                            refine Ev.bipush (z := 40) (d17 52 rfl) rfl ?_
                            refine Ev.iceq (t := 108) (d17 53 rfl) rfl (fun c14 => ?_) (fun c14 => ?_)
                            · replace hr := (if_pos c14).symm.trans hr
                              refine Ev.iconst (z := 1) (d17 57 rfl) rfl ?_
                              cases hr
                              exact Ev.zret1 rfl (d17 58 rfl)
                            · replace hr := (if_neg c14).symm.trans hr
                              refine Ev.iloadN (d17 54 rfl) rfl ?_
                              refine Ev.bipush (z := 41) (d17 55 rfl) rfl ?_
                              refine Ev.icne (t := 110) (d17 56 rfl) rfl (fun c15 => ?_) (fun c15 => ?_)
                              · replace hr := (if_pos c15).symm.trans hr
                                refine Ev.iconst (z := 1) (d17 57 rfl) rfl ?_
                                cases hr
                                exact Ev.zret1 rfl (d17 58 rfl)
                              · replace hr := (if_neg c15).symm.trans hr
                                refine Ev.iloadN (d17 59 rfl) rfl ?_
                                refine Ev.bipush (z := 123) (d17 60 rfl) rfl ?_
                                refine Ev.iceq (t := 140) (d17 61 rfl) rfl (fun c16 => ?_) (fun c16 => ?_)
                                · replace hr := (if_pos c16).symm.trans hr
                                  refine Ev.iconst (z := 1) (d17 74 rfl) rfl ?_
                                  cases hr
                                  exact Ev.zret1 rfl (d17 75 rfl)
                                · replace hr := (if_neg c16).symm.trans hr
                                  refine Ev.iloadN (d17 62 rfl) rfl ?_
                                  refine Ev.bipush (z := 125) (d17 63 rfl) rfl ?_
                                  refine Ev.iceq (t := 140) (d17 64 rfl) rfl (fun c17 => ?_) (fun c17 => ?_)
                                  · replace hr := (if_pos c17).symm.trans hr
                                    refine Ev.iconst (z := 1) (d17 74 rfl) rfl ?_
                                    cases hr
                                    exact Ev.zret1 rfl (d17 75 rfl)
                                  · replace hr := (if_neg c17).symm.trans hr
                                    refine Ev.iloadN (d17 65 rfl) rfl ?_
                                    refine Ev.bipush (z := 59) (d17 66 rfl) rfl ?_
                                    refine Ev.iceq (t := 140) (d17 67 rfl) rfl (fun c18 => ?_) (fun c18 => ?_)
                                    · replace hr := (if_pos c18).symm.trans hr
                                      refine Ev.iconst (z := 1) (d17 74 rfl) rfl ?_
                                      cases hr
                                      exact Ev.zret1 rfl (d17 75 rfl)
                                    · replace hr := (if_neg c18).symm.trans hr
                                      refine Ev.iloadN (d17 68 rfl) rfl ?_
                                      refine Ev.bipush (z := 63) (d17 69 rfl) rfl ?_
                                      refine Ev.iceq (t := 140) (d17 70 rfl) rfl (fun c19 => ?_) (fun c19 => ?_)
                                      · replace hr := (if_pos c19).symm.trans hr
                                        refine Ev.iconst (z := 1) (d17 74 rfl) rfl ?_
                                        cases hr
                                        exact Ev.zret1 rfl (d17 75 rfl)
                                      · replace hr := (if_neg c19).symm.trans hr
                                        refine Ev.iloadN (d17 71 rfl) rfl ?_
                                        refine Ev.bipush (z := 64) (d17 72 rfl) rfl ?_
                                        refine Ev.icne (t := 142) (d17 73 rfl) rfl (fun c20 => ?_) (fun c20 => ?_)
                                        · replace hr := (if_pos c20).symm.trans hr
                                          refine Ev.iconst (z := 1) (d17 74 rfl) rfl ?_
                                          cases hr
                                          exact Ev.zret1 rfl (d17 75 rfl)
                                        · replace hr := (if_neg c20).symm.trans hr
                                          refine Ev.iloadN (d17 76 rfl) rfl ?_
                                          refine Ev.bipush (z := 87) (d17 77 rfl) rfl ?_
                                          refine Ev.iceq (t := 172) (d17 78 rfl) rfl (fun c21 => ?_) (fun c21 => ?_)
                                          · replace hr := (if_pos c21).symm.trans hr
                                            refine Ev.iconst (z := 1) (d17 91 rfl) rfl ?_
                                            refine Ev.goto (t := 177) (d17 92 rfl) rfl ?_
                                            cases hr
                                            exact Ev.zret1 rfl (d17 94 rfl)
                                          · replace hr := (if_neg c21).symm.trans hr
                                            refine Ev.iloadN (d17 79 rfl) rfl ?_
                                            refine Ev.bipush (z := 80) (d17 80 rfl) rfl ?_
                                            refine Ev.iceq (t := 172) (d17 81 rfl) rfl (fun c22 => ?_) (fun c22 => ?_)
                                            · replace hr := (if_pos c22).symm.trans hr
                                              refine Ev.iconst (z := 1) (d17 91 rfl) rfl ?_
                                              refine Ev.goto (t := 177) (d17 92 rfl) rfl ?_
                                              cases hr
                                              exact Ev.zret1 rfl (d17 94 rfl)
                                            · replace hr := (if_neg c22).symm.trans hr
                                              refine Ev.iloadN (d17 82 rfl) rfl ?_
                                              refine Ev.bipush (z := 81) (d17 83 rfl) rfl ?_
                                              refine Ev.iceq (t := 172) (d17 84 rfl) rfl (fun c23 => ?_) (fun c23 => ?_)
                                              · replace hr := (if_pos c23).symm.trans hr
                                                refine Ev.iconst (z := 1) (d17 91 rfl) rfl ?_
                                                refine Ev.goto (t := 177) (d17 92 rfl) rfl ?_
                                                cases hr
                                                exact Ev.zret1 rfl (d17 94 rfl)
                                              · replace hr := (if_neg c23).symm.trans hr
                                                refine Ev.iloadN (d17 85 rfl) rfl ?_
                                                refine Ev.bipush (z := 84) (d17 86 rfl) rfl ?_
                                                refine Ev.iceq (t := 172) (d17 87 rfl) rfl (fun c24 => ?_) (fun c24 => ?_)
                                                · replace hr := (if_pos c24).symm.trans hr
                                                  refine Ev.iconst (z := 1) (d17 91 rfl) rfl ?_
                                                  refine Ev.goto (t := 177) (d17 92 rfl) rfl ?_
                                                  cases hr
                                                  exact Ev.zret1 rfl (d17 94 rfl)
                                                · replace hr := (if_neg c24).symm.trans hr
                                                  refine Ev.iloadN (d17 88 rfl) rfl ?_
                                                  refine Ev.bipush (z := 70) (d17 89 rfl) rfl ?_
                                                  refine Ev.icne (t := 176) (d17 90 rfl) rfl (fun c25 => ?_) (fun c25 => ?_)
                                                  · replace hr := (if_pos c25).symm.trans hr
                                                    refine Ev.iconst (z := 1) (d17 91 rfl) rfl ?_
                                                    refine Ev.goto (t := 177) (d17 92 rfl) rfl ?_
                                                    cases hr
                                                    exact Ev.zret1 rfl (d17 94 rfl)
                                                  · replace hr := (if_neg c25).symm.trans hr
                                                    refine Ev.iconst (z := 0) (d17 93 rfl) rfl ?_
                                                    cases hr
                                                    exact Ev.zret0 rfl (d17 94 rfl)
def f_haccepted (a0 : Int32) : Option (Int32) :=
  if a0 < (48 : Int32) then
    f_haccepted_14 a0
  else
    if (57 : Int32) < a0 then
      f_haccepted_14 a0
    else
      some (1 : Int32)
set_option maxRecDepth 100000 in
theorem e_haccepted {g : GT} {a0 : Int32} {w : Int32} (hw : HW g) {h : MHeap} (hr : f_haccepted a0 = some w) : EvC (GG g) M_haccepted [.int a0] h ((some (.int w)), h) := by
  refine EvC.enter (L0 := [.val (.int a0)]) pl_haccepted (fun h => nomatch h) rfl rfl ?_
  unfold f_haccepted at hr
  refine Ev.iloadN (d17 0 rfl) rfl ?_
  refine Ev.bipush (z := 48) (d17 1 rfl) rfl ?_
  refine Ev.iclt (t := 14) (d17 2 rfl) rfl (fun c1 => ?_) (fun c1 => ?_)
  · replace hr := (if_pos c1).symm.trans hr
    exact e_haccepted_14 hw   a0  _ hr
  · replace hr := (if_neg c1).symm.trans hr
    refine Ev.iloadN (d17 3 rfl) rfl ?_
    refine Ev.bipush (z := 57) (d17 4 rfl) rfl ?_
    refine Ev.icgt (t := 14) (d17 5 rfl) rfl (fun c2 => ?_) (fun c2 => ?_)
    · replace hr := (if_pos c2).symm.trans hr
      exact e_haccepted_14 hw   a0  _ hr
    · replace hr := (if_neg c2).symm.trans hr
      refine Ev.iconst (z := 1) (d17 6 rfl) rfl ?_
      cases hr
      exact Ev.zret1 rfl (d17 7 rfl)
def f_law_8 (n : Nat) (x1 : Int32) (s : St) : Option (Int32 × St) :=
  (f_parse n s).bind fun q1 =>
  if q1.1 = (-3 : Int32) then
    (f_errorPosition q1.2).bind fun q4 =>
    if q4 = 0 then
      (f_addChar x1 q1.2).bind fun q7 =>
      (f_length q7.2).bind fun q9 =>
      (f_charAt q7.2 (0 : Int32)).bind fun q11 =>
      (f_errorPosition q7.2).bind fun q13 =>
      (f_vcCount q7.2).bind fun q15 =>
      if q15 = (-4 : Int32) then
        (f_haccepted x1).bind fun q18 =>
        if q18 = 0 then
          if q7.1 = (-1 : Int32) then
            if q9 = 0 then
              if q11 = (-1 : Int32) then
                if q13 = 0 then
                  some ((1 : Int32), q7.2)
                else
                  some ((0 : Int32), q7.2)
              else
                some ((0 : Int32), q7.2)
            else
              some ((0 : Int32), q7.2)
          else
            some ((0 : Int32), q7.2)
        else
          if q7.1 = 0 then
            if q9 = (1 : Int32) then
              if q11 = x1 then
                if q13 = (-1 : Int32) then
                  some ((1 : Int32), q7.2)
                else
                  some ((0 : Int32), q7.2)
              else
                some ((0 : Int32), q7.2)
            else
              some ((0 : Int32), q7.2)
          else
            some ((0 : Int32), q7.2)
      else
        some ((0 : Int32), q7.2)
    else
      some ((0 : Int32), q1.2)
  else
    some ((0 : Int32), q1.2)
set_option maxRecDepth 100000 in
theorem e_law_8 {g : GT} {n : Nat} (hw : HW g) {K : St → MHeap} {o : Nat} {r : Nat → Nat} (V : View (GG g) Ln K o r) (x1 : Int32) (s : St) (y0 : Slot) (hy0 : one1 y0 = true) (y2 : Slot) (hy2 : one1 y2 = true) (y3 : Slot) (hy3 : one1 y3 = true) (y4 : Slot) (hy4 : one1 y4 = true) (y5 : Slot) (hy5 : one1 y5 = true) (y6 : Slot) (hy6 : one1 y6 = true) (y7 : Slot) (hy7 : one1 y7 = true) (w : Int32 × St) (hr : f_law_8 n x1 s = some w) : Ev (GG g) M_law 8 [y0, .val (.int x1), y2, y3, y4, y5, y6, y7] [.ref o] (K s) ((some (.int w.1)), (K w.2)) := by
  unfold f_law_8 at hr
  refine Ev.astDN (L' := [y0, .val (.int x1), .val (.ref o), y3, y4, y5, y6, y7]) at_8 rfl hy2 rfl ?_
  refine Ev.aloadN at_9 rfl ?_
  obtain ⟨q1, hq2, hr⟩ := Option.bind_eq_some_iff.mp hr
  refine Ev.virt (y := M_parse) (args := []) (rest := []) (gok hw) rfl nm_parse (ww hw 138 rfl) (ww hw 139 rfl) (ww hw 140 rfl) (ww hw 141 rfl) (ww hw 142 rfl) (lenOf pd_parse rfl) at_10 (V.2.1 s) (e_parse hw V hq2) (by decide) (Nat.le_of_ble_eq_true rfl) rfl ?_
  refine Ev.bipush (z := -3) at_13 rfl ?_
  refine Ev.iceq (t := 20) at_15 rfl (fun c3 => ?_) (fun c3 => ?_)
  · replace hr := (if_pos c3).symm.trans hr
    refine Ev.aloadN at_20 rfl ?_
    obtain ⟨q4, hq5, hr⟩ := Option.bind_eq_some_iff.mp hr
    refine Ev.virt (y := M_errorPosition) (args := []) (rest := []) (gok hw) rfl nm_errorPosition (ww hw 186 rfl) (ww hw 187 rfl) (ww hw 188 rfl) (ww hw 189 rfl) (ww hw 190 rfl) (lenOf pd_errorPosition rfl) at_21 (V.2.1 q1.2) (e_errorPosition hw V hq5) (by decide) (Nat.le_of_ble_eq_true rfl) rfl ?_
    refine Ev.ifeq (t := 29) at_24 rfl (fun c6 => ?_) (fun c6 => ?_)
    · replace hr := (if_pos c6).symm.trans hr
      refine Ev.aloadN at_29 rfl ?_
      refine Ev.iloadN at_30 rfl ?_
      obtain ⟨q7, hq8, hr⟩ := Option.bind_eq_some_iff.mp hr
      refine Ev.virt (y := M_addChar) (args := [.int x1]) (rest := []) (gok hw) rfl nm_addChar (ww hw 191 rfl) (ww hw 192 rfl) (ww hw 193 rfl) (ww hw 194 rfl) (ww hw 195 rfl) (lenOf pd_addChar rfl) at_31 (V.2.1 q1.2) (e_addChar hw V hq8) (by decide) (Nat.le_of_ble_eq_true rfl) rfl ?_
      refine Ev.istDN (L' := [y0, .val (.int x1), .val (.ref o), .val (.int q7.1), y4, y5, y6, y7]) at_34 rfl hy3 rfl ?_
      refine Ev.aloadN at_35 rfl ?_
      obtain ⟨q9, hq10, hr⟩ := Option.bind_eq_some_iff.mp hr
      refine Ev.virt (y := M_length) (args := []) (rest := []) (gok hw) rfl nm_length (ww hw 204 rfl) (ww hw 205 rfl) (ww hw 206 rfl) (ww hw 207 rfl) (ww hw 208 rfl) (lenOf pd_length rfl) at_36 (V.2.1 q7.2) (e_length hw V hq10) (by decide) (Nat.le_of_ble_eq_true rfl) rfl ?_
      refine Ev.istD (L' := [y0, .val (.int x1), .val (.ref o), .val (.int q7.1), .val (.int q9), y5, y6, y7]) at_39 rfl hy4 rfl ?_
      refine Ev.aloadN at_41 rfl ?_
      refine Ev.iconst (z := 0) at_42 rfl ?_
      obtain ⟨q11, hq12, hr⟩ := Option.bind_eq_some_iff.mp hr
      refine Ev.virt (y := M_charAt) (args := [.int (0 : Int32)]) (rest := []) (gok hw) rfl nm_charAt (ww hw 209 rfl) (ww hw 210 rfl) (ww hw 211 rfl) (ww hw 212 rfl) (ww hw 213 rfl) (lenOf pd_charAt rfl) at_43 (V.2.1 q7.2) (e_charAt hw V hq12) (by decide) (Nat.le_of_ble_eq_true rfl) rfl ?_
      refine Ev.istD (L' := [y0, .val (.int x1), .val (.ref o), .val (.int q7.1), .val (.int q9), .val (.int q11), y6, y7]) at_46 rfl hy5 rfl ?_
      refine Ev.aloadN at_48 rfl ?_
      obtain ⟨q13, hq14, hr⟩ := Option.bind_eq_some_iff.mp hr
      refine Ev.virt (y := M_errorPosition) (args := []) (rest := []) (gok hw) rfl nm_errorPosition (ww hw 186 rfl) (ww hw 187 rfl) (ww hw 188 rfl) (ww hw 189 rfl) (ww hw 190 rfl) (lenOf pd_errorPosition rfl) at_49 (V.2.1 q7.2) (e_errorPosition hw V hq14) (by decide) (Nat.le_of_ble_eq_true rfl) rfl ?_
      refine Ev.istD (L' := [y0, .val (.int x1), .val (.ref o), .val (.int q7.1), .val (.int q9), .val (.int q11), .val (.int q13), y7]) at_52 rfl hy6 rfl ?_
      refine Ev.aloadN at_54 rfl ?_
      obtain ⟨q15, hq16, hr⟩ := Option.bind_eq_some_iff.mp hr
      refine Ev.virt (y := M_vcCount) (args := []) (rest := []) (gok hw) rfl nm_vcCount (ww hw 214 rfl) (ww hw 215 rfl) (ww hw 216 rfl) (ww hw 217 rfl) (ww hw 218 rfl) (lenOf pd_vcCount rfl) at_55 (V.2.1 q7.2) (e_vcCount hw V hq16) (by decide) (Nat.le_of_ble_eq_true rfl) rfl ?_
      refine Ev.istD (L' := [y0, .val (.int x1), .val (.ref o), .val (.int q7.1), .val (.int q9), .val (.int q11), .val (.int q13), .val (.int q15)]) at_58 rfl hy7 rfl ?_
      refine Ev.iload at_60 rfl ?_
      refine Ev.bipush (z := -4) at_62 rfl ?_
      refine Ev.iceq (t := 69) at_64 rfl (fun c17 => ?_) (fun c17 => ?_)
      · replace hr := (if_pos c17).symm.trans hr
        refine Ev.iloadN at_69 rfl ?_
        obtain ⟨q18, hq19, hr⟩ := Option.bind_eq_some_iff.mp hr
        refine Ev.stat (y := M_haccepted) (args := [.int x1]) (rest := []) nm_haccepted (ww hw 219 rfl) (ww hw 220 rfl) (ww hw 221 rfl) (ww hw 222 rfl) (lenOf pd_haccepted rfl) at_70 (e_haccepted hw hq19) (by decide) (Nat.le_of_ble_eq_true rfl) rfl ?_
        refine Ev.ifeq (t := 104) at_73 rfl (fun c20 => ?_) (fun c20 => ?_)
        · replace hr := (if_pos c20).symm.trans hr
          refine Ev.iloadN at_104 rfl ?_
          refine Ev.iconst (z := -1) at_105 rfl ?_
          refine Ev.icne (t := 129) at_106 rfl (fun c21 => ?_) (fun c21 => ?_)
          · replace hr := (if_pos c21).symm.trans hr
            refine Ev.iload at_109 rfl ?_
            refine Ev.ifne (t := 129) at_111 rfl (fun c22 => ?_) (fun c22 => ?_)
            · replace hr := (if_pos c22).symm.trans hr
              refine Ev.iload at_114 rfl ?_
              refine Ev.iconst (z := -1) at_116 rfl ?_
              refine Ev.icne (t := 129) at_117 rfl (fun c23 => ?_) (fun c23 => ?_)
              · replace hr := (if_pos c23).symm.trans hr
                refine Ev.iload at_120 rfl ?_
                refine Ev.ifne (t := 129) at_122 rfl (fun c24 => ?_) (fun c24 => ?_)
                · replace hr := (if_pos c24).symm.trans hr
                  refine Ev.iconst (z := 1) at_125 rfl ?_
                  refine Ev.goto (t := 130) at_126 rfl ?_
                  cases hr
                  exact Ev.zret1 rfl at_130
                · replace hr := (if_neg c24).symm.trans hr
                  refine Ev.iconst (z := 0) at_129 rfl ?_
                  cases hr
                  exact Ev.zret0 rfl at_130
              · replace hr := (if_neg c23).symm.trans hr
                refine Ev.iconst (z := 0) at_129 rfl ?_
                cases hr
                exact Ev.zret0 rfl at_130
            · replace hr := (if_neg c22).symm.trans hr
              refine Ev.iconst (z := 0) at_129 rfl ?_
              cases hr
              exact Ev.zret0 rfl at_130
          · replace hr := (if_neg c21).symm.trans hr
            refine Ev.iconst (z := 0) at_129 rfl ?_
            cases hr
            exact Ev.zret0 rfl at_130
        · replace hr := (if_neg c20).symm.trans hr
          refine Ev.iloadN at_76 rfl ?_
          refine Ev.ifne (t := 102) at_77 rfl (fun c25 => ?_) (fun c25 => ?_)
          · replace hr := (if_pos c25).symm.trans hr
            refine Ev.iload at_80 rfl ?_
            refine Ev.iconst (z := 1) at_82 rfl ?_
            refine Ev.icne (t := 102) at_83 rfl (fun c26 => ?_) (fun c26 => ?_)
            · replace hr := (if_pos c26).symm.trans hr
              refine Ev.iload at_86 rfl ?_
              refine Ev.iloadN at_88 rfl ?_
              refine Ev.icne (t := 102) at_89 rfl (fun c27 => ?_) (fun c27 => ?_)
              · replace hr := (if_pos c27).symm.trans hr
                refine Ev.iload at_92 rfl ?_
                refine Ev.iconst (z := -1) at_94 rfl ?_
                refine Ev.icne (t := 102) at_95 rfl (fun c28 => ?_) (fun c28 => ?_)
                · replace hr := (if_pos c28).symm.trans hr
                  refine Ev.iconst (z := 1) at_98 rfl ?_
                  refine Ev.goto (t := 103) at_99 rfl ?_
                  cases hr
                  exact Ev.zret1 rfl at_103
                · replace hr := (if_neg c28).symm.trans hr
                  refine Ev.iconst (z := 0) at_102 rfl ?_
                  cases hr
                  exact Ev.zret0 rfl at_103
              · replace hr := (if_neg c27).symm.trans hr
                refine Ev.iconst (z := 0) at_102 rfl ?_
                cases hr
                exact Ev.zret0 rfl at_103
            · replace hr := (if_neg c26).symm.trans hr
              refine Ev.iconst (z := 0) at_102 rfl ?_
              cases hr
              exact Ev.zret0 rfl at_103
          · replace hr := (if_neg c25).symm.trans hr
            refine Ev.iconst (z := 0) at_102 rfl ?_
            cases hr
            exact Ev.zret0 rfl at_103
      · replace hr := (if_neg c17).symm.trans hr
        refine Ev.iconst (z := 0) at_67 rfl ?_
        cases hr
        exact Ev.zret0 rfl at_68
    · replace hr := (if_neg c6).symm.trans hr
      refine Ev.iconst (z := 0) at_27 rfl ?_
      cases hr
      exact Ev.zret0 rfl at_28
  · replace hr := (if_neg c3).symm.trans hr
    refine Ev.iconst (z := 0) at_18 rfl ?_
    cases hr
    exact Ev.zret0 rfl at_19
def f_law (n : Nat) (a0 : Int32) (a1 : Int32) : Option (Int32 × St) :=
  (f_ctor a0).bind fun q1 =>
  f_law_8 n a1 q1
set_option maxRecDepth 100000 in
theorem e_law {g : GT} {n : Nat} {a0 : Int32} {a1 : Int32} {w : Int32 × St} (hw : HW g) (hk : k0 (GG g) ≤ (H0).length) (hr : f_law n a0 a1 = some w) : EvC (GG g) M_law [.int a0, .int a1] H0 ((some (.int w.1)), (KL w.2)) := by
  refine EvC.enter (L0 := [.val (.int a0), .val (.int a1), .unset, .unset, .unset, .unset, .unset, .unset]) pl_law (fun h => nomatch h) rfl rfl ?_
  unfold f_law at hr
  refine Ev.new (gok hw) (ww hw 0 rfl) at_0 (fs := dfl) rfl ?_
  refine Ev.dup at_3 rfl ?_
  refine Ev.iloadN at_4 rfl ?_
  obtain ⟨q1, hq2, hr⟩ := Option.bind_eq_some_iff.mp hr
  refine Ev.ctor (y := M_ctor) (args := [.int a0]) (rest := [.ref (H0).length]) rfl rfl nm_ctor (ww hw 3 rfl) (ww hw 4 rfl) (ww hw 5 rfl) (ww hw 2 rfl) (lenOf pd_ctor rfl) at_5 (e_ctor hw hk hq2) (by decide) (Nat.le_of_ble_eq_true rfl) rfl ?_
  exact e_law_8 hw (K := KL) (o := (H0).length) (r := rA (H0).length al) (view_of hk al_ok al_nd)  a1 q1 (.val (.int a0)) rfl .unset rfl .unset rfl .unset rfl .unset rfl .unset rfl .unset rfl _ hr
theorem fin_len (w : St) : (KL w).length - H0.length ≤ 48 := by
  have q : al.length = 17 := rfl
  unfold KL; rw [KH_len]; simp only [List.length_nil]; omega
theorem fin_hsl (w : St) : hsl 78 (KL w) - hsl 78 H0 ≤ 9280 := by
  have q : (al.map fun q => Ln q.1).sum = 4512 := by decide +kernel
  have z : hsl 78 [] = 0 := rfl
  unfold KL; rw [hsl_KH, q, z]; omega
set_option maxRecDepth 100000 in
theorem comes_1 (plain : ∀ i0 i1 : Int32, ∃ n w, f_law n i0 i1 = some (1, w)) {Post : Tables → Env → Array Value → State → Outcome → State → Prop} (hpost : ∀ tb e args s v u, (limb_1_1.after args s (.returned v) u = true ∧ limb_1_2.after args s (.returned v) u = true ∧ True) → FrameEnd s (.returned v) u (Jvm.fieldLocs frame_1_writes args s ++ Jvm.arrayLocs frame_1_arrays args s ++ Jvm.staticLocs frame_1_statics s) 48 9280 → Post tb e args s (.returned v) u) :
    ArmFor flags0 classFile x code maxLocals ret World_1 tables_1 room_1 Calls_1 rest_1 Pre_1 Post := by
  intro l hfl _ _ p e ha hc hk s m args below hf hA hF happ hP
  obtain ⟨hcalls, hrest, hpre⟩ := hP
  obtain ⟨-, -, -, hnamed, -, -, -, hat⟩ := (Spec.applies_iff hf).mp happ
  obtain ⟨hg, hn⟩ := and_e (Cond.before_iff.mp (show (Jvm.Cond.and given_1 narrow_1).before args s = true from hpre))
  obtain ⟨g0, hg⟩ := and_e hg
  obtain ⟨g1, hg⟩ := and_e hg
  obtain ⟨w0, w1, rfl⟩ : ∃ w0 w1 : Value, args = #[w0, w1] := by
    have hs : args.size = 2 := by simpa [Cond.value, given_1] using g0
    obtain ⟨L⟩ := args
    match L, hs with
    | [w0, w1], _ => exact ⟨w0, w1, rfl⟩
  have hw := fun d (hd : d ∈ tables_1) => atoms_spec (ws := Jvm.Cond.code x code maxLocals ret :: tables_1) hat d (List.mem_cons_of_mem _ hd)
  obtain ⟨i0, ei0⟩ := is_v g1
  obtain rfl : w0 = (.int i0) := Option.some.inj ei0
  obtain ⟨i1, ei1⟩ := is_v hg
  obtain rfl : w1 = (.int i1) := Option.some.inj ei1
  obtain ⟨n, w, hr⟩ := plain i0 i1
  have hE := e_law (g := (s, _, l, none, s.heap.size)) hw (Nat.le_refl _) hr
  obtain ⟨n, o, h1, h2, h3, _, L, rfl, ⟨rfl, N, -⟩, hq⟩ := hE.2 tables_1 room_1 s.heap (by decide) (by decide) (fin_len w) (fin_hsl w) ⟨rfl, Nat.le_refl _, fun a q => (nomatch q), fun i c q => by simp [H0] at q⟩ p e ha hc hk s m _ below hf ((Spec.applies_iff_loose hf).mp happ).1 ⟨rfl, State.Warmed39.refl s, rfl⟩ trivial
  exact ⟨n, _, h1, h2, h3, hpost _ _ _ _ _ _ ⟨Cond.after_iff.mpr rfl, Cond.after_iff.mpr (eq_i res_at (Term.int_eval (1)) rfl), trivial⟩ ⟨hq.1, hq.2.1, (hq.2.2.sift fun y hy => Or.inr (N y hy)).mono (fin_len w) (fin_hsl w)⟩⟩
theorem u_doParse_51 (n : Nat) (k : Nat) (x1 : Int32) (s : St) : f_doParse_51 n (k + 1) x1 s =
    (if x1 < (40000 : Int32) then
      if (s.1 69) = 0 then
        if (s.1 70) = 0 then
          if 0 < (s.1 62) then
            bnd (setI s 62 ((s.1 62) - (1 : Int32))) fun s5 =>
            grd (inb (s5.1 62) 1024) <|
            (f_step (s5.2 50 (ix (s5.1 62))) (s5.2 51 (ix (s5.1 62))) s5).bind fun q7 =>
            f_doParse_51 n k (x1 + (1 : Int32)) q7
          else
            bnd (setI s 69 ((1 : Int32) &&& 1)) fun s9 =>
            f_doParse_128 n s9
        else
          f_doParse_128 n s
      else
        f_doParse_128 n s
    else
      f_doParse_128 n s) := rfl
/-! ### the plain law -/
theorem own_ctor (c : Int32) : ∃ s, f_ctor c = some s ∧ s.1 57 = 0 ∧ (0 : Int32) < s.1 56 := by
  unfold f_ctor f_ctor_370
  split
  · exact ⟨_, rfl, rfl, show (0 : Int32) < 8 by decide⟩
  · rename_i q
    unfold f_ctor_381
    split
    · exact ⟨_, rfl, rfl, show (0 : Int32) < 128 by decide⟩
    · refine ⟨_, rfl, rfl, ?_⟩
      show (0 : Int32) < c
      rw [lt_I] at q ⊢
      have e8 : (8 : Int32).toInt = 8 := rfl
      have e0 : (0 : Int32).toInt = 0 := rfl
      omega
theorem own_push (a0 a1 : Int32) {s : St} {T : Nat} (e : s.1 62 = Int32.ofNat T) (hT : T < 1024) :
    ∃ s', f_push a0 a1 s = some s' ∧ s'.1 62 = Int32.ofNat (T + 1) ∧ (∀ j, j ≠ 62 → s'.1 j = s.1 j) ∧ s'.2 50 T = a0 ∧ s'.2 51 T = a1 := by
  have hb : inb (s.1 62) 1024 := by rw [e]; exact inbN hT (by omega)
  have hi : ix (s.1 62) = T := by rw [e]; exact ix_N (by omega)
  unfold f_push
  rw [if_pos (show s.1 62 < 1024 by rw [e]; exact ltZ (z := 1024) 1024 rfl hT (by omega)), grd_pos hb]
  simp only [bnd_eq]
  rw [grd_pos (show inb ((setA s 50 (ix (s.1 62)) a0).1 62) 1024 from hb)]
  refine ⟨_, rfl, ?_, fun j hj => ?_, ?_, ?_⟩
  · show s.1 62 + 1 = _
    rw [e, N_succ]
  · simp [setI_1, setA_1, hj]
  · simp [setI_2, setA_2, setA_1, hi]
  · simp [setI_2, setA_2, setA_1, hi]
theorem own_pp {s : St} (e : s.1 62 = Int32.ofNat 0) : ∃ s', f_pushProgram s = some s' ∧ s'.1 62 = Int32.ofNat 13 ∧ (∀ j, j ≠ 62 → s'.1 j = s.1 j) ∧ s'.2 50 12 = 14 ∧ s'.2 51 12 = 80 := by
  obtain ⟨s1, e1, t1, p1, -, -⟩ := own_push 15 0 e (by omega)
  obtain ⟨s2, e2, t2, p2, -, -⟩ := own_push 17 0 t1 (by omega)
  obtain ⟨s3, e3, t3, p3, -, -⟩ := own_push 1 0 t2 (by omega)
  obtain ⟨s4, e4, t4, p4, -, -⟩ := own_push 16 1 t3 (by omega)
  obtain ⟨s5, e5, t5, p5, -, -⟩ := own_push 14 81 t4 (by omega)
  obtain ⟨s6, e6, t6, p6, -, -⟩ := own_push 19 0 t5 (by omega)
  obtain ⟨s7, e7, t7, p7, -, -⟩ := own_push 12 0 t6 (by omega)
  obtain ⟨s8, e8, t8, p8, -, -⟩ := own_push 18 0 t7 (by omega)
  obtain ⟨s9, e9, t9, p9, -, -⟩ := own_push 14 59 t8 (by omega)
  obtain ⟨s10, e10, t10, p10, -, -⟩ := own_push 17 0 t9 (by omega)
  obtain ⟨s11, e11, t11, p11, -, -⟩ := own_push 1 0 t10 (by omega)
  obtain ⟨s12, e12, t12, p12, -, -⟩ := own_push 16 0 t11 (by omega)
  obtain ⟨s13, e13, t13, p13, c13, d13⟩ := own_push 14 80 t12 (by omega)
  refine ⟨s13, ?_, t13, fun j hj => ?_, c13, d13⟩
  · simp only [f_pushProgram, e1, e2, e3, e4, e5, e6, e7, e8, e9, e10, e11, e12, e13, Option.bind_some]
  · rw [p13 j hj, p12 j hj, p11 j hj, p10 j hj, p9 j hj, p8 j hj, p7 j hj, p6 j hj, p5 j hj, p4 j hj, p3 j hj, p2 j hj, p1 j hj]
theorem own_dp (n : Nat) {s : St} (h57 : s.1 57 = 0) : ∃ s', f_doParse (n + 2) s = some (0, s') ∧ s'.1 68 = 0 ∧ s'.1 57 = 0 ∧ s'.1 58 = s.1 58 ∧ s'.1 56 = s.1 56 := by
  obtain ⟨t, e, t62, tp, c, d⟩ := own_pp (s := setI (setI (setI (setI (setI (setI (setI (setI (setI s 62 0) 63 0) 64 0) 65 0) 66 0) 67 (-1)) 68 0) 69 (0 &&& 1)) 70 (0 &&& 1)) (by simp [setI_1])
  have a68 : t.1 68 = 0 := by rw [tp _ (by decide)]; simp [setI_1]
  have a69 : t.1 69 = 0 := by rw [tp _ (by decide)]; simp [setI_1]
  have a70 : t.1 70 = 0 := by rw [tp _ (by decide)]; simp [setI_1]
  have a57 : t.1 57 = 0 := by rw [tp _ (by decide)]; simp [setI_1, h57]
  have a58 : t.1 58 = s.1 58 := by rw [tp _ (by decide)]; simp [setI_1]
  have a56 : t.1 56 = s.1 56 := by rw [tp _ (by decide)]; simp [setI_1]
  unfold f_doParse
  simp only [bnd_eq, e, Option.bind_some]
  rw [u_doParse_51, if_pos (by decide), if_pos a69, if_pos a70, t62, if_pos (by decide), bnd_eq]
  obtain ⟨u, hu⟩ : ∃ u, u = setI t 62 (Int32.ofNat 13 - 1) := ⟨_, rfl⟩
  rw [← hu]
  have u62 : u.1 62 = 12 := by rw [hu]; rfl
  have u68 : u.1 68 = 0 := by rw [hu]; simp [setI_1, a68]
  have u57 : u.1 57 = 0 := by rw [hu]; simp [setI_1, a57]
  have u70 : u.1 70 = 0 := by rw [hu]; simp [setI_1, a70]
  have u50 : u.2 50 12 = 14 := by rw [hu]; simp [setI_2, c]
  have u51 : u.2 51 12 = 80 := by rw [hu]; simp [setI_2, d]
  have u58 : u.1 58 = s.1 58 := by rw [hu]; simp [setI_1, a58]
  have u56 : u.1 56 = s.1 56 := by rw [hu]; simp [setI_1, a56]
  rw [u62, grd_pos (by decide), show ix (12 : Int32) = 12 from rfl, u50, u51]
  have st : f_step 14 80 u = some (setI u 69 (1 &&& 1)) := by
    simp [f_step, f_stepAction, f_la, u68, u57, bnd_eq]
  rw [st]
  simp only [Option.bind_some]
  rw [u_doParse_51, if_pos (by decide), if_neg (by simp [setI_1])]
  unfold f_doParse_128
  rw [if_pos (by simp [setI_1, u70])]
  exact ⟨_, rfl, by simp [setI_1, u68], by simp [setI_1, u57], by simp [setI_1, u58], by simp [setI_1, u56]⟩
theorem own_parse {s : St} (h57 : s.1 57 = 0) : ∃ s', f_parse 2 s = some (-3, s') ∧ s'.1 59 = 0 ∧ s'.1 57 = 0 ∧ s'.1 58 = 0 ∧ s'.1 56 = s.1 56 := by
  obtain ⟨t, e, p1, p2, p3, p4⟩ := own_dp 0 (s := setI (setI (setI (setI s 58 (0 &&& 1)) 59 (-1)) 60 (-1)) 61 (0 &&& 1)) (by simp [setI_1, h57])
  unfold f_parse f_clearResults
  simp only [bnd_eq, Option.bind_some]
  rw [show (2 : Nat) = 0 + 2 from rfl, e]
  simp only [Option.bind_some, if_true]
  refine ⟨_, rfl, ?_, ?_, ?_, ?_⟩
  · simp [setI_1, p1]
  · simp [setI_1, p2]
  · simp [setI_1, p3]
  · simp [setI_1, p4]
theorem own_itP {c : Prop} {d : Decidable c} {a b : Option Int32} (ha : ∃ v, a = some v ∧ (v = 0 ∨ v = 1)) (hb : ∃ v, b = some v ∧ (v = 0 ∨ v = 1)) : ∃ v, (if c then a else b) = some v ∧ (v = 0 ∨ v = 1) := by
  split
  · exact ha
  · exact hb
theorem own_p1 : ∃ v : Int32, some (1 : Int32) = some v ∧ (v = 0 ∨ v = 1) := ⟨1, rfl, Or.inr rfl⟩
theorem own_p0 : ∃ v : Int32, some (0 : Int32) = some v ∧ (v = 0 ∨ v = 1) := ⟨0, rfl, Or.inl rfl⟩
theorem own_acc (c : Int32) : ∃ v, f_haccepted c = some v ∧ (v = 0 ∨ v = 1) := by
  have e : ∃ v, f_haccepted_14 c = some v ∧ (v = 0 ∨ v = 1) := by
    unfold f_haccepted_14
    repeat (refine own_itP own_p1 ?_)
    exact own_p0
  unfold f_haccepted
  exact own_itP e (own_itP e own_p1)
theorem own_accEq (s : St) (c : Int32) : f_accepted s c = f_haccepted c := by
  by_cases h1 : c = 120
  · subst h1; simp [f_accepted, f_varIndex, f_haccepted, f_haccepted_14]
  by_cases h2 : c = 121
  · subst h2; simp [f_accepted, f_varIndex, f_haccepted, f_haccepted_14]
  by_cases h3 : c = 122
  · subst h3; simp [f_accepted, f_varIndex, f_haccepted, f_haccepted_14]
  have e : f_accepted_22 s c = f_haccepted_14 c := by
    unfold f_haccepted_14
    rw [if_neg h1, if_neg h2, if_neg h3]
    rfl
  unfold f_accepted f_varIndex f_haccepted
  rw [if_neg h1, if_neg h2, if_neg h3, e]
  rfl
theorem plain (m c : Int32) : ∃ n w, f_law n m c = some (1, w) := by
  obtain ⟨s, hs, h57, h56⟩ := own_ctor m
  obtain ⟨t, e, t59, t57, t58, t56⟩ := own_parse h57
  obtain ⟨v, ev, hv⟩ := own_acc c
  have ha := own_accEq t c
  rw [ev] at ha
  rw [← t56] at h56
  refine ⟨2, ?_⟩
  rcases hv with rfl | rfl
  · have k : f_addChar c t = some (-1, t) := by simp [f_addChar, ha]
    refine ⟨t, ?_⟩
    simp [f_law, f_law_8, hs, e, f_errorPosition, t59, k, f_length, f_charAt, f_vcCount, ev, t57, t58]
  · obtain ⟨X, k, x1, x2, x3, x4⟩ : ∃ X, f_addChar c t = some (0, X) ∧ X.1 57 = 1 ∧ X.2 39 0 = c ∧ X.1 59 = -1 ∧ X.1 58 = 0 := by
      unfold f_addChar
      rw [ha]
      simp only [Option.bind_some]
      rw [if_neg (by decide), t57, if_pos h56, grd_pos (by decide)]
      simp only [bnd_eq, f_clearResults, Option.bind_some]
      refine ⟨_, rfl, ?_, ?_, ?_, ?_⟩
      · simp [setI_1, setA_1, t57]
      · simp [setI_2, setA_2, show ix (0 : Int32) = 0 from rfl]
      · simp [setI_1]
      · simp [setI_1]
    refine ⟨X, ?_⟩
    have b0 : inb (0 : Int32) 128 := by decide
    have i0 : ix (0 : Int32) = 0 := rfl
    simp [f_law, f_law_8, hs, e, f_errorPosition, t59, k, f_length, f_charAt, f_vcCount, ev, x1, x2, x3, x4, grd_pos b0, i0]
theorem main_1_1 : Claimed_1_1 := comes_1 plain fun _ _ _ _ _ _ h hF => ⟨h.1, hF⟩
theorem main_1_2 : Claimed_1_2 := comes_1 plain fun _ _ _ _ _ _ h hF => ⟨h.2.1, hF⟩

end Jvm.Pilot.@@N@@
namespace Jvm.Pilot.@@N@@
open Jvm Jvm.ClassFile Sem Op Lib Jvm.Free Jvm.Stand Jvm.Pilot.@@N@@.Jvm.D
/-! MADE BY PROGRAM (witnessworld.py) out of the Statement's table words and the real class files: 9 classes; the members and pool entries that the words name. The judged class is class 1, her method 2. -/
namespace start1
open Jvm.ClassFile
def u (s : String) : CpInfo := .utf8 (stringToUtf16 s)
/-- a pool by its gaps: so many unusable entries, then the entry; so many at the end -/
def gap : Nat → List CpInfo → List CpInfo
  | 0, r => r
  | n + 1, r => .unusable :: gap n r
def poolList (es : List (Nat × CpInfo)) (last : Nat) : List CpInfo := es.foldr (fun e r => gap e.1 (e.2 :: r)) (gap last [])
def pool (es : List (Nat × CpInfo)) (last : Nat) : Array CpInfo := ⟨poolList es last⟩
def fileOf (pool : Array CpInfo) (this : Nat) (attrs : Array Attribute := #[]) (ms : Array MethodInfo := #[]) (fl : Nat := 33) (sup : Nat := 0) (ifs : Array Nat := #[]) (fds : Array FieldInfo := #[]) : ClassFile where
  minorVersion := 0
  majorVersion := 65
  constantPool := pool
  accessFlags := fl
  thisClass := this
  superClass := sup
  interfaces := ifs
  fields := fds
  methods := ms
  attributes := attrs
def plain (name : String) (sup : Option ClassId) : Class where
  name := name
  kind := .ordinary
  loader := none
  accessFlags := 33
  super := sup
  interfaces := #[]
  cf := none
  fields := #[]
  methods := #[]
  instanceTypes := #[]
  staticTypes := #[]
  resolved := #[]
  callSites := []
  init := .initialized
  statics := none
  mirror := none

def pool0 : Array CpInfo := pool [(5, u "<init>"), (0, u "()V"), (1, .class_ 10), (1, u "java/lang/Object")] 113

def k0c0 : Code := { maxStack := 0, maxLocals := 1, code := object_method_1_code, exceptionTable := #[], attributes := #[] }
def k0m0 : Method := { name := "<init>", desc := "()V", sig := { parameters := [], returnType := none }, accessFlags := 1, code := some k0c0 }
/-- java/lang/Object -/
def k0 : Class := { plain "java/lang/Object" none with
  accessFlags := 33
  interfaces := #[]
  cf := some (fileOf pool0 8 #[] #[{ accessFlags := 1, nameIndex := 5, descriptorIndex := 6, attributes := #[] }] 33 0 #[] #[])
  fields := #[]
  methods := #[k0m0]
  instanceTypes := #[]
  staticTypes := #[]
  resolved := Array.replicate 124 none
  statics := none }

def pool1 : Array CpInfo := pool [(2, .class_ 4), (1, u "java/lang/Object"), (0, u "<init>"), (0, u "()V"), (0, .class_ 8), (0, u "VcGenerator"), (0, .methodref 7 10), (0, .nameAndType 5 11), (0, u "(I)V"), (0, .methodref 7 13), (0, .nameAndType 14 15), (0, u "parse"), (0, u "()I"), (0, .methodref 7 17), (0, .nameAndType 18 15), (0, u "errorPosition"), (0, .methodref 7 20), (0, .nameAndType 21 22), (0, u "addChar"), (0, u "(I)I"), (0, .methodref 7 24), (0, .nameAndType 25 15), (0, u "length"), (0, .methodref 7 27), (0, .nameAndType 28 22), (0, u "charAt"), (0, .methodref 7 30), (0, .nameAndType 31 15), (0, u "vcCount"), (0, .methodref 33 34), (0, .class_ 35), (0, .nameAndType 36 37), (0, u "VcGeneratorL2"), (0, u "accepted"), (0, u "(I)Z"), (3, u "law"), (0, u "(II)Z")] 2

def k1m0 : Method := { name := "<init>", desc := "()V", sig := { parameters := [], returnType := none }, accessFlags := 1, code := none }
def k1c1 : Code := { maxStack := 2, maxLocals := 1, code := method_2_code, exceptionTable := #[], attributes := #[] }
def k1m1 : Method := { name := "accepted", desc := "(I)Z", sig := { parameters := [.int], returnType := some .boolean }, accessFlags := 10, code := some k1c1 }
def k1c2 : Code := { maxStack := 3, maxLocals := 8, code := code, exceptionTable := #[], attributes := #[] }
def k1m2 : Method := { name := "law", desc := "(II)Z", sig := { parameters := [.int, .int], returnType := some .boolean }, accessFlags := 9, code := some k1c2 }
/-- VcGeneratorL2 -/
def k1 : Class := { plain "VcGeneratorL2" (some 0) with
  accessFlags := 49
  interfaces := #[]
  cf := some (fileOf pool1 33 #[] #[{ accessFlags := 1, nameIndex := 5, descriptorIndex := 6, attributes := #[] }, { accessFlags := 10, nameIndex := 36, descriptorIndex := 37, attributes := #[] }, { accessFlags := 9, nameIndex := 41, descriptorIndex := 42, attributes := #[] }] 49 2 #[] #[])
  fields := #[]
  methods := #[k1m0, k1m1, k1m2]
  instanceTypes := #[]
  staticTypes := #[]
  resolved := Array.replicate 45 none
  statics := none }

def pool2 : Array CpInfo := pool [(1, .methodref 2 3), (0, .class_ 4), (0, .nameAndType 5 6), (0, u "java/lang/Object"), (0, u "<init>"), (0, u "()V"), (0, .fieldref 8 9), (0, .class_ 10), (0, .nameAndType 11 12), (0, u "VcGenerator"), (0, u "OP_END"), (0, u "I"), (0, .fieldref 8 14), (0, .nameAndType 15 12), (0, u "OP_VAR"), (0, .fieldref 8 17), (0, .nameAndType 18 12), (0, u "OP_CONST"), (0, .fieldref 8 20), (0, .nameAndType 21 12), (0, u "OP_ADD"), (0, .fieldref 8 23), (0, .nameAndType 24 12), (0, u "OP_SUB"), (0, .fieldref 8 26), (0, .nameAndType 27 12), (0, u "OP_MUL"), (0, .fieldref 8 29), (0, .nameAndType 30 12), (0, u "OP_LT"), (0, .fieldref 8 32), (0, .nameAndType 33 12), (0, u "OP_EQ"), (0, .fieldref 8 35), (0, .nameAndType 36 12), (0, u "OP_TRUE"), (0, .fieldref 8 38), (0, .nameAndType 39 12), (0, u "OP_FALSE"), (0, .fieldref 8 41), (0, .nameAndType 42 12), (0, u "OP_NOT"), (0, .fieldref 8 44), (0, .nameAndType 45 12), (0, u "OP_AND"), (0, .fieldref 8 47), (0, .nameAndType 48 12), (0, u "OP_OR"), (0, .fieldref 8 50), (0, .nameAndType 51 12), (0, u "S_ASSIGN"), (0, .fieldref 8 53), (0, .nameAndType 54 12), (0, u "S_IF"), (0, .fieldref 8 56), (0, .nameAndType 57 12), (0, u "S_WHILE"), (0, .fieldref 8 59), (0, .nameAndType 60 12), (0, u "T_FORM"), (0, .fieldref 8 62), (0, .nameAndType 63 12), (0, u "T_FORM_REST"), (0, .fieldref 8 65), (0, .nameAndType 66 12), (0, u "T_CONJ"), (0, .fieldref 8 68), (0, .nameAndType 69 12), (0, u "T_CONJ_REST"), (0, .fieldref 8 71), (0, .nameAndType 72 12), (0, u "T_LIT"), (0, .fieldref 8 74), (0, .nameAndType 75 12), (0, u "T_REL"), (0, .fieldref 8 77), (0, .nameAndType 78 12), (0, u "T_EXPR"), (0, .fieldref 8 80), (0, .nameAndType 81 12), (0, u "T_EXPR_REST"), (0, .fieldref 8 83), (0, .nameAndType 84 12), (0, u "T_TERM"), (0, .fieldref 8 86), (0, .nameAndType 87 12), (0, u "T_TERM_REST"), (0, .fieldref 8 89), (0, .nameAndType 90 12), (0, u "T_ATOM"), (0, .fieldref 8 92), (0, .nameAndType 93 12), (0, u "T_STMTS"), (0, .fieldref 8 95), (0, .nameAndType 96 12), (0, u "T_STMT"), (0, .fieldref 8 98), (0, .nameAndType 99 12), (0, u "K_EXPECT"), (0, .fieldref 8 101), (0, .nameAndType 102 12), (0, u "K_END"), (0, .fieldref 8 104), (0, .nameAndType 105 12), (0, u "K_BEGIN"), (0, .fieldref 8 107), (0, .nameAndType 108 12), (0, u "K_EMIT"), (0, .fieldref 8 110), (0, .nameAndType 111 12), (0, u "K_OPEN"), (0, .fieldref 8 113), (0, .nameAndType 114 12), (0, u "K_CLOSE"), (0, .fieldref 8 116), (0, .nameAndType 117 12), (0, u "MAX_ST"), (0, .fieldref 8 119), (0, .nameAndType 120 12), (0, u "MAX_IDS"), (0, .fieldref 8 122), (0, .nameAndType 123 12), (0, u "MAX_CODE"), (0, .fieldref 8 125), (0, .nameAndType 126 12), (0, u "MAX_TASKS"), (0, .fieldref 8 128), (0, .nameAndType 129 130), (0, u "buf"), (0, u "[I"), (0, .fieldref 8 132), (0, .nameAndType 133 130), (0, u "codeOp"), (0, .fieldref 8 135), (0, .nameAndType 136 130), (0, u "codeArg"), (0, .fieldref 8 138), (0, .nameAndType 139 130), (0, u "fStart"), (0, .fieldref 8 141), (0, .nameAndType 142 130), (0, u "stKind"), (0, .fieldref 8 144), (0, .nameAndType 145 130), (0, u "stVar"), (0, .fieldref 8 147), (0, .nameAndType 148 130), (0, u "stFirstA"), (0, .fieldref 8 150), (0, .nameAndType 151 130), (0, u "stFirstB"), (0, .fieldref 8 153), (0, .nameAndType 154 130), (0, u "stNext"), (0, .fieldref 8 156), (0, .nameAndType 157 130), (0, u "stParent"), (0, .fieldref 8 159), (0, .nameAndType 160 130), (0, u "loopStmt"), (0, .fieldref 8 162), (0, .nameAndType 163 130), (0, u "tkCode"), (0, .fieldref 8 165), (0, .nameAndType 166 130), (0, u "tkArg"), (0, .fieldref 8 168), (0, .nameAndType 169 130), (0, u "lsParent"), (0, .fieldref 8 171), (0, .nameAndType 172 130), (0, u "lsWhich"), (0, .fieldref 8 174), (0, .nameAndType 175 130), (0, u "lsLast"), (0, .fieldref 8 177), (0, .nameAndType 178 130), (0, u "vStack"), (0, .fieldref 8 180), (0, .nameAndType 181 12), (0, u "cap"), (0, .fieldref 8 183), (0, .nameAndType 184 12), (0, u "len"), (0, .methodref 8 186), (0, .nameAndType 187 6), (0, u "clearResults"), (0, .methodref 8 189), (0, .nameAndType 190 191), (0, u "accepted"), (0, u "(I)Z"), (0, .methodref 8 193), (0, .nameAndType 194 195), (0, u "doParse"), (0, u "()Z"), (0, .fieldref 8 197), (0, .nameAndType 198 199), (0, u "parsed"), (0, u "Z"), (0, .fieldref 8 201), (0, .nameAndType 202 12), (0, u "pPos"), (0, .fieldref 8 204), (0, .nameAndType 205 12), (0, u "errPos"), (0, .fieldref 8 207), (0, .nameAndType 208 12), (0, u "loopCount"), (4, .fieldref 8 214), (0, .nameAndType 215 12), (0, u "cex"), (5, u "wx"), (2, u "wy"), (2, u "wz"), (0, .fieldref 8 229), (0, .nameAndType 230 12), (0, u "mainFirst"), (3, u "(I)I"), (0, .fieldref 8 236), (0, .nameAndType 237 199), (0, u "hasRun"), (2, u "runX"), (2, u "runY"), (2, u "runZ"), (2, u "runSteps"), (0, .methodref 8 251), (0, .nameAndType 252 234), (0, u "varIndex"), (0, .fieldref 8 254), (0, .nameAndType 255 12), (0, u "tkTop"), (0, .fieldref 8 257), (0, .nameAndType 258 12), (0, u "codeLen"), (0, .fieldref 8 260), (0, .nameAndType 261 12), (0, u "stCount"), (0, .fieldref 8 263), (0, .nameAndType 264 12), (0, u "lsTop"), (0, .fieldref 8 266), (0, .nameAndType 267 199), (0, u "pFail"), (0, .fieldref 8 269), (0, .nameAndType 270 199), (0, u "pDone"), (0, .methodref 8 272), (0, .nameAndType 273 6), (0, u "pushProgram"), (0, .integer 40000), (0, .methodref 8 276), (0, .nameAndType 277 278), (0, u "step"), (0, u "(II)V"), (0, .methodref 8 280), (0, .nameAndType 281 278), (0, u "push"), (3, u "(I)V"), (6, .methodref 8 293), (0, .nameAndType 294 278), (0, u "stepAction"), (0, .methodref 8 296), (0, .nameAndType 297 298), (0, u "la"), (0, u "()I"), (55, u "OK"), (2, u "BAD_CHAR"), (1, u "FULL"), (1, u "SYNTAX_ERROR"), (1, u "NOT_PARSED"), (1, u "NO_SUCH"), (1, u "VALID"), (1, u "INVALID"), (1, u "HALTED"), (1, u "OUT_OF_FUEL"), (1, u "PRE"), (0, u "POST"), (0, u "VAR_X"), (0, u "VAR_Y"), (0, u "VAR_Z"), (22, u "addChar"), (1, u "length"), (0, u "charAt"), (0, u "parse"), (0, u "errorPosition"), (0, u "vcCount")] 10

def k2c0 : Code := { maxStack := 2, maxLocals := 3, code := prog_1_method_1_code, exceptionTable := #[], attributes := #[] }
def k2m0 : Method := { name := "<init>", desc := "(I)V", sig := { parameters := [.int], returnType := none }, accessFlags := 1, code := some k2c0 }
def k2c1 : Code := { maxStack := 3, maxLocals := 2, code := prog_1_method_2_code, exceptionTable := #[], attributes := #[] }
def k2m1 : Method := { name := "addChar", desc := "(I)I", sig := { parameters := [.int], returnType := some .int }, accessFlags := 1, code := some k2c1 }
def k2c2 : Code := { maxStack := 1, maxLocals := 1, code := prog_1_method_4_code, exceptionTable := #[], attributes := #[] }
def k2m2 : Method := { name := "length", desc := "()I", sig := { parameters := [], returnType := some .int }, accessFlags := 1, code := some k2c2 }
def k2c3 : Code := { maxStack := 2, maxLocals := 2, code := prog_1_method_5_code, exceptionTable := #[], attributes := #[] }
def k2m3 : Method := { name := "charAt", desc := "(I)I", sig := { parameters := [.int], returnType := some .int }, accessFlags := 1, code := some k2c3 }
def k2c4 : Code := { maxStack := 2, maxLocals := 2, code := prog_1_method_6_code, exceptionTable := #[], attributes := #[] }
def k2m4 : Method := { name := "parse", desc := "()I", sig := { parameters := [], returnType := some .int }, accessFlags := 1, code := some k2c4 }
def k2c5 : Code := { maxStack := 1, maxLocals := 1, code := prog_1_method_7_code, exceptionTable := #[], attributes := #[] }
def k2m5 : Method := { name := "errorPosition", desc := "()I", sig := { parameters := [], returnType := some .int }, accessFlags := 1, code := some k2c5 }
def k2c6 : Code := { maxStack := 3, maxLocals := 1, code := prog_1_method_8_code, exceptionTable := #[], attributes := #[] }
def k2m6 : Method := { name := "vcCount", desc := "()I", sig := { parameters := [], returnType := some .int }, accessFlags := 1, code := some k2c6 }
def k2c7 : Code := { maxStack := 2, maxLocals := 1, code := prog_1_method_16_code, exceptionTable := #[], attributes := #[] }
def k2m7 : Method := { name := "clearResults", desc := "()V", sig := { parameters := [], returnType := none }, accessFlags := 2, code := some k2c7 }
def k2c8 : Code := { maxStack := 2, maxLocals := 2, code := prog_1_method_17_code, exceptionTable := #[], attributes := #[] }
def k2m8 : Method := { name := "varIndex", desc := "(I)I", sig := { parameters := [.int], returnType := some .int }, accessFlags := 2, code := some k2c8 }
def k2c9 : Code := { maxStack := 2, maxLocals := 2, code := prog_1_method_18_code, exceptionTable := #[], attributes := #[] }
def k2m9 : Method := { name := "accepted", desc := "(I)Z", sig := { parameters := [.int], returnType := some .boolean }, accessFlags := 2, code := some k2c9 }
def k2c10 : Code := { maxStack := 4, maxLocals := 2, code := prog_1_method_21_code, exceptionTable := #[], attributes := #[] }
def k2m10 : Method := { name := "doParse", desc := "()Z", sig := { parameters := [], returnType := some .boolean }, accessFlags := 2, code := some k2c10 }
def k2c11 : Code := { maxStack := 3, maxLocals := 1, code := prog_1_method_22_code, exceptionTable := #[], attributes := #[] }
def k2m11 : Method := { name := "pushProgram", desc := "()V", sig := { parameters := [], returnType := none }, accessFlags := 2, code := some k2c11 }
def k2c12 : Code := { maxStack := 2, maxLocals := 1, code := prog_1_method_23_code, exceptionTable := #[], attributes := #[] }
def k2m12 : Method := { name := "la", desc := "()I", sig := { parameters := [], returnType := some .int }, accessFlags := 2, code := some k2c12 }
def k2c13 : Code := { maxStack := 3, maxLocals := 3, code := prog_1_method_24_code, exceptionTable := #[], attributes := #[] }
def k2m13 : Method := { name := "push", desc := "(II)V", sig := { parameters := [.int, .int], returnType := none }, accessFlags := 2, code := some k2c13 }
def k2c14 : Code := { maxStack := 3, maxLocals := 3, code := prog_1_method_26_code, exceptionTable := #[], attributes := #[] }
def k2m14 : Method := { name := "step", desc := "(II)V", sig := { parameters := [.int, .int], returnType := none }, accessFlags := 2, code := some k2c14 }
def k2c15 : Code := { maxStack := 3, maxLocals := 3, code := prog_1_method_37_code, exceptionTable := #[], attributes := #[] }
def k2m15 : Method := { name := "stepAction", desc := "(II)V", sig := { parameters := [.int, .int], returnType := none }, accessFlags := 2, code := some k2c15 }
/-- VcGenerator -/
def k2 : Class := { plain "VcGenerator" (some 0) with
  accessFlags := 49
  interfaces := #[]
  cf := some (fileOf pool2 8 #[] #[{ accessFlags := 1, nameIndex := 5, descriptorIndex := 285, attributes := #[] }, { accessFlags := 1, nameIndex := 402, descriptorIndex := 234, attributes := #[] }, { accessFlags := 1, nameIndex := 404, descriptorIndex := 298, attributes := #[] }, { accessFlags := 1, nameIndex := 405, descriptorIndex := 234, attributes := #[] }, { accessFlags := 1, nameIndex := 406, descriptorIndex := 298, attributes := #[] }, { accessFlags := 1, nameIndex := 407, descriptorIndex := 298, attributes := #[] }, { accessFlags := 1, nameIndex := 408, descriptorIndex := 298, attributes := #[] }, { accessFlags := 2, nameIndex := 187, descriptorIndex := 6, attributes := #[] }, { accessFlags := 2, nameIndex := 252, descriptorIndex := 234, attributes := #[] }, { accessFlags := 2, nameIndex := 190, descriptorIndex := 191, attributes := #[] }, { accessFlags := 2, nameIndex := 194, descriptorIndex := 195, attributes := #[] }, { accessFlags := 2, nameIndex := 273, descriptorIndex := 6, attributes := #[] }, { accessFlags := 2, nameIndex := 297, descriptorIndex := 298, attributes := #[] }, { accessFlags := 2, nameIndex := 281, descriptorIndex := 278, attributes := #[] }, { accessFlags := 2, nameIndex := 277, descriptorIndex := 278, attributes := #[] }, { accessFlags := 2, nameIndex := 294, descriptorIndex := 278, attributes := #[] }] 49 2 #[] #[{ accessFlags := 25, nameIndex := 354, descriptorIndex := 12, attributes := #[] }, { accessFlags := 25, nameIndex := 357, descriptorIndex := 12, attributes := #[] }, { accessFlags := 25, nameIndex := 359, descriptorIndex := 12, attributes := #[] }, { accessFlags := 25, nameIndex := 361, descriptorIndex := 12, attributes := #[] }, { accessFlags := 25, nameIndex := 363, descriptorIndex := 12, attributes := #[] }, { accessFlags := 25, nameIndex := 365, descriptorIndex := 12, attributes := #[] }, { accessFlags := 25, nameIndex := 367, descriptorIndex := 12, attributes := #[] }, { accessFlags := 25, nameIndex := 369, descriptorIndex := 12, attributes := #[] }, { accessFlags := 25, nameIndex := 371, descriptorIndex := 12, attributes := #[] }, { accessFlags := 25, nameIndex := 373, descriptorIndex := 12, attributes := #[] }, { accessFlags := 25, nameIndex := 375, descriptorIndex := 12, attributes := #[] }, { accessFlags := 25, nameIndex := 376, descriptorIndex := 12, attributes := #[] }, { accessFlags := 25, nameIndex := 377, descriptorIndex := 12, attributes := #[] }, { accessFlags := 25, nameIndex := 378, descriptorIndex := 12, attributes := #[] }, { accessFlags := 25, nameIndex := 379, descriptorIndex := 12, attributes := #[] }, { accessFlags := 18, nameIndex := 11, descriptorIndex := 12, attributes := #[] }, { accessFlags := 18, nameIndex := 15, descriptorIndex := 12, attributes := #[] }, { accessFlags := 18, nameIndex := 18, descriptorIndex := 12, attributes := #[] }, { accessFlags := 18, nameIndex := 21, descriptorIndex := 12, attributes := #[] }, { accessFlags := 18, nameIndex := 24, descriptorIndex := 12, attributes := #[] }, { accessFlags := 18, nameIndex := 27, descriptorIndex := 12, attributes := #[] }, { accessFlags := 18, nameIndex := 30, descriptorIndex := 12, attributes := #[] }, { accessFlags := 18, nameIndex := 33, descriptorIndex := 12, attributes := #[] }, { accessFlags := 18, nameIndex := 36, descriptorIndex := 12, attributes := #[] }, { accessFlags := 18, nameIndex := 39, descriptorIndex := 12, attributes := #[] }, { accessFlags := 18, nameIndex := 42, descriptorIndex := 12, attributes := #[] }, { accessFlags := 18, nameIndex := 45, descriptorIndex := 12, attributes := #[] }, { accessFlags := 18, nameIndex := 48, descriptorIndex := 12, attributes := #[] }, { accessFlags := 18, nameIndex := 51, descriptorIndex := 12, attributes := #[] }, { accessFlags := 18, nameIndex := 54, descriptorIndex := 12, attributes := #[] }, { accessFlags := 18, nameIndex := 57, descriptorIndex := 12, attributes := #[] }, { accessFlags := 18, nameIndex := 60, descriptorIndex := 12, attributes := #[] }, { accessFlags := 18, nameIndex := 63, descriptorIndex := 12, attributes := #[] }, { accessFlags := 18, nameIndex := 66, descriptorIndex := 12, attributes := #[] }, { accessFlags := 18, nameIndex := 69, descriptorIndex := 12, attributes := #[] }, { accessFlags := 18, nameIndex := 72, descriptorIndex := 12, attributes := #[] }, { accessFlags := 18, nameIndex := 75, descriptorIndex := 12, attributes := #[] }, { accessFlags := 18, nameIndex := 78, descriptorIndex := 12, attributes := #[] }, { accessFlags := 18, nameIndex := 81, descriptorIndex := 12, attributes := #[] }, { accessFlags := 18, nameIndex := 84, descriptorIndex := 12, attributes := #[] }, { accessFlags := 18, nameIndex := 87, descriptorIndex := 12, attributes := #[] }, { accessFlags := 18, nameIndex := 90, descriptorIndex := 12, attributes := #[] }, { accessFlags := 18, nameIndex := 93, descriptorIndex := 12, attributes := #[] }, { accessFlags := 18, nameIndex := 96, descriptorIndex := 12, attributes := #[] }, { accessFlags := 18, nameIndex := 99, descriptorIndex := 12, attributes := #[] }, { accessFlags := 18, nameIndex := 102, descriptorIndex := 12, attributes := #[] }, { accessFlags := 18, nameIndex := 105, descriptorIndex := 12, attributes := #[] }, { accessFlags := 18, nameIndex := 108, descriptorIndex := 12, attributes := #[] }, { accessFlags := 18, nameIndex := 111, descriptorIndex := 12, attributes := #[] }, { accessFlags := 18, nameIndex := 114, descriptorIndex := 12, attributes := #[] }, { accessFlags := 18, nameIndex := 117, descriptorIndex := 12, attributes := #[] }, { accessFlags := 18, nameIndex := 120, descriptorIndex := 12, attributes := #[] }, { accessFlags := 18, nameIndex := 123, descriptorIndex := 12, attributes := #[] }, { accessFlags := 18, nameIndex := 126, descriptorIndex := 12, attributes := #[] }, { accessFlags := 18, nameIndex := 129, descriptorIndex := 130, attributes := #[] }, { accessFlags := 2, nameIndex := 181, descriptorIndex := 12, attributes := #[] }, { accessFlags := 2, nameIndex := 184, descriptorIndex := 12, attributes := #[] }, { accessFlags := 2, nameIndex := 198, descriptorIndex := 199, attributes := #[] }, { accessFlags := 2, nameIndex := 205, descriptorIndex := 12, attributes := #[] }, { accessFlags := 2, nameIndex := 215, descriptorIndex := 12, attributes := #[] }, { accessFlags := 2, nameIndex := 237, descriptorIndex := 199, attributes := #[] }, { accessFlags := 2, nameIndex := 240, descriptorIndex := 12, attributes := #[] }, { accessFlags := 2, nameIndex := 243, descriptorIndex := 12, attributes := #[] }, { accessFlags := 2, nameIndex := 246, descriptorIndex := 12, attributes := #[] }, { accessFlags := 2, nameIndex := 249, descriptorIndex := 12, attributes := #[] }, { accessFlags := 18, nameIndex := 133, descriptorIndex := 130, attributes := #[] }, { accessFlags := 18, nameIndex := 136, descriptorIndex := 130, attributes := #[] }, { accessFlags := 2, nameIndex := 258, descriptorIndex := 12, attributes := #[] }, { accessFlags := 18, nameIndex := 139, descriptorIndex := 130, attributes := #[] }, { accessFlags := 18, nameIndex := 142, descriptorIndex := 130, attributes := #[] }, { accessFlags := 18, nameIndex := 145, descriptorIndex := 130, attributes := #[] }, { accessFlags := 18, nameIndex := 148, descriptorIndex := 130, attributes := #[] }, { accessFlags := 18, nameIndex := 151, descriptorIndex := 130, attributes := #[] }, { accessFlags := 18, nameIndex := 154, descriptorIndex := 130, attributes := #[] }, { accessFlags := 18, nameIndex := 157, descriptorIndex := 130, attributes := #[] }, { accessFlags := 2, nameIndex := 261, descriptorIndex := 12, attributes := #[] }, { accessFlags := 2, nameIndex := 230, descriptorIndex := 12, attributes := #[] }, { accessFlags := 18, nameIndex := 160, descriptorIndex := 130, attributes := #[] }, { accessFlags := 2, nameIndex := 208, descriptorIndex := 12, attributes := #[] }, { accessFlags := 18, nameIndex := 163, descriptorIndex := 130, attributes := #[] }, { accessFlags := 18, nameIndex := 166, descriptorIndex := 130, attributes := #[] }, { accessFlags := 2, nameIndex := 255, descriptorIndex := 12, attributes := #[] }, { accessFlags := 18, nameIndex := 169, descriptorIndex := 130, attributes := #[] }, { accessFlags := 18, nameIndex := 172, descriptorIndex := 130, attributes := #[] }, { accessFlags := 18, nameIndex := 175, descriptorIndex := 130, attributes := #[] }, { accessFlags := 2, nameIndex := 264, descriptorIndex := 12, attributes := #[] }, { accessFlags := 2, nameIndex := 202, descriptorIndex := 12, attributes := #[] }, { accessFlags := 2, nameIndex := 267, descriptorIndex := 199, attributes := #[] }, { accessFlags := 2, nameIndex := 270, descriptorIndex := 199, attributes := #[] }, { accessFlags := 18, nameIndex := 178, descriptorIndex := 130, attributes := #[] }, { accessFlags := 2, nameIndex := 221, descriptorIndex := 12, attributes := #[] }, { accessFlags := 2, nameIndex := 224, descriptorIndex := 12, attributes := #[] }, { accessFlags := 2, nameIndex := 227, descriptorIndex := 12, attributes := #[] }])
  fields := #[{ name := "OK", type := .int, accessFlags := 25, slot := 0, constantValue := 0 }, { name := "BAD_CHAR", type := .int, accessFlags := 25, slot := 1, constantValue := 0 }, { name := "FULL", type := .int, accessFlags := 25, slot := 2, constantValue := 0 }, { name := "SYNTAX_ERROR", type := .int, accessFlags := 25, slot := 3, constantValue := 0 }, { name := "NOT_PARSED", type := .int, accessFlags := 25, slot := 4, constantValue := 0 }, { name := "NO_SUCH", type := .int, accessFlags := 25, slot := 5, constantValue := 0 }, { name := "VALID", type := .int, accessFlags := 25, slot := 6, constantValue := 0 }, { name := "INVALID", type := .int, accessFlags := 25, slot := 7, constantValue := 0 }, { name := "HALTED", type := .int, accessFlags := 25, slot := 8, constantValue := 0 }, { name := "OUT_OF_FUEL", type := .int, accessFlags := 25, slot := 9, constantValue := 0 }, { name := "PRE", type := .int, accessFlags := 25, slot := 10, constantValue := 0 }, { name := "POST", type := .int, accessFlags := 25, slot := 11, constantValue := 0 }, { name := "VAR_X", type := .int, accessFlags := 25, slot := 12, constantValue := 0 }, { name := "VAR_Y", type := .int, accessFlags := 25, slot := 13, constantValue := 0 }, { name := "VAR_Z", type := .int, accessFlags := 25, slot := 14, constantValue := 0 }, { name := "OP_END", type := .int, accessFlags := 18, slot := 0, constantValue := 0 }, { name := "OP_VAR", type := .int, accessFlags := 18, slot := 1, constantValue := 0 }, { name := "OP_CONST", type := .int, accessFlags := 18, slot := 2, constantValue := 0 }, { name := "OP_ADD", type := .int, accessFlags := 18, slot := 3, constantValue := 0 }, { name := "OP_SUB", type := .int, accessFlags := 18, slot := 4, constantValue := 0 }, { name := "OP_MUL", type := .int, accessFlags := 18, slot := 5, constantValue := 0 }, { name := "OP_LT", type := .int, accessFlags := 18, slot := 6, constantValue := 0 }, { name := "OP_EQ", type := .int, accessFlags := 18, slot := 7, constantValue := 0 }, { name := "OP_TRUE", type := .int, accessFlags := 18, slot := 8, constantValue := 0 }, { name := "OP_FALSE", type := .int, accessFlags := 18, slot := 9, constantValue := 0 }, { name := "OP_NOT", type := .int, accessFlags := 18, slot := 10, constantValue := 0 }, { name := "OP_AND", type := .int, accessFlags := 18, slot := 11, constantValue := 0 }, { name := "OP_OR", type := .int, accessFlags := 18, slot := 12, constantValue := 0 }, { name := "S_ASSIGN", type := .int, accessFlags := 18, slot := 13, constantValue := 0 }, { name := "S_IF", type := .int, accessFlags := 18, slot := 14, constantValue := 0 }, { name := "S_WHILE", type := .int, accessFlags := 18, slot := 15, constantValue := 0 }, { name := "T_FORM", type := .int, accessFlags := 18, slot := 16, constantValue := 0 }, { name := "T_FORM_REST", type := .int, accessFlags := 18, slot := 17, constantValue := 0 }, { name := "T_CONJ", type := .int, accessFlags := 18, slot := 18, constantValue := 0 }, { name := "T_CONJ_REST", type := .int, accessFlags := 18, slot := 19, constantValue := 0 }, { name := "T_LIT", type := .int, accessFlags := 18, slot := 20, constantValue := 0 }, { name := "T_REL", type := .int, accessFlags := 18, slot := 21, constantValue := 0 }, { name := "T_EXPR", type := .int, accessFlags := 18, slot := 22, constantValue := 0 }, { name := "T_EXPR_REST", type := .int, accessFlags := 18, slot := 23, constantValue := 0 }, { name := "T_TERM", type := .int, accessFlags := 18, slot := 24, constantValue := 0 }, { name := "T_TERM_REST", type := .int, accessFlags := 18, slot := 25, constantValue := 0 }, { name := "T_ATOM", type := .int, accessFlags := 18, slot := 26, constantValue := 0 }, { name := "T_STMTS", type := .int, accessFlags := 18, slot := 27, constantValue := 0 }, { name := "T_STMT", type := .int, accessFlags := 18, slot := 28, constantValue := 0 }, { name := "K_EXPECT", type := .int, accessFlags := 18, slot := 29, constantValue := 0 }, { name := "K_END", type := .int, accessFlags := 18, slot := 30, constantValue := 0 }, { name := "K_BEGIN", type := .int, accessFlags := 18, slot := 31, constantValue := 0 }, { name := "K_EMIT", type := .int, accessFlags := 18, slot := 32, constantValue := 0 }, { name := "K_OPEN", type := .int, accessFlags := 18, slot := 33, constantValue := 0 }, { name := "K_CLOSE", type := .int, accessFlags := 18, slot := 34, constantValue := 0 }, { name := "MAX_ST", type := .int, accessFlags := 18, slot := 35, constantValue := 0 }, { name := "MAX_IDS", type := .int, accessFlags := 18, slot := 36, constantValue := 0 }, { name := "MAX_CODE", type := .int, accessFlags := 18, slot := 37, constantValue := 0 }, { name := "MAX_TASKS", type := .int, accessFlags := 18, slot := 38, constantValue := 0 }, { name := "buf", type := (.array .int), accessFlags := 18, slot := 39, constantValue := 0 }, { name := "cap", type := .int, accessFlags := 2, slot := 40, constantValue := 0 }, { name := "len", type := .int, accessFlags := 2, slot := 41, constantValue := 0 }, { name := "parsed", type := .boolean, accessFlags := 2, slot := 42, constantValue := 0 }, { name := "errPos", type := .int, accessFlags := 2, slot := 43, constantValue := 0 }, { name := "cex", type := .int, accessFlags := 2, slot := 44, constantValue := 0 }, { name := "hasRun", type := .boolean, accessFlags := 2, slot := 45, constantValue := 0 }, { name := "runX", type := .int, accessFlags := 2, slot := 46, constantValue := 0 }, { name := "runY", type := .int, accessFlags := 2, slot := 47, constantValue := 0 }, { name := "runZ", type := .int, accessFlags := 2, slot := 48, constantValue := 0 }, { name := "runSteps", type := .int, accessFlags := 2, slot := 49, constantValue := 0 }, { name := "codeOp", type := (.array .int), accessFlags := 18, slot := 50, constantValue := 0 }, { name := "codeArg", type := (.array .int), accessFlags := 18, slot := 51, constantValue := 0 }, { name := "codeLen", type := .int, accessFlags := 2, slot := 52, constantValue := 0 }, { name := "fStart", type := (.array .int), accessFlags := 18, slot := 53, constantValue := 0 }, { name := "stKind", type := (.array .int), accessFlags := 18, slot := 54, constantValue := 0 }, { name := "stVar", type := (.array .int), accessFlags := 18, slot := 55, constantValue := 0 }, { name := "stFirstA", type := (.array .int), accessFlags := 18, slot := 56, constantValue := 0 }, { name := "stFirstB", type := (.array .int), accessFlags := 18, slot := 57, constantValue := 0 }, { name := "stNext", type := (.array .int), accessFlags := 18, slot := 58, constantValue := 0 }, { name := "stParent", type := (.array .int), accessFlags := 18, slot := 59, constantValue := 0 }, { name := "stCount", type := .int, accessFlags := 2, slot := 60, constantValue := 0 }, { name := "mainFirst", type := .int, accessFlags := 2, slot := 61, constantValue := 0 }, { name := "loopStmt", type := (.array .int), accessFlags := 18, slot := 62, constantValue := 0 }, { name := "loopCount", type := .int, accessFlags := 2, slot := 63, constantValue := 0 }, { name := "tkCode", type := (.array .int), accessFlags := 18, slot := 64, constantValue := 0 }, { name := "tkArg", type := (.array .int), accessFlags := 18, slot := 65, constantValue := 0 }, { name := "tkTop", type := .int, accessFlags := 2, slot := 66, constantValue := 0 }, { name := "lsParent", type := (.array .int), accessFlags := 18, slot := 67, constantValue := 0 }, { name := "lsWhich", type := (.array .int), accessFlags := 18, slot := 68, constantValue := 0 }, { name := "lsLast", type := (.array .int), accessFlags := 18, slot := 69, constantValue := 0 }, { name := "lsTop", type := .int, accessFlags := 2, slot := 70, constantValue := 0 }, { name := "pPos", type := .int, accessFlags := 2, slot := 71, constantValue := 0 }, { name := "pFail", type := .boolean, accessFlags := 2, slot := 72, constantValue := 0 }, { name := "pDone", type := .boolean, accessFlags := 2, slot := 73, constantValue := 0 }, { name := "vStack", type := (.array .int), accessFlags := 18, slot := 74, constantValue := 0 }, { name := "wx", type := .int, accessFlags := 2, slot := 75, constantValue := 0 }, { name := "wy", type := .int, accessFlags := 2, slot := 76, constantValue := 0 }, { name := "wz", type := .int, accessFlags := 2, slot := 77, constantValue := 0 }]
  methods := #[k2m0, k2m1, k2m2, k2m3, k2m4, k2m5, k2m6, k2m7, k2m8, k2m9, k2m10, k2m11, k2m12, k2m13, k2m14, k2m15]
  instanceTypes := #[.int, .int, .int, .int, .int, .int, .int, .int, .int, .int, .int, .int, .int, .int, .int, .int, .int, .int, .int, .int, .int, .int, .int, .int, .int, .int, .int, .int, .int, .int, .int, .int, .int, .int, .int, .int, .int, .int, .int, (.array .int), .int, .int, .boolean, .int, .int, .boolean, .int, .int, .int, .int, (.array .int), (.array .int), .int, (.array .int), (.array .int), (.array .int), (.array .int), (.array .int), (.array .int), (.array .int), .int, .int, (.array .int), .int, (.array .int), (.array .int), .int, (.array .int), (.array .int), (.array .int), .int, .int, .boolean, .boolean, (.array .int), .int, .int, .int]
  staticTypes := #[.int, .int, .int, .int, .int, .int, .int, .int, .int, .int, .int, .int, .int, .int, .int]
  resolved := Array.replicate 419 none
  statics := none }

def pool3 : Array CpInfo := pool [(1, u "java/lang/Cloneable"), (0, .class_ 1), (0, u "java/lang/Object"), (0, .class_ 3)] 3

/-- java/lang/Cloneable -/
def k3 : Class := { plain "java/lang/Cloneable" (some 0) with
  accessFlags := 1537
  interfaces := #[]
  cf := some (fileOf pool3 2 #[] #[] 1537 4 #[] #[])
  fields := #[]
  methods := #[]
  instanceTypes := #[]
  staticTypes := #[]
  resolved := Array.replicate 8 none
  statics := none }

def pool4 : Array CpInfo := pool [(1, u "java/io/Serializable"), (0, .class_ 1), (0, u "java/lang/Object"), (0, .class_ 3)] 3

/-- java/io/Serializable -/
def k4 : Class := { plain "java/io/Serializable" (some 0) with
  accessFlags := 1537
  interfaces := #[]
  cf := some (fileOf pool4 2 #[] #[] 1537 4 #[] #[])
  fields := #[]
  methods := #[]
  instanceTypes := #[]
  staticTypes := #[]
  resolved := Array.replicate 8 none
  statics := none }

/-- the primitive byte -/
def k5 : Class := { plain "byte" none with kind := .primitive 'B', accessFlags := 0x411 }
/-- [B -/
def k6 : Class := { plain "[B" (some 0) with kind := .array 5 .byte, interfaces := #[3, 4], accessFlags := 1041 }

/-- the primitive int -/
def k7 : Class := { plain "int" none with kind := .primitive 'I', accessFlags := 0x411 }
/-- [I -/
def k8 : Class := { plain "[I" (some 0) with kind := .array 7 .int, interfaces := #[3, 4], accessFlags := 1041 }

def heap : Heap := #[]
def classes : Array Class := #[k0, k1, k2, k3, k4, k5, k6, k7, k8]
def interned : List (Array UInt16 × Addr) := []
def slotsUsed : Nat := 0
def theMethod : MethodId := ⟨1, 2⟩
def args0 : Array Value := #[.int 5, .int 5]
def aboutOver (below : List Frame) : State where
  vm := { classes := classes, interned := interned.toArray }
  heap := heap
  slotsUsed := slotsUsed
  threads := #[{ frames := .invoking theMethod args0 :: below }]
def below0 : List Frame := [.native { method := ⟨0, 0⟩, args := #[] }]
def about1 : State := aboutOver below0
def p0 : Program := .bare "" "" ""
def e0 : Env := launch0.env 0 0 0
theorem w_frames : about1.frames = Frame.invoking theMethod args0 :: below0 := rfl
set_option maxRecDepth 65536 in
theorem w_args : argsFit about1.vm theMethod args0 = true := by decide +kernel
set_option maxRecDepth 65536 in
theorem w_heap : heapFits about1 = true := by decide +kernel
set_option maxRecDepth 65536 in
theorem w_runnable : about1.curStatus? = some .runnable := by decide +kernel
set_option maxRecDepth 65536 in
theorem w_alone : about1.alone = true := by decide +kernel
set_option maxRecDepth 65536 in
theorem w_named : about1.methodNamed? x = some theMethod := by decide +kernel
set_option maxRecDepth 65536 in
theorem w_hears : about1.hears theMethod below0 = true := by decide +kernel
set_option maxRecDepth 65536 in
theorem w_ripe : about1.ripe theMethod args0 below0 = true := by decide +kernel
theorem w_running : about1.status = .running := rfl
set_option maxRecDepth 65536 in
theorem w_room : about1.hasRoom e0.platform room_1 = true :=
  launch0.hasRoom_least _ room_1 (by decide +kernel) (by decide +kernel) (by decide +kernel) (by decide +kernel) (by decide +kernel) (by decide +kernel)
theorem allAtoms_all (ts : List Jvm.Cond) (a : Array Jvm.Value) (st : Jvm.State) : (allAtoms ts).before a st = ts.all (fun c => c.before a st) := by
  induction ts with
  | nil => rfl
  | cons c t ih =>
    show (Jvm.Cond.and c (allAtoms t)).before a st = _
    rw [Jvm.Cond.before_and, ih, List.all_cons]
def words1 : List Jvm.Cond := Jvm.Cond.code x code maxLocals ret :: tables_1
/-- a 'code' word, met by the world's own term for the bytes: nothing is compared byte by byte -/
theorem code_word {y : MethodName} {bytes : ByteArray} {mx : Nat} {rt : Option FieldType} {a : Array Value} {s : State} {m : MethodId} {meth : Method} {c : Code} (h1 : s.methodNamed? y = some m) (h2 : s.vm.method? m = some meth) (h3 : meth.code = some c) (h4 : c.code = bytes)
    (h5 : (c.maxLocals == mx && c.exceptionTable.isEmpty && decide (c.maxStack ≤ mostOperands) && decide (meth.sig.returnType = rt) && !meth.locks && decide (parseMethodDescriptor y.desc = some meth.sig)) = true) : (Jvm.Cond.code y bytes mx rt).before a s = true := by
  simp only [Bool.and_eq_true, beq_iff_eq, Bool.not_eq_true', decide_eq_true_eq] at h5
  obtain ⟨⟨⟨⟨⟨g1, g2⟩, g3⟩, g4⟩, g5⟩, g6⟩ := h5
  simp [Cond.before, Cond.holds, Cond.value, h1, h2, h3, h4, g1, g2, g3, g4, g5, g6]
def isCode : Jvm.Cond → Bool
  | .code _ _ _ _ => true
  | _ => false
theorem all_split {L : List Jvm.Cond} {P : Jvm.Cond → Bool} (h1 : L.all (fun c => isCode c || P c) = true) (h2 : ∀ c ∈ L.filter isCode, P c = true) : L.all P = true := by
  refine List.all_eq_true.mpr fun c hc => ?_
  have h := List.all_eq_true.mp h1 c hc
  rcases Bool.eq_false_or_eq_true (isCode c) with hi | hi
  · exact h2 c (List.mem_filter.mpr ⟨hc, hi⟩)
  · simpa [hi] using h
set_option maxRecDepth 65536 in
theorem w_c0 : (Jvm.Cond.code x code maxLocals ret).before args0 about1 = true := code_word (m := ⟨1, 2⟩) (meth := k1m2) (c := k1c2) (by decide +kernel) rfl rfl rfl (by decide +kernel)
set_option maxRecDepth 65536 in
theorem w_c1 : (Jvm.Cond.code ({ cls := "VcGenerator", name := "<init>", desc := "(I)V" } : Jvm.MethodName) prog_1_method_1_code (3 : Nat) (Option.none : Option Jvm.ClassFile.FieldType)).before args0 about1 = true := code_word (m := ⟨2, 0⟩) (meth := k2m0) (c := k2c0) (by decide +kernel) rfl rfl rfl (by decide +kernel)
set_option maxRecDepth 65536 in
theorem w_c2 : (Jvm.Cond.code ({ cls := "java/lang/Object", name := "<init>", desc := "()V" } : Jvm.MethodName) object_method_1_code (1 : Nat) (Option.none : Option Jvm.ClassFile.FieldType)).before args0 about1 = true := code_word (m := ⟨0, 0⟩) (meth := k0m0) (c := k0c0) (by decide +kernel) rfl rfl rfl (by decide +kernel)
set_option maxRecDepth 65536 in
theorem w_c3 : (Jvm.Cond.code ({ cls := "VcGenerator", name := "clearResults", desc := "()V" } : Jvm.MethodName) prog_1_method_16_code (1 : Nat) (Option.none : Option Jvm.ClassFile.FieldType)).before args0 about1 = true := code_word (m := ⟨2, 7⟩) (meth := k2m7) (c := k2c7) (by decide +kernel) rfl rfl rfl (by decide +kernel)
set_option maxRecDepth 65536 in
theorem w_c4 : (Jvm.Cond.code ({ cls := "VcGenerator", name := "parse", desc := "()I" } : Jvm.MethodName) prog_1_method_6_code (2 : Nat) (Option.some Jvm.ClassFile.FieldType.int)).before args0 about1 = true := code_word (m := ⟨2, 4⟩) (meth := k2m4) (c := k2c4) (by decide +kernel) rfl rfl rfl (by decide +kernel)
set_option maxRecDepth 65536 in
theorem w_c5 : (Jvm.Cond.code ({ cls := "VcGenerator", name := "doParse", desc := "()Z" } : Jvm.MethodName) prog_1_method_21_code (2 : Nat) (Option.some Jvm.ClassFile.FieldType.boolean)).before args0 about1 = true := code_word (m := ⟨2, 10⟩) (meth := k2m10) (c := k2c10) (by decide +kernel) rfl rfl rfl (by decide +kernel)
set_option maxRecDepth 65536 in
theorem w_c6 : (Jvm.Cond.code ({ cls := "VcGenerator", name := "pushProgram", desc := "()V" } : Jvm.MethodName) prog_1_method_22_code (1 : Nat) (Option.none : Option Jvm.ClassFile.FieldType)).before args0 about1 = true := code_word (m := ⟨2, 11⟩) (meth := k2m11) (c := k2c11) (by decide +kernel) rfl rfl rfl (by decide +kernel)
set_option maxRecDepth 65536 in
theorem w_c7 : (Jvm.Cond.code ({ cls := "VcGenerator", name := "push", desc := "(II)V" } : Jvm.MethodName) prog_1_method_24_code (3 : Nat) (Option.none : Option Jvm.ClassFile.FieldType)).before args0 about1 = true := code_word (m := ⟨2, 13⟩) (meth := k2m13) (c := k2c13) (by decide +kernel) rfl rfl rfl (by decide +kernel)
set_option maxRecDepth 65536 in
theorem w_c8 : (Jvm.Cond.code ({ cls := "VcGenerator", name := "step", desc := "(II)V" } : Jvm.MethodName) prog_1_method_26_code (3 : Nat) (Option.none : Option Jvm.ClassFile.FieldType)).before args0 about1 = true := code_word (m := ⟨2, 14⟩) (meth := k2m14) (c := k2c14) (by decide +kernel) rfl rfl rfl (by decide +kernel)
set_option maxRecDepth 65536 in
theorem w_c9 : (Jvm.Cond.code ({ cls := "VcGenerator", name := "stepAction", desc := "(II)V" } : Jvm.MethodName) prog_1_method_37_code (3 : Nat) (Option.none : Option Jvm.ClassFile.FieldType)).before args0 about1 = true := code_word (m := ⟨2, 15⟩) (meth := k2m15) (c := k2c15) (by decide +kernel) rfl rfl rfl (by decide +kernel)
set_option maxRecDepth 65536 in
theorem w_c10 : (Jvm.Cond.code ({ cls := "VcGenerator", name := "la", desc := "()I" } : Jvm.MethodName) prog_1_method_23_code (1 : Nat) (Option.some Jvm.ClassFile.FieldType.int)).before args0 about1 = true := code_word (m := ⟨2, 12⟩) (meth := k2m12) (c := k2c12) (by decide +kernel) rfl rfl rfl (by decide +kernel)
set_option maxRecDepth 65536 in
theorem w_c11 : (Jvm.Cond.code ({ cls := "VcGenerator", name := "errorPosition", desc := "()I" } : Jvm.MethodName) prog_1_method_7_code (1 : Nat) (Option.some Jvm.ClassFile.FieldType.int)).before args0 about1 = true := code_word (m := ⟨2, 5⟩) (meth := k2m5) (c := k2c5) (by decide +kernel) rfl rfl rfl (by decide +kernel)
set_option maxRecDepth 65536 in
theorem w_c12 : (Jvm.Cond.code ({ cls := "VcGenerator", name := "addChar", desc := "(I)I" } : Jvm.MethodName) prog_1_method_2_code (2 : Nat) (Option.some Jvm.ClassFile.FieldType.int)).before args0 about1 = true := code_word (m := ⟨2, 1⟩) (meth := k2m1) (c := k2c1) (by decide +kernel) rfl rfl rfl (by decide +kernel)
set_option maxRecDepth 65536 in
theorem w_c13 : (Jvm.Cond.code ({ cls := "VcGenerator", name := "accepted", desc := "(I)Z" } : Jvm.MethodName) prog_1_method_18_code (2 : Nat) (Option.some Jvm.ClassFile.FieldType.boolean)).before args0 about1 = true := code_word (m := ⟨2, 9⟩) (meth := k2m9) (c := k2c9) (by decide +kernel) rfl rfl rfl (by decide +kernel)
set_option maxRecDepth 65536 in
theorem w_c14 : (Jvm.Cond.code ({ cls := "VcGenerator", name := "varIndex", desc := "(I)I" } : Jvm.MethodName) prog_1_method_17_code (2 : Nat) (Option.some Jvm.ClassFile.FieldType.int)).before args0 about1 = true := code_word (m := ⟨2, 8⟩) (meth := k2m8) (c := k2c8) (by decide +kernel) rfl rfl rfl (by decide +kernel)
set_option maxRecDepth 65536 in
theorem w_c15 : (Jvm.Cond.code ({ cls := "VcGenerator", name := "length", desc := "()I" } : Jvm.MethodName) prog_1_method_4_code (1 : Nat) (Option.some Jvm.ClassFile.FieldType.int)).before args0 about1 = true := code_word (m := ⟨2, 2⟩) (meth := k2m2) (c := k2c2) (by decide +kernel) rfl rfl rfl (by decide +kernel)
set_option maxRecDepth 65536 in
theorem w_c16 : (Jvm.Cond.code ({ cls := "VcGenerator", name := "charAt", desc := "(I)I" } : Jvm.MethodName) prog_1_method_5_code (2 : Nat) (Option.some Jvm.ClassFile.FieldType.int)).before args0 about1 = true := code_word (m := ⟨2, 3⟩) (meth := k2m3) (c := k2c3) (by decide +kernel) rfl rfl rfl (by decide +kernel)
set_option maxRecDepth 65536 in
theorem w_c17 : (Jvm.Cond.code ({ cls := "VcGenerator", name := "vcCount", desc := "()I" } : Jvm.MethodName) prog_1_method_8_code (1 : Nat) (Option.some Jvm.ClassFile.FieldType.int)).before args0 about1 = true := code_word (m := ⟨2, 6⟩) (meth := k2m6) (c := k2c6) (by decide +kernel) rfl rfl rfl (by decide +kernel)
set_option maxRecDepth 65536 in
theorem w_c18 : (Jvm.Cond.code ({ cls := "VcGeneratorL2", name := "accepted", desc := "(I)Z" } : Jvm.MethodName) method_2_code (1 : Nat) (Option.some Jvm.ClassFile.FieldType.boolean)).before args0 about1 = true := code_word (m := ⟨1, 1⟩) (meth := k1m1) (c := k1c1) (by decide +kernel) rfl rfl rfl (by decide +kernel)
def codes1 : List Jvm.Cond := [Jvm.Cond.code x code maxLocals ret, Jvm.Cond.code ({ cls := "VcGenerator", name := "<init>", desc := "(I)V" } : Jvm.MethodName) prog_1_method_1_code (3 : Nat) (Option.none : Option Jvm.ClassFile.FieldType), Jvm.Cond.code ({ cls := "java/lang/Object", name := "<init>", desc := "()V" } : Jvm.MethodName) object_method_1_code (1 : Nat) (Option.none : Option Jvm.ClassFile.FieldType), Jvm.Cond.code ({ cls := "VcGenerator", name := "clearResults", desc := "()V" } : Jvm.MethodName) prog_1_method_16_code (1 : Nat) (Option.none : Option Jvm.ClassFile.FieldType), Jvm.Cond.code ({ cls := "VcGenerator", name := "parse", desc := "()I" } : Jvm.MethodName) prog_1_method_6_code (2 : Nat) (Option.some Jvm.ClassFile.FieldType.int), Jvm.Cond.code ({ cls := "VcGenerator", name := "doParse", desc := "()Z" } : Jvm.MethodName) prog_1_method_21_code (2 : Nat) (Option.some Jvm.ClassFile.FieldType.boolean), Jvm.Cond.code ({ cls := "VcGenerator", name := "pushProgram", desc := "()V" } : Jvm.MethodName) prog_1_method_22_code (1 : Nat) (Option.none : Option Jvm.ClassFile.FieldType), Jvm.Cond.code ({ cls := "VcGenerator", name := "push", desc := "(II)V" } : Jvm.MethodName) prog_1_method_24_code (3 : Nat) (Option.none : Option Jvm.ClassFile.FieldType), Jvm.Cond.code ({ cls := "VcGenerator", name := "step", desc := "(II)V" } : Jvm.MethodName) prog_1_method_26_code (3 : Nat) (Option.none : Option Jvm.ClassFile.FieldType), Jvm.Cond.code ({ cls := "VcGenerator", name := "stepAction", desc := "(II)V" } : Jvm.MethodName) prog_1_method_37_code (3 : Nat) (Option.none : Option Jvm.ClassFile.FieldType), Jvm.Cond.code ({ cls := "VcGenerator", name := "la", desc := "()I" } : Jvm.MethodName) prog_1_method_23_code (1 : Nat) (Option.some Jvm.ClassFile.FieldType.int), Jvm.Cond.code ({ cls := "VcGenerator", name := "errorPosition", desc := "()I" } : Jvm.MethodName) prog_1_method_7_code (1 : Nat) (Option.some Jvm.ClassFile.FieldType.int), Jvm.Cond.code ({ cls := "VcGenerator", name := "addChar", desc := "(I)I" } : Jvm.MethodName) prog_1_method_2_code (2 : Nat) (Option.some Jvm.ClassFile.FieldType.int), Jvm.Cond.code ({ cls := "VcGenerator", name := "accepted", desc := "(I)Z" } : Jvm.MethodName) prog_1_method_18_code (2 : Nat) (Option.some Jvm.ClassFile.FieldType.boolean), Jvm.Cond.code ({ cls := "VcGenerator", name := "varIndex", desc := "(I)I" } : Jvm.MethodName) prog_1_method_17_code (2 : Nat) (Option.some Jvm.ClassFile.FieldType.int), Jvm.Cond.code ({ cls := "VcGenerator", name := "length", desc := "()I" } : Jvm.MethodName) prog_1_method_4_code (1 : Nat) (Option.some Jvm.ClassFile.FieldType.int), Jvm.Cond.code ({ cls := "VcGenerator", name := "charAt", desc := "(I)I" } : Jvm.MethodName) prog_1_method_5_code (2 : Nat) (Option.some Jvm.ClassFile.FieldType.int), Jvm.Cond.code ({ cls := "VcGenerator", name := "vcCount", desc := "()I" } : Jvm.MethodName) prog_1_method_8_code (1 : Nat) (Option.some Jvm.ClassFile.FieldType.int), Jvm.Cond.code ({ cls := "VcGeneratorL2", name := "accepted", desc := "(I)Z" } : Jvm.MethodName) method_2_code (1 : Nat) (Option.some Jvm.ClassFile.FieldType.boolean)]
set_option maxRecDepth 65536 in
theorem codes_eq : words1.filter isCode = codes1 := rfl
theorem w_codes : ∀ c ∈ words1.filter isCode, c.before args0 about1 = true := by
  rw [codes_eq]
  intro c hc
  simp only [codes1, List.mem_cons, List.not_mem_nil, or_false] at hc
  rcases hc with rfl | rfl | rfl | rfl | rfl | rfl | rfl | rfl | rfl | rfl | rfl | rfl | rfl | rfl | rfl | rfl | rfl | rfl | rfl
  · exact w_c0
  · exact w_c1
  · exact w_c2
  · exact w_c3
  · exact w_c4
  · exact w_c5
  · exact w_c6
  · exact w_c7
  · exact w_c8
  · exact w_c9
  · exact w_c10
  · exact w_c11
  · exact w_c12
  · exact w_c13
  · exact w_c14
  · exact w_c15
  · exact w_c16
  · exact w_c17
  · exact w_c18
set_option maxRecDepth 65536 in
theorem w_t1 : (words1.take 24).all (fun c => isCode c || c.before args0 about1) = true := by decide +kernel
set_option maxRecDepth 65536 in
theorem w_t2 : ((words1.drop 24).take 24).all (fun c => isCode c || c.before args0 about1) = true := by decide +kernel
set_option maxRecDepth 65536 in
theorem w_t3 : (((words1.drop 24).drop 24).take 24).all (fun c => isCode c || c.before args0 about1) = true := by decide +kernel
set_option maxRecDepth 65536 in
theorem w_t4 : ((((words1.drop 24).drop 24).drop 24).take 24).all (fun c => isCode c || c.before args0 about1) = true := by decide +kernel
set_option maxRecDepth 65536 in
theorem w_t5 : (((((words1.drop 24).drop 24).drop 24).drop 24).take 24).all (fun c => isCode c || c.before args0 about1) = true := by decide +kernel
set_option maxRecDepth 65536 in
theorem w_t6 : ((((((words1.drop 24).drop 24).drop 24).drop 24).drop 24).take 24).all (fun c => isCode c || c.before args0 about1) = true := by decide +kernel
set_option maxRecDepth 65536 in
theorem w_t7 : (((((((words1.drop 24).drop 24).drop 24).drop 24).drop 24).drop 24).take 24).all (fun c => isCode c || c.before args0 about1) = true := by decide +kernel
set_option maxRecDepth 65536 in
theorem w_t8 : ((((((((words1.drop 24).drop 24).drop 24).drop 24).drop 24).drop 24).drop 24).take 24).all (fun c => isCode c || c.before args0 about1) = true := by decide +kernel
set_option maxRecDepth 65536 in
theorem w_t9 : (((((((((words1.drop 24).drop 24).drop 24).drop 24).drop 24).drop 24).drop 24).drop 24).take 24).all (fun c => isCode c || c.before args0 about1) = true := by decide +kernel
set_option maxRecDepth 65536 in
theorem w_t10 : (((((((((words1.drop 24).drop 24).drop 24).drop 24).drop 24).drop 24).drop 24).drop 24).drop 24).all (fun c => isCode c || c.before args0 about1) = true := by decide +kernel
theorem w_tables : (allAtoms (Jvm.Cond.code x code maxLocals ret :: tables_1)).before args0 about1 = true := by
  rw [allAtoms_all]
  show words1.all (fun c => c.before args0 about1) = true
  refine all_split ?_ w_codes
  rw [← List.take_append_drop 24 words1, List.all_append, w_t1, ← List.take_append_drop 24 (words1.drop 24), List.all_append, w_t2, ← List.take_append_drop 24 ((words1.drop 24).drop 24), List.all_append, w_t3, ← List.take_append_drop 24 (((words1.drop 24).drop 24).drop 24), List.all_append, w_t4, ← List.take_append_drop 24 ((((words1.drop 24).drop 24).drop 24).drop 24), List.all_append, w_t5, ← List.take_append_drop 24 (((((words1.drop 24).drop 24).drop 24).drop 24).drop 24), List.all_append, w_t6, ← List.take_append_drop 24 ((((((words1.drop 24).drop 24).drop 24).drop 24).drop 24).drop 24), List.all_append, w_t7, ← List.take_append_drop 24 (((((((words1.drop 24).drop 24).drop 24).drop 24).drop 24).drop 24).drop 24), List.all_append, w_t8, ← List.take_append_drop 24 ((((((((words1.drop 24).drop 24).drop 24).drop 24).drop 24).drop 24).drop 24).drop 24), List.all_append, w_t9, w_t10]
  rfl
set_option maxRecDepth 65536 in
theorem w_case : (Jvm.Cond.and given_1 narrow_1).before args0 about1 = true := by decide +kernel
theorem w_applies : (headSpec (Jvm.Cond.code x code maxLocals ret :: tables_1) room_1).applies x e0.platform about1 = true :=
  (Spec.applies_iff w_frames).mpr ⟨w_running, w_runnable, w_alone, w_named, w_hears, w_ripe, w_room, w_tables⟩
theorem atStart : AtStart classFile x code maxLocals ret World_1 tables_1 room_1 Calls_1 rest_1 Pre_1 launch0 p0 e0 about1 theMethod args0 below0 :=
  ⟨lists_1, trivial, launch0.admits_env _ _ _, launch0.least_env, fairChoices_fair.cas, fairChoices_fair.clock, w_frames, w_args, w_heap, w_applies, trivial, trivial, w_case⟩
end start1
theorem witness_1 : WitnessClaimed_1 := ⟨start1.p0, start1.e0, start1.about1, start1.theMethod, start1.args0, start1.below0, start1.atStart⟩
end Jvm.Pilot.@@N@@
