import JvmDerived
import JvmDerived.Pilot.@@N@@Statement
import JvmDerived.Pilot.@@N@@Code
set_option linter.unusedVariables false
set_option linter.unusedSimpArgs false
namespace Jvm.Own
open Sem ClassFile Op Lib Jvm.Stand Jvm.Free Jvm.LawKit Jvm.RoadKit
/-! ## 1. Small heaps: a list of cells: an object of the one class (its fields in order), or an array (of booleans, of ints) -/
abbrev MCell := List Value ⊕ (Bool × List Int32)
abbrev MHeap := List MCell
abbrev Fd := String × String × FieldType
/-- start, its arguments, launch, the script's place, the heap's first length, the class, its fields, its slots -/
abbrev Ctx := State × Array Value × Launch × Option Nat × Nat × String × List Fd × Nat
abbrev gZ (G : Ctx) : State := G.1
abbrev gA (G : Ctx) : Array Value := G.2.1
abbrev gL (G : Ctx) : Launch := G.2.2.1
abbrev gS (G : Ctx) : Option Nat := G.2.2.2.1
abbrev gN (G : Ctx) : Nat := G.2.2.2.2.1
abbrev gC (G : Ctx) : String := G.2.2.2.2.2.1
abbrev gF (G : Ctx) : List Fd := G.2.2.2.2.2.2.1
abbrev gK (G : Ctx) : Nat := G.2.2.2.2.2.2.2
/-- a method: name, bytes, locals, result, frames and words that it needs -/
abbrev Mi := MethodName × ByteArray × Nat × Option FieldType × Nat × Nat
abbrev mN (M : Mi) : MethodName := M.1
abbrev mB (M : Mi) : ByteArray := M.2.1
abbrev mL (M : Mi) : Nat := M.2.2.1
abbrev mR (M : Mi) : Option FieldType := M.2.2.2.1
abbrev mF (M : Mi) : Nat := M.2.2.2.2.1
abbrev mW (M : Mi) : Nat := M.2.2.2.2.2
def rhoA (sa : Option Nat) (n0 i : Nat) : Nat := match sa with
  | none => n0 + i
  | some a => match i with
    | 0 => a
    | j + 1 => n0 + j
def k0A (sa : Option Nat) : Nat := match sa with
  | none => 0
  | some _ => 1
def rho (G : Ctx) (i : Nat) : Nat := rhoA (gS G) (gN G) i
def k0 (G : Ctx) : Nat := k0A (gS G)
def tr (G : Ctx) : Value → Value
  | .ref i => .ref (rho G i)
  | v => v
def trS (G : Ctx) : Slot → Slot
  | .val v => .val (tr G v)
  | s => s
theorem tr_cat (G : Ctx) (v : Value) : (tr G v).category = v.category := by cases v <;> rfl
theorem tr_cats (G : Ctx) (S : List Value) : ((S.map (tr G)).map fun v => v.category).sum = (S.map fun v => v.category).sum := by
  rw [List.map_map]
  congr 1
  exact List.map_congr_left fun v _ => tr_cat G v
def kd : Bool → FieldType
  | true => .boolean
  | false => .int
def CellAt (G : Ctx) (hr : Heap) (a : Nat) : MCell → Prop
  | .inl fs => Exa (gZ G) hr a (gC G) ∧ fs.length = (gF G).length ∧ ∀ (j : Nat) (n d : String) (ty : FieldType) (v : Value), (gF G)[j]? = some (n, d, ty) → fs[j]? = some v → Fld (gZ G) hr a (gC G) n d (tr G v)
  | .inr bx => ∃ c : Cell, Arr (gZ G) hr a c (kd bx.1) ∧ c.slots = (bx.2.map Value.int).toArray
def Rel (G : Ctx) (hr : Heap) (h : MHeap) : Prop :=
  hr.size + k0 G = gN G + h.length ∧ k0 G ≤ h.length ∧ (∀ a, gS G = some a → a < gN G) ∧ ∀ i c, h[i]? = some c → CellAt G hr (rho G i) c
/-- what the sheet says of the class -/
def GOk (G : Ctx) : Prop :=
  (∀ (j : Nat) (n d : String) (ty : FieldType), (gF G)[j]? = some (n, d, ty) → Laid (gZ G) (gA G) (gC G) (gC G) n d ∧ parseFieldDescriptor d = some ty) ∧
  (∀ (j j' : Nat) (f f' : Fd), (gF G)[j]? = some f → (gF G)[j']? = some f' → j ≠ j' → f.1 ≠ f'.1) ∧
  (Cond.instantiable (gC G) (gK G)).before (gA G) (gZ G) = true ∧ (Cond.initialized (gC G)).before (gA G) (gZ G) = true
theorem rhoA_inj {sa : Option Nat} {n0 i j : Nat} (h : ∀ a, sa = some a → a < n0) (e : rhoA sa n0 i = rhoA sa n0 j) : i = j := by
  cases sa with
  | none => simp only [rhoA] at e; omega
  | some a =>
    have := h a rfl
    cases i <;> cases j <;> simp only [rhoA] at e <;> omega
theorem rho_inj {G : Ctx} {i j : Nat} (h : ∀ a, gS G = some a → a < gN G) (e : rho G i = rho G j) : i = j := rhoA_inj h e
theorem rhoA_new {sa : Option Nat} {n0 i : Nat} (h : k0A sa ≤ i) : rhoA sa n0 i = n0 + (i - k0A sa) := by
  cases sa with
  | none => simp only [rhoA, k0A]; omega
  | some a =>
    cases i with
    | zero => simp only [k0A] at h; omega
    | succ j => simp only [rhoA, k0A]; omega
theorem rho_new {G : Ctx} {i : Nat} (h : k0 G ≤ i) : rho G i = gN G + (i - k0 G) := rhoA_new h
theorem rho_ge {G : Ctx} {i : Nat} (h : k0 G ≤ i) : gN G ≤ rho G i := by rw [rho_new h]; omega
theorem CellAt.other {G : Ctx} {hr hr' : Heap} {a b : Nat} {sl : Nat} {v : Value} (W : Wr hr hr' a sl v) (hne : b ≠ a) : ∀ {c : MCell}, CellAt G hr b c → CellAt G hr' b c
  | .inl _, ⟨h1, h2, h3⟩ => ⟨h1.wr W, h2, fun j n d ty v hf hv => Fld.other W (h3 j n d ty v hf hv) (Or.inl hne)⟩
  | .inr _, ⟨c, h1, h2⟩ => ⟨c, h1.other W hne, h2⟩
theorem CellAt.ext {G : Ctx} {hr hr' : Heap} {b : Nat} (E : Ext hr hr') : ∀ {c : MCell}, CellAt G hr b c → CellAt G hr' b c
  | .inl _, ⟨h1, h2, h3⟩ => ⟨h1.ext E, h2, fun j n d ty v hf hv => Fld.ext E (h3 j n d ty v hf hv)⟩
  | .inr _, ⟨c, h1, h2⟩ => ⟨c, h1.ext E, h2⟩
theorem Rel.push {G : Ctx} {hr hr' : Heap} {h : MHeap} {c : MCell} (R : Rel G hr h) (E : Ext hr hr') (hs : hr'.size = hr.size + 1) (hc : CellAt G hr' hr.size c) : Rel G hr' (h ++ [c]) := by
  obtain ⟨h1, h2, h3, h4⟩ := R
  refine ⟨by rw [List.length_append, List.length_singleton]; omega, by rw [List.length_append]; omega, h3, fun i c' hi => ?_⟩
  rcases Nat.lt_or_ge i h.length with q | q
  · rw [List.getElem?_append_left q] at hi
    exact (h4 i c' hi).ext E
  · have hi2 := hi
    rw [List.getElem?_append_right q] at hi2
    have : i - h.length = 0 := by
      rcases Nat.eq_zero_or_pos (i - h.length) with z | z
      · exact z
      · rw [List.getElem?_eq_none (by simp; omega)] at hi2; cases hi2
    have e : i = h.length := by omega
    subst e
    rw [Nat.sub_self] at hi2
    cases hi2
    have : rho G h.length = hr.size := by rw [rho_new h2]; omega
    rw [this]; exact hc
theorem Rel.wrArr {G : Ctx} {hr hr' : Heap} {h : MHeap} {i j : Nat} {b : Bool} {xs : List Int32} {x : Int32} (R : Rel G hr h) (hi : h[i]? = some (.inr (b, xs))) (W : Wr hr hr' (rho G i) j (.int x)) : Rel G hr' (h.set i (.inr (b, xs.set j x))) := by
  obtain ⟨h1, h2, h3, h4⟩ := R
  refine ⟨by rw [W.size, List.length_set]; exact h1, by rw [List.length_set]; exact h2, h3, fun k c' hk => ?_⟩
  by_cases e : i = k
  · subst e
    rw [List.getElem?_set_self (List.getElem?_eq_some_iff.mp hi).1] at hk
    cases hk
    obtain ⟨c, A, hs⟩ := h4 i _ hi
    refine ⟨c.setSlot j (.int x), A.same W, ?_⟩
    show c.slots.setIfInBounds j (.int x) = _
    rw [hs]
    simp [List.map_set]
  · rw [List.getElem?_set_ne e] at hk
    exact (h4 k c' hk).other W fun q => e (rho_inj h3 q).symm
theorem Rel.wrFld {G : Ctx} {hr hr' : Heap} {h : MHeap} {i j : Nat} {fs : List Value} {n d : String} {ty : FieldType} {v : Value} (R : Rel G hr h) (K : GOk G) (hi : h[i]? = some (.inl fs)) (hF : (gF G)[j]? = some (n, d, ty)) (W : Wr hr hr' (rho G i) (Jvm.RoadKit.slotOf (gZ G) (gC G) n d) (tr G v)) : Rel G hr' (h.set i (.inl (fs.set j v))) := by
  obtain ⟨h1, h2, h3, h4⟩ := R
  refine ⟨by rw [W.size, List.length_set]; exact h1, by rw [List.length_set]; exact h2, h3, fun k c' hk => ?_⟩
  by_cases e : i = k
  · subst e
    rw [List.getElem?_set_self (List.getElem?_eq_some_iff.mp hi).1] at hk
    cases hk
    obtain ⟨e1, e2, e3⟩ := h4 i _ hi
    refine ⟨e1.wr W, by rw [List.length_set]; exact e2, fun j' n' d' ty' v' hf' hv' => ?_⟩
    by_cases q : j = j'
    · subst q
      cases hF.symm.trans hf'
      have hlt : j < fs.length := by rw [e2]; exact (List.getElem?_eq_some_iff.mp hF).1
      rw [List.getElem?_set_self hlt] at hv'
      cases hv'
      obtain ⟨w, hw⟩ : ∃ w, fs[j]? = some w := ⟨_, List.getElem?_eq_getElem hlt⟩
      exact Fld.same W (e3 j n d ty w hF hw)
    · rw [List.getElem?_set_ne q] at hv'
      refine Fld.other W (e3 j' n' d' ty' v' hf' hv') (Or.inr ?_)
      exact slot_ne (K.1 j' n' d' ty' hf').1 (K.1 j n d ty hF).1 (K.2.1 j' j _ _ hf' hF (Ne.symm q)) (K.1 j' n' d' ty' hf').2 (K.1 j n d ty hF).2
  · rw [List.getElem?_set_ne e] at hk
    exact (h4 k c' hk).other W fun q => e (rho_inj h3 q).symm
def csl (k : Nat) : MCell → Nat
  | .inl _ => k
  | .inr bx => bx.2.length
def hsl (k : Nat) (h : MHeap) : Nat := (h.map (csl k)).sum
theorem hsl_push (k : Nat) (h : MHeap) (c : MCell) : hsl k (h ++ [c]) = hsl k h + csl k c := by simp [hsl]
theorem hsl_set (k : Nat) : ∀ (h : MHeap) (i : Nat) (c c' : MCell), h[i]? = some c → csl k c' = csl k c → hsl k (h.set i c') = hsl k h
  | [], _, _, _, h, _ => by simp at h
  | a :: t, 0, c, c', h, e => by simp at h; subst h; simp [hsl, e]
  | a :: t, i + 1, c, c', h, e => by
    have := hsl_set k t i c c' (by simpa using h) e
    simp only [hsl, List.set_cons_succ, List.map_cons, List.sum_cons] at this ⊢
    omega
/-! ## 2. Storing a local variable, on lists -/
def lsetAt (l : List Slot) (i : Nat) (x : Slot) : Option (List Slot) := if i < l.length then some (l.set i x) else none
def lstoreSelf (l : List Slot) (i : Nat) (v : Value) : Option (List Slot) :=
  match lsetAt l i (.val v) with
  | none => none
  | some l => if v.category = 2 then
      (match l[i + 1]? with
      | none => none
      | some (.val old) => if old.category = 2 then (match lsetAt l (i + 2) .unset with | none => none | some l2 => lsetAt l2 (i + 1) .second) else lsetAt l (i + 1) .second
      | some _ => lsetAt l (i + 1) .second)
    else some l
def mst (l : List Slot) (i : Nat) (v : Value) : Option (List Slot) :=
  match l[i]? with
  | none => none
  | some .second => (match lsetAt l (i - 1) .unset with | none => none | some l2 => lstoreSelf l2 i v)
  | some (.val old) => if old.category = 2 then (match lsetAt l (i + 1) .unset with | none => none | some l2 => lstoreSelf l2 i v) else lstoreSelf l i v
  | some .unset => lstoreSelf l i v
def arL (G : Ctx) (l : List Slot) : Array Slot := (l.map (trS G)).toArray
theorem setAt_map (G : Ctx) (l : List Slot) (i : Nat) (x : Slot) : setAt (arL G l) i (trS G x) = (lsetAt l i x).map (arL G) := by
  unfold setAt lsetAt arL
  by_cases h : i < l.length <;> simp [h, List.map_set]
theorem arL_get (G : Ctx) (l : List Slot) (i : Nat) : (arL G l)[i]? = (l[i]?).map (trS G) := by simp [arL]
theorem storeSelf_map (G : Ctx) (l : List Slot) (i : Nat) (v : Value) : storeSelf (arL G l) i (tr G v) = (lstoreSelf l i v).map (arL G) := by
  unfold storeSelf lstoreSelf
  have e := setAt_map G l i (.val v)
  simp only [trS] at e
  rw [e]
  cases h1 : lsetAt l i (.val v) with
  | none => rfl
  | some l1 =>
    simp only [Option.map_some, Option.bind_eq_bind, Option.bind_some, tr_cat]
    by_cases hc : v.category = 2
    · simp only [hc, if_true, arL_get]
      cases h2 : l1[i + 1]? with
      | none => rfl
      | some sl =>
        simp only [Option.map_some, Option.bind_some]
        have u2 := setAt_map G l1 (i + 2) .unset
        have s1 := setAt_map G l1 (i + 1) .second
        simp only [trS] at u2 s1
        cases sl with
        | unset => exact s1
        | second => exact s1
        | val old =>
          simp only [trS, tr_cat]
          by_cases hq : old.category = 2
          · simp only [hq, if_true, u2]
            cases h3 : lsetAt l1 (i + 2) .unset with
            | none => rfl
            | some l2 =>
              have s2 := setAt_map G l2 (i + 1) .second
              simp only [trS] at s2
              exact s2
          · simp only [hq, if_false]
            exact s1
    · simp only [hc, if_false]
      rfl
theorem mst_map (G : Ctx) (l : List Slot) (i : Nat) (v : Value) : storeLocals (arL G l) i (tr G v) = (mst l i v).map (arL G) := by
  unfold storeLocals mst
  simp only [arL_get]
  cases h1 : l[i]? with
  | none => rfl
  | some sl =>
    simp only [Option.map_some, Option.bind_eq_bind, Option.bind_some]
    have u1 := setAt_map G l (i - 1) .unset
    have u2 := setAt_map G l (i + 1) .unset
    simp only [trS] at u1 u2
    cases sl with
    | unset => exact storeSelf_map G l i v
    | second =>
      simp only [trS, u1]
      cases h3 : lsetAt l (i - 1) .unset with
      | none => rfl
      | some l2 => exact storeSelf_map G l2 i v
    | val old =>
      simp only [trS, tr_cat]
      by_cases hq : old.category = 2
      · simp only [hq, if_true, u2]
        cases h3 : lsetAt l (i + 1) .unset with
        | none => rfl
        | some l2 => exact storeSelf_map G l2 i v
      · simp only [hq, if_false]
        exact storeSelf_map G l i v
theorem lsetAt_len {l l' : List Slot} {i : Nat} {x : Slot} (h : lsetAt l i x = some l') : l'.length = l.length := by
  unfold lsetAt at h; split at h
  · cases h; simp
  · cases h
theorem lstoreSelf_len {l l' : List Slot} {i : Nat} {v : Value} (h : lstoreSelf l i v = some l') : l'.length = l.length := by
  unfold lstoreSelf at h
  split at h
  · cases h
  · rename_i l1 h1
    have e1 := lsetAt_len h1
    split at h
    · split at h
      · cases h
      · split at h
        · split at h
          · cases h
          · rename_i h2; rw [lsetAt_len h, lsetAt_len h2, e1]
        · rw [lsetAt_len h, e1]
      · rw [lsetAt_len h, e1]
    · cases h; exact e1
theorem mst_len {l l' : List Slot} {i : Nat} {v : Value} (h : mst l i v = some l') : l'.length = l.length := by
  unfold mst at h
  split at h
  · cases h
  · split at h
    · cases h
    · rename_i h2; rw [lstoreSelf_len h, lsetAt_len h2]
  · split at h
    · split at h
      · cases h
      · rename_i h2; rw [lstoreSelf_len h, lsetAt_len h2]
    · exact lstoreSelf_len h
  · exact lstoreSelf_len h
theorem st_of {G : Ctx} {l l' : List Slot} {i : Nat} {v : Value} (h : mst l i v = some l') : storeLocals (arL G l) i (tr G v) = some (arL G l') := by rw [mst_map, h]; rfl
theorem ld_of {G : Ctx} {l : List Slot} {i : Nat} {s : Slot} (h : l[i]? = some s) : (arL G l)[i]? = some (trS G s) := by rw [arL_get, h]; rfl
/-! ## 3. What a run of a body from a point does -/
def Ev (G : Ctx) (M : Mi) (pc : Nat) (L : List Slot) (S : List Value) (h : MHeap) (r : Option Value × MHeap) : Prop :=
  (h.length ≤ r.2.length ∧ hsl (gK G) h ≤ hsl (gK G) r.2) ∧
  ∀ (p : Program) (e : Env) (R : Room) (s : State) (m : MethodId) (args : Array Value) (below : List Frame) (meth : Method) (c : Code) (T : State) (locs : List Loc) (cells slots : Nat),
    Stand p (gL G) e R s m args below meth c T locs cells slots → p.tables.exec = Jvm.exec → (gZ G).Warmed39 s.vm → s.vm.findClass (mN M).cls = some m.cls →
    c.code = mB M → c.maxLocals = mL M → meth.sig.returnType = mR M → meth.name = (mN M).name → L.length = mL M → mF M ≤ R.frames → mW M ≤ R.locals →
    s.heap.size + cells = T.heap.size → Rel G T.heap h → Fr (gN G) locs → cells + (r.2.length - h.length) ≤ R.cells → slots + (hsl (gK G) r.2 - hsl (gK G) h) ≤ R.slots →
    ∃ T' locs', Stand p (gL G) e R s m args below meth c T' locs' (cells + (r.2.length - h.length)) (slots + (hsl (gK G) r.2 - hsl (gK G) h)) ∧ Rel G T'.heap r.2 ∧ Fr (gN G) locs' ∧
      ∀ fs, (∀ (f : JFrame) (acts : List Action), f.method = m → f.locked = none → f.entered = [] → (doReturn e (T'.setTop f) acts (r.1.map (tr G))).1 = T'.setFrames fs) →
        Steps p.tables e below (T.setTop (mkF m pc (arL G L) (S.map (tr G)))) (T'.setFrames fs)
/-- a whole call -/
def EvC (G : Ctx) (y : Mi) (args : List Value) (h : MHeap) (r : Option Value × MHeap) : Prop :=
  (h.length ≤ r.2.length ∧ hsl (gK G) h ≤ hsl (gK G) r.2) ∧
  ∀ (ws : List Jvm.Cond) (R : Room) (hr : Heap), mF y ≤ R.frames → mW y ≤ R.locals → r.2.length - h.length ≤ R.cells → hsl (gK G) r.2 - hsl (gK G) h ≤ R.slots → Rel G hr h →
    MetFree (gL G) (mN y) (head1 (Jvm.Cond.code (mN y) (mB y) (mL y) (mR y) :: ws) R) (fun a U => a = (args.map (tr G)).toArray ∧ (gZ G).Warmed39 U.vm ∧ U.heap = hr) (fun _ _ _ _ _ => True)
      (fun _ U o U' => ∃ v L, o = .returned v ∧ (v = r.1.map (tr G) ∧ Fr (gN G) L ∧ Rel G U'.heap r.2) ∧ FrameEnd U o U' L (r.2.length - h.length) (hsl (gK G) r.2 - hsl (gK G) h))
section Rules
variable {G : Ctx} {M : Mi} {pc : Nat} {L : List Slot} {S : List Value} {h : MHeap} {r : Option Value × MHeap}
theorem Ev.gen {pc' : Nat} {L' : List Slot} {S' : List Value} {h' : MHeap} (hm1 : h.length ≤ h'.length) (hm2 : hsl (gK G) h ≤ hsl (gK G) h') (hL : L'.length = L.length) (hn : Ev G M pc' L' S' h' r)
    (st : ∀ {p : Program} {e : Env} {R : Room} {s : State} {m : MethodId} {args : Array Value} {below : List Frame} {meth : Method} {c : Code} {T : State} {locs : List Loc} {cells slots : Nat},
      Stand p (gL G) e R s m args below meth c T locs cells slots → p.tables.exec = Jvm.exec → (gZ G).Warmed39 s.vm → s.vm.findClass (mN M).cls = some m.cls →
      c.code = mB M → c.maxLocals = mL M → meth.name = (mN M).name → L.length = mL M → mF M ≤ R.frames → mW M ≤ R.locals →
      s.heap.size + cells = T.heap.size → Rel G T.heap h → Fr (gN G) locs → cells + (h'.length - h.length) ≤ R.cells → slots + (hsl (gK G) h' - hsl (gK G) h) ≤ R.slots →
      ∃ T' locs', Stand p (gL G) e R s m args below meth c T' locs' (cells + (h'.length - h.length)) (slots + (hsl (gK G) h' - hsl (gK G) h)) ∧ Rel G T'.heap h' ∧ Fr (gN G) locs' ∧
        ∀ target, Steps p.tables e below (T'.setTop (mkF m pc' (arL G L') (S'.map (tr G)))) target → Steps p.tables e below (T.setTop (mkF m pc (arL G L) (S.map (tr G)))) target) :
    Ev G M pc L S h r := by
  obtain ⟨⟨g1, g2⟩, hn⟩ := hn
  refine ⟨⟨Nat.le_trans hm1 g1, Nat.le_trans hm2 g2⟩, ?_⟩
  intro p e R s m args below meth c T locs cells slots X hx hZ hown hby hml hret hnm hLm hfr hlo hsz hR hF hc hs
  obtain ⟨T1, locs1, X1, R1, F1, st1⟩ := st X hx hZ hown hby hml hnm hLm hfr hlo hsz hR hF (by omega) (by omega)
  have hsz1 : s.heap.size + (cells + (h'.length - h.length)) = T1.heap.size := by
    have a1 := hR.1
    have a2 := R1.1
    omega
  obtain ⟨T2, locs2, X2, R2, F2, st2⟩ := hn p e R s m args below meth c T1 locs1 _ _ X1 hx hZ hown hby hml hret hnm (hL.trans hLm) hfr hlo hsz1 R1 F1 (by omega) (by omega)
  refine ⟨T2, locs2, ?_, R2, F2, fun fs hl => st1 _ (st2 fs hl)⟩
  have e1 : cells + (h'.length - h.length) + (r.2.length - h'.length) = cells + (r.2.length - h.length) := by omega
  have e2 : slots + (hsl (gK G) h' - hsl (gK G) h) + (hsl (gK G) r.2 - hsl (gK G) h') = slots + (hsl (gK G) r.2 - hsl (gK G) h) := by omega
  rw [e1, e2] at X2
  exact X2
/-- a step that leaves the heap -/
theorem Ev.same {pc' : Nat} {L' : List Slot} {S' : List Value} (hL : L'.length = L.length) (hn : Ev G M pc' L' S' h r)
    (st : ∀ {p : Program} {e : Env} {R : Room} {s : State} {m : MethodId} {args : Array Value} {below : List Frame} {meth : Method} {c : Code} {T : State} {locs : List Loc} {cells slots : Nat},
      Stand p (gL G) e R s m args below meth c T locs cells slots → p.tables.exec = Jvm.exec → (gZ G).Warmed39 s.vm → s.vm.findClass (mN M).cls = some m.cls →
      c.code = mB M → c.maxLocals = mL M → L.length = mL M → mF M ≤ R.frames → mW M ≤ R.locals → Rel G T.heap h →
      ∃ T', Stand p (gL G) e R s m args below meth c T' locs cells slots ∧ T'.heap = T.heap ∧
        ∀ target, Steps p.tables e below (T'.setTop (mkF m pc' (arL G L') (S'.map (tr G)))) target → Steps p.tables e below (T.setTop (mkF m pc (arL G L) (S.map (tr G)))) target) :
    Ev G M pc L S h r := by
  refine Ev.gen (Nat.le_refl _) (Nat.le_refl _) hL hn ?_
  intro p e R s m args below meth c T locs cells slots X hx hZ hown hby hml hnm hLm hfr hlo hsz hR hF hc hs
  obtain ⟨T', X', e', st'⟩ := st X hx hZ hown hby hml hLm hfr hlo hR
  refine ⟨T', locs, ?_, by rw [e']; exact hR, hF, st'⟩
  rw [Nat.sub_self, Nat.sub_self, Nat.add_zero, Nat.add_zero]
  exact X'
/-- a step that leaves all but the frame -/
theorem Ev.pure {pc' : Nat} {L' : List Slot} {S' : List Value} (hL : L'.length = L.length) (hn : Ev G M pc' L' S' h r)
    (st : ∀ {p : Program} {e : Env} {R : Room} {s : State} {m : MethodId} {args : Array Value} {below : List Frame} {meth : Method} {c : Code} {T : State} {locs : List Loc} {cells slots : Nat},
      Stand p (gL G) e R s m args below meth c T locs cells slots → p.tables.exec = Jvm.exec → (gZ G).Warmed39 s.vm → s.vm.findClass (mN M).cls = some m.cls →
      c.code = mB M → ∀ target, Steps p.tables e below (T.setTop (mkF m pc' (arL G L') (S'.map (tr G)))) target → Steps p.tables e below (T.setTop (mkF m pc (arL G L) (S.map (tr G)))) target) :
    Ev G M pc L S h r :=
  Ev.same hL hn fun {p e R s m args below meth c T locs cells slots} X hx hZ hown hby hml hLm hfr hlo hR => ⟨T, X, rfl, st X hx hZ hown hby⟩
/-! ### loads, stores, constants -/
theorem Ev.iload {k : Nat} {v : Int32} (hd : decode (mB M) pc = .ok (.iload k, 2)) (hl : L[k]? = some (.val (.int v))) (hn : Ev G M (pc + 2) L (.int v :: S) h r) : Ev G M pc L S h r :=
  Ev.pure rfl hn fun {_ _ _ _ m _ _ _ _ _ _ _ _} X hx hZ hown hby target q => XS.iload (g := mkF m pc (arL G L) (List.map (tr G) S)) X.here hx rfl (hb hby hd) (ld_of hl) q
theorem Ev.iloadN {k : Fin 4} {v : Int32} (hd : decode (mB M) pc = .ok (.iload_n k, 1)) (hl : L[k.val]? = some (.val (.int v))) (hn : Ev G M (pc + 1) L (.int v :: S) h r) : Ev G M pc L S h r :=
  Ev.pure rfl hn fun {_ _ _ _ m _ _ _ _ _ _ _ _} X hx hZ hown hby target q => XS.iloadN (g := mkF m pc (arL G L) (List.map (tr G) S)) X.here hx rfl (hb hby hd) (ld_of hl) q
theorem Ev.aload {k : Nat} {v : Nat} (hd : decode (mB M) pc = .ok (.aload k, 2)) (hl : L[k]? = some (.val (.ref v))) (hn : Ev G M (pc + 2) L (.ref v :: S) h r) : Ev G M pc L S h r :=
  Ev.pure rfl hn fun {_ _ _ _ m _ _ _ _ _ _ _ _} X hx hZ hown hby target q => XS.aload (g := mkF m pc (arL G L) (List.map (tr G) S)) X.here hx rfl (hb hby hd) (ld_of hl) rfl q
theorem Ev.aloadN {k : Fin 4} {v : Nat} (hd : decode (mB M) pc = .ok (.aload_n k, 1)) (hl : L[k.val]? = some (.val (.ref v))) (hn : Ev G M (pc + 1) L (.ref v :: S) h r) : Ev G M pc L S h r :=
  Ev.pure rfl hn fun {_ _ _ _ m _ _ _ _ _ _ _ _} X hx hZ hown hby target q => XS.aloadN (g := mkF m pc (arL G L) (List.map (tr G) S)) X.here hx rfl (hb hby hd) (ld_of hl) rfl q
theorem Ev.lload {k : Nat} {v : Int64} (hd : decode (mB M) pc = .ok (.lload k, 2)) (hl : L[k]? = some (.val (.long v))) (hn : Ev G M (pc + 2) L (.long v :: S) h r) : Ev G M pc L S h r :=
  Ev.pure rfl hn fun {_ _ _ _ m _ _ _ _ _ _ _ _} X hx hZ hown hby target q => XT.lload (g := mkF m pc (arL G L) (List.map (tr G) S)) X.here hx rfl (hb hby hd) (ld_of hl) q
theorem Ev.lloadN {k : Fin 4} {v : Int64} (hd : decode (mB M) pc = .ok (.lload_n k, 1)) (hl : L[k.val]? = some (.val (.long v))) (hn : Ev G M (pc + 1) L (.long v :: S) h r) : Ev G M pc L S h r :=
  Ev.pure rfl hn fun {_ _ _ _ m _ _ _ _ _ _ _ _} X hx hZ hown hby target q => XT.lloadN (g := mkF m pc (arL G L) (List.map (tr G) S)) X.here hx rfl (hb hby hd) (ld_of hl) q
theorem Ev.istore {k : Nat} {v : Int32} {L' : List Slot} (hd : decode (mB M) pc = .ok (.istore k, 2)) (hl : mst L k (.int v) = some L') (hn : Ev G M (pc + 2) L' S h r) : Ev G M pc L (.int v :: S) h r :=
  Ev.pure (mst_len hl) hn fun {_ _ _ _ m _ _ _ _ _ _ _ _} X hx hZ hown hby target q => XS.istore (g := mkF m pc (arL G L) (List.map (tr G) (Value.int v :: S))) X.here hx rfl (hb hby hd) rfl (st_of hl) q
theorem Ev.istoreN {k : Fin 4} {v : Int32} {L' : List Slot} (hd : decode (mB M) pc = .ok (.istore_n k, 1)) (hl : mst L k.val (.int v) = some L') (hn : Ev G M (pc + 1) L' S h r) : Ev G M pc L (.int v :: S) h r :=
  Ev.pure (mst_len hl) hn fun {_ _ _ _ m _ _ _ _ _ _ _ _} X hx hZ hown hby target q => XS.istoreN (g := mkF m pc (arL G L) (List.map (tr G) (Value.int v :: S))) X.here hx rfl (hb hby hd) rfl (st_of hl) q
theorem Ev.astore {k v : Nat} {L' : List Slot} (hd : decode (mB M) pc = .ok (.astore k, 2)) (hl : mst L k (.ref v) = some L') (hn : Ev G M (pc + 2) L' S h r) : Ev G M pc L (.ref v :: S) h r :=
  Ev.pure (mst_len hl) hn fun {_ _ _ _ m _ _ _ _ _ _ _ _} X hx hZ hown hby target q => XS.astore (g := mkF m pc (arL G L) (List.map (tr G) (Value.ref v :: S))) X.here hx rfl (hb hby hd) rfl rfl (st_of hl) q
theorem Ev.astoreN {k : Fin 4} {v : Nat} {L' : List Slot} (hd : decode (mB M) pc = .ok (.astore_n k, 1)) (hl : mst L k.val (.ref v) = some L') (hn : Ev G M (pc + 1) L' S h r) : Ev G M pc L (.ref v :: S) h r :=
  Ev.pure (mst_len hl) hn fun {_ _ _ _ m _ _ _ _ _ _ _ _} X hx hZ hown hby target q => XS.astoreN (g := mkF m pc (arL G L) (List.map (tr G) (Value.ref v :: S))) X.here hx rfl (hb hby hd) rfl rfl (st_of hl) q
theorem Ev.lstore {k : Nat} {v : Int64} {L' : List Slot} (hd : decode (mB M) pc = .ok (.lstore k, 2)) (hl : mst L k (.long v) = some L') (hn : Ev G M (pc + 2) L' S h r) : Ev G M pc L (.long v :: S) h r :=
  Ev.pure (mst_len hl) hn fun {_ _ _ _ m _ _ _ _ _ _ _ _} X hx hZ hown hby target q => XT.lstore (g := mkF m pc (arL G L) (List.map (tr G) (Value.long v :: S))) X.here hx rfl (hb hby hd) rfl (st_of hl) q
theorem Ev.lstoreN {k : Fin 4} {v : Int64} {L' : List Slot} (hd : decode (mB M) pc = .ok (.lstore_n k, 1)) (hl : mst L k.val (.long v) = some L') (hn : Ev G M (pc + 1) L' S h r) : Ev G M pc L (.long v :: S) h r :=
  Ev.pure (mst_len hl) hn fun {_ _ _ _ m _ _ _ _ _ _ _ _} X hx hZ hown hby target q => XT.lstoreN (g := mkF m pc (arL G L) (List.map (tr G) (Value.long v :: S))) X.here hx rfl (hb hby hd) rfl (st_of hl) q
theorem Ev.iconst {i : Int} {z : Int32} (hd : decode (mB M) pc = .ok (.iconst i, 1)) (hz : Int32.ofInt i = z) (hn : Ev G M (pc + 1) L (.int z :: S) h r) : Ev G M pc L S h r :=
  Ev.pure rfl (hz ▸ hn) fun {_ _ _ _ m _ _ _ _ _ _ _ _} X hx hZ hown hby target q => XS.iconst (g := mkF m pc (arL G L) (List.map (tr G) S)) X.here hx rfl (hb hby hd) q
theorem Ev.bipush {i : Int} {z : Int32} (hd : decode (mB M) pc = .ok (.bipush i, 2)) (hz : (Int8.ofInt i).toInt32 = z) (hn : Ev G M (pc + 2) L (.int z :: S) h r) : Ev G M pc L S h r :=
  Ev.pure rfl (hz ▸ hn) fun {_ _ _ _ m _ _ _ _ _ _ _ _} X hx hZ hown hby target q => XS.bipush (g := mkF m pc (arL G L) (List.map (tr G) S)) X.here hx rfl (hb hby hd) q
theorem Ev.sipush {i : Int} {z : Int32} (hd : decode (mB M) pc = .ok (.sipush i, 3)) (hz : (Int16.ofInt i).toInt32 = z) (hn : Ev G M (pc + 3) L (.int z :: S) h r) : Ev G M pc L S h r :=
  Ev.pure rfl (hz ▸ hn) fun {_ _ _ _ m _ _ _ _ _ _ _ _} X hx hZ hown hby target q => XS.sipush (g := mkF m pc (arL G L) (List.map (tr G) S)) X.here hx rfl (hb hby hd) q
theorem Ev.lconst {k : Fin 2} {z : Int64} (hd : decode (mB M) pc = .ok (.lconst k, 1)) (hz : Int64.ofNat k = z) (hn : Ev G M (pc + 1) L (.long z :: S) h r) : Ev G M pc L S h r :=
  Ev.pure rfl (hz ▸ hn) fun {_ _ _ _ m _ _ _ _ _ _ _ _} X hx hZ hown hby target q => XT.lconst (g := mkF m pc (arL G L) (List.map (tr G) S)) X.here hx rfl (hb hby hd) q
theorem Ev.ldc {k : Nat} {v : Int32} (w : (Jvm.Cond.constant (mN M).cls k v).before (gA G) (gZ G) = true) (hd : decode (mB M) pc = .ok (.ldc k, 2)) (hn : Ev G M (pc + 2) L (.int v :: S) h r) : Ev G M pc L S h r :=
  Ev.pure rfl hn fun {_ _ _ _ m _ _ _ _ _ _ _ _} X hx hZ hown hby target q => X.ldcInt hx hown (mvT hZ w) (g := mkF m pc (arL G L) (List.map (tr G) S)) rfl (hb hby hd) target q
theorem Ev.ldcW {k : Nat} {v : Int32} (w : (Jvm.Cond.constant (mN M).cls k v).before (gA G) (gZ G) = true) (hd : decode (mB M) pc = .ok (.ldc_w k, 3)) (hn : Ev G M (pc + 3) L (.int v :: S) h r) : Ev G M pc L S h r :=
  Ev.pure rfl hn fun {_ _ _ _ m _ _ _ _ _ _ _ _} X hx hZ hown hby target q => X.ldcwInt hx hown (mvT hZ w) (g := mkF m pc (arL G L) (List.map (tr G) S)) rfl (hb hby hd) target q
theorem Ev.ldcL {k : Nat} {v : Int64} (w : (Jvm.Cond.constantLong (mN M).cls k v).before (gA G) (gZ G) = true) (hd : decode (mB M) pc = .ok (.ldc2_w k, 3)) (hn : Ev G M (pc + 3) L (.long v :: S) h r) : Ev G M pc L S h r :=
  Ev.pure rfl hn fun {_ _ _ _ m _ _ _ _ _ _ _ _} X hx hZ hown hby target q => X.ldc2Long hx hown (mvT hZ w) (g := mkF m pc (arL G L) (List.map (tr G) S)) rfl (hb hby hd) target q
/-! ### reckoning -/
theorem Ev.iadd {x y : Int32} (hd : decode (mB M) pc = .ok (.iadd, 1)) (hn : Ev G M (pc + 1) L (.int (x + y) :: S) h r) : Ev G M pc L (.int y :: .int x :: S) h r :=
  Ev.pure rfl hn fun {_ _ _ _ m _ _ _ _ _ _ _ _} X hx hZ hown hby target q => XS.iadd (g := mkF m pc (arL G L) (List.map (tr G) (Value.int y :: Value.int x :: S))) X.here hx rfl (hb hby hd) rfl q
theorem Ev.isub {x y : Int32} (hd : decode (mB M) pc = .ok (.isub, 1)) (hn : Ev G M (pc + 1) L (.int (x - y) :: S) h r) : Ev G M pc L (.int y :: .int x :: S) h r :=
  Ev.pure rfl hn fun {_ _ _ _ m _ _ _ _ _ _ _ _} X hx hZ hown hby target q => XS.isub (g := mkF m pc (arL G L) (List.map (tr G) (Value.int y :: Value.int x :: S))) X.here hx rfl (hb hby hd) rfl q
theorem Ev.imul {x y : Int32} (hd : decode (mB M) pc = .ok (.imul, 1)) (hn : Ev G M (pc + 1) L (.int (x * y) :: S) h r) : Ev G M pc L (.int y :: .int x :: S) h r :=
  Ev.pure rfl hn fun {_ _ _ _ m _ _ _ _ _ _ _ _} X hx hZ hown hby target q => XS.imul (g := mkF m pc (arL G L) (List.map (tr G) (Value.int y :: Value.int x :: S))) X.here hx rfl (hb hby hd) rfl q
theorem Ev.idiv {x y : Int32} (hd : decode (mB M) pc = .ok (.idiv, 1)) (hy : y ≠ 0) (hn : Ev G M (pc + 1) L (.int (x / y) :: S) h r) : Ev G M pc L (.int y :: .int x :: S) h r :=
  Ev.pure rfl hn fun {_ _ _ _ m _ _ _ _ _ _ _ _} X hx hZ hown hby target q => XS.idiv (g := mkF m pc (arL G L) (List.map (tr G) (Value.int y :: Value.int x :: S))) X.here hx rfl (hb hby hd) rfl hy q
theorem Ev.irem {x y : Int32} (hd : decode (mB M) pc = .ok (.irem, 1)) (hy : y ≠ 0) (hn : Ev G M (pc + 1) L (.int (x % y) :: S) h r) : Ev G M pc L (.int y :: .int x :: S) h r :=
  Ev.pure rfl hn fun {_ _ _ _ m _ _ _ _ _ _ _ _} X hx hZ hown hby target q => iremM (g := mkF m pc (arL G L) (List.map (tr G) (Value.int y :: Value.int x :: S))) X hx rfl (hb hby hd) rfl hy q
theorem Ev.ineg {x : Int32} (hd : decode (mB M) pc = .ok (.ineg, 1)) (hn : Ev G M (pc + 1) L (.int (-x) :: S) h r) : Ev G M pc L (.int x :: S) h r :=
  Ev.pure rfl hn fun {_ _ _ _ m _ _ _ _ _ _ _ _} X hx hZ hown hby target q => XS.ineg (g := mkF m pc (arL G L) (List.map (tr G) (Value.int x :: S))) X.here hx rfl (hb hby hd) rfl q
theorem Ev.iand {x y : Int32} (hd : decode (mB M) pc = .ok (.iand, 1)) (hn : Ev G M (pc + 1) L (.int (x &&& y) :: S) h r) : Ev G M pc L (.int y :: .int x :: S) h r :=
  Ev.pure rfl hn fun {_ _ _ _ m _ _ _ _ _ _ _ _} X hx hZ hown hby target q => XS.iand (g := mkF m pc (arL G L) (List.map (tr G) (Value.int y :: Value.int x :: S))) X.here hx rfl (hb hby hd) rfl q
theorem Ev.ior {x y : Int32} (hd : decode (mB M) pc = .ok (.ior, 1)) (hn : Ev G M (pc + 1) L (.int (x ||| y) :: S) h r) : Ev G M pc L (.int y :: .int x :: S) h r :=
  Ev.pure rfl hn fun {_ _ _ _ m _ _ _ _ _ _ _ _} X hx hZ hown hby target q => XT.ior (g := mkF m pc (arL G L) (List.map (tr G) (Value.int y :: Value.int x :: S))) X.here hx rfl (hb hby hd) rfl q
theorem Ev.ixor {x y : Int32} (hd : decode (mB M) pc = .ok (.ixor, 1)) (hn : Ev G M (pc + 1) L (.int (x ^^^ y) :: S) h r) : Ev G M pc L (.int y :: .int x :: S) h r :=
  Ev.pure rfl hn fun {_ _ _ _ m _ _ _ _ _ _ _ _} X hx hZ hown hby target q => XT.ixor (g := mkF m pc (arL G L) (List.map (tr G) (Value.int y :: Value.int x :: S))) X.here hx rfl (hb hby hd) rfl q
theorem Ev.ishl {x y : Int32} (hd : decode (mB M) pc = .ok (.ishl, 1)) (hn : Ev G M (pc + 1) L (.int (x <<< (y &&& 31)) :: S) h r) : Ev G M pc L (.int y :: .int x :: S) h r :=
  Ev.pure rfl hn fun {_ _ _ _ m _ _ _ _ _ _ _ _} X hx hZ hown hby target q => XT.ishl (g := mkF m pc (arL G L) (List.map (tr G) (Value.int y :: Value.int x :: S))) X.here hx rfl (hb hby hd) rfl q
theorem Ev.ishr {x y : Int32} (hd : decode (mB M) pc = .ok (.ishr, 1)) (hn : Ev G M (pc + 1) L (.int (x >>> (y &&& 31)) :: S) h r) : Ev G M pc L (.int y :: .int x :: S) h r :=
  Ev.pure rfl hn fun {_ _ _ _ m _ _ _ _ _ _ _ _} X hx hZ hown hby target q => XT.ishr (g := mkF m pc (arL G L) (List.map (tr G) (Value.int y :: Value.int x :: S))) X.here hx rfl (hb hby hd) rfl q
theorem Ev.iushr {x y : Int32} (hd : decode (mB M) pc = .ok (.iushr, 1)) (hn : Ev G M (pc + 1) L (.int (XT.ushr x y) :: S) h r) : Ev G M pc L (.int y :: .int x :: S) h r :=
  Ev.pure rfl hn fun {_ _ _ _ m _ _ _ _ _ _ _ _} X hx hZ hown hby target q => XT.iushr (g := mkF m pc (arL G L) (List.map (tr G) (Value.int y :: Value.int x :: S))) X.here hx rfl (hb hby hd) rfl q
theorem Ev.ladd {x y : Int64} (hd : decode (mB M) pc = .ok (.ladd, 1)) (hn : Ev G M (pc + 1) L (.long (x + y) :: S) h r) : Ev G M pc L (.long y :: .long x :: S) h r :=
  Ev.pure rfl hn fun {_ _ _ _ m _ _ _ _ _ _ _ _} X hx hZ hown hby target q => XT.ladd (g := mkF m pc (arL G L) (List.map (tr G) (Value.long y :: Value.long x :: S))) X.here hx rfl (hb hby hd) rfl q
theorem Ev.lsub {x y : Int64} (hd : decode (mB M) pc = .ok (.lsub, 1)) (hn : Ev G M (pc + 1) L (.long (x - y) :: S) h r) : Ev G M pc L (.long y :: .long x :: S) h r :=
  Ev.pure rfl hn fun {_ _ _ _ m _ _ _ _ _ _ _ _} X hx hZ hown hby target q => XT.lsub (g := mkF m pc (arL G L) (List.map (tr G) (Value.long y :: Value.long x :: S))) X.here hx rfl (hb hby hd) rfl q
theorem Ev.lmul {x y : Int64} (hd : decode (mB M) pc = .ok (.lmul, 1)) (hn : Ev G M (pc + 1) L (.long (x * y) :: S) h r) : Ev G M pc L (.long y :: .long x :: S) h r :=
  Ev.pure rfl hn fun {_ _ _ _ m _ _ _ _ _ _ _ _} X hx hZ hown hby target q => XT.lmul (g := mkF m pc (arL G L) (List.map (tr G) (Value.long y :: Value.long x :: S))) X.here hx rfl (hb hby hd) rfl q
theorem Ev.ldiv {x y : Int64} (hd : decode (mB M) pc = .ok (.ldiv, 1)) (hy : y ≠ 0) (hn : Ev G M (pc + 1) L (.long (x / y) :: S) h r) : Ev G M pc L (.long y :: .long x :: S) h r :=
  Ev.pure rfl hn fun {_ _ _ _ m _ _ _ _ _ _ _ _} X hx hZ hown hby target q => XT.ldiv (g := mkF m pc (arL G L) (List.map (tr G) (Value.long y :: Value.long x :: S))) X.here hx rfl (hb hby hd) rfl hy q
theorem Ev.lneg {x : Int64} (hd : decode (mB M) pc = .ok (.lneg, 1)) (hn : Ev G M (pc + 1) L (.long (-x) :: S) h r) : Ev G M pc L (.long x :: S) h r :=
  Ev.pure rfl hn fun {_ _ _ _ m _ _ _ _ _ _ _ _} X hx hZ hown hby target q => XT.lneg (g := mkF m pc (arL G L) (List.map (tr G) (Value.long x :: S))) X.here hx rfl (hb hby hd) rfl q
theorem Ev.land {x y : Int64} (hd : decode (mB M) pc = .ok (.land, 1)) (hn : Ev G M (pc + 1) L (.long (x &&& y) :: S) h r) : Ev G M pc L (.long y :: .long x :: S) h r :=
  Ev.pure rfl hn fun {_ _ _ _ m _ _ _ _ _ _ _ _} X hx hZ hown hby target q => XT.land (g := mkF m pc (arL G L) (List.map (tr G) (Value.long y :: Value.long x :: S))) X.here hx rfl (hb hby hd) rfl q
theorem Ev.lor {x y : Int64} (hd : decode (mB M) pc = .ok (.lor, 1)) (hn : Ev G M (pc + 1) L (.long (x ||| y) :: S) h r) : Ev G M pc L (.long y :: .long x :: S) h r :=
  Ev.pure rfl hn fun {_ _ _ _ m _ _ _ _ _ _ _ _} X hx hZ hown hby target q => XT.lor (g := mkF m pc (arL G L) (List.map (tr G) (Value.long y :: Value.long x :: S))) X.here hx rfl (hb hby hd) rfl q
theorem Ev.lxor {x y : Int64} (hd : decode (mB M) pc = .ok (.lxor, 1)) (hn : Ev G M (pc + 1) L (.long (x ^^^ y) :: S) h r) : Ev G M pc L (.long y :: .long x :: S) h r :=
  Ev.pure rfl hn fun {_ _ _ _ m _ _ _ _ _ _ _ _} X hx hZ hown hby target q => XT.lxor (g := mkF m pc (arL G L) (List.map (tr G) (Value.long y :: Value.long x :: S))) X.here hx rfl (hb hby hd) rfl q
theorem Ev.lshl {x : Int64} {y : Int32} (hd : decode (mB M) pc = .ok (.lshl, 1)) (hn : Ev G M (pc + 1) L (.long (x <<< (y.toInt64 &&& 63)) :: S) h r) : Ev G M pc L (.int y :: .long x :: S) h r :=
  Ev.pure rfl hn fun {_ _ _ _ m _ _ _ _ _ _ _ _} X hx hZ hown hby target q => XT.lshl (g := mkF m pc (arL G L) (List.map (tr G) (Value.int y :: Value.long x :: S))) X.here hx rfl (hb hby hd) rfl q
theorem Ev.lushr {x : Int64} {y : Int32} (hd : decode (mB M) pc = .ok (.lushr, 1)) (hn : Ev G M (pc + 1) L (.long (XT.ushrL x y) :: S) h r) : Ev G M pc L (.int y :: .long x :: S) h r :=
  Ev.pure rfl hn fun {_ _ _ _ m _ _ _ _ _ _ _ _} X hx hZ hown hby target q => XT.lushr (g := mkF m pc (arL G L) (List.map (tr G) (Value.int y :: Value.long x :: S))) X.here hx rfl (hb hby hd) rfl q
theorem Ev.lcmp {x y : Int64} (hd : decode (mB M) pc = .ok (.lcmp, 1)) (hn : Ev G M (pc + 1) L (.int (XT.cmpL x y) :: S) h r) : Ev G M pc L (.long y :: .long x :: S) h r :=
  Ev.pure rfl hn fun {_ _ _ _ m _ _ _ _ _ _ _ _} X hx hZ hown hby target q => XT.lcmp (g := mkF m pc (arL G L) (List.map (tr G) (Value.long y :: Value.long x :: S))) X.here hx rfl (hb hby hd) rfl q
theorem Ev.i2l {x : Int32} (hd : decode (mB M) pc = .ok (.i2l, 1)) (hn : Ev G M (pc + 1) L (.long x.toInt64 :: S) h r) : Ev G M pc L (.int x :: S) h r :=
  Ev.pure rfl hn fun {_ _ _ _ m _ _ _ _ _ _ _ _} X hx hZ hown hby target q => XT.i2l (g := mkF m pc (arL G L) (List.map (tr G) (Value.int x :: S))) X.here hx rfl (hb hby hd) rfl q
theorem Ev.l2i {x : Int64} (hd : decode (mB M) pc = .ok (.l2i, 1)) (hn : Ev G M (pc + 1) L (.int x.toInt32 :: S) h r) : Ev G M pc L (.long x :: S) h r :=
  Ev.pure rfl hn fun {_ _ _ _ m _ _ _ _ _ _ _ _} X hx hZ hown hby target q => XT.l2i (g := mkF m pc (arL G L) (List.map (tr G) (Value.long x :: S))) X.here hx rfl (hb hby hd) rfl q
theorem Ev.i2b {x : Int32} (hd : decode (mB M) pc = .ok (.i2b, 1)) (hn : Ev G M (pc + 1) L (.int x.toInt8.toInt32 :: S) h r) : Ev G M pc L (.int x :: S) h r :=
  Ev.pure rfl hn fun {_ _ _ _ m _ _ _ _ _ _ _ _} X hx hZ hown hby target q => XT.i2b (g := mkF m pc (arL G L) (List.map (tr G) (Value.int x :: S))) X.here hx rfl (hb hby hd) rfl q
theorem Ev.iinc {k : Nat} {i : Int} {x z : Int32} {L' : List Slot} (hd : decode (mB M) pc = .ok (.iinc k i, 3)) (hl : L[k]? = some (.val (.int x))) (hz : Int32.ofInt i = z) (hl' : mst L k (.int (x + z)) = some L') (hn : Ev G M (pc + 3) L' S h r) : Ev G M pc L S h r :=
  Ev.pure (mst_len hl') hn fun {_ _ _ _ m _ _ _ _ _ _ _ _} X hx hZ hown hby target q => XS.iinc (g := mkF m pc (arL G L) (List.map (tr G) S)) X.here hx rfl (hb hby hd) (ld_of hl) (by rw [hz]; exact st_of hl') q
theorem iincW {tb : Tables} [Ours tb] {e : Env} {below : List Frame} {T target : State} {m : MethodId} {c : Code} {g : JFrame} (h : At T m c below) (hx : tb.exec = Jvm.exec) (hg : g.method = m) {k : Nat} {cst : Int} {x : Int32} {l' : Array Slot} (hd : decode c.code g.pc = .ok (.iinc k cst, 6)) (hl : g.locals[k]? = some (.val (.int x))) (hl' : storeLocals g.locals k (.int (x + Int32.ofInt cst)) = some l')
    (hr : Steps tb e below (T.setTop { g with pc := g.pc + 6, locals := l' }) target) : Steps tb e below (T.setTop g) target := by
  subst hg
  jvm_step h [h.top, hx, hd, hl, hl']
  exact hr
theorem Ev.iincW {k : Nat} {i : Int} {x z : Int32} {L' : List Slot} (hd : decode (mB M) pc = .ok (.iinc k i, 6)) (hl : L[k]? = some (.val (.int x))) (hz : Int32.ofInt i = z) (hl' : mst L k (.int (x + z)) = some L') (hn : Ev G M (pc + 6) L' S h r) : Ev G M pc L S h r :=
  Ev.pure (mst_len hl') hn fun {_ _ _ _ m _ _ _ _ _ _ _ _} X hx hZ hown hby target q => Own.iincW (g := mkF m pc (arL G L) (List.map (tr G) S)) X.here hx rfl (hb hby hd) (ld_of hl) (by rw [hz]; exact st_of hl') q
theorem Ev.dup {x : Value} (hd : decode (mB M) pc = .ok (.dup, 1)) (hc : x.category = 1) (hn : Ev G M (pc + 1) L (x :: x :: S) h r) : Ev G M pc L (x :: S) h r :=
  Ev.pure rfl hn fun {_ _ _ _ m _ _ _ _ _ _ _ _} X hx hZ hown hby target q => XS.dup (g := mkF m pc (arL G L) (List.map (tr G) (x :: S))) X.here hx rfl (hb hby hd) rfl ((tr_cat G x).trans hc) q
theorem Ev.dup2 {x y : Value} (hd : decode (mB M) pc = .ok (.dup2, 1)) (hc : x.category = 1) (hc' : y.category = 1) (hn : Ev G M (pc + 1) L (x :: y :: x :: y :: S) h r) : Ev G M pc L (x :: y :: S) h r :=
  Ev.pure rfl hn fun {_ _ _ _ m _ _ _ _ _ _ _ _} X hx hZ hown hby target q => XT.dup2 (g := mkF m pc (arL G L) (List.map (tr G) (x :: y :: S))) X.here hx rfl (hb hby hd) rfl ((tr_cat G x).trans hc) ((tr_cat G y).trans hc') q
theorem Ev.pop {x : Value} (hd : decode (mB M) pc = .ok (.pop, 1)) (hc : x.category = 1) (hn : Ev G M (pc + 1) L S h r) : Ev G M pc L (x :: S) h r :=
  Ev.pure rfl hn fun {_ _ _ _ m _ _ _ _ _ _ _ _} X hx hZ hown hby target q => XT.pop (g := mkF m pc (arL G L) (List.map (tr G) (x :: S))) X.here hx rfl (hb hby hd) rfl ((tr_cat G x).trans hc) q
/-! ### branches -/
theorem Ev.goto {o : Int} {t : Nat} (hd : decode (mB M) pc = .ok (.goto o, 3)) (hp : (pc : Int) + o = (t : Int)) (hn : Ev G M t L S h r) : Ev G M pc L S h r :=
  Ev.pure rfl hn fun {_ _ _ _ m _ _ _ _ _ _ _ _} X hx hZ hown hby target q => XS.goto (g := mkF m pc (arL G L) (List.map (tr G) S)) X.here hx rfl rfl (hb hby hd) (by rw [hp]; exact Int.natCast_nonneg t) (by rw [hp]; rfl) q
theorem Ev.ifc {cd : ClassFile.Cond} {x : Int32} {o : Int} {t : Nat} (hd : decode (mB M) pc = .ok (.ifCond cd o, 3)) (hp : (pc : Int) + o = (t : Int)) (h1 : ifCond.holds cd x = true → Ev G M t L S h r) (h2 : ifCond.holds cd x = false → Ev G M (pc + 3) L S h r) : Ev G M pc L (.int x :: S) h r := by
  cases hc : ifCond.holds cd x with
  | true => exact Ev.pure rfl (h1 hc) fun {_ _ _ _ m _ _ _ _ _ _ _ _} X hx hZ hown hby target q => XS.ifYes (g := mkF m pc (arL G L) (List.map (tr G) (Value.int x :: S))) X.here hx rfl rfl (hb hby hd) rfl hc (by rw [hp]; exact Int.natCast_nonneg t) (by rw [hp]; rfl) q
  | false => exact Ev.pure rfl (h2 hc) fun {_ _ _ _ m _ _ _ _ _ _ _ _} X hx hZ hown hby target q => XS.ifNo (g := mkF m pc (arL G L) (List.map (tr G) (Value.int x :: S))) X.here hx rfl (hb hby hd) rfl hc q
theorem Ev.icc {cd : ClassFile.Cond} {x y : Int32} {o : Int} {t : Nat} (hd : decode (mB M) pc = .ok (.if_icmp cd o, 3)) (hp : (pc : Int) + o = (t : Int)) (h1 : if_icmp.holds cd x y = true → Ev G M t L S h r) (h2 : if_icmp.holds cd x y = false → Ev G M (pc + 3) L S h r) : Ev G M pc L (.int y :: .int x :: S) h r := by
  cases hc : if_icmp.holds cd x y with
  | true => exact Ev.pure rfl (h1 hc) fun {_ _ _ _ m _ _ _ _ _ _ _ _} X hx hZ hown hby target q => XS.icmpYes (g := mkF m pc (arL G L) (List.map (tr G) (Value.int y :: Value.int x :: S))) X.here hx rfl rfl (hb hby hd) rfl hc (by rw [hp]; exact Int.natCast_nonneg t) (by rw [hp]; rfl) q
  | false => exact Ev.pure rfl (h2 hc) fun {_ _ _ _ m _ _ _ _ _ _ _ _} X hx hZ hown hby target q => XS.icmpNo (g := mkF m pc (arL G L) (List.map (tr G) (Value.int y :: Value.int x :: S))) X.here hx rfl (hb hby hd) rfl hc q
theorem Ev.iclt {x y : Int32} {o : Int} {t : Nat} (hd : decode (mB M) pc = .ok (.if_icmp .lt o, 3)) (hp : (pc : Int) + o = (t : Int)) (h1 : x < y → Ev G M t L S h r) (h2 : ¬ x < y → Ev G M (pc + 3) L S h r) : Ev G M pc L (.int y :: .int x :: S) h r :=
  Ev.icc hd hp (fun q => h1 (by simpa [if_icmp.holds] using q)) (fun q => h2 (by simpa [if_icmp.holds] using q))
theorem Ev.icge {x y : Int32} {o : Int} {t : Nat} (hd : decode (mB M) pc = .ok (.if_icmp .ge o, 3)) (hp : (pc : Int) + o = (t : Int)) (h1 : x < y → Ev G M (pc + 3) L S h r) (h2 : ¬ x < y → Ev G M t L S h r) : Ev G M pc L (.int y :: .int x :: S) h r :=
  Ev.icc hd hp (fun q => h2 (by simpa [if_icmp.holds] using q)) (fun q => h1 (by simpa [if_icmp.holds] using q))
theorem Ev.icgt {x y : Int32} {o : Int} {t : Nat} (hd : decode (mB M) pc = .ok (.if_icmp .gt o, 3)) (hp : (pc : Int) + o = (t : Int)) (h1 : y < x → Ev G M t L S h r) (h2 : ¬ y < x → Ev G M (pc + 3) L S h r) : Ev G M pc L (.int y :: .int x :: S) h r :=
  Ev.icc hd hp (fun q => h1 (by simpa [if_icmp.holds] using q)) (fun q => h2 (by simpa [if_icmp.holds] using q))
theorem Ev.icle {x y : Int32} {o : Int} {t : Nat} (hd : decode (mB M) pc = .ok (.if_icmp .le o, 3)) (hp : (pc : Int) + o = (t : Int)) (h1 : y < x → Ev G M (pc + 3) L S h r) (h2 : ¬ y < x → Ev G M t L S h r) : Ev G M pc L (.int y :: .int x :: S) h r :=
  Ev.icc hd hp (fun q => h2 (by simpa [if_icmp.holds] using q)) (fun q => h1 (by simpa [if_icmp.holds] using q))
theorem Ev.iceq {x y : Int32} {o : Int} {t : Nat} (hd : decode (mB M) pc = .ok (.if_icmp .eq o, 3)) (hp : (pc : Int) + o = (t : Int)) (h1 : x = y → Ev G M t L S h r) (h2 : ¬ x = y → Ev G M (pc + 3) L S h r) : Ev G M pc L (.int y :: .int x :: S) h r :=
  Ev.icc hd hp (fun q => h1 (by simpa [if_icmp.holds] using q)) (fun q => h2 (by simpa [if_icmp.holds] using q))
theorem Ev.icne {x y : Int32} {o : Int} {t : Nat} (hd : decode (mB M) pc = .ok (.if_icmp .ne o, 3)) (hp : (pc : Int) + o = (t : Int)) (h1 : x = y → Ev G M (pc + 3) L S h r) (h2 : ¬ x = y → Ev G M t L S h r) : Ev G M pc L (.int y :: .int x :: S) h r :=
  Ev.icc hd hp (fun q => h2 (by simpa [if_icmp.holds] using q)) (fun q => h1 (by simpa [if_icmp.holds] using q))
theorem Ev.iflt {x : Int32} {o : Int} {t : Nat} (hd : decode (mB M) pc = .ok (.ifCond .lt o, 3)) (hp : (pc : Int) + o = (t : Int)) (h1 : x < 0 → Ev G M t L S h r) (h2 : ¬ x < 0 → Ev G M (pc + 3) L S h r) : Ev G M pc L (.int x :: S) h r :=
  Ev.ifc hd hp (fun q => h1 (by simpa [ifCond.holds] using q)) (fun q => h2 (by simpa [ifCond.holds] using q))
theorem Ev.ifge {x : Int32} {o : Int} {t : Nat} (hd : decode (mB M) pc = .ok (.ifCond .ge o, 3)) (hp : (pc : Int) + o = (t : Int)) (h1 : x < 0 → Ev G M (pc + 3) L S h r) (h2 : ¬ x < 0 → Ev G M t L S h r) : Ev G M pc L (.int x :: S) h r :=
  Ev.ifc hd hp (fun q => h2 (by simpa [ifCond.holds] using q)) (fun q => h1 (by simpa [ifCond.holds] using q))
theorem Ev.ifgt {x : Int32} {o : Int} {t : Nat} (hd : decode (mB M) pc = .ok (.ifCond .gt o, 3)) (hp : (pc : Int) + o = (t : Int)) (h1 : 0 < x → Ev G M t L S h r) (h2 : ¬ 0 < x → Ev G M (pc + 3) L S h r) : Ev G M pc L (.int x :: S) h r :=
  Ev.ifc hd hp (fun q => h1 (by simpa [ifCond.holds] using q)) (fun q => h2 (by simpa [ifCond.holds] using q))
theorem Ev.ifle {x : Int32} {o : Int} {t : Nat} (hd : decode (mB M) pc = .ok (.ifCond .le o, 3)) (hp : (pc : Int) + o = (t : Int)) (h1 : 0 < x → Ev G M (pc + 3) L S h r) (h2 : ¬ 0 < x → Ev G M t L S h r) : Ev G M pc L (.int x :: S) h r :=
  Ev.ifc hd hp (fun q => h2 (by simpa [ifCond.holds] using q)) (fun q => h1 (by simpa [ifCond.holds] using q))
theorem Ev.ifeq {x : Int32} {o : Int} {t : Nat} (hd : decode (mB M) pc = .ok (.ifCond .eq o, 3)) (hp : (pc : Int) + o = (t : Int)) (h1 : x = 0 → Ev G M t L S h r) (h2 : ¬ x = 0 → Ev G M (pc + 3) L S h r) : Ev G M pc L (.int x :: S) h r :=
  Ev.ifc hd hp (fun q => h1 (by simpa [ifCond.holds] using q)) (fun q => h2 (by simpa [ifCond.holds] using q))
theorem Ev.ifne {x : Int32} {o : Int} {t : Nat} (hd : decode (mB M) pc = .ok (.ifCond .ne o, 3)) (hp : (pc : Int) + o = (t : Int)) (h1 : x = 0 → Ev G M (pc + 3) L S h r) (h2 : ¬ x = 0 → Ev G M t L S h r) : Ev G M pc L (.int x :: S) h r :=
  Ev.ifc hd hp (fun q => h2 (by simpa [ifCond.holds] using q)) (fun q => h1 (by simpa [ifCond.holds] using q))
theorem Ev.tswIn {x : Int32} {dflt low high : Int} {offs : Array Int} {len t : Nat} {o : Int} (hd : decode (mB M) pc = .ok (.tableswitch dflt low high offs, len)) (hin : ¬ (x.toInt < low ∨ x.toInt > high)) (ho : offs[(x.toInt - low).toNat]? = some o) (hp : (pc : Int) + o = (t : Int)) (hn : Ev G M t L S h r) : Ev G M pc L (.int x :: S) h r :=
  Ev.pure rfl hn fun {_ _ _ _ m _ _ _ _ _ _ _ _} X hx hZ hown hby target q => XS.tswIn (g := mkF m pc (arL G L) (List.map (tr G) (Value.int x :: S))) X.here hx rfl rfl (hb hby hd) rfl hin ho (by rw [hp]; exact Int.natCast_nonneg t) (by rw [hp]; rfl) q
theorem Ev.tswOut {x : Int32} {dflt low high : Int} {offs : Array Int} {len t : Nat} (hd : decode (mB M) pc = .ok (.tableswitch dflt low high offs, len)) (hout : x.toInt < low ∨ x.toInt > high) (hp : (pc : Int) + dflt = (t : Int)) (hn : Ev G M t L S h r) : Ev G M pc L (.int x :: S) h r :=
  Ev.pure rfl hn fun {_ _ _ _ m _ _ _ _ _ _ _ _} X hx hZ hown hby target q => XS.tswOut (g := mkF m pc (arL G L) (List.map (tr G) (Value.int x :: S))) X.here hx rfl rfl (hb hby hd) rfl hout (by rw [hp]; exact Int.natCast_nonneg t) (by rw [hp]; rfl) q
/-! ### fields -/
theorem Ev.getfield {idx j i : Nat} {n d : String} {ty : FieldType} {fs : List Value} {v : Value} (w : (Jvm.Cond.fieldLink (mN M).cls idx (gC G) n d).before (gA G) (gZ G) = true) (hd : decode (mB M) pc = .ok (.getfield idx, 3))
    (hF : (gF G)[j]? = some (n, d, ty)) (hi : h[i]? = some (.inl fs)) (hv : fs[j]? = some v) (hn : Ev G M (pc + 3) L (v :: S) h r) : Ev G M pc L (.ref i :: S) h r := by
  refine Ev.same rfl hn ?_
  intro p e R s m args below meth c T locs cells slots X hx hZ hown hby hml hLm hfr hlo hR
  obtain ⟨-, -, h3⟩ := hR.2.2.2 i _ hi
  obtain ⟨T', X', e', st⟩ := getF X hx hZ hown (host := "") (Or.inl w) Via.refl rfl (h3 j n d ty v hF hv) (g := mkF m pc (arL G L) ((Value.ref i :: S).map (tr G))) rfl rfl (hb hby hd)
  exact ⟨T', X', e', st⟩
def mput : FieldType → Value → Option Value
  | .int, .int z => some (.int z)
  | .boolean, .int z => some (.int (z &&& 1))
  | .array _, .ref a => some (.ref a)
  | _, _ => none
theorem mput_spec {G : Ctx} {ty : FieldType} {v v' : Value} (h : mput ty v = some v') : narrow ty (tr G v) = tr G v' ∧ fits ty (tr G v') = true := by
  unfold mput at h
  split at h
  · cases h; exact ⟨rfl, rfl⟩
  · cases h; exact ⟨rfl, fits_nar_bool _⟩
  · cases h; exact ⟨rfl, rfl⟩
  · cases h
theorem Ev.putfield {idx j i : Nat} {n d : String} {ty : FieldType} {fs : List Value} {v v' : Value} (K : GOk G) (w : (Jvm.Cond.fieldLink (mN M).cls idx (gC G) n d).before (gA G) (gZ G) = true)
    (wl : (Jvm.Cond.lays (gC G) (gC G) n d).before (gA G) (gZ G) = true ∨ ((Jvm.Cond.laysFinal (gC G) (gC G) n d).before (gA G) (gZ G) = true ∧ (mN M).cls = gC G ∧ (mN M).name = "<init>"))
    (hd : decode (mB M) pc = .ok (.putfield idx, 3)) (hF : (gF G)[j]? = some (n, d, ty)) (hk : k0 G ≤ i) (hi : h[i]? = some (.inl fs)) (hp : mput ty v = some v') (hn : Ev G M (pc + 3) L S (h.set i (.inl (fs.set j v'))) r) : Ev G M pc L (v :: .ref i :: S) h r := by
  have hs := hsl_set (gK G) h i (.inl fs) (.inl (fs.set j v')) hi rfl
  refine Ev.gen (by rw [List.length_set]; exact Nat.le_refl _) (by rw [hs]; exact Nat.le_refl _) rfl hn ?_
  intro p e R s m args below meth c T locs cells slots X hx hZ hown hby hml hnm hLm hfr hlo hsz hR hFr hc hsq
  obtain ⟨e1, e2, e3⟩ := hR.2.2.2 i _ hi
  obtain ⟨q1, q2⟩ := mput_spec (G := G) hp
  have hlt : j < fs.length := by rw [e2]; exact (List.getElem?_eq_some_iff.mp hF).1
  have F := e3 j n d ty _ hF (List.getElem?_eq_getElem hlt)
  obtain ⟨T', h', X', eT', W, st⟩ := putFN X hx hZ hown w Via.refl rfl F e1 (wl.imp id fun ⟨a, b, c⟩ => ⟨a, b, by rw [hnm]; exact c⟩) K.2.2.1 (K.1 j n d ty hF).2 q1 q2 (g := mkF m pc (arL G L) ((v :: Value.ref i :: S).map (tr G))) rfl rfl (hb hby hd)
  refine ⟨T', _, ?_, ?_, Fr.snoc X' hFr (rho_ge hk), st⟩
  · rw [hs, List.length_set, Nat.sub_self, Nat.sub_self, Nat.add_zero, Nat.add_zero]; exact X'
  · rw [eT']; exact hR.wrFld K hi hF W
/-! ### arrays -/
theorem get_arr {xs : List Int32} {c : Cell} (hs : c.slots = (xs.map Value.int).toArray) (k : Nat) : c.slots[k]? = (xs[k]?).map Value.int := by rw [hs]; simp
theorem arr_size {xs : List Int32} {c : Cell} (hs : c.slots = (xs.map Value.int).toArray) : c.slots.size = xs.length := by rw [hs]; simp
theorem Ev.arraylength {i : Nat} {b : Bool} {xs : List Int32} (hd : decode (mB M) pc = .ok (.arraylength, 1)) (hi : h[i]? = some (.inr (b, xs))) (hn : Ev G M (pc + 1) L (.int xs.length.toInt32 :: S) h r) : Ev G M pc L (.ref i :: S) h r := by
  refine Ev.same rfl hn ?_
  intro p e R s m args below meth c T locs cells slots X hx hZ hown hby hml hLm hfr hlo hR
  obtain ⟨cl, A, hs⟩ := hR.2.2.2 i _ hi
  refine ⟨T, X, rfl, fun target k => X.arraylength hx A.1 (State.isArrayOf_alike hZ.alike A.2.1) (g := mkF m pc (arL G L) ((Value.ref i :: S).map (tr G))) rfl rfl (hb hby hd) target ?_⟩
  rw [arr_size hs]; exact k
theorem Ev.iaload {i : Nat} {xs : List Int32} {j v : Int32} (hd : decode (mB M) pc = .ok (.iaload, 1)) (hi : h[i]? = some (.inr (false, xs))) (hj : ¬ j < 0) (hv : xs[j.toNatClampNeg]? = some v) (hn : Ev G M (pc + 1) L (.int v :: S) h r) : Ev G M pc L (.int j :: .ref i :: S) h r := by
  refine Ev.same rfl hn ?_
  intro p e R s m args below meth c T locs cells slots X hx hZ hown hby hml hLm hfr hlo hR
  obtain ⟨cl, A, hs⟩ := hR.2.2.2 i _ hi
  have hlt := (List.getElem?_eq_some_iff.mp hv).1
  exact ⟨T, X, rfl, fun target k => X.iaload hx A.1 (State.isArrayOf_alike hZ.alike A.2.1) A.2.2 (fun q => q.elim hj fun q => absurd (arr_size hs ▸ q) (Nat.not_le.mpr hlt)) (by rw [get_arr hs, hv]; rfl) (g := mkF m pc (arL G L) ((Value.int j :: Value.ref i :: S).map (tr G))) rfl rfl (hb hby hd) target k⟩
theorem Ev.baload {i : Nat} {xs : List Int32} {j v : Int32} (hd : decode (mB M) pc = .ok (.baload, 1)) (hi : h[i]? = some (.inr (true, xs))) (hj : ¬ j < 0) (hv : xs[j.toNatClampNeg]? = some v) (hn : Ev G M (pc + 1) L (.int v :: S) h r) : Ev G M pc L (.int j :: .ref i :: S) h r := by
  refine Ev.same rfl hn ?_
  intro p e R s m args below meth c T locs cells slots X hx hZ hown hby hml hLm hfr hlo hR
  obtain ⟨cl, A, hs⟩ := hR.2.2.2 i _ hi
  have hlt := (List.getElem?_eq_some_iff.mp hv).1
  exact ⟨T, X, rfl, fun target k => X.baloadBooleans hx A.1 (State.isArrayOf_alike hZ.alike A.2.1) A.2.2 (fun q => q.elim hj fun q => absurd (arr_size hs ▸ q) (Nat.not_le.mpr hlt)) (by rw [get_arr hs, hv]; rfl) (g := mkF m pc (arL G L) ((Value.int j :: Value.ref i :: S).map (tr G))) rfl rfl (hb hby hd) target k⟩
theorem Ev.iastore {i : Nat} {xs : List Int32} {j v : Int32} (hd : decode (mB M) pc = .ok (.iastore, 1)) (hk : k0 G ≤ i) (hi : h[i]? = some (.inr (false, xs))) (hj : ¬ j < 0) (hlt : j.toNatClampNeg < xs.length) (hn : Ev G M (pc + 1) L S (h.set i (.inr (false, xs.set j.toNatClampNeg v))) r) : Ev G M pc L (.int v :: .int j :: .ref i :: S) h r := by
  have hs := hsl_set (gK G) h i (.inr (false, xs)) (.inr (false, xs.set j.toNatClampNeg v)) hi (by simp [csl])
  refine Ev.gen (by rw [List.length_set]; exact Nat.le_refl _) (by rw [hs]; exact Nat.le_refl _) rfl hn ?_
  intro p e R s m args below meth c T locs cells slots X hx hZ hown hby hml hnm hLm hfr hlo hsz hR hFr hc hsq
  obtain ⟨cl, A, hsz'⟩ := hR.2.2.2 i _ hi
  obtain ⟨T', h', X', eT', W, st⟩ := stI X hx hZ rfl A (j := j) (x := v) (fun q => q.elim hj fun q => absurd (arr_size hsz' ▸ q) (Nat.not_le.mpr hlt)) (g := mkF m pc (arL G L) ((Value.int v :: Value.int j :: Value.ref i :: S).map (tr G))) rfl rfl (hb hby hd)
  refine ⟨T', _, ?_, ?_, Fr.snoc X' hFr (rho_ge hk), st⟩
  · rw [hs, List.length_set, Nat.sub_self, Nat.sub_self, Nat.add_zero, Nat.add_zero]; exact X'
  · rw [eT']; exact hR.wrArr hi W
theorem Ev.bastore {i : Nat} {xs : List Int32} {j v : Int32} (hd : decode (mB M) pc = .ok (.bastore, 1)) (hk : k0 G ≤ i) (hi : h[i]? = some (.inr (true, xs))) (hj : ¬ j < 0) (hlt : j.toNatClampNeg < xs.length) (hn : Ev G M (pc + 1) L S (h.set i (.inr (true, xs.set j.toNatClampNeg (v &&& 1)))) r) : Ev G M pc L (.int v :: .int j :: .ref i :: S) h r := by
  have hs := hsl_set (gK G) h i (.inr (true, xs)) (.inr (true, xs.set j.toNatClampNeg (v &&& 1))) hi (by simp [csl])
  refine Ev.gen (by rw [List.length_set]; exact Nat.le_refl _) (by rw [hs]; exact Nat.le_refl _) rfl hn ?_
  intro p e R s m args below meth c T locs cells slots X hx hZ hown hby hml hnm hLm hfr hlo hsz hR hFr hc hsq
  obtain ⟨cl, A, hsz'⟩ := hR.2.2.2 i _ hi
  obtain ⟨T', h', X', eT', W, st⟩ := stZ X hx hZ rfl A (j := j) (x := v) (fun q => q.elim hj fun q => absurd (arr_size hsz' ▸ q) (Nat.not_le.mpr hlt)) (g := mkF m pc (arL G L) ((Value.int v :: Value.int j :: Value.ref i :: S).map (tr G))) rfl rfl (hb hby hd)
  refine ⟨T', _, ?_, ?_, Fr.snoc X' hFr (rho_ge hk), st⟩
  · rw [hs, List.length_set, Nat.sub_self, Nat.sub_self, Nat.add_zero, Nat.add_zero]; exact X'
  · rw [eT']; exact hR.wrArr hi W
/-! ### making -/
theorem Ev.new {idx : Nat} {fs : List Value} (K : GOk G) (w : (Jvm.Cond.classLink (mN M).cls idx (gC G)).before (gA G) (gZ G) = true) (hd : decode (mB M) pc = .ok (.new idx, 3)) (hf : fs = (gF G).map fun f => defaultValue f.2.2)
    (hn : Ev G M (pc + 3) L (.ref h.length :: S) (h ++ [.inl fs]) r) : Ev G M pc L S h r := by
  subst hf
  have hs := hsl_push (gK G) h (.inl ((gF G).map fun f => defaultValue f.2.2))
  refine Ev.gen (by simp) (by rw [hs]; exact Nat.le_add_right _ _) rfl hn ?_
  intro p e R s m args below meth c T locs cells slots X hx hZ hown hby hml hnm hLm hfr hlo hsz hR hFr hc hsq
  have el : (h ++ [(.inl ((gF G).map fun f => defaultValue f.2.2) : MCell)]).length - h.length = 1 := by simp
  have es : hsl (gK G) (h ++ [.inl ((gF G).map fun f => defaultValue f.2.2)]) - hsl (gK G) h = gK G := by rw [hs]; simp [csl]
  rw [el] at hc
  rw [es] at hsq
  obtain ⟨T', h', X', eT', E, A, D, -, st⟩ := newO X hx hZ hown w K.2.2.1 K.2.2.2 rfl (g := mkF m pc (arL G L) (S.map (tr G))) rfl (hb hby hd) hc hsq
  rw [el, es]
  have hrho : rho G h.length = T.heap.size := by rw [rho_new hR.2.1]; have := hR.1; have := hR.2.1; omega
  refine ⟨T', _, X', ?_, hFr, fun target k => st target ?_⟩
  · rw [eT']
    refine hR.push E ?_ ⟨A, by simp, fun j n d ty v hf hv => ?_⟩
    · have h1 := X'.heapSize
      have h2 : T.heap.size < h'.size := A.lt
      rw [eT'] at h1
      omega
    · rw [List.getElem?_map, hf] at hv
      cases hv
      have := D (K.1 j n d ty hf).1 (K.1 j n d ty hf).2
      have e : tr G (defaultValue ty) = defaultValue ty := by cases ty <;> rfl
      rw [e]; exact this
  · rw [← hrho]; exact k
theorem Ev.newarray {aty : ArrayType} {b : Bool} {n : Int32} {k : Nat} (w : (Jvm.Cond.arrayClass (newarray.typeOf aty)).before (gA G) (gZ G) = true) (hb' : newarray.typeOf aty = kd b) (hd : decode (mB M) pc = .ok (.newarray aty, 2)) (hn0 : ¬ n < 0) (hk : n.toNatClampNeg = k) (hcap : k ≤ 67108864)
    (hn : Ev G M (pc + 2) L (.ref h.length :: S) (h ++ [.inr (b, List.replicate k 0)]) r) : Ev G M pc L (.int n :: S) h r := by
  subst hk
  have hs := hsl_push (gK G) h (.inr (b, List.replicate n.toNatClampNeg 0))
  refine Ev.gen (by simp) (by rw [hs]; exact Nat.le_add_right _ _) rfl hn ?_
  intro p e R s m args below meth c T locs cells slots X hx hZ hown hby hml hnm hLm hfr hlo hsz hR hFr hc hsq
  have el : (h ++ [(.inr (b, List.replicate n.toNatClampNeg 0) : MCell)]).length - h.length = 1 := by simp
  have es : hsl (gK G) (h ++ [.inr (b, List.replicate n.toNatClampNeg 0)]) - hsl (gK G) h = n.toNatClampNeg := by rw [hs]; simp [csl]
  rw [el] at hc
  rw [es] at hsq
  obtain ⟨T', h', cA, X', eT', E, A, st⟩ := newP X hx hZ w rfl (g := mkF m pc (arL G L) ((Value.int n :: S).map (tr G))) rfl (hb hby hd) rfl hn0 (cap := n.toNatClampNeg) (Nat.le_refl _) (by omega) hc hsq
  rw [el, es]
  have hrho : rho G h.length = T.heap.size := by rw [rho_new hR.2.1]; have := hR.1; have := hR.2.1; omega
  refine ⟨T', _, X', ?_, hFr, fun target k => st target ?_⟩
  · rw [eT']
    refine hR.push E ?_ ⟨_, hb' ▸ A, ?_⟩
    · have h1 := X'.heapSize
      have h2 : T.heap.size < h'.size := A.lt
      rw [eT'] at h1
      omega
    · have e0 : defaultValue (kd b) = .int 0 := by cases b <;> rfl
      show Array.replicate n.toNatClampNeg (defaultValue (kd b)) = _
      rw [e0]
      simp
  · rw [← hrho]; exact k
theorem Ev.initO {idx i : Nat} (w1 : (Jvm.Cond.methodLink (mN M).cls idx Lib.objectInit).before (gA G) (gZ G) = true) (w2 : (Jvm.Cond.instanceMethod Lib.objectInit).before (gA G) (gZ G) = true) (w3 : (Jvm.Cond.code Lib.objectInit ⟨#[0xb1]⟩ 1 none).before (gA G) (gZ G) = true)
    (hd : decode (mB M) pc = .ok (.invokespecial idx, 3)) (hf : 1 ≤ mF M) (hl : (S.map fun v => v.category).sum + 12 ≤ mW M) (hn : Ev G M (pc + 3) L S h r) : Ev G M pc L (.ref i :: S) h r := by
  refine Ev.same rfl hn ?_
  intro p e R s m args below meth c T locs cells slots X hx hZ hown hby hml hLm hfr hlo hR
  obtain ⟨T', X', e', st⟩ := RoadKit.initO X hx hZ hown w1 w2 w3 rfl (g := mkF m pc (arL G L) ((Value.ref i :: S).map (tr G))) rfl (by rw [hml, ← hLm]; simp [arL]) (a := rho G i) (rest := S.map (tr G)) rfl (hb hby hd) (Nat.le_trans hf hfr) (W := (S.map fun v => v.category).sum) (by rw [tr_cats]; show 2 * 0 + _ ≤ _; omega) (by omega)
  exact ⟨T', X', e', st⟩
/-! ### calls -/
def notMH (y : Mi) : Prop := (mN y).cls ≠ "java/lang/invoke/MethodHandle" ∧ (mN y).cls ≠ "java/lang/invoke/VarHandle"
theorem mapRev (G : Ctx) (args : List Value) : (args.reverse).map (tr G) = (args.map (tr G)).reverse := by simp
theorem vList (G : Ctx) (v : Option Value) (S : List Value) : (v.map (tr G)).toList ++ S.map (tr G) = (v.toList ++ S).map (tr G) := by cases v <;> simp
theorem back_of_evc {p : Program} {e : Env} {R : Room} {s : State} {args0 : Array Value} {below : List Frame} {y : Mi} {args : List Value} {r1 : Option Value × MHeap} {hr : Heap} {W : Nat} (hC : EvC G y args h r1) (hR : Rel G hr h) (hZ : (gZ G).Warmed39 s.vm)
    (wc : (Jvm.Cond.code (mN y) (mB y) (mL y) (mR y)).before (gA G) (gZ G) = true) (wz : (Jvm.Cond.initialized (mN y).cls).before (gA G) (gZ G) = true) (hf : mF y + 1 ≤ R.frames) (hl : W + (mL y + 11) + mW y ≤ R.locals) :
    Back (gL G) R p e below s args0 (mN y) 3 W (fun A a => a = (args.map (tr G)).toArray ∧ A.U.heap = hr ∧ A.cells + (r1.2.length - h.length) ≤ R.cells ∧ A.slots + (hsl (gK G) r1.2 - hsl (gK G) h) ≤ R.slots)
      (fun A _ v B => ∃ L, (v = r1.1.map (tr G) ∧ Fr (gN G) L ∧ Rel G B.U.heap r1.2) ∧ B.locs = A.locs ++ L ∧ B.cells = A.cells + (r1.2.length - h.length) ∧ B.slots = A.slots + (hsl (gK G) r1.2 - hsl (gK G) h)) :=
  backOf (Q := fun v hp L => v = r1.1.map (tr G) ∧ Fr (gN G) L ∧ Rel G hp r1.2) (rm := { frames := mF y, cells := r1.2.length - h.length, slots := hsl (gK G) r1.2 - hsl (gK G) h, locals := mW y })
    (hC.2 [] { frames := mF y, cells := r1.2.length - h.length, slots := hsl (gK G) r1.2 - hsl (gK G) h, locals := mW y } hr (Nat.le_refl _) (Nat.le_refl _) (Nat.le_refl _) (Nat.le_refl _) hR) hZ wc wz hf hl
/-- a private method of the class -/
theorem Ev.priv {y : Mi} {idx i : Nat} {args rest : List Value} {v : Option Value} {h1 : MHeap} {fs : List Value} (K : GOk G) (hcls : (mN y).cls = gC G) (hy : notMH y)
    (wl : (Jvm.Cond.methodLink (mN M).cls idx (mN y)).before (gA G) (gZ G) = true) (wi : (Jvm.Cond.instanceMethod (mN y)).before (gA G) (gZ G) = true) (wp : (Jvm.Cond.privateMethod (mN y)).before (gA G) (gZ G) = true)
    (wc : (Jvm.Cond.code (mN y) (mB y) (mL y) (mR y)).before (gA G) (gZ G) = true) (hlen : ∀ sig, parseMethodDescriptor (mN y).desc = some sig → args.length = sig.parameters.length)
    (hd : decode (mB M) pc = .ok (.invokevirtual idx, 3)) (hi : h[i]? = some (.inl fs)) (hC : EvC G y (.ref i :: args) h (v, h1)) (hfr : mF y + 1 ≤ mF M) (hlo : (rest.map fun v => v.category).sum + (mL y + 11) + mW y ≤ mW M)
    (hS : S = args.reverse ++ .ref i :: rest) (hn : Ev G M (pc + 3) L (v.toList ++ rest) h1 r) : Ev G M pc L S h r := by
  subst hS
  refine Ev.gen hC.1.1 hC.1.2 rfl hn ?_
  intro p e R s m args0 below meth c T locs cells slots X hx hZ hown hby hml hnm hLm hfr' hlo' hsz hR hFr hc hsq
  obtain ⟨e1, -, -⟩ := hR.2.2.2 i _ hi
  obtain ⟨cell, hcell, hobj⟩ := e1.cell
  have hwi : (Jvm.Cond.instanceMethod (mN y)).before args0 s = true := mvT hZ wi
  have hpr := Jvm.Cond.privateMethod_at (mvP hZ wp (args := #[]))
  have hsel : (Jvm.Cond.selects (mN y).cls (mN y) (mN y)).before args0 s = true := by
    obtain ⟨c0, k0', q1, q2, -, q4, -⟩ := Jvm.Cond.instantiable_spec (mvT hZ K.2.2.1 (args := #[]) (s := s))
    refine selects_self_of_private (c := c0) (k := k0') (by rw [hcls]; exact q1) q2 ?_ hpr hwi hy
    simp only [Bool.or_eq_false_iff] at q4
    exact q4.1
  obtain ⟨v', vm1, ⟨T', L', k', n'⟩, -, X', ⟨Lc, ⟨rfl, hF', hR'⟩, l1, l2, l3⟩, st⟩ := X.privateBack hx (y := mN y) hown (mvT hZ wl) hwi hsel hpr (mvT hZ wc) hy
    (back_of_evc (W := (rest.map fun v => v.category).sum) hC hR hZ wc (hcls ▸ K.2.2.2) (Nat.le_trans hfr hfr') (Nat.le_trans hlo hlo')) (g := mkF m pc (arL G L) ((args.reverse ++ Value.ref i :: rest).map (tr G))) rfl (by rw [hml, ← hLm]; simp [arL]) (Steps.refl _) hcell hobj
    (argsL := args.map (tr G)) (rest := rest.map (tr G)) (fun sig hsig => by rw [List.length_map]; exact hlen sig hsig) (by simp [tr]) (by rw [tr_cats]; show 2 * 0 + _ ≤ _; omega) (hb hby hd) (fun vm1 hW1 => ⟨rfl, rfl, hc, hsq⟩)
  dsimp only [Pt.U, Pt.locs, Pt.cells, Pt.slots] at X' l1 l2 l3 st hR'
  subst l1 l2 l3
  refine ⟨T', _, X', hR', hFr.app hF', fun target k => st.trans ?_⟩
  rw [vList]
  exact k
/-- a method of the class that no one overrides -/
theorem Ev.virt {y : Mi} {idx i : Nat} {args rest : List Value} {v : Option Value} {h1 : MHeap} {fs : List Value} (K : GOk G) (hcls : (mN y).cls = gC G) (hy : notMH y)
    (wl : (Jvm.Cond.methodLink (mN M).cls idx (mN y)).before (gA G) (gZ G) = true) (wd : (Jvm.Cond.declares (mN y)).before (gA G) (gZ G) = true) (wi : (Jvm.Cond.instanceMethod (mN y)).before (gA G) (gZ G) = true) (ws : (Jvm.Cond.selects (gC G) (mN y) (mN y)).before (gA G) (gZ G) = true)
    (wc : (Jvm.Cond.code (mN y) (mB y) (mL y) (mR y)).before (gA G) (gZ G) = true) (hlen : ∀ sig, parseMethodDescriptor (mN y).desc = some sig → args.length = sig.parameters.length)
    (hd : decode (mB M) pc = .ok (.invokevirtual idx, 3)) (hi : h[i]? = some (.inl fs)) (hC : EvC G y (.ref i :: args) h (v, h1)) (hfr : mF y + 1 ≤ mF M) (hlo : (rest.map fun v => v.category).sum + (mL y + 11) + mW y ≤ mW M)
    (hS : S = args.reverse ++ .ref i :: rest) (hn : Ev G M (pc + 3) L (v.toList ++ rest) h1 r) : Ev G M pc L S h r := by
  subst hS
  refine Ev.gen hC.1.1 hC.1.2 rfl hn ?_
  intro p e R s m args0 below meth c T locs cells slots X hx hZ hown hby hml hnm hLm hfr' hlo' hsz hR hFr hc hsq
  obtain ⟨e1, -, -⟩ := hR.2.2.2 i _ hi
  obtain ⟨cq, kq, qa, qb, qc⟩ := isOf (T := T) hZ rfl e1
  obtain ⟨v', vm1, ⟨T', L', k', n'⟩, -, X', ⟨Lc, ⟨rfl, hF', hR'⟩, l1, l2, l3⟩, st⟩ := X.virtualBack hx (y := mN y) (z := mN y) hown (mvT hZ wl) (mvT hZ wd) (notFace_of_selects (args := #[]) (mvT hZ ws)) (mvT hZ ws) (mvT hZ wi) hy
    (back_of_evc (W := (rest.map fun v => v.category).sum) hC hR hZ wc (hcls ▸ K.2.2.2) (Nat.le_trans hfr hfr') (Nat.le_trans hlo hlo')) qa qc (g := mkF m pc (arL G L) ((args.reverse ++ Value.ref i :: rest).map (tr G))) rfl (by rw [hml, ← hLm]; simp [arL]) (Steps.refl _)
    (argsL := args.map (tr G)) (rest := rest.map (tr G)) (fun sig hsig => by rw [List.length_map]; exact hlen sig hsig) (by simp [tr]) (by rw [tr_cats]; show 2 * 0 + _ ≤ _; omega) (hb hby hd) (fun vm1 hW1 => ⟨rfl, rfl, hc, hsq⟩)
  dsimp only [Pt.U, Pt.locs, Pt.cells, Pt.slots] at X' l1 l2 l3 st hR'
  subst l1 l2 l3
  refine ⟨T', _, X', hR', hFr.app hF', fun target k => st.trans ?_⟩
  rw [vList]
  exact k
/-- a constructor -/
theorem Ev.ctor {y : Mi} {idx i : Nat} {args rest : List Value} {v : Option Value} {h1 : MHeap} (hy1 : (mN y).name = "<init>") (hret : mR y = none) (hy : notMH y)
    (wl : (Jvm.Cond.methodLink (mN M).cls idx (mN y)).before (gA G) (gZ G) = true) (wi : (Jvm.Cond.instanceMethod (mN y)).before (gA G) (gZ G) = true)
    (wc : (Jvm.Cond.code (mN y) (mB y) (mL y) (mR y)).before (gA G) (gZ G) = true) (wz : (Jvm.Cond.initialized (mN y).cls).before (gA G) (gZ G) = true) (hlen : ∀ sig, parseMethodDescriptor (mN y).desc = some sig → args.length = sig.parameters.length)
    (hd : decode (mB M) pc = .ok (.invokespecial idx, 3)) (hC : EvC G y (.ref i :: args) h (v, h1)) (hfr : mF y + 1 ≤ mF M) (hlo : (rest.map fun v => v.category).sum + (mL y + 11) + mW y ≤ mW M)
    (hS : S = args.reverse ++ .ref i :: rest) (hn : Ev G M (pc + 3) L (v.toList ++ rest) h1 r) : Ev G M pc L S h r := by
  subst hS
  refine Ev.gen hC.1.1 hC.1.2 rfl hn ?_
  intro p e R s m args0 below meth c T locs cells slots X hx hZ hown hby hml hnm hLm hfr' hlo' hsz hR hFr hc hsq
  obtain ⟨v', vm1, ⟨T', L', k', n'⟩, -, X', ⟨Lc, ⟨rfl, hF', hR'⟩, l1, l2, l3⟩, st⟩ := X.specialBack hx (y := mN y) hy1 hown (mvT hZ wl) (mvT hZ wi) (mvT hZ (hret ▸ wc)) hy
    (back_of_evc (W := (rest.map fun v => v.category).sum) hC hR hZ wc wz (Nat.le_trans hfr hfr') (Nat.le_trans hlo hlo')) (g := mkF m pc (arL G L) ((args.reverse ++ Value.ref i :: rest).map (tr G))) rfl (by rw [hml, ← hLm]; simp [arL]) (Steps.refl _)
    (a := rho G i) (argsL := args.map (tr G)) (rest := rest.map (tr G)) (fun sig hsig => by rw [List.length_map]; exact hlen sig hsig) (by simp [tr]) (by rw [tr_cats]; show 2 * 0 + _ ≤ _; omega) (hb hby hd) (fun vm1 hW1 => ⟨rfl, rfl, hc, hsq⟩)
  dsimp only [Pt.U, Pt.locs, Pt.cells, Pt.slots] at X' l1 l2 l3 st hR'
  subst l1 l2 l3
  refine ⟨T', _, X', hR', hFr.app hF', fun target k => st.trans ?_⟩
  rw [vList]
  exact k
/-- a static method -/
theorem Ev.stat {y : Mi} {idx : Nat} {args rest : List Value} {v : Option Value} {h1 : MHeap} (hy : notMH y)
    (wl : (Jvm.Cond.methodLink (mN M).cls idx (mN y)).before (gA G) (gZ G) = true) (wst : (Jvm.Cond.static (mN y)).before (gA G) (gZ G) = true) (wz : (Jvm.Cond.initialized (mN y).cls).before (gA G) (gZ G) = true)
    (wc : (Jvm.Cond.code (mN y) (mB y) (mL y) (mR y)).before (gA G) (gZ G) = true) (hlen : ∀ sig, parseMethodDescriptor (mN y).desc = some sig → args.length = sig.parameters.length)
    (hd : decode (mB M) pc = .ok (.invokestatic idx, 3)) (hC : EvC G y args h (v, h1)) (hfr : mF y + 1 ≤ mF M) (hlo : (rest.map fun v => v.category).sum + (mL y + 11) + mW y ≤ mW M)
    (hS : S = args.reverse ++ rest) (hn : Ev G M (pc + 3) L (v.toList ++ rest) h1 r) : Ev G M pc L S h r := by
  subst hS
  refine Ev.gen hC.1.1 hC.1.2 rfl hn ?_
  intro p e R s m args0 below meth c T locs cells slots X hx hZ hown hby hml hnm hLm hfr' hlo' hsz hR hFr hc hsq
  obtain ⟨v', vm1, ⟨T', L', k', n'⟩, -, X', ⟨Lc, ⟨rfl, hF', hR'⟩, l1, l2, l3⟩, st⟩ := Jvm.LawKit.callS X hx (y := mN y) hown (mvT hZ wl) (mvT hZ wst) (mvT hZ wz) (mvT hZ wc) hy
    (back_of_evc (W := (rest.map fun v => v.category).sum) hC hR hZ wc wz (Nat.le_trans hfr hfr') (Nat.le_trans hlo hlo')) (g := mkF m pc (arL G L) ((args.reverse ++ rest).map (tr G))) rfl (by rw [hml, ← hLm]; simp [arL])
    (argsL := args.map (tr G)) (rest := rest.map (tr G)) (fun sig hsig => by rw [List.length_map]; exact hlen sig hsig) (by simp) (by rw [tr_cats]; show 2 * 0 + _ ≤ _; omega) (hb hby hd) (fun vm1 hW1 => ⟨rfl, rfl, hc, hsq⟩)
  dsimp only [Pt.U, Pt.locs, Pt.cells, Pt.slots] at X' l1 l2 l3 st hR'
  subst l1 l2 l3
  refine ⟨T', _, X', hR', hFr.app hF', fun target k => st target ?_⟩
  rw [vList]
  exact k
/-! ### returns -/
theorem Ev.ret {v : Option Value} (st : ∀ {p : Program} {e : Env} {R : Room} {s : State} {m : MethodId} {args : Array Value} {below : List Frame} {meth : Method} {c : Code} {T : State} {locs : List Loc} {cells slots : Nat},
      Stand p (gL G) e R s m args below meth c T locs cells slots → p.tables.exec = Jvm.exec → c.code = mB M → meth.sig.returnType = mR M → ∀ fs,
      (∀ (f : JFrame) (acts : List Action), f.method = m → f.locked = none → f.entered = [] → (doReturn e (T.setTop f) acts (v.map (tr G))).1 = T.setFrames fs) → Steps p.tables e below (T.setTop (mkF m pc (arL G L) (S.map (tr G)))) (T.setFrames fs)) :
    Ev G M pc L S h (v, h) := by
  refine ⟨⟨Nat.le_refl _, Nat.le_refl _⟩, ?_⟩
  intro p e R s m args below meth c T locs cells slots X hx hZ hown hby hml hret hnm hLm hfr hlo hsz hR hF hc hs
  refine ⟨T, locs, ?_, hR, hF, st X hx hby hret⟩
  rw [Nat.sub_self, Nat.sub_self, Nat.add_zero, Nat.add_zero]
  exact X
theorem Ev.ireturn {z : Int32} (hret : mR M = some .int) (hd : decode (mB M) pc = .ok (.ireturn, 1)) : Ev G M pc L (.int z :: S) h (some (.int z), h) :=
  Ev.ret fun X hx hby hr fs hl => retOut X hx (hr.trans hret) rfl (Or.inl ⟨rfl, Or.inl rfl, z, rfl⟩) (hb hby hd) hl
theorem Ev.zreturn {z : Int32} (hret : mR M = some .boolean) (hd : decode (mB M) pc = .ok (.ireturn, 1)) : Ev G M pc L (.int z :: S) h (some (.int (z &&& 1)), h) :=
  Ev.ret fun X hx hby hr fs hl => retN X hx (t := .boolean) (hr.trans hret) (Or.inl rfl) (hb hby hd) hl
theorem Ev.lreturn {z : Int64} (hret : mR M = some .long) (hd : decode (mB M) pc = .ok (.lreturn, 1)) : Ev G M pc L (.long z :: S) h (some (.long z), h) :=
  Ev.ret fun X hx hby hr fs hl => retOut X hx (hr.trans hret) rfl (Or.inr (Or.inl ⟨rfl, rfl, z, rfl⟩)) (hb hby hd) hl
theorem Ev.vreturn (hret : mR M = none) (hd : decode (mB M) pc = .ok (.return_, 1)) : Ev G M pc L [] h (none, h) :=
  Ev.ret fun X hx hby hr fs hl => X.returnOut hx (hr.trans hret) (hb hby hd) hl
/-! ### entering -/
def margs : List Value → List Slot
  | [] => []
  | v :: vs => if v.category = 2 then .val v :: .second :: margs vs else .val v :: margs vs
theorem margs_fold (vs : List Value) : ∀ acc : Array Slot, vs.foldl (init := acc) (fun acc v => if v.category = 2 then (acc.push (.val v)).push .second else acc.push (.val v)) = acc ++ (margs vs).toArray := by
  induction vs with
  | nil => intro acc; simp [margs]
  | cons v vs ih =>
    intro acc
    rw [List.foldl_cons, ih]
    by_cases h : v.category = 2
    · simp [margs, h]
    · simp [margs, h]
theorem margs_map (G : Ctx) : ∀ vs : List Value, margs (vs.map (tr G)) = (margs vs).map (trS G)
  | [] => rfl
  | v :: vs => by
    have ih := margs_map G vs
    by_cases h : v.category = 2
    · simp only [List.map_cons, margs, tr_cat, h, if_true, ih]; rfl
    · simp only [List.map_cons, margs, tr_cat, h, if_false, ih]; rfl
def ment (args : List Value) (k : Nat) : List Slot := margs args ++ List.replicate (k - (margs args).length) .unset
theorem entry_eq (G : Ctx) (m : MethodId) (args : List Value) (k : Nat) : entryFrame m (args.map (tr G)).toArray k = mkF m 0 (arL G (ment args k)) [] := by
  have e : argsToLocals (args.map (tr G)).toArray k = arL G (ment args k) := by
    unfold argsToLocals arL ment
    have q := margs_fold (args.map (tr G)) #[]
    rw [List.foldl_toArray']
    · rw [q, margs_map]
      simp [trS]
    · simp
  unfold entryFrame
  rw [e]
theorem EvC.enter {y : Mi} {args : List Value} {L0 : List Slot} (hp : plainFor (mN y) = true) (hv : mR y = none → r.1 = none) (hL : ment args (mL y) = L0) (hlen : L0.length = mL y) (hn : Ev G y 0 L0 [] h r) : EvC G y args h r := by
  subst hL
  refine ⟨hn.1, fun ws R hr hf hl hc hs hR => ?_⟩
  refine MetFree.of_bodySF hp hisR ?_
  intro p e s m args' below meth c s₁ Bd hml0 hP hK
  obtain ⟨rfl, hZ, hh⟩ := hP
  have X0 : Stand p (gL G) e R s m _ below meth c s₁ [] 0 0 := Stand.of_body Bd
  have e0 : s₁.heap = hr := by rw [← hh, Bd.state]; rfl
  obtain ⟨T', locs', X', R', F', st⟩ := hn.2 p e R s m _ below meth c s₁ [] 0 0 X0 Bd.exec hZ (findClass_of_methodNamed Bd.named) Bd.bytes hml0 Bd.returns (name_of_methodNamed Bd.named Bd.method).1 hlen hf hl (by rw [e0, hh]; rfl) (by rw [e0]; exact hR) (Fr.nil _) (by omega) (by omega)
  rw [Nat.zero_add, Nat.zero_add] at X'
  obtain ⟨fs, hret, hrun, hended, hW, hsame⟩ := X'.leave (v := r.1.map (tr G)) (fun q => by rw [hv (Bd.returns.symm.trans q)]; rfl)
  refine ⟨_, _, castTop (entry_eq G m args (mL y)) (st fs hret), hrun, hended, _, _, rfl, ⟨rfl, F', ?_⟩, ⟨_, rfl⟩, hW, hsame⟩
  exact R'
end Rules
end Jvm.Own
namespace Jvm.Own
open Sem ClassFile Op Lib Jvm.Stand Jvm.Free Jvm.LawKit Jvm.RoadKit
/-! ## 4. An object as two functions: its ints by the field's number, its arrays by the field's number and the place -/
abbrev St := (Nat → Int32) × (Nat → Nat → Int32)
def setI (s : St) (j : Nat) (z : Int32) : St := (fun k => if k = j then z else s.1 k, s.2)
def setA (s : St) (j i : Nat) (z : Int32) : St := (s.1, fun k x => if k = j ∧ x = i then z else s.2 k x)
def zeroS : St := (fun _ => 0, fun _ _ => 0)
theorem setI_1 (s : St) (j : Nat) (z : Int32) (k : Nat) : (setI s j z).1 k = if k = j then z else s.1 k := rfl
theorem setI_2 (s : St) (j : Nat) (z : Int32) : (setI s j z).2 = s.2 := rfl
theorem setA_1 (s : St) (j i : Nat) (z : Int32) : (setA s j i z).1 = s.1 := rfl
theorem setA_2 (s : St) (j i : Nat) (z : Int32) (k x : Nat) : (setA s j i z).2 k x = if k = j ∧ x = i then z else s.2 k x := rfl
def ix (j : Int32) : Nat := j.toNatClampNeg
/-- the place j lies in an array of n -/
def inb (j : Int32) (n : Nat) : Prop := ¬ j < 0 ∧ ix j < n
instance (j : Int32) (n : Nat) : Decidable (inb j n) := inferInstanceAs (Decidable (_ ∧ _))
def bnd {α β : Type} (x : α) (f : α → β) : β := f x
theorem bnd_eq {α β : Type} (x : α) (f : α → β) : bnd x f = f x := rfl
def tab (n : Nat) (f : Nat → Int32) : List Int32 := (List.range n).map f
theorem tab_len (n : Nat) (f : Nat → Int32) : (tab n f).length = n := by simp [tab]
theorem tab_get {n : Nat} {f : Nat → Int32} {i : Nat} (h : i < n) : (tab n f)[i]? = some (f i) := by simp [tab, h]
theorem tab_set {n : Nat} {f : Nat → Int32} {i : Nat} {z : Int32} : (tab n f).set i z = tab n (fun x => if x = i then z else f x) := by
  apply List.ext_getElem?
  intro k
  rw [List.getElem?_set]
  by_cases h : i = k
  · subst h
    by_cases q : i < n
    · simp [tab, q]
    · simp [tab, q]
  · by_cases q : k < n
    · simp [tab, q, h, Ne.symm h]
    · simp [tab, q, h]
theorem tab_zero (n : Nat) : tab n (fun _ => 0) = List.replicate n 0 := by
  apply List.ext_getElem?
  intro k
  by_cases q : k < n <;> simp [tab, q]
theorem tab_of (xs : List Int32) : xs = tab xs.length (fun i => xs.getD i 0) := by
  apply List.ext_getElem?
  intro k
  by_cases q : k < xs.length
  · simp [tab, q]
  · simp [tab, q]
def isA : FieldType → Bool
  | .array _ => true
  | _ => false
def isB : FieldType → Bool
  | .boolean => true
  | _ => false
def fv1 (r : Nat → Nat) (s : St) (j : Nat) (f : Fd) : Value := match f.2.2 with
  | .array _ => .ref (r j)
  | _ => .int (s.1 j)
def fvA (r : Nat → Nat) (s : St) : Nat → List Fd → List Value
  | _, [] => []
  | j, f :: fs => fv1 r s j f :: fvA r s (j + 1) fs
theorem fvA_get (r : Nat → Nat) (s : St) : ∀ (F : List Fd) (k j : Nat), (fvA r s k F)[j]? = (F[j]?).map (fv1 r s (k + j))
  | [], _, _ => by simp [fvA]
  | f :: fs, k, 0 => by simp [fvA]
  | f :: fs, k, j + 1 => by
    have := fvA_get r s fs (k + 1) j
    simp only [fvA, List.getElem?_cons_succ, this]
    rw [show k + 1 + j = k + (j + 1) by omega]
theorem fvA_len (r : Nat → Nat) (s : St) : ∀ (F : List Fd) (k : Nat), (fvA r s k F).length = F.length
  | [], _ => rfl
  | f :: fs, k => by simp [fvA, fvA_len r s fs (k + 1)]
theorem fvA_set {r : Nat → Nat} {s : St} {F : List Fd} {j : Nat} {f : Fd} {z : Int32} (hF : F[j]? = some f) (ht : isA f.2.2 = false) : (fvA r s 0 F).set j (.int z) = fvA r (setI s j z) 0 F := by
  apply List.ext_getElem?
  intro k
  rw [List.getElem?_set, fvA_get, fvA_get, Nat.zero_add]
  by_cases h : j = k
  · subst h
    simp only [if_true, fvA_len, (List.getElem?_eq_some_iff.mp hF).1, hF, Option.map_some]
    congr 1
    unfold fv1
    split
    · rename_i t e; rw [e] at ht; cases ht
    · simp [setI_1]
  · simp only [h, if_false]
    cases F[k]? with
    | none => rfl
    | some g =>
      simp only [Option.map_some]
      congr 1
      unfold fv1
      split
      · rfl
      · rw [setI_1, if_neg (Ne.symm h)]
theorem fvA_same (r : Nat → Nat) {s s' : St} (h : s.1 = s'.1) : ∀ (F : List Fd) (k : Nat), fvA r s k F = fvA r s' k F
  | [], _ => rfl
  | f :: fs, k => by
    simp only [fvA, fvA_same r h fs (k + 1)]
    congr 1
    unfold fv1
    split
    · rfl
    · rw [h]
/-- the heap K s shows the object at o, its arrays at r, as s tells -/
def View (G : Ctx) (Ln : Nat → Nat) (K : St → MHeap) (o : Nat) (r : Nat → Nat) : Prop :=
  k0 G ≤ o ∧ (∀ s, (K s)[o]? = some (.inl (fvA r s 0 (gF G)))) ∧
  (∀ s j f z, (gF G)[j]? = some f → isA f.2.2 = false → (K s).set o (.inl ((fvA r s 0 (gF G)).set j (.int z))) = K (setI s j z)) ∧
  (∀ j n d t, (gF G)[j]? = some (n, d, .array t) → k0 G ≤ r j ∧ (∀ s, (K s)[r j]? = some (.inr (isB t, tab (Ln j) (s.2 j)))) ∧ ∀ s i z, i < Ln j → (K s).set (r j) (.inr (isB t, (tab (Ln j) (s.2 j)).set i z)) = K (setA s j i z))
section ViewRules
variable {G : Ctx} {M : Mi} {pc : Nat} {L : List Slot} {S : List Value} {rr : Option Value × MHeap} {Ln : Nat → Nat} {K : St → MHeap} {o : Nat} {r : Nat → Nat} {s : St}
theorem Ev.gI {idx j : Nat} {n d : String} {ty : FieldType} (V : View G Ln K o r) (w : (Jvm.Cond.fieldLink (mN M).cls idx (gC G) n d).before (gA G) (gZ G) = true) (hd : decode (mB M) pc = .ok (.getfield idx, 3)) (hF : (gF G)[j]? = some (n, d, ty)) (ht : isA ty = false)
    (hn : Ev G M (pc + 3) L (.int (s.1 j) :: S) (K s) rr) : Ev G M pc L (.ref o :: S) (K s) rr :=
  Ev.getfield w hd hF (V.2.1 s) (v := .int (s.1 j)) (by rw [fvA_get, hF, Nat.zero_add]; simp only [Option.map_some, fv1]; cases ty <;> first | rfl | cases ht) hn
theorem Ev.gAr {idx j : Nat} {n d : String} {t : FieldType} (V : View G Ln K o r) (w : (Jvm.Cond.fieldLink (mN M).cls idx (gC G) n d).before (gA G) (gZ G) = true) (hd : decode (mB M) pc = .ok (.getfield idx, 3)) (hF : (gF G)[j]? = some (n, d, .array t))
    (hn : Ev G M (pc + 3) L (.ref (r j) :: S) (K s) rr) : Ev G M pc L (.ref o :: S) (K s) rr :=
  Ev.getfield w hd hF (V.2.1 s) (v := .ref (r j)) (by rw [fvA_get, hF, Nat.zero_add]; rfl) hn
theorem Ev.pI {idx j : Nat} {n d : String} {z : Int32} (V : View G Ln K o r) (Kk : GOk G) (w : (Jvm.Cond.fieldLink (mN M).cls idx (gC G) n d).before (gA G) (gZ G) = true)
    (wl : (Jvm.Cond.lays (gC G) (gC G) n d).before (gA G) (gZ G) = true ∨ ((Jvm.Cond.laysFinal (gC G) (gC G) n d).before (gA G) (gZ G) = true ∧ (mN M).cls = gC G ∧ (mN M).name = "<init>"))
    (hd : decode (mB M) pc = .ok (.putfield idx, 3)) (hF : (gF G)[j]? = some (n, d, .int)) (hn : Ev G M (pc + 3) L S (K (setI s j z)) rr) : Ev G M pc L (.int z :: .ref o :: S) (K s) rr := by
  refine Ev.putfield Kk w wl hd hF V.1 (V.2.1 s) (v' := .int z) rfl ?_
  rw [V.2.2.1 s j _ z hF rfl]; exact hn
theorem Ev.pZ {idx j : Nat} {n d : String} {z : Int32} (V : View G Ln K o r) (Kk : GOk G) (w : (Jvm.Cond.fieldLink (mN M).cls idx (gC G) n d).before (gA G) (gZ G) = true)
    (wl : (Jvm.Cond.lays (gC G) (gC G) n d).before (gA G) (gZ G) = true ∨ ((Jvm.Cond.laysFinal (gC G) (gC G) n d).before (gA G) (gZ G) = true ∧ (mN M).cls = gC G ∧ (mN M).name = "<init>"))
    (hd : decode (mB M) pc = .ok (.putfield idx, 3)) (hF : (gF G)[j]? = some (n, d, .boolean)) (hn : Ev G M (pc + 3) L S (K (setI s j (z &&& 1))) rr) : Ev G M pc L (.int z :: .ref o :: S) (K s) rr := by
  refine Ev.putfield Kk w wl hd hF V.1 (V.2.1 s) (v' := .int (z &&& 1)) rfl ?_
  rw [V.2.2.1 s j _ _ hF rfl]; exact hn
theorem Ev.ial {j : Nat} {n d : String} {i : Int32} {N : Nat} (V : View G Ln K o r) (hF : (gF G)[j]? = some (n, d, .array .int)) (hN : Ln j = N) (hd : decode (mB M) pc = .ok (.iaload, 1)) (hb : inb i N) (hn : Ev G M (pc + 1) L (.int (s.2 j (ix i)) :: S) (K s) rr) : Ev G M pc L (.int i :: .ref (r j) :: S) (K s) rr :=
  Ev.iaload hd ((V.2.2.2 j n d _ hF).2.1 s) hb.1 (tab_get (hN ▸ hb.2)) hn
theorem Ev.bal {j : Nat} {n d : String} {i : Int32} {N : Nat} (V : View G Ln K o r) (hF : (gF G)[j]? = some (n, d, .array .boolean)) (hN : Ln j = N) (hd : decode (mB M) pc = .ok (.baload, 1)) (hb : inb i N) (hn : Ev G M (pc + 1) L (.int (s.2 j (ix i)) :: S) (K s) rr) : Ev G M pc L (.int i :: .ref (r j) :: S) (K s) rr :=
  Ev.baload hd ((V.2.2.2 j n d _ hF).2.1 s) hb.1 (tab_get (hN ▸ hb.2)) hn
theorem Ev.ias {j : Nat} {n d : String} {i z : Int32} {N : Nat} (V : View G Ln K o r) (hF : (gF G)[j]? = some (n, d, .array .int)) (hN : Ln j = N) (hd : decode (mB M) pc = .ok (.iastore, 1)) (hb : inb i N) (hn : Ev G M (pc + 1) L S (K (setA s j (ix i) z)) rr) : Ev G M pc L (.int z :: .int i :: .ref (r j) :: S) (K s) rr := by
  obtain ⟨q1, q2, q3⟩ := V.2.2.2 j n d _ hF
  refine Ev.iastore hd q1 (q2 s) hb.1 (by rw [tab_len, hN]; exact hb.2) ?_
  have := q3 s (ix i) z (hN ▸ hb.2)
  exact this ▸ hn
theorem Ev.bas {j : Nat} {n d : String} {i z : Int32} {N : Nat} (V : View G Ln K o r) (hF : (gF G)[j]? = some (n, d, .array .boolean)) (hN : Ln j = N) (hd : decode (mB M) pc = .ok (.bastore, 1)) (hb : inb i N) (hn : Ev G M (pc + 1) L S (K (setA s j (ix i) (z &&& 1))) rr) : Ev G M pc L (.int z :: .int i :: .ref (r j) :: S) (K s) rr := by
  obtain ⟨q1, q2, q3⟩ := V.2.2.2 j n d _ hF
  refine Ev.bastore hd q1 (q2 s) hb.1 (by rw [tab_len, hN]; exact hb.2) ?_
  have := q3 s (ix i) (z &&& 1) (hN ▸ hb.2)
  exact this ▸ hn
theorem Ev.sal {h : MHeap} {i : Int32} {N k : Nat} {f : Nat → Int32} (hs : h[k]? = some (.inr (false, tab N f))) (hd : decode (mB M) pc = .ok (.iaload, 1)) (hb : inb i N) (hn : Ev G M (pc + 1) L (.int (f (ix i)) :: S) h rr) : Ev G M pc L (.int i :: .ref k :: S) h rr :=
  Ev.iaload hd hs hb.1 (tab_get hb.2) hn
theorem Ev.sln {h : MHeap} {N k : Nat} {f : Nat → Int32} (hs : h[k]? = some (.inr (false, tab N f))) (hd : decode (mB M) pc = .ok (.arraylength, 1)) (hn : Ev G M (pc + 1) L (.int N.toInt32 :: S) h rr) : Ev G M pc L (.ref k :: S) h rr :=
  Ev.arraylength hd hs (by rw [tab_len]; exact hn)
theorem Ev.zret1 {h : MHeap} (hret : mR M = some .boolean) (hd : decode (mB M) pc = .ok (.ireturn, 1)) : Ev G M pc L (.int 1 :: S) h (some (.int 1), h) := Ev.zreturn hret hd
theorem Ev.zret0 {h : MHeap} (hret : mR M = some .boolean) (hd : decode (mB M) pc = .ok (.ireturn, 1)) : Ev G M pc L (.int 0 :: S) h (some (.int 0), h) := Ev.zreturn hret hd
/-- a slot over which an int may be stored at once -/
def one1 : Slot → Bool
  | .unset => true
  | .val v => v.category == 1
  | .second => false
theorem mst_one {l : List Slot} {i : Nat} {v : Value} {o : Slot} (ho : l[i]? = some o) (h1 : one1 o = true) (hv : v.category = 1) : mst l i v = some (l.set i (.val v)) := by
  have hlt := (List.getElem?_eq_some_iff.mp ho).1
  have e : lstoreSelf l i v = some (l.set i (.val v)) := by simp [lstoreSelf, lsetAt, hlt, hv]
  unfold mst
  rw [ho]
  cases o with
  | unset => exact e
  | second => cases h1
  | val w =>
    have : w.category = 1 := by simpa [one1] using h1
    simp only [this]
    exact e
theorem Ev.istD {k : Nat} {v : Int32} {L' : List Slot} {o : Slot} {h : MHeap} (hd : decode (mB M) pc = .ok (.istore k, 2)) (ho : L[k]? = some o) (h1 : one1 o = true) (hl : L.set k (.val (.int v)) = L') (hn : Ev G M (pc + 2) L' S h rr) : Ev G M pc L (.int v :: S) h rr :=
  Ev.istore hd (by rw [mst_one ho h1 rfl, hl]) hn
theorem Ev.istDN {k : Fin 4} {v : Int32} {L' : List Slot} {o : Slot} {h : MHeap} (hd : decode (mB M) pc = .ok (.istore_n k, 1)) (ho : L[k.val]? = some o) (h1 : one1 o = true) (hl : L.set k.val (.val (.int v)) = L') (hn : Ev G M (pc + 1) L' S h rr) : Ev G M pc L (.int v :: S) h rr :=
  Ev.istoreN hd (by rw [mst_one ho h1 rfl, hl]) hn
/-- a pair of slots over which a long may be stored at once -/
def two2 (a b : Slot) : Prop := (one1 a = true ∧ one1 b = true) ∨ (∃ x, a = .val (.long x) ∧ b = .second)
theorem set_set2 {l : List Slot} {i : Nat} {a b c : Slot} : ((l.set (i + 1) a).set i b).set (i + 1) c = (l.set i b).set (i + 1) c := by
  rw [List.set_comm _ _ (by omega : i + 1 ≠ i), List.set_set]
theorem mst_two {l : List Slot} {i : Nat} {v : Int64} {o o' : Slot} (ho : l[i]? = some o) (ho' : l[i + 1]? = some o') (h2 : two2 o o') : mst l i (.long v) = some ((l.set i (.val (.long v))).set (i + 1) .second) := by
  have hlt := (List.getElem?_eq_some_iff.mp ho).1
  have hlt' := (List.getElem?_eq_some_iff.mp ho').1
  rcases h2 with ⟨h1, h1'⟩ | ⟨x, rfl, rfl⟩
  · have e : lstoreSelf l i (.long v) = some ((l.set i (.val (.long v))).set (i + 1) .second) := by
      have q : (l.set i (.val (.long v)))[i + 1]? = some o' := by rw [List.getElem?_set_ne (by omega)]; exact ho'
      have hcat : (Value.long v).category = 2 := rfl
      simp only [lstoreSelf, lsetAt, hlt, if_true, hcat, q]
      cases o' with
      | unset => simp [hlt']
      | second => cases h1'
      | val w =>
        have : w.category = 1 := by simpa [one1] using h1'
        simp [this, hlt']
    unfold mst
    rw [ho]
    cases o with
    | unset => exact e
    | second => cases h1
    | val w =>
      have : w.category = 1 := by simpa [one1] using h1
      simp only [this]
      exact e
  · unfold mst
    rw [ho]
    have q : ((l.set (i + 1) Slot.unset).set i (.val (.long v)))[i + 1]? = some .unset := by
      rw [List.getElem?_set_ne (by omega), List.getElem?_set_self hlt']
    simp only [Value.category, if_true, lsetAt, hlt', lstoreSelf, List.length_set, hlt, q, set_set2]
theorem Ev.lstD {k : Nat} {v : Int64} {L' : List Slot} {o o' : Slot} {h : MHeap} (hd : decode (mB M) pc = .ok (.lstore k, 2)) (ho : L[k]? = some o) (ho' : L[k + 1]? = some o') (h2 : two2 o o') (hl : (L.set k (.val (.long v))).set (k + 1) .second = L') (hn : Ev G M (pc + 2) L' S h rr) : Ev G M pc L (.long v :: S) h rr :=
  Ev.lstore hd (by rw [mst_two ho ho' h2, hl]) hn
theorem Ev.lstDN {k : Fin 4} {v : Int64} {L' : List Slot} {o o' : Slot} {h : MHeap} (hd : decode (mB M) pc = .ok (.lstore_n k, 1)) (ho : L[k.val]? = some o) (ho' : L[k.val + 1]? = some o') (h2 : two2 o o') (hl : (L.set k.val (.val (.long v))).set (k.val + 1) .second = L') (hn : Ev G M (pc + 1) L' S h rr) : Ev G M pc L (.long v :: S) h rr :=
  Ev.lstoreN hd (by rw [mst_two ho ho' h2, hl]) hn
end ViewRules
/-! ## 5. One object among others -/
/-- al: the array fields in the order in which the constructor makes them, each with 'of booleans' -/
def rA (o : Nat) (al : List (Nat × Bool)) (j : Nat) : Nat := o + 1 + al.findIdx (fun q => q.1 == j)
def arr1 (Ln : Nat → Nat) (s : St) (q : Nat × Bool) : MCell := .inr (q.2, tab (Ln q.1) (s.2 q.1))
def KO (F : List Fd) (al : List (Nat × Bool)) (Ln : Nat → Nat) (o : Nat) (s : St) : MHeap := .inl (fvA (rA o al) s 0 F) :: al.map (arr1 Ln s)
def KH (F : List Fd) (al : List (Nat × Bool)) (Ln : Nat → Nat) (pre post : MHeap) (s : St) : MHeap := pre ++ (KO F al Ln pre.length s ++ post)
def alOk (F : List Fd) (al : List (Nat × Bool)) : Bool := (List.range F.length).all (fun j => match F[j]? with
  | some (_, _, .array t) => al[al.findIdx (fun q => q.1 == j)]? == some (j, isB t)
  | _ => true)
theorem KO_len {F : List Fd} {al : List (Nat × Bool)} {Ln : Nat → Nat} {o : Nat} {s : St} : (KO F al Ln o s).length = al.length + 1 := by simp [KO]
theorem app_get (pre post l : MHeap) (k : Nat) (h : k < l.length) : (pre ++ (l ++ post))[pre.length + k]? = l[k]? := by
  rw [List.getElem?_append_right (by omega), Nat.add_sub_cancel_left, List.getElem?_append_left h]
theorem app_set (pre post l : MHeap) (k : Nat) (c : MCell) (h : k < l.length) : (pre ++ (l ++ post)).set (pre.length + k) c = pre ++ (l.set k c ++ post) := by
  rw [List.set_append_right _ _ (by omega), Nat.add_sub_cancel_left, List.set_append_left _ _ h]
theorem view_of {G : Ctx} {al : List (Nat × Bool)} {Ln : Nat → Nat} {pre post : MHeap} (hk : k0 G ≤ pre.length) (h1 : alOk (gF G) al = true) (h2 : (al.map (·.1)).Nodup) :
    View G Ln (KH (gF G) al Ln pre post) pre.length (rA pre.length al) := by
  refine ⟨hk, fun s => ?_, fun s j f z hF ht => ?_, fun j n d t hF => ?_⟩
  · have := app_get pre post (KO (gF G) al Ln pre.length s) 0 (by rw [KO_len]; omega)
    exact this
  · have := app_set pre post (KO (gF G) al Ln pre.length s) 0 (.inl ((fvA (rA pre.length al) s 0 (gF G)).set j (.int z))) (by rw [KO_len]; omega)
    refine Eq.trans this ?_
    show pre ++ ((.inl _ :: al.map (arr1 Ln s)) ++ post) = pre ++ ((.inl _ :: al.map (arr1 Ln (setI s j z))) ++ post)
    rw [fvA_set hF ht]
    rfl
  · have hj : j < (gF G).length := (List.getElem?_eq_some_iff.mp hF).1
    have hq := List.all_eq_true.mp h1 j (List.mem_range.mpr hj)
    simp only [hF, beq_iff_eq] at hq
    have hlt := (List.getElem?_eq_some_iff.mp hq).1
    have hlen : ∀ s, al.findIdx (fun q => q.1 == j) + 1 < (KO (gF G) al Ln pre.length s).length := fun s => by rw [KO_len]; omega
    have hr : rA pre.length al j = pre.length + (al.findIdx (fun q => q.1 == j) + 1) := by unfold rA; omega
    refine ⟨by rw [hr]; omega, fun s => ?_, fun s i z hi => ?_⟩
    · rw [hr]
      refine (app_get pre post _ _ (hlen s)).trans ?_
      show (al.map (arr1 Ln s))[al.findIdx fun q => q.1 == j]? = _
      rw [List.getElem?_map, hq]
      rfl
    · rw [hr]
      refine (app_set pre post _ _ _ (hlen s)).trans ?_
      show pre ++ ((.inl (fvA (rA pre.length al) s 0 (gF G)) :: (al.map (arr1 Ln s)).set (al.findIdx fun q => q.1 == j) (.inr (isB t, (tab (Ln j) (s.2 j)).set i z))) ++ post) = pre ++ ((.inl (fvA (rA pre.length al) (setA s j i z) 0 (gF G)) :: al.map (arr1 Ln (setA s j i z))) ++ post)
      rw [fvA_same (s := s) (s' := setA s j i z) _ rfl]
      congr 3
      apply List.ext_getElem?
      intro k
      rw [List.getElem?_set, List.getElem?_map, List.getElem?_map, List.length_map]
      by_cases e : al.findIdx (fun q => q.1 == j) = k
      · subst e
        simp only [if_true, hlt, hq, Option.map_some, arr1, tab_set]
        congr 4
        funext x
        rw [setA_2]
        simp
      · simp only [e, if_false]
        cases hk2 : al[k]? with
        | none => rfl
        | some q =>
          simp only [Option.map_some, arr1]
          have ne : q.1 ≠ j := fun hqj => by
            have a1 : (al.map (·.1))[al.findIdx (fun q => q.1 == j)]? = some j := by rw [List.getElem?_map, hq]; rfl
            have a2 : (al.map (·.1))[k]? = some j := by rw [List.getElem?_map, hk2]; simp [hqj]
            have := (List.getElem?_inj (by rw [List.length_map]; exact hlt) h2).mp (a1.trans a2.symm)
            exact e this
          congr 4
          funext x
          rw [setA_2]
          simp [ne]
/-! ### while the constructor makes the arrays -/
def cons (pre : MHeap) (fs : List Value) (as : List (Bool × List Int32)) : MHeap := pre ++ (.inl fs :: as.map .inr)
section ConsRules
variable {G : Ctx} {M : Mi} {pc : Nat} {L : List Slot} {S : List Value} {rr : Option Value × MHeap} {pre : MHeap} {fs fs' : List Value} {as : List (Bool × List Int32)}
theorem cons_get : (cons pre fs as)[pre.length]? = some (.inl fs) := by unfold cons; rw [List.getElem?_append_right (Nat.le_refl _), Nat.sub_self]; rfl
theorem cons_set (c : List Value) : (cons pre fs as).set pre.length (.inl c) = cons pre c as := by unfold cons; rw [List.set_append_right _ _ (Nat.le_refl _), Nat.sub_self]; rfl
theorem cons_len : (cons pre fs as).length = pre.length + 1 + as.length := by simp [cons]; omega
theorem cons_push (b : Bool) (xs : List Int32) : cons pre fs as ++ [.inr (b, xs)] = cons pre fs (as ++ [(b, xs)]) := by simp [cons]
theorem Ev.cput {idx j : Nat} {n d : String} {ty : FieldType} {v v' : Value} (K : GOk G) (hk : k0 G ≤ pre.length) (w : (Jvm.Cond.fieldLink (mN M).cls idx (gC G) n d).before (gA G) (gZ G) = true)
    (wl : (Jvm.Cond.lays (gC G) (gC G) n d).before (gA G) (gZ G) = true ∨ ((Jvm.Cond.laysFinal (gC G) (gC G) n d).before (gA G) (gZ G) = true ∧ (mN M).cls = gC G ∧ (mN M).name = "<init>"))
    (hd : decode (mB M) pc = .ok (.putfield idx, 3)) (hF : (gF G)[j]? = some (n, d, ty)) (hp : mput ty v = some v') (hs : fs.set j v' = fs') (hn : Ev G M (pc + 3) L S (cons pre fs' as) rr) : Ev G M pc L (v :: .ref pre.length :: S) (cons pre fs as) rr := by
  subst hs
  refine Ev.putfield K w wl hd hF hk cons_get hp ?_
  rw [cons_set]; exact hn
theorem Ev.cget {idx j : Nat} {n d : String} {ty : FieldType} {v : Value} (w : (Jvm.Cond.fieldLink (mN M).cls idx (gC G) n d).before (gA G) (gZ G) = true) (hd : decode (mB M) pc = .ok (.getfield idx, 3)) (hF : (gF G)[j]? = some (n, d, ty)) (hv : fs[j]? = some v)
    (hn : Ev G M (pc + 3) L (v :: S) (cons pre fs as) rr) : Ev G M pc L (.ref pre.length :: S) (cons pre fs as) rr := Ev.getfield w hd hF cons_get hv hn
theorem Ev.cnew {aty : ArrayType} {b : Bool} {n : Int32} {k q : Nat} {as' : List (Bool × List Int32)} (w : (Jvm.Cond.arrayClass (newarray.typeOf aty)).before (gA G) (gZ G) = true) (hb' : newarray.typeOf aty = kd b) (hd : decode (mB M) pc = .ok (.newarray aty, 2)) (hn0 : ¬ n < 0) (hk : n.toNatClampNeg = k) (hcap : k ≤ 67108864)
    (hq : as.length = q) (has : as ++ [(b, tab k (fun _ => 0))] = as') (hn : Ev G M (pc + 2) L (.ref (pre.length + 1 + q) :: S) (cons pre fs as') rr) : Ev G M pc L (.int n :: S) (cons pre fs as) rr := by
  subst hq has
  refine Ev.newarray w hb' hd hn0 hk hcap ?_
  rw [cons_push, cons_len, ← tab_zero]; exact hn
end ConsRules
theorem forall_get {P : Nat → Fd → Prop} : ∀ (F : List Fd) (k : Nat), (∀ j f, F[j]? = some f → P (k + j) f) → True := fun _ _ _ => trivial
def AllF (P : Fd → Prop) : List Fd → Prop
  | [] => True
  | f :: fs => P f ∧ AllF P fs
theorem AllF.mem {P : Fd → Prop} : ∀ {F : List Fd}, AllF P F → ∀ f ∈ F, P f
  | _ :: _, ⟨h1, h2⟩, f, hf => (List.mem_cons.mp hf).elim (fun e => e ▸ h1) (AllF.mem h2 f)
theorem gok_of {G : Ctx} (h1 : AllF (fun f => Laid (gZ G) (gA G) (gC G) (gC G) f.1 f.2.1 ∧ parseFieldDescriptor f.2.1 = some f.2.2) (gF G)) (h2 : ((gF G).map (·.1)).Nodup)
    (h3 : (Jvm.Cond.instantiable (gC G) (gK G)).before (gA G) (gZ G) = true) (h4 : (Jvm.Cond.initialized (gC G)).before (gA G) (gZ G) = true) : GOk G := by
  refine ⟨fun j n d ty hF => h1.mem _ (List.mem_of_getElem? hF), fun j j' f f' hF hF' ne e => ne ?_, h3, h4⟩
  have a1 : ((gF G).map (·.1))[j]? = some f.1 := by rw [List.getElem?_map, hF]; rfl
  have a2 : ((gF G).map (·.1))[j']? = some f.1 := by rw [List.getElem?_map, hF', e]; rfl
  exact (List.getElem?_inj (by rw [List.length_map]; exact (List.getElem?_eq_some_iff.mp hF).1) h2).mp (a1.trans a2.symm)
end Jvm.Own
namespace Jvm.Own
open Sem ClassFile Op Lib Jvm.Stand Jvm.Free Jvm.LawKit Jvm.RoadKit
def grd {α : Type} (c : Prop) [Decidable c] (x : Option α) : Option α := if c then x else none
theorem grd_some {α : Type} {c : Prop} [Decidable c] {x : Option α} {w : α} (h : grd c x = some w) : c ∧ x = some w := by
  unfold grd at h; split at h
  · exact ⟨by assumption, h⟩
  · cases h
theorem grd_pos {α : Type} {c : Prop} [Decidable c] {x : Option α} (h : c) : grd c x = x := if_pos h
theorem KH_len (F : List Fd) (al : List (Nat × Bool)) (Ln : Nat → Nat) (pre post : MHeap) (s : St) : (KH F al Ln pre post s).length = pre.length + (al.length + 1 + post.length) := by simp [KH, KO]; omega
theorem hsl_app (k : Nat) (a b : MHeap) : hsl k (a ++ b) = hsl k a + hsl k b := by simp [hsl]
theorem hsl_arr (k : Nat) (Ln : Nat → Nat) (s : St) : ∀ al : List (Nat × Bool), hsl k (al.map (arr1 Ln s)) = (al.map fun q => Ln q.1).sum
  | [] => rfl
  | q :: al => by
    have := hsl_arr k Ln s al
    simp only [hsl, List.map_cons, List.sum_cons] at this ⊢
    rw [this]
    simp [arr1, csl, tab_len]
theorem hsl_KH (k : Nat) (F : List Fd) (al : List (Nat × Bool)) (Ln : Nat → Nat) (pre post : MHeap) (s : St) : hsl k (KH F al Ln pre post s) = hsl k pre + (k + (al.map fun q => Ln q.1).sum + hsl k post) := by
  unfold KH
  rw [hsl_app, hsl_app]
  have : hsl k (KO F al Ln pre.length s) = k + (al.map fun q => Ln q.1).sum := by
    have := hsl_arr k Ln s al
    simp only [KO, hsl, List.map_cons, List.sum_cons, csl] at this ⊢
    rw [this]
  rw [this]
theorem ne_lit {x z : Int32} {k : Int} (h : ¬ x = z) (e : z.toInt = k) : x.toInt ≠ k := fun q => h (Int32.toInt_inj.mp (q.trans e.symm))
section
variable {G : Ctx} {M : Mi} {pc : Nat} {L : List Slot} {S : List Value} {rr : Option Value × MHeap}
theorem Ev.astD {k v : Nat} {L' : List Slot} {o : Slot} {h : MHeap} (hd : decode (mB M) pc = .ok (.astore k, 2)) (ho : L[k]? = some o) (h1 : one1 o = true) (hl : L.set k (.val (.ref v)) = L') (hn : Ev G M (pc + 2) L' S h rr) : Ev G M pc L (.ref v :: S) h rr :=
  Ev.astore hd (by rw [mst_one ho h1 rfl, hl]) hn
theorem Ev.astDN {k : Fin 4} {v : Nat} {L' : List Slot} {o : Slot} {h : MHeap} (hd : decode (mB M) pc = .ok (.astore_n k, 1)) (ho : L[k.val]? = some o) (h1 : one1 o = true) (hl : L.set k.val (.val (.ref v)) = L') (hn : Ev G M (pc + 1) L' S h rr) : Ev G M pc L (.ref v :: S) h rr :=
  Ev.astoreN hd (by rw [mst_one ho h1 rfl, hl]) hn
end
end Jvm.Own
namespace Jvm.Own
open Sem ClassFile Op Lib Jvm.Stand Jvm.Free Jvm.LawKit Jvm.RoadKit
section
variable {G : Ctx} {M : Mi} {pc : Nat} {L : List Slot} {S : List Value} {rr : Option Value × MHeap}
theorem mst_T {l : List Slot} {i : Nat} {v : Value} {o o' : Slot} (ho : l[i]? = some o) (ho' : l[i + 1]? = some o') (h2 : two2 o o') (hv : v.category = 1) : ∃ b, one1 b = true ∧ mst l i v = some ((l.set i (.val v)).set (i + 1) b) := by
  have hlt := (List.getElem?_eq_some_iff.mp ho).1
  have hlt' := (List.getElem?_eq_some_iff.mp ho').1
  rcases h2 with ⟨h1, h1'⟩ | ⟨x, rfl, rfl⟩
  · refine ⟨o', h1', ?_⟩
    rw [mst_one ho h1 hv]
    congr 1
    apply List.ext_getElem?
    intro k
    by_cases e : i + 1 = k
    · subst e
      rw [List.getElem?_set_self (by simpa using hlt'), List.getElem?_set_ne (by omega), ho']
    · rw [List.getElem?_set_ne e]
  · refine ⟨.unset, rfl, ?_⟩
    unfold mst
    rw [ho]
    have c2 : (Value.long x).category = 2 := rfl
    simp only [c2, if_true, lsetAt, hlt', lstoreSelf, List.length_set, hlt, hv]
    rw [List.set_comm _ _ (by omega : i + 1 ≠ i)]
    simp
theorem Ev.istT {k : Nat} {v : Int32} {L' : Slot → List Slot} {o o' : Slot} {h : MHeap} (hd : decode (mB M) pc = .ok (.istore k, 2)) (ho : L[k]? = some o) (ho' : L[k + 1]? = some o') (h2 : two2 o o') (hl : ∀ b, (L.set k (.val (.int v))).set (k + 1) b = L' b) (hn : ∀ b, one1 b = true → Ev G M (pc + 2) (L' b) S h rr) : Ev G M pc L (.int v :: S) h rr := by
  obtain ⟨b, h1, e⟩ := mst_T (v := .int v) ho ho' h2 rfl
  exact Ev.istore hd e (by rw [hl]; exact hn b h1)
theorem Ev.istTN {k : Fin 4} {v : Int32} {L' : Slot → List Slot} {o o' : Slot} {h : MHeap} (hd : decode (mB M) pc = .ok (.istore_n k, 1)) (ho : L[k.val]? = some o) (ho' : L[k.val + 1]? = some o') (h2 : two2 o o') (hl : ∀ b, (L.set k.val (.val (.int v))).set (k.val + 1) b = L' b) (hn : ∀ b, one1 b = true → Ev G M (pc + 1) (L' b) S h rr) : Ev G M pc L (.int v :: S) h rr := by
  obtain ⟨b, h1, e⟩ := mst_T (v := .int v) ho ho' h2 rfl
  exact Ev.istoreN hd e (by rw [hl]; exact hn b h1)
end
section
variable {G : Ctx} {Ln : Nat → Nat} {K : St → MHeap} {o len : Nat} {r : Nat → Nat} {F : List Fd} {al : List (Nat × Bool)}
theorem View.le (V : View G Ln K o r) (s : St) : k0 G ≤ (K s).length := Nat.le_trans V.1 (Nat.le_of_lt (List.getElem?_eq_some_iff.mp (V.2.1 s)).1)
theorem View.app (V : View G Ln K o r) (X : MHeap) : View G Ln (fun s => K s ++ X) o r := by
  refine ⟨V.1, fun s => ?_, fun s j f z hF ht => ?_, fun j n d t hF => ?_⟩
  · show (K s ++ X)[o]? = _
    rw [List.getElem?_append_left (List.getElem?_eq_some_iff.mp (V.2.1 s)).1]; exact V.2.1 s
  · show (K s ++ X).set o _ = _
    rw [List.set_append_left _ _ (List.getElem?_eq_some_iff.mp (V.2.1 s)).1, V.2.2.1 s j f z hF ht]
  · obtain ⟨q1, q2, q3⟩ := V.2.2.2 j n d t hF
    refine ⟨q1, fun s => ?_, fun s i z hi => ?_⟩
    · show (K s ++ X)[r j]? = _
      rw [List.getElem?_append_left (List.getElem?_eq_some_iff.mp (q2 s)).1]; exact q2 s
    · show (K s ++ X).set (r j) _ = _
      rw [List.set_append_left _ _ (List.getElem?_eq_some_iff.mp (q2 s)).1, q3 s i z hi]
theorem View.app2 (V : View G Ln K o r) (hl : ∀ s, (K s).length = len) (t : St) : View G Ln (fun s => KH F al Ln (K s) [] t) o r := by
  have e : (fun s => KH F al Ln (K s) [] t) = fun s => K s ++ (KO F al Ln len t ++ []) := by
    funext s; unfold KH; rw [hl]
  rw [e]
  exact V.app _
theorem app2_get (V : View G Ln K o r) {s t : St} {c : MCell} (h : (K s)[0]? = some c) : (KH F al Ln (K s) [] t)[0]? = some c := by
  unfold KH
  rw [List.getElem?_append_left (List.getElem?_eq_some_iff.mp h).1]; exact h
end
end Jvm.Own
namespace Jvm.Own
open Sem ClassFile Op Lib Jvm.Stand Jvm.Free Jvm.LawKit Jvm.RoadKit
def toI : Value → Int32
  | .int z => z
  | _ => 0
theorem script_rel {s : State} {a : Nat} {cl : Cell} {args : Array Value} {l : Launch} {C : String} {F : List Fd} {k : Nat} (hf : Fit s) (A : Arr s s.heap a cl .int) :
    ∃ xs : List Int32, xs.length = cl.slots.size ∧ Rel (s, args, l, some a, s.heap.size, C, F, k) s.heap [.inr (false, tab xs.length (fun i => xs.getD i 0))] := by
  have hl : (cl.slots.toList.map toI).length = cl.slots.size := by simp
  refine ⟨cl.slots.toList.map toI, hl, rfl, Nat.le_refl _, fun a' q => by cases q; exact A.lt, fun i c q => ?_⟩
  match i, q with
  | 0, q =>
    cases q
    refine ⟨cl, A, ?_⟩
    rw [← tab_of]
    apply Array.ext'
    apply List.ext_getElem?
    intro j
    simp only [List.map_map, List.getElem?_map]
    cases hj : cl.slots.toList[j]? with
    | none => rfl
    | some v =>
      have hj' : cl.slots[j]? = some v := by simpa using hj
      obtain ⟨hlt, hv⟩ := Array.getElem?_eq_some_iff.mp hj'
      have q := hf A.1 hlt
      obtain ⟨hs, kk, hk, comp, hkind⟩ := A.2.1
      have e : s.slotType? cl.cls cl.vm j = some .int := by
        cases hq : cl.vm <;> first | exact absurd hq (hs _) | simp [State.slotType?, hk, hkind]
      have q2 : fits .int v = true := by rw [hv] at q; simpa [State.fitsSlot, e] using q
      obtain ⟨z, rfl⟩ := fit_I q2 (Or.inl rfl)
      rfl
theorem script_len {s : State} {args : Array Value} {t : Term} {a : Nat} {cl : Cell} (A : Arr s s.heap a cl .int) (ea : t.eval args s none [] s = some (.ref a)) (h1 : (Jvm.Cond.isInt (.length t)).value args s none s [] = some true) (h2 : (Jvm.Cond.le (.length t) (.int 260)).value args s none s [] = some true) : cl.slots.size ≤ 260 := by
  obtain ⟨z, ez⟩ := is_v h1
  have ha := A.fin (Vm.Alike.refl s.vm)
  have hlen : cl.slots.size < 2 ^ 31 := by
    rcases Nat.lt_or_ge cl.slots.size (2 ^ 31) with q | q
    · exact q
    · simp [Term.eval, ea, ha, Nat.not_lt.mpr q] at ez
  have e1 := len_f ea ha hlen
  have q : cl.slots.size.toInt32 ≤ 260 := by
    have := Cond.le_ints e1 (Term.int_eval (260 : Int32)) (args := args) (first := s) (o := none) (s := s) (idx := [])
    exact gotT this h2
  have q2 := Int32.le_iff_toInt_le.mp q
  rw [len_toInt hlen] at q2
  have : (260 : Int32).toInt = 260 := by decide
  omega
end Jvm.Own
namespace Jvm.Own
open Sem ClassFile Op Lib Jvm.Stand Jvm.Free Jvm.LawKit Jvm.RoadKit
def decs (b : ByteArray) : List (Nat × Instr × Nat) → Bool
  | [] => true
  | q :: t => decide (decode b q.1 = .ok (q.2.1, q.2.2)) && decs b t
theorem dget {b : ByteArray} : ∀ {l : List (Nat × Instr × Nat)}, decs b l = true → ∀ {k p : Nat} {i : Instr} {n : Nat}, l[k]? = some (p, i, n) → decode b p = .ok (i, n)
  | [], _, k, _, _, _, hk => by simp at hk
  | q :: t, h, 0, p, i, n, hk => by
    simp only [decs, Bool.and_eq_true, decide_eq_true_eq] at h
    simp only [List.getElem?_cons_zero, Option.some.injEq] at hk
    subst hk
    exact h.1
  | q :: t, h, k + 1, p, i, n, hk => by
    simp only [decs, Bool.and_eq_true] at h
    exact dget h.2 (by simpa using hk)
end Jvm.Own
namespace Jvm.Own
/-! ## 6. Ints of 32 bits and naturals -/
theorem N_toInt {i : Nat} (h : i < 2147483648) : (Int32.ofNat i).toInt = i := Int32.toInt_ofNat_of_lt h
theorem N_lt {i j : Nat} (hi : i < 2147483648) (hj : j < 2147483648) : Int32.ofNat i < Int32.ofNat j ↔ i < j := by
  rw [Int32.lt_iff_toInt_lt, N_toInt hi, N_toInt hj]; omega
theorem N_inj {i j : Nat} (hi : i < 2147483648) (hj : j < 2147483648) : Int32.ofNat i = Int32.ofNat j ↔ i = j := by
  rw [← Int32.toInt_inj, N_toInt hi, N_toInt hj]; omega
theorem N_succ (i : Nat) : Int32.ofNat i + 1 = Int32.ofNat (i + 1) := (Int32.ofNat_add i 1).symm
theorem N_add (i j : Nat) : Int32.ofNat i + Int32.ofNat j = Int32.ofNat (i + j) := (Int32.ofNat_add i j).symm
theorem N_mul (i j : Nat) : Int32.ofNat i * Int32.ofNat j = Int32.ofNat (i * j) := (Int32.ofNat_mul i j).symm
theorem N_neg {i : Nat} (h : i < 2147483648) : ¬ Int32.ofNat i < 0 := by
  rw [Int32.lt_iff_toInt_lt, N_toInt h]; simp
theorem ix_N {i : Nat} (h : i < 2147483648) : ix (Int32.ofNat i) = i := by
  unfold ix Int32.toNatClampNeg; rw [N_toInt h]; simp
theorem inb_N {i n : Nat} (h : i < 2147483648) : inb (Int32.ofNat i) n ↔ i < n := by
  unfold inb; rw [ix_N h]; exact ⟨fun q => q.2, fun q => ⟨N_neg h, q⟩⟩
theorem ix_toInt {x : Int32} (h : ¬ x < 0) : (ix x : Int) = x.toInt := by
  unfold ix Int32.toNatClampNeg
  rw [Int32.lt_iff_toInt_lt] at h
  have : (0 : Int32).toInt = 0 := rfl
  omega
theorem ix_lt (x : Int32) : ix x < 2147483648 := by
  unfold ix Int32.toNatClampNeg
  have := Int32.toInt_lt x
  omega
theorem N_ix {x : Int32} (h : ¬ x < 0) : Int32.ofNat (ix x) = x := by
  rw [← Int32.toInt_inj, N_toInt (ix_lt x), ix_toInt h]
theorem ix_eq {x y : Int32} (hx : ¬ x < 0) (hy : ¬ y < 0) : ix x = ix y ↔ x = y := by
  refine ⟨fun e => ?_, fun e => e ▸ rfl⟩
  rw [← N_ix hx, ← N_ix hy, e]
theorem rng (x : Int32) : -2147483648 ≤ x.toInt ∧ x.toInt < 2147483648 := ⟨Int32.le_toInt x, Int32.toInt_lt x⟩
theorem lt_I {x y : Int32} : x < y ↔ x.toInt < y.toInt := Int32.lt_iff_toInt_lt
theorem le_I {x y : Int32} : x ≤ y ↔ x.toInt ≤ y.toInt := Int32.le_iff_toInt_le
theorem eq_I {x y : Int32} : x = y ↔ x.toInt = y.toInt := Int32.toInt_inj.symm
theorem bmod_eq {x : Int} (h1 : -2147483648 ≤ x) (h2 : x < 2147483648) : x.bmod (2 ^ 32) = x := by
  apply Int.bmod_eq_of_le <;> omega
theorem add_I {x y : Int32} (h1 : -2147483648 ≤ x.toInt + y.toInt) (h2 : x.toInt + y.toInt < 2147483648) : (x + y).toInt = x.toInt + y.toInt := by
  rw [Int32.toInt_add]; exact bmod_eq h1 h2
theorem sub_I {x y : Int32} (h1 : -2147483648 ≤ x.toInt - y.toInt) (h2 : x.toInt - y.toInt < 2147483648) : (x - y).toInt = x.toInt - y.toInt := by
  rw [Int32.toInt_sub]; exact bmod_eq h1 h2
theorem mul_I {x y : Int32} (h1 : -2147483648 ≤ x.toInt * y.toInt) (h2 : x.toInt * y.toInt < 2147483648) : (x * y).toInt = x.toInt * y.toInt := by
  rw [Int32.toInt_mul]; exact bmod_eq h1 h2
theorem inb_I {x : Int32} {n : Nat} (h1 : 0 ≤ x.toInt) (h2 : x.toInt < n) : inb x n := by
  have h : ¬ x < 0 := by rw [lt_I]; have : (0 : Int32).toInt = 0 := rfl; omega
  refine ⟨h, ?_⟩
  have := ix_toInt h
  omega
/-- an int between 0 and n is one of them -/
theorem cases_N {x : Int32} {n : Nat} (hn : n < 2147483648) (h0 : ¬ x < 0) (h1 : x < Int32.ofNat n) : ∃ i, i < n ∧ x = Int32.ofNat i := by
  refine ⟨ix x, ?_, (N_ix h0).symm⟩
  have a := ix_toInt h0
  rw [lt_I, N_toInt hn] at h1
  omega
/-! ## 7. Loops that count from i to N -/
def itr {α : Type} (f : Nat → α → α) : Nat → Nat → α → α
  | _, 0, s => s
  | i, m + 1, s => itr f (i + 1) m (f i s)
theorem loopN {α β : Type} {F : Nat → Int32 → α → Option β} {N : Nat} {f : Nat → α → α} {fin : α → Option β}
    (hF : ∀ k i s, i < N → F (k + 1) (Int32.ofNat i) s = F k (Int32.ofNat i + 1) (f i s)) (hE : ∀ k s, F (k + 1) (Int32.ofNat N) s = fin s) :
    ∀ m i k s, i + m = N → m < k → F k (Int32.ofNat i) s = fin (itr f i m s) := by
  intro m
  induction m with
  | zero =>
    intro i k s hi hk
    obtain ⟨k, rfl⟩ : ∃ k', k = k' + 1 := ⟨k - 1, by omega⟩
    have : i = N := by omega
    subst this
    exact hE k s
  | succ m ih =>
    intro i k s hi hk
    obtain ⟨k, rfl⟩ : ∃ k', k = k' + 1 := ⟨k - 1, by omega⟩
    rw [hF k i s (by omega), N_succ]
    exact ih (i + 1) k _ (by omega) (by omega)
theorem itr_ind {α : Type} {f : Nat → α → α} {P : Nat → α → Prop} {N : Nat} (h : ∀ i s, i < N → P i s → P (i + 1) (f i s)) : ∀ m i s, i + m = N → P i s → P N (itr f i m s) := by
  intro m
  induction m with
  | zero => intro i s hi hp; have : i = N := by omega
            subst this; exact hp
  | succ m ih => intro i s hi hp; exact ih (i + 1) _ (by omega) (h i s (by omega) hp)
theorem itr_pt {f : Nat → St → St} {u : Nat → Int32 → Int32} (h1 : ∀ i s, (f i s).1 = s.1) (h2 : ∀ i s k x, (f i s).2 k x = if x = i then u k (s.2 k x) else s.2 k x) :
    ∀ m i s, itr f i m s = (s.1, fun k x => if i ≤ x ∧ x < i + m then u k (s.2 k x) else s.2 k x) := by
  intro m
  induction m with
  | zero =>
    intro i s
    refine Prod.ext rfl ?_
    funext k x
    have : ¬ (i ≤ x ∧ x < i + 0) := by omega
    simp only [this, if_false]
    rfl
  | succ m ih =>
    intro i s
    show itr f (i + 1) m (f i s) = _
    rw [ih]
    refine Prod.ext (h1 i s) ?_
    funext k x
    simp only [h2]
    by_cases e : x = i
    · subst e
      have a : ¬ (x + 1 ≤ x ∧ x < x + 1 + m) := by omega
      have b : x ≤ x ∧ x < x + (m + 1) := by omega
      simp only [a, b, if_false, if_true, and_self]
    · have : (i + 1 ≤ x ∧ x < i + 1 + m) ↔ (i ≤ x ∧ x < i + (m + 1)) := by omega
      simp only [this, e, if_false]
theorem itr_fill (K : Nat) (z : Int32) (m : Nat) (s : St) : itr (fun i s => setA s K i z) 0 m s = (s.1, fun k x => if k = K ∧ x < m then z else s.2 k x) := by
  rw [itr_pt (f := fun i s => setA s K i z) (u := fun k v => if k = K then z else v) (fun _ _ => rfl) (fun i s j x => by
    simp only [setA_2]
    by_cases e : x = i <;> by_cases e1 : j = K <;> simp [e, e1])]
  refine Prod.ext rfl ?_
  funext k x
  have : (0 ≤ x ∧ x < 0 + m) ↔ x < m := by omega
  simp only [this]
  by_cases e : x < m <;> by_cases e1 : k = K <;> simp [e, e1]
theorem and_rng (x : Int32) {m : Nat} (hm : m < 2147483648) : 0 ≤ (x &&& Int32.ofNat m).toInt ∧ (x &&& Int32.ofNat m).toInt ≤ m := by
  have h1 : (x &&& Int32.ofNat m).toBitVec.toNat ≤ m := by
    rw [Int32.toBitVec_and, BitVec.toNat_and]
    refine Nat.le_trans Nat.and_le_right ?_
    show (BitVec.ofNat 32 m).toNat ≤ m
    rw [BitVec.toNat_ofNat]
    exact Nat.mod_le _ _
  have h2 : (x &&& Int32.ofNat m).toInt = ((x &&& Int32.ofNat m).toBitVec.toNat : Int) := by
    show (x &&& Int32.ofNat m).toBitVec.toInt = _
    exact BitVec.toInt_eq_toNat_of_lt (by omega)
  omega
theorem idx8 {o p : Int32} (h0 : ¬ o < 0) (h3 : ¬ 3 < o) : inb (o * 8 + (p &&& 7)) 32 := by
  have a := and_rng p (m := 7) (by omega)
  rw [show Int32.ofNat 7 = (7 : Int32) from rfl] at a
  rw [lt_I] at h0 h3
  have e0 : (0 : Int32).toInt = 0 := rfl
  have e3 : (3 : Int32).toInt = 3 := rfl
  have e8 : (8 : Int32).toInt = 8 := rfl
  have em : (o * 8).toInt = o.toInt * 8 := by rw [mul_I] <;> rw [e8] <;> omega
  have ea : (o * 8 + (p &&& 7)).toInt = o.toInt * 8 + (p &&& 7).toInt := by rw [add_I] <;> rw [em] <;> omega
  exact inb_I (by omega) (by omega)
theorem idx8' {o p : Int32} (h0 : ¬ o < 0) (h3 : ¬ 3 < o) (g0 : ¬ p < 0) (g7 : ¬ 7 < p) : inb (o * 8 + p) 32 ∧ (o * 8 + p).toInt = o.toInt * 8 + p.toInt := by
  rw [lt_I] at h0 h3 g0 g7
  have e0 : (0 : Int32).toInt = 0 := rfl
  have e3 : (3 : Int32).toInt = 3 := rfl
  have e7 : (7 : Int32).toInt = 7 := rfl
  have e8 : (8 : Int32).toInt = 8 := rfl
  have em : (o * 8).toInt = o.toInt * 8 := by rw [mul_I] <;> rw [e8] <;> omega
  have ea : (o * 8 + p).toInt = o.toInt * 8 + p.toInt := by rw [add_I] <;> rw [em] <;> omega
  exact ⟨inb_I (by omega) (by omega), ea⟩
theorem inb_le {x : Int32} {m : Int32} {n : Nat} (h0 : ¬ x < 0) (h1 : ¬ m < x) (hm : m.toInt < n) : inb x n := by
  rw [lt_I] at h0 h1
  have e0 : (0 : Int32).toInt = 0 := rfl
  exact inb_I (by omega) (by omega)
theorem inb_lt {x : Int32} {m : Int32} {n : Nat} (h0 : ¬ x < 0) (h1 : x < m) (hm : m.toInt ≤ n) : inb x n := by
  rw [lt_I] at h0 h1
  have e0 : (0 : Int32).toInt = 0 := rfl
  exact inb_I (by omega) (by omega)
theorem rem_N {a N : Nat} (ha : a < 2147483648) (hN : N < 2147483648) (h0 : 0 < N) : Int32.ofNat a % Int32.ofNat N = Int32.ofNat (a % N) := by
  have h1 : a % N < N := Nat.mod_lt _ h0
  rw [← Int32.toInt_inj, Int32.toInt_mod, N_toInt ha, N_toInt hN, N_toInt (by omega)]
  rw [Int.tmod_eq_emod_of_nonneg (by omega)]
  rfl
/-- the rule of a loop that counts from i to N: P before each turn; Q of what it gives -/
theorem loopP {α β : Type} {F : Nat → Int32 → α → Option β} {N : Nat} {P : Nat → α → Prop} {Q : β → Prop}
    (hF : ∀ k i s, i < N → P i s → (∃ s', F (k + 1) (Int32.ofNat i) s = F k (Int32.ofNat i + 1) s' ∧ P (i + 1) s') ∨ ∃ r, F (k + 1) (Int32.ofNat i) s = some r ∧ Q r)
    (hE : ∀ k s, P N s → ∃ r, F (k + 1) (Int32.ofNat N) s = some r ∧ Q r) :
    ∀ m i k s, i + m = N → m < k → P i s → ∃ r, F k (Int32.ofNat i) s = some r ∧ Q r := by
  intro m
  induction m with
  | zero =>
    intro i k s hi hk hp
    obtain ⟨k, rfl⟩ : ∃ k', k = k' + 1 := ⟨k - 1, by omega⟩
    have : i = N := by omega
    subst this
    exact hE k s hp
  | succ m ih =>
    intro i k s hi hk hp
    obtain ⟨k, rfl⟩ : ∃ k', k = k' + 1 := ⟨k - 1, by omega⟩
    rcases hF k i s (by omega) hp with ⟨s', e, hp'⟩ | h
    · rw [e, N_succ]
      exact ih (i + 1) k s' (by omega) (by omega) hp'
    · exact h
theorem ltN {i j : Nat} (h : i < j) (hj : j < 2147483648) : Int32.ofNat i < Int32.ofNat j := (N_lt (by omega) hj).mpr h
theorem ltZ {i : Nat} {z : Int32} (N : Nat) (hz : Int32.ofNat N = z) (h : i < N) (hN : N < 2147483648) : Int32.ofNat i < z := hz ▸ ltN h hN
theorem nltN {i : Nat} (hi : i < 2147483648) : ¬ Int32.ofNat i < Int32.ofNat i := fun q => by rw [N_lt hi hi] at q; omega
theorem inbN {i n : Nat} (h : i < n) (hi : i < 2147483648) : inb (Int32.ofNat i) n := (inb_N hi).mpr h
def own_cl (a lo hi : Int32) : Int32 := if a < lo then lo else if hi < a then hi else a
theorem own_cl_rng {a lo hi : Int32} (h : ¬ hi < lo) : lo.toInt ≤ (own_cl a lo hi).toInt ∧ (own_cl a lo hi).toInt ≤ hi.toInt := by
  unfold own_cl
  rw [lt_I] at h
  split
  · omega
  · rename_i q; rw [lt_I] at q
    split
    · omega
    · rename_i q2; rw [lt_I] at q2; omega
theorem own_nat {x : Int32} {lo hi : Nat} (h1 : (lo : Int) ≤ x.toInt) (h2 : x.toInt ≤ hi) : ∃ N : Nat, x = Int32.ofNat N ∧ lo ≤ N ∧ N ≤ hi := by
  have := rng x
  refine ⟨x.toInt.toNat, ?_, by omega, by omega⟩
  rw [← Int32.toInt_inj, N_toInt (by omega)]; omega
theorem own_clN (a : Int32) {lo hi : Nat} (h : lo ≤ hi) (hi' : hi < 2147483648) : ∃ N : Nat, own_cl a (Int32.ofNat lo) (Int32.ofNat hi) = Int32.ofNat N ∧ lo ≤ N ∧ N ≤ hi := by
  have q := own_cl_rng (a := a) (lo := Int32.ofNat lo) (hi := Int32.ofNat hi) (fun q => by rw [N_lt (by omega) (by omega)] at q; omega)
  rw [N_toInt (by omega), N_toInt (by omega)] at q
  exact own_nat q.1 q.2
end Jvm.Own
namespace Jvm.Pilot.@@N@@
open Jvm Jvm.ClassFile Sem Op Lib Jvm.Free Jvm.Stand Jvm.LawKit Jvm.RoadKit Bundle Jvm.Pilot.@@N@@.Jvm.D Jvm.Own
/-! ### the class and its words (printed by a program of this repo) -/
abbrev GT := State × Array Value × Launch × Option Addr × Nat
def flds : List Fd := [("OP_END", "I", FieldType.int), ("OP_VAR", "I", FieldType.int), ("OP_CONST", "I", FieldType.int), ("OP_ADD", "I", FieldType.int), ("OP_SUB", "I", FieldType.int), ("OP_MUL", "I", FieldType.int), ("OP_LT", "I", FieldType.int), ("OP_EQ", "I", FieldType.int), ("OP_TRUE", "I", FieldType.int), ("OP_FALSE", "I", FieldType.int), ("OP_NOT", "I", FieldType.int), ("OP_AND", "I", FieldType.int), ("OP_OR", "I", FieldType.int), ("S_ASSIGN", "I", FieldType.int), ("S_IF", "I", FieldType.int), ("S_WHILE", "I", FieldType.int), ("T_FORM", "I", FieldType.int), ("T_FORM_REST", "I", FieldType.int), ("T_CONJ", "I", FieldType.int), ("T_CONJ_REST", "I", FieldType.int), ("T_LIT", "I", FieldType.int), ("T_REL", "I", FieldType.int), ("T_EXPR", "I", FieldType.int), ("T_EXPR_REST", "I", FieldType.int), ("T_TERM", "I", FieldType.int), ("T_TERM_REST", "I", FieldType.int), ("T_ATOM", "I", FieldType.int), ("T_STMTS", "I", FieldType.int), ("T_STMT", "I", FieldType.int), ("K_EXPECT", "I", FieldType.int), ("K_END", "I", FieldType.int), ("K_BEGIN", "I", FieldType.int), ("K_EMIT", "I", FieldType.int), ("K_OPEN", "I", FieldType.int), ("K_CLOSE", "I", FieldType.int), ("MAX_ST", "I", FieldType.int), ("MAX_IDS", "I", FieldType.int), ("MAX_CODE", "I", FieldType.int), ("MAX_TASKS", "I", FieldType.int), ("buf", "[I", FieldType.array FieldType.int), ("codeOp", "[I", FieldType.array FieldType.int), ("codeArg", "[I", FieldType.array FieldType.int), ("fStart", "[I", FieldType.array FieldType.int), ("stKind", "[I", FieldType.array FieldType.int), ("stVar", "[I", FieldType.array FieldType.int), ("stFirstA", "[I", FieldType.array FieldType.int), ("stFirstB", "[I", FieldType.array FieldType.int), ("stNext", "[I", FieldType.array FieldType.int), ("stParent", "[I", FieldType.array FieldType.int), ("loopStmt", "[I", FieldType.array FieldType.int), ("tkCode", "[I", FieldType.array FieldType.int), ("tkArg", "[I", FieldType.array FieldType.int), ("lsParent", "[I", FieldType.array FieldType.int), ("lsWhich", "[I", FieldType.array FieldType.int), ("lsLast", "[I", FieldType.array FieldType.int), ("vStack", "[I", FieldType.array FieldType.int), ("cap", "I", FieldType.int), ("len", "I", FieldType.int), ("parsed", "Z", FieldType.boolean), ("errPos", "I", FieldType.int), ("cex", "I", FieldType.int), ("hasRun", "Z", FieldType.boolean), ("tkTop", "I", FieldType.int), ("codeLen", "I", FieldType.int), ("stCount", "I", FieldType.int), ("loopCount", "I", FieldType.int), ("lsTop", "I", FieldType.int), ("mainFirst", "I", FieldType.int), ("pPos", "I", FieldType.int), ("pFail", "Z", FieldType.boolean), ("pDone", "Z", FieldType.boolean), ("wx", "I", FieldType.int), ("wy", "I", FieldType.int), ("wz", "I", FieldType.int), ("runX", "I", FieldType.int), ("runY", "I", FieldType.int), ("runZ", "I", FieldType.int), ("runSteps", "I", FieldType.int)]
def GG (g : GT) : Ctx := (g.1, g.2.1, g.2.2.1, g.2.2.2.1, g.2.2.2.2, "VcGenerator", flds, 78)
def HW (g : GT) : Prop := ∀ d ∈ tables_1, d.before g.2.1 g.1 = true
def al : List (Nat × Bool) := [(39, false), (40, false), (41, false), (42, false), (43, false), (44, false), (45, false), (46, false), (47, false), (48, false), (49, false), (50, false), (51, false), (52, false), (53, false), (54, false), (55, false)]
def Ln (j : Nat) : Nat := [0, 0, 0, 0, 0, 0, 0, 0, 0, 0, 0, 0, 0, 0, 0, 0, 0, 0, 0, 0, 0, 0, 0, 0, 0, 0, 0, 0, 0, 0, 0, 0, 0, 0, 0, 0, 0, 0, 0, 128, 512, 512, 160, 64, 64, 64, 64, 64, 64, 64, 1024, 1024, 64, 64, 64, 512, 0, 0, 0, 0, 0, 0, 0, 0, 0, 0, 0, 0, 0, 0, 0, 0, 0, 0, 0, 0, 0, 0].getD j 0
def dfl : List Value := [.int 0, .int 0, .int 0, .int 0, .int 0, .int 0, .int 0, .int 0, .int 0, .int 0, .int 0, .int 0, .int 0, .int 0, .int 0, .int 0, .int 0, .int 0, .int 0, .int 0, .int 0, .int 0, .int 0, .int 0, .int 0, .int 0, .int 0, .int 0, .int 0, .int 0, .int 0, .int 0, .int 0, .int 0, .int 0, .int 0, .int 0, .int 0, .int 0, .null, .null, .null, .null, .null, .null, .null, .null, .null, .null, .null, .null, .null, .null, .null, .null, .null, .int 0, .int 0, .int 0, .int 0, .int 0, .int 0, .int 0, .int 0, .int 0, .int 0, .int 0, .int 0, .int 0, .int 0, .int 0, .int 0, .int 0, .int 0, .int 0, .int 0, .int 0, .int 0]
theorem ww {g : GT} (hw : HW g) (k : Nat) {d : Jvm.Cond} (h : tables_1[k]? = some d) : d.before (gA (GG g)) (gZ (GG g)) = true := hw _ (List.mem_of_getElem? h)
theorem fld_nd : (flds.map (·.1)).Nodup := by decide +kernel
theorem al_ok : alOk flds al = true := by decide +kernel
theorem al_nd : (al.map (·.1)).Nodup := by decide +kernel
theorem gok {g : GT} (hw : HW g) : GOk (GG g) := gok_of ⟨⟨Or.inr (ww hw 14 rfl), by decide⟩, ⟨Or.inr (ww hw 16 rfl), by decide⟩, ⟨Or.inr (ww hw 18 rfl), by decide⟩, ⟨Or.inr (ww hw 20 rfl), by decide⟩, ⟨Or.inr (ww hw 22 rfl), by decide⟩, ⟨Or.inr (ww hw 24 rfl), by decide⟩, ⟨Or.inr (ww hw 26 rfl), by decide⟩, ⟨Or.inr (ww hw 28 rfl), by decide⟩, ⟨Or.inr (ww hw 30 rfl), by decide⟩, ⟨Or.inr (ww hw 32 rfl), by decide⟩, ⟨Or.inr (ww hw 34 rfl), by decide⟩, ⟨Or.inr (ww hw 36 rfl), by decide⟩, ⟨Or.inr (ww hw 38 rfl), by decide⟩, ⟨Or.inr (ww hw 40 rfl), by decide⟩, ⟨Or.inr (ww hw 42 rfl), by decide⟩, ⟨Or.inr (ww hw 44 rfl), by decide⟩, ⟨Or.inr (ww hw 46 rfl), by decide⟩, ⟨Or.inr (ww hw 48 rfl), by decide⟩, ⟨Or.inr (ww hw 50 rfl), by decide⟩, ⟨Or.inr (ww hw 52 rfl), by decide⟩, ⟨Or.inr (ww hw 54 rfl), by decide⟩, ⟨Or.inr (ww hw 56 rfl), by decide⟩, ⟨Or.inr (ww hw 58 rfl), by decide⟩, ⟨Or.inr (ww hw 60 rfl), by decide⟩, ⟨Or.inr (ww hw 62 rfl), by decide⟩, ⟨Or.inr (ww hw 64 rfl), by decide⟩, ⟨Or.inr (ww hw 66 rfl), by decide⟩, ⟨Or.inr (ww hw 68 rfl), by decide⟩, ⟨Or.inr (ww hw 70 rfl), by decide⟩, ⟨Or.inr (ww hw 72 rfl), by decide⟩, ⟨Or.inr (ww hw 74 rfl), by decide⟩, ⟨Or.inr (ww hw 76 rfl), by decide⟩, ⟨Or.inr (ww hw 78 rfl), by decide⟩, ⟨Or.inr (ww hw 80 rfl), by decide⟩, ⟨Or.inr (ww hw 82 rfl), by decide⟩, ⟨Or.inr (ww hw 84 rfl), by decide⟩, ⟨Or.inr (ww hw 86 rfl), by decide⟩, ⟨Or.inr (ww hw 88 rfl), by decide⟩, ⟨Or.inr (ww hw 90 rfl), by decide⟩, ⟨Or.inr (ww hw 93 rfl), by decide⟩, ⟨Or.inr (ww hw 95 rfl), by decide⟩, ⟨Or.inr (ww hw 97 rfl), by decide⟩, ⟨Or.inr (ww hw 99 rfl), by decide⟩, ⟨Or.inr (ww hw 101 rfl), by decide⟩, ⟨Or.inr (ww hw 103 rfl), by decide⟩, ⟨Or.inr (ww hw 105 rfl), by decide⟩, ⟨Or.inr (ww hw 107 rfl), by decide⟩, ⟨Or.inr (ww hw 109 rfl), by decide⟩, ⟨Or.inr (ww hw 111 rfl), by decide⟩, ⟨Or.inr (ww hw 113 rfl), by decide⟩, ⟨Or.inr (ww hw 115 rfl), by decide⟩, ⟨Or.inr (ww hw 117 rfl), by decide⟩, ⟨Or.inr (ww hw 119 rfl), by decide⟩, ⟨Or.inr (ww hw 121 rfl), by decide⟩, ⟨Or.inr (ww hw 123 rfl), by decide⟩, ⟨Or.inr (ww hw 125 rfl), by decide⟩, ⟨Or.inl (ww hw 127 rfl), by decide⟩, ⟨Or.inl (ww hw 129 rfl), by decide⟩, ⟨Or.inl (ww hw 135 rfl), by decide⟩, ⟨Or.inl (ww hw 137 rfl), by decide⟩, ⟨Or.inl (ww hw 139 rfl), by decide⟩, ⟨Or.inl (ww hw 141 rfl), by decide⟩, ⟨Or.inl (ww hw 165 rfl), by decide⟩, ⟨Or.inl (ww hw 167 rfl), by decide⟩, ⟨Or.inl (ww hw 169 rfl), by decide⟩, ⟨Or.inl (ww hw 171 rfl), by decide⟩, ⟨Or.inl (ww hw 173 rfl), by decide⟩, ⟨Or.inl (ww hw 175 rfl), by decide⟩, ⟨Or.inl (ww hw 177 rfl), by decide⟩, ⟨Or.inl (ww hw 179 rfl), by decide⟩, ⟨Or.inl (ww hw 181 rfl), by decide⟩, ⟨Or.inl (ww hw 308 rfl), by decide⟩, ⟨Or.inl (ww hw 310 rfl), by decide⟩, ⟨Or.inl (ww hw 312 rfl), by decide⟩, ⟨Or.inl (ww hw 318 rfl), by decide⟩, ⟨Or.inl (ww hw 320 rfl), by decide⟩, ⟨Or.inl (ww hw 322 rfl), by decide⟩, ⟨Or.inl (ww hw 324 rfl), by decide⟩, trivial⟩ fld_nd (ww hw 5 rfl) (ww hw 6 rfl)
theorem pcls : plainName "VcGenerator" = true := by first | (simp [plainName, overriddenIn]; done) | decide +kernel
theorem pclsL : plainName "VcGeneratorL3" = true := by first | (simp [plainName, overriddenIn]; done) | decide +kernel
theorem nmh : "VcGenerator" ≠ "java/lang/invoke/MethodHandle" ∧ "VcGenerator" ≠ "java/lang/invoke/VarHandle" := by decide
theorem nmhL : "VcGeneratorL3" ≠ "java/lang/invoke/MethodHandle" ∧ "VcGeneratorL3" ≠ "java/lang/invoke/VarHandle" := by decide
def M_hdig : Mi := ((⟨"VcGeneratorL3", "dig", "(I)I"⟩ : MethodName), method_2_code, 1, (some .int), 0, 0)
theorem pl_hdig : plainFor (mN M_hdig) = true := plainFor_of_name pclsL
theorem nm_hdig : notMH M_hdig := nmhL
theorem pd_hdig : parseMethodDescriptor (mN M_hdig).desc = some ⟨[.int], some .int⟩ := by decide +kernel
def M_clearResults : Mi := ((⟨"VcGenerator", "clearResults", "()V"⟩ : MethodName), prog_1_method_16_code, 1, none, 0, 0)
theorem pl_clearResults : plainFor (mN M_clearResults) = true := plainFor_of_name pcls
theorem nm_clearResults : notMH M_clearResults := nmh
theorem pd_clearResults : parseMethodDescriptor (mN M_clearResults).desc = some ⟨[], none⟩ := by decide +kernel
def M_ctor : Mi := ((⟨"VcGenerator", "<init>", "(I)V"⟩ : MethodName), prog_1_method_1_code, 3, none, 1, 12)
theorem pl_ctor : plainFor (mN M_ctor) = true := plainFor_of_name pcls
theorem nm_ctor : notMH M_ctor := nmh
theorem pd_ctor : parseMethodDescriptor (mN M_ctor).desc = some ⟨[.int], none⟩ := by decide +kernel
def M_varIndex : Mi := ((⟨"VcGenerator", "varIndex", "(I)I"⟩ : MethodName), prog_1_method_17_code, 2, (some .int), 0, 0)
theorem pl_varIndex : plainFor (mN M_varIndex) = true := plainFor_of_name pcls
theorem nm_varIndex : notMH M_varIndex := nmh
theorem pd_varIndex : parseMethodDescriptor (mN M_varIndex).desc = some ⟨[.int], some .int⟩ := by decide +kernel
def M_accepted : Mi := ((⟨"VcGenerator", "accepted", "(I)Z"⟩ : MethodName), prog_1_method_18_code, 2, (some .boolean), 1, 13)
theorem pl_accepted : plainFor (mN M_accepted) = true := plainFor_of_name pcls
theorem nm_accepted : notMH M_accepted := nmh
theorem pd_accepted : parseMethodDescriptor (mN M_accepted).desc = some ⟨[.int], some .boolean⟩ := by decide +kernel
def M_addChar : Mi := ((⟨"VcGenerator", "addChar", "(I)I"⟩ : MethodName), prog_1_method_2_code, 2, (some .int), 2, 26)
theorem pl_addChar : plainFor (mN M_addChar) = true := plainFor_of_name pcls
theorem nm_addChar : notMH M_addChar := nmh
theorem pd_addChar : parseMethodDescriptor (mN M_addChar).desc = some ⟨[.int], some .int⟩ := by decide +kernel
def M_push : Mi := ((⟨"VcGenerator", "push", "(II)V"⟩ : MethodName), prog_1_method_24_code, 3, none, 0, 0)
theorem pl_push : plainFor (mN M_push) = true := plainFor_of_name pcls
theorem nm_push : notMH M_push := nmh
theorem pd_push : parseMethodDescriptor (mN M_push).desc = some ⟨[.int, .int], none⟩ := by decide +kernel
def M_pushProgram : Mi := ((⟨"VcGenerator", "pushProgram", "()V"⟩ : MethodName), prog_1_method_22_code, 1, none, 1, 14)
theorem pl_pushProgram : plainFor (mN M_pushProgram) = true := plainFor_of_name pcls
theorem nm_pushProgram : notMH M_pushProgram := nmh
theorem pd_pushProgram : parseMethodDescriptor (mN M_pushProgram).desc = some ⟨[], none⟩ := by decide +kernel
def M_la : Mi := ((⟨"VcGenerator", "la", "()I"⟩ : MethodName), prog_1_method_23_code, 1, (some .int), 0, 0)
theorem pl_la : plainFor (mN M_la) = true := plainFor_of_name pcls
theorem nm_la : notMH M_la := nmh
theorem pd_la : parseMethodDescriptor (mN M_la).desc = some ⟨[], some .int⟩ := by decide +kernel
def M_binRest : Mi := ((⟨"VcGenerator", "binRest", "(III)V"⟩ : MethodName), prog_1_method_27_code, 4, none, 1, 14)
theorem pl_binRest : plainFor (mN M_binRest) = true := plainFor_of_name pcls
theorem nm_binRest : notMH M_binRest := nmh
theorem pd_binRest : parseMethodDescriptor (mN M_binRest).desc = some ⟨[.int, .int, .int], none⟩ := by decide +kernel
def M_emit : Mi := ((⟨"VcGenerator", "emit", "(II)V"⟩ : MethodName), prog_1_method_25_code, 3, none, 0, 0)
theorem pl_emit : plainFor (mN M_emit) = true := plainFor_of_name pcls
theorem nm_emit : notMH M_emit := nmh
theorem pd_emit : parseMethodDescriptor (mN M_emit).desc = some ⟨[.int, .int], none⟩ := by decide +kernel
def M_exprStart : Mi := ((⟨"VcGenerator", "exprStart", "(I)Z"⟩ : MethodName), prog_1_method_19_code, 2, (some .boolean), 1, 13)
theorem pl_exprStart : plainFor (mN M_exprStart) = true := plainFor_of_name pcls
theorem nm_exprStart : notMH M_exprStart := nmh
theorem pd_exprStart : parseMethodDescriptor (mN M_exprStart).desc = some ⟨[.int], some .boolean⟩ := by decide +kernel
def M_stepLit : Mi := ((⟨"VcGenerator", "stepLit", "()V"⟩ : MethodName), prog_1_method_29_code, 2, none, 2, 26)
theorem pl_stepLit : plainFor (mN M_stepLit) = true := plainFor_of_name pcls
theorem nm_stepLit : notMH M_stepLit := nmh
theorem pd_stepLit : parseMethodDescriptor (mN M_stepLit).desc = some ⟨[], none⟩ := by decide +kernel
def M_stepFormula : Mi := ((⟨"VcGenerator", "stepFormula", "(I)V"⟩ : MethodName), prog_1_method_28_code, 3, none, 3, 39)
theorem pl_stepFormula : plainFor (mN M_stepFormula) = true := plainFor_of_name pcls
theorem nm_stepFormula : notMH M_stepFormula := nmh
theorem pd_stepFormula : parseMethodDescriptor (mN M_stepFormula).desc = some ⟨[.int], none⟩ := by decide +kernel
def M_stepAtom : Mi := ((⟨"VcGenerator", "stepAtom", "()V"⟩ : MethodName), prog_1_method_31_code, 3, none, 1, 14)
theorem pl_stepAtom : plainFor (mN M_stepAtom) = true := plainFor_of_name pcls
theorem nm_stepAtom : notMH M_stepAtom := nmh
theorem pd_stepAtom : parseMethodDescriptor (mN M_stepAtom).desc = some ⟨[], none⟩ := by decide +kernel
def M_stepExpr : Mi := ((⟨"VcGenerator", "stepExpr", "(I)V"⟩ : MethodName), prog_1_method_30_code, 3, none, 2, 29)
theorem pl_stepExpr : plainFor (mN M_stepExpr) = true := plainFor_of_name pcls
theorem nm_stepExpr : notMH M_stepExpr := nmh
theorem pd_stepExpr : parseMethodDescriptor (mN M_stepExpr).desc = some ⟨[.int], none⟩ := by decide +kernel
def M_stmtStart : Mi := ((⟨"VcGenerator", "stmtStart", "(I)Z"⟩ : MethodName), prog_1_method_20_code, 2, (some .boolean), 1, 13)
theorem pl_stmtStart : plainFor (mN M_stmtStart) = true := plainFor_of_name pcls
theorem nm_stmtStart : notMH M_stmtStart := nmh
theorem pd_stmtStart : parseMethodDescriptor (mN M_stmtStart).desc = some ⟨[.int], some .boolean⟩ := by decide +kernel
def M_newStmt : Mi := ((⟨"VcGenerator", "newStmt", "(I)I"⟩ : MethodName), prog_1_method_36_code, 6, (some .int), 0, 0)
theorem pl_newStmt : plainFor (mN M_newStmt) = true := plainFor_of_name pcls
theorem nm_newStmt : notMH M_newStmt := nmh
theorem pd_newStmt : parseMethodDescriptor (mN M_newStmt).desc = some ⟨[.int], some .int⟩ := by decide +kernel
def M_startAssign : Mi := ((⟨"VcGenerator", "startAssign", "(I)V"⟩ : MethodName), prog_1_method_33_code, 3, none, 1, 17)
theorem pl_startAssign : plainFor (mN M_startAssign) = true := plainFor_of_name pcls
theorem nm_startAssign : notMH M_startAssign := nmh
theorem pd_startAssign : parseMethodDescriptor (mN M_startAssign).desc = some ⟨[.int], none⟩ := by decide +kernel
def M_startWhile : Mi := ((⟨"VcGenerator", "startWhile", "()V"⟩ : MethodName), prog_1_method_35_code, 2, none, 1, 17)
theorem pl_startWhile : plainFor (mN M_startWhile) = true := plainFor_of_name pcls
theorem nm_startWhile : notMH M_startWhile := nmh
theorem pd_startWhile : parseMethodDescriptor (mN M_startWhile).desc = some ⟨[], none⟩ := by decide +kernel
def M_stepStmts : Mi := ((⟨"VcGenerator", "stepStmts", "(I)V"⟩ : MethodName), prog_1_method_32_code, 4, none, 2, 31)
theorem pl_stepStmts : plainFor (mN M_stepStmts) = true := plainFor_of_name pcls
theorem nm_stepStmts : notMH M_stepStmts := nmh
theorem pd_stepStmts : parseMethodDescriptor (mN M_stepStmts).desc = some ⟨[.int], none⟩ := by decide +kernel
def M_openList : Mi := ((⟨"VcGenerator", "openList", "(I)V"⟩ : MethodName), prog_1_method_38_code, 2, none, 0, 0)
theorem pl_openList : plainFor (mN M_openList) = true := plainFor_of_name pcls
theorem nm_openList : notMH M_openList := nmh
theorem pd_openList : parseMethodDescriptor (mN M_openList).desc = some ⟨[.int], none⟩ := by decide +kernel
def M_stepAction : Mi := ((⟨"VcGenerator", "stepAction", "(II)V"⟩ : MethodName), prog_1_method_37_code, 3, none, 1, 14)
theorem pl_stepAction : plainFor (mN M_stepAction) = true := plainFor_of_name pcls
theorem nm_stepAction : notMH M_stepAction := nmh
theorem pd_stepAction : parseMethodDescriptor (mN M_stepAction).desc = some ⟨[.int, .int], none⟩ := by decide +kernel
def M_step : Mi := ((⟨"VcGenerator", "step", "(II)V"⟩ : MethodName), prog_1_method_26_code, 3, none, 4, 53)
theorem pl_step : plainFor (mN M_step) = true := plainFor_of_name pcls
theorem nm_step : notMH M_step := nmh
theorem pd_step : parseMethodDescriptor (mN M_step).desc = some ⟨[.int, .int], none⟩ := by decide +kernel
def M_doParse : Mi := ((⟨"VcGenerator", "doParse", "()Z"⟩ : MethodName), prog_1_method_21_code, 2, (some .boolean), 5, 67)
theorem pl_doParse : plainFor (mN M_doParse) = true := plainFor_of_name pcls
theorem nm_doParse : notMH M_doParse := nmh
theorem pd_doParse : parseMethodDescriptor (mN M_doParse).desc = some ⟨[], some .boolean⟩ := by decide +kernel
def M_parse : Mi := ((⟨"VcGenerator", "parse", "()I"⟩ : MethodName), prog_1_method_6_code, 2, (some .int), 6, 80)
theorem pl_parse : plainFor (mN M_parse) = true := plainFor_of_name pcls
theorem nm_parse : notMH M_parse := nmh
theorem pd_parse : parseMethodDescriptor (mN M_parse).desc = some ⟨[], some .int⟩ := by decide +kernel
def M_vcCount : Mi := ((⟨"VcGenerator", "vcCount", "()I"⟩ : MethodName), prog_1_method_8_code, 1, (some .int), 0, 0)
theorem pl_vcCount : plainFor (mN M_vcCount) = true := plainFor_of_name pcls
theorem nm_vcCount : notMH M_vcCount := nmh
theorem pd_vcCount : parseMethodDescriptor (mN M_vcCount).desc = some ⟨[], some .int⟩ := by decide +kernel
def M_leafValue : Mi := ((⟨"VcGenerator", "leafValue", "(IIIII)I"⟩ : MethodName), prog_1_method_41_code, 6, (some .int), 0, 0)
theorem pl_leafValue : plainFor (mN M_leafValue) = true := plainFor_of_name pcls
theorem nm_leafValue : notMH M_leafValue := nmh
theorem pd_leafValue : parseMethodDescriptor (mN M_leafValue).desc = some ⟨[.int, .int, .int, .int, .int], some .int⟩ := by decide +kernel
def M_binary : Mi := ((⟨"VcGenerator", "binary", "(III)I"⟩ : MethodName), prog_1_method_42_code, 4, (some .int), 0, 0)
theorem pl_binary : plainFor (mN M_binary) = true := plainFor_of_name pcls
theorem nm_binary : notMH M_binary := nmh
theorem pd_binary : parseMethodDescriptor (mN M_binary).desc = some ⟨[.int, .int, .int], some .int⟩ := by decide +kernel
def M_evalAt : Mi := ((⟨"VcGenerator", "evalAt", "(IIII)I"⟩ : MethodName), prog_1_method_40_code, 8, (some .int), 1, 19)
theorem pl_evalAt : plainFor (mN M_evalAt) = true := plainFor_of_name pcls
theorem nm_evalAt : notMH M_evalAt := nmh
theorem pd_evalAt : parseMethodDescriptor (mN M_evalAt).desc = some ⟨[.int, .int, .int, .int], some .int⟩ := by decide +kernel
def M_evalF : Mi := ((⟨"VcGenerator", "evalF", "(IIII)I"⟩ : MethodName), prog_1_method_39_code, 5, (some .int), 2, 38)
theorem pl_evalF : plainFor (mN M_evalF) = true := plainFor_of_name pcls
theorem nm_evalF : notMH M_evalF := nmh
theorem pd_evalF : parseMethodDescriptor (mN M_evalF).desc = some ⟨[.int, .int, .int, .int], some .int⟩ := by decide +kernel
def M_advance : Mi := ((⟨"VcGenerator", "advance", "(I)I"⟩ : MethodName), prog_1_method_43_code, 5, (some .int), 0, 0)
theorem pl_advance : plainFor (mN M_advance) = true := plainFor_of_name pcls
theorem nm_advance : notMH M_advance := nmh
theorem pd_advance : parseMethodDescriptor (mN M_advance).desc = some ⟨[.int], some .int⟩ := by decide +kernel
def M_enter : Mi := ((⟨"VcGenerator", "enter", "(II)I"⟩ : MethodName), prog_1_method_44_code, 4, (some .int), 1, 16)
theorem pl_enter : plainFor (mN M_enter) = true := plainFor_of_name pcls
theorem nm_enter : notMH M_enter := nmh
theorem pd_enter : parseMethodDescriptor (mN M_enter).desc = some ⟨[.int, .int], some .int⟩ := by decide +kernel
def M_walk : Mi := ((⟨"VcGenerator", "walk", "(IIII)I"⟩ : MethodName), prog_1_method_45_code, 10, (some .int), 3, 54)
theorem pl_walk : plainFor (mN M_walk) = true := plainFor_of_name pcls
theorem nm_walk : notMH M_walk := nmh
theorem pd_walk : parseMethodDescriptor (mN M_walk).desc = some ⟨[.int, .int, .int, .int], some .int⟩ := by decide +kernel
def M_vcAt : Mi := ((⟨"VcGenerator", "vcAt", "(IIII)I"⟩ : MethodName), prog_1_method_46_code, 10, (some .int), 4, 75)
theorem pl_vcAt : plainFor (mN M_vcAt) = true := plainFor_of_name pcls
theorem nm_vcAt : notMH M_vcAt := nmh
theorem pd_vcAt : parseMethodDescriptor (mN M_vcAt).desc = some ⟨[.int, .int, .int, .int], some .int⟩ := by decide +kernel
def M_check : Mi := ((⟨"VcGenerator", "check", "(I)I"⟩ : MethodName), prog_1_method_9_code, 4, (some .int), 5, 96)
theorem pl_check : plainFor (mN M_check) = true := plainFor_of_name pcls
theorem nm_check : notMH M_check := nmh
theorem pd_check : parseMethodDescriptor (mN M_check).desc = some ⟨[.int], some .int⟩ := by decide +kernel
def M_counterexample : Mi := ((⟨"VcGenerator", "counterexample", "()I"⟩ : MethodName), prog_1_method_10_code, 1, (some .int), 0, 0)
theorem pl_counterexample : plainFor (mN M_counterexample) = true := plainFor_of_name pcls
theorem nm_counterexample : notMH M_counterexample := nmh
theorem pd_counterexample : parseMethodDescriptor (mN M_counterexample).desc = some ⟨[], some .int⟩ := by decide +kernel
def M_runStep : Mi := ((⟨"VcGenerator", "runStep", "(I)I"⟩ : MethodName), prog_1_method_47_code, 5, (some .int), 3, 54)
theorem pl_runStep : plainFor (mN M_runStep) = true := plainFor_of_name pcls
theorem nm_runStep : notMH M_runStep := nmh
theorem pd_runStep : parseMethodDescriptor (mN M_runStep).desc = some ⟨[.int], some .int⟩ := by decide +kernel
def M_run : Mi := ((⟨"VcGenerator", "run", "(IIII)I"⟩ : MethodName), prog_1_method_13_code, 10, (some .int), 4, 70)
theorem pl_run : plainFor (mN M_run) = true := plainFor_of_name pcls
theorem nm_run : notMH M_run := nmh
theorem pd_run : parseMethodDescriptor (mN M_run).desc = some ⟨[.int, .int, .int, .int], some .int⟩ := by decide +kernel
def M_stepsUsed : Mi := ((⟨"VcGenerator", "stepsUsed", "()I"⟩ : MethodName), prog_1_method_15_code, 1, (some .int), 0, 0)
theorem pl_stepsUsed : plainFor (mN M_stepsUsed) = true := plainFor_of_name pcls
theorem nm_stepsUsed : notMH M_stepsUsed := nmh
theorem pd_stepsUsed : parseMethodDescriptor (mN M_stepsUsed).desc = some ⟨[], some .int⟩ := by decide +kernel
def M_finalVar : Mi := ((⟨"VcGenerator", "finalVar", "(I)I"⟩ : MethodName), prog_1_method_14_code, 2, (some .int), 0, 0)
theorem pl_finalVar : plainFor (mN M_finalVar) = true := plainFor_of_name pcls
theorem nm_finalVar : notMH M_finalVar := nmh
theorem pd_finalVar : parseMethodDescriptor (mN M_finalVar).desc = some ⟨[.int], some .int⟩ := by decide +kernel
def M_law : Mi := (x, code, maxLocals, ret, 7, 111)
theorem pl_law : plainFor (mN M_law) = true := plainFor_of_name (by first | (simp [plainName, overriddenIn, x]; done) | decide +kernel)
def c0 : List (Nat × Instr × Nat) := [(0, .iload_n 0, 1), (1, .bipush 10, 2), (3, .irem, 1), (4, .bipush 10, 2), (6, .iadd, 1), (7, .bipush 10, 2), (9, .irem, 1), (10, .ireturn, 1)]
theorem D0 : decs method_2_code c0 = true := by decide +kernel
theorem d0 (k : Nat) {p : Nat} {i : Instr} {n : Nat} (h : c0[k]? = some (p, i, n)) : decode method_2_code p = .ok (i, n) := dget D0 h
def c3 : List (Nat × Instr × Nat) := [(0, .aload_n 0, 1), (1, .iconst 0, 1), (2, .putfield 196, 3), (5, .aload_n 0, 1), (6, .iconst (-1), 1), (7, .putfield 203, 3), (10, .aload_n 0, 1), (11, .iconst (-1), 1), (12, .putfield 213, 3), (15, .aload_n 0, 1), (16, .iconst 0, 1), (17, .putfield 235, 3), (20, .return_, 1)]
theorem D3 : decs prog_1_method_16_code c3 = true := by decide +kernel
theorem d3 (k : Nat) {p : Nat} {i : Instr} {n : Nat} (h : c3[k]? = some (p, i, n)) : decode prog_1_method_16_code p = .ok (i, n) := dget D3 h
def c1 : List (Nat × Instr × Nat) := [(0, .aload_n 0, 1), (1, .invokespecial 1, 3), (4, .aload_n 0, 1), (5, .iconst 0, 1), (6, .putfield 7, 3), (9, .aload_n 0, 1), (10, .iconst 1, 1), (11, .putfield 13, 3), (14, .aload_n 0, 1), (15, .iconst 2, 1), (16, .putfield 16, 3), (19, .aload_n 0, 1), (20, .iconst 3, 1), (21, .putfield 19, 3), (24, .aload_n 0, 1), (25, .iconst 4, 1), (26, .putfield 22, 3), (29, .aload_n 0, 1), (30, .iconst 5, 1), (31, .putfield 25, 3), (34, .aload_n 0, 1), (35, .bipush 6, 2), (37, .putfield 28, 3), (40, .aload_n 0, 1), (41, .bipush 7, 2), (43, .putfield 31, 3), (46, .aload_n 0, 1), (47, .bipush 8, 2), (49, .putfield 34, 3), (52, .aload_n 0, 1), (53, .bipush 9, 2), (55, .putfield 37, 3), (58, .aload_n 0, 1), (59, .bipush 10, 2), (61, .putfield 40, 3), (64, .aload_n 0, 1), (65, .bipush 11, 2), (67, .putfield 43, 3), (70, .aload_n 0, 1), (71, .bipush 12, 2), (73, .putfield 46, 3), (76, .aload_n 0, 1), (77, .iconst 0, 1), (78, .putfield 49, 3), (81, .aload_n 0, 1), (82, .iconst 1, 1), (83, .putfield 52, 3), (86, .aload_n 0, 1), (87, .iconst 2, 1), (88, .putfield 55, 3), (91, .aload_n 0, 1), (92, .iconst 1, 1), (93, .putfield 58, 3), (96, .aload_n 0, 1), (97, .iconst 2, 1), (98, .putfield 61, 3), (101, .aload_n 0, 1), (102, .iconst 3, 1), (103, .putfield 64, 3), (106, .aload_n 0, 1), (107, .iconst 4, 1), (108, .putfield 67, 3), (111, .aload_n 0, 1), (112, .iconst 5, 1), (113, .putfield 70, 3), (116, .aload_n 0, 1), (117, .bipush 6, 2), (119, .putfield 73, 3), (122, .aload_n 0, 1), (123, .bipush 7, 2), (125, .putfield 76, 3), (128, .aload_n 0, 1), (129, .bipush 8, 2), (131, .putfield 79, 3), (134, .aload_n 0, 1), (135, .bipush 9, 2), (137, .putfield 82, 3), (140, .aload_n 0, 1), (141, .bipush 10, 2), (143, .putfield 85, 3), (146, .aload_n 0, 1), (147, .bipush 11, 2), (149, .putfield 88, 3), (152, .aload_n 0, 1), (153, .bipush 12, 2), (155, .putfield 91, 3), (158, .aload_n 0, 1), (159, .bipush 13, 2), (161, .putfield 94, 3), (164, .aload_n 0, 1), (165, .bipush 14, 2), (167, .putfield 97, 3), (170, .aload_n 0, 1), (171, .bipush 15, 2), (173, .putfield 100, 3), (176, .aload_n 0, 1), (177, .bipush 16, 2), (179, .putfield 103, 3), (182, .aload_n 0, 1), (183, .bipush 17, 2), (185, .putfield 106, 3), (188, .aload_n 0, 1), (189, .bipush 18, 2), (191, .putfield 109, 3), (194, .aload_n 0, 1), (195, .bipush 19, 2), (197, .putfield 112, 3), (200, .aload_n 0, 1), (201, .bipush 64, 2), (203, .putfield 115, 3), (206, .aload_n 0, 1), (207, .sipush 160, 3), (210, .putfield 118, 3), (213, .aload_n 0, 1), (214, .sipush 512, 3), (217, .putfield 121, 3), (220, .aload_n 0, 1), (221, .sipush 1024, 3), (224, .putfield 124, 3), (227, .aload_n 0, 1), (228, .sipush 128, 3), (231, .newarray .int, 2), (233, .putfield 127, 3), (236, .aload_n 0, 1), (237, .sipush 512, 3), (240, .newarray .int, 2), (242, .putfield 131, 3), (245, .aload_n 0, 1), (246, .sipush 512, 3), (249, .newarray .int, 2), (251, .putfield 134, 3), (254, .aload_n 0, 1), (255, .sipush 160, 3), (258, .newarray .int, 2), (260, .putfield 137, 3), (263, .aload_n 0, 1), (264, .bipush 64, 2), (266, .newarray .int, 2), (268, .putfield 140, 3), (271, .aload_n 0, 1), (272, .bipush 64, 2), (274, .newarray .int, 2), (276, .putfield 143, 3), (279, .aload_n 0, 1), (280, .bipush 64, 2), (282, .newarray .int, 2), (284, .putfield 146, 3), (287, .aload_n 0, 1), (288, .bipush 64, 2), (290, .newarray .int, 2), (292, .putfield 149, 3), (295, .aload_n 0, 1), (296, .bipush 64, 2), (298, .newarray .int, 2), (300, .putfield 152, 3), (303, .aload_n 0, 1), (304, .bipush 64, 2), (306, .newarray .int, 2), (308, .putfield 155, 3), (311, .aload_n 0, 1), (312, .bipush 64, 2), (314, .newarray .int, 2), (316, .putfield 158, 3), (319, .aload_n 0, 1), (320, .sipush 1024, 3), (323, .newarray .int, 2), (325, .putfield 161, 3), (328, .aload_n 0, 1), (329, .sipush 1024, 3), (332, .newarray .int, 2), (334, .putfield 164, 3), (337, .aload_n 0, 1), (338, .bipush 64, 2), (340, .newarray .int, 2), (342, .putfield 167, 3), (345, .aload_n 0, 1), (346, .bipush 64, 2), (348, .newarray .int, 2), (350, .putfield 170, 3), (353, .aload_n 0, 1), (354, .bipush 64, 2), (356, .newarray .int, 2), (358, .putfield 173, 3), (361, .aload_n 0, 1), (362, .sipush 512, 3), (365, .newarray .int, 2), (367, .putfield 176, 3), (370, .iload_n 1, 1), (371, .istore_n 2, 1), (372, .iload_n 2, 1), (373, .bipush 8, 2), (375, .if_icmp .ge 6, 3), (378, .bipush 8, 2), (380, .istore_n 2, 1), (381, .iload_n 2, 1), (382, .sipush 128, 3), (385, .if_icmp .le 7, 3), (388, .sipush 128, 3), (391, .istore_n 2, 1), (392, .aload_n 0, 1), (393, .iload_n 2, 1), (394, .putfield 179, 3), (397, .aload_n 0, 1), (398, .iconst 0, 1), (399, .putfield 182, 3), (402, .aload_n 0, 1), (403, .invokevirtual 185, 3), (406, .return_, 1)]
theorem D1 : decs prog_1_method_1_code c1 = true := by decide +kernel
theorem d1 (k : Nat) {p : Nat} {i : Instr} {n : Nat} (h : c1[k]? = some (p, i, n)) : decode prog_1_method_1_code p = .ok (i, n) := dget D1 h
def c6 : List (Nat × Instr × Nat) := [(0, .iload_n 1, 1), (1, .bipush 120, 2), (3, .if_icmp .ne 5, 3), (6, .iconst 0, 1), (7, .ireturn, 1), (8, .iload_n 1, 1), (9, .bipush 121, 2), (11, .if_icmp .ne 5, 3), (14, .iconst 1, 1), (15, .ireturn, 1), (16, .iload_n 1, 1), (17, .bipush 122, 2), (19, .if_icmp .ne 5, 3), (22, .iconst 2, 1), (23, .ireturn, 1), (24, .iconst (-1), 1), (25, .ireturn, 1)]
theorem D6 : decs prog_1_method_17_code c6 = true := by decide +kernel
theorem d6 (k : Nat) {p : Nat} {i : Instr} {n : Nat} (h : c6[k]? = some (p, i, n)) : decode prog_1_method_17_code p = .ok (i, n) := dget D6 h
def c5 : List (Nat × Instr × Nat) := [(0, .aload_n 0, 1), (1, .iload_n 1, 1), (2, .invokevirtual 250, 3), (5, .ifCond .ge 15, 3), (8, .iload_n 1, 1), (9, .bipush 48, 2), (11, .if_icmp .lt 11, 3), (14, .iload_n 1, 1), (15, .bipush 57, 2), (17, .if_icmp .gt 5, 3), (20, .iconst 1, 1), (21, .ireturn, 1), (22, .iload_n 1, 1), (23, .bipush 43, 2), (25, .if_icmp .eq 33, 3), (28, .iload_n 1, 1), (29, .bipush 45, 2), (31, .if_icmp .eq 27, 3), (34, .iload_n 1, 1), (35, .bipush 42, 2), (37, .if_icmp .eq 21, 3), (40, .iload_n 1, 1), (41, .bipush 60, 2), (43, .if_icmp .eq 15, 3), (46, .iload_n 1, 1), (47, .bipush 61, 2), (49, .if_icmp .eq 9, 3), (52, .iload_n 1, 1), (53, .bipush 33, 2), (55, .if_icmp .ne 5, 3), (58, .iconst 1, 1), (59, .ireturn, 1), (60, .iload_n 1, 1), (61, .bipush 38, 2), (63, .if_icmp .eq 33, 3), (66, .iload_n 1, 1), (67, .bipush 124, 2), (69, .if_icmp .eq 27, 3), (72, .iload_n 1, 1), (73, .bipush 91, 2), (75, .if_icmp .eq 21, 3), (78, .iload_n 1, 1), (79, .bipush 93, 2), (81, .if_icmp .eq 15, 3), (84, .iload_n 1, 1), (85, .bipush 40, 2), (87, .if_icmp .eq 9, 3), (90, .iload_n 1, 1), (91, .bipush 41, 2), (93, .if_icmp .ne 5, 3), (96, .iconst 1, 1), (97, .ireturn, 1), (98, .iload_n 1, 1), (99, .bipush 123, 2), (101, .if_icmp .eq 27, 3), (104, .iload_n 1, 1), (105, .bipush 125, 2), (107, .if_icmp .eq 21, 3), (110, .iload_n 1, 1), (111, .bipush 59, 2), (113, .if_icmp .eq 15, 3), (116, .iload_n 1, 1), (117, .bipush 63, 2), (119, .if_icmp .eq 9, 3), (122, .iload_n 1, 1), (123, .bipush 64, 2), (125, .if_icmp .ne 5, 3), (128, .iconst 1, 1), (129, .ireturn, 1), (130, .iload_n 1, 1), (131, .bipush 87, 2), (133, .if_icmp .eq 27, 3), (136, .iload_n 1, 1), (137, .bipush 80, 2), (139, .if_icmp .eq 21, 3), (142, .iload_n 1, 1), (143, .bipush 81, 2), (145, .if_icmp .eq 15, 3), (148, .iload_n 1, 1), (149, .bipush 84, 2), (151, .if_icmp .eq 9, 3), (154, .iload_n 1, 1), (155, .bipush 70, 2), (157, .if_icmp .ne 7, 3), (160, .iconst 1, 1), (161, .goto 4, 3), (164, .iconst 0, 1), (165, .ireturn, 1)]
theorem D5 : decs prog_1_method_18_code c5 = true := by decide +kernel
theorem d5 (k : Nat) {p : Nat} {i : Instr} {n : Nat} (h : c5[k]? = some (p, i, n)) : decode prog_1_method_18_code p = .ok (i, n) := dget D5 h
def c4 : List (Nat × Instr × Nat) := [(0, .aload_n 0, 1), (1, .iload_n 1, 1), (2, .invokevirtual 188, 3), (5, .ifCond .ne 5, 3), (8, .iconst (-1), 1), (9, .ireturn, 1), (10, .aload_n 0, 1), (11, .getfield 182, 3), (14, .aload_n 0, 1), (15, .getfield 179, 3), (18, .if_icmp .lt 6, 3), (21, .bipush (-2), 2), (23, .ireturn, 1), (24, .aload_n 0, 1), (25, .getfield 127, 3), (28, .aload_n 0, 1), (29, .getfield 182, 3), (32, .iload_n 1, 1), (33, .iastore, 1), (34, .aload_n 0, 1), (35, .dup, 1), (36, .getfield 182, 3), (39, .iconst 1, 1), (40, .iadd, 1), (41, .putfield 182, 3), (44, .aload_n 0, 1), (45, .invokevirtual 185, 3), (48, .iconst 0, 1), (49, .ireturn, 1)]
theorem D4 : decs prog_1_method_2_code c4 = true := by decide +kernel
theorem d4 (k : Nat) {p : Nat} {i : Instr} {n : Nat} (h : c4[k]? = some (p, i, n)) : decode prog_1_method_2_code p = .ok (i, n) := dget D4 h
def c10 : List (Nat × Instr × Nat) := [(0, .aload_n 0, 1), (1, .getfield 253, 3), (4, .sipush 1024, 3), (7, .if_icmp .lt 9, 3), (10, .aload_n 0, 1), (11, .iconst 1, 1), (12, .putfield 265, 3), (15, .return_, 1), (16, .aload_n 0, 1), (17, .getfield 161, 3), (20, .aload_n 0, 1), (21, .getfield 253, 3), (24, .iload_n 1, 1), (25, .iastore, 1), (26, .aload_n 0, 1), (27, .getfield 164, 3), (30, .aload_n 0, 1), (31, .getfield 253, 3), (34, .iload_n 2, 1), (35, .iastore, 1), (36, .aload_n 0, 1), (37, .dup, 1), (38, .getfield 253, 3), (41, .iconst 1, 1), (42, .iadd, 1), (43, .putfield 253, 3), (46, .return_, 1)]
theorem D10 : decs prog_1_method_24_code c10 = true := by decide +kernel
theorem d10 (k : Nat) {p : Nat} {i : Instr} {n : Nat} (h : c10[k]? = some (p, i, n)) : decode prog_1_method_24_code p = .ok (i, n) := dget D10 h
def c9 : List (Nat × Instr × Nat) := [(0, .aload_n 0, 1), (1, .bipush 15, 2), (3, .iconst 0, 1), (4, .invokevirtual 279, 3), (7, .aload_n 0, 1), (8, .bipush 17, 2), (10, .iconst 0, 1), (11, .invokevirtual 279, 3), (14, .aload_n 0, 1), (15, .iconst 1, 1), (16, .iconst 0, 1), (17, .invokevirtual 279, 3), (20, .aload_n 0, 1), (21, .bipush 16, 2), (23, .iconst 1, 1), (24, .invokevirtual 279, 3), (27, .aload_n 0, 1), (28, .bipush 14, 2), (30, .bipush 81, 2), (32, .invokevirtual 279, 3), (35, .aload_n 0, 1), (36, .bipush 19, 2), (38, .iconst 0, 1), (39, .invokevirtual 279, 3), (42, .aload_n 0, 1), (43, .bipush 12, 2), (45, .iconst 0, 1), (46, .invokevirtual 279, 3), (49, .aload_n 0, 1), (50, .bipush 18, 2), (52, .iconst 0, 1), (53, .invokevirtual 279, 3), (56, .aload_n 0, 1), (57, .bipush 14, 2), (59, .bipush 59, 2), (61, .invokevirtual 279, 3), (64, .aload_n 0, 1), (65, .bipush 17, 2), (67, .iconst 0, 1), (68, .invokevirtual 279, 3), (71, .aload_n 0, 1), (72, .iconst 1, 1), (73, .iconst 0, 1), (74, .invokevirtual 279, 3), (77, .aload_n 0, 1), (78, .bipush 16, 2), (80, .iconst 0, 1), (81, .invokevirtual 279, 3), (84, .aload_n 0, 1), (85, .bipush 14, 2), (87, .bipush 80, 2), (89, .invokevirtual 279, 3), (92, .return_, 1)]
theorem D9 : decs prog_1_method_22_code c9 = true := by decide +kernel
theorem d9 (k : Nat) {p : Nat} {i : Instr} {n : Nat} (h : c9[k]? = some (p, i, n)) : decode prog_1_method_22_code p = .ok (i, n) := dget D9 h
def c13 : List (Nat × Instr × Nat) := [(0, .aload_n 0, 1), (1, .getfield 200, 3), (4, .ifCond .lt 24, 3), (7, .aload_n 0, 1), (8, .getfield 200, 3), (11, .aload_n 0, 1), (12, .getfield 182, 3), (15, .if_icmp .ge 13, 3), (18, .aload_n 0, 1), (19, .getfield 127, 3), (22, .aload_n 0, 1), (23, .getfield 200, 3), (26, .iaload, 1), (27, .ireturn, 1), (28, .iconst (-1), 1), (29, .ireturn, 1)]
theorem D13 : decs prog_1_method_23_code c13 = true := by decide +kernel
theorem d13 (k : Nat) {p : Nat} {i : Instr} {n : Nat} (h : c13[k]? = some (p, i, n)) : decode prog_1_method_23_code p = .ok (i, n) := dget D13 h
def c26 : List (Nat × Instr × Nat) := [(0, .aload_n 0, 1), (1, .dup, 1), (2, .getfield 200, 3), (5, .iconst 1, 1), (6, .iadd, 1), (7, .putfield 200, 3), (10, .aload_n 0, 1), (11, .iload_n 1, 1), (12, .iconst 0, 1), (13, .invokevirtual 279, 3), (16, .aload_n 0, 1), (17, .bipush 17, 2), (19, .iload_n 2, 1), (20, .invokevirtual 279, 3), (23, .aload_n 0, 1), (24, .iload_n 3, 1), (25, .iconst 0, 1), (26, .invokevirtual 279, 3), (29, .return_, 1)]
theorem D26 : decs prog_1_method_27_code c26 = true := by decide +kernel
theorem d26 (k : Nat) {p : Nat} {i : Instr} {n : Nat} (h : c26[k]? = some (p, i, n)) : decode prog_1_method_27_code p = .ok (i, n) := dget D26 h
def c19 : List (Nat × Instr × Nat) := [(0, .aload_n 0, 1), (1, .getfield 256, 3), (4, .sipush 512, 3), (7, .if_icmp .lt 9, 3), (10, .aload_n 0, 1), (11, .iconst 1, 1), (12, .putfield 265, 3), (15, .return_, 1), (16, .aload_n 0, 1), (17, .getfield 131, 3), (20, .aload_n 0, 1), (21, .getfield 256, 3), (24, .iload_n 1, 1), (25, .iastore, 1), (26, .aload_n 0, 1), (27, .getfield 134, 3), (30, .aload_n 0, 1), (31, .getfield 256, 3), (34, .iload_n 2, 1), (35, .iastore, 1), (36, .aload_n 0, 1), (37, .dup, 1), (38, .getfield 256, 3), (41, .iconst 1, 1), (42, .iadd, 1), (43, .putfield 256, 3), (46, .return_, 1)]
theorem D19 : decs prog_1_method_25_code c19 = true := by decide +kernel
theorem d19 (k : Nat) {p : Nat} {i : Instr} {n : Nat} (h : c19[k]? = some (p, i, n)) : decode prog_1_method_25_code p = .ok (i, n) := dget D19 h
def c16 : List (Nat × Instr × Nat) := [(0, .aload_n 0, 1), (1, .iload_n 1, 1), (2, .invokevirtual 250, 3), (5, .ifCond .ge 21, 3), (8, .iload_n 1, 1), (9, .bipush 48, 2), (11, .if_icmp .lt 9, 3), (14, .iload_n 1, 1), (15, .bipush 57, 2), (17, .if_icmp .le 9, 3), (20, .iload_n 1, 1), (21, .bipush 40, 2), (23, .if_icmp .ne 7, 3), (26, .iconst 1, 1), (27, .goto 4, 3), (30, .iconst 0, 1), (31, .ireturn, 1)]
theorem D16 : decs prog_1_method_19_code c16 = true := by decide +kernel
theorem d16 (k : Nat) {p : Nat} {i : Instr} {n : Nat} (h : c16[k]? = some (p, i, n)) : decode prog_1_method_19_code p = .ok (i, n) := dget D16 h
def c15 : List (Nat × Instr × Nat) := [(0, .aload_n 0, 1), (1, .invokevirtual 295, 3), (4, .istore_n 1, 1), (5, .iload_n 1, 1), (6, .bipush 33, 2), (8, .if_icmp .ne 30, 3), (11, .aload_n 0, 1), (12, .dup, 1), (13, .getfield 200, 3), (16, .iconst 1, 1), (17, .iadd, 1), (18, .putfield 200, 3), (21, .aload_n 0, 1), (22, .bipush 17, 2), (24, .bipush 10, 2), (26, .invokevirtual 279, 3), (29, .aload_n 0, 1), (30, .iconst 5, 1), (31, .iconst 0, 1), (32, .invokevirtual 279, 3), (35, .goto 118, 3), (38, .iload_n 1, 1), (39, .bipush 84, 2), (41, .if_icmp .ne 23, 3), (44, .aload_n 0, 1), (45, .dup, 1), (46, .getfield 200, 3), (49, .iconst 1, 1), (50, .iadd, 1), (51, .putfield 200, 3), (54, .aload_n 0, 1), (55, .bipush 8, 2), (57, .iconst 0, 1), (58, .invokevirtual 306, 3), (61, .goto 92, 3), (64, .iload_n 1, 1), (65, .bipush 70, 2), (67, .if_icmp .ne 23, 3), (70, .aload_n 0, 1), (71, .dup, 1), (72, .getfield 200, 3), (75, .iconst 1, 1), (76, .iadd, 1), (77, .putfield 200, 3), (80, .aload_n 0, 1), (81, .bipush 9, 2), (83, .iconst 0, 1), (84, .invokevirtual 306, 3), (87, .goto 66, 3), (90, .iload_n 1, 1), (91, .bipush 91, 2), (93, .if_icmp .ne 30, 3), (96, .aload_n 0, 1), (97, .dup, 1), (98, .getfield 200, 3), (101, .iconst 1, 1), (102, .iadd, 1), (103, .putfield 200, 3), (106, .aload_n 0, 1), (107, .bipush 14, 2), (109, .bipush 93, 2), (111, .invokevirtual 279, 3), (114, .aload_n 0, 1), (115, .iconst 1, 1), (116, .iconst 0, 1), (117, .invokevirtual 279, 3), (120, .goto 33, 3), (123, .aload_n 0, 1), (124, .iload_n 1, 1), (125, .invokevirtual 309, 3), (128, .ifCond .eq 20, 3), (131, .aload_n 0, 1), (132, .bipush 6, 2), (134, .iconst 0, 1), (135, .invokevirtual 279, 3), (138, .aload_n 0, 1), (139, .bipush 7, 2), (141, .iconst 0, 1), (142, .invokevirtual 279, 3), (145, .goto 8, 3), (148, .aload_n 0, 1), (149, .iconst 1, 1), (150, .putfield 265, 3), (153, .return_, 1)]
theorem D15 : decs prog_1_method_29_code c15 = true := by decide +kernel
theorem d15 (k : Nat) {p : Nat} {i : Instr} {n : Nat} (h : c15[k]? = some (p, i, n)) : decode prog_1_method_29_code p = .ok (i, n) := dget D15 h
def c14 : List (Nat × Instr × Nat) := [(0, .aload_n 0, 1), (1, .invokevirtual 295, 3), (4, .istore_n 2, 1), (5, .iload_n 1, 1), (6, .iconst 1, 1), (7, .if_icmp .ne 18, 3), (10, .aload_n 0, 1), (11, .iconst 2, 1), (12, .iconst 0, 1), (13, .invokevirtual 279, 3), (16, .aload_n 0, 1), (17, .iconst 3, 1), (18, .iconst 0, 1), (19, .invokevirtual 279, 3), (22, .goto 152, 3), (25, .iload_n 1, 1), (26, .iconst 2, 1), (27, .if_icmp .ne 20, 3), (30, .iload_n 2, 1), (31, .bipush 124, 2), (33, .if_icmp .ne 141, 3), (36, .aload_n 0, 1), (37, .iconst 2, 1), (38, .bipush 12, 2), (40, .iconst 3, 1), (41, .invokevirtual 299, 3), (44, .goto 130, 3), (47, .iload_n 1, 1), (48, .iconst 3, 1), (49, .if_icmp .ne 18, 3), (52, .aload_n 0, 1), (53, .iconst 4, 1), (54, .iconst 0, 1), (55, .invokevirtual 279, 3), (58, .aload_n 0, 1), (59, .iconst 5, 1), (60, .iconst 0, 1), (61, .invokevirtual 279, 3), (64, .goto 110, 3), (67, .iload_n 1, 1), (68, .iconst 4, 1), (69, .if_icmp .ne 20, 3), (72, .iload_n 2, 1), (73, .bipush 38, 2), (75, .if_icmp .ne 99, 3), (78, .aload_n 0, 1), (79, .iconst 4, 1), (80, .bipush 11, 2), (82, .iconst 5, 1), (83, .invokevirtual 299, 3), (86, .goto 88, 3), (89, .iload_n 1, 1), (90, .iconst 5, 1), (91, .if_icmp .ne 10, 3), (94, .aload_n 0, 1), (95, .invokevirtual 303, 3), (98, .goto 76, 3), (101, .iload_n 2, 1), (102, .bipush 60, 2), (104, .if_icmp .ne 31, 3), (107, .aload_n 0, 1), (108, .dup, 1), (109, .getfield 200, 3), (112, .iconst 1, 1), (113, .iadd, 1), (114, .putfield 200, 3), (117, .aload_n 0, 1), (118, .bipush 17, 2), (120, .bipush 6, 2), (122, .invokevirtual 279, 3), (125, .aload_n 0, 1), (126, .bipush 7, 2), (128, .iconst 0, 1), (129, .invokevirtual 279, 3), (132, .goto 42, 3), (135, .iload_n 2, 1), (136, .bipush 61, 2), (138, .if_icmp .ne 31, 3), (141, .aload_n 0, 1), (142, .dup, 1), (143, .getfield 200, 3), (146, .iconst 1, 1), (147, .iadd, 1), (148, .putfield 200, 3), (151, .aload_n 0, 1), (152, .bipush 17, 2), (154, .bipush 7, 2), (156, .invokevirtual 279, 3), (159, .aload_n 0, 1), (160, .bipush 7, 2), (162, .iconst 0, 1), (163, .invokevirtual 279, 3), (166, .goto 8, 3), (169, .aload_n 0, 1), (170, .iconst 1, 1), (171, .putfield 265, 3), (174, .return_, 1)]
theorem D14 : decs prog_1_method_28_code c14 = true := by decide +kernel
theorem d14 (k : Nat) {p : Nat} {i : Instr} {n : Nat} (h : c14[k]? = some (p, i, n)) : decode prog_1_method_28_code p = .ok (i, n) := dget D14 h
def c18 : List (Nat × Instr × Nat) := [(0, .aload_n 0, 1), (1, .invokevirtual 295, 3), (4, .istore_n 1, 1), (5, .aload_n 0, 1), (6, .iload_n 1, 1), (7, .invokevirtual 250, 3), (10, .istore_n 2, 1), (11, .iload_n 2, 1), (12, .ifCond .lt 22, 3), (15, .aload_n 0, 1), (16, .dup, 1), (17, .getfield 200, 3), (20, .iconst 1, 1), (21, .iadd, 1), (22, .putfield 200, 3), (25, .aload_n 0, 1), (26, .iconst 1, 1), (27, .iload_n 2, 1), (28, .invokevirtual 306, 3), (31, .goto 76, 3), (34, .iload_n 1, 1), (35, .bipush 48, 2), (37, .if_icmp .lt 31, 3), (40, .iload_n 1, 1), (41, .bipush 57, 2), (43, .if_icmp .gt 25, 3), (46, .aload_n 0, 1), (47, .dup, 1), (48, .getfield 200, 3), (51, .iconst 1, 1), (52, .iadd, 1), (53, .putfield 200, 3), (56, .aload_n 0, 1), (57, .iconst 2, 1), (58, .iload_n 1, 1), (59, .bipush 48, 2), (61, .isub, 1), (62, .invokevirtual 306, 3), (65, .goto 42, 3), (68, .iload_n 1, 1), (69, .bipush 40, 2), (71, .if_icmp .ne 31, 3), (74, .aload_n 0, 1), (75, .dup, 1), (76, .getfield 200, 3), (79, .iconst 1, 1), (80, .iadd, 1), (81, .putfield 200, 3), (84, .aload_n 0, 1), (85, .bipush 14, 2), (87, .bipush 41, 2), (89, .invokevirtual 279, 3), (92, .aload_n 0, 1), (93, .bipush 7, 2), (95, .iconst 0, 1), (96, .invokevirtual 279, 3), (99, .goto 8, 3), (102, .aload_n 0, 1), (103, .iconst 1, 1), (104, .putfield 265, 3), (107, .return_, 1)]
theorem D18 : decs prog_1_method_31_code c18 = true := by decide +kernel
theorem d18 (k : Nat) {p : Nat} {i : Instr} {n : Nat} (h : c18[k]? = some (p, i, n)) : decode prog_1_method_31_code p = .ok (i, n) := dget D18 h
def c17 : List (Nat × Instr × Nat) := [(0, .aload_n 0, 1), (1, .invokevirtual 295, 3), (4, .istore_n 2, 1), (5, .iload_n 1, 1), (6, .bipush 7, 2), (8, .if_icmp .ne 20, 3), (11, .aload_n 0, 1), (12, .bipush 8, 2), (14, .iconst 0, 1), (15, .invokevirtual 279, 3), (18, .aload_n 0, 1), (19, .bipush 9, 2), (21, .iconst 0, 1), (22, .invokevirtual 279, 3), (25, .goto 96, 3), (28, .iload_n 1, 1), (29, .bipush 8, 2), (31, .if_icmp .ne 39, 3), (34, .iload_n 2, 1), (35, .bipush 43, 2), (37, .if_icmp .ne 15, 3), (40, .aload_n 0, 1), (41, .bipush 8, 2), (43, .iconst 3, 1), (44, .bipush 9, 2), (46, .invokevirtual 299, 3), (49, .goto 72, 3), (52, .iload_n 2, 1), (53, .bipush 45, 2), (55, .if_icmp .ne 66, 3), (58, .aload_n 0, 1), (59, .bipush 8, 2), (61, .iconst 4, 1), (62, .bipush 9, 2), (64, .invokevirtual 299, 3), (67, .goto 54, 3), (70, .iload_n 1, 1), (71, .bipush 9, 2), (73, .if_icmp .ne 20, 3), (76, .aload_n 0, 1), (77, .bipush 10, 2), (79, .iconst 0, 1), (80, .invokevirtual 279, 3), (83, .aload_n 0, 1), (84, .bipush 11, 2), (86, .iconst 0, 1), (87, .invokevirtual 279, 3), (90, .goto 31, 3), (93, .iload_n 1, 1), (94, .bipush 10, 2), (96, .if_icmp .ne 21, 3), (99, .iload_n 2, 1), (100, .bipush 42, 2), (102, .if_icmp .ne 19, 3), (105, .aload_n 0, 1), (106, .bipush 10, 2), (108, .iconst 5, 1), (109, .bipush 11, 2), (111, .invokevirtual 299, 3), (114, .goto 7, 3), (117, .aload_n 0, 1), (118, .invokevirtual 312, 3), (121, .return_, 1)]
theorem D17 : decs prog_1_method_30_code c17 = true := by decide +kernel
theorem d17 (k : Nat) {p : Nat} {i : Instr} {n : Nat} (h : c17[k]? = some (p, i, n)) : decode prog_1_method_30_code p = .ok (i, n) := dget D17 h
def c22 : List (Nat × Instr × Nat) := [(0, .aload_n 0, 1), (1, .iload_n 1, 1), (2, .invokevirtual 250, 3), (5, .ifCond .ge 15, 3), (8, .iload_n 1, 1), (9, .bipush 63, 2), (11, .if_icmp .eq 9, 3), (14, .iload_n 1, 1), (15, .bipush 87, 2), (17, .if_icmp .ne 7, 3), (20, .iconst 1, 1), (21, .goto 4, 3), (24, .iconst 0, 1), (25, .ireturn, 1)]
theorem D22 : decs prog_1_method_20_code c22 = true := by decide +kernel
theorem d22 (k : Nat) {p : Nat} {i : Instr} {n : Nat} (h : c22[k]? = some (p, i, n)) : decode prog_1_method_20_code p = .ok (i, n) := dget D22 h
def c24 : List (Nat × Instr × Nat) := [(0, .aload_n 0, 1), (1, .getfield 259, 3), (4, .bipush 64, 2), (6, .if_icmp .ge 10, 3), (9, .aload_n 0, 1), (10, .getfield 262, 3), (13, .ifCond .gt 10, 3), (16, .aload_n 0, 1), (17, .iconst 1, 1), (18, .putfield 265, 3), (21, .iconst (-1), 1), (22, .ireturn, 1), (23, .aload_n 0, 1), (24, .getfield 259, 3), (27, .istore_n 2, 1), (28, .aload_n 0, 1), (29, .dup, 1), (30, .getfield 259, 3), (33, .iconst 1, 1), (34, .iadd, 1), (35, .putfield 259, 3), (38, .aload_n 0, 1), (39, .getfield 140, 3), (42, .iload_n 2, 1), (43, .iload_n 1, 1), (44, .iastore, 1), (45, .aload_n 0, 1), (46, .getfield 143, 3), (49, .iload_n 2, 1), (50, .iconst 0, 1), (51, .iastore, 1), (52, .aload_n 0, 1), (53, .getfield 146, 3), (56, .iload_n 2, 1), (57, .iconst (-1), 1), (58, .iastore, 1), (59, .aload_n 0, 1), (60, .getfield 149, 3), (63, .iload_n 2, 1), (64, .iconst (-1), 1), (65, .iastore, 1), (66, .aload_n 0, 1), (67, .getfield 152, 3), (70, .iload_n 2, 1), (71, .iconst (-1), 1), (72, .iastore, 1), (73, .aload_n 0, 1), (74, .getfield 262, 3), (77, .iconst 1, 1), (78, .isub, 1), (79, .istore_n 3, 1), (80, .aload_n 0, 1), (81, .getfield 167, 3), (84, .iload_n 3, 1), (85, .iaload, 1), (86, .istore 4, 2), (88, .aload_n 0, 1), (89, .getfield 155, 3), (92, .iload_n 2, 1), (93, .iload 4, 2), (95, .iastore, 1), (96, .aload_n 0, 1), (97, .getfield 173, 3), (100, .iload_n 3, 1), (101, .iaload, 1), (102, .istore 5, 2), (104, .iload 5, 2), (106, .ifCond .lt 21, 3), (109, .iload 5, 2), (111, .bipush 64, 2), (113, .if_icmp .ge 14, 3), (116, .aload_n 0, 1), (117, .getfield 152, 3), (120, .iload 5, 2), (122, .iload_n 2, 1), (123, .iastore, 1), (124, .goto 58, 3), (127, .iload 4, 2), (129, .ifCond .ge 11, 3), (132, .aload_n 0, 1), (133, .iload_n 2, 1), (134, .putfield 228, 3), (137, .goto 45, 3), (140, .iload 4, 2), (142, .bipush 64, 2), (144, .if_icmp .ge 23, 3), (147, .aload_n 0, 1), (148, .getfield 170, 3), (151, .iload_n 3, 1), (152, .iaload, 1), (153, .ifCond .ne 14, 3), (156, .aload_n 0, 1), (157, .getfield 146, 3), (160, .iload 4, 2), (162, .iload_n 2, 1), (163, .iastore, 1), (164, .goto 18, 3), (167, .iload 4, 2), (169, .bipush 64, 2), (171, .if_icmp .ge 11, 3), (174, .aload_n 0, 1), (175, .getfield 149, 3), (178, .iload 4, 2), (180, .iload_n 2, 1), (181, .iastore, 1), (182, .aload_n 0, 1), (183, .getfield 173, 3), (186, .iload_n 3, 1), (187, .iload_n 2, 1), (188, .iastore, 1), (189, .iload_n 2, 1), (190, .ireturn, 1)]
theorem D24 : decs prog_1_method_36_code c24 = true := by decide +kernel
theorem d24 (k : Nat) {p : Nat} {i : Instr} {n : Nat} (h : c24[k]? = some (p, i, n)) : decode prog_1_method_36_code p = .ok (i, n) := dget D24 h
def c25 : List (Nat × Instr × Nat) := [(0, .aload_n 0, 1), (1, .iconst 0, 1), (2, .invokevirtual 327, 3), (5, .istore_n 2, 1), (6, .iload_n 2, 1), (7, .ifCond .ge 4, 3), (10, .return_, 1), (11, .aload_n 0, 1), (12, .getfield 143, 3), (15, .iload_n 2, 1), (16, .iload_n 1, 1), (17, .iastore, 1), (18, .aload_n 0, 1), (19, .dup, 1), (20, .getfield 200, 3), (23, .iconst 1, 1), (24, .iadd, 1), (25, .putfield 200, 3), (28, .aload_n 0, 1), (29, .bipush 14, 2), (31, .bipush 59, 2), (33, .invokevirtual 279, 3), (36, .aload_n 0, 1), (37, .bipush 17, 2), (39, .iconst 0, 1), (40, .invokevirtual 279, 3), (43, .aload_n 0, 1), (44, .bipush 7, 2), (46, .iconst 0, 1), (47, .invokevirtual 279, 3), (50, .aload_n 0, 1), (51, .bipush 16, 2), (53, .iconst 2, 1), (54, .iconst 2, 1), (55, .iload_n 2, 1), (56, .imul, 1), (57, .iadd, 1), (58, .invokevirtual 279, 3), (61, .aload_n 0, 1), (62, .bipush 14, 2), (64, .bipush 61, 2), (66, .invokevirtual 279, 3), (69, .return_, 1)]
theorem D25 : decs prog_1_method_33_code c25 = true := by decide +kernel
theorem d25 (k : Nat) {p : Nat} {i : Instr} {n : Nat} (h : c25[k]? = some (p, i, n)) : decode prog_1_method_33_code p = .ok (i, n) := dget D25 h
def c23 : List (Nat × Instr × Nat) := [(0, .aload_n 0, 1), (1, .iconst 2, 1), (2, .invokevirtual 327, 3), (5, .istore_n 1, 1), (6, .iload_n 1, 1), (7, .ifCond .ge 4, 3), (10, .return_, 1), (11, .aload_n 0, 1), (12, .getfield 206, 3), (15, .bipush 64, 2), (17, .if_icmp .lt 9, 3), (20, .aload_n 0, 1), (21, .iconst 1, 1), (22, .putfield 265, 3), (25, .return_, 1), (26, .aload_n 0, 1), (27, .getfield 158, 3), (30, .aload_n 0, 1), (31, .getfield 206, 3), (34, .iload_n 1, 1), (35, .iastore, 1), (36, .aload_n 0, 1), (37, .dup, 1), (38, .getfield 206, 3), (41, .iconst 1, 1), (42, .iadd, 1), (43, .putfield 206, 3), (46, .aload_n 0, 1), (47, .dup, 1), (48, .getfield 200, 3), (51, .iconst 1, 1), (52, .iadd, 1), (53, .putfield 200, 3), (56, .aload_n 0, 1), (57, .bipush 14, 2), (59, .bipush 125, 2), (61, .invokevirtual 279, 3), (64, .aload_n 0, 1), (65, .bipush 19, 2), (67, .iconst 0, 1), (68, .invokevirtual 279, 3), (71, .aload_n 0, 1), (72, .bipush 12, 2), (74, .iconst 0, 1), (75, .invokevirtual 279, 3), (78, .aload_n 0, 1), (79, .bipush 18, 2), (81, .iload_n 1, 1), (82, .iconst 1, 1), (83, .iadd, 1), (84, .iconst 2, 1), (85, .imul, 1), (86, .invokevirtual 279, 3), (89, .aload_n 0, 1), (90, .bipush 14, 2), (92, .bipush 123, 2), (94, .invokevirtual 279, 3), (97, .aload_n 0, 1), (98, .bipush 17, 2), (100, .iconst 0, 1), (101, .invokevirtual 279, 3), (104, .aload_n 0, 1), (105, .iconst 1, 1), (106, .iconst 0, 1), (107, .invokevirtual 279, 3), (110, .aload_n 0, 1), (111, .bipush 16, 2), (113, .iconst 3, 1), (114, .iconst 2, 1), (115, .iload_n 1, 1), (116, .imul, 1), (117, .iadd, 1), (118, .invokevirtual 279, 3), (121, .aload_n 0, 1), (122, .bipush 14, 2), (124, .bipush 64, 2), (126, .invokevirtual 279, 3), (129, .aload_n 0, 1), (130, .bipush 17, 2), (132, .iconst 0, 1), (133, .invokevirtual 279, 3), (136, .aload_n 0, 1), (137, .iconst 1, 1), (138, .iconst 0, 1), (139, .invokevirtual 279, 3), (142, .aload_n 0, 1), (143, .bipush 16, 2), (145, .iconst 2, 1), (146, .iconst 2, 1), (147, .iload_n 1, 1), (148, .imul, 1), (149, .iadd, 1), (150, .invokevirtual 279, 3), (153, .return_, 1)]
theorem D23 : decs prog_1_method_35_code c23 = true := by decide +kernel
theorem d23 (k : Nat) {p : Nat} {i : Instr} {n : Nat} (h : c23[k]? = some (p, i, n)) : decode prog_1_method_35_code p = .ok (i, n) := dget D23 h
def c21 : List (Nat × Instr × Nat) := [(0, .aload_n 0, 1), (1, .invokevirtual 295, 3), (4, .istore_n 2, 1), (5, .iload_n 1, 1), (6, .bipush 12, 2), (8, .if_icmp .ne 26, 3), (11, .aload_n 0, 1), (12, .iload_n 2, 1), (13, .invokevirtual 315, 3), (16, .ifCond .eq 17, 3), (19, .aload_n 0, 1), (20, .bipush 12, 2), (22, .iconst 0, 1), (23, .invokevirtual 279, 3), (26, .aload_n 0, 1), (27, .bipush 13, 2), (29, .iconst 0, 1), (30, .invokevirtual 279, 3), (33, .return_, 1), (34, .aload_n 0, 1), (35, .iload_n 2, 1), (36, .invokevirtual 250, 3), (39, .istore_n 3, 1), (40, .iload_n 3, 1), (41, .ifCond .lt 11, 3), (44, .aload_n 0, 1), (45, .iload_n 3, 1), (46, .invokevirtual 318, 3), (49, .goto 34, 3), (52, .iload_n 2, 1), (53, .bipush 63, 2), (55, .if_icmp .ne 10, 3), (58, .aload_n 0, 1), (59, .invokevirtual 321, 3), (62, .goto 21, 3), (65, .iload_n 2, 1), (66, .bipush 87, 2), (68, .if_icmp .ne 10, 3), (71, .aload_n 0, 1), (72, .invokevirtual 324, 3), (75, .goto 8, 3), (78, .aload_n 0, 1), (79, .iconst 1, 1), (80, .putfield 265, 3), (83, .return_, 1)]
theorem D21 : decs prog_1_method_32_code c21 = true := by decide +kernel
theorem d21 (k : Nat) {p : Nat} {i : Instr} {n : Nat} (h : c21[k]? = some (p, i, n)) : decode prog_1_method_32_code p = .ok (i, n) := dget D21 h
def c20 : List (Nat × Instr × Nat) := [(0, .aload_n 0, 1), (1, .getfield 262, 3), (4, .bipush 64, 2), (6, .if_icmp .ge 7, 3), (9, .iload_n 1, 1), (10, .ifCond .ge 9, 3), (13, .aload_n 0, 1), (14, .iconst 1, 1), (15, .putfield 265, 3), (18, .return_, 1), (19, .aload_n 0, 1), (20, .getfield 167, 3), (23, .aload_n 0, 1), (24, .getfield 262, 3), (27, .iload_n 1, 1), (28, .iconst 2, 1), (29, .idiv, 1), (30, .iconst 1, 1), (31, .isub, 1), (32, .iastore, 1), (33, .aload_n 0, 1), (34, .getfield 170, 3), (37, .aload_n 0, 1), (38, .getfield 262, 3), (41, .iload_n 1, 1), (42, .iconst 2, 1), (43, .irem, 1), (44, .iastore, 1), (45, .aload_n 0, 1), (46, .getfield 173, 3), (49, .aload_n 0, 1), (50, .getfield 262, 3), (53, .iconst (-1), 1), (54, .iastore, 1), (55, .aload_n 0, 1), (56, .dup, 1), (57, .getfield 262, 3), (60, .iconst 1, 1), (61, .iadd, 1), (62, .putfield 262, 3), (65, .return_, 1)]
theorem D20 : decs prog_1_method_38_code c20 = true := by decide +kernel
theorem d20 (k : Nat) {p : Nat} {i : Instr} {n : Nat} (h : c20[k]? = some (p, i, n)) : decode prog_1_method_38_code p = .ok (i, n) := dget D20 h
def c12 : List (Nat × Instr × Nat) := [(0, .iload_n 1, 1), (1, .bipush 14, 2), (3, .if_icmp .ne 32, 3), (6, .aload_n 0, 1), (7, .invokevirtual 295, 3), (10, .iload_n 2, 1), (11, .if_icmp .ne 16, 3), (14, .aload_n 0, 1), (15, .dup, 1), (16, .getfield 200, 3), (19, .iconst 1, 1), (20, .iadd, 1), (21, .putfield 200, 3), (24, .goto 134, 3), (27, .aload_n 0, 1), (28, .iconst 1, 1), (29, .putfield 265, 3), (32, .goto 126, 3), (35, .iload_n 1, 1), (36, .bipush 15, 2), (38, .if_icmp .ne 30, 3), (41, .aload_n 0, 1), (42, .getfield 200, 3), (45, .aload_n 0, 1), (46, .getfield 182, 3), (49, .if_icmp .ne 11, 3), (52, .aload_n 0, 1), (53, .iconst 1, 1), (54, .putfield 268, 3), (57, .goto 101, 3), (60, .aload_n 0, 1), (61, .iconst 1, 1), (62, .putfield 265, 3), (65, .goto 93, 3), (68, .iload_n 1, 1), (69, .bipush 16, 2), (71, .if_icmp .ne 27, 3), (74, .iload_n 2, 1), (75, .ifCond .lt 83, 3), (78, .iload_n 2, 1), (79, .sipush 160, 3), (82, .if_icmp .ge 76, 3), (85, .aload_n 0, 1), (86, .getfield 137, 3), (89, .iload_n 2, 1), (90, .aload_n 0, 1), (91, .getfield 256, 3), (94, .iastore, 1), (95, .goto 63, 3), (98, .iload_n 1, 1), (99, .bipush 17, 2), (101, .if_icmp .ne 12, 3), (104, .aload_n 0, 1), (105, .iload_n 2, 1), (106, .iconst 0, 1), (107, .invokevirtual 306, 3), (110, .goto 48, 3), (113, .iload_n 1, 1), (114, .bipush 18, 2), (116, .if_icmp .ne 11, 3), (119, .aload_n 0, 1), (120, .iload_n 2, 1), (121, .invokevirtual 330, 3), (124, .goto 34, 3), (127, .iload_n 1, 1), (128, .bipush 19, 2), (130, .if_icmp .ne 23, 3), (133, .aload_n 0, 1), (134, .getfield 262, 3), (137, .ifCond .le 21, 3), (140, .aload_n 0, 1), (141, .dup, 1), (142, .getfield 262, 3), (145, .iconst 1, 1), (146, .isub, 1), (147, .putfield 262, 3), (150, .goto 8, 3), (153, .aload_n 0, 1), (154, .iconst 1, 1), (155, .putfield 265, 3), (158, .return_, 1)]
theorem D12 : decs prog_1_method_37_code c12 = true := by decide +kernel
theorem d12 (k : Nat) {p : Nat} {i : Instr} {n : Nat} (h : c12[k]? = some (p, i, n)) : decode prog_1_method_37_code p = .ok (i, n) := dget D12 h
def c11 : List (Nat × Instr × Nat) := [(0, .iload_n 1, 1), (1, .bipush 6, 2), (3, .if_icmp .gt 11, 3), (6, .aload_n 0, 1), (7, .iload_n 1, 1), (8, .invokevirtual 282, 3), (11, .goto 37, 3), (14, .iload_n 1, 1), (15, .bipush 11, 2), (17, .if_icmp .gt 11, 3), (20, .aload_n 0, 1), (21, .iload_n 1, 1), (22, .invokevirtual 286, 3), (25, .goto 23, 3), (28, .iload_n 1, 1), (29, .bipush 13, 2), (31, .if_icmp .gt 11, 3), (34, .aload_n 0, 1), (35, .iload_n 1, 1), (36, .invokevirtual 289, 3), (39, .goto 9, 3), (42, .aload_n 0, 1), (43, .iload_n 1, 1), (44, .iload_n 2, 1), (45, .invokevirtual 292, 3), (48, .return_, 1)]
theorem D11 : decs prog_1_method_26_code c11 = true := by decide +kernel
theorem d11 (k : Nat) {p : Nat} {i : Instr} {n : Nat} (h : c11[k]? = some (p, i, n)) : decode prog_1_method_26_code p = .ok (i, n) := dget D11 h
def c8 : List (Nat × Instr × Nat) := [(0, .aload_n 0, 1), (1, .iconst 0, 1), (2, .putfield 253, 3), (5, .aload_n 0, 1), (6, .iconst 0, 1), (7, .putfield 256, 3), (10, .aload_n 0, 1), (11, .iconst 0, 1), (12, .putfield 259, 3), (15, .aload_n 0, 1), (16, .iconst 0, 1), (17, .putfield 206, 3), (20, .aload_n 0, 1), (21, .iconst 0, 1), (22, .putfield 262, 3), (25, .aload_n 0, 1), (26, .iconst (-1), 1), (27, .putfield 228, 3), (30, .aload_n 0, 1), (31, .iconst 0, 1), (32, .putfield 200, 3), (35, .aload_n 0, 1), (36, .iconst 0, 1), (37, .putfield 265, 3), (40, .aload_n 0, 1), (41, .iconst 0, 1), (42, .putfield 268, 3), (45, .aload_n 0, 1), (46, .invokevirtual 271, 3), (49, .iconst 0, 1), (50, .istore_n 1, 1), (51, .iload_n 1, 1), (52, .ldc_w 274, 3), (55, .if_icmp .ge 73, 3), (58, .aload_n 0, 1), (59, .getfield 265, 3), (62, .ifCond .ne 66, 3), (65, .aload_n 0, 1), (66, .getfield 268, 3), (69, .ifCond .eq 6, 3), (72, .goto 56, 3), (75, .aload_n 0, 1), (76, .getfield 253, 3), (79, .ifCond .gt 11, 3), (82, .aload_n 0, 1), (83, .iconst 1, 1), (84, .putfield 265, 3), (87, .goto 41, 3), (90, .aload_n 0, 1), (91, .dup, 1), (92, .getfield 253, 3), (95, .iconst 1, 1), (96, .isub, 1), (97, .putfield 253, 3), (100, .aload_n 0, 1), (101, .aload_n 0, 1), (102, .getfield 161, 3), (105, .aload_n 0, 1), (106, .getfield 253, 3), (109, .iaload, 1), (110, .aload_n 0, 1), (111, .getfield 164, 3), (114, .aload_n 0, 1), (115, .getfield 253, 3), (118, .iaload, 1), (119, .invokevirtual 275, 3), (122, .iinc 1 1, 3), (125, .goto (-74), 3), (128, .aload_n 0, 1), (129, .getfield 268, 3), (132, .ifCond .eq 14, 3), (135, .aload_n 0, 1), (136, .getfield 265, 3), (139, .ifCond .ne 7, 3), (142, .iconst 1, 1), (143, .goto 4, 3), (146, .iconst 0, 1), (147, .ireturn, 1)]
theorem D8 : decs prog_1_method_21_code c8 = true := by decide +kernel
theorem d8 (k : Nat) {p : Nat} {i : Instr} {n : Nat} (h : c8[k]? = some (p, i, n)) : decode prog_1_method_21_code p = .ok (i, n) := dget D8 h
def c7 : List (Nat × Instr × Nat) := [(0, .aload_n 0, 1), (1, .invokevirtual 185, 3), (4, .aload_n 0, 1), (5, .invokevirtual 192, 3), (8, .istore_n 1, 1), (9, .iload_n 1, 1), (10, .ifCond .eq 10, 3), (13, .aload_n 0, 1), (14, .iconst 1, 1), (15, .putfield 196, 3), (18, .iconst 0, 1), (19, .ireturn, 1), (20, .aload_n 0, 1), (21, .aload_n 0, 1), (22, .getfield 200, 3), (25, .putfield 203, 3), (28, .bipush (-3), 2), (30, .ireturn, 1)]
theorem D7 : decs prog_1_method_6_code c7 = true := by decide +kernel
theorem d7 (k : Nat) {p : Nat} {i : Instr} {n : Nat} (h : c7[k]? = some (p, i, n)) : decode prog_1_method_6_code p = .ok (i, n) := dget D7 h
def c27 : List (Nat × Instr × Nat) := [(0, .aload_n 0, 1), (1, .getfield 196, 3), (4, .ifCond .ne 6, 3), (7, .bipush (-4), 2), (9, .ireturn, 1), (10, .iconst 1, 1), (11, .iconst 2, 1), (12, .aload_n 0, 1), (13, .getfield 206, 3), (16, .imul, 1), (17, .iadd, 1), (18, .ireturn, 1)]
theorem D27 : decs prog_1_method_8_code c27 = true := by decide +kernel
theorem d27 (k : Nat) {p : Nat} {i : Instr} {n : Nat} (h : c27[k]? = some (p, i, n)) : decode prog_1_method_8_code p = .ok (i, n) := dget D27 h
def c32 : List (Nat × Instr × Nat) := [(0, .iload_n 1, 1), (1, .iconst 1, 1), (2, .if_icmp .ne 22, 3), (5, .iload_n 2, 1), (6, .ifCond .ne 5, 3), (9, .iload_n 3, 1), (10, .ireturn, 1), (11, .iload_n 2, 1), (12, .iconst 1, 1), (13, .if_icmp .ne 8, 3), (16, .iload 4, 2), (18, .goto 5, 3), (21, .iload 5, 2), (23, .ireturn, 1), (24, .iload_n 1, 1), (25, .iconst 2, 1), (26, .if_icmp .ne 5, 3), (29, .iload_n 2, 1), (30, .ireturn, 1), (31, .iload_n 1, 1), (32, .bipush 8, 2), (34, .if_icmp .ne 7, 3), (37, .iconst 1, 1), (38, .goto 4, 3), (41, .iconst 0, 1), (42, .ireturn, 1)]
theorem D32 : decs prog_1_method_41_code c32 = true := by decide +kernel
theorem d32 (k : Nat) {p : Nat} {i : Instr} {n : Nat} (h : c32[k]? = some (p, i, n)) : decode prog_1_method_41_code p = .ok (i, n) := dget D32 h
def c33 : List (Nat × Instr × Nat) := [(0, .iload_n 1, 1), (1, .iconst 3, 1), (2, .if_icmp .ne 10, 3), (5, .iload_n 2, 1), (6, .iload_n 3, 1), (7, .iadd, 1), (8, .bipush 15, 2), (10, .iand, 1), (11, .ireturn, 1), (12, .iload_n 1, 1), (13, .iconst 4, 1), (14, .if_icmp .ne 10, 3), (17, .iload_n 2, 1), (18, .iload_n 3, 1), (19, .isub, 1), (20, .bipush 15, 2), (22, .iand, 1), (23, .ireturn, 1), (24, .iload_n 1, 1), (25, .iconst 5, 1), (26, .if_icmp .ne 10, 3), (29, .iload_n 2, 1), (30, .iload_n 3, 1), (31, .imul, 1), (32, .bipush 15, 2), (34, .iand, 1), (35, .ireturn, 1), (36, .iload_n 1, 1), (37, .bipush 6, 2), (39, .if_icmp .ne 14, 3), (42, .iload_n 2, 1), (43, .iload_n 3, 1), (44, .if_icmp .ge 7, 3), (47, .iconst 1, 1), (48, .goto 4, 3), (51, .iconst 0, 1), (52, .ireturn, 1), (53, .iload_n 1, 1), (54, .bipush 7, 2), (56, .if_icmp .ne 14, 3), (59, .iload_n 2, 1), (60, .iload_n 3, 1), (61, .if_icmp .ne 7, 3), (64, .iconst 1, 1), (65, .goto 4, 3), (68, .iconst 0, 1), (69, .ireturn, 1), (70, .iload_n 1, 1), (71, .bipush 11, 2), (73, .if_icmp .ne 17, 3), (76, .iload_n 2, 1), (77, .ifCond .eq 11, 3), (80, .iload_n 3, 1), (81, .ifCond .eq 7, 3), (84, .iconst 1, 1), (85, .goto 4, 3), (88, .iconst 0, 1), (89, .ireturn, 1), (90, .iload_n 2, 1), (91, .ifCond .ne 7, 3), (94, .iload_n 3, 1), (95, .ifCond .eq 7, 3), (98, .iconst 1, 1), (99, .goto 4, 3), (102, .iconst 0, 1), (103, .ireturn, 1)]
theorem D33 : decs prog_1_method_42_code c33 = true := by decide +kernel
theorem d33 (k : Nat) {p : Nat} {i : Instr} {n : Nat} (h : c33[k]? = some (p, i, n)) : decode prog_1_method_42_code p = .ok (i, n) := dget D33 h
def c31 : List (Nat × Instr × Nat) := [(0, .iconst 0, 1), (1, .istore 5, 2), (3, .iload_n 1, 1), (4, .istore 6, 2), (6, .iload 6, 2), (8, .aload_n 0, 1), (9, .getfield 256, 3), (12, .if_icmp .ge 182, 3), (15, .iload 6, 2), (17, .ifCond .ge 6, 3), (20, .goto 174, 3), (23, .aload_n 0, 1), (24, .getfield 131, 3), (27, .iload 6, 2), (29, .iaload, 1), (30, .istore 7, 2), (32, .iload 7, 2), (34, .ifCond .ne 6, 3), (37, .goto 157, 3), (40, .iload 7, 2), (42, .iconst 1, 1), (43, .if_icmp .eq 23, 3), (46, .iload 7, 2), (48, .iconst 2, 1), (49, .if_icmp .eq 17, 3), (52, .iload 7, 2), (54, .bipush 8, 2), (56, .if_icmp .eq 10, 3), (59, .iload 7, 2), (61, .bipush 9, 2), (63, .if_icmp .ne 44, 3), (66, .iload 5, 2), (68, .sipush 512, 3), (71, .if_icmp .lt 6, 3), (74, .goto 120, 3), (77, .aload_n 0, 1), (78, .getfield 176, 3), (81, .iload 5, 2), (83, .aload_n 0, 1), (84, .iload 7, 2), (86, .aload_n 0, 1), (87, .getfield 134, 3), (90, .iload 6, 2), (92, .iaload, 1), (93, .iload_n 2, 1), (94, .iload_n 3, 1), (95, .iload 4, 2), (97, .invokevirtual 336, 3), (100, .iastore, 1), (101, .iinc 5 1, 3), (104, .goto 84, 3), (107, .iload 7, 2), (109, .bipush 10, 2), (111, .if_icmp .ne 37, 3), (114, .iload 5, 2), (116, .ifCond .le 72, 3), (119, .aload_n 0, 1), (120, .getfield 176, 3), (123, .iload 5, 2), (125, .iconst 1, 1), (126, .isub, 1), (127, .aload_n 0, 1), (128, .getfield 176, 3), (131, .iload 5, 2), (133, .iconst 1, 1), (134, .isub, 1), (135, .iaload, 1), (136, .ifCond .ne 7, 3), (139, .iconst 1, 1), (140, .goto 4, 3), (143, .iconst 0, 1), (144, .iastore, 1), (145, .goto 43, 3), (148, .iload 5, 2), (150, .iconst 2, 1), (151, .if_icmp .lt 37, 3), (154, .iinc 5 (-1), 3), (157, .aload_n 0, 1), (158, .getfield 176, 3), (161, .iload 5, 2), (163, .iconst 1, 1), (164, .isub, 1), (165, .aload_n 0, 1), (166, .iload 7, 2), (168, .aload_n 0, 1), (169, .getfield 176, 3), (172, .iload 5, 2), (174, .iconst 1, 1), (175, .isub, 1), (176, .iaload, 1), (177, .aload_n 0, 1), (178, .getfield 176, 3), (181, .iload 5, 2), (183, .iaload, 1), (184, .invokevirtual 340, 3), (187, .iastore, 1), (188, .iinc 6 1, 3), (191, .goto (-185), 3), (194, .iload 5, 2), (196, .ifCond .gt 5, 3), (199, .iconst 0, 1), (200, .ireturn, 1), (201, .aload_n 0, 1), (202, .getfield 176, 3), (205, .iload 5, 2), (207, .iconst 1, 1), (208, .isub, 1), (209, .iaload, 1), (210, .ireturn, 1)]
theorem D31 : decs prog_1_method_40_code c31 = true := by decide +kernel
theorem d31 (k : Nat) {p : Nat} {i : Instr} {n : Nat} (h : c31[k]? = some (p, i, n)) : decode prog_1_method_40_code p = .ok (i, n) := dget D31 h
def c30 : List (Nat × Instr × Nat) := [(0, .iload_n 1, 1), (1, .ifCond .lt 10, 3), (4, .iload_n 1, 1), (5, .sipush 160, 3), (8, .if_icmp .lt 5, 3), (11, .iconst 0, 1), (12, .ireturn, 1), (13, .aload_n 0, 1), (14, .aload_n 0, 1), (15, .getfield 137, 3), (18, .iload_n 1, 1), (19, .iaload, 1), (20, .iload_n 2, 1), (21, .iload_n 3, 1), (22, .iload 4, 2), (24, .invokevirtual 333, 3), (27, .ireturn, 1)]
theorem D30 : decs prog_1_method_39_code c30 = true := by decide +kernel
theorem d30 (k : Nat) {p : Nat} {i : Instr} {n : Nat} (h : c30[k]? = some (p, i, n)) : decode prog_1_method_39_code p = .ok (i, n) := dget D30 h
def c37 : List (Nat × Instr × Nat) := [(0, .iload_n 1, 1), (1, .istore_n 2, 1), (2, .iconst 0, 1), (3, .istore_n 3, 1), (4, .iload_n 3, 1), (5, .bipush 70, 2), (7, .if_icmp .ge 84, 3), (10, .iload_n 2, 1), (11, .ifCond .lt 11, 3), (14, .iload_n 2, 1), (15, .aload_n 0, 1), (16, .getfield 259, 3), (19, .if_icmp .lt 5, 3), (22, .iconst (-1), 1), (23, .ireturn, 1), (24, .aload_n 0, 1), (25, .getfield 152, 3), (28, .iload_n 2, 1), (29, .iaload, 1), (30, .iconst (-1), 1), (31, .if_icmp .eq 10, 3), (34, .aload_n 0, 1), (35, .getfield 152, 3), (38, .iload_n 2, 1), (39, .iaload, 1), (40, .ireturn, 1), (41, .aload_n 0, 1), (42, .getfield 155, 3), (45, .iload_n 2, 1), (46, .iaload, 1), (47, .istore 4, 2), (49, .iload 4, 2), (51, .ifCond .lt 12, 3), (54, .iload 4, 2), (56, .aload_n 0, 1), (57, .getfield 259, 3), (60, .if_icmp .lt 5, 3), (63, .iconst (-1), 1), (64, .ireturn, 1), (65, .aload_n 0, 1), (66, .getfield 140, 3), (69, .iload 4, 2), (71, .iaload, 1), (72, .iconst 2, 1), (73, .if_icmp .ne 9, 3), (76, .bipush (-2), 2), (78, .iload 4, 2), (80, .isub, 1), (81, .ireturn, 1), (82, .iload 4, 2), (84, .istore_n 2, 1), (85, .iinc 3 1, 3), (88, .goto (-84), 3), (91, .iconst (-1), 1), (92, .ireturn, 1)]
theorem D37 : decs prog_1_method_43_code c37 = true := by decide +kernel
theorem d37 (k : Nat) {p : Nat} {i : Instr} {n : Nat} (h : c37[k]? = some (p, i, n)) : decode prog_1_method_43_code p = .ok (i, n) := dget D37 h
def c35 : List (Nat × Instr × Nat) := [(0, .iload_n 1, 1), (1, .ifCond .lt 11, 3), (4, .iload_n 1, 1), (5, .aload_n 0, 1), (6, .getfield 259, 3), (9, .if_icmp .lt 5, 3), (12, .iconst (-1), 1), (13, .ireturn, 1), (14, .iload_n 2, 1), (15, .ifCond .ne 12, 3), (18, .aload_n 0, 1), (19, .getfield 146, 3), (22, .iload_n 1, 1), (23, .iaload, 1), (24, .goto 9, 3), (27, .aload_n 0, 1), (28, .getfield 149, 3), (31, .iload_n 1, 1), (32, .iaload, 1), (33, .istore_n 3, 1), (34, .iload_n 3, 1), (35, .iconst (-1), 1), (36, .if_icmp .eq 5, 3), (39, .iload_n 3, 1), (40, .ireturn, 1), (41, .aload_n 0, 1), (42, .getfield 140, 3), (45, .iload_n 1, 1), (46, .iaload, 1), (47, .iconst 2, 1), (48, .if_icmp .ne 8, 3), (51, .bipush (-2), 2), (53, .iload_n 1, 1), (54, .isub, 1), (55, .ireturn, 1), (56, .aload_n 0, 1), (57, .iload_n 1, 1), (58, .invokevirtual 344, 3), (61, .ireturn, 1)]
theorem D35 : decs prog_1_method_44_code c35 = true := by decide +kernel
theorem d35 (k : Nat) {p : Nat} {i : Instr} {n : Nat} (h : c35[k]? = some (p, i, n)) : decode prog_1_method_44_code p = .ok (i, n) := dget D35 h
def c36 : List (Nat × Instr × Nat) := [(0, .iload_n 1, 1), (1, .istore 5, 2), (3, .iconst 0, 1), (4, .istore 6, 2), (6, .iload 6, 2), (8, .bipush 70, 2), (10, .if_icmp .ge 177, 3), (13, .iload 5, 2), (15, .iconst (-1), 1), (16, .if_icmp .ne 13, 3), (19, .aload_n 0, 1), (20, .iconst 1, 1), (21, .iload_n 2, 1), (22, .iload_n 3, 1), (23, .iload 4, 2), (25, .invokevirtual 216, 3), (28, .ireturn, 1), (29, .iload 5, 2), (31, .iconst (-1), 1), (32, .if_icmp .ge 21, 3), (35, .aload_n 0, 1), (36, .iconst 3, 1), (37, .iconst 2, 1), (38, .bipush (-2), 2), (40, .iload 5, 2), (42, .isub, 1), (43, .imul, 1), (44, .iadd, 1), (45, .iload_n 2, 1), (46, .iload_n 3, 1), (47, .iload 4, 2), (49, .invokevirtual 216, 3), (52, .ireturn, 1), (53, .iload 5, 2), (55, .aload_n 0, 1), (56, .getfield 259, 3), (59, .if_icmp .lt 5, 3), (62, .iconst 0, 1), (63, .ireturn, 1), (64, .aload_n 0, 1), (65, .getfield 140, 3), (68, .iload 5, 2), (70, .iaload, 1), (71, .istore 7, 2), (73, .iload 7, 2), (75, .iconst 2, 1), (76, .if_icmp .ne 18, 3), (79, .aload_n 0, 1), (80, .iconst 3, 1), (81, .iconst 2, 1), (82, .iload 5, 2), (84, .imul, 1), (85, .iadd, 1), (86, .iload_n 2, 1), (87, .iload_n 3, 1), (88, .iload 4, 2), (90, .invokevirtual 216, 3), (93, .ireturn, 1), (94, .aload_n 0, 1), (95, .iconst 2, 1), (96, .iconst 2, 1), (97, .iload 5, 2), (99, .imul, 1), (100, .iadd, 1), (101, .iload_n 2, 1), (102, .iload_n 3, 1), (103, .iload 4, 2), (105, .invokevirtual 216, 3), (108, .istore 8, 2), (110, .iload 7, 2), (112, .iconst 1, 1), (113, .if_icmp .ne 24, 3), (116, .aload_n 0, 1), (117, .iload 5, 2), (119, .iload 8, 2), (121, .ifCond .eq 7, 3), (124, .iconst 0, 1), (125, .goto 4, 3), (128, .iconst 1, 1), (129, .invokevirtual 347, 3), (132, .istore 5, 2), (134, .goto 47, 3), (137, .aload_n 0, 1), (138, .getfield 143, 3), (141, .iload 5, 2), (143, .iaload, 1), (144, .istore 9, 2), (146, .iload 9, 2), (148, .ifCond .ne 9, 3), (151, .iload 8, 2), (153, .istore_n 2, 1), (154, .goto 19, 3), (157, .iload 9, 2), (159, .iconst 1, 1), (160, .if_icmp .ne 9, 3), (163, .iload 8, 2), (165, .istore_n 3, 1), (166, .goto 7, 3), (169, .iload 8, 2), (171, .istore 4, 2), (173, .aload_n 0, 1), (174, .iload 5, 2), (176, .invokevirtual 344, 3), (179, .istore 5, 2), (181, .iinc 6 1, 3), (184, .goto (-178), 3), (187, .iconst 0, 1), (188, .ireturn, 1)]
theorem D36 : decs prog_1_method_45_code c36 = true := by decide +kernel
theorem d36 (k : Nat) {p : Nat} {i : Instr} {n : Nat} (h : c36[k]? = some (p, i, n)) : decode prog_1_method_45_code p = .ok (i, n) := dget D36 h
def c29 : List (Nat × Instr × Nat) := [(0, .iload_n 1, 1), (1, .ifCond .ne 38, 3), (4, .aload_n 0, 1), (5, .iconst 0, 1), (6, .iload_n 2, 1), (7, .iload_n 3, 1), (8, .iload 4, 2), (10, .invokevirtual 216, 3), (13, .ifCond .ne 5, 3), (16, .iconst 1, 1), (17, .ireturn, 1), (18, .aload_n 0, 1), (19, .aload_n 0, 1), (20, .getfield 228, 3), (23, .iload_n 2, 1), (24, .iload_n 3, 1), (25, .iload 4, 2), (27, .invokevirtual 351, 3), (30, .ifCond .eq 7, 3), (33, .iconst 1, 1), (34, .goto 4, 3), (37, .iconst 0, 1), (38, .ireturn, 1), (39, .iload_n 1, 1), (40, .iconst 1, 1), (41, .isub, 1), (42, .iconst 2, 1), (43, .idiv, 1), (44, .istore 5, 2), (46, .iload 5, 2), (48, .ifCond .lt 12, 3), (51, .iload 5, 2), (53, .aload_n 0, 1), (54, .getfield 206, 3), (57, .if_icmp .lt 5, 3), (60, .iconst 1, 1), (61, .ireturn, 1), (62, .aload_n 0, 1), (63, .getfield 158, 3), (66, .iload 5, 2), (68, .iaload, 1), (69, .istore 6, 2), (71, .aload_n 0, 1), (72, .iconst 3, 1), (73, .iconst 2, 1), (74, .iload 6, 2), (76, .imul, 1), (77, .iadd, 1), (78, .iload_n 2, 1), (79, .iload_n 3, 1), (80, .iload 4, 2), (82, .invokevirtual 216, 3), (85, .istore 7, 2), (87, .aload_n 0, 1), (88, .iconst 2, 1), (89, .iconst 2, 1), (90, .iload 6, 2), (92, .imul, 1), (93, .iadd, 1), (94, .iload_n 2, 1), (95, .iload_n 3, 1), (96, .iload 4, 2), (98, .invokevirtual 216, 3), (101, .istore 8, 2), (103, .iload 7, 2), (105, .ifCond .ne 5, 3), (108, .iconst 1, 1), (109, .ireturn, 1), (110, .iload_n 1, 1), (111, .iconst 1, 1), (112, .iand, 1), (113, .iconst 1, 1), (114, .if_icmp .ne 22, 3), (117, .iload 8, 2), (119, .ifCond .ne 5, 3), (122, .iconst 1, 1), (123, .ireturn, 1), (124, .aload_n 0, 1), (125, .iload 6, 2), (127, .iconst 0, 1), (128, .invokevirtual 347, 3), (131, .istore 9, 2), (133, .goto 18, 3), (136, .iload 8, 2), (138, .ifCond .eq 5, 3), (141, .iconst 1, 1), (142, .ireturn, 1), (143, .aload_n 0, 1), (144, .iload 6, 2), (146, .invokevirtual 344, 3), (149, .istore 9, 2), (151, .aload_n 0, 1), (152, .iload 9, 2), (154, .iload_n 2, 1), (155, .iload_n 3, 1), (156, .iload 4, 2), (158, .invokevirtual 351, 3), (161, .ifCond .eq 7, 3), (164, .iconst 1, 1), (165, .goto 4, 3), (168, .iconst 0, 1), (169, .ireturn, 1)]
theorem D29 : decs prog_1_method_46_code c29 = true := by decide +kernel
theorem d29 (k : Nat) {p : Nat} {i : Instr} {n : Nat} (h : c29[k]? = some (p, i, n)) : decode prog_1_method_46_code p = .ok (i, n) := dget D29 h
def c28 : List (Nat × Instr × Nat) := [(0, .aload_n 0, 1), (1, .getfield 196, 3), (4, .ifCond .ne 6, 3), (7, .bipush (-4), 2), (9, .ireturn, 1), (10, .iload_n 1, 1), (11, .ifCond .lt 15, 3), (14, .iload_n 1, 1), (15, .iconst 1, 1), (16, .iconst 2, 1), (17, .aload_n 0, 1), (18, .getfield 206, 3), (21, .imul, 1), (22, .iadd, 1), (23, .if_icmp .lt 6, 3), (26, .bipush (-5), 2), (28, .ireturn, 1), (29, .iconst 0, 1), (30, .istore_n 2, 1), (31, .iload_n 2, 1), (32, .sipush 4096, 3), (35, .if_icmp .ge 43, 3), (38, .aload_n 0, 1), (39, .iload_n 1, 1), (40, .iload_n 2, 1), (41, .bipush 8, 2), (43, .ishr, 1), (44, .bipush 15, 2), (46, .iand, 1), (47, .iload_n 2, 1), (48, .iconst 4, 1), (49, .ishr, 1), (50, .bipush 15, 2), (52, .iand, 1), (53, .iload_n 2, 1), (54, .bipush 15, 2), (56, .iand, 1), (57, .invokevirtual 209, 3), (60, .istore_n 3, 1), (61, .iload_n 3, 1), (62, .ifCond .ne 10, 3), (65, .aload_n 0, 1), (66, .iload_n 2, 1), (67, .putfield 213, 3), (70, .iconst 2, 1), (71, .ireturn, 1), (72, .iinc 2 1, 3), (75, .goto (-44), 3), (78, .aload_n 0, 1), (79, .iconst (-1), 1), (80, .putfield 213, 3), (83, .iconst 1, 1), (84, .ireturn, 1)]
theorem D28 : decs prog_1_method_9_code c28 = true := by decide +kernel
theorem d28 (k : Nat) {p : Nat} {i : Instr} {n : Nat} (h : c28[k]? = some (p, i, n)) : decode prog_1_method_9_code p = .ok (i, n) := dget D28 h
def c34 : List (Nat × Instr × Nat) := [(0, .aload_n 0, 1), (1, .getfield 213, 3), (4, .ireturn, 1)]
theorem D34 : decs prog_1_method_10_code c34 = true := by decide +kernel
theorem d34 (k : Nat) {p : Nat} {i : Instr} {n : Nat} (h : c34[k]? = some (p, i, n)) : decode prog_1_method_10_code p = .ok (i, n) := dget D34 h
def c39 : List (Nat × Instr × Nat) := [(0, .iload_n 1, 1), (1, .ifCond .lt 11, 3), (4, .iload_n 1, 1), (5, .aload_n 0, 1), (6, .getfield 259, 3), (9, .if_icmp .lt 5, 3), (12, .iconst (-1), 1), (13, .ireturn, 1), (14, .aload_n 0, 1), (15, .getfield 140, 3), (18, .iload_n 1, 1), (19, .iaload, 1), (20, .istore_n 2, 1), (21, .aload_n 0, 1), (22, .iconst 2, 1), (23, .iconst 2, 1), (24, .iload_n 1, 1), (25, .imul, 1), (26, .iadd, 1), (27, .aload_n 0, 1), (28, .getfield 219, 3), (31, .aload_n 0, 1), (32, .getfield 222, 3), (35, .aload_n 0, 1), (36, .getfield 225, 3), (39, .invokevirtual 216, 3), (42, .istore_n 3, 1), (43, .iload_n 2, 1), (44, .ifCond .ne 49, 3), (47, .aload_n 0, 1), (48, .getfield 143, 3), (51, .iload_n 1, 1), (52, .iaload, 1), (53, .istore 4, 2), (55, .iload 4, 2), (57, .ifCond .ne 11, 3), (60, .aload_n 0, 1), (61, .iload_n 3, 1), (62, .putfield 219, 3), (65, .goto 22, 3), (68, .iload 4, 2), (70, .iconst 1, 1), (71, .if_icmp .ne 11, 3), (74, .aload_n 0, 1), (75, .iload_n 3, 1), (76, .putfield 222, 3), (79, .goto 8, 3), (82, .aload_n 0, 1), (83, .iload_n 3, 1), (84, .putfield 225, 3), (87, .aload_n 0, 1), (88, .iload_n 1, 1), (89, .invokevirtual 344, 3), (92, .ireturn, 1), (93, .iload_n 2, 1), (94, .iconst 1, 1), (95, .if_icmp .ne 18, 3), (98, .aload_n 0, 1), (99, .iload_n 1, 1), (100, .iload_n 3, 1), (101, .ifCond .eq 7, 3), (104, .iconst 0, 1), (105, .goto 4, 3), (108, .iconst 1, 1), (109, .invokevirtual 347, 3), (112, .ireturn, 1), (113, .iload_n 3, 1), (114, .ifCond .eq 10, 3), (117, .aload_n 0, 1), (118, .iload_n 1, 1), (119, .iconst 0, 1), (120, .invokevirtual 347, 3), (123, .ireturn, 1), (124, .aload_n 0, 1), (125, .iload_n 1, 1), (126, .invokevirtual 344, 3), (129, .ireturn, 1)]
theorem D39 : decs prog_1_method_47_code c39 = true := by decide +kernel
theorem d39 (k : Nat) {p : Nat} {i : Instr} {n : Nat} (h : c39[k]? = some (p, i, n)) : decode prog_1_method_47_code p = .ok (i, n) := dget D39 h
def c38 : List (Nat × Instr × Nat) := [(0, .aload_n 0, 1), (1, .getfield 196, 3), (4, .ifCond .ne 6, 3), (7, .bipush (-4), 2), (9, .ireturn, 1), (10, .iload 4, 2), (12, .istore 5, 2), (14, .iload 5, 2), (16, .ifCond .ge 6, 3), (19, .iconst 0, 1), (20, .istore 5, 2), (22, .iload 5, 2), (24, .sipush 4096, 3), (27, .if_icmp .le 8, 3), (30, .sipush 4096, 3), (33, .istore 5, 2), (35, .aload_n 0, 1), (36, .iload_n 1, 1), (37, .bipush 15, 2), (39, .iand, 1), (40, .putfield 219, 3), (43, .aload_n 0, 1), (44, .iload_n 2, 1), (45, .bipush 15, 2), (47, .iand, 1), (48, .putfield 222, 3), (51, .aload_n 0, 1), (52, .iload_n 3, 1), (53, .bipush 15, 2), (55, .iand, 1), (56, .putfield 225, 3), (59, .iconst 0, 1), (60, .istore 6, 2), (62, .aload_n 0, 1), (63, .getfield 228, 3), (66, .istore 7, 2), (68, .iconst 4, 1), (69, .istore 8, 2), (71, .iconst 0, 1), (72, .istore 9, 2), (74, .iload 9, 2), (76, .sipush 9000, 3), (79, .if_icmp .ge 61, 3), (82, .iload 7, 2), (84, .iconst (-1), 1), (85, .if_icmp .ne 9, 3), (88, .iconst 3, 1), (89, .istore 8, 2), (91, .goto 49, 3), (94, .iload 7, 2), (96, .iconst (-1), 1), (97, .if_icmp .ge 13, 3), (100, .bipush (-2), 2), (102, .iload 7, 2), (104, .isub, 1), (105, .istore 7, 2), (107, .goto 27, 3), (110, .iload 6, 2), (112, .iload 5, 2), (114, .if_icmp .ne 9, 3), (117, .iconst 4, 1), (118, .istore 8, 2), (120, .goto 20, 3), (123, .iinc 6 1, 3), (126, .aload_n 0, 1), (127, .iload 7, 2), (129, .invokevirtual 231, 3), (132, .istore 7, 2), (134, .iinc 9 1, 3), (137, .goto (-63), 3), (140, .aload_n 0, 1), (141, .iconst 1, 1), (142, .putfield 235, 3), (145, .aload_n 0, 1), (146, .aload_n 0, 1), (147, .getfield 219, 3), (150, .putfield 238, 3), (153, .aload_n 0, 1), (154, .aload_n 0, 1), (155, .getfield 222, 3), (158, .putfield 241, 3), (161, .aload_n 0, 1), (162, .aload_n 0, 1), (163, .getfield 225, 3), (166, .putfield 244, 3), (169, .aload_n 0, 1), (170, .iload 6, 2), (172, .putfield 247, 3), (175, .iload 8, 2), (177, .ireturn, 1)]
theorem D38 : decs prog_1_method_13_code c38 = true := by decide +kernel
theorem d38 (k : Nat) {p : Nat} {i : Instr} {n : Nat} (h : c38[k]? = some (p, i, n)) : decode prog_1_method_13_code p = .ok (i, n) := dget D38 h
def c40 : List (Nat × Instr × Nat) := [(0, .aload_n 0, 1), (1, .getfield 235, 3), (4, .ifCond .ne 5, 3), (7, .iconst (-1), 1), (8, .ireturn, 1), (9, .aload_n 0, 1), (10, .getfield 247, 3), (13, .ireturn, 1)]
theorem D40 : decs prog_1_method_15_code c40 = true := by decide +kernel
theorem d40 (k : Nat) {p : Nat} {i : Instr} {n : Nat} (h : c40[k]? = some (p, i, n)) : decode prog_1_method_15_code p = .ok (i, n) := dget D40 h
def c41 : List (Nat × Instr × Nat) := [(0, .aload_n 0, 1), (1, .getfield 235, 3), (4, .ifCond .eq 12, 3), (7, .iload_n 1, 1), (8, .ifCond .lt 8, 3), (11, .iload_n 1, 1), (12, .iconst 2, 1), (13, .if_icmp .le 5, 3), (16, .iconst (-1), 1), (17, .ireturn, 1), (18, .iload_n 1, 1), (19, .ifCond .ne 8, 3), (22, .aload_n 0, 1), (23, .getfield 238, 3), (26, .ireturn, 1), (27, .iload_n 1, 1), (28, .iconst 1, 1), (29, .if_icmp .ne 8, 3), (32, .aload_n 0, 1), (33, .getfield 241, 3), (36, .ireturn, 1), (37, .aload_n 0, 1), (38, .getfield 244, 3), (41, .ireturn, 1)]
theorem D41 : decs prog_1_method_14_code c41 = true := by decide +kernel
theorem d41 (k : Nat) {p : Nat} {i : Instr} {n : Nat} (h : c41[k]? = some (p, i, n)) : decode prog_1_method_14_code p = .ok (i, n) := dget D41 h
def H0 : MHeap := []
def KL (s : St) : MHeap := KH flds al Ln H0 [] s
def f_hdig (a0 : Int32) : Option (Int32) :=
  some (((a0 % (10 : Int32)) + (10 : Int32)) % (10 : Int32))
set_option maxRecDepth 100000 in
theorem e_hdig {g : GT} {a0 : Int32} {w : Int32} (hw : HW g) {h : MHeap} (hr : f_hdig a0 = some w) : EvC (GG g) M_hdig [.int a0] h ((some (.int w)), h) := by
  refine EvC.enter (L0 := [.val (.int a0)]) pl_hdig (fun h => nomatch h) rfl rfl ?_
  unfold f_hdig at hr
  refine Ev.iloadN (d0 0 rfl) rfl ?_
  refine Ev.bipush (z := 10) (d0 1 rfl) rfl ?_
  refine Ev.irem (d0 2 rfl) (by decide) ?_
  refine Ev.bipush (z := 10) (d0 3 rfl) rfl ?_
  refine Ev.iadd (d0 4 rfl) ?_
  refine Ev.bipush (z := 10) (d0 5 rfl) rfl ?_
  refine Ev.irem (d0 6 rfl) (by decide) ?_
  cases hr
  exact Ev.ireturn rfl (d0 7 rfl)
def f_clearResults (s : St) : Option (St) :=
  bnd (setI s 58 ((0 : Int32) &&& 1)) fun s1 =>
  bnd (setI s1 59 (-1 : Int32)) fun s2 =>
  bnd (setI s2 60 (-1 : Int32)) fun s3 =>
  bnd (setI s3 61 ((0 : Int32) &&& 1)) fun s4 =>
  some s4
set_option maxRecDepth 100000 in
theorem e_clearResults {g : GT} {s : St} {w : St} (hw : HW g) {K : St → MHeap} {o : Nat} {r : Nat → Nat} (V : View (GG g) Ln K o r) (hr : f_clearResults s = some w) : EvC (GG g) M_clearResults [.ref o] (K s) (none, (K w)) := by
  refine EvC.enter (L0 := [.val (.ref o)]) pl_clearResults (fun _ => rfl) rfl rfl ?_
  unfold f_clearResults at hr
  refine Ev.aloadN (d3 0 rfl) rfl ?_
  refine Ev.iconst (z := 0) (d3 1 rfl) rfl ?_
  refine Ev.pZ V (gok hw) (ww hw 134 rfl) (Or.inl (ww hw 135 rfl)) (d3 2 rfl) (j := 58) rfl ?_
  revert hr
  generalize setI s 58 ((0 : Int32) &&& 1) = s1
  intro hr
  replace hr := (bnd_eq _ _).symm.trans hr
  refine Ev.aloadN (d3 3 rfl) rfl ?_
  refine Ev.iconst (z := -1) (d3 4 rfl) rfl ?_
  refine Ev.pI V (gok hw) (ww hw 136 rfl) (Or.inl (ww hw 137 rfl)) (d3 5 rfl) (j := 59) rfl ?_
  revert hr
  generalize setI s1 59 (-1 : Int32) = s2
  intro hr
  replace hr := (bnd_eq _ _).symm.trans hr
  refine Ev.aloadN (d3 6 rfl) rfl ?_
  refine Ev.iconst (z := -1) (d3 7 rfl) rfl ?_
  refine Ev.pI V (gok hw) (ww hw 138 rfl) (Or.inl (ww hw 139 rfl)) (d3 8 rfl) (j := 60) rfl ?_
  revert hr
  generalize setI s2 60 (-1 : Int32) = s3
  intro hr
  replace hr := (bnd_eq _ _).symm.trans hr
  refine Ev.aloadN (d3 9 rfl) rfl ?_
  refine Ev.iconst (z := 0) (d3 10 rfl) rfl ?_
  refine Ev.pZ V (gok hw) (ww hw 140 rfl) (Or.inl (ww hw 141 rfl)) (d3 11 rfl) (j := 61) rfl ?_
  revert hr
  generalize setI s3 61 ((0 : Int32) &&& 1) = s4
  intro hr
  replace hr := (bnd_eq _ _).symm.trans hr
  cases hr
  exact Ev.vreturn rfl (d3 12 rfl)
def f_ctor_392 (x2 : Int32) (s : St) : Option (St) :=
  bnd (setI s 56 x2) fun s1 =>
  bnd (setI s1 57 (0 : Int32)) fun s2 =>
  (f_clearResults s2).bind fun q3 =>
  some q3
set_option maxRecDepth 100000 in
theorem e_ctor_392 {g : GT} (hw : HW g) {K : St → MHeap} {o : Nat} {r : Nat → Nat} (V : View (GG g) Ln K o r) (x2 : Int32) (s : St) (y1 : Slot) (hy1 : one1 y1 = true) (w : St) (hr : f_ctor_392 x2 s = some w) : Ev (GG g) M_ctor 392 [.val (.ref o), y1, .val (.int x2)] [] (K s) (none, (K w)) := by
  unfold f_ctor_392 at hr
  refine Ev.aloadN (d1 199 rfl) rfl ?_
  refine Ev.iloadN (d1 200 rfl) rfl ?_
  refine Ev.pI V (gok hw) (ww hw 126 rfl) (Or.inl (ww hw 127 rfl)) (d1 201 rfl) (j := 56) rfl ?_
  revert hr
  generalize setI s 56 x2 = s1
  intro hr
  replace hr := (bnd_eq _ _).symm.trans hr
  refine Ev.aloadN (d1 202 rfl) rfl ?_
  refine Ev.iconst (z := 0) (d1 203 rfl) rfl ?_
  refine Ev.pI V (gok hw) (ww hw 128 rfl) (Or.inl (ww hw 129 rfl)) (d1 204 rfl) (j := 57) rfl ?_
  revert hr
  generalize setI s1 57 (0 : Int32) = s2
  intro hr
  replace hr := (bnd_eq _ _).symm.trans hr
  refine Ev.aloadN (d1 205 rfl) rfl ?_
  obtain ⟨q3, hq4, hr⟩ := Option.bind_eq_some_iff.mp hr
  refine Ev.priv (y := M_clearResults) (args := []) (rest := []) (gok hw) rfl nm_clearResults (ww hw 130 rfl) (ww hw 131 rfl) (ww hw 132 rfl) (ww hw 133 rfl) (lenOf pd_clearResults rfl) (d1 206 rfl) (V.2.1 s2) (e_clearResults hw V hq4) (by decide) (Nat.le_of_ble_eq_true rfl) rfl ?_
  cases hr
  exact Ev.vreturn rfl (d1 207 rfl)
def f_ctor_381 (x2 : Int32) (s : St) : Option (St) :=
  if (128 : Int32) < x2 then
    f_ctor_392 (128 : Int32) s
  else
    f_ctor_392 x2 s
set_option maxRecDepth 100000 in
theorem e_ctor_381 {g : GT} (hw : HW g) {K : St → MHeap} {o : Nat} {r : Nat → Nat} (V : View (GG g) Ln K o r) (x2 : Int32) (s : St) (y1 : Slot) (hy1 : one1 y1 = true) (w : St) (hr : f_ctor_381 x2 s = some w) : Ev (GG g) M_ctor 381 [.val (.ref o), y1, .val (.int x2)] [] (K s) (none, (K w)) := by
  unfold f_ctor_381 at hr
  refine Ev.iloadN (d1 194 rfl) rfl ?_
  refine Ev.sipush (z := 128) (d1 195 rfl) rfl ?_
  refine Ev.icle (t := 392) (d1 196 rfl) rfl (fun c1 => ?_) (fun c1 => ?_)
  · replace hr := (if_pos c1).symm.trans hr
    refine Ev.sipush (z := 128) (d1 197 rfl) rfl ?_
    refine Ev.istDN (L' := [.val (.ref o), y1, .val (.int (128 : Int32))]) (d1 198 rfl) rfl rfl rfl ?_
    exact e_ctor_392 hw V  (128 : Int32) s y1 hy1 _ hr
  · replace hr := (if_neg c1).symm.trans hr
    exact e_ctor_392 hw V  x2 s y1 hy1 _ hr
def f_ctor_370 (x1 : Int32) (s : St) : Option (St) :=
  if x1 < (8 : Int32) then
    f_ctor_381 (8 : Int32) s
  else
    f_ctor_381 x1 s
set_option maxRecDepth 100000 in
theorem e_ctor_370 {g : GT} (hw : HW g) {K : St → MHeap} {o : Nat} {r : Nat → Nat} (V : View (GG g) Ln K o r) (x1 : Int32) (s : St) (y2 : Slot) (hy2 : one1 y2 = true) (w : St) (hr : f_ctor_370 x1 s = some w) : Ev (GG g) M_ctor 370 [.val (.ref o), .val (.int x1), y2] [] (K s) (none, (K w)) := by
  unfold f_ctor_370 at hr
  refine Ev.iloadN (d1 187 rfl) rfl ?_
  refine Ev.istDN (L' := [.val (.ref o), .val (.int x1), .val (.int x1)]) (d1 188 rfl) rfl hy2 rfl ?_
  refine Ev.iloadN (d1 189 rfl) rfl ?_
  refine Ev.bipush (z := 8) (d1 190 rfl) rfl ?_
  refine Ev.icge (t := 381) (d1 191 rfl) rfl (fun c1 => ?_) (fun c1 => ?_)
  · replace hr := (if_pos c1).symm.trans hr
    refine Ev.bipush (z := 8) (d1 192 rfl) rfl ?_
    refine Ev.istDN (L' := [.val (.ref o), .val (.int x1), .val (.int (8 : Int32))]) (d1 193 rfl) rfl rfl rfl ?_
    exact e_ctor_381 hw V  (8 : Int32) s (.val (.int x1)) rfl _ hr
  · replace hr := (if_neg c1).symm.trans hr
    exact e_ctor_381 hw V  x1 s (.val (.int x1)) rfl _ hr
def f_ctor (a0 : Int32) : Option (St) :=
  f_ctor_370 a0 (setI (setI (setI (setI (setI (setI (setI (setI (setI (setI (setI (setI (setI (setI (setI (setI (setI (setI (setI (setI (setI (setI (setI (setI (setI (setI (setI (setI (setI (setI (setI (setI (setI (setI (setI (setI (setI (setI (setI zeroS 0 (0 : Int32)) 1 (1 : Int32)) 2 (2 : Int32)) 3 (3 : Int32)) 4 (4 : Int32)) 5 (5 : Int32)) 6 (6 : Int32)) 7 (7 : Int32)) 8 (8 : Int32)) 9 (9 : Int32)) 10 (10 : Int32)) 11 (11 : Int32)) 12 (12 : Int32)) 13 (0 : Int32)) 14 (1 : Int32)) 15 (2 : Int32)) 16 (1 : Int32)) 17 (2 : Int32)) 18 (3 : Int32)) 19 (4 : Int32)) 20 (5 : Int32)) 21 (6 : Int32)) 22 (7 : Int32)) 23 (8 : Int32)) 24 (9 : Int32)) 25 (10 : Int32)) 26 (11 : Int32)) 27 (12 : Int32)) 28 (13 : Int32)) 29 (14 : Int32)) 30 (15 : Int32)) 31 (16 : Int32)) 32 (17 : Int32)) 33 (18 : Int32)) 34 (19 : Int32)) 35 (64 : Int32)) 36 (160 : Int32)) 37 (512 : Int32)) 38 (1024 : Int32))
set_option maxRecDepth 100000 in
theorem e_ctor {g : GT} {a0 : Int32} {w : St} (hw : HW g) {pre : MHeap} (hk : k0 (GG g) ≤ pre.length) (hr : f_ctor a0 = some w) : EvC (GG g) M_ctor [.ref pre.length, .int a0] (pre ++ [.inl dfl]) (none, KH flds al Ln pre [] w) := by
  refine EvC.enter (L0 := [.val (.ref pre.length), .val (.int a0), .unset]) pl_ctor (fun _ => rfl) rfl rfl ?_
  unfold f_ctor at hr
  refine Ev.aloadN (d1 0 rfl) rfl ?_
  refine Ev.initO (ww hw 10 rfl) (ww hw 11 rfl) (ww hw 12 rfl) (d1 1 rfl) (by decide) (Nat.le_of_ble_eq_true rfl) ?_
  show Ev (GG g) M_ctor 4 _ _ (cons pre dfl []) _
  refine Ev.aloadN (d1 2 rfl) rfl ?_
  refine Ev.iconst (z := 0) (d1 3 rfl) rfl ?_
  refine Ev.cput (v' := .int (0 : Int32)) (fs' := [.int (0 : Int32), .int 0, .int 0, .int 0, .int 0, .int 0, .int 0, .int 0, .int 0, .int 0, .int 0, .int 0, .int 0, .int 0, .int 0, .int 0, .int 0, .int 0, .int 0, .int 0, .int 0, .int 0, .int 0, .int 0, .int 0, .int 0, .int 0, .int 0, .int 0, .int 0, .int 0, .int 0, .int 0, .int 0, .int 0, .int 0, .int 0, .int 0, .int 0, .null, .null, .null, .null, .null, .null, .null, .null, .null, .null, .null, .null, .null, .null, .null, .null, .null, .int 0, .int 0, .int 0, .int 0, .int 0, .int 0, .int 0, .int 0, .int 0, .int 0, .int 0, .int 0, .int 0, .int 0, .int 0, .int 0, .int 0, .int 0, .int 0, .int 0, .int 0, .int 0]) (gok hw) hk (ww hw 13 rfl) (Or.inr ⟨ww hw 14 rfl, rfl, rfl⟩) (d1 4 rfl) (j := 0) rfl rfl rfl ?_
  refine Ev.aloadN (d1 5 rfl) rfl ?_
  refine Ev.iconst (z := 1) (d1 6 rfl) rfl ?_
  refine Ev.cput (v' := .int (1 : Int32)) (fs' := [.int (0 : Int32), .int (1 : Int32), .int 0, .int 0, .int 0, .int 0, .int 0, .int 0, .int 0, .int 0, .int 0, .int 0, .int 0, .int 0, .int 0, .int 0, .int 0, .int 0, .int 0, .int 0, .int 0, .int 0, .int 0, .int 0, .int 0, .int 0, .int 0, .int 0, .int 0, .int 0, .int 0, .int 0, .int 0, .int 0, .int 0, .int 0, .int 0, .int 0, .int 0, .null, .null, .null, .null, .null, .null, .null, .null, .null, .null, .null, .null, .null, .null, .null, .null, .null, .int 0, .int 0, .int 0, .int 0, .int 0, .int 0, .int 0, .int 0, .int 0, .int 0, .int 0, .int 0, .int 0, .int 0, .int 0, .int 0, .int 0, .int 0, .int 0, .int 0, .int 0, .int 0]) (gok hw) hk (ww hw 15 rfl) (Or.inr ⟨ww hw 16 rfl, rfl, rfl⟩) (d1 7 rfl) (j := 1) rfl rfl rfl ?_
  refine Ev.aloadN (d1 8 rfl) rfl ?_
  refine Ev.iconst (z := 2) (d1 9 rfl) rfl ?_
  refine Ev.cput (v' := .int (2 : Int32)) (fs' := [.int (0 : Int32), .int (1 : Int32), .int (2 : Int32), .int 0, .int 0, .int 0, .int 0, .int 0, .int 0, .int 0, .int 0, .int 0, .int 0, .int 0, .int 0, .int 0, .int 0, .int 0, .int 0, .int 0, .int 0, .int 0, .int 0, .int 0, .int 0, .int 0, .int 0, .int 0, .int 0, .int 0, .int 0, .int 0, .int 0, .int 0, .int 0, .int 0, .int 0, .int 0, .int 0, .null, .null, .null, .null, .null, .null, .null, .null, .null, .null, .null, .null, .null, .null, .null, .null, .null, .int 0, .int 0, .int 0, .int 0, .int 0, .int 0, .int 0, .int 0, .int 0, .int 0, .int 0, .int 0, .int 0, .int 0, .int 0, .int 0, .int 0, .int 0, .int 0, .int 0, .int 0, .int 0]) (gok hw) hk (ww hw 17 rfl) (Or.inr ⟨ww hw 18 rfl, rfl, rfl⟩) (d1 10 rfl) (j := 2) rfl rfl rfl ?_
  refine Ev.aloadN (d1 11 rfl) rfl ?_
  refine Ev.iconst (z := 3) (d1 12 rfl) rfl ?_
  refine Ev.cput (v' := .int (3 : Int32)) (fs' := [.int (0 : Int32), .int (1 : Int32), .int (2 : Int32), .int (3 : Int32), .int 0, .int 0, .int 0, .int 0, .int 0, .int 0, .int 0, .int 0, .int 0, .int 0, .int 0, .int 0, .int 0, .int 0, .int 0, .int 0, .int 0, .int 0, .int 0, .int 0, .int 0, .int 0, .int 0, .int 0, .int 0, .int 0, .int 0, .int 0, .int 0, .int 0, .int 0, .int 0, .int 0, .int 0, .int 0, .null, .null, .null, .null, .null, .null, .null, .null, .null, .null, .null, .null, .null, .null, .null, .null, .null, .int 0, .int 0, .int 0, .int 0, .int 0, .int 0, .int 0, .int 0, .int 0, .int 0, .int 0, .int 0, .int 0, .int 0, .int 0, .int 0, .int 0, .int 0, .int 0, .int 0, .int 0, .int 0]) (gok hw) hk (ww hw 19 rfl) (Or.inr ⟨ww hw 20 rfl, rfl, rfl⟩) (d1 13 rfl) (j := 3) rfl rfl rfl ?_
  refine Ev.aloadN (d1 14 rfl) rfl ?_
  refine Ev.iconst (z := 4) (d1 15 rfl) rfl ?_
  refine Ev.cput (v' := .int (4 : Int32)) (fs' := [.int (0 : Int32), .int (1 : Int32), .int (2 : Int32), .int (3 : Int32), .int (4 : Int32), .int 0, .int 0, .int 0, .int 0, .int 0, .int 0, .int 0, .int 0, .int 0, .int 0, .int 0, .int 0, .int 0, .int 0, .int 0, .int 0, .int 0, .int 0, .int 0, .int 0, .int 0, .int 0, .int 0, .int 0, .int 0, .int 0, .int 0, .int 0, .int 0, .int 0, .int 0, .int 0, .int 0, .int 0, .null, .null, .null, .null, .null, .null, .null, .null, .null, .null, .null, .null, .null, .null, .null, .null, .null, .int 0, .int 0, .int 0, .int 0, .int 0, .int 0, .int 0, .int 0, .int 0, .int 0, .int 0, .int 0, .int 0, .int 0, .int 0, .int 0, .int 0, .int 0, .int 0, .int 0, .int 0, .int 0]) (gok hw) hk (ww hw 21 rfl) (Or.inr ⟨ww hw 22 rfl, rfl, rfl⟩) (d1 16 rfl) (j := 4) rfl rfl rfl ?_
  refine Ev.aloadN (d1 17 rfl) rfl ?_
  refine Ev.iconst (z := 5) (d1 18 rfl) rfl ?_
  refine Ev.cput (v' := .int (5 : Int32)) (fs' := [.int (0 : Int32), .int (1 : Int32), .int (2 : Int32), .int (3 : Int32), .int (4 : Int32), .int (5 : Int32), .int 0, .int 0, .int 0, .int 0, .int 0, .int 0, .int 0, .int 0, .int 0, .int 0, .int 0, .int 0, .int 0, .int 0, .int 0, .int 0, .int 0, .int 0, .int 0, .int 0, .int 0, .int 0, .int 0, .int 0, .int 0, .int 0, .int 0, .int 0, .int 0, .int 0, .int 0, .int 0, .int 0, .null, .null, .null, .null, .null, .null, .null, .null, .null, .null, .null, .null, .null, .null, .null, .null, .null, .int 0, .int 0, .int 0, .int 0, .int 0, .int 0, .int 0, .int 0, .int 0, .int 0, .int 0, .int 0, .int 0, .int 0, .int 0, .int 0, .int 0, .int 0, .int 0, .int 0, .int 0, .int 0]) (gok hw) hk (ww hw 23 rfl) (Or.inr ⟨ww hw 24 rfl, rfl, rfl⟩) (d1 19 rfl) (j := 5) rfl rfl rfl ?_
  refine Ev.aloadN (d1 20 rfl) rfl ?_
  refine Ev.bipush (z := 6) (d1 21 rfl) rfl ?_
  refine Ev.cput (v' := .int (6 : Int32)) (fs' := [.int (0 : Int32), .int (1 : Int32), .int (2 : Int32), .int (3 : Int32), .int (4 : Int32), .int (5 : Int32), .int (6 : Int32), .int 0, .int 0, .int 0, .int 0, .int 0, .int 0, .int 0, .int 0, .int 0, .int 0, .int 0, .int 0, .int 0, .int 0, .int 0, .int 0, .int 0, .int 0, .int 0, .int 0, .int 0, .int 0, .int 0, .int 0, .int 0, .int 0, .int 0, .int 0, .int 0, .int 0, .int 0, .int 0, .null, .null, .null, .null, .null, .null, .null, .null, .null, .null, .null, .null, .null, .null, .null, .null, .null, .int 0, .int 0, .int 0, .int 0, .int 0, .int 0, .int 0, .int 0, .int 0, .int 0, .int 0, .int 0, .int 0, .int 0, .int 0, .int 0, .int 0, .int 0, .int 0, .int 0, .int 0, .int 0]) (gok hw) hk (ww hw 25 rfl) (Or.inr ⟨ww hw 26 rfl, rfl, rfl⟩) (d1 22 rfl) (j := 6) rfl rfl rfl ?_
  refine Ev.aloadN (d1 23 rfl) rfl ?_
  refine Ev.bipush (z := 7) (d1 24 rfl) rfl ?_
  refine Ev.cput (v' := .int (7 : Int32)) (fs' := [.int (0 : Int32), .int (1 : Int32), .int (2 : Int32), .int (3 : Int32), .int (4 : Int32), .int (5 : Int32), .int (6 : Int32), .int (7 : Int32), .int 0, .int 0, .int 0, .int 0, .int 0, .int 0, .int 0, .int 0, .int 0, .int 0, .int 0, .int 0, .int 0, .int 0, .int 0, .int 0, .int 0, .int 0, .int 0, .int 0, .int 0, .int 0, .int 0, .int 0, .int 0, .int 0, .int 0, .int 0, .int 0, .int 0, .int 0, .null, .null, .null, .null, .null, .null, .null, .null, .null, .null, .null, .null, .null, .null, .null, .null, .null, .int 0, .int 0, .int 0, .int 0, .int 0, .int 0, .int 0, .int 0, .int 0, .int 0, .int 0, .int 0, .int 0, .int 0, .int 0, .int 0, .int 0, .int 0, .int 0, .int 0, .int 0, .int 0]) (gok hw) hk (ww hw 27 rfl) (Or.inr ⟨ww hw 28 rfl, rfl, rfl⟩) (d1 25 rfl) (j := 7) rfl rfl rfl ?_
  refine Ev.aloadN (d1 26 rfl) rfl ?_
  refine Ev.bipush (z := 8) (d1 27 rfl) rfl ?_
  refine Ev.cput (v' := .int (8 : Int32)) (fs' := [.int (0 : Int32), .int (1 : Int32), .int (2 : Int32), .int (3 : Int32), .int (4 : Int32), .int (5 : Int32), .int (6 : Int32), .int (7 : Int32), .int (8 : Int32), .int 0, .int 0, .int 0, .int 0, .int 0, .int 0, .int 0, .int 0, .int 0, .int 0, .int 0, .int 0, .int 0, .int 0, .int 0, .int 0, .int 0, .int 0, .int 0, .int 0, .int 0, .int 0, .int 0, .int 0, .int 0, .int 0, .int 0, .int 0, .int 0, .int 0, .null, .null, .null, .null, .null, .null, .null, .null, .null, .null, .null, .null, .null, .null, .null, .null, .null, .int 0, .int 0, .int 0, .int 0, .int 0, .int 0, .int 0, .int 0, .int 0, .int 0, .int 0, .int 0, .int 0, .int 0, .int 0, .int 0, .int 0, .int 0, .int 0, .int 0, .int 0, .int 0]) (gok hw) hk (ww hw 29 rfl) (Or.inr ⟨ww hw 30 rfl, rfl, rfl⟩) (d1 28 rfl) (j := 8) rfl rfl rfl ?_
  refine Ev.aloadN (d1 29 rfl) rfl ?_
  refine Ev.bipush (z := 9) (d1 30 rfl) rfl ?_
  refine Ev.cput (v' := .int (9 : Int32)) (fs' := [.int (0 : Int32), .int (1 : Int32), .int (2 : Int32), .int (3 : Int32), .int (4 : Int32), .int (5 : Int32), .int (6 : Int32), .int (7 : Int32), .int (8 : Int32), .int (9 : Int32), .int 0, .int 0, .int 0, .int 0, .int 0, .int 0, .int 0, .int 0, .int 0, .int 0, .int 0, .int 0, .int 0, .int 0, .int 0, .int 0, .int 0, .int 0, .int 0, .int 0, .int 0, .int 0, .int 0, .int 0, .int 0, .int 0, .int 0, .int 0, .int 0, .null, .null, .null, .null, .null, .null, .null, .null, .null, .null, .null, .null, .null, .null, .null, .null, .null, .int 0, .int 0, .int 0, .int 0, .int 0, .int 0, .int 0, .int 0, .int 0, .int 0, .int 0, .int 0, .int 0, .int 0, .int 0, .int 0, .int 0, .int 0, .int 0, .int 0, .int 0, .int 0]) (gok hw) hk (ww hw 31 rfl) (Or.inr ⟨ww hw 32 rfl, rfl, rfl⟩) (d1 31 rfl) (j := 9) rfl rfl rfl ?_
  refine Ev.aloadN (d1 32 rfl) rfl ?_
  refine Ev.bipush (z := 10) (d1 33 rfl) rfl ?_
  refine Ev.cput (v' := .int (10 : Int32)) (fs' := [.int (0 : Int32), .int (1 : Int32), .int (2 : Int32), .int (3 : Int32), .int (4 : Int32), .int (5 : Int32), .int (6 : Int32), .int (7 : Int32), .int (8 : Int32), .int (9 : Int32), .int (10 : Int32), .int 0, .int 0, .int 0, .int 0, .int 0, .int 0, .int 0, .int 0, .int 0, .int 0, .int 0, .int 0, .int 0, .int 0, .int 0, .int 0, .int 0, .int 0, .int 0, .int 0, .int 0, .int 0, .int 0, .int 0, .int 0, .int 0, .int 0, .int 0, .null, .null, .null, .null, .null, .null, .null, .null, .null, .null, .null, .null, .null, .null, .null, .null, .null, .int 0, .int 0, .int 0, .int 0, .int 0, .int 0, .int 0, .int 0, .int 0, .int 0, .int 0, .int 0, .int 0, .int 0, .int 0, .int 0, .int 0, .int 0, .int 0, .int 0, .int 0, .int 0]) (gok hw) hk (ww hw 33 rfl) (Or.inr ⟨ww hw 34 rfl, rfl, rfl⟩) (d1 34 rfl) (j := 10) rfl rfl rfl ?_
  refine Ev.aloadN (d1 35 rfl) rfl ?_
  refine Ev.bipush (z := 11) (d1 36 rfl) rfl ?_
  refine Ev.cput (v' := .int (11 : Int32)) (fs' := [.int (0 : Int32), .int (1 : Int32), .int (2 : Int32), .int (3 : Int32), .int (4 : Int32), .int (5 : Int32), .int (6 : Int32), .int (7 : Int32), .int (8 : Int32), .int (9 : Int32), .int (10 : Int32), .int (11 : Int32), .int 0, .int 0, .int 0, .int 0, .int 0, .int 0, .int 0, .int 0, .int 0, .int 0, .int 0, .int 0, .int 0, .int 0, .int 0, .int 0, .int 0, .int 0, .int 0, .int 0, .int 0, .int 0, .int 0, .int 0, .int 0, .int 0, .int 0, .null, .null, .null, .null, .null, .null, .null, .null, .null, .null, .null, .null, .null, .null, .null, .null, .null, .int 0, .int 0, .int 0, .int 0, .int 0, .int 0, .int 0, .int 0, .int 0, .int 0, .int 0, .int 0, .int 0, .int 0, .int 0, .int 0, .int 0, .int 0, .int 0, .int 0, .int 0, .int 0]) (gok hw) hk (ww hw 35 rfl) (Or.inr ⟨ww hw 36 rfl, rfl, rfl⟩) (d1 37 rfl) (j := 11) rfl rfl rfl ?_
  refine Ev.aloadN (d1 38 rfl) rfl ?_
  refine Ev.bipush (z := 12) (d1 39 rfl) rfl ?_
  refine Ev.cput (v' := .int (12 : Int32)) (fs' := [.int (0 : Int32), .int (1 : Int32), .int (2 : Int32), .int (3 : Int32), .int (4 : Int32), .int (5 : Int32), .int (6 : Int32), .int (7 : Int32), .int (8 : Int32), .int (9 : Int32), .int (10 : Int32), .int (11 : Int32), .int (12 : Int32), .int 0, .int 0, .int 0, .int 0, .int 0, .int 0, .int 0, .int 0, .int 0, .int 0, .int 0, .int 0, .int 0, .int 0, .int 0, .int 0, .int 0, .int 0, .int 0, .int 0, .int 0, .int 0, .int 0, .int 0, .int 0, .int 0, .null, .null, .null, .null, .null, .null, .null, .null, .null, .null, .null, .null, .null, .null, .null, .null, .null, .int 0, .int 0, .int 0, .int 0, .int 0, .int 0, .int 0, .int 0, .int 0, .int 0, .int 0, .int 0, .int 0, .int 0, .int 0, .int 0, .int 0, .int 0, .int 0, .int 0, .int 0, .int 0]) (gok hw) hk (ww hw 37 rfl) (Or.inr ⟨ww hw 38 rfl, rfl, rfl⟩) (d1 40 rfl) (j := 12) rfl rfl rfl ?_
  refine Ev.aloadN (d1 41 rfl) rfl ?_
  refine Ev.iconst (z := 0) (d1 42 rfl) rfl ?_
  refine Ev.cput (v' := .int (0 : Int32)) (fs' := [.int (0 : Int32), .int (1 : Int32), .int (2 : Int32), .int (3 : Int32), .int (4 : Int32), .int (5 : Int32), .int (6 : Int32), .int (7 : Int32), .int (8 : Int32), .int (9 : Int32), .int (10 : Int32), .int (11 : Int32), .int (12 : Int32), .int (0 : Int32), .int 0, .int 0, .int 0, .int 0, .int 0, .int 0, .int 0, .int 0, .int 0, .int 0, .int 0, .int 0, .int 0, .int 0, .int 0, .int 0, .int 0, .int 0, .int 0, .int 0, .int 0, .int 0, .int 0, .int 0, .int 0, .null, .null, .null, .null, .null, .null, .null, .null, .null, .null, .null, .null, .null, .null, .null, .null, .null, .int 0, .int 0, .int 0, .int 0, .int 0, .int 0, .int 0, .int 0, .int 0, .int 0, .int 0, .int 0, .int 0, .int 0, .int 0, .int 0, .int 0, .int 0, .int 0, .int 0, .int 0, .int 0]) (gok hw) hk (ww hw 39 rfl) (Or.inr ⟨ww hw 40 rfl, rfl, rfl⟩) (d1 43 rfl) (j := 13) rfl rfl rfl ?_
  refine Ev.aloadN (d1 44 rfl) rfl ?_
  refine Ev.iconst (z := 1) (d1 45 rfl) rfl ?_
  refine Ev.cput (v' := .int (1 : Int32)) (fs' := [.int (0 : Int32), .int (1 : Int32), .int (2 : Int32), .int (3 : Int32), .int (4 : Int32), .int (5 : Int32), .int (6 : Int32), .int (7 : Int32), .int (8 : Int32), .int (9 : Int32), .int (10 : Int32), .int (11 : Int32), .int (12 : Int32), .int (0 : Int32), .int (1 : Int32), .int 0, .int 0, .int 0, .int 0, .int 0, .int 0, .int 0, .int 0, .int 0, .int 0, .int 0, .int 0, .int 0, .int 0, .int 0, .int 0, .int 0, .int 0, .int 0, .int 0, .int 0, .int 0, .int 0, .int 0, .null, .null, .null, .null, .null, .null, .null, .null, .null, .null, .null, .null, .null, .null, .null, .null, .null, .int 0, .int 0, .int 0, .int 0, .int 0, .int 0, .int 0, .int 0, .int 0, .int 0, .int 0, .int 0, .int 0, .int 0, .int 0, .int 0, .int 0, .int 0, .int 0, .int 0, .int 0, .int 0]) (gok hw) hk (ww hw 41 rfl) (Or.inr ⟨ww hw 42 rfl, rfl, rfl⟩) (d1 46 rfl) (j := 14) rfl rfl rfl ?_
  refine Ev.aloadN (d1 47 rfl) rfl ?_
  refine Ev.iconst (z := 2) (d1 48 rfl) rfl ?_
  refine Ev.cput (v' := .int (2 : Int32)) (fs' := [.int (0 : Int32), .int (1 : Int32), .int (2 : Int32), .int (3 : Int32), .int (4 : Int32), .int (5 : Int32), .int (6 : Int32), .int (7 : Int32), .int (8 : Int32), .int (9 : Int32), .int (10 : Int32), .int (11 : Int32), .int (12 : Int32), .int (0 : Int32), .int (1 : Int32), .int (2 : Int32), .int 0, .int 0, .int 0, .int 0, .int 0, .int 0, .int 0, .int 0, .int 0, .int 0, .int 0, .int 0, .int 0, .int 0, .int 0, .int 0, .int 0, .int 0, .int 0, .int 0, .int 0, .int 0, .int 0, .null, .null, .null, .null, .null, .null, .null, .null, .null, .null, .null, .null, .null, .null, .null, .null, .null, .int 0, .int 0, .int 0, .int 0, .int 0, .int 0, .int 0, .int 0, .int 0, .int 0, .int 0, .int 0, .int 0, .int 0, .int 0, .int 0, .int 0, .int 0, .int 0, .int 0, .int 0, .int 0]) (gok hw) hk (ww hw 43 rfl) (Or.inr ⟨ww hw 44 rfl, rfl, rfl⟩) (d1 49 rfl) (j := 15) rfl rfl rfl ?_
  refine Ev.aloadN (d1 50 rfl) rfl ?_
  refine Ev.iconst (z := 1) (d1 51 rfl) rfl ?_
  refine Ev.cput (v' := .int (1 : Int32)) (fs' := [.int (0 : Int32), .int (1 : Int32), .int (2 : Int32), .int (3 : Int32), .int (4 : Int32), .int (5 : Int32), .int (6 : Int32), .int (7 : Int32), .int (8 : Int32), .int (9 : Int32), .int (10 : Int32), .int (11 : Int32), .int (12 : Int32), .int (0 : Int32), .int (1 : Int32), .int (2 : Int32), .int (1 : Int32), .int 0, .int 0, .int 0, .int 0, .int 0, .int 0, .int 0, .int 0, .int 0, .int 0, .int 0, .int 0, .int 0, .int 0, .int 0, .int 0, .int 0, .int 0, .int 0, .int 0, .int 0, .int 0, .null, .null, .null, .null, .null, .null, .null, .null, .null, .null, .null, .null, .null, .null, .null, .null, .null, .int 0, .int 0, .int 0, .int 0, .int 0, .int 0, .int 0, .int 0, .int 0, .int 0, .int 0, .int 0, .int 0, .int 0, .int 0, .int 0, .int 0, .int 0, .int 0, .int 0, .int 0, .int 0]) (gok hw) hk (ww hw 45 rfl) (Or.inr ⟨ww hw 46 rfl, rfl, rfl⟩) (d1 52 rfl) (j := 16) rfl rfl rfl ?_
  refine Ev.aloadN (d1 53 rfl) rfl ?_
  refine Ev.iconst (z := 2) (d1 54 rfl) rfl ?_
  refine Ev.cput (v' := .int (2 : Int32)) (fs' := [.int (0 : Int32), .int (1 : Int32), .int (2 : Int32), .int (3 : Int32), .int (4 : Int32), .int (5 : Int32), .int (6 : Int32), .int (7 : Int32), .int (8 : Int32), .int (9 : Int32), .int (10 : Int32), .int (11 : Int32), .int (12 : Int32), .int (0 : Int32), .int (1 : Int32), .int (2 : Int32), .int (1 : Int32), .int (2 : Int32), .int 0, .int 0, .int 0, .int 0, .int 0, .int 0, .int 0, .int 0, .int 0, .int 0, .int 0, .int 0, .int 0, .int 0, .int 0, .int 0, .int 0, .int 0, .int 0, .int 0, .int 0, .null, .null, .null, .null, .null, .null, .null, .null, .null, .null, .null, .null, .null, .null, .null, .null, .null, .int 0, .int 0, .int 0, .int 0, .int 0, .int 0, .int 0, .int 0, .int 0, .int 0, .int 0, .int 0, .int 0, .int 0, .int 0, .int 0, .int 0, .int 0, .int 0, .int 0, .int 0, .int 0]) (gok hw) hk (ww hw 47 rfl) (Or.inr ⟨ww hw 48 rfl, rfl, rfl⟩) (d1 55 rfl) (j := 17) rfl rfl rfl ?_
  refine Ev.aloadN (d1 56 rfl) rfl ?_
  refine Ev.iconst (z := 3) (d1 57 rfl) rfl ?_
  refine Ev.cput (v' := .int (3 : Int32)) (fs' := [.int (0 : Int32), .int (1 : Int32), .int (2 : Int32), .int (3 : Int32), .int (4 : Int32), .int (5 : Int32), .int (6 : Int32), .int (7 : Int32), .int (8 : Int32), .int (9 : Int32), .int (10 : Int32), .int (11 : Int32), .int (12 : Int32), .int (0 : Int32), .int (1 : Int32), .int (2 : Int32), .int (1 : Int32), .int (2 : Int32), .int (3 : Int32), .int 0, .int 0, .int 0, .int 0, .int 0, .int 0, .int 0, .int 0, .int 0, .int 0, .int 0, .int 0, .int 0, .int 0, .int 0, .int 0, .int 0, .int 0, .int 0, .int 0, .null, .null, .null, .null, .null, .null, .null, .null, .null, .null, .null, .null, .null, .null, .null, .null, .null, .int 0, .int 0, .int 0, .int 0, .int 0, .int 0, .int 0, .int 0, .int 0, .int 0, .int 0, .int 0, .int 0, .int 0, .int 0, .int 0, .int 0, .int 0, .int 0, .int 0, .int 0, .int 0]) (gok hw) hk (ww hw 49 rfl) (Or.inr ⟨ww hw 50 rfl, rfl, rfl⟩) (d1 58 rfl) (j := 18) rfl rfl rfl ?_
  refine Ev.aloadN (d1 59 rfl) rfl ?_
  refine Ev.iconst (z := 4) (d1 60 rfl) rfl ?_
  refine Ev.cput (v' := .int (4 : Int32)) (fs' := [.int (0 : Int32), .int (1 : Int32), .int (2 : Int32), .int (3 : Int32), .int (4 : Int32), .int (5 : Int32), .int (6 : Int32), .int (7 : Int32), .int (8 : Int32), .int (9 : Int32), .int (10 : Int32), .int (11 : Int32), .int (12 : Int32), .int (0 : Int32), .int (1 : Int32), .int (2 : Int32), .int (1 : Int32), .int (2 : Int32), .int (3 : Int32), .int (4 : Int32), .int 0, .int 0, .int 0, .int 0, .int 0, .int 0, .int 0, .int 0, .int 0, .int 0, .int 0, .int 0, .int 0, .int 0, .int 0, .int 0, .int 0, .int 0, .int 0, .null, .null, .null, .null, .null, .null, .null, .null, .null, .null, .null, .null, .null, .null, .null, .null, .null, .int 0, .int 0, .int 0, .int 0, .int 0, .int 0, .int 0, .int 0, .int 0, .int 0, .int 0, .int 0, .int 0, .int 0, .int 0, .int 0, .int 0, .int 0, .int 0, .int 0, .int 0, .int 0]) (gok hw) hk (ww hw 51 rfl) (Or.inr ⟨ww hw 52 rfl, rfl, rfl⟩) (d1 61 rfl) (j := 19) rfl rfl rfl ?_
  refine Ev.aloadN (d1 62 rfl) rfl ?_
  refine Ev.iconst (z := 5) (d1 63 rfl) rfl ?_
  refine Ev.cput (v' := .int (5 : Int32)) (fs' := [.int (0 : Int32), .int (1 : Int32), .int (2 : Int32), .int (3 : Int32), .int (4 : Int32), .int (5 : Int32), .int (6 : Int32), .int (7 : Int32), .int (8 : Int32), .int (9 : Int32), .int (10 : Int32), .int (11 : Int32), .int (12 : Int32), .int (0 : Int32), .int (1 : Int32), .int (2 : Int32), .int (1 : Int32), .int (2 : Int32), .int (3 : Int32), .int (4 : Int32), .int (5 : Int32), .int 0, .int 0, .int 0, .int 0, .int 0, .int 0, .int 0, .int 0, .int 0, .int 0, .int 0, .int 0, .int 0, .int 0, .int 0, .int 0, .int 0, .int 0, .null, .null, .null, .null, .null, .null, .null, .null, .null, .null, .null, .null, .null, .null, .null, .null, .null, .int 0, .int 0, .int 0, .int 0, .int 0, .int 0, .int 0, .int 0, .int 0, .int 0, .int 0, .int 0, .int 0, .int 0, .int 0, .int 0, .int 0, .int 0, .int 0, .int 0, .int 0, .int 0]) (gok hw) hk (ww hw 53 rfl) (Or.inr ⟨ww hw 54 rfl, rfl, rfl⟩) (d1 64 rfl) (j := 20) rfl rfl rfl ?_
  refine Ev.aloadN (d1 65 rfl) rfl ?_
  refine Ev.bipush (z := 6) (d1 66 rfl) rfl ?_
  refine Ev.cput (v' := .int (6 : Int32)) (fs' := [.int (0 : Int32), .int (1 : Int32), .int (2 : Int32), .int (3 : Int32), .int (4 : Int32), .int (5 : Int32), .int (6 : Int32), .int (7 : Int32), .int (8 : Int32), .int (9 : Int32), .int (10 : Int32), .int (11 : Int32), .int (12 : Int32), .int (0 : Int32), .int (1 : Int32), .int (2 : Int32), .int (1 : Int32), .int (2 : Int32), .int (3 : Int32), .int (4 : Int32), .int (5 : Int32), .int (6 : Int32), .int 0, .int 0, .int 0, .int 0, .int 0, .int 0, .int 0, .int 0, .int 0, .int 0, .int 0, .int 0, .int 0, .int 0, .int 0, .int 0, .int 0, .null, .null, .null, .null, .null, .null, .null, .null, .null, .null, .null, .null, .null, .null, .null, .null, .null, .int 0, .int 0, .int 0, .int 0, .int 0, .int 0, .int 0, .int 0, .int 0, .int 0, .int 0, .int 0, .int 0, .int 0, .int 0, .int 0, .int 0, .int 0, .int 0, .int 0, .int 0, .int 0]) (gok hw) hk (ww hw 55 rfl) (Or.inr ⟨ww hw 56 rfl, rfl, rfl⟩) (d1 67 rfl) (j := 21) rfl rfl rfl ?_
  refine Ev.aloadN (d1 68 rfl) rfl ?_
  refine Ev.bipush (z := 7) (d1 69 rfl) rfl ?_
  refine Ev.cput (v' := .int (7 : Int32)) (fs' := [.int (0 : Int32), .int (1 : Int32), .int (2 : Int32), .int (3 : Int32), .int (4 : Int32), .int (5 : Int32), .int (6 : Int32), .int (7 : Int32), .int (8 : Int32), .int (9 : Int32), .int (10 : Int32), .int (11 : Int32), .int (12 : Int32), .int (0 : Int32), .int (1 : Int32), .int (2 : Int32), .int (1 : Int32), .int (2 : Int32), .int (3 : Int32), .int (4 : Int32), .int (5 : Int32), .int (6 : Int32), .int (7 : Int32), .int 0, .int 0, .int 0, .int 0, .int 0, .int 0, .int 0, .int 0, .int 0, .int 0, .int 0, .int 0, .int 0, .int 0, .int 0, .int 0, .null, .null, .null, .null, .null, .null, .null, .null, .null, .null, .null, .null, .null, .null, .null, .null, .null, .int 0, .int 0, .int 0, .int 0, .int 0, .int 0, .int 0, .int 0, .int 0, .int 0, .int 0, .int 0, .int 0, .int 0, .int 0, .int 0, .int 0, .int 0, .int 0, .int 0, .int 0, .int 0]) (gok hw) hk (ww hw 57 rfl) (Or.inr ⟨ww hw 58 rfl, rfl, rfl⟩) (d1 70 rfl) (j := 22) rfl rfl rfl ?_
  refine Ev.aloadN (d1 71 rfl) rfl ?_
  refine Ev.bipush (z := 8) (d1 72 rfl) rfl ?_
  refine Ev.cput (v' := .int (8 : Int32)) (fs' := [.int (0 : Int32), .int (1 : Int32), .int (2 : Int32), .int (3 : Int32), .int (4 : Int32), .int (5 : Int32), .int (6 : Int32), .int (7 : Int32), .int (8 : Int32), .int (9 : Int32), .int (10 : Int32), .int (11 : Int32), .int (12 : Int32), .int (0 : Int32), .int (1 : Int32), .int (2 : Int32), .int (1 : Int32), .int (2 : Int32), .int (3 : Int32), .int (4 : Int32), .int (5 : Int32), .int (6 : Int32), .int (7 : Int32), .int (8 : Int32), .int 0, .int 0, .int 0, .int 0, .int 0, .int 0, .int 0, .int 0, .int 0, .int 0, .int 0, .int 0, .int 0, .int 0, .int 0, .null, .null, .null, .null, .null, .null, .null, .null, .null, .null, .null, .null, .null, .null, .null, .null, .null, .int 0, .int 0, .int 0, .int 0, .int 0, .int 0, .int 0, .int 0, .int 0, .int 0, .int 0, .int 0, .int 0, .int 0, .int 0, .int 0, .int 0, .int 0, .int 0, .int 0, .int 0, .int 0]) (gok hw) hk (ww hw 59 rfl) (Or.inr ⟨ww hw 60 rfl, rfl, rfl⟩) (d1 73 rfl) (j := 23) rfl rfl rfl ?_
  refine Ev.aloadN (d1 74 rfl) rfl ?_
  refine Ev.bipush (z := 9) (d1 75 rfl) rfl ?_
  refine Ev.cput (v' := .int (9 : Int32)) (fs' := [.int (0 : Int32), .int (1 : Int32), .int (2 : Int32), .int (3 : Int32), .int (4 : Int32), .int (5 : Int32), .int (6 : Int32), .int (7 : Int32), .int (8 : Int32), .int (9 : Int32), .int (10 : Int32), .int (11 : Int32), .int (12 : Int32), .int (0 : Int32), .int (1 : Int32), .int (2 : Int32), .int (1 : Int32), .int (2 : Int32), .int (3 : Int32), .int (4 : Int32), .int (5 : Int32), .int (6 : Int32), .int (7 : Int32), .int (8 : Int32), .int (9 : Int32), .int 0, .int 0, .int 0, .int 0, .int 0, .int 0, .int 0, .int 0, .int 0, .int 0, .int 0, .int 0, .int 0, .int 0, .null, .null, .null, .null, .null, .null, .null, .null, .null, .null, .null, .null, .null, .null, .null, .null, .null, .int 0, .int 0, .int 0, .int 0, .int 0, .int 0, .int 0, .int 0, .int 0, .int 0, .int 0, .int 0, .int 0, .int 0, .int 0, .int 0, .int 0, .int 0, .int 0, .int 0, .int 0, .int 0]) (gok hw) hk (ww hw 61 rfl) (Or.inr ⟨ww hw 62 rfl, rfl, rfl⟩) (d1 76 rfl) (j := 24) rfl rfl rfl ?_
  refine Ev.aloadN (d1 77 rfl) rfl ?_
  refine Ev.bipush (z := 10) (d1 78 rfl) rfl ?_
  refine Ev.cput (v' := .int (10 : Int32)) (fs' := [.int (0 : Int32), .int (1 : Int32), .int (2 : Int32), .int (3 : Int32), .int (4 : Int32), .int (5 : Int32), .int (6 : Int32), .int (7 : Int32), .int (8 : Int32), .int (9 : Int32), .int (10 : Int32), .int (11 : Int32), .int (12 : Int32), .int (0 : Int32), .int (1 : Int32), .int (2 : Int32), .int (1 : Int32), .int (2 : Int32), .int (3 : Int32), .int (4 : Int32), .int (5 : Int32), .int (6 : Int32), .int (7 : Int32), .int (8 : Int32), .int (9 : Int32), .int (10 : Int32), .int 0, .int 0, .int 0, .int 0, .int 0, .int 0, .int 0, .int 0, .int 0, .int 0, .int 0, .int 0, .int 0, .null, .null, .null, .null, .null, .null, .null, .null, .null, .null, .null, .null, .null, .null, .null, .null, .null, .int 0, .int 0, .int 0, .int 0, .int 0, .int 0, .int 0, .int 0, .int 0, .int 0, .int 0, .int 0, .int 0, .int 0, .int 0, .int 0, .int 0, .int 0, .int 0, .int 0, .int 0, .int 0]) (gok hw) hk (ww hw 63 rfl) (Or.inr ⟨ww hw 64 rfl, rfl, rfl⟩) (d1 79 rfl) (j := 25) rfl rfl rfl ?_
  refine Ev.aloadN (d1 80 rfl) rfl ?_
  refine Ev.bipush (z := 11) (d1 81 rfl) rfl ?_
  refine Ev.cput (v' := .int (11 : Int32)) (fs' := [.int (0 : Int32), .int (1 : Int32), .int (2 : Int32), .int (3 : Int32), .int (4 : Int32), .int (5 : Int32), .int (6 : Int32), .int (7 : Int32), .int (8 : Int32), .int (9 : Int32), .int (10 : Int32), .int (11 : Int32), .int (12 : Int32), .int (0 : Int32), .int (1 : Int32), .int (2 : Int32), .int (1 : Int32), .int (2 : Int32), .int (3 : Int32), .int (4 : Int32), .int (5 : Int32), .int (6 : Int32), .int (7 : Int32), .int (8 : Int32), .int (9 : Int32), .int (10 : Int32), .int (11 : Int32), .int 0, .int 0, .int 0, .int 0, .int 0, .int 0, .int 0, .int 0, .int 0, .int 0, .int 0, .int 0, .null, .null, .null, .null, .null, .null, .null, .null, .null, .null, .null, .null, .null, .null, .null, .null, .null, .int 0, .int 0, .int 0, .int 0, .int 0, .int 0, .int 0, .int 0, .int 0, .int 0, .int 0, .int 0, .int 0, .int 0, .int 0, .int 0, .int 0, .int 0, .int 0, .int 0, .int 0, .int 0]) (gok hw) hk (ww hw 65 rfl) (Or.inr ⟨ww hw 66 rfl, rfl, rfl⟩) (d1 82 rfl) (j := 26) rfl rfl rfl ?_
  refine Ev.aloadN (d1 83 rfl) rfl ?_
  refine Ev.bipush (z := 12) (d1 84 rfl) rfl ?_
  refine Ev.cput (v' := .int (12 : Int32)) (fs' := [.int (0 : Int32), .int (1 : Int32), .int (2 : Int32), .int (3 : Int32), .int (4 : Int32), .int (5 : Int32), .int (6 : Int32), .int (7 : Int32), .int (8 : Int32), .int (9 : Int32), .int (10 : Int32), .int (11 : Int32), .int (12 : Int32), .int (0 : Int32), .int (1 : Int32), .int (2 : Int32), .int (1 : Int32), .int (2 : Int32), .int (3 : Int32), .int (4 : Int32), .int (5 : Int32), .int (6 : Int32), .int (7 : Int32), .int (8 : Int32), .int (9 : Int32), .int (10 : Int32), .int (11 : Int32), .int (12 : Int32), .int 0, .int 0, .int 0, .int 0, .int 0, .int 0, .int 0, .int 0, .int 0, .int 0, .int 0, .null, .null, .null, .null, .null, .null, .null, .null, .null, .null, .null, .null, .null, .null, .null, .null, .null, .int 0, .int 0, .int 0, .int 0, .int 0, .int 0, .int 0, .int 0, .int 0, .int 0, .int 0, .int 0, .int 0, .int 0, .int 0, .int 0, .int 0, .int 0, .int 0, .int 0, .int 0, .int 0]) (gok hw) hk (ww hw 67 rfl) (Or.inr ⟨ww hw 68 rfl, rfl, rfl⟩) (d1 85 rfl) (j := 27) rfl rfl rfl ?_
  refine Ev.aloadN (d1 86 rfl) rfl ?_
  refine Ev.bipush (z := 13) (d1 87 rfl) rfl ?_
  refine Ev.cput (v' := .int (13 : Int32)) (fs' := [.int (0 : Int32), .int (1 : Int32), .int (2 : Int32), .int (3 : Int32), .int (4 : Int32), .int (5 : Int32), .int (6 : Int32), .int (7 : Int32), .int (8 : Int32), .int (9 : Int32), .int (10 : Int32), .int (11 : Int32), .int (12 : Int32), .int (0 : Int32), .int (1 : Int32), .int (2 : Int32), .int (1 : Int32), .int (2 : Int32), .int (3 : Int32), .int (4 : Int32), .int (5 : Int32), .int (6 : Int32), .int (7 : Int32), .int (8 : Int32), .int (9 : Int32), .int (10 : Int32), .int (11 : Int32), .int (12 : Int32), .int (13 : Int32), .int 0, .int 0, .int 0, .int 0, .int 0, .int 0, .int 0, .int 0, .int 0, .int 0, .null, .null, .null, .null, .null, .null, .null, .null, .null, .null, .null, .null, .null, .null, .null, .null, .null, .int 0, .int 0, .int 0, .int 0, .int 0, .int 0, .int 0, .int 0, .int 0, .int 0, .int 0, .int 0, .int 0, .int 0, .int 0, .int 0, .int 0, .int 0, .int 0, .int 0, .int 0, .int 0]) (gok hw) hk (ww hw 69 rfl) (Or.inr ⟨ww hw 70 rfl, rfl, rfl⟩) (d1 88 rfl) (j := 28) rfl rfl rfl ?_
  refine Ev.aloadN (d1 89 rfl) rfl ?_
  refine Ev.bipush (z := 14) (d1 90 rfl) rfl ?_
  refine Ev.cput (v' := .int (14 : Int32)) (fs' := [.int (0 : Int32), .int (1 : Int32), .int (2 : Int32), .int (3 : Int32), .int (4 : Int32), .int (5 : Int32), .int (6 : Int32), .int (7 : Int32), .int (8 : Int32), .int (9 : Int32), .int (10 : Int32), .int (11 : Int32), .int (12 : Int32), .int (0 : Int32), .int (1 : Int32), .int (2 : Int32), .int (1 : Int32), .int (2 : Int32), .int (3 : Int32), .int (4 : Int32), .int (5 : Int32), .int (6 : Int32), .int (7 : Int32), .int (8 : Int32), .int (9 : Int32), .int (10 : Int32), .int (11 : Int32), .int (12 : Int32), .int (13 : Int32), .int (14 : Int32), .int 0, .int 0, .int 0, .int 0, .int 0, .int 0, .int 0, .int 0, .int 0, .null, .null, .null, .null, .null, .null, .null, .null, .null, .null, .null, .null, .null, .null, .null, .null, .null, .int 0, .int 0, .int 0, .int 0, .int 0, .int 0, .int 0, .int 0, .int 0, .int 0, .int 0, .int 0, .int 0, .int 0, .int 0, .int 0, .int 0, .int 0, .int 0, .int 0, .int 0, .int 0]) (gok hw) hk (ww hw 71 rfl) (Or.inr ⟨ww hw 72 rfl, rfl, rfl⟩) (d1 91 rfl) (j := 29) rfl rfl rfl ?_
  refine Ev.aloadN (d1 92 rfl) rfl ?_
  refine Ev.bipush (z := 15) (d1 93 rfl) rfl ?_
  refine Ev.cput (v' := .int (15 : Int32)) (fs' := [.int (0 : Int32), .int (1 : Int32), .int (2 : Int32), .int (3 : Int32), .int (4 : Int32), .int (5 : Int32), .int (6 : Int32), .int (7 : Int32), .int (8 : Int32), .int (9 : Int32), .int (10 : Int32), .int (11 : Int32), .int (12 : Int32), .int (0 : Int32), .int (1 : Int32), .int (2 : Int32), .int (1 : Int32), .int (2 : Int32), .int (3 : Int32), .int (4 : Int32), .int (5 : Int32), .int (6 : Int32), .int (7 : Int32), .int (8 : Int32), .int (9 : Int32), .int (10 : Int32), .int (11 : Int32), .int (12 : Int32), .int (13 : Int32), .int (14 : Int32), .int (15 : Int32), .int 0, .int 0, .int 0, .int 0, .int 0, .int 0, .int 0, .int 0, .null, .null, .null, .null, .null, .null, .null, .null, .null, .null, .null, .null, .null, .null, .null, .null, .null, .int 0, .int 0, .int 0, .int 0, .int 0, .int 0, .int 0, .int 0, .int 0, .int 0, .int 0, .int 0, .int 0, .int 0, .int 0, .int 0, .int 0, .int 0, .int 0, .int 0, .int 0, .int 0]) (gok hw) hk (ww hw 73 rfl) (Or.inr ⟨ww hw 74 rfl, rfl, rfl⟩) (d1 94 rfl) (j := 30) rfl rfl rfl ?_
  refine Ev.aloadN (d1 95 rfl) rfl ?_
  refine Ev.bipush (z := 16) (d1 96 rfl) rfl ?_
  refine Ev.cput (v' := .int (16 : Int32)) (fs' := [.int (0 : Int32), .int (1 : Int32), .int (2 : Int32), .int (3 : Int32), .int (4 : Int32), .int (5 : Int32), .int (6 : Int32), .int (7 : Int32), .int (8 : Int32), .int (9 : Int32), .int (10 : Int32), .int (11 : Int32), .int (12 : Int32), .int (0 : Int32), .int (1 : Int32), .int (2 : Int32), .int (1 : Int32), .int (2 : Int32), .int (3 : Int32), .int (4 : Int32), .int (5 : Int32), .int (6 : Int32), .int (7 : Int32), .int (8 : Int32), .int (9 : Int32), .int (10 : Int32), .int (11 : Int32), .int (12 : Int32), .int (13 : Int32), .int (14 : Int32), .int (15 : Int32), .int (16 : Int32), .int 0, .int 0, .int 0, .int 0, .int 0, .int 0, .int 0, .null, .null, .null, .null, .null, .null, .null, .null, .null, .null, .null, .null, .null, .null, .null, .null, .null, .int 0, .int 0, .int 0, .int 0, .int 0, .int 0, .int 0, .int 0, .int 0, .int 0, .int 0, .int 0, .int 0, .int 0, .int 0, .int 0, .int 0, .int 0, .int 0, .int 0, .int 0, .int 0]) (gok hw) hk (ww hw 75 rfl) (Or.inr ⟨ww hw 76 rfl, rfl, rfl⟩) (d1 97 rfl) (j := 31) rfl rfl rfl ?_
  refine Ev.aloadN (d1 98 rfl) rfl ?_
  refine Ev.bipush (z := 17) (d1 99 rfl) rfl ?_
  refine Ev.cput (v' := .int (17 : Int32)) (fs' := [.int (0 : Int32), .int (1 : Int32), .int (2 : Int32), .int (3 : Int32), .int (4 : Int32), .int (5 : Int32), .int (6 : Int32), .int (7 : Int32), .int (8 : Int32), .int (9 : Int32), .int (10 : Int32), .int (11 : Int32), .int (12 : Int32), .int (0 : Int32), .int (1 : Int32), .int (2 : Int32), .int (1 : Int32), .int (2 : Int32), .int (3 : Int32), .int (4 : Int32), .int (5 : Int32), .int (6 : Int32), .int (7 : Int32), .int (8 : Int32), .int (9 : Int32), .int (10 : Int32), .int (11 : Int32), .int (12 : Int32), .int (13 : Int32), .int (14 : Int32), .int (15 : Int32), .int (16 : Int32), .int (17 : Int32), .int 0, .int 0, .int 0, .int 0, .int 0, .int 0, .null, .null, .null, .null, .null, .null, .null, .null, .null, .null, .null, .null, .null, .null, .null, .null, .null, .int 0, .int 0, .int 0, .int 0, .int 0, .int 0, .int 0, .int 0, .int 0, .int 0, .int 0, .int 0, .int 0, .int 0, .int 0, .int 0, .int 0, .int 0, .int 0, .int 0, .int 0, .int 0]) (gok hw) hk (ww hw 77 rfl) (Or.inr ⟨ww hw 78 rfl, rfl, rfl⟩) (d1 100 rfl) (j := 32) rfl rfl rfl ?_
  refine Ev.aloadN (d1 101 rfl) rfl ?_
  refine Ev.bipush (z := 18) (d1 102 rfl) rfl ?_
  refine Ev.cput (v' := .int (18 : Int32)) (fs' := [.int (0 : Int32), .int (1 : Int32), .int (2 : Int32), .int (3 : Int32), .int (4 : Int32), .int (5 : Int32), .int (6 : Int32), .int (7 : Int32), .int (8 : Int32), .int (9 : Int32), .int (10 : Int32), .int (11 : Int32), .int (12 : Int32), .int (0 : Int32), .int (1 : Int32), .int (2 : Int32), .int (1 : Int32), .int (2 : Int32), .int (3 : Int32), .int (4 : Int32), .int (5 : Int32), .int (6 : Int32), .int (7 : Int32), .int (8 : Int32), .int (9 : Int32), .int (10 : Int32), .int (11 : Int32), .int (12 : Int32), .int (13 : Int32), .int (14 : Int32), .int (15 : Int32), .int (16 : Int32), .int (17 : Int32), .int (18 : Int32), .int 0, .int 0, .int 0, .int 0, .int 0, .null, .null, .null, .null, .null, .null, .null, .null, .null, .null, .null, .null, .null, .null, .null, .null, .null, .int 0, .int 0, .int 0, .int 0, .int 0, .int 0, .int 0, .int 0, .int 0, .int 0, .int 0, .int 0, .int 0, .int 0, .int 0, .int 0, .int 0, .int 0, .int 0, .int 0, .int 0, .int 0]) (gok hw) hk (ww hw 79 rfl) (Or.inr ⟨ww hw 80 rfl, rfl, rfl⟩) (d1 103 rfl) (j := 33) rfl rfl rfl ?_
  refine Ev.aloadN (d1 104 rfl) rfl ?_
  refine Ev.bipush (z := 19) (d1 105 rfl) rfl ?_
  refine Ev.cput (v' := .int (19 : Int32)) (fs' := [.int (0 : Int32), .int (1 : Int32), .int (2 : Int32), .int (3 : Int32), .int (4 : Int32), .int (5 : Int32), .int (6 : Int32), .int (7 : Int32), .int (8 : Int32), .int (9 : Int32), .int (10 : Int32), .int (11 : Int32), .int (12 : Int32), .int (0 : Int32), .int (1 : Int32), .int (2 : Int32), .int (1 : Int32), .int (2 : Int32), .int (3 : Int32), .int (4 : Int32), .int (5 : Int32), .int (6 : Int32), .int (7 : Int32), .int (8 : Int32), .int (9 : Int32), .int (10 : Int32), .int (11 : Int32), .int (12 : Int32), .int (13 : Int32), .int (14 : Int32), .int (15 : Int32), .int (16 : Int32), .int (17 : Int32), .int (18 : Int32), .int (19 : Int32), .int 0, .int 0, .int 0, .int 0, .null, .null, .null, .null, .null, .null, .null, .null, .null, .null, .null, .null, .null, .null, .null, .null, .null, .int 0, .int 0, .int 0, .int 0, .int 0, .int 0, .int 0, .int 0, .int 0, .int 0, .int 0, .int 0, .int 0, .int 0, .int 0, .int 0, .int 0, .int 0, .int 0, .int 0, .int 0, .int 0]) (gok hw) hk (ww hw 81 rfl) (Or.inr ⟨ww hw 82 rfl, rfl, rfl⟩) (d1 106 rfl) (j := 34) rfl rfl rfl ?_
  refine Ev.aloadN (d1 107 rfl) rfl ?_
  refine Ev.bipush (z := 64) (d1 108 rfl) rfl ?_
  refine Ev.cput (v' := .int (64 : Int32)) (fs' := [.int (0 : Int32), .int (1 : Int32), .int (2 : Int32), .int (3 : Int32), .int (4 : Int32), .int (5 : Int32), .int (6 : Int32), .int (7 : Int32), .int (8 : Int32), .int (9 : Int32), .int (10 : Int32), .int (11 : Int32), .int (12 : Int32), .int (0 : Int32), .int (1 : Int32), .int (2 : Int32), .int (1 : Int32), .int (2 : Int32), .int (3 : Int32), .int (4 : Int32), .int (5 : Int32), .int (6 : Int32), .int (7 : Int32), .int (8 : Int32), .int (9 : Int32), .int (10 : Int32), .int (11 : Int32), .int (12 : Int32), .int (13 : Int32), .int (14 : Int32), .int (15 : Int32), .int (16 : Int32), .int (17 : Int32), .int (18 : Int32), .int (19 : Int32), .int (64 : Int32), .int 0, .int 0, .int 0, .null, .null, .null, .null, .null, .null, .null, .null, .null, .null, .null, .null, .null, .null, .null, .null, .null, .int 0, .int 0, .int 0, .int 0, .int 0, .int 0, .int 0, .int 0, .int 0, .int 0, .int 0, .int 0, .int 0, .int 0, .int 0, .int 0, .int 0, .int 0, .int 0, .int 0, .int 0, .int 0]) (gok hw) hk (ww hw 83 rfl) (Or.inr ⟨ww hw 84 rfl, rfl, rfl⟩) (d1 109 rfl) (j := 35) rfl rfl rfl ?_
  refine Ev.aloadN (d1 110 rfl) rfl ?_
  refine Ev.sipush (z := 160) (d1 111 rfl) rfl ?_
  refine Ev.cput (v' := .int (160 : Int32)) (fs' := [.int (0 : Int32), .int (1 : Int32), .int (2 : Int32), .int (3 : Int32), .int (4 : Int32), .int (5 : Int32), .int (6 : Int32), .int (7 : Int32), .int (8 : Int32), .int (9 : Int32), .int (10 : Int32), .int (11 : Int32), .int (12 : Int32), .int (0 : Int32), .int (1 : Int32), .int (2 : Int32), .int (1 : Int32), .int (2 : Int32), .int (3 : Int32), .int (4 : Int32), .int (5 : Int32), .int (6 : Int32), .int (7 : Int32), .int (8 : Int32), .int (9 : Int32), .int (10 : Int32), .int (11 : Int32), .int (12 : Int32), .int (13 : Int32), .int (14 : Int32), .int (15 : Int32), .int (16 : Int32), .int (17 : Int32), .int (18 : Int32), .int (19 : Int32), .int (64 : Int32), .int (160 : Int32), .int 0, .int 0, .null, .null, .null, .null, .null, .null, .null, .null, .null, .null, .null, .null, .null, .null, .null, .null, .null, .int 0, .int 0, .int 0, .int 0, .int 0, .int 0, .int 0, .int 0, .int 0, .int 0, .int 0, .int 0, .int 0, .int 0, .int 0, .int 0, .int 0, .int 0, .int 0, .int 0, .int 0, .int 0]) (gok hw) hk (ww hw 85 rfl) (Or.inr ⟨ww hw 86 rfl, rfl, rfl⟩) (d1 112 rfl) (j := 36) rfl rfl rfl ?_
  refine Ev.aloadN (d1 113 rfl) rfl ?_
  refine Ev.sipush (z := 512) (d1 114 rfl) rfl ?_
  refine Ev.cput (v' := .int (512 : Int32)) (fs' := [.int (0 : Int32), .int (1 : Int32), .int (2 : Int32), .int (3 : Int32), .int (4 : Int32), .int (5 : Int32), .int (6 : Int32), .int (7 : Int32), .int (8 : Int32), .int (9 : Int32), .int (10 : Int32), .int (11 : Int32), .int (12 : Int32), .int (0 : Int32), .int (1 : Int32), .int (2 : Int32), .int (1 : Int32), .int (2 : Int32), .int (3 : Int32), .int (4 : Int32), .int (5 : Int32), .int (6 : Int32), .int (7 : Int32), .int (8 : Int32), .int (9 : Int32), .int (10 : Int32), .int (11 : Int32), .int (12 : Int32), .int (13 : Int32), .int (14 : Int32), .int (15 : Int32), .int (16 : Int32), .int (17 : Int32), .int (18 : Int32), .int (19 : Int32), .int (64 : Int32), .int (160 : Int32), .int (512 : Int32), .int 0, .null, .null, .null, .null, .null, .null, .null, .null, .null, .null, .null, .null, .null, .null, .null, .null, .null, .int 0, .int 0, .int 0, .int 0, .int 0, .int 0, .int 0, .int 0, .int 0, .int 0, .int 0, .int 0, .int 0, .int 0, .int 0, .int 0, .int 0, .int 0, .int 0, .int 0, .int 0, .int 0]) (gok hw) hk (ww hw 87 rfl) (Or.inr ⟨ww hw 88 rfl, rfl, rfl⟩) (d1 115 rfl) (j := 37) rfl rfl rfl ?_
  refine Ev.aloadN (d1 116 rfl) rfl ?_
  refine Ev.sipush (z := 1024) (d1 117 rfl) rfl ?_
  refine Ev.cput (v' := .int (1024 : Int32)) (fs' := [.int (0 : Int32), .int (1 : Int32), .int (2 : Int32), .int (3 : Int32), .int (4 : Int32), .int (5 : Int32), .int (6 : Int32), .int (7 : Int32), .int (8 : Int32), .int (9 : Int32), .int (10 : Int32), .int (11 : Int32), .int (12 : Int32), .int (0 : Int32), .int (1 : Int32), .int (2 : Int32), .int (1 : Int32), .int (2 : Int32), .int (3 : Int32), .int (4 : Int32), .int (5 : Int32), .int (6 : Int32), .int (7 : Int32), .int (8 : Int32), .int (9 : Int32), .int (10 : Int32), .int (11 : Int32), .int (12 : Int32), .int (13 : Int32), .int (14 : Int32), .int (15 : Int32), .int (16 : Int32), .int (17 : Int32), .int (18 : Int32), .int (19 : Int32), .int (64 : Int32), .int (160 : Int32), .int (512 : Int32), .int (1024 : Int32), .null, .null, .null, .null, .null, .null, .null, .null, .null, .null, .null, .null, .null, .null, .null, .null, .null, .int 0, .int 0, .int 0, .int 0, .int 0, .int 0, .int 0, .int 0, .int 0, .int 0, .int 0, .int 0, .int 0, .int 0, .int 0, .int 0, .int 0, .int 0, .int 0, .int 0, .int 0, .int 0]) (gok hw) hk (ww hw 89 rfl) (Or.inr ⟨ww hw 90 rfl, rfl, rfl⟩) (d1 118 rfl) (j := 38) rfl rfl rfl ?_
  refine Ev.aloadN (d1 119 rfl) rfl ?_
  refine Ev.sipush (z := 128) (d1 120 rfl) rfl ?_
  refine Ev.cnew (aty := .int) (b := false) (k := 128) (q := 0) (as' := [(false, tab 128 (fun _ => 0))]) (ww hw 91 rfl) rfl (d1 121 rfl) (by decide) rfl (by decide) rfl rfl ?_
  refine Ev.cput (v' := .ref (pre.length + 1 + 0)) (fs' := [.int (0 : Int32), .int (1 : Int32), .int (2 : Int32), .int (3 : Int32), .int (4 : Int32), .int (5 : Int32), .int (6 : Int32), .int (7 : Int32), .int (8 : Int32), .int (9 : Int32), .int (10 : Int32), .int (11 : Int32), .int (12 : Int32), .int (0 : Int32), .int (1 : Int32), .int (2 : Int32), .int (1 : Int32), .int (2 : Int32), .int (3 : Int32), .int (4 : Int32), .int (5 : Int32), .int (6 : Int32), .int (7 : Int32), .int (8 : Int32), .int (9 : Int32), .int (10 : Int32), .int (11 : Int32), .int (12 : Int32), .int (13 : Int32), .int (14 : Int32), .int (15 : Int32), .int (16 : Int32), .int (17 : Int32), .int (18 : Int32), .int (19 : Int32), .int (64 : Int32), .int (160 : Int32), .int (512 : Int32), .int (1024 : Int32), .ref (pre.length + 1 + 0), .null, .null, .null, .null, .null, .null, .null, .null, .null, .null, .null, .null, .null, .null, .null, .null, .int 0, .int 0, .int 0, .int 0, .int 0, .int 0, .int 0, .int 0, .int 0, .int 0, .int 0, .int 0, .int 0, .int 0, .int 0, .int 0, .int 0, .int 0, .int 0, .int 0, .int 0, .int 0]) (gok hw) hk (ww hw 92 rfl) (Or.inr ⟨ww hw 93 rfl, rfl, rfl⟩) (d1 122 rfl) (j := 39) rfl rfl rfl ?_
  refine Ev.aloadN (d1 123 rfl) rfl ?_
  refine Ev.sipush (z := 512) (d1 124 rfl) rfl ?_
  refine Ev.cnew (aty := .int) (b := false) (k := 512) (q := 1) (as' := [(false, tab 128 (fun _ => 0)), (false, tab 512 (fun _ => 0))]) (ww hw 91 rfl) rfl (d1 125 rfl) (by decide) rfl (by decide) rfl rfl ?_
  refine Ev.cput (v' := .ref (pre.length + 1 + 1)) (fs' := [.int (0 : Int32), .int (1 : Int32), .int (2 : Int32), .int (3 : Int32), .int (4 : Int32), .int (5 : Int32), .int (6 : Int32), .int (7 : Int32), .int (8 : Int32), .int (9 : Int32), .int (10 : Int32), .int (11 : Int32), .int (12 : Int32), .int (0 : Int32), .int (1 : Int32), .int (2 : Int32), .int (1 : Int32), .int (2 : Int32), .int (3 : Int32), .int (4 : Int32), .int (5 : Int32), .int (6 : Int32), .int (7 : Int32), .int (8 : Int32), .int (9 : Int32), .int (10 : Int32), .int (11 : Int32), .int (12 : Int32), .int (13 : Int32), .int (14 : Int32), .int (15 : Int32), .int (16 : Int32), .int (17 : Int32), .int (18 : Int32), .int (19 : Int32), .int (64 : Int32), .int (160 : Int32), .int (512 : Int32), .int (1024 : Int32), .ref (pre.length + 1 + 0), .ref (pre.length + 1 + 1), .null, .null, .null, .null, .null, .null, .null, .null, .null, .null, .null, .null, .null, .null, .null, .int 0, .int 0, .int 0, .int 0, .int 0, .int 0, .int 0, .int 0, .int 0, .int 0, .int 0, .int 0, .int 0, .int 0, .int 0, .int 0, .int 0, .int 0, .int 0, .int 0, .int 0, .int 0]) (gok hw) hk (ww hw 94 rfl) (Or.inr ⟨ww hw 95 rfl, rfl, rfl⟩) (d1 126 rfl) (j := 40) rfl rfl rfl ?_
  refine Ev.aloadN (d1 127 rfl) rfl ?_
  refine Ev.sipush (z := 512) (d1 128 rfl) rfl ?_
  refine Ev.cnew (aty := .int) (b := false) (k := 512) (q := 2) (as' := [(false, tab 128 (fun _ => 0)), (false, tab 512 (fun _ => 0)), (false, tab 512 (fun _ => 0))]) (ww hw 91 rfl) rfl (d1 129 rfl) (by decide) rfl (by decide) rfl rfl ?_
  refine Ev.cput (v' := .ref (pre.length + 1 + 2)) (fs' := [.int (0 : Int32), .int (1 : Int32), .int (2 : Int32), .int (3 : Int32), .int (4 : Int32), .int (5 : Int32), .int (6 : Int32), .int (7 : Int32), .int (8 : Int32), .int (9 : Int32), .int (10 : Int32), .int (11 : Int32), .int (12 : Int32), .int (0 : Int32), .int (1 : Int32), .int (2 : Int32), .int (1 : Int32), .int (2 : Int32), .int (3 : Int32), .int (4 : Int32), .int (5 : Int32), .int (6 : Int32), .int (7 : Int32), .int (8 : Int32), .int (9 : Int32), .int (10 : Int32), .int (11 : Int32), .int (12 : Int32), .int (13 : Int32), .int (14 : Int32), .int (15 : Int32), .int (16 : Int32), .int (17 : Int32), .int (18 : Int32), .int (19 : Int32), .int (64 : Int32), .int (160 : Int32), .int (512 : Int32), .int (1024 : Int32), .ref (pre.length + 1 + 0), .ref (pre.length + 1 + 1), .ref (pre.length + 1 + 2), .null, .null, .null, .null, .null, .null, .null, .null, .null, .null, .null, .null, .null, .null, .int 0, .int 0, .int 0, .int 0, .int 0, .int 0, .int 0, .int 0, .int 0, .int 0, .int 0, .int 0, .int 0, .int 0, .int 0, .int 0, .int 0, .int 0, .int 0, .int 0, .int 0, .int 0]) (gok hw) hk (ww hw 96 rfl) (Or.inr ⟨ww hw 97 rfl, rfl, rfl⟩) (d1 130 rfl) (j := 41) rfl rfl rfl ?_
  refine Ev.aloadN (d1 131 rfl) rfl ?_
  refine Ev.sipush (z := 160) (d1 132 rfl) rfl ?_
  refine Ev.cnew (aty := .int) (b := false) (k := 160) (q := 3) (as' := [(false, tab 128 (fun _ => 0)), (false, tab 512 (fun _ => 0)), (false, tab 512 (fun _ => 0)), (false, tab 160 (fun _ => 0))]) (ww hw 91 rfl) rfl (d1 133 rfl) (by decide) rfl (by decide) rfl rfl ?_
  refine Ev.cput (v' := .ref (pre.length + 1 + 3)) (fs' := [.int (0 : Int32), .int (1 : Int32), .int (2 : Int32), .int (3 : Int32), .int (4 : Int32), .int (5 : Int32), .int (6 : Int32), .int (7 : Int32), .int (8 : Int32), .int (9 : Int32), .int (10 : Int32), .int (11 : Int32), .int (12 : Int32), .int (0 : Int32), .int (1 : Int32), .int (2 : Int32), .int (1 : Int32), .int (2 : Int32), .int (3 : Int32), .int (4 : Int32), .int (5 : Int32), .int (6 : Int32), .int (7 : Int32), .int (8 : Int32), .int (9 : Int32), .int (10 : Int32), .int (11 : Int32), .int (12 : Int32), .int (13 : Int32), .int (14 : Int32), .int (15 : Int32), .int (16 : Int32), .int (17 : Int32), .int (18 : Int32), .int (19 : Int32), .int (64 : Int32), .int (160 : Int32), .int (512 : Int32), .int (1024 : Int32), .ref (pre.length + 1 + 0), .ref (pre.length + 1 + 1), .ref (pre.length + 1 + 2), .ref (pre.length + 1 + 3), .null, .null, .null, .null, .null, .null, .null, .null, .null, .null, .null, .null, .null, .int 0, .int 0, .int 0, .int 0, .int 0, .int 0, .int 0, .int 0, .int 0, .int 0, .int 0, .int 0, .int 0, .int 0, .int 0, .int 0, .int 0, .int 0, .int 0, .int 0, .int 0, .int 0]) (gok hw) hk (ww hw 98 rfl) (Or.inr ⟨ww hw 99 rfl, rfl, rfl⟩) (d1 134 rfl) (j := 42) rfl rfl rfl ?_
  refine Ev.aloadN (d1 135 rfl) rfl ?_
  refine Ev.bipush (z := 64) (d1 136 rfl) rfl ?_
  refine Ev.cnew (aty := .int) (b := false) (k := 64) (q := 4) (as' := [(false, tab 128 (fun _ => 0)), (false, tab 512 (fun _ => 0)), (false, tab 512 (fun _ => 0)), (false, tab 160 (fun _ => 0)), (false, tab 64 (fun _ => 0))]) (ww hw 91 rfl) rfl (d1 137 rfl) (by decide) rfl (by decide) rfl rfl ?_
  refine Ev.cput (v' := .ref (pre.length + 1 + 4)) (fs' := [.int (0 : Int32), .int (1 : Int32), .int (2 : Int32), .int (3 : Int32), .int (4 : Int32), .int (5 : Int32), .int (6 : Int32), .int (7 : Int32), .int (8 : Int32), .int (9 : Int32), .int (10 : Int32), .int (11 : Int32), .int (12 : Int32), .int (0 : Int32), .int (1 : Int32), .int (2 : Int32), .int (1 : Int32), .int (2 : Int32), .int (3 : Int32), .int (4 : Int32), .int (5 : Int32), .int (6 : Int32), .int (7 : Int32), .int (8 : Int32), .int (9 : Int32), .int (10 : Int32), .int (11 : Int32), .int (12 : Int32), .int (13 : Int32), .int (14 : Int32), .int (15 : Int32), .int (16 : Int32), .int (17 : Int32), .int (18 : Int32), .int (19 : Int32), .int (64 : Int32), .int (160 : Int32), .int (512 : Int32), .int (1024 : Int32), .ref (pre.length + 1 + 0), .ref (pre.length + 1 + 1), .ref (pre.length + 1 + 2), .ref (pre.length + 1 + 3), .ref (pre.length + 1 + 4), .null, .null, .null, .null, .null, .null, .null, .null, .null, .null, .null, .null, .int 0, .int 0, .int 0, .int 0, .int 0, .int 0, .int 0, .int 0, .int 0, .int 0, .int 0, .int 0, .int 0, .int 0, .int 0, .int 0, .int 0, .int 0, .int 0, .int 0, .int 0, .int 0]) (gok hw) hk (ww hw 100 rfl) (Or.inr ⟨ww hw 101 rfl, rfl, rfl⟩) (d1 138 rfl) (j := 43) rfl rfl rfl ?_
  refine Ev.aloadN (d1 139 rfl) rfl ?_
  refine Ev.bipush (z := 64) (d1 140 rfl) rfl ?_
  refine Ev.cnew (aty := .int) (b := false) (k := 64) (q := 5) (as' := [(false, tab 128 (fun _ => 0)), (false, tab 512 (fun _ => 0)), (false, tab 512 (fun _ => 0)), (false, tab 160 (fun _ => 0)), (false, tab 64 (fun _ => 0)), (false, tab 64 (fun _ => 0))]) (ww hw 91 rfl) rfl (d1 141 rfl) (by decide) rfl (by decide) rfl rfl ?_
  refine Ev.cput (v' := .ref (pre.length + 1 + 5)) (fs' := [.int (0 : Int32), .int (1 : Int32), .int (2 : Int32), .int (3 : Int32), .int (4 : Int32), .int (5 : Int32), .int (6 : Int32), .int (7 : Int32), .int (8 : Int32), .int (9 : Int32), .int (10 : Int32), .int (11 : Int32), .int (12 : Int32), .int (0 : Int32), .int (1 : Int32), .int (2 : Int32), .int (1 : Int32), .int (2 : Int32), .int (3 : Int32), .int (4 : Int32), .int (5 : Int32), .int (6 : Int32), .int (7 : Int32), .int (8 : Int32), .int (9 : Int32), .int (10 : Int32), .int (11 : Int32), .int (12 : Int32), .int (13 : Int32), .int (14 : Int32), .int (15 : Int32), .int (16 : Int32), .int (17 : Int32), .int (18 : Int32), .int (19 : Int32), .int (64 : Int32), .int (160 : Int32), .int (512 : Int32), .int (1024 : Int32), .ref (pre.length + 1 + 0), .ref (pre.length + 1 + 1), .ref (pre.length + 1 + 2), .ref (pre.length + 1 + 3), .ref (pre.length + 1 + 4), .ref (pre.length + 1 + 5), .null, .null, .null, .null, .null, .null, .null, .null, .null, .null, .null, .int 0, .int 0, .int 0, .int 0, .int 0, .int 0, .int 0, .int 0, .int 0, .int 0, .int 0, .int 0, .int 0, .int 0, .int 0, .int 0, .int 0, .int 0, .int 0, .int 0, .int 0, .int 0]) (gok hw) hk (ww hw 102 rfl) (Or.inr ⟨ww hw 103 rfl, rfl, rfl⟩) (d1 142 rfl) (j := 44) rfl rfl rfl ?_
  refine Ev.aloadN (d1 143 rfl) rfl ?_
  refine Ev.bipush (z := 64) (d1 144 rfl) rfl ?_
  refine Ev.cnew (aty := .int) (b := false) (k := 64) (q := 6) (as' := [(false, tab 128 (fun _ => 0)), (false, tab 512 (fun _ => 0)), (false, tab 512 (fun _ => 0)), (false, tab 160 (fun _ => 0)), (false, tab 64 (fun _ => 0)), (false, tab 64 (fun _ => 0)), (false, tab 64 (fun _ => 0))]) (ww hw 91 rfl) rfl (d1 145 rfl) (by decide) rfl (by decide) rfl rfl ?_
  refine Ev.cput (v' := .ref (pre.length + 1 + 6)) (fs' := [.int (0 : Int32), .int (1 : Int32), .int (2 : Int32), .int (3 : Int32), .int (4 : Int32), .int (5 : Int32), .int (6 : Int32), .int (7 : Int32), .int (8 : Int32), .int (9 : Int32), .int (10 : Int32), .int (11 : Int32), .int (12 : Int32), .int (0 : Int32), .int (1 : Int32), .int (2 : Int32), .int (1 : Int32), .int (2 : Int32), .int (3 : Int32), .int (4 : Int32), .int (5 : Int32), .int (6 : Int32), .int (7 : Int32), .int (8 : Int32), .int (9 : Int32), .int (10 : Int32), .int (11 : Int32), .int (12 : Int32), .int (13 : Int32), .int (14 : Int32), .int (15 : Int32), .int (16 : Int32), .int (17 : Int32), .int (18 : Int32), .int (19 : Int32), .int (64 : Int32), .int (160 : Int32), .int (512 : Int32), .int (1024 : Int32), .ref (pre.length + 1 + 0), .ref (pre.length + 1 + 1), .ref (pre.length + 1 + 2), .ref (pre.length + 1 + 3), .ref (pre.length + 1 + 4), .ref (pre.length + 1 + 5), .ref (pre.length + 1 + 6), .null, .null, .null, .null, .null, .null, .null, .null, .null, .null, .int 0, .int 0, .int 0, .int 0, .int 0, .int 0, .int 0, .int 0, .int 0, .int 0, .int 0, .int 0, .int 0, .int 0, .int 0, .int 0, .int 0, .int 0, .int 0, .int 0, .int 0, .int 0]) (gok hw) hk (ww hw 104 rfl) (Or.inr ⟨ww hw 105 rfl, rfl, rfl⟩) (d1 146 rfl) (j := 45) rfl rfl rfl ?_
  refine Ev.aloadN (d1 147 rfl) rfl ?_
  refine Ev.bipush (z := 64) (d1 148 rfl) rfl ?_
  refine Ev.cnew (aty := .int) (b := false) (k := 64) (q := 7) (as' := [(false, tab 128 (fun _ => 0)), (false, tab 512 (fun _ => 0)), (false, tab 512 (fun _ => 0)), (false, tab 160 (fun _ => 0)), (false, tab 64 (fun _ => 0)), (false, tab 64 (fun _ => 0)), (false, tab 64 (fun _ => 0)), (false, tab 64 (fun _ => 0))]) (ww hw 91 rfl) rfl (d1 149 rfl) (by decide) rfl (by decide) rfl rfl ?_
  refine Ev.cput (v' := .ref (pre.length + 1 + 7)) (fs' := [.int (0 : Int32), .int (1 : Int32), .int (2 : Int32), .int (3 : Int32), .int (4 : Int32), .int (5 : Int32), .int (6 : Int32), .int (7 : Int32), .int (8 : Int32), .int (9 : Int32), .int (10 : Int32), .int (11 : Int32), .int (12 : Int32), .int (0 : Int32), .int (1 : Int32), .int (2 : Int32), .int (1 : Int32), .int (2 : Int32), .int (3 : Int32), .int (4 : Int32), .int (5 : Int32), .int (6 : Int32), .int (7 : Int32), .int (8 : Int32), .int (9 : Int32), .int (10 : Int32), .int (11 : Int32), .int (12 : Int32), .int (13 : Int32), .int (14 : Int32), .int (15 : Int32), .int (16 : Int32), .int (17 : Int32), .int (18 : Int32), .int (19 : Int32), .int (64 : Int32), .int (160 : Int32), .int (512 : Int32), .int (1024 : Int32), .ref (pre.length + 1 + 0), .ref (pre.length + 1 + 1), .ref (pre.length + 1 + 2), .ref (pre.length + 1 + 3), .ref (pre.length + 1 + 4), .ref (pre.length + 1 + 5), .ref (pre.length + 1 + 6), .ref (pre.length + 1 + 7), .null, .null, .null, .null, .null, .null, .null, .null, .null, .int 0, .int 0, .int 0, .int 0, .int 0, .int 0, .int 0, .int 0, .int 0, .int 0, .int 0, .int 0, .int 0, .int 0, .int 0, .int 0, .int 0, .int 0, .int 0, .int 0, .int 0, .int 0]) (gok hw) hk (ww hw 106 rfl) (Or.inr ⟨ww hw 107 rfl, rfl, rfl⟩) (d1 150 rfl) (j := 46) rfl rfl rfl ?_
  refine Ev.aloadN (d1 151 rfl) rfl ?_
  refine Ev.bipush (z := 64) (d1 152 rfl) rfl ?_
  refine Ev.cnew (aty := .int) (b := false) (k := 64) (q := 8) (as' := [(false, tab 128 (fun _ => 0)), (false, tab 512 (fun _ => 0)), (false, tab 512 (fun _ => 0)), (false, tab 160 (fun _ => 0)), (false, tab 64 (fun _ => 0)), (false, tab 64 (fun _ => 0)), (false, tab 64 (fun _ => 0)), (false, tab 64 (fun _ => 0)), (false, tab 64 (fun _ => 0))]) (ww hw 91 rfl) rfl (d1 153 rfl) (by decide) rfl (by decide) rfl rfl ?_
  refine Ev.cput (v' := .ref (pre.length + 1 + 8)) (fs' := [.int (0 : Int32), .int (1 : Int32), .int (2 : Int32), .int (3 : Int32), .int (4 : Int32), .int (5 : Int32), .int (6 : Int32), .int (7 : Int32), .int (8 : Int32), .int (9 : Int32), .int (10 : Int32), .int (11 : Int32), .int (12 : Int32), .int (0 : Int32), .int (1 : Int32), .int (2 : Int32), .int (1 : Int32), .int (2 : Int32), .int (3 : Int32), .int (4 : Int32), .int (5 : Int32), .int (6 : Int32), .int (7 : Int32), .int (8 : Int32), .int (9 : Int32), .int (10 : Int32), .int (11 : Int32), .int (12 : Int32), .int (13 : Int32), .int (14 : Int32), .int (15 : Int32), .int (16 : Int32), .int (17 : Int32), .int (18 : Int32), .int (19 : Int32), .int (64 : Int32), .int (160 : Int32), .int (512 : Int32), .int (1024 : Int32), .ref (pre.length + 1 + 0), .ref (pre.length + 1 + 1), .ref (pre.length + 1 + 2), .ref (pre.length + 1 + 3), .ref (pre.length + 1 + 4), .ref (pre.length + 1 + 5), .ref (pre.length + 1 + 6), .ref (pre.length + 1 + 7), .ref (pre.length + 1 + 8), .null, .null, .null, .null, .null, .null, .null, .null, .int 0, .int 0, .int 0, .int 0, .int 0, .int 0, .int 0, .int 0, .int 0, .int 0, .int 0, .int 0, .int 0, .int 0, .int 0, .int 0, .int 0, .int 0, .int 0, .int 0, .int 0, .int 0]) (gok hw) hk (ww hw 108 rfl) (Or.inr ⟨ww hw 109 rfl, rfl, rfl⟩) (d1 154 rfl) (j := 47) rfl rfl rfl ?_
  refine Ev.aloadN (d1 155 rfl) rfl ?_
  refine Ev.bipush (z := 64) (d1 156 rfl) rfl ?_
  refine Ev.cnew (aty := .int) (b := false) (k := 64) (q := 9) (as' := [(false, tab 128 (fun _ => 0)), (false, tab 512 (fun _ => 0)), (false, tab 512 (fun _ => 0)), (false, tab 160 (fun _ => 0)), (false, tab 64 (fun _ => 0)), (false, tab 64 (fun _ => 0)), (false, tab 64 (fun _ => 0)), (false, tab 64 (fun _ => 0)), (false, tab 64 (fun _ => 0)), (false, tab 64 (fun _ => 0))]) (ww hw 91 rfl) rfl (d1 157 rfl) (by decide) rfl (by decide) rfl rfl ?_
  refine Ev.cput (v' := .ref (pre.length + 1 + 9)) (fs' := [.int (0 : Int32), .int (1 : Int32), .int (2 : Int32), .int (3 : Int32), .int (4 : Int32), .int (5 : Int32), .int (6 : Int32), .int (7 : Int32), .int (8 : Int32), .int (9 : Int32), .int (10 : Int32), .int (11 : Int32), .int (12 : Int32), .int (0 : Int32), .int (1 : Int32), .int (2 : Int32), .int (1 : Int32), .int (2 : Int32), .int (3 : Int32), .int (4 : Int32), .int (5 : Int32), .int (6 : Int32), .int (7 : Int32), .int (8 : Int32), .int (9 : Int32), .int (10 : Int32), .int (11 : Int32), .int (12 : Int32), .int (13 : Int32), .int (14 : Int32), .int (15 : Int32), .int (16 : Int32), .int (17 : Int32), .int (18 : Int32), .int (19 : Int32), .int (64 : Int32), .int (160 : Int32), .int (512 : Int32), .int (1024 : Int32), .ref (pre.length + 1 + 0), .ref (pre.length + 1 + 1), .ref (pre.length + 1 + 2), .ref (pre.length + 1 + 3), .ref (pre.length + 1 + 4), .ref (pre.length + 1 + 5), .ref (pre.length + 1 + 6), .ref (pre.length + 1 + 7), .ref (pre.length + 1 + 8), .ref (pre.length + 1 + 9), .null, .null, .null, .null, .null, .null, .null, .int 0, .int 0, .int 0, .int 0, .int 0, .int 0, .int 0, .int 0, .int 0, .int 0, .int 0, .int 0, .int 0, .int 0, .int 0, .int 0, .int 0, .int 0, .int 0, .int 0, .int 0, .int 0]) (gok hw) hk (ww hw 110 rfl) (Or.inr ⟨ww hw 111 rfl, rfl, rfl⟩) (d1 158 rfl) (j := 48) rfl rfl rfl ?_
  refine Ev.aloadN (d1 159 rfl) rfl ?_
  refine Ev.bipush (z := 64) (d1 160 rfl) rfl ?_
  refine Ev.cnew (aty := .int) (b := false) (k := 64) (q := 10) (as' := [(false, tab 128 (fun _ => 0)), (false, tab 512 (fun _ => 0)), (false, tab 512 (fun _ => 0)), (false, tab 160 (fun _ => 0)), (false, tab 64 (fun _ => 0)), (false, tab 64 (fun _ => 0)), (false, tab 64 (fun _ => 0)), (false, tab 64 (fun _ => 0)), (false, tab 64 (fun _ => 0)), (false, tab 64 (fun _ => 0)), (false, tab 64 (fun _ => 0))]) (ww hw 91 rfl) rfl (d1 161 rfl) (by decide) rfl (by decide) rfl rfl ?_
  refine Ev.cput (v' := .ref (pre.length + 1 + 10)) (fs' := [.int (0 : Int32), .int (1 : Int32), .int (2 : Int32), .int (3 : Int32), .int (4 : Int32), .int (5 : Int32), .int (6 : Int32), .int (7 : Int32), .int (8 : Int32), .int (9 : Int32), .int (10 : Int32), .int (11 : Int32), .int (12 : Int32), .int (0 : Int32), .int (1 : Int32), .int (2 : Int32), .int (1 : Int32), .int (2 : Int32), .int (3 : Int32), .int (4 : Int32), .int (5 : Int32), .int (6 : Int32), .int (7 : Int32), .int (8 : Int32), .int (9 : Int32), .int (10 : Int32), .int (11 : Int32), .int (12 : Int32), .int (13 : Int32), .int (14 : Int32), .int (15 : Int32), .int (16 : Int32), .int (17 : Int32), .int (18 : Int32), .int (19 : Int32), .int (64 : Int32), .int (160 : Int32), .int (512 : Int32), .int (1024 : Int32), .ref (pre.length + 1 + 0), .ref (pre.length + 1 + 1), .ref (pre.length + 1 + 2), .ref (pre.length + 1 + 3), .ref (pre.length + 1 + 4), .ref (pre.length + 1 + 5), .ref (pre.length + 1 + 6), .ref (pre.length + 1 + 7), .ref (pre.length + 1 + 8), .ref (pre.length + 1 + 9), .ref (pre.length + 1 + 10), .null, .null, .null, .null, .null, .null, .int 0, .int 0, .int 0, .int 0, .int 0, .int 0, .int 0, .int 0, .int 0, .int 0, .int 0, .int 0, .int 0, .int 0, .int 0, .int 0, .int 0, .int 0, .int 0, .int 0, .int 0, .int 0]) (gok hw) hk (ww hw 112 rfl) (Or.inr ⟨ww hw 113 rfl, rfl, rfl⟩) (d1 162 rfl) (j := 49) rfl rfl rfl ?_
  refine Ev.aloadN (d1 163 rfl) rfl ?_
  refine Ev.sipush (z := 1024) (d1 164 rfl) rfl ?_
  refine Ev.cnew (aty := .int) (b := false) (k := 1024) (q := 11) (as' := [(false, tab 128 (fun _ => 0)), (false, tab 512 (fun _ => 0)), (false, tab 512 (fun _ => 0)), (false, tab 160 (fun _ => 0)), (false, tab 64 (fun _ => 0)), (false, tab 64 (fun _ => 0)), (false, tab 64 (fun _ => 0)), (false, tab 64 (fun _ => 0)), (false, tab 64 (fun _ => 0)), (false, tab 64 (fun _ => 0)), (false, tab 64 (fun _ => 0)), (false, tab 1024 (fun _ => 0))]) (ww hw 91 rfl) rfl (d1 165 rfl) (by decide) rfl (by decide) rfl rfl ?_
  refine Ev.cput (v' := .ref (pre.length + 1 + 11)) (fs' := [.int (0 : Int32), .int (1 : Int32), .int (2 : Int32), .int (3 : Int32), .int (4 : Int32), .int (5 : Int32), .int (6 : Int32), .int (7 : Int32), .int (8 : Int32), .int (9 : Int32), .int (10 : Int32), .int (11 : Int32), .int (12 : Int32), .int (0 : Int32), .int (1 : Int32), .int (2 : Int32), .int (1 : Int32), .int (2 : Int32), .int (3 : Int32), .int (4 : Int32), .int (5 : Int32), .int (6 : Int32), .int (7 : Int32), .int (8 : Int32), .int (9 : Int32), .int (10 : Int32), .int (11 : Int32), .int (12 : Int32), .int (13 : Int32), .int (14 : Int32), .int (15 : Int32), .int (16 : Int32), .int (17 : Int32), .int (18 : Int32), .int (19 : Int32), .int (64 : Int32), .int (160 : Int32), .int (512 : Int32), .int (1024 : Int32), .ref (pre.length + 1 + 0), .ref (pre.length + 1 + 1), .ref (pre.length + 1 + 2), .ref (pre.length + 1 + 3), .ref (pre.length + 1 + 4), .ref (pre.length + 1 + 5), .ref (pre.length + 1 + 6), .ref (pre.length + 1 + 7), .ref (pre.length + 1 + 8), .ref (pre.length + 1 + 9), .ref (pre.length + 1 + 10), .ref (pre.length + 1 + 11), .null, .null, .null, .null, .null, .int 0, .int 0, .int 0, .int 0, .int 0, .int 0, .int 0, .int 0, .int 0, .int 0, .int 0, .int 0, .int 0, .int 0, .int 0, .int 0, .int 0, .int 0, .int 0, .int 0, .int 0, .int 0]) (gok hw) hk (ww hw 114 rfl) (Or.inr ⟨ww hw 115 rfl, rfl, rfl⟩) (d1 166 rfl) (j := 50) rfl rfl rfl ?_
  refine Ev.aloadN (d1 167 rfl) rfl ?_
  refine Ev.sipush (z := 1024) (d1 168 rfl) rfl ?_
  refine Ev.cnew (aty := .int) (b := false) (k := 1024) (q := 12) (as' := [(false, tab 128 (fun _ => 0)), (false, tab 512 (fun _ => 0)), (false, tab 512 (fun _ => 0)), (false, tab 160 (fun _ => 0)), (false, tab 64 (fun _ => 0)), (false, tab 64 (fun _ => 0)), (false, tab 64 (fun _ => 0)), (false, tab 64 (fun _ => 0)), (false, tab 64 (fun _ => 0)), (false, tab 64 (fun _ => 0)), (false, tab 64 (fun _ => 0)), (false, tab 1024 (fun _ => 0)), (false, tab 1024 (fun _ => 0))]) (ww hw 91 rfl) rfl (d1 169 rfl) (by decide) rfl (by decide) rfl rfl ?_
  refine Ev.cput (v' := .ref (pre.length + 1 + 12)) (fs' := [.int (0 : Int32), .int (1 : Int32), .int (2 : Int32), .int (3 : Int32), .int (4 : Int32), .int (5 : Int32), .int (6 : Int32), .int (7 : Int32), .int (8 : Int32), .int (9 : Int32), .int (10 : Int32), .int (11 : Int32), .int (12 : Int32), .int (0 : Int32), .int (1 : Int32), .int (2 : Int32), .int (1 : Int32), .int (2 : Int32), .int (3 : Int32), .int (4 : Int32), .int (5 : Int32), .int (6 : Int32), .int (7 : Int32), .int (8 : Int32), .int (9 : Int32), .int (10 : Int32), .int (11 : Int32), .int (12 : Int32), .int (13 : Int32), .int (14 : Int32), .int (15 : Int32), .int (16 : Int32), .int (17 : Int32), .int (18 : Int32), .int (19 : Int32), .int (64 : Int32), .int (160 : Int32), .int (512 : Int32), .int (1024 : Int32), .ref (pre.length + 1 + 0), .ref (pre.length + 1 + 1), .ref (pre.length + 1 + 2), .ref (pre.length + 1 + 3), .ref (pre.length + 1 + 4), .ref (pre.length + 1 + 5), .ref (pre.length + 1 + 6), .ref (pre.length + 1 + 7), .ref (pre.length + 1 + 8), .ref (pre.length + 1 + 9), .ref (pre.length + 1 + 10), .ref (pre.length + 1 + 11), .ref (pre.length + 1 + 12), .null, .null, .null, .null, .int 0, .int 0, .int 0, .int 0, .int 0, .int 0, .int 0, .int 0, .int 0, .int 0, .int 0, .int 0, .int 0, .int 0, .int 0, .int 0, .int 0, .int 0, .int 0, .int 0, .int 0, .int 0]) (gok hw) hk (ww hw 116 rfl) (Or.inr ⟨ww hw 117 rfl, rfl, rfl⟩) (d1 170 rfl) (j := 51) rfl rfl rfl ?_
  refine Ev.aloadN (d1 171 rfl) rfl ?_
  refine Ev.bipush (z := 64) (d1 172 rfl) rfl ?_
  refine Ev.cnew (aty := .int) (b := false) (k := 64) (q := 13) (as' := [(false, tab 128 (fun _ => 0)), (false, tab 512 (fun _ => 0)), (false, tab 512 (fun _ => 0)), (false, tab 160 (fun _ => 0)), (false, tab 64 (fun _ => 0)), (false, tab 64 (fun _ => 0)), (false, tab 64 (fun _ => 0)), (false, tab 64 (fun _ => 0)), (false, tab 64 (fun _ => 0)), (false, tab 64 (fun _ => 0)), (false, tab 64 (fun _ => 0)), (false, tab 1024 (fun _ => 0)), (false, tab 1024 (fun _ => 0)), (false, tab 64 (fun _ => 0))]) (ww hw 91 rfl) rfl (d1 173 rfl) (by decide) rfl (by decide) rfl rfl ?_
  refine Ev.cput (v' := .ref (pre.length + 1 + 13)) (fs' := [.int (0 : Int32), .int (1 : Int32), .int (2 : Int32), .int (3 : Int32), .int (4 : Int32), .int (5 : Int32), .int (6 : Int32), .int (7 : Int32), .int (8 : Int32), .int (9 : Int32), .int (10 : Int32), .int (11 : Int32), .int (12 : Int32), .int (0 : Int32), .int (1 : Int32), .int (2 : Int32), .int (1 : Int32), .int (2 : Int32), .int (3 : Int32), .int (4 : Int32), .int (5 : Int32), .int (6 : Int32), .int (7 : Int32), .int (8 : Int32), .int (9 : Int32), .int (10 : Int32), .int (11 : Int32), .int (12 : Int32), .int (13 : Int32), .int (14 : Int32), .int (15 : Int32), .int (16 : Int32), .int (17 : Int32), .int (18 : Int32), .int (19 : Int32), .int (64 : Int32), .int (160 : Int32), .int (512 : Int32), .int (1024 : Int32), .ref (pre.length + 1 + 0), .ref (pre.length + 1 + 1), .ref (pre.length + 1 + 2), .ref (pre.length + 1 + 3), .ref (pre.length + 1 + 4), .ref (pre.length + 1 + 5), .ref (pre.length + 1 + 6), .ref (pre.length + 1 + 7), .ref (pre.length + 1 + 8), .ref (pre.length + 1 + 9), .ref (pre.length + 1 + 10), .ref (pre.length + 1 + 11), .ref (pre.length + 1 + 12), .ref (pre.length + 1 + 13), .null, .null, .null, .int 0, .int 0, .int 0, .int 0, .int 0, .int 0, .int 0, .int 0, .int 0, .int 0, .int 0, .int 0, .int 0, .int 0, .int 0, .int 0, .int 0, .int 0, .int 0, .int 0, .int 0, .int 0]) (gok hw) hk (ww hw 118 rfl) (Or.inr ⟨ww hw 119 rfl, rfl, rfl⟩) (d1 174 rfl) (j := 52) rfl rfl rfl ?_
  refine Ev.aloadN (d1 175 rfl) rfl ?_
  refine Ev.bipush (z := 64) (d1 176 rfl) rfl ?_
  refine Ev.cnew (aty := .int) (b := false) (k := 64) (q := 14) (as' := [(false, tab 128 (fun _ => 0)), (false, tab 512 (fun _ => 0)), (false, tab 512 (fun _ => 0)), (false, tab 160 (fun _ => 0)), (false, tab 64 (fun _ => 0)), (false, tab 64 (fun _ => 0)), (false, tab 64 (fun _ => 0)), (false, tab 64 (fun _ => 0)), (false, tab 64 (fun _ => 0)), (false, tab 64 (fun _ => 0)), (false, tab 64 (fun _ => 0)), (false, tab 1024 (fun _ => 0)), (false, tab 1024 (fun _ => 0)), (false, tab 64 (fun _ => 0)), (false, tab 64 (fun _ => 0))]) (ww hw 91 rfl) rfl (d1 177 rfl) (by decide) rfl (by decide) rfl rfl ?_
  refine Ev.cput (v' := .ref (pre.length + 1 + 14)) (fs' := [.int (0 : Int32), .int (1 : Int32), .int (2 : Int32), .int (3 : Int32), .int (4 : Int32), .int (5 : Int32), .int (6 : Int32), .int (7 : Int32), .int (8 : Int32), .int (9 : Int32), .int (10 : Int32), .int (11 : Int32), .int (12 : Int32), .int (0 : Int32), .int (1 : Int32), .int (2 : Int32), .int (1 : Int32), .int (2 : Int32), .int (3 : Int32), .int (4 : Int32), .int (5 : Int32), .int (6 : Int32), .int (7 : Int32), .int (8 : Int32), .int (9 : Int32), .int (10 : Int32), .int (11 : Int32), .int (12 : Int32), .int (13 : Int32), .int (14 : Int32), .int (15 : Int32), .int (16 : Int32), .int (17 : Int32), .int (18 : Int32), .int (19 : Int32), .int (64 : Int32), .int (160 : Int32), .int (512 : Int32), .int (1024 : Int32), .ref (pre.length + 1 + 0), .ref (pre.length + 1 + 1), .ref (pre.length + 1 + 2), .ref (pre.length + 1 + 3), .ref (pre.length + 1 + 4), .ref (pre.length + 1 + 5), .ref (pre.length + 1 + 6), .ref (pre.length + 1 + 7), .ref (pre.length + 1 + 8), .ref (pre.length + 1 + 9), .ref (pre.length + 1 + 10), .ref (pre.length + 1 + 11), .ref (pre.length + 1 + 12), .ref (pre.length + 1 + 13), .ref (pre.length + 1 + 14), .null, .null, .int 0, .int 0, .int 0, .int 0, .int 0, .int 0, .int 0, .int 0, .int 0, .int 0, .int 0, .int 0, .int 0, .int 0, .int 0, .int 0, .int 0, .int 0, .int 0, .int 0, .int 0, .int 0]) (gok hw) hk (ww hw 120 rfl) (Or.inr ⟨ww hw 121 rfl, rfl, rfl⟩) (d1 178 rfl) (j := 53) rfl rfl rfl ?_
  refine Ev.aloadN (d1 179 rfl) rfl ?_
  refine Ev.bipush (z := 64) (d1 180 rfl) rfl ?_
  refine Ev.cnew (aty := .int) (b := false) (k := 64) (q := 15) (as' := [(false, tab 128 (fun _ => 0)), (false, tab 512 (fun _ => 0)), (false, tab 512 (fun _ => 0)), (false, tab 160 (fun _ => 0)), (false, tab 64 (fun _ => 0)), (false, tab 64 (fun _ => 0)), (false, tab 64 (fun _ => 0)), (false, tab 64 (fun _ => 0)), (false, tab 64 (fun _ => 0)), (false, tab 64 (fun _ => 0)), (false, tab 64 (fun _ => 0)), (false, tab 1024 (fun _ => 0)), (false, tab 1024 (fun _ => 0)), (false, tab 64 (fun _ => 0)), (false, tab 64 (fun _ => 0)), (false, tab 64 (fun _ => 0))]) (ww hw 91 rfl) rfl (d1 181 rfl) (by decide) rfl (by decide) rfl rfl ?_
  refine Ev.cput (v' := .ref (pre.length + 1 + 15)) (fs' := [.int (0 : Int32), .int (1 : Int32), .int (2 : Int32), .int (3 : Int32), .int (4 : Int32), .int (5 : Int32), .int (6 : Int32), .int (7 : Int32), .int (8 : Int32), .int (9 : Int32), .int (10 : Int32), .int (11 : Int32), .int (12 : Int32), .int (0 : Int32), .int (1 : Int32), .int (2 : Int32), .int (1 : Int32), .int (2 : Int32), .int (3 : Int32), .int (4 : Int32), .int (5 : Int32), .int (6 : Int32), .int (7 : Int32), .int (8 : Int32), .int (9 : Int32), .int (10 : Int32), .int (11 : Int32), .int (12 : Int32), .int (13 : Int32), .int (14 : Int32), .int (15 : Int32), .int (16 : Int32), .int (17 : Int32), .int (18 : Int32), .int (19 : Int32), .int (64 : Int32), .int (160 : Int32), .int (512 : Int32), .int (1024 : Int32), .ref (pre.length + 1 + 0), .ref (pre.length + 1 + 1), .ref (pre.length + 1 + 2), .ref (pre.length + 1 + 3), .ref (pre.length + 1 + 4), .ref (pre.length + 1 + 5), .ref (pre.length + 1 + 6), .ref (pre.length + 1 + 7), .ref (pre.length + 1 + 8), .ref (pre.length + 1 + 9), .ref (pre.length + 1 + 10), .ref (pre.length + 1 + 11), .ref (pre.length + 1 + 12), .ref (pre.length + 1 + 13), .ref (pre.length + 1 + 14), .ref (pre.length + 1 + 15), .null, .int 0, .int 0, .int 0, .int 0, .int 0, .int 0, .int 0, .int 0, .int 0, .int 0, .int 0, .int 0, .int 0, .int 0, .int 0, .int 0, .int 0, .int 0, .int 0, .int 0, .int 0, .int 0]) (gok hw) hk (ww hw 122 rfl) (Or.inr ⟨ww hw 123 rfl, rfl, rfl⟩) (d1 182 rfl) (j := 54) rfl rfl rfl ?_
  refine Ev.aloadN (d1 183 rfl) rfl ?_
  refine Ev.sipush (z := 512) (d1 184 rfl) rfl ?_
  refine Ev.cnew (aty := .int) (b := false) (k := 512) (q := 16) (as' := [(false, tab 128 (fun _ => 0)), (false, tab 512 (fun _ => 0)), (false, tab 512 (fun _ => 0)), (false, tab 160 (fun _ => 0)), (false, tab 64 (fun _ => 0)), (false, tab 64 (fun _ => 0)), (false, tab 64 (fun _ => 0)), (false, tab 64 (fun _ => 0)), (false, tab 64 (fun _ => 0)), (false, tab 64 (fun _ => 0)), (false, tab 64 (fun _ => 0)), (false, tab 1024 (fun _ => 0)), (false, tab 1024 (fun _ => 0)), (false, tab 64 (fun _ => 0)), (false, tab 64 (fun _ => 0)), (false, tab 64 (fun _ => 0)), (false, tab 512 (fun _ => 0))]) (ww hw 91 rfl) rfl (d1 185 rfl) (by decide) rfl (by decide) rfl rfl ?_
  refine Ev.cput (v' := .ref (pre.length + 1 + 16)) (fs' := [.int (0 : Int32), .int (1 : Int32), .int (2 : Int32), .int (3 : Int32), .int (4 : Int32), .int (5 : Int32), .int (6 : Int32), .int (7 : Int32), .int (8 : Int32), .int (9 : Int32), .int (10 : Int32), .int (11 : Int32), .int (12 : Int32), .int (0 : Int32), .int (1 : Int32), .int (2 : Int32), .int (1 : Int32), .int (2 : Int32), .int (3 : Int32), .int (4 : Int32), .int (5 : Int32), .int (6 : Int32), .int (7 : Int32), .int (8 : Int32), .int (9 : Int32), .int (10 : Int32), .int (11 : Int32), .int (12 : Int32), .int (13 : Int32), .int (14 : Int32), .int (15 : Int32), .int (16 : Int32), .int (17 : Int32), .int (18 : Int32), .int (19 : Int32), .int (64 : Int32), .int (160 : Int32), .int (512 : Int32), .int (1024 : Int32), .ref (pre.length + 1 + 0), .ref (pre.length + 1 + 1), .ref (pre.length + 1 + 2), .ref (pre.length + 1 + 3), .ref (pre.length + 1 + 4), .ref (pre.length + 1 + 5), .ref (pre.length + 1 + 6), .ref (pre.length + 1 + 7), .ref (pre.length + 1 + 8), .ref (pre.length + 1 + 9), .ref (pre.length + 1 + 10), .ref (pre.length + 1 + 11), .ref (pre.length + 1 + 12), .ref (pre.length + 1 + 13), .ref (pre.length + 1 + 14), .ref (pre.length + 1 + 15), .ref (pre.length + 1 + 16), .int 0, .int 0, .int 0, .int 0, .int 0, .int 0, .int 0, .int 0, .int 0, .int 0, .int 0, .int 0, .int 0, .int 0, .int 0, .int 0, .int 0, .int 0, .int 0, .int 0, .int 0, .int 0]) (gok hw) hk (ww hw 124 rfl) (Or.inr ⟨ww hw 125 rfl, rfl, rfl⟩) (d1 186 rfl) (j := 55) rfl rfl rfl ?_
  show Ev (GG g) M_ctor 370 [.val (.ref pre.length), .val (.int a0), .unset] [] (KH flds al Ln pre [] (setI (setI (setI (setI (setI (setI (setI (setI (setI (setI (setI (setI (setI (setI (setI (setI (setI (setI (setI (setI (setI (setI (setI (setI (setI (setI (setI (setI (setI (setI (setI (setI (setI (setI (setI (setI (setI (setI (setI zeroS 0 (0 : Int32)) 1 (1 : Int32)) 2 (2 : Int32)) 3 (3 : Int32)) 4 (4 : Int32)) 5 (5 : Int32)) 6 (6 : Int32)) 7 (7 : Int32)) 8 (8 : Int32)) 9 (9 : Int32)) 10 (10 : Int32)) 11 (11 : Int32)) 12 (12 : Int32)) 13 (0 : Int32)) 14 (1 : Int32)) 15 (2 : Int32)) 16 (1 : Int32)) 17 (2 : Int32)) 18 (3 : Int32)) 19 (4 : Int32)) 20 (5 : Int32)) 21 (6 : Int32)) 22 (7 : Int32)) 23 (8 : Int32)) 24 (9 : Int32)) 25 (10 : Int32)) 26 (11 : Int32)) 27 (12 : Int32)) 28 (13 : Int32)) 29 (14 : Int32)) 30 (15 : Int32)) 31 (16 : Int32)) 32 (17 : Int32)) 33 (18 : Int32)) 34 (19 : Int32)) 35 (64 : Int32)) 36 (160 : Int32)) 37 (512 : Int32)) 38 (1024 : Int32))) _
  exact e_ctor_370 hw (K := KH flds al Ln pre []) (o := pre.length) (r := rA pre.length al) (view_of hk al_ok al_nd) a0 (setI (setI (setI (setI (setI (setI (setI (setI (setI (setI (setI (setI (setI (setI (setI (setI (setI (setI (setI (setI (setI (setI (setI (setI (setI (setI (setI (setI (setI (setI (setI (setI (setI (setI (setI (setI (setI (setI (setI zeroS 0 (0 : Int32)) 1 (1 : Int32)) 2 (2 : Int32)) 3 (3 : Int32)) 4 (4 : Int32)) 5 (5 : Int32)) 6 (6 : Int32)) 7 (7 : Int32)) 8 (8 : Int32)) 9 (9 : Int32)) 10 (10 : Int32)) 11 (11 : Int32)) 12 (12 : Int32)) 13 (0 : Int32)) 14 (1 : Int32)) 15 (2 : Int32)) 16 (1 : Int32)) 17 (2 : Int32)) 18 (3 : Int32)) 19 (4 : Int32)) 20 (5 : Int32)) 21 (6 : Int32)) 22 (7 : Int32)) 23 (8 : Int32)) 24 (9 : Int32)) 25 (10 : Int32)) 26 (11 : Int32)) 27 (12 : Int32)) 28 (13 : Int32)) 29 (14 : Int32)) 30 (15 : Int32)) 31 (16 : Int32)) 32 (17 : Int32)) 33 (18 : Int32)) 34 (19 : Int32)) 35 (64 : Int32)) 36 (160 : Int32)) 37 (512 : Int32)) 38 (1024 : Int32)) .unset rfl _ hr
def f_varIndex (s : St) (a0 : Int32) : Option (Int32) :=
  if a0 = (120 : Int32) then
    some (0 : Int32)
  else
    if a0 = (121 : Int32) then
      some (1 : Int32)
    else
      if a0 = (122 : Int32) then
        some (2 : Int32)
      else
        some (-1 : Int32)
set_option maxRecDepth 100000 in
theorem e_varIndex {g : GT} {s : St} {a0 : Int32} {w : Int32} (hw : HW g) {K : St → MHeap} {o : Nat} {r : Nat → Nat} (V : View (GG g) Ln K o r) (hr : f_varIndex s a0 = some w) : EvC (GG g) M_varIndex [.ref o, .int a0] (K s) ((some (.int w)), (K s)) := by
  refine EvC.enter (L0 := [.val (.ref o), .val (.int a0)]) pl_varIndex (fun h => nomatch h) rfl rfl ?_
  unfold f_varIndex at hr
  refine Ev.iloadN (d6 0 rfl) rfl ?_
  refine Ev.bipush (z := 120) (d6 1 rfl) rfl ?_
  refine Ev.icne (t := 8) (d6 2 rfl) rfl (fun c1 => ?_) (fun c1 => ?_)
  · replace hr := (if_pos c1).symm.trans hr
    refine Ev.iconst (z := 0) (d6 3 rfl) rfl ?_
    cases hr
    exact Ev.ireturn rfl (d6 4 rfl)
  · replace hr := (if_neg c1).symm.trans hr
    refine Ev.iloadN (d6 5 rfl) rfl ?_
    refine Ev.bipush (z := 121) (d6 6 rfl) rfl ?_
    refine Ev.icne (t := 16) (d6 7 rfl) rfl (fun c2 => ?_) (fun c2 => ?_)
    · replace hr := (if_pos c2).symm.trans hr
      refine Ev.iconst (z := 1) (d6 8 rfl) rfl ?_
      cases hr
      exact Ev.ireturn rfl (d6 9 rfl)
    · replace hr := (if_neg c2).symm.trans hr
      refine Ev.iloadN (d6 10 rfl) rfl ?_
      refine Ev.bipush (z := 122) (d6 11 rfl) rfl ?_
      refine Ev.icne (t := 24) (d6 12 rfl) rfl (fun c3 => ?_) (fun c3 => ?_)
      · replace hr := (if_pos c3).symm.trans hr
        refine Ev.iconst (z := 2) (d6 13 rfl) rfl ?_
        cases hr
        exact Ev.ireturn rfl (d6 14 rfl)
      · replace hr := (if_neg c3).symm.trans hr
        refine Ev.iconst (z := -1) (d6 15 rfl) rfl ?_
        cases hr
        exact Ev.ireturn rfl (d6 16 rfl)
def f_accepted_22 (s : St) (x1 : Int32) : Option (Int32) :=
  if x1 = (43 : Int32) then
    some (1 : Int32)
  else
    if x1 = (45 : Int32) then
      some (1 : Int32)
    else
      if x1 = (42 : Int32) then
        some (1 : Int32)
      else
        if x1 = (60 : Int32) then
          some (1 : Int32)
        else
          if x1 = (61 : Int32) then
            some (1 : Int32)
          else
            if x1 = (33 : Int32) then
              some (1 : Int32)
            else
              if x1 = (38 : Int32) then
                some (1 : Int32)
              else
                if x1 = (124 : Int32) then
                  some (1 : Int32)
                else
                  if x1 = (91 : Int32) then
                    some (1 : Int32)
                  else
                    if x1 = (93 : Int32) then
                      some (1 : Int32)
                    else
                      if x1 = (40 : Int32) then
                        some (1 : Int32)
                      else
                        if x1 = (41 : Int32) then
                          some (1 : Int32)
                        else
                          if x1 = (123 : Int32) then
                            some (1 : Int32)
                          else
                            if x1 = (125 : Int32) then
                              some (1 : Int32)
                            else
                              if x1 = (59 : Int32) then
                                some (1 : Int32)
                              else
                                if x1 = (63 : Int32) then
                                  some (1 : Int32)
                                else
                                  if x1 = (64 : Int32) then
                                    some (1 : Int32)
                                  else
                                    if x1 = (87 : Int32) then
                                      some (1 : Int32)
                                    else
                                      if x1 = (80 : Int32) then
                                        some (1 : Int32)
                                      else
                                        if x1 = (81 : Int32) then
                                          some (1 : Int32)
                                        else
                                          if x1 = (84 : Int32) then
                                            some (1 : Int32)
                                          else
                                            if x1 = (70 : Int32) then
                                              some (1 : Int32)
                                            else
                                              some (0 : Int32)
set_option maxRecDepth 100000 in
theorem e_accepted_22 {g : GT} {s : St} (hw : HW g) {K : St → MHeap} {o : Nat} {r : Nat → Nat} (V : View (GG g) Ln K o r) (x1 : Int32) (y0 : Slot) (hy0 : one1 y0 = true) (w : Int32) (hr : f_accepted_22 s x1 = some w) : Ev (GG g) M_accepted 22 [y0, .val (.int x1)] [] (K s) ((some (.int w)), (K s)) := by
  unfold f_accepted_22 at hr
  refine Ev.iloadN (d5 12 rfl) rfl ?_
  refine Ev.bipush (z := 43) (d5 13 rfl) rfl ?_
  refine Ev.iceq (t := 58) (d5 14 rfl) rfl (fun c1 => ?_) (fun c1 => ?_)
  · replace hr := (if_pos c1).symm.trans hr
    refine Ev.iconst (z := 1) (d5 30 rfl) rfl ?_
    cases hr
    exact Ev.zret1 rfl (d5 31 rfl)
  · replace hr := (if_neg c1).symm.trans hr
    refine Ev.iloadN (d5 15 rfl) rfl ?_
    refine Ev.bipush (z := 45) (d5 16 rfl) rfl ?_
    refine Ev.iceq (t := 58) (d5 17 rfl) rfl (fun c2 => ?_) (fun c2 => ?_)
    · replace hr := (if_pos c2).symm.trans hr
      refine Ev.iconst (z := 1) (d5 30 rfl) rfl ?_
      cases hr
      exact Ev.zret1 rfl (d5 31 rfl)
    · replace hr := (if_neg c2).symm.trans hr
      refine Ev.iloadN (d5 18 rfl) rfl ?_
      refine Ev.bipush (z := 42) (d5 19 rfl) rfl ?_
      refine Ev.iceq (t := 58) (d5 20 rfl) rfl (fun c3 => ?_) (fun c3 => ?_)
      · replace hr := (if_pos c3).symm.trans hr
        refine Ev.iconst (z := 1) (d5 30 rfl) rfl ?_
        cases hr
        exact Ev.zret1 rfl (d5 31 rfl)
      · replace hr := (if_neg c3).symm.trans hr
        refine Ev.iloadN (d5 21 rfl) rfl ?_
        refine Ev.bipush (z := 60) (d5 22 rfl) rfl ?_
        refine Ev.iceq (t := 58) (d5 23 rfl) rfl (fun c4 => ?_) (fun c4 => ?_)
        · replace hr := (if_pos c4).symm.trans hr
          refine Ev.iconst (z := 1) (d5 30 rfl) rfl ?_
          cases hr
          exact Ev.zret1 rfl (d5 31 rfl)
        · replace hr := (if_neg c4).symm.trans hr
          refine Ev.iloadN (d5 24 rfl) rfl ?_
          refine Ev.bipush (z := 61) (d5 25 rfl) rfl ?_
          refine Ev.iceq (t := 58) (d5 26 rfl) rfl (fun c5 => ?_) (fun c5 => ?_)
          · replace hr := (if_pos c5).symm.trans hr
            refine Ev.iconst (z := 1) (d5 30 rfl) rfl ?_
            cases hr
            exact Ev.zret1 rfl (d5 31 rfl)
          · replace hr := (if_neg c5).symm.trans hr
            refine Ev.iloadN (d5 27 rfl) rfl ?_
            refine Ev.bipush (z := 33) (d5 28 rfl) rfl ?_
            refine Ev.icne (t := 60) (d5 29 rfl) rfl (fun c6 => ?_) (fun c6 => ?_)
            · replace hr := (if_pos c6).symm.trans hr
              refine Ev.iconst (z := 1) (d5 30 rfl) rfl ?_
              cases hr
              exact Ev.zret1 rfl (d5 31 rfl)
            · replace hr := (if_neg c6).symm.trans hr
              refine Ev.iloadN (d5 32 rfl) rfl ?_
              refine Ev.bipush (z := 38) (d5 33 rfl) rfl ?_
              refine Ev.iceq (t := 96) (d5 34 rfl) rfl (fun c7 => ?_) (fun c7 => ?_)
              · replace hr := (if_pos c7).symm.trans hr
                refine Ev.iconst (z := 1) (d5 50 rfl) rfl ?_
                cases hr
                exact Ev.zret1 rfl (d5 51 rfl)
              · replace hr := (if_neg c7).symm.trans hr
                refine Ev.iloadN (d5 35 rfl) rfl ?_
                refine Ev.bipush (z := 124) (d5 36 rfl) rfl ?_
                refine Ev.iceq (t := 96) (d5 37 rfl) rfl (fun c8 => ?_) (fun c8 => ?_)
                · replace hr := (if_pos c8).symm.trans hr
                  refine Ev.iconst (z := 1) (d5 50 rfl) rfl ?_
                  cases hr
                  exact Ev.zret1 rfl (d5 51 rfl)
                · replace hr := (if_neg c8).symm.trans hr
                  refine Ev.iloadN (d5 38 rfl) rfl ?_
                  refine Ev.bipush (z := 91) (d5 39 rfl) rfl ?_
                  refine Ev.iceq (t := 96) (d5 40 rfl) rfl (fun c9 => ?_) (fun c9 => ?_)
                  · replace hr := (if_pos c9).symm.trans hr
                    refine Ev.iconst (z := 1) (d5 50 rfl) rfl ?_
                    cases hr
                    exact Ev.zret1 rfl (d5 51 rfl)
                  · replace hr := (if_neg c9).symm.trans hr
                    refine Ev.iloadN (d5 41 rfl) rfl ?_
                    refine Ev.bipush (z := 93) (d5 42 rfl) rfl ?_
                    refine Ev.iceq (t := 96) (d5 43 rfl) rfl (fun c10 => ?_) (fun c10 => ?_)
                    · replace hr := (if_pos c10).symm.trans hr
                      refine Ev.iconst (z := 1) (d5 50 rfl) rfl ?_
                      cases hr
                      exact Ev.zret1 rfl (d5 51 rfl)
                    · replace hr := (if_neg c10).symm.trans hr
                      refine Ev.iloadN (d5 44 rfl) rfl ?_
                      refine Ev.bipush (z := 40) (d5 45 rfl) rfl ?_
                      refine Ev.iceq (t := 96) (d5 46 rfl) rfl (fun c11 => ?_) (fun c11 => ?_)
                      · replace hr := (if_pos c11).symm.trans hr
                        refine Ev.iconst (z := 1) (d5 50 rfl) rfl ?_
                        cases hr
                        exact Ev.zret1 rfl (d5 51 rfl)
                      · replace hr := (if_neg c11).symm.trans hr
                        refine Ev.iloadN (d5 47 rfl) rfl ?_
                        refine Ev.bipush (z := 41) (d5 48 rfl) rfl ?_
                        refine Ev.icne (t := 98) (d5 49 rfl) rfl (fun c12 => ?_) (fun c12 => ?_)
                        · replace hr := (if_pos c12).symm.trans hr
                          refine Ev.iconst (z := 1) (d5 50 rfl) rfl ?_
                          cases hr
                          exact Ev.zret1 rfl (d5 51 rfl)
                        · replace hr := (if_neg c12).symm.trans hr
                          refine Ev.iloadN (d5 52 rfl) rfl ?_
                          refine Ev.bipush (z := 123) (d5 53 rfl) rfl ?_
                          refine Ev.iceq (t := 128) (d5 54 rfl) rfl (fun c13 => ?_) (fun c13 => ?_)
                          · replace hr := (if_pos c13).symm.trans hr
                            refine Ev.iconst (z := 1) (d5 67 rfl) rfl ?_
                            cases hr
                            exact Ev.zret1 rfl (d5 68 rfl)
                          · replace hr := (if_neg c13).symm.trans hr
                            refine Ev.iloadN (d5 55 rfl) rfl ?_
                            refine Ev.bipush (z := 125) (d5 56 rfl) rfl ?_
                            refine Ev.iceq (t := 128) (d5 57 rfl) rfl (fun c14 => ?_) (fun c14 => ?_)
                            · replace hr := (if_pos c14).symm.trans hr
                              refine Ev.iconst (z := 1) (d5 67 rfl) rfl ?_
                              cases hr
                              exact Ev.zret1 rfl (d5 68 rfl)
                            · replace hr := (if_neg c14).symm.trans hr
                              refine Ev.iloadN (d5 58 rfl) rfl ?_
                              refine Ev.bipush (z := 59) (d5 59 rfl) rfl ?_
                              refine Ev.iceq (t := 128) (d5 60 rfl) rfl (fun c15 => ?_) (fun c15 => ?_)
                              · replace hr := (if_pos c15).symm.trans hr
                                refine Ev.iconst (z := 1) (d5 67 rfl) rfl ?_
                                cases hr
                                exact Ev.zret1 rfl (d5 68 rfl)
                              · replace hr := (if_neg c15).symm.trans hr
                                refine Ev.iloadN (d5 61 rfl) rfl ?_
                                refine Ev.bipush (z := 63) (d5 62 rfl) rfl ?_
                                refine Ev.iceq (t := 128) (d5 63 rfl) rfl (fun c16 => ?_) (fun c16 => ?_)
                                · replace hr := (if_pos c16).symm.trans hr
                                  refine Ev.iconst (z := 1) (d5 67 rfl) rfl ?_
                                  cases hr
                                  exact Ev.zret1 rfl (d5 68 rfl)
                                · replace hr := (if_neg c16).symm.trans hr
                                  refine Ev.iloadN (d5 64 rfl) rfl ?_
                                  refine Ev.bipush (z := 64) (d5 65 rfl) rfl ?_
                                  refine Ev.icne (t := 130) (d5 66 rfl) rfl (fun c17 => ?_) (fun c17 => ?_)
                                  · replace hr := (if_pos c17).symm.trans hr
                                    refine Ev.iconst (z := 1) (d5 67 rfl) rfl ?_
                                    cases hr
                                    exact Ev.zret1 rfl (d5 68 rfl)
                                  · replace hr := (if_neg c17).symm.trans hr
                                    refine Ev.iloadN (d5 69 rfl) rfl ?_
                                    refine Ev.bipush (z := 87) (d5 70 rfl) rfl ?_
                                    refine Ev.iceq (t := 160) (d5 71 rfl) rfl (fun c18 => ?_) (fun c18 => ?_)
                                    · replace hr := (if_pos c18).symm.trans hr
                                      refine Ev.iconst (z := 1) (d5 84 rfl) rfl ?_
                                      refine Ev.goto (t := 165) (d5 85 rfl) rfl ?_
                                      cases hr
                                      exact Ev.zret1 rfl (d5 87 rfl)
                                    · replace hr := (if_neg c18).symm.trans hr
                                      refine Ev.iloadN (d5 72 rfl) rfl ?_
                                      refine Ev.bipush (z := 80) (d5 73 rfl) rfl ?_
                                      refine Ev.iceq (t := 160) (d5 74 rfl) rfl (fun c19 => ?_) (fun c19 => ?_)
                                      · replace hr := (if_pos c19).symm.trans hr
                                        refine Ev.iconst (z := 1) (d5 84 rfl) rfl ?_
                                        refine Ev.goto (t := 165) (d5 85 rfl) rfl ?_
                                        cases hr
                                        exact Ev.zret1 rfl (d5 87 rfl)
                                      · replace hr := (if_neg c19).symm.trans hr
                                        refine Ev.iloadN (d5 75 rfl) rfl ?_
                                        refine Ev.bipush (z := 81) (d5 76 rfl) rfl ?_
                                        refine Ev.iceq (t := 160) (d5 77 rfl) rfl (fun c20 => ?_) (fun c20 => ?_)
                                        · replace hr := (if_pos c20).symm.trans hr
                                          refine Ev.iconst (z := 1) (d5 84 rfl) rfl ?_
                                          refine Ev.goto (t := 165) (d5 85 rfl) rfl ?_
                                          cases hr
                                          exact Ev.zret1 rfl (d5 87 rfl)
                                        · replace hr := (if_neg c20).symm.trans hr
                                          refine Ev.iloadN (d5 78 rfl) rfl ?_
                                          refine Ev.bipush (z := 84) (d5 79 rfl) rfl ?_
                                          refine Ev.iceq (t := 160) (d5 80 rfl) rfl (fun c21 => ?_) (fun c21 => ?_)
                                          · replace hr := (if_pos c21).symm.trans hr
                                            refine Ev.iconst (z := 1) (d5 84 rfl) rfl ?_
                                            refine Ev.goto (t := 165) (d5 85 rfl) rfl ?_
                                            cases hr
                                            exact Ev.zret1 rfl (d5 87 rfl)
                                          · replace hr := (if_neg c21).symm.trans hr
                                            refine Ev.iloadN (d5 81 rfl) rfl ?_
                                            refine Ev.bipush (z := 70) (d5 82 rfl) rfl ?_
                                            refine Ev.icne (t := 164) (d5 83 rfl) rfl (fun c22 => ?_) (fun c22 => ?_)
                                            · replace hr := (if_pos c22).symm.trans hr
                                              refine Ev.iconst (z := 1) (d5 84 rfl) rfl ?_
                                              refine Ev.goto (t := 165) (d5 85 rfl) rfl ?_
                                              cases hr
                                              exact Ev.zret1 rfl (d5 87 rfl)
                                            · replace hr := (if_neg c22).symm.trans hr
                                              refine Ev.iconst (z := 0) (d5 86 rfl) rfl ?_
                                              cases hr
                                              exact Ev.zret0 rfl (d5 87 rfl)
def f_accepted (s : St) (a0 : Int32) : Option (Int32) :=
  (f_varIndex s a0).bind fun q1 =>
  if q1 < 0 then
    if a0 < (48 : Int32) then
      f_accepted_22 s a0
    else
      if (57 : Int32) < a0 then
        f_accepted_22 s a0
      else
        some (1 : Int32)
  else
    some (1 : Int32)
set_option maxRecDepth 100000 in
theorem e_accepted {g : GT} {s : St} {a0 : Int32} {w : Int32} (hw : HW g) {K : St → MHeap} {o : Nat} {r : Nat → Nat} (V : View (GG g) Ln K o r) (hr : f_accepted s a0 = some w) : EvC (GG g) M_accepted [.ref o, .int a0] (K s) ((some (.int w)), (K s)) := by
  refine EvC.enter (L0 := [.val (.ref o), .val (.int a0)]) pl_accepted (fun h => nomatch h) rfl rfl ?_
  unfold f_accepted at hr
  refine Ev.aloadN (d5 0 rfl) rfl ?_
  refine Ev.iloadN (d5 1 rfl) rfl ?_
  obtain ⟨q1, hq2, hr⟩ := Option.bind_eq_some_iff.mp hr
  refine Ev.priv (y := M_varIndex) (args := [.int a0]) (rest := []) (gok hw) rfl nm_varIndex (ww hw 151 rfl) (ww hw 152 rfl) (ww hw 153 rfl) (ww hw 154 rfl) (lenOf pd_varIndex rfl) (d5 2 rfl) (V.2.1 s) (e_varIndex hw V hq2) (by decide) (Nat.le_of_ble_eq_true rfl) rfl ?_
  refine Ev.ifge (t := 20) (d5 3 rfl) rfl (fun c3 => ?_) (fun c3 => ?_)
  · replace hr := (if_pos c3).symm.trans hr
    refine Ev.iloadN (d5 4 rfl) rfl ?_
    refine Ev.bipush (z := 48) (d5 5 rfl) rfl ?_
    refine Ev.iclt (t := 22) (d5 6 rfl) rfl (fun c4 => ?_) (fun c4 => ?_)
    · replace hr := (if_pos c4).symm.trans hr
      exact e_accepted_22 hw V  a0 (.val (.ref o)) rfl _ hr
    · replace hr := (if_neg c4).symm.trans hr
      refine Ev.iloadN (d5 7 rfl) rfl ?_
      refine Ev.bipush (z := 57) (d5 8 rfl) rfl ?_
      refine Ev.icgt (t := 22) (d5 9 rfl) rfl (fun c5 => ?_) (fun c5 => ?_)
      · replace hr := (if_pos c5).symm.trans hr
        exact e_accepted_22 hw V  a0 (.val (.ref o)) rfl _ hr
      · replace hr := (if_neg c5).symm.trans hr
        refine Ev.iconst (z := 1) (d5 10 rfl) rfl ?_
        cases hr
        exact Ev.zret1 rfl (d5 11 rfl)
  · replace hr := (if_neg c3).symm.trans hr
    refine Ev.iconst (z := 1) (d5 10 rfl) rfl ?_
    cases hr
    exact Ev.zret1 rfl (d5 11 rfl)
def f_addChar (a0 : Int32) (s : St) : Option (Int32 × St) :=
  (f_accepted s a0).bind fun q1 =>
  if q1 = 0 then
    some ((-1 : Int32), s)
  else
    if (s.1 57) < (s.1 56) then
      grd (inb (s.1 57) 128) <|
      bnd (setA s 39 (ix (s.1 57)) a0) fun s6 =>
      bnd (setI s6 57 ((s6.1 57) + (1 : Int32))) fun s7 =>
      (f_clearResults s7).bind fun q8 =>
      some ((0 : Int32), q8)
    else
      some ((-2 : Int32), s)
set_option maxRecDepth 100000 in
theorem e_addChar {g : GT} {a0 : Int32} {s : St} {w : Int32 × St} (hw : HW g) {K : St → MHeap} {o : Nat} {r : Nat → Nat} (V : View (GG g) Ln K o r) (hr : f_addChar a0 s = some w) : EvC (GG g) M_addChar [.ref o, .int a0] (K s) ((some (.int w.1)), (K w.2)) := by
  refine EvC.enter (L0 := [.val (.ref o), .val (.int a0)]) pl_addChar (fun h => nomatch h) rfl rfl ?_
  unfold f_addChar at hr
  refine Ev.aloadN (d4 0 rfl) rfl ?_
  refine Ev.iloadN (d4 1 rfl) rfl ?_
  obtain ⟨q1, hq2, hr⟩ := Option.bind_eq_some_iff.mp hr
  refine Ev.priv (y := M_accepted) (args := [.int a0]) (rest := []) (gok hw) rfl nm_accepted (ww hw 147 rfl) (ww hw 148 rfl) (ww hw 149 rfl) (ww hw 150 rfl) (lenOf pd_accepted rfl) (d4 2 rfl) (V.2.1 s) (e_accepted hw V hq2) (by decide) (Nat.le_of_ble_eq_true rfl) rfl ?_
  refine Ev.ifne (t := 10) (d4 3 rfl) rfl (fun c3 => ?_) (fun c3 => ?_)
  · replace hr := (if_pos c3).symm.trans hr
    refine Ev.iconst (z := -1) (d4 4 rfl) rfl ?_
    cases hr
    exact Ev.ireturn rfl (d4 5 rfl)
  · replace hr := (if_neg c3).symm.trans hr
    refine Ev.aloadN (d4 6 rfl) rfl ?_
    refine Ev.gI V (ww hw 128 rfl) (d4 7 rfl) (j := 57) rfl rfl ?_
    refine Ev.aloadN (d4 8 rfl) rfl ?_
    refine Ev.gI V (ww hw 126 rfl) (d4 9 rfl) (j := 56) rfl rfl ?_
    refine Ev.iclt (t := 24) (d4 10 rfl) rfl (fun c4 => ?_) (fun c4 => ?_)
    · replace hr := (if_pos c4).symm.trans hr
      refine Ev.aloadN (d4 13 rfl) rfl ?_
      refine Ev.gAr V (ww hw 92 rfl) (d4 14 rfl) (j := 39) rfl ?_
      refine Ev.aloadN (d4 15 rfl) rfl ?_
      refine Ev.gI V (ww hw 128 rfl) (d4 16 rfl) (j := 57) rfl rfl ?_
      refine Ev.iloadN (d4 17 rfl) rfl ?_
      obtain ⟨b5, hr⟩ := grd_some hr
      refine Ev.ias V (j := 39) rfl rfl (d4 18 rfl) b5 ?_
      revert hr
      generalize setA s 39 (ix (s.1 57)) a0 = s6
      intro hr
      replace hr := (bnd_eq _ _).symm.trans hr
      refine Ev.aloadN (d4 19 rfl) rfl ?_
      refine Ev.dup (d4 20 rfl) rfl ?_
      refine Ev.gI V (ww hw 128 rfl) (d4 21 rfl) (j := 57) rfl rfl ?_
      refine Ev.iconst (z := 1) (d4 22 rfl) rfl ?_
      refine Ev.iadd (d4 23 rfl) ?_
      refine Ev.pI V (gok hw) (ww hw 128 rfl) (Or.inl (ww hw 129 rfl)) (d4 24 rfl) (j := 57) rfl ?_
      revert hr
      generalize setI s6 57 ((s6.1 57) + (1 : Int32)) = s7
      intro hr
      replace hr := (bnd_eq _ _).symm.trans hr
      refine Ev.aloadN (d4 25 rfl) rfl ?_
      obtain ⟨q8, hq9, hr⟩ := Option.bind_eq_some_iff.mp hr
      refine Ev.priv (y := M_clearResults) (args := []) (rest := []) (gok hw) rfl nm_clearResults (ww hw 130 rfl) (ww hw 131 rfl) (ww hw 132 rfl) (ww hw 133 rfl) (lenOf pd_clearResults rfl) (d4 26 rfl) (V.2.1 s7) (e_clearResults hw V hq9) (by decide) (Nat.le_of_ble_eq_true rfl) rfl ?_
      refine Ev.iconst (z := 0) (d4 27 rfl) rfl ?_
      cases hr
      exact Ev.ireturn rfl (d4 28 rfl)
    · replace hr := (if_neg c4).symm.trans hr
      refine Ev.bipush (z := -2) (d4 11 rfl) rfl ?_
      cases hr
      exact Ev.ireturn rfl (d4 12 rfl)
def f_push (a0 : Int32) (a1 : Int32) (s : St) : Option (St) :=
  if (s.1 62) < (1024 : Int32) then
    grd (inb (s.1 62) 1024) <|
    bnd (setA s 50 (ix (s.1 62)) a0) fun s3 =>
    grd (inb (s3.1 62) 1024) <|
    bnd (setA s3 51 (ix (s3.1 62)) a1) fun s5 =>
    bnd (setI s5 62 ((s5.1 62) + (1 : Int32))) fun s6 =>
    some s6
  else
    bnd (setI s 69 ((1 : Int32) &&& 1)) fun s7 =>
    some s7
set_option maxRecDepth 100000 in
theorem e_push {g : GT} {a0 : Int32} {a1 : Int32} {s : St} {w : St} (hw : HW g) {K : St → MHeap} {o : Nat} {r : Nat → Nat} (V : View (GG g) Ln K o r) (hr : f_push a0 a1 s = some w) : EvC (GG g) M_push [.ref o, .int a0, .int a1] (K s) (none, (K w)) := by
  refine EvC.enter (L0 := [.val (.ref o), .val (.int a0), .val (.int a1)]) pl_push (fun _ => rfl) rfl rfl ?_
  unfold f_push at hr
  refine Ev.aloadN (d10 0 rfl) rfl ?_
  refine Ev.gI V (ww hw 164 rfl) (d10 1 rfl) (j := 62) rfl rfl ?_
  refine Ev.sipush (z := 1024) (d10 2 rfl) rfl ?_
  refine Ev.iclt (t := 16) (d10 3 rfl) rfl (fun c1 => ?_) (fun c1 => ?_)
  · replace hr := (if_pos c1).symm.trans hr
    refine Ev.aloadN (d10 8 rfl) rfl ?_
    refine Ev.gAr V (ww hw 114 rfl) (d10 9 rfl) (j := 50) rfl ?_
    refine Ev.aloadN (d10 10 rfl) rfl ?_
    refine Ev.gI V (ww hw 164 rfl) (d10 11 rfl) (j := 62) rfl rfl ?_
    refine Ev.iloadN (d10 12 rfl) rfl ?_
    obtain ⟨b2, hr⟩ := grd_some hr
    refine Ev.ias V (j := 50) rfl rfl (d10 13 rfl) b2 ?_
    revert hr
    generalize setA s 50 (ix (s.1 62)) a0 = s3
    intro hr
    replace hr := (bnd_eq _ _).symm.trans hr
    refine Ev.aloadN (d10 14 rfl) rfl ?_
    refine Ev.gAr V (ww hw 116 rfl) (d10 15 rfl) (j := 51) rfl ?_
    refine Ev.aloadN (d10 16 rfl) rfl ?_
    refine Ev.gI V (ww hw 164 rfl) (d10 17 rfl) (j := 62) rfl rfl ?_
    refine Ev.iloadN (d10 18 rfl) rfl ?_
    obtain ⟨b4, hr⟩ := grd_some hr
    refine Ev.ias V (j := 51) rfl rfl (d10 19 rfl) b4 ?_
    revert hr
    generalize setA s3 51 (ix (s3.1 62)) a1 = s5
    intro hr
    replace hr := (bnd_eq _ _).symm.trans hr
    refine Ev.aloadN (d10 20 rfl) rfl ?_
    refine Ev.dup (d10 21 rfl) rfl ?_
    refine Ev.gI V (ww hw 164 rfl) (d10 22 rfl) (j := 62) rfl rfl ?_
    refine Ev.iconst (z := 1) (d10 23 rfl) rfl ?_
    refine Ev.iadd (d10 24 rfl) ?_
    refine Ev.pI V (gok hw) (ww hw 164 rfl) (Or.inl (ww hw 165 rfl)) (d10 25 rfl) (j := 62) rfl ?_
    revert hr
    generalize setI s5 62 ((s5.1 62) + (1 : Int32)) = s6
    intro hr
    replace hr := (bnd_eq _ _).symm.trans hr
    cases hr
    exact Ev.vreturn rfl (d10 26 rfl)
  · replace hr := (if_neg c1).symm.trans hr
    refine Ev.aloadN (d10 4 rfl) rfl ?_
    refine Ev.iconst (z := 1) (d10 5 rfl) rfl ?_
    refine Ev.pZ V (gok hw) (ww hw 178 rfl) (Or.inl (ww hw 179 rfl)) (d10 6 rfl) (j := 69) rfl ?_
    revert hr
    generalize setI s 69 ((1 : Int32) &&& 1) = s7
    intro hr
    replace hr := (bnd_eq _ _).symm.trans hr
    cases hr
    exact Ev.vreturn rfl (d10 7 rfl)
def f_pushProgram (s : St) : Option (St) :=
  (f_push (15 : Int32) (0 : Int32) s).bind fun q1 =>
  (f_push (17 : Int32) (0 : Int32) q1).bind fun q3 =>
  (f_push (1 : Int32) (0 : Int32) q3).bind fun q5 =>
  (f_push (16 : Int32) (1 : Int32) q5).bind fun q7 =>
  (f_push (14 : Int32) (81 : Int32) q7).bind fun q9 =>
  (f_push (19 : Int32) (0 : Int32) q9).bind fun q11 =>
  (f_push (12 : Int32) (0 : Int32) q11).bind fun q13 =>
  (f_push (18 : Int32) (0 : Int32) q13).bind fun q15 =>
  (f_push (14 : Int32) (59 : Int32) q15).bind fun q17 =>
  (f_push (17 : Int32) (0 : Int32) q17).bind fun q19 =>
  (f_push (1 : Int32) (0 : Int32) q19).bind fun q21 =>
  (f_push (16 : Int32) (0 : Int32) q21).bind fun q23 =>
  (f_push (14 : Int32) (80 : Int32) q23).bind fun q25 =>
  some q25
set_option maxRecDepth 100000 in
theorem e_pushProgram {g : GT} {s : St} {w : St} (hw : HW g) {K : St → MHeap} {o : Nat} {r : Nat → Nat} (V : View (GG g) Ln K o r) (hr : f_pushProgram s = some w) : EvC (GG g) M_pushProgram [.ref o] (K s) (none, (K w)) := by
  refine EvC.enter (L0 := [.val (.ref o)]) pl_pushProgram (fun _ => rfl) rfl rfl ?_
  unfold f_pushProgram at hr
  refine Ev.aloadN (d9 0 rfl) rfl ?_
  refine Ev.bipush (z := 15) (d9 1 rfl) rfl ?_
  refine Ev.iconst (z := 0) (d9 2 rfl) rfl ?_
  obtain ⟨q1, hq2, hr⟩ := Option.bind_eq_some_iff.mp hr
  refine Ev.priv (y := M_push) (args := [.int (15 : Int32), .int (0 : Int32)]) (rest := []) (gok hw) rfl nm_push (ww hw 186 rfl) (ww hw 187 rfl) (ww hw 188 rfl) (ww hw 189 rfl) (lenOf pd_push rfl) (d9 3 rfl) (V.2.1 s) (e_push hw V hq2) (by decide) (Nat.le_of_ble_eq_true rfl) rfl ?_
  refine Ev.aloadN (d9 4 rfl) rfl ?_
  refine Ev.bipush (z := 17) (d9 5 rfl) rfl ?_
  refine Ev.iconst (z := 0) (d9 6 rfl) rfl ?_
  obtain ⟨q3, hq4, hr⟩ := Option.bind_eq_some_iff.mp hr
  refine Ev.priv (y := M_push) (args := [.int (17 : Int32), .int (0 : Int32)]) (rest := []) (gok hw) rfl nm_push (ww hw 186 rfl) (ww hw 187 rfl) (ww hw 188 rfl) (ww hw 189 rfl) (lenOf pd_push rfl) (d9 7 rfl) (V.2.1 q1) (e_push hw V hq4) (by decide) (Nat.le_of_ble_eq_true rfl) rfl ?_
  refine Ev.aloadN (d9 8 rfl) rfl ?_
  refine Ev.iconst (z := 1) (d9 9 rfl) rfl ?_
  refine Ev.iconst (z := 0) (d9 10 rfl) rfl ?_
  obtain ⟨q5, hq6, hr⟩ := Option.bind_eq_some_iff.mp hr
  refine Ev.priv (y := M_push) (args := [.int (1 : Int32), .int (0 : Int32)]) (rest := []) (gok hw) rfl nm_push (ww hw 186 rfl) (ww hw 187 rfl) (ww hw 188 rfl) (ww hw 189 rfl) (lenOf pd_push rfl) (d9 11 rfl) (V.2.1 q3) (e_push hw V hq6) (by decide) (Nat.le_of_ble_eq_true rfl) rfl ?_
  refine Ev.aloadN (d9 12 rfl) rfl ?_
  refine Ev.bipush (z := 16) (d9 13 rfl) rfl ?_
  refine Ev.iconst (z := 1) (d9 14 rfl) rfl ?_
  obtain ⟨q7, hq8, hr⟩ := Option.bind_eq_some_iff.mp hr
  refine Ev.priv (y := M_push) (args := [.int (16 : Int32), .int (1 : Int32)]) (rest := []) (gok hw) rfl nm_push (ww hw 186 rfl) (ww hw 187 rfl) (ww hw 188 rfl) (ww hw 189 rfl) (lenOf pd_push rfl) (d9 15 rfl) (V.2.1 q5) (e_push hw V hq8) (by decide) (Nat.le_of_ble_eq_true rfl) rfl ?_
  refine Ev.aloadN (d9 16 rfl) rfl ?_
  refine Ev.bipush (z := 14) (d9 17 rfl) rfl ?_
  refine Ev.bipush (z := 81) (d9 18 rfl) rfl ?_
  obtain ⟨q9, hq10, hr⟩ := Option.bind_eq_some_iff.mp hr
  refine Ev.priv (y := M_push) (args := [.int (14 : Int32), .int (81 : Int32)]) (rest := []) (gok hw) rfl nm_push (ww hw 186 rfl) (ww hw 187 rfl) (ww hw 188 rfl) (ww hw 189 rfl) (lenOf pd_push rfl) (d9 19 rfl) (V.2.1 q7) (e_push hw V hq10) (by decide) (Nat.le_of_ble_eq_true rfl) rfl ?_
  refine Ev.aloadN (d9 20 rfl) rfl ?_
  refine Ev.bipush (z := 19) (d9 21 rfl) rfl ?_
  refine Ev.iconst (z := 0) (d9 22 rfl) rfl ?_
  obtain ⟨q11, hq12, hr⟩ := Option.bind_eq_some_iff.mp hr
  refine Ev.priv (y := M_push) (args := [.int (19 : Int32), .int (0 : Int32)]) (rest := []) (gok hw) rfl nm_push (ww hw 186 rfl) (ww hw 187 rfl) (ww hw 188 rfl) (ww hw 189 rfl) (lenOf pd_push rfl) (d9 23 rfl) (V.2.1 q9) (e_push hw V hq12) (by decide) (Nat.le_of_ble_eq_true rfl) rfl ?_
  refine Ev.aloadN (d9 24 rfl) rfl ?_
  refine Ev.bipush (z := 12) (d9 25 rfl) rfl ?_
  refine Ev.iconst (z := 0) (d9 26 rfl) rfl ?_
  obtain ⟨q13, hq14, hr⟩ := Option.bind_eq_some_iff.mp hr
  refine Ev.priv (y := M_push) (args := [.int (12 : Int32), .int (0 : Int32)]) (rest := []) (gok hw) rfl nm_push (ww hw 186 rfl) (ww hw 187 rfl) (ww hw 188 rfl) (ww hw 189 rfl) (lenOf pd_push rfl) (d9 27 rfl) (V.2.1 q11) (e_push hw V hq14) (by decide) (Nat.le_of_ble_eq_true rfl) rfl ?_
  refine Ev.aloadN (d9 28 rfl) rfl ?_
  refine Ev.bipush (z := 18) (d9 29 rfl) rfl ?_
  refine Ev.iconst (z := 0) (d9 30 rfl) rfl ?_
  obtain ⟨q15, hq16, hr⟩ := Option.bind_eq_some_iff.mp hr
  refine Ev.priv (y := M_push) (args := [.int (18 : Int32), .int (0 : Int32)]) (rest := []) (gok hw) rfl nm_push (ww hw 186 rfl) (ww hw 187 rfl) (ww hw 188 rfl) (ww hw 189 rfl) (lenOf pd_push rfl) (d9 31 rfl) (V.2.1 q13) (e_push hw V hq16) (by decide) (Nat.le_of_ble_eq_true rfl) rfl ?_
  refine Ev.aloadN (d9 32 rfl) rfl ?_
  refine Ev.bipush (z := 14) (d9 33 rfl) rfl ?_
  refine Ev.bipush (z := 59) (d9 34 rfl) rfl ?_
  obtain ⟨q17, hq18, hr⟩ := Option.bind_eq_some_iff.mp hr
  refine Ev.priv (y := M_push) (args := [.int (14 : Int32), .int (59 : Int32)]) (rest := []) (gok hw) rfl nm_push (ww hw 186 rfl) (ww hw 187 rfl) (ww hw 188 rfl) (ww hw 189 rfl) (lenOf pd_push rfl) (d9 35 rfl) (V.2.1 q15) (e_push hw V hq18) (by decide) (Nat.le_of_ble_eq_true rfl) rfl ?_
  refine Ev.aloadN (d9 36 rfl) rfl ?_
  refine Ev.bipush (z := 17) (d9 37 rfl) rfl ?_
  refine Ev.iconst (z := 0) (d9 38 rfl) rfl ?_
  obtain ⟨q19, hq20, hr⟩ := Option.bind_eq_some_iff.mp hr
  refine Ev.priv (y := M_push) (args := [.int (17 : Int32), .int (0 : Int32)]) (rest := []) (gok hw) rfl nm_push (ww hw 186 rfl) (ww hw 187 rfl) (ww hw 188 rfl) (ww hw 189 rfl) (lenOf pd_push rfl) (d9 39 rfl) (V.2.1 q17) (e_push hw V hq20) (by decide) (Nat.le_of_ble_eq_true rfl) rfl ?_
  refine Ev.aloadN (d9 40 rfl) rfl ?_
  refine Ev.iconst (z := 1) (d9 41 rfl) rfl ?_
  refine Ev.iconst (z := 0) (d9 42 rfl) rfl ?_
  obtain ⟨q21, hq22, hr⟩ := Option.bind_eq_some_iff.mp hr
  refine Ev.priv (y := M_push) (args := [.int (1 : Int32), .int (0 : Int32)]) (rest := []) (gok hw) rfl nm_push (ww hw 186 rfl) (ww hw 187 rfl) (ww hw 188 rfl) (ww hw 189 rfl) (lenOf pd_push rfl) (d9 43 rfl) (V.2.1 q19) (e_push hw V hq22) (by decide) (Nat.le_of_ble_eq_true rfl) rfl ?_
  refine Ev.aloadN (d9 44 rfl) rfl ?_
  refine Ev.bipush (z := 16) (d9 45 rfl) rfl ?_
  refine Ev.iconst (z := 0) (d9 46 rfl) rfl ?_
  obtain ⟨q23, hq24, hr⟩ := Option.bind_eq_some_iff.mp hr
  refine Ev.priv (y := M_push) (args := [.int (16 : Int32), .int (0 : Int32)]) (rest := []) (gok hw) rfl nm_push (ww hw 186 rfl) (ww hw 187 rfl) (ww hw 188 rfl) (ww hw 189 rfl) (lenOf pd_push rfl) (d9 47 rfl) (V.2.1 q21) (e_push hw V hq24) (by decide) (Nat.le_of_ble_eq_true rfl) rfl ?_
  refine Ev.aloadN (d9 48 rfl) rfl ?_
  refine Ev.bipush (z := 14) (d9 49 rfl) rfl ?_
  refine Ev.bipush (z := 80) (d9 50 rfl) rfl ?_
  obtain ⟨q25, hq26, hr⟩ := Option.bind_eq_some_iff.mp hr
  refine Ev.priv (y := M_push) (args := [.int (14 : Int32), .int (80 : Int32)]) (rest := []) (gok hw) rfl nm_push (ww hw 186 rfl) (ww hw 187 rfl) (ww hw 188 rfl) (ww hw 189 rfl) (lenOf pd_push rfl) (d9 51 rfl) (V.2.1 q23) (e_push hw V hq26) (by decide) (Nat.le_of_ble_eq_true rfl) rfl ?_
  cases hr
  exact Ev.vreturn rfl (d9 52 rfl)
def f_la (s : St) : Option (Int32) :=
  if (s.1 68) < 0 then
    some (-1 : Int32)
  else
    if (s.1 68) < (s.1 57) then
      grd (inb (s.1 68) 128) <|
      some (s.2 39 (ix (s.1 68)))
    else
      some (-1 : Int32)
set_option maxRecDepth 100000 in
theorem e_la {g : GT} {s : St} {w : Int32} (hw : HW g) {K : St → MHeap} {o : Nat} {r : Nat → Nat} (V : View (GG g) Ln K o r) (hr : f_la s = some w) : EvC (GG g) M_la [.ref o] (K s) ((some (.int w)), (K s)) := by
  refine EvC.enter (L0 := [.val (.ref o)]) pl_la (fun h => nomatch h) rfl rfl ?_
  unfold f_la at hr
  refine Ev.aloadN (d13 0 rfl) rfl ?_
  refine Ev.gI V (ww hw 176 rfl) (d13 1 rfl) (j := 68) rfl rfl ?_
  refine Ev.iflt (t := 28) (d13 2 rfl) rfl (fun c1 => ?_) (fun c1 => ?_)
  · replace hr := (if_pos c1).symm.trans hr
    refine Ev.iconst (z := -1) (d13 14 rfl) rfl ?_
    cases hr
    exact Ev.ireturn rfl (d13 15 rfl)
  · replace hr := (if_neg c1).symm.trans hr
    refine Ev.aloadN (d13 3 rfl) rfl ?_
    refine Ev.gI V (ww hw 176 rfl) (d13 4 rfl) (j := 68) rfl rfl ?_
    refine Ev.aloadN (d13 5 rfl) rfl ?_
    refine Ev.gI V (ww hw 128 rfl) (d13 6 rfl) (j := 57) rfl rfl ?_
    refine Ev.icge (t := 28) (d13 7 rfl) rfl (fun c2 => ?_) (fun c2 => ?_)
    · replace hr := (if_pos c2).symm.trans hr
      refine Ev.aloadN (d13 8 rfl) rfl ?_
      refine Ev.gAr V (ww hw 92 rfl) (d13 9 rfl) (j := 39) rfl ?_
      refine Ev.aloadN (d13 10 rfl) rfl ?_
      refine Ev.gI V (ww hw 176 rfl) (d13 11 rfl) (j := 68) rfl rfl ?_
      obtain ⟨b3, hr⟩ := grd_some hr
      refine Ev.ial V (j := 39) rfl rfl (d13 12 rfl) b3 ?_
      cases hr
      exact Ev.ireturn rfl (d13 13 rfl)
    · replace hr := (if_neg c2).symm.trans hr
      refine Ev.iconst (z := -1) (d13 14 rfl) rfl ?_
      cases hr
      exact Ev.ireturn rfl (d13 15 rfl)
def f_binRest (a0 : Int32) (a1 : Int32) (a2 : Int32) (s : St) : Option (St) :=
  bnd (setI s 68 ((s.1 68) + (1 : Int32))) fun s1 =>
  (f_push a0 (0 : Int32) s1).bind fun q2 =>
  (f_push (17 : Int32) a1 q2).bind fun q4 =>
  (f_push a2 (0 : Int32) q4).bind fun q6 =>
  some q6
set_option maxRecDepth 100000 in
theorem e_binRest {g : GT} {a0 : Int32} {a1 : Int32} {a2 : Int32} {s : St} {w : St} (hw : HW g) {K : St → MHeap} {o : Nat} {r : Nat → Nat} (V : View (GG g) Ln K o r) (hr : f_binRest a0 a1 a2 s = some w) : EvC (GG g) M_binRest [.ref o, .int a0, .int a1, .int a2] (K s) (none, (K w)) := by
  refine EvC.enter (L0 := [.val (.ref o), .val (.int a0), .val (.int a1), .val (.int a2)]) pl_binRest (fun _ => rfl) rfl rfl ?_
  unfold f_binRest at hr
  refine Ev.aloadN (d26 0 rfl) rfl ?_
  refine Ev.dup (d26 1 rfl) rfl ?_
  refine Ev.gI V (ww hw 176 rfl) (d26 2 rfl) (j := 68) rfl rfl ?_
  refine Ev.iconst (z := 1) (d26 3 rfl) rfl ?_
  refine Ev.iadd (d26 4 rfl) ?_
  refine Ev.pI V (gok hw) (ww hw 176 rfl) (Or.inl (ww hw 177 rfl)) (d26 5 rfl) (j := 68) rfl ?_
  revert hr
  generalize setI s 68 ((s.1 68) + (1 : Int32)) = s1
  intro hr
  replace hr := (bnd_eq _ _).symm.trans hr
  refine Ev.aloadN (d26 6 rfl) rfl ?_
  refine Ev.iloadN (d26 7 rfl) rfl ?_
  refine Ev.iconst (z := 0) (d26 8 rfl) rfl ?_
  obtain ⟨q2, hq3, hr⟩ := Option.bind_eq_some_iff.mp hr
  refine Ev.priv (y := M_push) (args := [.int a0, .int (0 : Int32)]) (rest := []) (gok hw) rfl nm_push (ww hw 186 rfl) (ww hw 187 rfl) (ww hw 188 rfl) (ww hw 189 rfl) (lenOf pd_push rfl) (d26 9 rfl) (V.2.1 s1) (e_push hw V hq3) (by decide) (Nat.le_of_ble_eq_true rfl) rfl ?_
  refine Ev.aloadN (d26 10 rfl) rfl ?_
  refine Ev.bipush (z := 17) (d26 11 rfl) rfl ?_
  refine Ev.iloadN (d26 12 rfl) rfl ?_
  obtain ⟨q4, hq5, hr⟩ := Option.bind_eq_some_iff.mp hr
  refine Ev.priv (y := M_push) (args := [.int (17 : Int32), .int a1]) (rest := []) (gok hw) rfl nm_push (ww hw 186 rfl) (ww hw 187 rfl) (ww hw 188 rfl) (ww hw 189 rfl) (lenOf pd_push rfl) (d26 13 rfl) (V.2.1 q2) (e_push hw V hq5) (by decide) (Nat.le_of_ble_eq_true rfl) rfl ?_
  refine Ev.aloadN (d26 14 rfl) rfl ?_
  refine Ev.iloadN (d26 15 rfl) rfl ?_
  refine Ev.iconst (z := 0) (d26 16 rfl) rfl ?_
  obtain ⟨q6, hq7, hr⟩ := Option.bind_eq_some_iff.mp hr
  refine Ev.priv (y := M_push) (args := [.int a2, .int (0 : Int32)]) (rest := []) (gok hw) rfl nm_push (ww hw 186 rfl) (ww hw 187 rfl) (ww hw 188 rfl) (ww hw 189 rfl) (lenOf pd_push rfl) (d26 17 rfl) (V.2.1 q4) (e_push hw V hq7) (by decide) (Nat.le_of_ble_eq_true rfl) rfl ?_
  cases hr
  exact Ev.vreturn rfl (d26 18 rfl)
def f_emit (a0 : Int32) (a1 : Int32) (s : St) : Option (St) :=
  if (s.1 63) < (512 : Int32) then
    grd (inb (s.1 63) 512) <|
    bnd (setA s 40 (ix (s.1 63)) a0) fun s3 =>
    grd (inb (s3.1 63) 512) <|
    bnd (setA s3 41 (ix (s3.1 63)) a1) fun s5 =>
    bnd (setI s5 63 ((s5.1 63) + (1 : Int32))) fun s6 =>
    some s6
  else
    bnd (setI s 69 ((1 : Int32) &&& 1)) fun s7 =>
    some s7
set_option maxRecDepth 100000 in
theorem e_emit {g : GT} {a0 : Int32} {a1 : Int32} {s : St} {w : St} (hw : HW g) {K : St → MHeap} {o : Nat} {r : Nat → Nat} (V : View (GG g) Ln K o r) (hr : f_emit a0 a1 s = some w) : EvC (GG g) M_emit [.ref o, .int a0, .int a1] (K s) (none, (K w)) := by
  refine EvC.enter (L0 := [.val (.ref o), .val (.int a0), .val (.int a1)]) pl_emit (fun _ => rfl) rfl rfl ?_
  unfold f_emit at hr
  refine Ev.aloadN (d19 0 rfl) rfl ?_
  refine Ev.gI V (ww hw 166 rfl) (d19 1 rfl) (j := 63) rfl rfl ?_
  refine Ev.sipush (z := 512) (d19 2 rfl) rfl ?_
  refine Ev.iclt (t := 16) (d19 3 rfl) rfl (fun c1 => ?_) (fun c1 => ?_)
  · replace hr := (if_pos c1).symm.trans hr
    refine Ev.aloadN (d19 8 rfl) rfl ?_
    refine Ev.gAr V (ww hw 94 rfl) (d19 9 rfl) (j := 40) rfl ?_
    refine Ev.aloadN (d19 10 rfl) rfl ?_
    refine Ev.gI V (ww hw 166 rfl) (d19 11 rfl) (j := 63) rfl rfl ?_
    refine Ev.iloadN (d19 12 rfl) rfl ?_
    obtain ⟨b2, hr⟩ := grd_some hr
    refine Ev.ias V (j := 40) rfl rfl (d19 13 rfl) b2 ?_
    revert hr
    generalize setA s 40 (ix (s.1 63)) a0 = s3
    intro hr
    replace hr := (bnd_eq _ _).symm.trans hr
    refine Ev.aloadN (d19 14 rfl) rfl ?_
    refine Ev.gAr V (ww hw 96 rfl) (d19 15 rfl) (j := 41) rfl ?_
    refine Ev.aloadN (d19 16 rfl) rfl ?_
    refine Ev.gI V (ww hw 166 rfl) (d19 17 rfl) (j := 63) rfl rfl ?_
    refine Ev.iloadN (d19 18 rfl) rfl ?_
    obtain ⟨b4, hr⟩ := grd_some hr
    refine Ev.ias V (j := 41) rfl rfl (d19 19 rfl) b4 ?_
    revert hr
    generalize setA s3 41 (ix (s3.1 63)) a1 = s5
    intro hr
    replace hr := (bnd_eq _ _).symm.trans hr
    refine Ev.aloadN (d19 20 rfl) rfl ?_
    refine Ev.dup (d19 21 rfl) rfl ?_
    refine Ev.gI V (ww hw 166 rfl) (d19 22 rfl) (j := 63) rfl rfl ?_
    refine Ev.iconst (z := 1) (d19 23 rfl) rfl ?_
    refine Ev.iadd (d19 24 rfl) ?_
    refine Ev.pI V (gok hw) (ww hw 166 rfl) (Or.inl (ww hw 167 rfl)) (d19 25 rfl) (j := 63) rfl ?_
    revert hr
    generalize setI s5 63 ((s5.1 63) + (1 : Int32)) = s6
    intro hr
    replace hr := (bnd_eq _ _).symm.trans hr
    cases hr
    exact Ev.vreturn rfl (d19 26 rfl)
  · replace hr := (if_neg c1).symm.trans hr
    refine Ev.aloadN (d19 4 rfl) rfl ?_
    refine Ev.iconst (z := 1) (d19 5 rfl) rfl ?_
    refine Ev.pZ V (gok hw) (ww hw 178 rfl) (Or.inl (ww hw 179 rfl)) (d19 6 rfl) (j := 69) rfl ?_
    revert hr
    generalize setI s 69 ((1 : Int32) &&& 1) = s7
    intro hr
    replace hr := (bnd_eq _ _).symm.trans hr
    cases hr
    exact Ev.vreturn rfl (d19 7 rfl)
def f_exprStart_20 (s : St) (x1 : Int32) : Option (Int32) :=
  if x1 = (40 : Int32) then
    some (1 : Int32)
  else
    some (0 : Int32)
set_option maxRecDepth 100000 in
theorem e_exprStart_20 {g : GT} {s : St} (hw : HW g) {K : St → MHeap} {o : Nat} {r : Nat → Nat} (V : View (GG g) Ln K o r) (x1 : Int32) (y0 : Slot) (hy0 : one1 y0 = true) (w : Int32) (hr : f_exprStart_20 s x1 = some w) : Ev (GG g) M_exprStart 20 [y0, .val (.int x1)] [] (K s) ((some (.int w)), (K s)) := by
  unfold f_exprStart_20 at hr
  refine Ev.iloadN (d16 10 rfl) rfl ?_
  refine Ev.bipush (z := 40) (d16 11 rfl) rfl ?_
  refine Ev.icne (t := 30) (d16 12 rfl) rfl (fun c1 => ?_) (fun c1 => ?_)
  · replace hr := (if_pos c1).symm.trans hr
    refine Ev.iconst (z := 1) (d16 13 rfl) rfl ?_
    refine Ev.goto (t := 31) (d16 14 rfl) rfl ?_
    cases hr
    exact Ev.zret1 rfl (d16 16 rfl)
  · replace hr := (if_neg c1).symm.trans hr
    refine Ev.iconst (z := 0) (d16 15 rfl) rfl ?_
    cases hr
    exact Ev.zret0 rfl (d16 16 rfl)
def f_exprStart (s : St) (a0 : Int32) : Option (Int32) :=
  (f_varIndex s a0).bind fun q1 =>
  if q1 < 0 then
    if a0 < (48 : Int32) then
      f_exprStart_20 s a0
    else
      if (57 : Int32) < a0 then
        f_exprStart_20 s a0
      else
        some (1 : Int32)
  else
    some (1 : Int32)
set_option maxRecDepth 100000 in
theorem e_exprStart {g : GT} {s : St} {a0 : Int32} {w : Int32} (hw : HW g) {K : St → MHeap} {o : Nat} {r : Nat → Nat} (V : View (GG g) Ln K o r) (hr : f_exprStart s a0 = some w) : EvC (GG g) M_exprStart [.ref o, .int a0] (K s) ((some (.int w)), (K s)) := by
  refine EvC.enter (L0 := [.val (.ref o), .val (.int a0)]) pl_exprStart (fun h => nomatch h) rfl rfl ?_
  unfold f_exprStart at hr
  refine Ev.aloadN (d16 0 rfl) rfl ?_
  refine Ev.iloadN (d16 1 rfl) rfl ?_
  obtain ⟨q1, hq2, hr⟩ := Option.bind_eq_some_iff.mp hr
  refine Ev.priv (y := M_varIndex) (args := [.int a0]) (rest := []) (gok hw) rfl nm_varIndex (ww hw 151 rfl) (ww hw 152 rfl) (ww hw 153 rfl) (ww hw 154 rfl) (lenOf pd_varIndex rfl) (d16 2 rfl) (V.2.1 s) (e_varIndex hw V hq2) (by decide) (Nat.le_of_ble_eq_true rfl) rfl ?_
  refine Ev.ifge (t := 26) (d16 3 rfl) rfl (fun c3 => ?_) (fun c3 => ?_)
  · replace hr := (if_pos c3).symm.trans hr
    refine Ev.iloadN (d16 4 rfl) rfl ?_
    refine Ev.bipush (z := 48) (d16 5 rfl) rfl ?_
    refine Ev.iclt (t := 20) (d16 6 rfl) rfl (fun c4 => ?_) (fun c4 => ?_)
    · replace hr := (if_pos c4).symm.trans hr
      exact e_exprStart_20 hw V  a0 (.val (.ref o)) rfl _ hr
    · replace hr := (if_neg c4).symm.trans hr
      refine Ev.iloadN (d16 7 rfl) rfl ?_
      refine Ev.bipush (z := 57) (d16 8 rfl) rfl ?_
      refine Ev.icle (t := 26) (d16 9 rfl) rfl (fun c5 => ?_) (fun c5 => ?_)
      · replace hr := (if_pos c5).symm.trans hr
        exact e_exprStart_20 hw V  a0 (.val (.ref o)) rfl _ hr
      · replace hr := (if_neg c5).symm.trans hr
        refine Ev.iconst (z := 1) (d16 13 rfl) rfl ?_
        refine Ev.goto (t := 31) (d16 14 rfl) rfl ?_
        cases hr
        exact Ev.zret1 rfl (d16 16 rfl)
  · replace hr := (if_neg c3).symm.trans hr
    refine Ev.iconst (z := 1) (d16 13 rfl) rfl ?_
    refine Ev.goto (t := 31) (d16 14 rfl) rfl ?_
    cases hr
    exact Ev.zret1 rfl (d16 16 rfl)
def f_stepLit (s : St) : Option (St) :=
  (f_la s).bind fun q1 =>
  if q1 = (33 : Int32) then
    bnd (setI s 68 ((s.1 68) + (1 : Int32))) fun s4 =>
    (f_push (17 : Int32) (10 : Int32) s4).bind fun q5 =>
    (f_push (5 : Int32) (0 : Int32) q5).bind fun q7 =>
    some q7
  else
    if q1 = (84 : Int32) then
      bnd (setI s 68 ((s.1 68) + (1 : Int32))) fun s10 =>
      (f_emit (8 : Int32) (0 : Int32) s10).bind fun q11 =>
      some q11
    else
      if q1 = (70 : Int32) then
        bnd (setI s 68 ((s.1 68) + (1 : Int32))) fun s14 =>
        (f_emit (9 : Int32) (0 : Int32) s14).bind fun q15 =>
        some q15
      else
        if q1 = (91 : Int32) then
          bnd (setI s 68 ((s.1 68) + (1 : Int32))) fun s18 =>
          (f_push (14 : Int32) (93 : Int32) s18).bind fun q19 =>
          (f_push (1 : Int32) (0 : Int32) q19).bind fun q21 =>
          some q21
        else
          (f_exprStart s q1).bind fun q23 =>
          if q23 = 0 then
            bnd (setI s 69 ((1 : Int32) &&& 1)) fun s26 =>
            some s26
          else
            (f_push (6 : Int32) (0 : Int32) s).bind fun q27 =>
            (f_push (7 : Int32) (0 : Int32) q27).bind fun q29 =>
            some q29
set_option maxRecDepth 100000 in
theorem e_stepLit {g : GT} {s : St} {w : St} (hw : HW g) {K : St → MHeap} {o : Nat} {r : Nat → Nat} (V : View (GG g) Ln K o r) (hr : f_stepLit s = some w) : EvC (GG g) M_stepLit [.ref o] (K s) (none, (K w)) := by
  refine EvC.enter (L0 := [.val (.ref o), .unset]) pl_stepLit (fun _ => rfl) rfl rfl ?_
  unfold f_stepLit at hr
  refine Ev.aloadN (d15 0 rfl) rfl ?_
  obtain ⟨q1, hq2, hr⟩ := Option.bind_eq_some_iff.mp hr
  refine Ev.priv (y := M_la) (args := []) (rest := []) (gok hw) rfl nm_la (ww hw 199 rfl) (ww hw 200 rfl) (ww hw 201 rfl) (ww hw 202 rfl) (lenOf pd_la rfl) (d15 1 rfl) (V.2.1 s) (e_la hw V hq2) (by decide) (Nat.le_of_ble_eq_true rfl) rfl ?_
  refine Ev.istDN (L' := [.val (.ref o), .val (.int q1)]) (d15 2 rfl) rfl rfl rfl ?_
  refine Ev.iloadN (d15 3 rfl) rfl ?_
  refine Ev.bipush (z := 33) (d15 4 rfl) rfl ?_
  refine Ev.icne (t := 38) (d15 5 rfl) rfl (fun c3 => ?_) (fun c3 => ?_)
  · replace hr := (if_pos c3).symm.trans hr
    refine Ev.aloadN (d15 6 rfl) rfl ?_
    refine Ev.dup (d15 7 rfl) rfl ?_
    refine Ev.gI V (ww hw 176 rfl) (d15 8 rfl) (j := 68) rfl rfl ?_
    refine Ev.iconst (z := 1) (d15 9 rfl) rfl ?_
    refine Ev.iadd (d15 10 rfl) ?_
    refine Ev.pI V (gok hw) (ww hw 176 rfl) (Or.inl (ww hw 177 rfl)) (d15 11 rfl) (j := 68) rfl ?_
    revert hr
    generalize setI s 68 ((s.1 68) + (1 : Int32)) = s4
    intro hr
    replace hr := (bnd_eq _ _).symm.trans hr
    refine Ev.aloadN (d15 12 rfl) rfl ?_
    refine Ev.bipush (z := 17) (d15 13 rfl) rfl ?_
    refine Ev.bipush (z := 10) (d15 14 rfl) rfl ?_
    obtain ⟨q5, hq6, hr⟩ := Option.bind_eq_some_iff.mp hr
    refine Ev.priv (y := M_push) (args := [.int (17 : Int32), .int (10 : Int32)]) (rest := []) (gok hw) rfl nm_push (ww hw 186 rfl) (ww hw 187 rfl) (ww hw 188 rfl) (ww hw 189 rfl) (lenOf pd_push rfl) (d15 15 rfl) (V.2.1 s4) (e_push hw V hq6) (by decide) (Nat.le_of_ble_eq_true rfl) rfl ?_
    refine Ev.aloadN (d15 16 rfl) rfl ?_
    refine Ev.iconst (z := 5) (d15 17 rfl) rfl ?_
    refine Ev.iconst (z := 0) (d15 18 rfl) rfl ?_
    obtain ⟨q7, hq8, hr⟩ := Option.bind_eq_some_iff.mp hr
    refine Ev.priv (y := M_push) (args := [.int (5 : Int32), .int (0 : Int32)]) (rest := []) (gok hw) rfl nm_push (ww hw 186 rfl) (ww hw 187 rfl) (ww hw 188 rfl) (ww hw 189 rfl) (lenOf pd_push rfl) (d15 19 rfl) (V.2.1 q5) (e_push hw V hq8) (by decide) (Nat.le_of_ble_eq_true rfl) rfl ?_
    refine Ev.goto (t := 153) (d15 20 rfl) rfl ?_
    cases hr
    exact Ev.vreturn rfl (d15 83 rfl)
  · replace hr := (if_neg c3).symm.trans hr
    refine Ev.iloadN (d15 21 rfl) rfl ?_
    refine Ev.bipush (z := 84) (d15 22 rfl) rfl ?_
    refine Ev.icne (t := 64) (d15 23 rfl) rfl (fun c9 => ?_) (fun c9 => ?_)
    · replace hr := (if_pos c9).symm.trans hr
      refine Ev.aloadN (d15 24 rfl) rfl ?_
      refine Ev.dup (d15 25 rfl) rfl ?_
      refine Ev.gI V (ww hw 176 rfl) (d15 26 rfl) (j := 68) rfl rfl ?_
      refine Ev.iconst (z := 1) (d15 27 rfl) rfl ?_
      refine Ev.iadd (d15 28 rfl) ?_
      refine Ev.pI V (gok hw) (ww hw 176 rfl) (Or.inl (ww hw 177 rfl)) (d15 29 rfl) (j := 68) rfl ?_
      revert hr
      generalize setI s 68 ((s.1 68) + (1 : Int32)) = s10
      intro hr
      replace hr := (bnd_eq _ _).symm.trans hr
      refine Ev.aloadN (d15 30 rfl) rfl ?_
      refine Ev.bipush (z := 8) (d15 31 rfl) rfl ?_
      refine Ev.iconst (z := 0) (d15 32 rfl) rfl ?_
      obtain ⟨q11, hq12, hr⟩ := Option.bind_eq_some_iff.mp hr
      refine Ev.priv (y := M_emit) (args := [.int (8 : Int32), .int (0 : Int32)]) (rest := []) (gok hw) rfl nm_emit (ww hw 223 rfl) (ww hw 224 rfl) (ww hw 225 rfl) (ww hw 226 rfl) (lenOf pd_emit rfl) (d15 33 rfl) (V.2.1 s10) (e_emit hw V hq12) (by decide) (Nat.le_of_ble_eq_true rfl) rfl ?_
      refine Ev.goto (t := 153) (d15 34 rfl) rfl ?_
      cases hr
      exact Ev.vreturn rfl (d15 83 rfl)
    · replace hr := (if_neg c9).symm.trans hr
      refine Ev.iloadN (d15 35 rfl) rfl ?_
      refine Ev.bipush (z := 70) (d15 36 rfl) rfl ?_
      refine Ev.icne (t := 90) (d15 37 rfl) rfl (fun c13 => ?_) (fun c13 => ?_)
      · replace hr := (if_pos c13).symm.trans hr
        refine Ev.aloadN (d15 38 rfl) rfl ?_
        refine Ev.dup (d15 39 rfl) rfl ?_
        refine Ev.gI V (ww hw 176 rfl) (d15 40 rfl) (j := 68) rfl rfl ?_
        refine Ev.iconst (z := 1) (d15 41 rfl) rfl ?_
        refine Ev.iadd (d15 42 rfl) ?_
        refine Ev.pI V (gok hw) (ww hw 176 rfl) (Or.inl (ww hw 177 rfl)) (d15 43 rfl) (j := 68) rfl ?_
        revert hr
        generalize setI s 68 ((s.1 68) + (1 : Int32)) = s14
        intro hr
        replace hr := (bnd_eq _ _).symm.trans hr
        refine Ev.aloadN (d15 44 rfl) rfl ?_
        refine Ev.bipush (z := 9) (d15 45 rfl) rfl ?_
        refine Ev.iconst (z := 0) (d15 46 rfl) rfl ?_
        obtain ⟨q15, hq16, hr⟩ := Option.bind_eq_some_iff.mp hr
        refine Ev.priv (y := M_emit) (args := [.int (9 : Int32), .int (0 : Int32)]) (rest := []) (gok hw) rfl nm_emit (ww hw 223 rfl) (ww hw 224 rfl) (ww hw 225 rfl) (ww hw 226 rfl) (lenOf pd_emit rfl) (d15 47 rfl) (V.2.1 s14) (e_emit hw V hq16) (by decide) (Nat.le_of_ble_eq_true rfl) rfl ?_
        refine Ev.goto (t := 153) (d15 48 rfl) rfl ?_
        cases hr
        exact Ev.vreturn rfl (d15 83 rfl)
      · replace hr := (if_neg c13).symm.trans hr
        refine Ev.iloadN (d15 49 rfl) rfl ?_
        refine Ev.bipush (z := 91) (d15 50 rfl) rfl ?_
        refine Ev.icne (t := 123) (d15 51 rfl) rfl (fun c17 => ?_) (fun c17 => ?_)
        · replace hr := (if_pos c17).symm.trans hr
          refine Ev.aloadN (d15 52 rfl) rfl ?_
          refine Ev.dup (d15 53 rfl) rfl ?_
          refine Ev.gI V (ww hw 176 rfl) (d15 54 rfl) (j := 68) rfl rfl ?_
          refine Ev.iconst (z := 1) (d15 55 rfl) rfl ?_
          refine Ev.iadd (d15 56 rfl) ?_
          refine Ev.pI V (gok hw) (ww hw 176 rfl) (Or.inl (ww hw 177 rfl)) (d15 57 rfl) (j := 68) rfl ?_
          revert hr
          generalize setI s 68 ((s.1 68) + (1 : Int32)) = s18
          intro hr
          replace hr := (bnd_eq _ _).symm.trans hr
          refine Ev.aloadN (d15 58 rfl) rfl ?_
          refine Ev.bipush (z := 14) (d15 59 rfl) rfl ?_
          refine Ev.bipush (z := 93) (d15 60 rfl) rfl ?_
          obtain ⟨q19, hq20, hr⟩ := Option.bind_eq_some_iff.mp hr
          refine Ev.priv (y := M_push) (args := [.int (14 : Int32), .int (93 : Int32)]) (rest := []) (gok hw) rfl nm_push (ww hw 186 rfl) (ww hw 187 rfl) (ww hw 188 rfl) (ww hw 189 rfl) (lenOf pd_push rfl) (d15 61 rfl) (V.2.1 s18) (e_push hw V hq20) (by decide) (Nat.le_of_ble_eq_true rfl) rfl ?_
          refine Ev.aloadN (d15 62 rfl) rfl ?_
          refine Ev.iconst (z := 1) (d15 63 rfl) rfl ?_
          refine Ev.iconst (z := 0) (d15 64 rfl) rfl ?_
          obtain ⟨q21, hq22, hr⟩ := Option.bind_eq_some_iff.mp hr
          refine Ev.priv (y := M_push) (args := [.int (1 : Int32), .int (0 : Int32)]) (rest := []) (gok hw) rfl nm_push (ww hw 186 rfl) (ww hw 187 rfl) (ww hw 188 rfl) (ww hw 189 rfl) (lenOf pd_push rfl) (d15 65 rfl) (V.2.1 q19) (e_push hw V hq22) (by decide) (Nat.le_of_ble_eq_true rfl) rfl ?_
          refine Ev.goto (t := 153) (d15 66 rfl) rfl ?_
          cases hr
          exact Ev.vreturn rfl (d15 83 rfl)
        · replace hr := (if_neg c17).symm.trans hr
          refine Ev.aloadN (d15 67 rfl) rfl ?_
          refine Ev.iloadN (d15 68 rfl) rfl ?_
          obtain ⟨q23, hq24, hr⟩ := Option.bind_eq_some_iff.mp hr
          refine Ev.priv (y := M_exprStart) (args := [.int q1]) (rest := []) (gok hw) rfl nm_exprStart (ww hw 211 rfl) (ww hw 212 rfl) (ww hw 213 rfl) (ww hw 214 rfl) (lenOf pd_exprStart rfl) (d15 69 rfl) (V.2.1 s) (e_exprStart hw V hq24) (by decide) (Nat.le_of_ble_eq_true rfl) rfl ?_
          refine Ev.ifeq (t := 148) (d15 70 rfl) rfl (fun c25 => ?_) (fun c25 => ?_)
          · replace hr := (if_pos c25).symm.trans hr
            refine Ev.aloadN (d15 80 rfl) rfl ?_
            refine Ev.iconst (z := 1) (d15 81 rfl) rfl ?_
            refine Ev.pZ V (gok hw) (ww hw 178 rfl) (Or.inl (ww hw 179 rfl)) (d15 82 rfl) (j := 69) rfl ?_
            revert hr
            generalize setI s 69 ((1 : Int32) &&& 1) = s26
            intro hr
            replace hr := (bnd_eq _ _).symm.trans hr
            cases hr
            exact Ev.vreturn rfl (d15 83 rfl)
          · replace hr := (if_neg c25).symm.trans hr
            refine Ev.aloadN (d15 71 rfl) rfl ?_
            refine Ev.bipush (z := 6) (d15 72 rfl) rfl ?_
            refine Ev.iconst (z := 0) (d15 73 rfl) rfl ?_
            obtain ⟨q27, hq28, hr⟩ := Option.bind_eq_some_iff.mp hr
            refine Ev.priv (y := M_push) (args := [.int (6 : Int32), .int (0 : Int32)]) (rest := []) (gok hw) rfl nm_push (ww hw 186 rfl) (ww hw 187 rfl) (ww hw 188 rfl) (ww hw 189 rfl) (lenOf pd_push rfl) (d15 74 rfl) (V.2.1 s) (e_push hw V hq28) (by decide) (Nat.le_of_ble_eq_true rfl) rfl ?_
            refine Ev.aloadN (d15 75 rfl) rfl ?_
            refine Ev.bipush (z := 7) (d15 76 rfl) rfl ?_
            refine Ev.iconst (z := 0) (d15 77 rfl) rfl ?_
            obtain ⟨q29, hq30, hr⟩ := Option.bind_eq_some_iff.mp hr
            refine Ev.priv (y := M_push) (args := [.int (7 : Int32), .int (0 : Int32)]) (rest := []) (gok hw) rfl nm_push (ww hw 186 rfl) (ww hw 187 rfl) (ww hw 188 rfl) (ww hw 189 rfl) (lenOf pd_push rfl) (d15 78 rfl) (V.2.1 q27) (e_push hw V hq30) (by decide) (Nat.le_of_ble_eq_true rfl) rfl ?_
            refine Ev.goto (t := 153) (d15 79 rfl) rfl ?_
            cases hr
            exact Ev.vreturn rfl (d15 83 rfl)
def f_stepFormula (a0 : Int32) (s : St) : Option (St) :=
  (f_la s).bind fun q1 =>
  if a0 = (1 : Int32) then
    (f_push (2 : Int32) (0 : Int32) s).bind fun q4 =>
    (f_push (3 : Int32) (0 : Int32) q4).bind fun q6 =>
    some q6
  else
    if a0 = (2 : Int32) then
      if q1 = (124 : Int32) then
        (f_binRest (2 : Int32) (12 : Int32) (3 : Int32) s).bind fun q10 =>
        some q10
      else
        some s
    else
      if a0 = (3 : Int32) then
        (f_push (4 : Int32) (0 : Int32) s).bind fun q13 =>
        (f_push (5 : Int32) (0 : Int32) q13).bind fun q15 =>
        some q15
      else
        if a0 = (4 : Int32) then
          if q1 = (38 : Int32) then
            (f_binRest (4 : Int32) (11 : Int32) (5 : Int32) s).bind fun q19 =>
            some q19
          else
            some s
        else
          if a0 = (5 : Int32) then
            (f_stepLit s).bind fun q22 =>
            some q22
          else
            if q1 = (60 : Int32) then
              bnd (setI s 68 ((s.1 68) + (1 : Int32))) fun s25 =>
              (f_push (17 : Int32) (6 : Int32) s25).bind fun q26 =>
              (f_push (7 : Int32) (0 : Int32) q26).bind fun q28 =>
              some q28
            else
              if q1 = (61 : Int32) then
                bnd (setI s 68 ((s.1 68) + (1 : Int32))) fun s31 =>
                (f_push (17 : Int32) (7 : Int32) s31).bind fun q32 =>
                (f_push (7 : Int32) (0 : Int32) q32).bind fun q34 =>
                some q34
              else
                bnd (setI s 69 ((1 : Int32) &&& 1)) fun s36 =>
                some s36
set_option maxRecDepth 100000 in
theorem e_stepFormula {g : GT} {a0 : Int32} {s : St} {w : St} (hw : HW g) {K : St → MHeap} {o : Nat} {r : Nat → Nat} (V : View (GG g) Ln K o r) (hr : f_stepFormula a0 s = some w) : EvC (GG g) M_stepFormula [.ref o, .int a0] (K s) (none, (K w)) := by
  refine EvC.enter (L0 := [.val (.ref o), .val (.int a0), .unset]) pl_stepFormula (fun _ => rfl) rfl rfl ?_
  unfold f_stepFormula at hr
  refine Ev.aloadN (d14 0 rfl) rfl ?_
  obtain ⟨q1, hq2, hr⟩ := Option.bind_eq_some_iff.mp hr
  refine Ev.priv (y := M_la) (args := []) (rest := []) (gok hw) rfl nm_la (ww hw 199 rfl) (ww hw 200 rfl) (ww hw 201 rfl) (ww hw 202 rfl) (lenOf pd_la rfl) (d14 1 rfl) (V.2.1 s) (e_la hw V hq2) (by decide) (Nat.le_of_ble_eq_true rfl) rfl ?_
  refine Ev.istDN (L' := [.val (.ref o), .val (.int a0), .val (.int q1)]) (d14 2 rfl) rfl rfl rfl ?_
  refine Ev.iloadN (d14 3 rfl) rfl ?_
  refine Ev.iconst (z := 1) (d14 4 rfl) rfl ?_
  refine Ev.icne (t := 25) (d14 5 rfl) rfl (fun c3 => ?_) (fun c3 => ?_)
  · replace hr := (if_pos c3).symm.trans hr
    refine Ev.aloadN (d14 6 rfl) rfl ?_
    refine Ev.iconst (z := 2) (d14 7 rfl) rfl ?_
    refine Ev.iconst (z := 0) (d14 8 rfl) rfl ?_
    obtain ⟨q4, hq5, hr⟩ := Option.bind_eq_some_iff.mp hr
    refine Ev.priv (y := M_push) (args := [.int (2 : Int32), .int (0 : Int32)]) (rest := []) (gok hw) rfl nm_push (ww hw 186 rfl) (ww hw 187 rfl) (ww hw 188 rfl) (ww hw 189 rfl) (lenOf pd_push rfl) (d14 9 rfl) (V.2.1 s) (e_push hw V hq5) (by decide) (Nat.le_of_ble_eq_true rfl) rfl ?_
    refine Ev.aloadN (d14 10 rfl) rfl ?_
    refine Ev.iconst (z := 3) (d14 11 rfl) rfl ?_
    refine Ev.iconst (z := 0) (d14 12 rfl) rfl ?_
    obtain ⟨q6, hq7, hr⟩ := Option.bind_eq_some_iff.mp hr
    refine Ev.priv (y := M_push) (args := [.int (3 : Int32), .int (0 : Int32)]) (rest := []) (gok hw) rfl nm_push (ww hw 186 rfl) (ww hw 187 rfl) (ww hw 188 rfl) (ww hw 189 rfl) (lenOf pd_push rfl) (d14 13 rfl) (V.2.1 q4) (e_push hw V hq7) (by decide) (Nat.le_of_ble_eq_true rfl) rfl ?_
    refine Ev.goto (t := 174) (d14 14 rfl) rfl ?_
    cases hr
    exact Ev.vreturn rfl (d14 96 rfl)
  · replace hr := (if_neg c3).symm.trans hr
    refine Ev.iloadN (d14 15 rfl) rfl ?_
    refine Ev.iconst (z := 2) (d14 16 rfl) rfl ?_
    refine Ev.icne (t := 47) (d14 17 rfl) rfl (fun c8 => ?_) (fun c8 => ?_)
    · replace hr := (if_pos c8).symm.trans hr
      refine Ev.iloadN (d14 18 rfl) rfl ?_
      refine Ev.bipush (z := 124) (d14 19 rfl) rfl ?_
      refine Ev.icne (t := 174) (d14 20 rfl) rfl (fun c9 => ?_) (fun c9 => ?_)
      · replace hr := (if_pos c9).symm.trans hr
        refine Ev.aloadN (d14 21 rfl) rfl ?_
        refine Ev.iconst (z := 2) (d14 22 rfl) rfl ?_
        refine Ev.bipush (z := 12) (d14 23 rfl) rfl ?_
        refine Ev.iconst (z := 3) (d14 24 rfl) rfl ?_
        obtain ⟨q10, hq11, hr⟩ := Option.bind_eq_some_iff.mp hr
        refine Ev.priv (y := M_binRest) (args := [.int (2 : Int32), .int (12 : Int32), .int (3 : Int32)]) (rest := []) (gok hw) rfl nm_binRest (ww hw 251 rfl) (ww hw 252 rfl) (ww hw 253 rfl) (ww hw 254 rfl) (lenOf pd_binRest rfl) (d14 25 rfl) (V.2.1 s) (e_binRest hw V hq11) (by decide) (Nat.le_of_ble_eq_true rfl) rfl ?_
        refine Ev.goto (t := 174) (d14 26 rfl) rfl ?_
        cases hr
        exact Ev.vreturn rfl (d14 96 rfl)
      · replace hr := (if_neg c9).symm.trans hr
        cases hr
        exact Ev.vreturn rfl (d14 96 rfl)
    · replace hr := (if_neg c8).symm.trans hr
      refine Ev.iloadN (d14 27 rfl) rfl ?_
      refine Ev.iconst (z := 3) (d14 28 rfl) rfl ?_
      refine Ev.icne (t := 67) (d14 29 rfl) rfl (fun c12 => ?_) (fun c12 => ?_)
      · replace hr := (if_pos c12).symm.trans hr
        refine Ev.aloadN (d14 30 rfl) rfl ?_
        refine Ev.iconst (z := 4) (d14 31 rfl) rfl ?_
        refine Ev.iconst (z := 0) (d14 32 rfl) rfl ?_
        obtain ⟨q13, hq14, hr⟩ := Option.bind_eq_some_iff.mp hr
        refine Ev.priv (y := M_push) (args := [.int (4 : Int32), .int (0 : Int32)]) (rest := []) (gok hw) rfl nm_push (ww hw 186 rfl) (ww hw 187 rfl) (ww hw 188 rfl) (ww hw 189 rfl) (lenOf pd_push rfl) (d14 33 rfl) (V.2.1 s) (e_push hw V hq14) (by decide) (Nat.le_of_ble_eq_true rfl) rfl ?_
        refine Ev.aloadN (d14 34 rfl) rfl ?_
        refine Ev.iconst (z := 5) (d14 35 rfl) rfl ?_
        refine Ev.iconst (z := 0) (d14 36 rfl) rfl ?_
        obtain ⟨q15, hq16, hr⟩ := Option.bind_eq_some_iff.mp hr
        refine Ev.priv (y := M_push) (args := [.int (5 : Int32), .int (0 : Int32)]) (rest := []) (gok hw) rfl nm_push (ww hw 186 rfl) (ww hw 187 rfl) (ww hw 188 rfl) (ww hw 189 rfl) (lenOf pd_push rfl) (d14 37 rfl) (V.2.1 q13) (e_push hw V hq16) (by decide) (Nat.le_of_ble_eq_true rfl) rfl ?_
        refine Ev.goto (t := 174) (d14 38 rfl) rfl ?_
        cases hr
        exact Ev.vreturn rfl (d14 96 rfl)
      · replace hr := (if_neg c12).symm.trans hr
        refine Ev.iloadN (d14 39 rfl) rfl ?_
        refine Ev.iconst (z := 4) (d14 40 rfl) rfl ?_
        refine Ev.icne (t := 89) (d14 41 rfl) rfl (fun c17 => ?_) (fun c17 => ?_)
        · replace hr := (if_pos c17).symm.trans hr
          refine Ev.iloadN (d14 42 rfl) rfl ?_
          refine Ev.bipush (z := 38) (d14 43 rfl) rfl ?_
          refine Ev.icne (t := 174) (d14 44 rfl) rfl (fun c18 => ?_) (fun c18 => ?_)
          · replace hr := (if_pos c18).symm.trans hr
            refine Ev.aloadN (d14 45 rfl) rfl ?_
            refine Ev.iconst (z := 4) (d14 46 rfl) rfl ?_
            refine Ev.bipush (z := 11) (d14 47 rfl) rfl ?_
            refine Ev.iconst (z := 5) (d14 48 rfl) rfl ?_
            obtain ⟨q19, hq20, hr⟩ := Option.bind_eq_some_iff.mp hr
            refine Ev.priv (y := M_binRest) (args := [.int (4 : Int32), .int (11 : Int32), .int (5 : Int32)]) (rest := []) (gok hw) rfl nm_binRest (ww hw 251 rfl) (ww hw 252 rfl) (ww hw 253 rfl) (ww hw 254 rfl) (lenOf pd_binRest rfl) (d14 49 rfl) (V.2.1 s) (e_binRest hw V hq20) (by decide) (Nat.le_of_ble_eq_true rfl) rfl ?_
            refine Ev.goto (t := 174) (d14 50 rfl) rfl ?_
            cases hr
            exact Ev.vreturn rfl (d14 96 rfl)
          · replace hr := (if_neg c18).symm.trans hr
            cases hr
            exact Ev.vreturn rfl (d14 96 rfl)
        · replace hr := (if_neg c17).symm.trans hr
          refine Ev.iloadN (d14 51 rfl) rfl ?_
          refine Ev.iconst (z := 5) (d14 52 rfl) rfl ?_
          refine Ev.icne (t := 101) (d14 53 rfl) rfl (fun c21 => ?_) (fun c21 => ?_)
          · replace hr := (if_pos c21).symm.trans hr
            refine Ev.aloadN (d14 54 rfl) rfl ?_
            obtain ⟨q22, hq23, hr⟩ := Option.bind_eq_some_iff.mp hr
            refine Ev.priv (y := M_stepLit) (args := []) (rest := []) (gok hw) rfl nm_stepLit (ww hw 207 rfl) (ww hw 208 rfl) (ww hw 209 rfl) (ww hw 210 rfl) (lenOf pd_stepLit rfl) (d14 55 rfl) (V.2.1 s) (e_stepLit hw V hq23) (by decide) (Nat.le_of_ble_eq_true rfl) rfl ?_
            refine Ev.goto (t := 174) (d14 56 rfl) rfl ?_
            cases hr
            exact Ev.vreturn rfl (d14 96 rfl)
          · replace hr := (if_neg c21).symm.trans hr
            refine Ev.iloadN (d14 57 rfl) rfl ?_
            refine Ev.bipush (z := 60) (d14 58 rfl) rfl ?_
            refine Ev.icne (t := 135) (d14 59 rfl) rfl (fun c24 => ?_) (fun c24 => ?_)
            · replace hr := (if_pos c24).symm.trans hr
              refine Ev.aloadN (d14 60 rfl) rfl ?_
              refine Ev.dup (d14 61 rfl) rfl ?_
              refine Ev.gI V (ww hw 176 rfl) (d14 62 rfl) (j := 68) rfl rfl ?_
              refine Ev.iconst (z := 1) (d14 63 rfl) rfl ?_
              refine Ev.iadd (d14 64 rfl) ?_
              refine Ev.pI V (gok hw) (ww hw 176 rfl) (Or.inl (ww hw 177 rfl)) (d14 65 rfl) (j := 68) rfl ?_
              revert hr
              generalize setI s 68 ((s.1 68) + (1 : Int32)) = s25
              intro hr
              replace hr := (bnd_eq _ _).symm.trans hr
              refine Ev.aloadN (d14 66 rfl) rfl ?_
              refine Ev.bipush (z := 17) (d14 67 rfl) rfl ?_
              refine Ev.bipush (z := 6) (d14 68 rfl) rfl ?_
              obtain ⟨q26, hq27, hr⟩ := Option.bind_eq_some_iff.mp hr
              refine Ev.priv (y := M_push) (args := [.int (17 : Int32), .int (6 : Int32)]) (rest := []) (gok hw) rfl nm_push (ww hw 186 rfl) (ww hw 187 rfl) (ww hw 188 rfl) (ww hw 189 rfl) (lenOf pd_push rfl) (d14 69 rfl) (V.2.1 s25) (e_push hw V hq27) (by decide) (Nat.le_of_ble_eq_true rfl) rfl ?_
              refine Ev.aloadN (d14 70 rfl) rfl ?_
              refine Ev.bipush (z := 7) (d14 71 rfl) rfl ?_
              refine Ev.iconst (z := 0) (d14 72 rfl) rfl ?_
              obtain ⟨q28, hq29, hr⟩ := Option.bind_eq_some_iff.mp hr
              refine Ev.priv (y := M_push) (args := [.int (7 : Int32), .int (0 : Int32)]) (rest := []) (gok hw) rfl nm_push (ww hw 186 rfl) (ww hw 187 rfl) (ww hw 188 rfl) (ww hw 189 rfl) (lenOf pd_push rfl) (d14 73 rfl) (V.2.1 q26) (e_push hw V hq29) (by decide) (Nat.le_of_ble_eq_true rfl) rfl ?_
              refine Ev.goto (t := 174) (d14 74 rfl) rfl ?_
              cases hr
              exact Ev.vreturn rfl (d14 96 rfl)
            · replace hr := (if_neg c24).symm.trans hr
              refine Ev.iloadN (d14 75 rfl) rfl ?_
              refine Ev.bipush (z := 61) (d14 76 rfl) rfl ?_
              refine Ev.icne (t := 169) (d14 77 rfl) rfl (fun c30 => ?_) (fun c30 => ?_)
              · replace hr := (if_pos c30).symm.trans hr
                refine Ev.aloadN (d14 78 rfl) rfl ?_
                refine Ev.dup (d14 79 rfl) rfl ?_
                refine Ev.gI V (ww hw 176 rfl) (d14 80 rfl) (j := 68) rfl rfl ?_
                refine Ev.iconst (z := 1) (d14 81 rfl) rfl ?_
                refine Ev.iadd (d14 82 rfl) ?_
                refine Ev.pI V (gok hw) (ww hw 176 rfl) (Or.inl (ww hw 177 rfl)) (d14 83 rfl) (j := 68) rfl ?_
                revert hr
                generalize setI s 68 ((s.1 68) + (1 : Int32)) = s31
                intro hr
                replace hr := (bnd_eq _ _).symm.trans hr
                refine Ev.aloadN (d14 84 rfl) rfl ?_
                refine Ev.bipush (z := 17) (d14 85 rfl) rfl ?_
                refine Ev.bipush (z := 7) (d14 86 rfl) rfl ?_
                obtain ⟨q32, hq33, hr⟩ := Option.bind_eq_some_iff.mp hr
                refine Ev.priv (y := M_push) (args := [.int (17 : Int32), .int (7 : Int32)]) (rest := []) (gok hw) rfl nm_push (ww hw 186 rfl) (ww hw 187 rfl) (ww hw 188 rfl) (ww hw 189 rfl) (lenOf pd_push rfl) (d14 87 rfl) (V.2.1 s31) (e_push hw V hq33) (by decide) (Nat.le_of_ble_eq_true rfl) rfl ?_
                refine Ev.aloadN (d14 88 rfl) rfl ?_
                refine Ev.bipush (z := 7) (d14 89 rfl) rfl ?_
                refine Ev.iconst (z := 0) (d14 90 rfl) rfl ?_
                obtain ⟨q34, hq35, hr⟩ := Option.bind_eq_some_iff.mp hr
                refine Ev.priv (y := M_push) (args := [.int (7 : Int32), .int (0 : Int32)]) (rest := []) (gok hw) rfl nm_push (ww hw 186 rfl) (ww hw 187 rfl) (ww hw 188 rfl) (ww hw 189 rfl) (lenOf pd_push rfl) (d14 91 rfl) (V.2.1 q32) (e_push hw V hq35) (by decide) (Nat.le_of_ble_eq_true rfl) rfl ?_
                refine Ev.goto (t := 174) (d14 92 rfl) rfl ?_
                cases hr
                exact Ev.vreturn rfl (d14 96 rfl)
              · replace hr := (if_neg c30).symm.trans hr
                refine Ev.aloadN (d14 93 rfl) rfl ?_
                refine Ev.iconst (z := 1) (d14 94 rfl) rfl ?_
                refine Ev.pZ V (gok hw) (ww hw 178 rfl) (Or.inl (ww hw 179 rfl)) (d14 95 rfl) (j := 69) rfl ?_
                revert hr
                generalize setI s 69 ((1 : Int32) &&& 1) = s36
                intro hr
                replace hr := (bnd_eq _ _).symm.trans hr
                cases hr
                exact Ev.vreturn rfl (d14 96 rfl)
def f_stepAtom_68 (x1 : Int32) (s : St) : Option (St) :=
  if x1 = (40 : Int32) then
    bnd (setI s 68 ((s.1 68) + (1 : Int32))) fun s2 =>
    (f_push (14 : Int32) (41 : Int32) s2).bind fun q3 =>
    (f_push (7 : Int32) (0 : Int32) q3).bind fun q5 =>
    some q5
  else
    bnd (setI s 69 ((1 : Int32) &&& 1)) fun s7 =>
    some s7
set_option maxRecDepth 100000 in
theorem e_stepAtom_68 {g : GT} (hw : HW g) {K : St → MHeap} {o : Nat} {r : Nat → Nat} (V : View (GG g) Ln K o r) (x1 : Int32) (s : St) (y2 : Slot) (hy2 : one1 y2 = true) (w : St) (hr : f_stepAtom_68 x1 s = some w) : Ev (GG g) M_stepAtom 68 [.val (.ref o), .val (.int x1), y2] [] (K s) (none, (K w)) := by
  unfold f_stepAtom_68 at hr
  refine Ev.iloadN (d18 39 rfl) rfl ?_
  refine Ev.bipush (z := 40) (d18 40 rfl) rfl ?_
  refine Ev.icne (t := 102) (d18 41 rfl) rfl (fun c1 => ?_) (fun c1 => ?_)
  · replace hr := (if_pos c1).symm.trans hr
    refine Ev.aloadN (d18 42 rfl) rfl ?_
    refine Ev.dup (d18 43 rfl) rfl ?_
    refine Ev.gI V (ww hw 176 rfl) (d18 44 rfl) (j := 68) rfl rfl ?_
    refine Ev.iconst (z := 1) (d18 45 rfl) rfl ?_
    refine Ev.iadd (d18 46 rfl) ?_
    refine Ev.pI V (gok hw) (ww hw 176 rfl) (Or.inl (ww hw 177 rfl)) (d18 47 rfl) (j := 68) rfl ?_
    revert hr
    generalize setI s 68 ((s.1 68) + (1 : Int32)) = s2
    intro hr
    replace hr := (bnd_eq _ _).symm.trans hr
    refine Ev.aloadN (d18 48 rfl) rfl ?_
    refine Ev.bipush (z := 14) (d18 49 rfl) rfl ?_
    refine Ev.bipush (z := 41) (d18 50 rfl) rfl ?_
    obtain ⟨q3, hq4, hr⟩ := Option.bind_eq_some_iff.mp hr
    refine Ev.priv (y := M_push) (args := [.int (14 : Int32), .int (41 : Int32)]) (rest := []) (gok hw) rfl nm_push (ww hw 186 rfl) (ww hw 187 rfl) (ww hw 188 rfl) (ww hw 189 rfl) (lenOf pd_push rfl) (d18 51 rfl) (V.2.1 s2) (e_push hw V hq4) (by decide) (Nat.le_of_ble_eq_true rfl) rfl ?_
    refine Ev.aloadN (d18 52 rfl) rfl ?_
    refine Ev.bipush (z := 7) (d18 53 rfl) rfl ?_
    refine Ev.iconst (z := 0) (d18 54 rfl) rfl ?_
    obtain ⟨q5, hq6, hr⟩ := Option.bind_eq_some_iff.mp hr
    refine Ev.priv (y := M_push) (args := [.int (7 : Int32), .int (0 : Int32)]) (rest := []) (gok hw) rfl nm_push (ww hw 186 rfl) (ww hw 187 rfl) (ww hw 188 rfl) (ww hw 189 rfl) (lenOf pd_push rfl) (d18 55 rfl) (V.2.1 q3) (e_push hw V hq6) (by decide) (Nat.le_of_ble_eq_true rfl) rfl ?_
    refine Ev.goto (t := 107) (d18 56 rfl) rfl ?_
    cases hr
    exact Ev.vreturn rfl (d18 60 rfl)
  · replace hr := (if_neg c1).symm.trans hr
    refine Ev.aloadN (d18 57 rfl) rfl ?_
    refine Ev.iconst (z := 1) (d18 58 rfl) rfl ?_
    refine Ev.pZ V (gok hw) (ww hw 178 rfl) (Or.inl (ww hw 179 rfl)) (d18 59 rfl) (j := 69) rfl ?_
    revert hr
    generalize setI s 69 ((1 : Int32) &&& 1) = s7
    intro hr
    replace hr := (bnd_eq _ _).symm.trans hr
    cases hr
    exact Ev.vreturn rfl (d18 60 rfl)
def f_stepAtom (s : St) : Option (St) :=
  (f_la s).bind fun q1 =>
  (f_varIndex s q1).bind fun q3 =>
  if q3 < 0 then
    if q1 < (48 : Int32) then
      f_stepAtom_68 q1 s
    else
      if (57 : Int32) < q1 then
        f_stepAtom_68 q1 s
      else
        bnd (setI s 68 ((s.1 68) + (1 : Int32))) fun s8 =>
        (f_emit (2 : Int32) (q1 - (48 : Int32)) s8).bind fun q9 =>
        some q9
  else
    bnd (setI s 68 ((s.1 68) + (1 : Int32))) fun s11 =>
    (f_emit (1 : Int32) q3 s11).bind fun q12 =>
    some q12
set_option maxRecDepth 100000 in
theorem e_stepAtom {g : GT} {s : St} {w : St} (hw : HW g) {K : St → MHeap} {o : Nat} {r : Nat → Nat} (V : View (GG g) Ln K o r) (hr : f_stepAtom s = some w) : EvC (GG g) M_stepAtom [.ref o] (K s) (none, (K w)) := by
  refine EvC.enter (L0 := [.val (.ref o), .unset, .unset]) pl_stepAtom (fun _ => rfl) rfl rfl ?_
  unfold f_stepAtom at hr
  refine Ev.aloadN (d18 0 rfl) rfl ?_
  obtain ⟨q1, hq2, hr⟩ := Option.bind_eq_some_iff.mp hr
  refine Ev.priv (y := M_la) (args := []) (rest := []) (gok hw) rfl nm_la (ww hw 199 rfl) (ww hw 200 rfl) (ww hw 201 rfl) (ww hw 202 rfl) (lenOf pd_la rfl) (d18 1 rfl) (V.2.1 s) (e_la hw V hq2) (by decide) (Nat.le_of_ble_eq_true rfl) rfl ?_
  refine Ev.istDN (L' := [.val (.ref o), .val (.int q1), .unset]) (d18 2 rfl) rfl rfl rfl ?_
  refine Ev.aloadN (d18 3 rfl) rfl ?_
  refine Ev.iloadN (d18 4 rfl) rfl ?_
  obtain ⟨q3, hq4, hr⟩ := Option.bind_eq_some_iff.mp hr
  refine Ev.priv (y := M_varIndex) (args := [.int q1]) (rest := []) (gok hw) rfl nm_varIndex (ww hw 151 rfl) (ww hw 152 rfl) (ww hw 153 rfl) (ww hw 154 rfl) (lenOf pd_varIndex rfl) (d18 5 rfl) (V.2.1 s) (e_varIndex hw V hq4) (by decide) (Nat.le_of_ble_eq_true rfl) rfl ?_
  refine Ev.istDN (L' := [.val (.ref o), .val (.int q1), .val (.int q3)]) (d18 6 rfl) rfl rfl rfl ?_
  refine Ev.iloadN (d18 7 rfl) rfl ?_
  refine Ev.iflt (t := 34) (d18 8 rfl) rfl (fun c5 => ?_) (fun c5 => ?_)
  · replace hr := (if_pos c5).symm.trans hr
    refine Ev.iloadN (d18 20 rfl) rfl ?_
    refine Ev.bipush (z := 48) (d18 21 rfl) rfl ?_
    refine Ev.iclt (t := 68) (d18 22 rfl) rfl (fun c6 => ?_) (fun c6 => ?_)
    · replace hr := (if_pos c6).symm.trans hr
      exact e_stepAtom_68 hw V  q1 s (.val (.int q3)) rfl _ hr
    · replace hr := (if_neg c6).symm.trans hr
      refine Ev.iloadN (d18 23 rfl) rfl ?_
      refine Ev.bipush (z := 57) (d18 24 rfl) rfl ?_
      refine Ev.icgt (t := 68) (d18 25 rfl) rfl (fun c7 => ?_) (fun c7 => ?_)
      · replace hr := (if_pos c7).symm.trans hr
        exact e_stepAtom_68 hw V  q1 s (.val (.int q3)) rfl _ hr
      · replace hr := (if_neg c7).symm.trans hr
        refine Ev.aloadN (d18 26 rfl) rfl ?_
        refine Ev.dup (d18 27 rfl) rfl ?_
        refine Ev.gI V (ww hw 176 rfl) (d18 28 rfl) (j := 68) rfl rfl ?_
        refine Ev.iconst (z := 1) (d18 29 rfl) rfl ?_
        refine Ev.iadd (d18 30 rfl) ?_
        refine Ev.pI V (gok hw) (ww hw 176 rfl) (Or.inl (ww hw 177 rfl)) (d18 31 rfl) (j := 68) rfl ?_
        revert hr
        generalize setI s 68 ((s.1 68) + (1 : Int32)) = s8
        intro hr
        replace hr := (bnd_eq _ _).symm.trans hr
        refine Ev.aloadN (d18 32 rfl) rfl ?_
        refine Ev.iconst (z := 2) (d18 33 rfl) rfl ?_
        refine Ev.iloadN (d18 34 rfl) rfl ?_
        refine Ev.bipush (z := 48) (d18 35 rfl) rfl ?_
        refine Ev.isub (d18 36 rfl) ?_
        obtain ⟨q9, hq10, hr⟩ := Option.bind_eq_some_iff.mp hr
        refine Ev.priv (y := M_emit) (args := [.int (2 : Int32), .int (q1 - (48 : Int32))]) (rest := []) (gok hw) rfl nm_emit (ww hw 223 rfl) (ww hw 224 rfl) (ww hw 225 rfl) (ww hw 226 rfl) (lenOf pd_emit rfl) (d18 37 rfl) (V.2.1 s8) (e_emit hw V hq10) (by decide) (Nat.le_of_ble_eq_true rfl) rfl ?_
        refine Ev.goto (t := 107) (d18 38 rfl) rfl ?_
        cases hr
        exact Ev.vreturn rfl (d18 60 rfl)
  · replace hr := (if_neg c5).symm.trans hr
    refine Ev.aloadN (d18 9 rfl) rfl ?_
    refine Ev.dup (d18 10 rfl) rfl ?_
    refine Ev.gI V (ww hw 176 rfl) (d18 11 rfl) (j := 68) rfl rfl ?_
    refine Ev.iconst (z := 1) (d18 12 rfl) rfl ?_
    refine Ev.iadd (d18 13 rfl) ?_
    refine Ev.pI V (gok hw) (ww hw 176 rfl) (Or.inl (ww hw 177 rfl)) (d18 14 rfl) (j := 68) rfl ?_
    revert hr
    generalize setI s 68 ((s.1 68) + (1 : Int32)) = s11
    intro hr
    replace hr := (bnd_eq _ _).symm.trans hr
    refine Ev.aloadN (d18 15 rfl) rfl ?_
    refine Ev.iconst (z := 1) (d18 16 rfl) rfl ?_
    refine Ev.iloadN (d18 17 rfl) rfl ?_
    obtain ⟨q12, hq13, hr⟩ := Option.bind_eq_some_iff.mp hr
    refine Ev.priv (y := M_emit) (args := [.int (1 : Int32), .int q3]) (rest := []) (gok hw) rfl nm_emit (ww hw 223 rfl) (ww hw 224 rfl) (ww hw 225 rfl) (ww hw 226 rfl) (lenOf pd_emit rfl) (d18 18 rfl) (V.2.1 s11) (e_emit hw V hq13) (by decide) (Nat.le_of_ble_eq_true rfl) rfl ?_
    refine Ev.goto (t := 107) (d18 19 rfl) rfl ?_
    cases hr
    exact Ev.vreturn rfl (d18 60 rfl)
def f_stepExpr (a0 : Int32) (s : St) : Option (St) :=
  (f_la s).bind fun q1 =>
  if a0 = (7 : Int32) then
    (f_push (8 : Int32) (0 : Int32) s).bind fun q4 =>
    (f_push (9 : Int32) (0 : Int32) q4).bind fun q6 =>
    some q6
  else
    if a0 = (8 : Int32) then
      if q1 = (43 : Int32) then
        (f_binRest (8 : Int32) (3 : Int32) (9 : Int32) s).bind fun q10 =>
        some q10
      else
        if q1 = (45 : Int32) then
          (f_binRest (8 : Int32) (4 : Int32) (9 : Int32) s).bind fun q13 =>
          some q13
        else
          some s
    else
      if a0 = (9 : Int32) then
        (f_push (10 : Int32) (0 : Int32) s).bind fun q16 =>
        (f_push (11 : Int32) (0 : Int32) q16).bind fun q18 =>
        some q18
      else
        if a0 = (10 : Int32) then
          if q1 = (42 : Int32) then
            (f_binRest (10 : Int32) (5 : Int32) (11 : Int32) s).bind fun q22 =>
            some q22
          else
            some s
        else
          (f_stepAtom s).bind fun q24 =>
          some q24
set_option maxRecDepth 100000 in
theorem e_stepExpr {g : GT} {a0 : Int32} {s : St} {w : St} (hw : HW g) {K : St → MHeap} {o : Nat} {r : Nat → Nat} (V : View (GG g) Ln K o r) (hr : f_stepExpr a0 s = some w) : EvC (GG g) M_stepExpr [.ref o, .int a0] (K s) (none, (K w)) := by
  refine EvC.enter (L0 := [.val (.ref o), .val (.int a0), .unset]) pl_stepExpr (fun _ => rfl) rfl rfl ?_
  unfold f_stepExpr at hr
  refine Ev.aloadN (d17 0 rfl) rfl ?_
  obtain ⟨q1, hq2, hr⟩ := Option.bind_eq_some_iff.mp hr
  refine Ev.priv (y := M_la) (args := []) (rest := []) (gok hw) rfl nm_la (ww hw 199 rfl) (ww hw 200 rfl) (ww hw 201 rfl) (ww hw 202 rfl) (lenOf pd_la rfl) (d17 1 rfl) (V.2.1 s) (e_la hw V hq2) (by decide) (Nat.le_of_ble_eq_true rfl) rfl ?_
  refine Ev.istDN (L' := [.val (.ref o), .val (.int a0), .val (.int q1)]) (d17 2 rfl) rfl rfl rfl ?_
  refine Ev.iloadN (d17 3 rfl) rfl ?_
  refine Ev.bipush (z := 7) (d17 4 rfl) rfl ?_
  refine Ev.icne (t := 28) (d17 5 rfl) rfl (fun c3 => ?_) (fun c3 => ?_)
  · replace hr := (if_pos c3).symm.trans hr
    refine Ev.aloadN (d17 6 rfl) rfl ?_
    refine Ev.bipush (z := 8) (d17 7 rfl) rfl ?_
    refine Ev.iconst (z := 0) (d17 8 rfl) rfl ?_
    obtain ⟨q4, hq5, hr⟩ := Option.bind_eq_some_iff.mp hr
    refine Ev.priv (y := M_push) (args := [.int (8 : Int32), .int (0 : Int32)]) (rest := []) (gok hw) rfl nm_push (ww hw 186 rfl) (ww hw 187 rfl) (ww hw 188 rfl) (ww hw 189 rfl) (lenOf pd_push rfl) (d17 9 rfl) (V.2.1 s) (e_push hw V hq5) (by decide) (Nat.le_of_ble_eq_true rfl) rfl ?_
    refine Ev.aloadN (d17 10 rfl) rfl ?_
    refine Ev.bipush (z := 9) (d17 11 rfl) rfl ?_
    refine Ev.iconst (z := 0) (d17 12 rfl) rfl ?_
    obtain ⟨q6, hq7, hr⟩ := Option.bind_eq_some_iff.mp hr
    refine Ev.priv (y := M_push) (args := [.int (9 : Int32), .int (0 : Int32)]) (rest := []) (gok hw) rfl nm_push (ww hw 186 rfl) (ww hw 187 rfl) (ww hw 188 rfl) (ww hw 189 rfl) (lenOf pd_push rfl) (d17 13 rfl) (V.2.1 q4) (e_push hw V hq7) (by decide) (Nat.le_of_ble_eq_true rfl) rfl ?_
    refine Ev.goto (t := 121) (d17 14 rfl) rfl ?_
    cases hr
    exact Ev.vreturn rfl (d17 62 rfl)
  · replace hr := (if_neg c3).symm.trans hr
    refine Ev.iloadN (d17 15 rfl) rfl ?_
    refine Ev.bipush (z := 8) (d17 16 rfl) rfl ?_
    refine Ev.icne (t := 70) (d17 17 rfl) rfl (fun c8 => ?_) (fun c8 => ?_)
    · replace hr := (if_pos c8).symm.trans hr
      refine Ev.iloadN (d17 18 rfl) rfl ?_
      refine Ev.bipush (z := 43) (d17 19 rfl) rfl ?_
      refine Ev.icne (t := 52) (d17 20 rfl) rfl (fun c9 => ?_) (fun c9 => ?_)
      · replace hr := (if_pos c9).symm.trans hr
        refine Ev.aloadN (d17 21 rfl) rfl ?_
        refine Ev.bipush (z := 8) (d17 22 rfl) rfl ?_
        refine Ev.iconst (z := 3) (d17 23 rfl) rfl ?_
        refine Ev.bipush (z := 9) (d17 24 rfl) rfl ?_
        obtain ⟨q10, hq11, hr⟩ := Option.bind_eq_some_iff.mp hr
        refine Ev.priv (y := M_binRest) (args := [.int (8 : Int32), .int (3 : Int32), .int (9 : Int32)]) (rest := []) (gok hw) rfl nm_binRest (ww hw 251 rfl) (ww hw 252 rfl) (ww hw 253 rfl) (ww hw 254 rfl) (lenOf pd_binRest rfl) (d17 25 rfl) (V.2.1 s) (e_binRest hw V hq11) (by decide) (Nat.le_of_ble_eq_true rfl) rfl ?_
        refine Ev.goto (t := 121) (d17 26 rfl) rfl ?_
        cases hr
        exact Ev.vreturn rfl (d17 62 rfl)
      · replace hr := (if_neg c9).symm.trans hr
        refine Ev.iloadN (d17 27 rfl) rfl ?_
        refine Ev.bipush (z := 45) (d17 28 rfl) rfl ?_
        refine Ev.icne (t := 121) (d17 29 rfl) rfl (fun c12 => ?_) (fun c12 => ?_)
        · replace hr := (if_pos c12).symm.trans hr
          refine Ev.aloadN (d17 30 rfl) rfl ?_
          refine Ev.bipush (z := 8) (d17 31 rfl) rfl ?_
          refine Ev.iconst (z := 4) (d17 32 rfl) rfl ?_
          refine Ev.bipush (z := 9) (d17 33 rfl) rfl ?_
          obtain ⟨q13, hq14, hr⟩ := Option.bind_eq_some_iff.mp hr
          refine Ev.priv (y := M_binRest) (args := [.int (8 : Int32), .int (4 : Int32), .int (9 : Int32)]) (rest := []) (gok hw) rfl nm_binRest (ww hw 251 rfl) (ww hw 252 rfl) (ww hw 253 rfl) (ww hw 254 rfl) (lenOf pd_binRest rfl) (d17 34 rfl) (V.2.1 s) (e_binRest hw V hq14) (by decide) (Nat.le_of_ble_eq_true rfl) rfl ?_
          refine Ev.goto (t := 121) (d17 35 rfl) rfl ?_
          cases hr
          exact Ev.vreturn rfl (d17 62 rfl)
        · replace hr := (if_neg c12).symm.trans hr
          cases hr
          exact Ev.vreturn rfl (d17 62 rfl)
    · replace hr := (if_neg c8).symm.trans hr
      refine Ev.iloadN (d17 36 rfl) rfl ?_
      refine Ev.bipush (z := 9) (d17 37 rfl) rfl ?_
      refine Ev.icne (t := 93) (d17 38 rfl) rfl (fun c15 => ?_) (fun c15 => ?_)
      · replace hr := (if_pos c15).symm.trans hr
        refine Ev.aloadN (d17 39 rfl) rfl ?_
        refine Ev.bipush (z := 10) (d17 40 rfl) rfl ?_
        refine Ev.iconst (z := 0) (d17 41 rfl) rfl ?_
        obtain ⟨q16, hq17, hr⟩ := Option.bind_eq_some_iff.mp hr
        refine Ev.priv (y := M_push) (args := [.int (10 : Int32), .int (0 : Int32)]) (rest := []) (gok hw) rfl nm_push (ww hw 186 rfl) (ww hw 187 rfl) (ww hw 188 rfl) (ww hw 189 rfl) (lenOf pd_push rfl) (d17 42 rfl) (V.2.1 s) (e_push hw V hq17) (by decide) (Nat.le_of_ble_eq_true rfl) rfl ?_
        refine Ev.aloadN (d17 43 rfl) rfl ?_
        refine Ev.bipush (z := 11) (d17 44 rfl) rfl ?_
        refine Ev.iconst (z := 0) (d17 45 rfl) rfl ?_
        obtain ⟨q18, hq19, hr⟩ := Option.bind_eq_some_iff.mp hr
        refine Ev.priv (y := M_push) (args := [.int (11 : Int32), .int (0 : Int32)]) (rest := []) (gok hw) rfl nm_push (ww hw 186 rfl) (ww hw 187 rfl) (ww hw 188 rfl) (ww hw 189 rfl) (lenOf pd_push rfl) (d17 46 rfl) (V.2.1 q16) (e_push hw V hq19) (by decide) (Nat.le_of_ble_eq_true rfl) rfl ?_
        refine Ev.goto (t := 121) (d17 47 rfl) rfl ?_
        cases hr
        exact Ev.vreturn rfl (d17 62 rfl)
      · replace hr := (if_neg c15).symm.trans hr
        refine Ev.iloadN (d17 48 rfl) rfl ?_
        refine Ev.bipush (z := 10) (d17 49 rfl) rfl ?_
        refine Ev.icne (t := 117) (d17 50 rfl) rfl (fun c20 => ?_) (fun c20 => ?_)
        · replace hr := (if_pos c20).symm.trans hr
          refine Ev.iloadN (d17 51 rfl) rfl ?_
          refine Ev.bipush (z := 42) (d17 52 rfl) rfl ?_
          refine Ev.icne (t := 121) (d17 53 rfl) rfl (fun c21 => ?_) (fun c21 => ?_)
          · replace hr := (if_pos c21).symm.trans hr
            refine Ev.aloadN (d17 54 rfl) rfl ?_
            refine Ev.bipush (z := 10) (d17 55 rfl) rfl ?_
            refine Ev.iconst (z := 5) (d17 56 rfl) rfl ?_
            refine Ev.bipush (z := 11) (d17 57 rfl) rfl ?_
            obtain ⟨q22, hq23, hr⟩ := Option.bind_eq_some_iff.mp hr
            refine Ev.priv (y := M_binRest) (args := [.int (10 : Int32), .int (5 : Int32), .int (11 : Int32)]) (rest := []) (gok hw) rfl nm_binRest (ww hw 251 rfl) (ww hw 252 rfl) (ww hw 253 rfl) (ww hw 254 rfl) (lenOf pd_binRest rfl) (d17 58 rfl) (V.2.1 s) (e_binRest hw V hq23) (by decide) (Nat.le_of_ble_eq_true rfl) rfl ?_
            refine Ev.goto (t := 121) (d17 59 rfl) rfl ?_
            cases hr
            exact Ev.vreturn rfl (d17 62 rfl)
          · replace hr := (if_neg c21).symm.trans hr
            cases hr
            exact Ev.vreturn rfl (d17 62 rfl)
        · replace hr := (if_neg c20).symm.trans hr
          refine Ev.aloadN (d17 60 rfl) rfl ?_
          obtain ⟨q24, hq25, hr⟩ := Option.bind_eq_some_iff.mp hr
          refine Ev.priv (y := M_stepAtom) (args := []) (rest := []) (gok hw) rfl nm_stepAtom (ww hw 219 rfl) (ww hw 220 rfl) (ww hw 221 rfl) (ww hw 222 rfl) (lenOf pd_stepAtom rfl) (d17 61 rfl) (V.2.1 s) (e_stepAtom hw V hq25) (by decide) (Nat.le_of_ble_eq_true rfl) rfl ?_
          cases hr
          exact Ev.vreturn rfl (d17 62 rfl)
def f_stmtStart (s : St) (a0 : Int32) : Option (Int32) :=
  (f_varIndex s a0).bind fun q1 =>
  if q1 < 0 then
    if a0 = (63 : Int32) then
      some (1 : Int32)
    else
      if a0 = (87 : Int32) then
        some (1 : Int32)
      else
        some (0 : Int32)
  else
    some (1 : Int32)
set_option maxRecDepth 100000 in
theorem e_stmtStart {g : GT} {s : St} {a0 : Int32} {w : Int32} (hw : HW g) {K : St → MHeap} {o : Nat} {r : Nat → Nat} (V : View (GG g) Ln K o r) (hr : f_stmtStart s a0 = some w) : EvC (GG g) M_stmtStart [.ref o, .int a0] (K s) ((some (.int w)), (K s)) := by
  refine EvC.enter (L0 := [.val (.ref o), .val (.int a0)]) pl_stmtStart (fun h => nomatch h) rfl rfl ?_
  unfold f_stmtStart at hr
  refine Ev.aloadN (d22 0 rfl) rfl ?_
  refine Ev.iloadN (d22 1 rfl) rfl ?_
  obtain ⟨q1, hq2, hr⟩ := Option.bind_eq_some_iff.mp hr
  refine Ev.priv (y := M_varIndex) (args := [.int a0]) (rest := []) (gok hw) rfl nm_varIndex (ww hw 151 rfl) (ww hw 152 rfl) (ww hw 153 rfl) (ww hw 154 rfl) (lenOf pd_varIndex rfl) (d22 2 rfl) (V.2.1 s) (e_varIndex hw V hq2) (by decide) (Nat.le_of_ble_eq_true rfl) rfl ?_
  refine Ev.ifge (t := 20) (d22 3 rfl) rfl (fun c3 => ?_) (fun c3 => ?_)
  · replace hr := (if_pos c3).symm.trans hr
    refine Ev.iloadN (d22 4 rfl) rfl ?_
    refine Ev.bipush (z := 63) (d22 5 rfl) rfl ?_
    refine Ev.iceq (t := 20) (d22 6 rfl) rfl (fun c4 => ?_) (fun c4 => ?_)
    · replace hr := (if_pos c4).symm.trans hr
      refine Ev.iconst (z := 1) (d22 10 rfl) rfl ?_
      refine Ev.goto (t := 25) (d22 11 rfl) rfl ?_
      cases hr
      exact Ev.zret1 rfl (d22 13 rfl)
    · replace hr := (if_neg c4).symm.trans hr
      refine Ev.iloadN (d22 7 rfl) rfl ?_
      refine Ev.bipush (z := 87) (d22 8 rfl) rfl ?_
      refine Ev.icne (t := 24) (d22 9 rfl) rfl (fun c5 => ?_) (fun c5 => ?_)
      · replace hr := (if_pos c5).symm.trans hr
        refine Ev.iconst (z := 1) (d22 10 rfl) rfl ?_
        refine Ev.goto (t := 25) (d22 11 rfl) rfl ?_
        cases hr
        exact Ev.zret1 rfl (d22 13 rfl)
      · replace hr := (if_neg c5).symm.trans hr
        refine Ev.iconst (z := 0) (d22 12 rfl) rfl ?_
        cases hr
        exact Ev.zret0 rfl (d22 13 rfl)
  · replace hr := (if_neg c3).symm.trans hr
    refine Ev.iconst (z := 1) (d22 10 rfl) rfl ?_
    refine Ev.goto (t := 25) (d22 11 rfl) rfl ?_
    cases hr
    exact Ev.zret1 rfl (d22 13 rfl)
def f_newStmt_16 (s : St) : Option (Int32 × St) :=
  bnd (setI s 69 ((1 : Int32) &&& 1)) fun s1 =>
  some ((-1 : Int32), s1)
set_option maxRecDepth 100000 in
theorem e_newStmt_16 {g : GT} (hw : HW g) {K : St → MHeap} {o : Nat} {r : Nat → Nat} (V : View (GG g) Ln K o r) (s : St) (y1 : Slot) (hy1 : one1 y1 = true) (y2 : Slot) (hy2 : one1 y2 = true) (y3 : Slot) (hy3 : one1 y3 = true) (y4 : Slot) (hy4 : one1 y4 = true) (y5 : Slot) (hy5 : one1 y5 = true) (w : Int32 × St) (hr : f_newStmt_16 s = some w) : Ev (GG g) M_newStmt 16 [.val (.ref o), y1, y2, y3, y4, y5] [] (K s) ((some (.int w.1)), (K w.2)) := by
  unfold f_newStmt_16 at hr
  refine Ev.aloadN (d24 7 rfl) rfl ?_
  refine Ev.iconst (z := 1) (d24 8 rfl) rfl ?_
  refine Ev.pZ V (gok hw) (ww hw 178 rfl) (Or.inl (ww hw 179 rfl)) (d24 9 rfl) (j := 69) rfl ?_
  revert hr
  generalize setI s 69 ((1 : Int32) &&& 1) = s1
  intro hr
  replace hr := (bnd_eq _ _).symm.trans hr
  refine Ev.iconst (z := -1) (d24 10 rfl) rfl ?_
  cases hr
  exact Ev.ireturn rfl (d24 11 rfl)
def f_newStmt_182 (x2 : Int32) (x3 : Int32) (s : St) : Option (Int32 × St) :=
  grd (inb x3 64) <|
  bnd (setA s 54 (ix x3) x2) fun s2 =>
  some (x2, s2)
set_option maxRecDepth 100000 in
theorem e_newStmt_182 {g : GT} (hw : HW g) {K : St → MHeap} {o : Nat} {r : Nat → Nat} (V : View (GG g) Ln K o r) (x2 : Int32) (x3 : Int32) (s : St) (y1 : Slot) (hy1 : one1 y1 = true) (y4 : Slot) (hy4 : one1 y4 = true) (y5 : Slot) (hy5 : one1 y5 = true) (w : Int32 × St) (hr : f_newStmt_182 x2 x3 s = some w) : Ev (GG g) M_newStmt 182 [.val (.ref o), y1, .val (.int x2), .val (.int x3), y4, y5] [] (K s) ((some (.int w.1)), (K w.2)) := by
  unfold f_newStmt_182 at hr
  refine Ev.aloadN (d24 105 rfl) rfl ?_
  refine Ev.gAr V (ww hw 122 rfl) (d24 106 rfl) (j := 54) rfl ?_
  refine Ev.iloadN (d24 107 rfl) rfl ?_
  refine Ev.iloadN (d24 108 rfl) rfl ?_
  obtain ⟨b1, hr⟩ := grd_some hr
  refine Ev.ias V (j := 54) rfl rfl (d24 109 rfl) b1 ?_
  revert hr
  generalize setA s 54 (ix x3) x2 = s2
  intro hr
  replace hr := (bnd_eq _ _).symm.trans hr
  refine Ev.iloadN (d24 110 rfl) rfl ?_
  cases hr
  exact Ev.ireturn rfl (d24 111 rfl)
def f_newStmt_167 (x2 : Int32) (x3 : Int32) (x4 : Int32) (s : St) : Option (Int32 × St) :=
  if x4 < (64 : Int32) then
    grd (inb x4 64) <|
    bnd (setA s 46 (ix x4) x2) fun s3 =>
    f_newStmt_182 x2 x3 s3
  else
    f_newStmt_182 x2 x3 s
set_option maxRecDepth 100000 in
theorem e_newStmt_167 {g : GT} (hw : HW g) {K : St → MHeap} {o : Nat} {r : Nat → Nat} (V : View (GG g) Ln K o r) (x2 : Int32) (x3 : Int32) (x4 : Int32) (s : St) (y1 : Slot) (hy1 : one1 y1 = true) (y5 : Slot) (hy5 : one1 y5 = true) (w : Int32 × St) (hr : f_newStmt_167 x2 x3 x4 s = some w) : Ev (GG g) M_newStmt 167 [.val (.ref o), y1, .val (.int x2), .val (.int x3), .val (.int x4), y5] [] (K s) ((some (.int w.1)), (K w.2)) := by
  unfold f_newStmt_167 at hr
  refine Ev.iload (d24 97 rfl) rfl ?_
  refine Ev.bipush (z := 64) (d24 98 rfl) rfl ?_
  refine Ev.icge (t := 182) (d24 99 rfl) rfl (fun c1 => ?_) (fun c1 => ?_)
  · replace hr := (if_pos c1).symm.trans hr
    refine Ev.aloadN (d24 100 rfl) rfl ?_
    refine Ev.gAr V (ww hw 106 rfl) (d24 101 rfl) (j := 46) rfl ?_
    refine Ev.iload (d24 102 rfl) rfl ?_
    refine Ev.iloadN (d24 103 rfl) rfl ?_
    obtain ⟨b2, hr⟩ := grd_some hr
    refine Ev.ias V (j := 46) rfl rfl (d24 104 rfl) b2 ?_
    revert hr
    generalize setA s 46 (ix x4) x2 = s3
    intro hr
    replace hr := (bnd_eq _ _).symm.trans hr
    exact e_newStmt_182 hw V  x2 x3 s3 y1 hy1 (.val (.int x4)) rfl y5 hy5 _ hr
  · replace hr := (if_neg c1).symm.trans hr
    exact e_newStmt_182 hw V  x2 x3 s y1 hy1 (.val (.int x4)) rfl y5 hy5 _ hr
def f_newStmt_127 (x2 : Int32) (x3 : Int32) (x4 : Int32) (s : St) : Option (Int32 × St) :=
  if x4 < 0 then
    bnd (setI s 67 x2) fun s2 =>
    f_newStmt_182 x2 x3 s2
  else
    if x4 < (64 : Int32) then
      grd (inb x3 64) <|
      if (s.2 53 (ix x3)) = 0 then
        grd (inb x4 64) <|
        bnd (setA s 45 (ix x4) x2) fun s7 =>
        f_newStmt_182 x2 x3 s7
      else
        f_newStmt_167 x2 x3 x4 s
    else
      f_newStmt_167 x2 x3 x4 s
set_option maxRecDepth 100000 in
theorem e_newStmt_127 {g : GT} (hw : HW g) {K : St → MHeap} {o : Nat} {r : Nat → Nat} (V : View (GG g) Ln K o r) (x2 : Int32) (x3 : Int32) (x4 : Int32) (s : St) (y1 : Slot) (hy1 : one1 y1 = true) (y5 : Slot) (hy5 : one1 y5 = true) (w : Int32 × St) (hr : f_newStmt_127 x2 x3 x4 s = some w) : Ev (GG g) M_newStmt 127 [.val (.ref o), y1, .val (.int x2), .val (.int x3), .val (.int x4), y5] [] (K s) ((some (.int w.1)), (K w.2)) := by
  unfold f_newStmt_127 at hr
  refine Ev.iload (d24 77 rfl) rfl ?_
  refine Ev.ifge (t := 140) (d24 78 rfl) rfl (fun c1 => ?_) (fun c1 => ?_)
  · replace hr := (if_pos c1).symm.trans hr
    refine Ev.aloadN (d24 79 rfl) rfl ?_
    refine Ev.iloadN (d24 80 rfl) rfl ?_
    refine Ev.pI V (gok hw) (ww hw 174 rfl) (Or.inl (ww hw 175 rfl)) (d24 81 rfl) (j := 67) rfl ?_
    revert hr
    generalize setI s 67 x2 = s2
    intro hr
    replace hr := (bnd_eq _ _).symm.trans hr
    refine Ev.goto (t := 182) (d24 82 rfl) rfl ?_
    exact e_newStmt_182 hw V  x2 x3 s2 y1 hy1 (.val (.int x4)) rfl y5 hy5 _ hr
  · replace hr := (if_neg c1).symm.trans hr
    refine Ev.iload (d24 83 rfl) rfl ?_
    refine Ev.bipush (z := 64) (d24 84 rfl) rfl ?_
    refine Ev.icge (t := 167) (d24 85 rfl) rfl (fun c3 => ?_) (fun c3 => ?_)
    · replace hr := (if_pos c3).symm.trans hr
      refine Ev.aloadN (d24 86 rfl) rfl ?_
      refine Ev.gAr V (ww hw 120 rfl) (d24 87 rfl) (j := 53) rfl ?_
      refine Ev.iloadN (d24 88 rfl) rfl ?_
      obtain ⟨b4, hr⟩ := grd_some hr
      refine Ev.ial V (j := 53) rfl rfl (d24 89 rfl) b4 ?_
      refine Ev.ifne (t := 167) (d24 90 rfl) rfl (fun c5 => ?_) (fun c5 => ?_)
      · replace hr := (if_pos c5).symm.trans hr
        refine Ev.aloadN (d24 91 rfl) rfl ?_
        refine Ev.gAr V (ww hw 104 rfl) (d24 92 rfl) (j := 45) rfl ?_
        refine Ev.iload (d24 93 rfl) rfl ?_
        refine Ev.iloadN (d24 94 rfl) rfl ?_
        obtain ⟨b6, hr⟩ := grd_some hr
        refine Ev.ias V (j := 45) rfl rfl (d24 95 rfl) b6 ?_
        revert hr
        generalize setA s 45 (ix x4) x2 = s7
        intro hr
        replace hr := (bnd_eq _ _).symm.trans hr
        refine Ev.goto (t := 182) (d24 96 rfl) rfl ?_
        exact e_newStmt_182 hw V  x2 x3 s7 y1 hy1 (.val (.int x4)) rfl y5 hy5 _ hr
      · replace hr := (if_neg c5).symm.trans hr
        exact e_newStmt_167 hw V  x2 x3 x4 s y1 hy1 y5 hy5 _ hr
    · replace hr := (if_neg c3).symm.trans hr
      exact e_newStmt_167 hw V  x2 x3 x4 s y1 hy1 y5 hy5 _ hr
def f_newStmt (a0 : Int32) (s : St) : Option (Int32 × St) :=
  if (s.1 64) < (64 : Int32) then
    if 0 < (s.1 66) then
      bnd (setI s 64 ((s.1 64) + (1 : Int32))) fun s3 =>
      grd (inb (s.1 64) 64) <|
      bnd (setA s3 43 (ix (s.1 64)) a0) fun s5 =>
      bnd (setA s5 44 (ix (s.1 64)) (0 : Int32)) fun s6 =>
      bnd (setA s6 45 (ix (s.1 64)) (-1 : Int32)) fun s7 =>
      bnd (setA s7 46 (ix (s.1 64)) (-1 : Int32)) fun s8 =>
      bnd (setA s8 47 (ix (s.1 64)) (-1 : Int32)) fun s9 =>
      grd (inb ((s9.1 66) - (1 : Int32)) 64) <|
      bnd (setA s9 48 (ix (s.1 64)) (s9.2 52 (ix ((s9.1 66) - (1 : Int32))))) fun s11 =>
      if (s11.2 54 (ix ((s9.1 66) - (1 : Int32)))) < 0 then
        f_newStmt_127 (s.1 64) ((s9.1 66) - (1 : Int32)) (s9.2 52 (ix ((s9.1 66) - (1 : Int32)))) s11
      else
        if (s11.2 54 (ix ((s9.1 66) - (1 : Int32)))) < (64 : Int32) then
          grd (inb (s11.2 54 (ix ((s9.1 66) - (1 : Int32)))) 64) <|
          bnd (setA s11 47 (ix (s11.2 54 (ix ((s9.1 66) - (1 : Int32))))) (s.1 64)) fun s15 =>
          f_newStmt_182 (s.1 64) ((s9.1 66) - (1 : Int32)) s15
        else
          f_newStmt_127 (s.1 64) ((s9.1 66) - (1 : Int32)) (s9.2 52 (ix ((s9.1 66) - (1 : Int32)))) s11
    else
      f_newStmt_16 s
  else
    f_newStmt_16 s
set_option maxRecDepth 100000 in
theorem e_newStmt {g : GT} {a0 : Int32} {s : St} {w : Int32 × St} (hw : HW g) {K : St → MHeap} {o : Nat} {r : Nat → Nat} (V : View (GG g) Ln K o r) (hr : f_newStmt a0 s = some w) : EvC (GG g) M_newStmt [.ref o, .int a0] (K s) ((some (.int w.1)), (K w.2)) := by
  refine EvC.enter (L0 := [.val (.ref o), .val (.int a0), .unset, .unset, .unset, .unset]) pl_newStmt (fun h => nomatch h) rfl rfl ?_
  unfold f_newStmt at hr
  refine Ev.aloadN (d24 0 rfl) rfl ?_
  refine Ev.gI V (ww hw 168 rfl) (d24 1 rfl) (j := 64) rfl rfl ?_
  refine Ev.bipush (z := 64) (d24 2 rfl) rfl ?_
  refine Ev.icge (t := 16) (d24 3 rfl) rfl (fun c1 => ?_) (fun c1 => ?_)
  · replace hr := (if_pos c1).symm.trans hr
    refine Ev.aloadN (d24 4 rfl) rfl ?_
    refine Ev.gI V (ww hw 172 rfl) (d24 5 rfl) (j := 66) rfl rfl ?_
    refine Ev.ifgt (t := 23) (d24 6 rfl) rfl (fun c2 => ?_) (fun c2 => ?_)
    · replace hr := (if_pos c2).symm.trans hr
      refine Ev.aloadN (d24 12 rfl) rfl ?_
      refine Ev.gI V (ww hw 168 rfl) (d24 13 rfl) (j := 64) rfl rfl ?_
      refine Ev.istDN (L' := [.val (.ref o), .val (.int a0), .val (.int (s.1 64)), .unset, .unset, .unset]) (d24 14 rfl) rfl rfl rfl ?_
      refine Ev.aloadN (d24 15 rfl) rfl ?_
      refine Ev.dup (d24 16 rfl) rfl ?_
      refine Ev.gI V (ww hw 168 rfl) (d24 17 rfl) (j := 64) rfl rfl ?_
      refine Ev.iconst (z := 1) (d24 18 rfl) rfl ?_
      refine Ev.iadd (d24 19 rfl) ?_
      refine Ev.pI V (gok hw) (ww hw 168 rfl) (Or.inl (ww hw 169 rfl)) (d24 20 rfl) (j := 64) rfl ?_
      revert hr
      generalize setI s 64 ((s.1 64) + (1 : Int32)) = s3
      intro hr
      replace hr := (bnd_eq _ _).symm.trans hr
      refine Ev.aloadN (d24 21 rfl) rfl ?_
      refine Ev.gAr V (ww hw 100 rfl) (d24 22 rfl) (j := 43) rfl ?_
      refine Ev.iloadN (d24 23 rfl) rfl ?_
      refine Ev.iloadN (d24 24 rfl) rfl ?_
      obtain ⟨b4, hr⟩ := grd_some hr
      refine Ev.ias V (j := 43) rfl rfl (d24 25 rfl) b4 ?_
      revert hr
      generalize setA s3 43 (ix (s.1 64)) a0 = s5
      intro hr
      replace hr := (bnd_eq _ _).symm.trans hr
      refine Ev.aloadN (d24 26 rfl) rfl ?_
      refine Ev.gAr V (ww hw 102 rfl) (d24 27 rfl) (j := 44) rfl ?_
      refine Ev.iloadN (d24 28 rfl) rfl ?_
      refine Ev.iconst (z := 0) (d24 29 rfl) rfl ?_
      refine Ev.ias V (j := 44) rfl rfl (d24 30 rfl) b4 ?_
      revert hr
      generalize setA s5 44 (ix (s.1 64)) (0 : Int32) = s6
      intro hr
      replace hr := (bnd_eq _ _).symm.trans hr
      refine Ev.aloadN (d24 31 rfl) rfl ?_
      refine Ev.gAr V (ww hw 104 rfl) (d24 32 rfl) (j := 45) rfl ?_
      refine Ev.iloadN (d24 33 rfl) rfl ?_
      refine Ev.iconst (z := -1) (d24 34 rfl) rfl ?_
      refine Ev.ias V (j := 45) rfl rfl (d24 35 rfl) b4 ?_
      revert hr
      generalize setA s6 45 (ix (s.1 64)) (-1 : Int32) = s7
      intro hr
      replace hr := (bnd_eq _ _).symm.trans hr
      refine Ev.aloadN (d24 36 rfl) rfl ?_
      refine Ev.gAr V (ww hw 106 rfl) (d24 37 rfl) (j := 46) rfl ?_
      refine Ev.iloadN (d24 38 rfl) rfl ?_
      refine Ev.iconst (z := -1) (d24 39 rfl) rfl ?_
      refine Ev.ias V (j := 46) rfl rfl (d24 40 rfl) b4 ?_
      revert hr
      generalize setA s7 46 (ix (s.1 64)) (-1 : Int32) = s8
      intro hr
      replace hr := (bnd_eq _ _).symm.trans hr
      refine Ev.aloadN (d24 41 rfl) rfl ?_
      refine Ev.gAr V (ww hw 108 rfl) (d24 42 rfl) (j := 47) rfl ?_
      refine Ev.iloadN (d24 43 rfl) rfl ?_
      refine Ev.iconst (z := -1) (d24 44 rfl) rfl ?_
      refine Ev.ias V (j := 47) rfl rfl (d24 45 rfl) b4 ?_
      revert hr
      generalize setA s8 47 (ix (s.1 64)) (-1 : Int32) = s9
      intro hr
      replace hr := (bnd_eq _ _).symm.trans hr
      refine Ev.aloadN (d24 46 rfl) rfl ?_
      refine Ev.gI V (ww hw 172 rfl) (d24 47 rfl) (j := 66) rfl rfl ?_
      refine Ev.iconst (z := 1) (d24 48 rfl) rfl ?_
      refine Ev.isub (d24 49 rfl) ?_
      refine Ev.istDN (L' := [.val (.ref o), .val (.int a0), .val (.int (s.1 64)), .val (.int ((s9.1 66) - (1 : Int32))), .unset, .unset]) (d24 50 rfl) rfl rfl rfl ?_
      refine Ev.aloadN (d24 51 rfl) rfl ?_
      refine Ev.gAr V (ww hw 118 rfl) (d24 52 rfl) (j := 52) rfl ?_
      refine Ev.iloadN (d24 53 rfl) rfl ?_
      obtain ⟨b10, hr⟩ := grd_some hr
      refine Ev.ial V (j := 52) rfl rfl (d24 54 rfl) b10 ?_
      refine Ev.istD (L' := [.val (.ref o), .val (.int a0), .val (.int (s.1 64)), .val (.int ((s9.1 66) - (1 : Int32))), .val (.int (s9.2 52 (ix ((s9.1 66) - (1 : Int32))))), .unset]) (d24 55 rfl) rfl rfl rfl ?_
      refine Ev.aloadN (d24 56 rfl) rfl ?_
      refine Ev.gAr V (ww hw 110 rfl) (d24 57 rfl) (j := 48) rfl ?_
      refine Ev.iloadN (d24 58 rfl) rfl ?_
      refine Ev.iload (d24 59 rfl) rfl ?_
      refine Ev.ias V (j := 48) rfl rfl (d24 60 rfl) b4 ?_
      revert hr
      generalize setA s9 48 (ix (s.1 64)) (s9.2 52 (ix ((s9.1 66) - (1 : Int32)))) = s11
      intro hr
      replace hr := (bnd_eq _ _).symm.trans hr
      refine Ev.aloadN (d24 61 rfl) rfl ?_
      refine Ev.gAr V (ww hw 122 rfl) (d24 62 rfl) (j := 54) rfl ?_
      refine Ev.iloadN (d24 63 rfl) rfl ?_
      refine Ev.ial V (j := 54) rfl rfl (d24 64 rfl) b10 ?_
      refine Ev.istD (L' := [.val (.ref o), .val (.int a0), .val (.int (s.1 64)), .val (.int ((s9.1 66) - (1 : Int32))), .val (.int (s9.2 52 (ix ((s9.1 66) - (1 : Int32))))), .val (.int (s11.2 54 (ix ((s9.1 66) - (1 : Int32)))))]) (d24 65 rfl) rfl rfl rfl ?_
      refine Ev.iload (d24 66 rfl) rfl ?_
      refine Ev.iflt (t := 127) (d24 67 rfl) rfl (fun c12 => ?_) (fun c12 => ?_)
      · replace hr := (if_pos c12).symm.trans hr
        exact e_newStmt_127 hw V  (s.1 64) ((s9.1 66) - (1 : Int32)) (s9.2 52 (ix ((s9.1 66) - (1 : Int32)))) s11 (.val (.int a0)) rfl (.val (.int (s11.2 54 (ix ((s9.1 66) - (1 : Int32)))))) rfl _ hr
      · replace hr := (if_neg c12).symm.trans hr
        refine Ev.iload (d24 68 rfl) rfl ?_
        refine Ev.bipush (z := 64) (d24 69 rfl) rfl ?_
        refine Ev.icge (t := 127) (d24 70 rfl) rfl (fun c13 => ?_) (fun c13 => ?_)
        · replace hr := (if_pos c13).symm.trans hr
          refine Ev.aloadN (d24 71 rfl) rfl ?_
          refine Ev.gAr V (ww hw 108 rfl) (d24 72 rfl) (j := 47) rfl ?_
          refine Ev.iload (d24 73 rfl) rfl ?_
          refine Ev.iloadN (d24 74 rfl) rfl ?_
          obtain ⟨b14, hr⟩ := grd_some hr
          refine Ev.ias V (j := 47) rfl rfl (d24 75 rfl) b14 ?_
          revert hr
          generalize setA s11 47 (ix (s11.2 54 (ix ((s9.1 66) - (1 : Int32))))) (s.1 64) = s15
          intro hr
          replace hr := (bnd_eq _ _).symm.trans hr
          refine Ev.goto (t := 182) (d24 76 rfl) rfl ?_
          exact e_newStmt_182 hw V  (s.1 64) ((s9.1 66) - (1 : Int32)) s15 (.val (.int a0)) rfl (.val (.int (s9.2 52 (ix ((s9.1 66) - (1 : Int32)))))) rfl (.val (.int (s11.2 54 (ix ((s9.1 66) - (1 : Int32)))))) rfl _ hr
        · replace hr := (if_neg c13).symm.trans hr
          exact e_newStmt_127 hw V  (s.1 64) ((s9.1 66) - (1 : Int32)) (s9.2 52 (ix ((s9.1 66) - (1 : Int32)))) s11 (.val (.int a0)) rfl (.val (.int (s11.2 54 (ix ((s9.1 66) - (1 : Int32)))))) rfl _ hr
    · replace hr := (if_neg c2).symm.trans hr
      exact e_newStmt_16 hw V  s (.val (.int a0)) rfl .unset rfl .unset rfl .unset rfl .unset rfl _ hr
  · replace hr := (if_neg c1).symm.trans hr
    exact e_newStmt_16 hw V  s (.val (.int a0)) rfl .unset rfl .unset rfl .unset rfl .unset rfl _ hr
def f_startAssign (a0 : Int32) (s : St) : Option (St) :=
  (f_newStmt (0 : Int32) s).bind fun q1 =>
  if q1.1 < 0 then
    some q1.2
  else
    grd (inb q1.1 64) <|
    bnd (setA q1.2 44 (ix q1.1) a0) fun s5 =>
    bnd (setI s5 68 ((s5.1 68) + (1 : Int32))) fun s6 =>
    (f_push (14 : Int32) (59 : Int32) s6).bind fun q7 =>
    (f_push (17 : Int32) (0 : Int32) q7).bind fun q9 =>
    (f_push (7 : Int32) (0 : Int32) q9).bind fun q11 =>
    (f_push (16 : Int32) ((2 : Int32) + ((2 : Int32) * q1.1)) q11).bind fun q13 =>
    (f_push (14 : Int32) (61 : Int32) q13).bind fun q15 =>
    some q15
set_option maxRecDepth 100000 in
theorem e_startAssign {g : GT} {a0 : Int32} {s : St} {w : St} (hw : HW g) {K : St → MHeap} {o : Nat} {r : Nat → Nat} (V : View (GG g) Ln K o r) (hr : f_startAssign a0 s = some w) : EvC (GG g) M_startAssign [.ref o, .int a0] (K s) (none, (K w)) := by
  refine EvC.enter (L0 := [.val (.ref o), .val (.int a0), .unset]) pl_startAssign (fun _ => rfl) rfl rfl ?_
  unfold f_startAssign at hr
  refine Ev.aloadN (d25 0 rfl) rfl ?_
  refine Ev.iconst (z := 0) (d25 1 rfl) rfl ?_
  obtain ⟨q1, hq2, hr⟩ := Option.bind_eq_some_iff.mp hr
  refine Ev.priv (y := M_newStmt) (args := [.int (0 : Int32)]) (rest := []) (gok hw) rfl nm_newStmt (ww hw 243 rfl) (ww hw 244 rfl) (ww hw 245 rfl) (ww hw 246 rfl) (lenOf pd_newStmt rfl) (d25 2 rfl) (V.2.1 s) (e_newStmt hw V hq2) (by decide) (Nat.le_of_ble_eq_true rfl) rfl ?_
  refine Ev.istDN (L' := [.val (.ref o), .val (.int a0), .val (.int q1.1)]) (d25 3 rfl) rfl rfl rfl ?_
  refine Ev.iloadN (d25 4 rfl) rfl ?_
  refine Ev.ifge (t := 11) (d25 5 rfl) rfl (fun c3 => ?_) (fun c3 => ?_)
  · replace hr := (if_pos c3).symm.trans hr
    cases hr
    exact Ev.vreturn rfl (d25 6 rfl)
  · replace hr := (if_neg c3).symm.trans hr
    refine Ev.aloadN (d25 7 rfl) rfl ?_
    refine Ev.gAr V (ww hw 102 rfl) (d25 8 rfl) (j := 44) rfl ?_
    refine Ev.iloadN (d25 9 rfl) rfl ?_
    refine Ev.iloadN (d25 10 rfl) rfl ?_
    obtain ⟨b4, hr⟩ := grd_some hr
    refine Ev.ias V (j := 44) rfl rfl (d25 11 rfl) b4 ?_
    revert hr
    generalize setA q1.2 44 (ix q1.1) a0 = s5
    intro hr
    replace hr := (bnd_eq _ _).symm.trans hr
    refine Ev.aloadN (d25 12 rfl) rfl ?_
    refine Ev.dup (d25 13 rfl) rfl ?_
    refine Ev.gI V (ww hw 176 rfl) (d25 14 rfl) (j := 68) rfl rfl ?_
    refine Ev.iconst (z := 1) (d25 15 rfl) rfl ?_
    refine Ev.iadd (d25 16 rfl) ?_
    refine Ev.pI V (gok hw) (ww hw 176 rfl) (Or.inl (ww hw 177 rfl)) (d25 17 rfl) (j := 68) rfl ?_
    revert hr
    generalize setI s5 68 ((s5.1 68) + (1 : Int32)) = s6
    intro hr
    replace hr := (bnd_eq _ _).symm.trans hr
    refine Ev.aloadN (d25 18 rfl) rfl ?_
    refine Ev.bipush (z := 14) (d25 19 rfl) rfl ?_
    refine Ev.bipush (z := 59) (d25 20 rfl) rfl ?_
    obtain ⟨q7, hq8, hr⟩ := Option.bind_eq_some_iff.mp hr
    refine Ev.priv (y := M_push) (args := [.int (14 : Int32), .int (59 : Int32)]) (rest := []) (gok hw) rfl nm_push (ww hw 186 rfl) (ww hw 187 rfl) (ww hw 188 rfl) (ww hw 189 rfl) (lenOf pd_push rfl) (d25 21 rfl) (V.2.1 s6) (e_push hw V hq8) (by decide) (Nat.le_of_ble_eq_true rfl) rfl ?_
    refine Ev.aloadN (d25 22 rfl) rfl ?_
    refine Ev.bipush (z := 17) (d25 23 rfl) rfl ?_
    refine Ev.iconst (z := 0) (d25 24 rfl) rfl ?_
    obtain ⟨q9, hq10, hr⟩ := Option.bind_eq_some_iff.mp hr
    refine Ev.priv (y := M_push) (args := [.int (17 : Int32), .int (0 : Int32)]) (rest := []) (gok hw) rfl nm_push (ww hw 186 rfl) (ww hw 187 rfl) (ww hw 188 rfl) (ww hw 189 rfl) (lenOf pd_push rfl) (d25 25 rfl) (V.2.1 q7) (e_push hw V hq10) (by decide) (Nat.le_of_ble_eq_true rfl) rfl ?_
    refine Ev.aloadN (d25 26 rfl) rfl ?_
    refine Ev.bipush (z := 7) (d25 27 rfl) rfl ?_
    refine Ev.iconst (z := 0) (d25 28 rfl) rfl ?_
    obtain ⟨q11, hq12, hr⟩ := Option.bind_eq_some_iff.mp hr
    refine Ev.priv (y := M_push) (args := [.int (7 : Int32), .int (0 : Int32)]) (rest := []) (gok hw) rfl nm_push (ww hw 186 rfl) (ww hw 187 rfl) (ww hw 188 rfl) (ww hw 189 rfl) (lenOf pd_push rfl) (d25 29 rfl) (V.2.1 q9) (e_push hw V hq12) (by decide) (Nat.le_of_ble_eq_true rfl) rfl ?_
    refine Ev.aloadN (d25 30 rfl) rfl ?_
    refine Ev.bipush (z := 16) (d25 31 rfl) rfl ?_
    refine Ev.iconst (z := 2) (d25 32 rfl) rfl ?_
    refine Ev.iconst (z := 2) (d25 33 rfl) rfl ?_
    refine Ev.iloadN (d25 34 rfl) rfl ?_
    refine Ev.imul (d25 35 rfl) ?_
    refine Ev.iadd (d25 36 rfl) ?_
    obtain ⟨q13, hq14, hr⟩ := Option.bind_eq_some_iff.mp hr
    refine Ev.priv (y := M_push) (args := [.int (16 : Int32), .int ((2 : Int32) + ((2 : Int32) * q1.1))]) (rest := []) (gok hw) rfl nm_push (ww hw 186 rfl) (ww hw 187 rfl) (ww hw 188 rfl) (ww hw 189 rfl) (lenOf pd_push rfl) (d25 37 rfl) (V.2.1 q11) (e_push hw V hq14) (by decide) (Nat.le_of_ble_eq_true rfl) rfl ?_
    refine Ev.aloadN (d25 38 rfl) rfl ?_
    refine Ev.bipush (z := 14) (d25 39 rfl) rfl ?_
    refine Ev.bipush (z := 61) (d25 40 rfl) rfl ?_
    obtain ⟨q15, hq16, hr⟩ := Option.bind_eq_some_iff.mp hr
    refine Ev.priv (y := M_push) (args := [.int (14 : Int32), .int (61 : Int32)]) (rest := []) (gok hw) rfl nm_push (ww hw 186 rfl) (ww hw 187 rfl) (ww hw 188 rfl) (ww hw 189 rfl) (lenOf pd_push rfl) (d25 41 rfl) (V.2.1 q13) (e_push hw V hq16) (by decide) (Nat.le_of_ble_eq_true rfl) rfl ?_
    cases hr
    exact Ev.vreturn rfl (d25 42 rfl)
def f_startWhile (s : St) : Option (St) :=
  (f_newStmt (2 : Int32) s).bind fun q1 =>
  if q1.1 < 0 then
    some q1.2
  else
    if (q1.2.1 65) < (64 : Int32) then
      grd (inb (q1.2.1 65) 64) <|
      bnd (setA q1.2 49 (ix (q1.2.1 65)) q1.1) fun s6 =>
      bnd (setI s6 65 ((s6.1 65) + (1 : Int32))) fun s7 =>
      bnd (setI s7 68 ((s7.1 68) + (1 : Int32))) fun s8 =>
      (f_push (14 : Int32) (125 : Int32) s8).bind fun q9 =>
      (f_push (19 : Int32) (0 : Int32) q9).bind fun q11 =>
      (f_push (12 : Int32) (0 : Int32) q11).bind fun q13 =>
      (f_push (18 : Int32) ((q1.1 + (1 : Int32)) * (2 : Int32)) q13).bind fun q15 =>
      (f_push (14 : Int32) (123 : Int32) q15).bind fun q17 =>
      (f_push (17 : Int32) (0 : Int32) q17).bind fun q19 =>
      (f_push (1 : Int32) (0 : Int32) q19).bind fun q21 =>
      (f_push (16 : Int32) ((3 : Int32) + ((2 : Int32) * q1.1)) q21).bind fun q23 =>
      (f_push (14 : Int32) (64 : Int32) q23).bind fun q25 =>
      (f_push (17 : Int32) (0 : Int32) q25).bind fun q27 =>
      (f_push (1 : Int32) (0 : Int32) q27).bind fun q29 =>
      (f_push (16 : Int32) ((2 : Int32) + ((2 : Int32) * q1.1)) q29).bind fun q31 =>
      some q31
    else
      bnd (setI q1.2 69 ((1 : Int32) &&& 1)) fun s33 =>
      some s33
set_option maxRecDepth 100000 in
theorem e_startWhile {g : GT} {s : St} {w : St} (hw : HW g) {K : St → MHeap} {o : Nat} {r : Nat → Nat} (V : View (GG g) Ln K o r) (hr : f_startWhile s = some w) : EvC (GG g) M_startWhile [.ref o] (K s) (none, (K w)) := by
  refine EvC.enter (L0 := [.val (.ref o), .unset]) pl_startWhile (fun _ => rfl) rfl rfl ?_
  unfold f_startWhile at hr
  refine Ev.aloadN (d23 0 rfl) rfl ?_
  refine Ev.iconst (z := 2) (d23 1 rfl) rfl ?_
  obtain ⟨q1, hq2, hr⟩ := Option.bind_eq_some_iff.mp hr
  refine Ev.priv (y := M_newStmt) (args := [.int (2 : Int32)]) (rest := []) (gok hw) rfl nm_newStmt (ww hw 243 rfl) (ww hw 244 rfl) (ww hw 245 rfl) (ww hw 246 rfl) (lenOf pd_newStmt rfl) (d23 2 rfl) (V.2.1 s) (e_newStmt hw V hq2) (by decide) (Nat.le_of_ble_eq_true rfl) rfl ?_
  refine Ev.istDN (L' := [.val (.ref o), .val (.int q1.1)]) (d23 3 rfl) rfl rfl rfl ?_
  refine Ev.iloadN (d23 4 rfl) rfl ?_
  refine Ev.ifge (t := 11) (d23 5 rfl) rfl (fun c3 => ?_) (fun c3 => ?_)
  · replace hr := (if_pos c3).symm.trans hr
    cases hr
    exact Ev.vreturn rfl (d23 6 rfl)
  · replace hr := (if_neg c3).symm.trans hr
    refine Ev.aloadN (d23 7 rfl) rfl ?_
    refine Ev.gI V (ww hw 170 rfl) (d23 8 rfl) (j := 65) rfl rfl ?_
    refine Ev.bipush (z := 64) (d23 9 rfl) rfl ?_
    refine Ev.iclt (t := 26) (d23 10 rfl) rfl (fun c4 => ?_) (fun c4 => ?_)
    · replace hr := (if_pos c4).symm.trans hr
      refine Ev.aloadN (d23 15 rfl) rfl ?_
      refine Ev.gAr V (ww hw 112 rfl) (d23 16 rfl) (j := 49) rfl ?_
      refine Ev.aloadN (d23 17 rfl) rfl ?_
      refine Ev.gI V (ww hw 170 rfl) (d23 18 rfl) (j := 65) rfl rfl ?_
      refine Ev.iloadN (d23 19 rfl) rfl ?_
      obtain ⟨b5, hr⟩ := grd_some hr
      refine Ev.ias V (j := 49) rfl rfl (d23 20 rfl) b5 ?_
      revert hr
      generalize setA q1.2 49 (ix (q1.2.1 65)) q1.1 = s6
      intro hr
      replace hr := (bnd_eq _ _).symm.trans hr
      refine Ev.aloadN (d23 21 rfl) rfl ?_
      refine Ev.dup (d23 22 rfl) rfl ?_
      refine Ev.gI V (ww hw 170 rfl) (d23 23 rfl) (j := 65) rfl rfl ?_
      refine Ev.iconst (z := 1) (d23 24 rfl) rfl ?_
      refine Ev.iadd (d23 25 rfl) ?_
      refine Ev.pI V (gok hw) (ww hw 170 rfl) (Or.inl (ww hw 171 rfl)) (d23 26 rfl) (j := 65) rfl ?_
      revert hr
      generalize setI s6 65 ((s6.1 65) + (1 : Int32)) = s7
      intro hr
      replace hr := (bnd_eq _ _).symm.trans hr
      refine Ev.aloadN (d23 27 rfl) rfl ?_
      refine Ev.dup (d23 28 rfl) rfl ?_
      refine Ev.gI V (ww hw 176 rfl) (d23 29 rfl) (j := 68) rfl rfl ?_
      refine Ev.iconst (z := 1) (d23 30 rfl) rfl ?_
      refine Ev.iadd (d23 31 rfl) ?_
      refine Ev.pI V (gok hw) (ww hw 176 rfl) (Or.inl (ww hw 177 rfl)) (d23 32 rfl) (j := 68) rfl ?_
      revert hr
      generalize setI s7 68 ((s7.1 68) + (1 : Int32)) = s8
      intro hr
      replace hr := (bnd_eq _ _).symm.trans hr
      refine Ev.aloadN (d23 33 rfl) rfl ?_
      refine Ev.bipush (z := 14) (d23 34 rfl) rfl ?_
      refine Ev.bipush (z := 125) (d23 35 rfl) rfl ?_
      obtain ⟨q9, hq10, hr⟩ := Option.bind_eq_some_iff.mp hr
      refine Ev.priv (y := M_push) (args := [.int (14 : Int32), .int (125 : Int32)]) (rest := []) (gok hw) rfl nm_push (ww hw 186 rfl) (ww hw 187 rfl) (ww hw 188 rfl) (ww hw 189 rfl) (lenOf pd_push rfl) (d23 36 rfl) (V.2.1 s8) (e_push hw V hq10) (by decide) (Nat.le_of_ble_eq_true rfl) rfl ?_
      refine Ev.aloadN (d23 37 rfl) rfl ?_
      refine Ev.bipush (z := 19) (d23 38 rfl) rfl ?_
      refine Ev.iconst (z := 0) (d23 39 rfl) rfl ?_
      obtain ⟨q11, hq12, hr⟩ := Option.bind_eq_some_iff.mp hr
      refine Ev.priv (y := M_push) (args := [.int (19 : Int32), .int (0 : Int32)]) (rest := []) (gok hw) rfl nm_push (ww hw 186 rfl) (ww hw 187 rfl) (ww hw 188 rfl) (ww hw 189 rfl) (lenOf pd_push rfl) (d23 40 rfl) (V.2.1 q9) (e_push hw V hq12) (by decide) (Nat.le_of_ble_eq_true rfl) rfl ?_
      refine Ev.aloadN (d23 41 rfl) rfl ?_
      refine Ev.bipush (z := 12) (d23 42 rfl) rfl ?_
      refine Ev.iconst (z := 0) (d23 43 rfl) rfl ?_
      obtain ⟨q13, hq14, hr⟩ := Option.bind_eq_some_iff.mp hr
      refine Ev.priv (y := M_push) (args := [.int (12 : Int32), .int (0 : Int32)]) (rest := []) (gok hw) rfl nm_push (ww hw 186 rfl) (ww hw 187 rfl) (ww hw 188 rfl) (ww hw 189 rfl) (lenOf pd_push rfl) (d23 44 rfl) (V.2.1 q11) (e_push hw V hq14) (by decide) (Nat.le_of_ble_eq_true rfl) rfl ?_
      refine Ev.aloadN (d23 45 rfl) rfl ?_
      refine Ev.bipush (z := 18) (d23 46 rfl) rfl ?_
      refine Ev.iloadN (d23 47 rfl) rfl ?_
      refine Ev.iconst (z := 1) (d23 48 rfl) rfl ?_
      refine Ev.iadd (d23 49 rfl) ?_
      refine Ev.iconst (z := 2) (d23 50 rfl) rfl ?_
      refine Ev.imul (d23 51 rfl) ?_
      obtain ⟨q15, hq16, hr⟩ := Option.bind_eq_some_iff.mp hr
      refine Ev.priv (y := M_push) (args := [.int (18 : Int32), .int ((q1.1 + (1 : Int32)) * (2 : Int32))]) (rest := []) (gok hw) rfl nm_push (ww hw 186 rfl) (ww hw 187 rfl) (ww hw 188 rfl) (ww hw 189 rfl) (lenOf pd_push rfl) (d23 52 rfl) (V.2.1 q13) (e_push hw V hq16) (by decide) (Nat.le_of_ble_eq_true rfl) rfl ?_
      refine Ev.aloadN (d23 53 rfl) rfl ?_
      refine Ev.bipush (z := 14) (d23 54 rfl) rfl ?_
      refine Ev.bipush (z := 123) (d23 55 rfl) rfl ?_
      obtain ⟨q17, hq18, hr⟩ := Option.bind_eq_some_iff.mp hr
      refine Ev.priv (y := M_push) (args := [.int (14 : Int32), .int (123 : Int32)]) (rest := []) (gok hw) rfl nm_push (ww hw 186 rfl) (ww hw 187 rfl) (ww hw 188 rfl) (ww hw 189 rfl) (lenOf pd_push rfl) (d23 56 rfl) (V.2.1 q15) (e_push hw V hq18) (by decide) (Nat.le_of_ble_eq_true rfl) rfl ?_
      refine Ev.aloadN (d23 57 rfl) rfl ?_
      refine Ev.bipush (z := 17) (d23 58 rfl) rfl ?_
      refine Ev.iconst (z := 0) (d23 59 rfl) rfl ?_
      obtain ⟨q19, hq20, hr⟩ := Option.bind_eq_some_iff.mp hr
      refine Ev.priv (y := M_push) (args := [.int (17 : Int32), .int (0 : Int32)]) (rest := []) (gok hw) rfl nm_push (ww hw 186 rfl) (ww hw 187 rfl) (ww hw 188 rfl) (ww hw 189 rfl) (lenOf pd_push rfl) (d23 60 rfl) (V.2.1 q17) (e_push hw V hq20) (by decide) (Nat.le_of_ble_eq_true rfl) rfl ?_
      refine Ev.aloadN (d23 61 rfl) rfl ?_
      refine Ev.iconst (z := 1) (d23 62 rfl) rfl ?_
      refine Ev.iconst (z := 0) (d23 63 rfl) rfl ?_
      obtain ⟨q21, hq22, hr⟩ := Option.bind_eq_some_iff.mp hr
      refine Ev.priv (y := M_push) (args := [.int (1 : Int32), .int (0 : Int32)]) (rest := []) (gok hw) rfl nm_push (ww hw 186 rfl) (ww hw 187 rfl) (ww hw 188 rfl) (ww hw 189 rfl) (lenOf pd_push rfl) (d23 64 rfl) (V.2.1 q19) (e_push hw V hq22) (by decide) (Nat.le_of_ble_eq_true rfl) rfl ?_
      refine Ev.aloadN (d23 65 rfl) rfl ?_
      refine Ev.bipush (z := 16) (d23 66 rfl) rfl ?_
      refine Ev.iconst (z := 3) (d23 67 rfl) rfl ?_
      refine Ev.iconst (z := 2) (d23 68 rfl) rfl ?_
      refine Ev.iloadN (d23 69 rfl) rfl ?_
      refine Ev.imul (d23 70 rfl) ?_
      refine Ev.iadd (d23 71 rfl) ?_
      obtain ⟨q23, hq24, hr⟩ := Option.bind_eq_some_iff.mp hr
      refine Ev.priv (y := M_push) (args := [.int (16 : Int32), .int ((3 : Int32) + ((2 : Int32) * q1.1))]) (rest := []) (gok hw) rfl nm_push (ww hw 186 rfl) (ww hw 187 rfl) (ww hw 188 rfl) (ww hw 189 rfl) (lenOf pd_push rfl) (d23 72 rfl) (V.2.1 q21) (e_push hw V hq24) (by decide) (Nat.le_of_ble_eq_true rfl) rfl ?_
      refine Ev.aloadN (d23 73 rfl) rfl ?_
      refine Ev.bipush (z := 14) (d23 74 rfl) rfl ?_
      refine Ev.bipush (z := 64) (d23 75 rfl) rfl ?_
      obtain ⟨q25, hq26, hr⟩ := Option.bind_eq_some_iff.mp hr
      refine Ev.priv (y := M_push) (args := [.int (14 : Int32), .int (64 : Int32)]) (rest := []) (gok hw) rfl nm_push (ww hw 186 rfl) (ww hw 187 rfl) (ww hw 188 rfl) (ww hw 189 rfl) (lenOf pd_push rfl) (d23 76 rfl) (V.2.1 q23) (e_push hw V hq26) (by decide) (Nat.le_of_ble_eq_true rfl) rfl ?_
      refine Ev.aloadN (d23 77 rfl) rfl ?_
      refine Ev.bipush (z := 17) (d23 78 rfl) rfl ?_
      refine Ev.iconst (z := 0) (d23 79 rfl) rfl ?_
      obtain ⟨q27, hq28, hr⟩ := Option.bind_eq_some_iff.mp hr
      refine Ev.priv (y := M_push) (args := [.int (17 : Int32), .int (0 : Int32)]) (rest := []) (gok hw) rfl nm_push (ww hw 186 rfl) (ww hw 187 rfl) (ww hw 188 rfl) (ww hw 189 rfl) (lenOf pd_push rfl) (d23 80 rfl) (V.2.1 q25) (e_push hw V hq28) (by decide) (Nat.le_of_ble_eq_true rfl) rfl ?_
      refine Ev.aloadN (d23 81 rfl) rfl ?_
      refine Ev.iconst (z := 1) (d23 82 rfl) rfl ?_
      refine Ev.iconst (z := 0) (d23 83 rfl) rfl ?_
      obtain ⟨q29, hq30, hr⟩ := Option.bind_eq_some_iff.mp hr
      refine Ev.priv (y := M_push) (args := [.int (1 : Int32), .int (0 : Int32)]) (rest := []) (gok hw) rfl nm_push (ww hw 186 rfl) (ww hw 187 rfl) (ww hw 188 rfl) (ww hw 189 rfl) (lenOf pd_push rfl) (d23 84 rfl) (V.2.1 q27) (e_push hw V hq30) (by decide) (Nat.le_of_ble_eq_true rfl) rfl ?_
      refine Ev.aloadN (d23 85 rfl) rfl ?_
      refine Ev.bipush (z := 16) (d23 86 rfl) rfl ?_
      refine Ev.iconst (z := 2) (d23 87 rfl) rfl ?_
      refine Ev.iconst (z := 2) (d23 88 rfl) rfl ?_
      refine Ev.iloadN (d23 89 rfl) rfl ?_
      refine Ev.imul (d23 90 rfl) ?_
      refine Ev.iadd (d23 91 rfl) ?_
      obtain ⟨q31, hq32, hr⟩ := Option.bind_eq_some_iff.mp hr
      refine Ev.priv (y := M_push) (args := [.int (16 : Int32), .int ((2 : Int32) + ((2 : Int32) * q1.1))]) (rest := []) (gok hw) rfl nm_push (ww hw 186 rfl) (ww hw 187 rfl) (ww hw 188 rfl) (ww hw 189 rfl) (lenOf pd_push rfl) (d23 92 rfl) (V.2.1 q29) (e_push hw V hq32) (by decide) (Nat.le_of_ble_eq_true rfl) rfl ?_
      cases hr
      exact Ev.vreturn rfl (d23 93 rfl)
    · replace hr := (if_neg c4).symm.trans hr
      refine Ev.aloadN (d23 11 rfl) rfl ?_
      refine Ev.iconst (z := 1) (d23 12 rfl) rfl ?_
      refine Ev.pZ V (gok hw) (ww hw 178 rfl) (Or.inl (ww hw 179 rfl)) (d23 13 rfl) (j := 69) rfl ?_
      revert hr
      generalize setI q1.2 69 ((1 : Int32) &&& 1) = s33
      intro hr
      replace hr := (bnd_eq _ _).symm.trans hr
      cases hr
      exact Ev.vreturn rfl (d23 14 rfl)
def f_stepStmts (a0 : Int32) (s : St) : Option (St) :=
  (f_la s).bind fun q1 =>
  if a0 = (12 : Int32) then
    (f_stmtStart s q1).bind fun q4 =>
    if q4 = 0 then
      some s
    else
      (f_push (12 : Int32) (0 : Int32) s).bind fun q7 =>
      (f_push (13 : Int32) (0 : Int32) q7).bind fun q9 =>
      some q9
  else
    (f_varIndex s q1).bind fun q11 =>
    if q11 < 0 then
      if q1 = (63 : Int32) then
        none
      else
        if q1 = (87 : Int32) then
          (f_startWhile s).bind fun q16 =>
          some q16
        else
          bnd (setI s 69 ((1 : Int32) &&& 1)) fun s18 =>
          some s18
    else
      (f_startAssign q11 s).bind fun q19 =>
      some q19
set_option maxRecDepth 100000 in
theorem e_stepStmts {g : GT} {a0 : Int32} {s : St} {w : St} (hw : HW g) {K : St → MHeap} {o : Nat} {r : Nat → Nat} (V : View (GG g) Ln K o r) (hr : f_stepStmts a0 s = some w) : EvC (GG g) M_stepStmts [.ref o, .int a0] (K s) (none, (K w)) := by
  refine EvC.enter (L0 := [.val (.ref o), .val (.int a0), .unset, .unset]) pl_stepStmts (fun _ => rfl) rfl rfl ?_
  unfold f_stepStmts at hr
  refine Ev.aloadN (d21 0 rfl) rfl ?_
  obtain ⟨q1, hq2, hr⟩ := Option.bind_eq_some_iff.mp hr
  refine Ev.priv (y := M_la) (args := []) (rest := []) (gok hw) rfl nm_la (ww hw 199 rfl) (ww hw 200 rfl) (ww hw 201 rfl) (ww hw 202 rfl) (lenOf pd_la rfl) (d21 1 rfl) (V.2.1 s) (e_la hw V hq2) (by decide) (Nat.le_of_ble_eq_true rfl) rfl ?_
  refine Ev.istDN (L' := [.val (.ref o), .val (.int a0), .val (.int q1), .unset]) (d21 2 rfl) rfl rfl rfl ?_
  refine Ev.iloadN (d21 3 rfl) rfl ?_
  refine Ev.bipush (z := 12) (d21 4 rfl) rfl ?_
  refine Ev.icne (t := 34) (d21 5 rfl) rfl (fun c3 => ?_) (fun c3 => ?_)
  · replace hr := (if_pos c3).symm.trans hr
    refine Ev.aloadN (d21 6 rfl) rfl ?_
    refine Ev.iloadN (d21 7 rfl) rfl ?_
    obtain ⟨q4, hq5, hr⟩ := Option.bind_eq_some_iff.mp hr
    refine Ev.priv (y := M_stmtStart) (args := [.int q1]) (rest := []) (gok hw) rfl nm_stmtStart (ww hw 235 rfl) (ww hw 236 rfl) (ww hw 237 rfl) (ww hw 238 rfl) (lenOf pd_stmtStart rfl) (d21 8 rfl) (V.2.1 s) (e_stmtStart hw V hq5) (by decide) (Nat.le_of_ble_eq_true rfl) rfl ?_
    refine Ev.ifeq (t := 33) (d21 9 rfl) rfl (fun c6 => ?_) (fun c6 => ?_)
    · replace hr := (if_pos c6).symm.trans hr
      cases hr
      exact Ev.vreturn rfl (d21 18 rfl)
    · replace hr := (if_neg c6).symm.trans hr
      refine Ev.aloadN (d21 10 rfl) rfl ?_
      refine Ev.bipush (z := 12) (d21 11 rfl) rfl ?_
      refine Ev.iconst (z := 0) (d21 12 rfl) rfl ?_
      obtain ⟨q7, hq8, hr⟩ := Option.bind_eq_some_iff.mp hr
      refine Ev.priv (y := M_push) (args := [.int (12 : Int32), .int (0 : Int32)]) (rest := []) (gok hw) rfl nm_push (ww hw 186 rfl) (ww hw 187 rfl) (ww hw 188 rfl) (ww hw 189 rfl) (lenOf pd_push rfl) (d21 13 rfl) (V.2.1 s) (e_push hw V hq8) (by decide) (Nat.le_of_ble_eq_true rfl) rfl ?_
      refine Ev.aloadN (d21 14 rfl) rfl ?_
      refine Ev.bipush (z := 13) (d21 15 rfl) rfl ?_
      refine Ev.iconst (z := 0) (d21 16 rfl) rfl ?_
      obtain ⟨q9, hq10, hr⟩ := Option.bind_eq_some_iff.mp hr
      refine Ev.priv (y := M_push) (args := [.int (13 : Int32), .int (0 : Int32)]) (rest := []) (gok hw) rfl nm_push (ww hw 186 rfl) (ww hw 187 rfl) (ww hw 188 rfl) (ww hw 189 rfl) (lenOf pd_push rfl) (d21 17 rfl) (V.2.1 q7) (e_push hw V hq10) (by decide) (Nat.le_of_ble_eq_true rfl) rfl ?_
      cases hr
      exact Ev.vreturn rfl (d21 18 rfl)
  · replace hr := (if_neg c3).symm.trans hr
    refine Ev.aloadN (d21 19 rfl) rfl ?_
    refine Ev.iloadN (d21 20 rfl) rfl ?_
    obtain ⟨q11, hq12, hr⟩ := Option.bind_eq_some_iff.mp hr
    refine Ev.priv (y := M_varIndex) (args := [.int q1]) (rest := []) (gok hw) rfl nm_varIndex (ww hw 151 rfl) (ww hw 152 rfl) (ww hw 153 rfl) (ww hw 154 rfl) (lenOf pd_varIndex rfl) (d21 21 rfl) (V.2.1 s) (e_varIndex hw V hq12) (by decide) (Nat.le_of_ble_eq_true rfl) rfl ?_
    refine Ev.istDN (L' := [.val (.ref o), .val (.int a0), .val (.int q1), .val (.int q11)]) (d21 22 rfl) rfl rfl rfl ?_
    refine Ev.iloadN (d21 23 rfl) rfl ?_
    refine Ev.iflt (t := 52) (d21 24 rfl) rfl (fun c13 => ?_) (fun c13 => ?_)
    · replace hr := (if_pos c13).symm.trans hr
      refine Ev.iloadN (d21 29 rfl) rfl ?_
      refine Ev.bipush (z := 63) (d21 30 rfl) rfl ?_
      refine Ev.icne (t := 65) (d21 31 rfl) rfl (fun c14 => ?_) (fun c14 => ?_)
      · replace hr := (if_pos c14).symm.trans hr
        refine Ev.aloadN (d21 32 rfl) rfl ?_
        cases hr
      · replace hr := (if_neg c14).symm.trans hr
        refine Ev.iloadN (d21 35 rfl) rfl ?_
        refine Ev.bipush (z := 87) (d21 36 rfl) rfl ?_
        refine Ev.icne (t := 78) (d21 37 rfl) rfl (fun c15 => ?_) (fun c15 => ?_)
        · replace hr := (if_pos c15).symm.trans hr
          refine Ev.aloadN (d21 38 rfl) rfl ?_
          obtain ⟨q16, hq17, hr⟩ := Option.bind_eq_some_iff.mp hr
          refine Ev.priv (y := M_startWhile) (args := []) (rest := []) (gok hw) rfl nm_startWhile (ww hw 239 rfl) (ww hw 240 rfl) (ww hw 241 rfl) (ww hw 242 rfl) (lenOf pd_startWhile rfl) (d21 39 rfl) (V.2.1 s) (e_startWhile hw V hq17) (by decide) (Nat.le_of_ble_eq_true rfl) rfl ?_
          refine Ev.goto (t := 83) (d21 40 rfl) rfl ?_
          cases hr
          exact Ev.vreturn rfl (d21 44 rfl)
        · replace hr := (if_neg c15).symm.trans hr
          refine Ev.aloadN (d21 41 rfl) rfl ?_
          refine Ev.iconst (z := 1) (d21 42 rfl) rfl ?_
          refine Ev.pZ V (gok hw) (ww hw 178 rfl) (Or.inl (ww hw 179 rfl)) (d21 43 rfl) (j := 69) rfl ?_
          revert hr
          generalize setI s 69 ((1 : Int32) &&& 1) = s18
          intro hr
          replace hr := (bnd_eq _ _).symm.trans hr
          cases hr
          exact Ev.vreturn rfl (d21 44 rfl)
    · replace hr := (if_neg c13).symm.trans hr
      refine Ev.aloadN (d21 25 rfl) rfl ?_
      refine Ev.iloadN (d21 26 rfl) rfl ?_
      obtain ⟨q19, hq20, hr⟩ := Option.bind_eq_some_iff.mp hr
      refine Ev.priv (y := M_startAssign) (args := [.int q11]) (rest := []) (gok hw) rfl nm_startAssign (ww hw 247 rfl) (ww hw 248 rfl) (ww hw 249 rfl) (ww hw 250 rfl) (lenOf pd_startAssign rfl) (d21 27 rfl) (V.2.1 s) (e_startAssign hw V hq20) (by decide) (Nat.le_of_ble_eq_true rfl) rfl ?_
      refine Ev.goto (t := 83) (d21 28 rfl) rfl ?_
      cases hr
      exact Ev.vreturn rfl (d21 44 rfl)
def f_openList_13 (s : St) : Option (St) :=
  bnd (setI s 69 ((1 : Int32) &&& 1)) fun s1 =>
  some s1
set_option maxRecDepth 100000 in
theorem e_openList_13 {g : GT} (hw : HW g) {K : St → MHeap} {o : Nat} {r : Nat → Nat} (V : View (GG g) Ln K o r) (s : St) (y1 : Slot) (hy1 : one1 y1 = true) (w : St) (hr : f_openList_13 s = some w) : Ev (GG g) M_openList 13 [.val (.ref o), y1] [] (K s) (none, (K w)) := by
  unfold f_openList_13 at hr
  refine Ev.aloadN (d20 6 rfl) rfl ?_
  refine Ev.iconst (z := 1) (d20 7 rfl) rfl ?_
  refine Ev.pZ V (gok hw) (ww hw 178 rfl) (Or.inl (ww hw 179 rfl)) (d20 8 rfl) (j := 69) rfl ?_
  revert hr
  generalize setI s 69 ((1 : Int32) &&& 1) = s1
  intro hr
  replace hr := (bnd_eq _ _).symm.trans hr
  cases hr
  exact Ev.vreturn rfl (d20 9 rfl)
def f_openList (a0 : Int32) (s : St) : Option (St) :=
  if (s.1 66) < (64 : Int32) then
    if a0 < 0 then
      f_openList_13 s
    else
      grd (inb (s.1 66) 64) <|
      bnd (setA s 52 (ix (s.1 66)) ((a0 / (2 : Int32)) - (1 : Int32))) fun s4 =>
      grd (inb (s4.1 66) 64) <|
      bnd (setA s4 53 (ix (s4.1 66)) (a0 % (2 : Int32))) fun s6 =>
      grd (inb (s6.1 66) 64) <|
      bnd (setA s6 54 (ix (s6.1 66)) (-1 : Int32)) fun s8 =>
      bnd (setI s8 66 ((s8.1 66) + (1 : Int32))) fun s9 =>
      some s9
  else
    f_openList_13 s
set_option maxRecDepth 100000 in
theorem e_openList {g : GT} {a0 : Int32} {s : St} {w : St} (hw : HW g) {K : St → MHeap} {o : Nat} {r : Nat → Nat} (V : View (GG g) Ln K o r) (hr : f_openList a0 s = some w) : EvC (GG g) M_openList [.ref o, .int a0] (K s) (none, (K w)) := by
  refine EvC.enter (L0 := [.val (.ref o), .val (.int a0)]) pl_openList (fun _ => rfl) rfl rfl ?_
  unfold f_openList at hr
  refine Ev.aloadN (d20 0 rfl) rfl ?_
  refine Ev.gI V (ww hw 172 rfl) (d20 1 rfl) (j := 66) rfl rfl ?_
  refine Ev.bipush (z := 64) (d20 2 rfl) rfl ?_
  refine Ev.icge (t := 13) (d20 3 rfl) rfl (fun c1 => ?_) (fun c1 => ?_)
  · replace hr := (if_pos c1).symm.trans hr
    refine Ev.iloadN (d20 4 rfl) rfl ?_
    refine Ev.ifge (t := 19) (d20 5 rfl) rfl (fun c2 => ?_) (fun c2 => ?_)
    · replace hr := (if_pos c2).symm.trans hr
      exact e_openList_13 hw V  s (.val (.int a0)) rfl _ hr
    · replace hr := (if_neg c2).symm.trans hr
      refine Ev.aloadN (d20 10 rfl) rfl ?_
      refine Ev.gAr V (ww hw 118 rfl) (d20 11 rfl) (j := 52) rfl ?_
      refine Ev.aloadN (d20 12 rfl) rfl ?_
      refine Ev.gI V (ww hw 172 rfl) (d20 13 rfl) (j := 66) rfl rfl ?_
      refine Ev.iloadN (d20 14 rfl) rfl ?_
      refine Ev.iconst (z := 2) (d20 15 rfl) rfl ?_
      refine Ev.idiv (d20 16 rfl) (by decide) ?_
      refine Ev.iconst (z := 1) (d20 17 rfl) rfl ?_
      refine Ev.isub (d20 18 rfl) ?_
      obtain ⟨b3, hr⟩ := grd_some hr
      refine Ev.ias V (j := 52) rfl rfl (d20 19 rfl) b3 ?_
      revert hr
      generalize setA s 52 (ix (s.1 66)) ((a0 / (2 : Int32)) - (1 : Int32)) = s4
      intro hr
      replace hr := (bnd_eq _ _).symm.trans hr
      refine Ev.aloadN (d20 20 rfl) rfl ?_
      refine Ev.gAr V (ww hw 120 rfl) (d20 21 rfl) (j := 53) rfl ?_
      refine Ev.aloadN (d20 22 rfl) rfl ?_
      refine Ev.gI V (ww hw 172 rfl) (d20 23 rfl) (j := 66) rfl rfl ?_
      refine Ev.iloadN (d20 24 rfl) rfl ?_
      refine Ev.iconst (z := 2) (d20 25 rfl) rfl ?_
      refine Ev.irem (d20 26 rfl) (by decide) ?_
      obtain ⟨b5, hr⟩ := grd_some hr
      refine Ev.ias V (j := 53) rfl rfl (d20 27 rfl) b5 ?_
      revert hr
      generalize setA s4 53 (ix (s4.1 66)) (a0 % (2 : Int32)) = s6
      intro hr
      replace hr := (bnd_eq _ _).symm.trans hr
      refine Ev.aloadN (d20 28 rfl) rfl ?_
      refine Ev.gAr V (ww hw 122 rfl) (d20 29 rfl) (j := 54) rfl ?_
      refine Ev.aloadN (d20 30 rfl) rfl ?_
      refine Ev.gI V (ww hw 172 rfl) (d20 31 rfl) (j := 66) rfl rfl ?_
      refine Ev.iconst (z := -1) (d20 32 rfl) rfl ?_
      obtain ⟨b7, hr⟩ := grd_some hr
      refine Ev.ias V (j := 54) rfl rfl (d20 33 rfl) b7 ?_
      revert hr
      generalize setA s6 54 (ix (s6.1 66)) (-1 : Int32) = s8
      intro hr
      replace hr := (bnd_eq _ _).symm.trans hr
      refine Ev.aloadN (d20 34 rfl) rfl ?_
      refine Ev.dup (d20 35 rfl) rfl ?_
      refine Ev.gI V (ww hw 172 rfl) (d20 36 rfl) (j := 66) rfl rfl ?_
      refine Ev.iconst (z := 1) (d20 37 rfl) rfl ?_
      refine Ev.iadd (d20 38 rfl) ?_
      refine Ev.pI V (gok hw) (ww hw 172 rfl) (Or.inl (ww hw 173 rfl)) (d20 39 rfl) (j := 66) rfl ?_
      revert hr
      generalize setI s8 66 ((s8.1 66) + (1 : Int32)) = s9
      intro hr
      replace hr := (bnd_eq _ _).symm.trans hr
      cases hr
      exact Ev.vreturn rfl (d20 40 rfl)
  · replace hr := (if_neg c1).symm.trans hr
    exact e_openList_13 hw V  s (.val (.int a0)) rfl _ hr
def f_stepAction (a0 : Int32) (a1 : Int32) (s : St) : Option (St) :=
  if a0 = (14 : Int32) then
    (f_la s).bind fun q2 =>
    if q2 = a1 then
      bnd (setI s 68 ((s.1 68) + (1 : Int32))) fun s5 =>
      some s5
    else
      bnd (setI s 69 ((1 : Int32) &&& 1)) fun s6 =>
      some s6
  else
    if a0 = (15 : Int32) then
      if (s.1 68) = (s.1 57) then
        bnd (setI s 70 ((1 : Int32) &&& 1)) fun s9 =>
        some s9
      else
        bnd (setI s 69 ((1 : Int32) &&& 1)) fun s10 =>
        some s10
    else
      if a0 = (16 : Int32) then
        if a1 < 0 then
          some s
        else
          if a1 < (160 : Int32) then
            grd (inb a1 160) <|
            bnd (setA s 42 (ix a1) (s.1 63)) fun s15 =>
            some s15
          else
            some s
      else
        if a0 = (17 : Int32) then
          (f_emit a1 (0 : Int32) s).bind fun q17 =>
          some q17
        else
          if a0 = (18 : Int32) then
            (f_openList a1 s).bind fun q20 =>
            some q20
          else
            if a0 = (19 : Int32) then
              if 0 < (s.1 66) then
                bnd (setI s 66 ((s.1 66) - (1 : Int32))) fun s24 =>
                some s24
              else
                some s
            else
              bnd (setI s 69 ((1 : Int32) &&& 1)) fun s25 =>
              some s25
set_option maxRecDepth 100000 in
theorem e_stepAction {g : GT} {a0 : Int32} {a1 : Int32} {s : St} {w : St} (hw : HW g) {K : St → MHeap} {o : Nat} {r : Nat → Nat} (V : View (GG g) Ln K o r) (hr : f_stepAction a0 a1 s = some w) : EvC (GG g) M_stepAction [.ref o, .int a0, .int a1] (K s) (none, (K w)) := by
  refine EvC.enter (L0 := [.val (.ref o), .val (.int a0), .val (.int a1)]) pl_stepAction (fun _ => rfl) rfl rfl ?_
  unfold f_stepAction at hr
  refine Ev.iloadN (d12 0 rfl) rfl ?_
  refine Ev.bipush (z := 14) (d12 1 rfl) rfl ?_
  refine Ev.icne (t := 35) (d12 2 rfl) rfl (fun c1 => ?_) (fun c1 => ?_)
  · replace hr := (if_pos c1).symm.trans hr
    refine Ev.aloadN (d12 3 rfl) rfl ?_
    obtain ⟨q2, hq3, hr⟩ := Option.bind_eq_some_iff.mp hr
    refine Ev.priv (y := M_la) (args := []) (rest := []) (gok hw) rfl nm_la (ww hw 199 rfl) (ww hw 200 rfl) (ww hw 201 rfl) (ww hw 202 rfl) (lenOf pd_la rfl) (d12 4 rfl) (V.2.1 s) (e_la hw V hq3) (by decide) (Nat.le_of_ble_eq_true rfl) rfl ?_
    refine Ev.iloadN (d12 5 rfl) rfl ?_
    refine Ev.icne (t := 27) (d12 6 rfl) rfl (fun c4 => ?_) (fun c4 => ?_)
    · replace hr := (if_pos c4).symm.trans hr
      refine Ev.aloadN (d12 7 rfl) rfl ?_
      refine Ev.dup (d12 8 rfl) rfl ?_
      refine Ev.gI V (ww hw 176 rfl) (d12 9 rfl) (j := 68) rfl rfl ?_
      refine Ev.iconst (z := 1) (d12 10 rfl) rfl ?_
      refine Ev.iadd (d12 11 rfl) ?_
      refine Ev.pI V (gok hw) (ww hw 176 rfl) (Or.inl (ww hw 177 rfl)) (d12 12 rfl) (j := 68) rfl ?_
      revert hr
      generalize setI s 68 ((s.1 68) + (1 : Int32)) = s5
      intro hr
      replace hr := (bnd_eq _ _).symm.trans hr
      refine Ev.goto (t := 158) (d12 13 rfl) rfl ?_
      cases hr
      exact Ev.vreturn rfl (d12 80 rfl)
    · replace hr := (if_neg c4).symm.trans hr
      refine Ev.aloadN (d12 14 rfl) rfl ?_
      refine Ev.iconst (z := 1) (d12 15 rfl) rfl ?_
      refine Ev.pZ V (gok hw) (ww hw 178 rfl) (Or.inl (ww hw 179 rfl)) (d12 16 rfl) (j := 69) rfl ?_
      revert hr
      generalize setI s 69 ((1 : Int32) &&& 1) = s6
      intro hr
      replace hr := (bnd_eq _ _).symm.trans hr
      refine Ev.goto (t := 158) (d12 17 rfl) rfl ?_
      cases hr
      exact Ev.vreturn rfl (d12 80 rfl)
  · replace hr := (if_neg c1).symm.trans hr
    refine Ev.iloadN (d12 18 rfl) rfl ?_
    refine Ev.bipush (z := 15) (d12 19 rfl) rfl ?_
    refine Ev.icne (t := 68) (d12 20 rfl) rfl (fun c7 => ?_) (fun c7 => ?_)
    · replace hr := (if_pos c7).symm.trans hr
      refine Ev.aloadN (d12 21 rfl) rfl ?_
      refine Ev.gI V (ww hw 176 rfl) (d12 22 rfl) (j := 68) rfl rfl ?_
      refine Ev.aloadN (d12 23 rfl) rfl ?_
      refine Ev.gI V (ww hw 128 rfl) (d12 24 rfl) (j := 57) rfl rfl ?_
      refine Ev.icne (t := 60) (d12 25 rfl) rfl (fun c8 => ?_) (fun c8 => ?_)
      · replace hr := (if_pos c8).symm.trans hr
        refine Ev.aloadN (d12 26 rfl) rfl ?_
        refine Ev.iconst (z := 1) (d12 27 rfl) rfl ?_
        refine Ev.pZ V (gok hw) (ww hw 180 rfl) (Or.inl (ww hw 181 rfl)) (d12 28 rfl) (j := 70) rfl ?_
        revert hr
        generalize setI s 70 ((1 : Int32) &&& 1) = s9
        intro hr
        replace hr := (bnd_eq _ _).symm.trans hr
        refine Ev.goto (t := 158) (d12 29 rfl) rfl ?_
        cases hr
        exact Ev.vreturn rfl (d12 80 rfl)
      · replace hr := (if_neg c8).symm.trans hr
        refine Ev.aloadN (d12 30 rfl) rfl ?_
        refine Ev.iconst (z := 1) (d12 31 rfl) rfl ?_
        refine Ev.pZ V (gok hw) (ww hw 178 rfl) (Or.inl (ww hw 179 rfl)) (d12 32 rfl) (j := 69) rfl ?_
        revert hr
        generalize setI s 69 ((1 : Int32) &&& 1) = s10
        intro hr
        replace hr := (bnd_eq _ _).symm.trans hr
        refine Ev.goto (t := 158) (d12 33 rfl) rfl ?_
        cases hr
        exact Ev.vreturn rfl (d12 80 rfl)
    · replace hr := (if_neg c7).symm.trans hr
      refine Ev.iloadN (d12 34 rfl) rfl ?_
      refine Ev.bipush (z := 16) (d12 35 rfl) rfl ?_
      refine Ev.icne (t := 98) (d12 36 rfl) rfl (fun c11 => ?_) (fun c11 => ?_)
      · replace hr := (if_pos c11).symm.trans hr
        refine Ev.iloadN (d12 37 rfl) rfl ?_
        refine Ev.iflt (t := 158) (d12 38 rfl) rfl (fun c12 => ?_) (fun c12 => ?_)
        · replace hr := (if_pos c12).symm.trans hr
          cases hr
          exact Ev.vreturn rfl (d12 80 rfl)
        · replace hr := (if_neg c12).symm.trans hr
          refine Ev.iloadN (d12 39 rfl) rfl ?_
          refine Ev.sipush (z := 160) (d12 40 rfl) rfl ?_
          refine Ev.icge (t := 158) (d12 41 rfl) rfl (fun c13 => ?_) (fun c13 => ?_)
          · replace hr := (if_pos c13).symm.trans hr
            refine Ev.aloadN (d12 42 rfl) rfl ?_
            refine Ev.gAr V (ww hw 98 rfl) (d12 43 rfl) (j := 42) rfl ?_
            refine Ev.iloadN (d12 44 rfl) rfl ?_
            refine Ev.aloadN (d12 45 rfl) rfl ?_
            refine Ev.gI V (ww hw 166 rfl) (d12 46 rfl) (j := 63) rfl rfl ?_
            obtain ⟨b14, hr⟩ := grd_some hr
            refine Ev.ias V (j := 42) rfl rfl (d12 47 rfl) b14 ?_
            revert hr
            generalize setA s 42 (ix a1) (s.1 63) = s15
            intro hr
            replace hr := (bnd_eq _ _).symm.trans hr
            refine Ev.goto (t := 158) (d12 48 rfl) rfl ?_
            cases hr
            exact Ev.vreturn rfl (d12 80 rfl)
          · replace hr := (if_neg c13).symm.trans hr
            cases hr
            exact Ev.vreturn rfl (d12 80 rfl)
      · replace hr := (if_neg c11).symm.trans hr
        refine Ev.iloadN (d12 49 rfl) rfl ?_
        refine Ev.bipush (z := 17) (d12 50 rfl) rfl ?_
        refine Ev.icne (t := 113) (d12 51 rfl) rfl (fun c16 => ?_) (fun c16 => ?_)
        · replace hr := (if_pos c16).symm.trans hr
          refine Ev.aloadN (d12 52 rfl) rfl ?_
          refine Ev.iloadN (d12 53 rfl) rfl ?_
          refine Ev.iconst (z := 0) (d12 54 rfl) rfl ?_
          obtain ⟨q17, hq18, hr⟩ := Option.bind_eq_some_iff.mp hr
          refine Ev.priv (y := M_emit) (args := [.int a1, .int (0 : Int32)]) (rest := []) (gok hw) rfl nm_emit (ww hw 223 rfl) (ww hw 224 rfl) (ww hw 225 rfl) (ww hw 226 rfl) (lenOf pd_emit rfl) (d12 55 rfl) (V.2.1 s) (e_emit hw V hq18) (by decide) (Nat.le_of_ble_eq_true rfl) rfl ?_
          refine Ev.goto (t := 158) (d12 56 rfl) rfl ?_
          cases hr
          exact Ev.vreturn rfl (d12 80 rfl)
        · replace hr := (if_neg c16).symm.trans hr
          refine Ev.iloadN (d12 57 rfl) rfl ?_
          refine Ev.bipush (z := 18) (d12 58 rfl) rfl ?_
          refine Ev.icne (t := 127) (d12 59 rfl) rfl (fun c19 => ?_) (fun c19 => ?_)
          · replace hr := (if_pos c19).symm.trans hr
            refine Ev.aloadN (d12 60 rfl) rfl ?_
            refine Ev.iloadN (d12 61 rfl) rfl ?_
            obtain ⟨q20, hq21, hr⟩ := Option.bind_eq_some_iff.mp hr
            refine Ev.priv (y := M_openList) (args := [.int a1]) (rest := []) (gok hw) rfl nm_openList (ww hw 227 rfl) (ww hw 228 rfl) (ww hw 229 rfl) (ww hw 230 rfl) (lenOf pd_openList rfl) (d12 62 rfl) (V.2.1 s) (e_openList hw V hq21) (by decide) (Nat.le_of_ble_eq_true rfl) rfl ?_
            refine Ev.goto (t := 158) (d12 63 rfl) rfl ?_
            cases hr
            exact Ev.vreturn rfl (d12 80 rfl)
          · replace hr := (if_neg c19).symm.trans hr
            refine Ev.iloadN (d12 64 rfl) rfl ?_
            refine Ev.bipush (z := 19) (d12 65 rfl) rfl ?_
            refine Ev.icne (t := 153) (d12 66 rfl) rfl (fun c22 => ?_) (fun c22 => ?_)
            · replace hr := (if_pos c22).symm.trans hr
              refine Ev.aloadN (d12 67 rfl) rfl ?_
              refine Ev.gI V (ww hw 172 rfl) (d12 68 rfl) (j := 66) rfl rfl ?_
              refine Ev.ifle (t := 158) (d12 69 rfl) rfl (fun c23 => ?_) (fun c23 => ?_)
              · replace hr := (if_pos c23).symm.trans hr
                refine Ev.aloadN (d12 70 rfl) rfl ?_
                refine Ev.dup (d12 71 rfl) rfl ?_
                refine Ev.gI V (ww hw 172 rfl) (d12 72 rfl) (j := 66) rfl rfl ?_
                refine Ev.iconst (z := 1) (d12 73 rfl) rfl ?_
                refine Ev.isub (d12 74 rfl) ?_
                refine Ev.pI V (gok hw) (ww hw 172 rfl) (Or.inl (ww hw 173 rfl)) (d12 75 rfl) (j := 66) rfl ?_
                revert hr
                generalize setI s 66 ((s.1 66) - (1 : Int32)) = s24
                intro hr
                replace hr := (bnd_eq _ _).symm.trans hr
                refine Ev.goto (t := 158) (d12 76 rfl) rfl ?_
                cases hr
                exact Ev.vreturn rfl (d12 80 rfl)
              · replace hr := (if_neg c23).symm.trans hr
                cases hr
                exact Ev.vreturn rfl (d12 80 rfl)
            · replace hr := (if_neg c22).symm.trans hr
              refine Ev.aloadN (d12 77 rfl) rfl ?_
              refine Ev.iconst (z := 1) (d12 78 rfl) rfl ?_
              refine Ev.pZ V (gok hw) (ww hw 178 rfl) (Or.inl (ww hw 179 rfl)) (d12 79 rfl) (j := 69) rfl ?_
              revert hr
              generalize setI s 69 ((1 : Int32) &&& 1) = s25
              intro hr
              replace hr := (bnd_eq _ _).symm.trans hr
              cases hr
              exact Ev.vreturn rfl (d12 80 rfl)
def f_step (a0 : Int32) (a1 : Int32) (s : St) : Option (St) :=
  if (6 : Int32) < a0 then
    if (11 : Int32) < a0 then
      if (13 : Int32) < a0 then
        (f_stepAction a0 a1 s).bind fun q4 =>
        some q4
      else
        (f_stepStmts a0 s).bind fun q6 =>
        some q6
    else
      (f_stepExpr a0 s).bind fun q8 =>
      some q8
  else
    (f_stepFormula a0 s).bind fun q10 =>
    some q10
set_option maxRecDepth 100000 in
theorem e_step {g : GT} {a0 : Int32} {a1 : Int32} {s : St} {w : St} (hw : HW g) {K : St → MHeap} {o : Nat} {r : Nat → Nat} (V : View (GG g) Ln K o r) (hr : f_step a0 a1 s = some w) : EvC (GG g) M_step [.ref o, .int a0, .int a1] (K s) (none, (K w)) := by
  refine EvC.enter (L0 := [.val (.ref o), .val (.int a0), .val (.int a1)]) pl_step (fun _ => rfl) rfl rfl ?_
  unfold f_step at hr
  refine Ev.iloadN (d11 0 rfl) rfl ?_
  refine Ev.bipush (z := 6) (d11 1 rfl) rfl ?_
  refine Ev.icgt (t := 14) (d11 2 rfl) rfl (fun c1 => ?_) (fun c1 => ?_)
  · replace hr := (if_pos c1).symm.trans hr
    refine Ev.iloadN (d11 7 rfl) rfl ?_
    refine Ev.bipush (z := 11) (d11 8 rfl) rfl ?_
    refine Ev.icgt (t := 28) (d11 9 rfl) rfl (fun c2 => ?_) (fun c2 => ?_)
    · replace hr := (if_pos c2).symm.trans hr
      refine Ev.iloadN (d11 14 rfl) rfl ?_
      refine Ev.bipush (z := 13) (d11 15 rfl) rfl ?_
      refine Ev.icgt (t := 42) (d11 16 rfl) rfl (fun c3 => ?_) (fun c3 => ?_)
      · replace hr := (if_pos c3).symm.trans hr
        refine Ev.aloadN (d11 21 rfl) rfl ?_
        refine Ev.iloadN (d11 22 rfl) rfl ?_
        refine Ev.iloadN (d11 23 rfl) rfl ?_
        obtain ⟨q4, hq5, hr⟩ := Option.bind_eq_some_iff.mp hr
        refine Ev.priv (y := M_stepAction) (args := [.int a0, .int a1]) (rest := []) (gok hw) rfl nm_stepAction (ww hw 195 rfl) (ww hw 196 rfl) (ww hw 197 rfl) (ww hw 198 rfl) (lenOf pd_stepAction rfl) (d11 24 rfl) (V.2.1 s) (e_stepAction hw V hq5) (by decide) (Nat.le_of_ble_eq_true rfl) rfl ?_
        cases hr
        exact Ev.vreturn rfl (d11 25 rfl)
      · replace hr := (if_neg c3).symm.trans hr
        refine Ev.aloadN (d11 17 rfl) rfl ?_
        refine Ev.iloadN (d11 18 rfl) rfl ?_
        obtain ⟨q6, hq7, hr⟩ := Option.bind_eq_some_iff.mp hr
        refine Ev.priv (y := M_stepStmts) (args := [.int a0]) (rest := []) (gok hw) rfl nm_stepStmts (ww hw 231 rfl) (ww hw 232 rfl) (ww hw 233 rfl) (ww hw 234 rfl) (lenOf pd_stepStmts rfl) (d11 19 rfl) (V.2.1 s) (e_stepStmts hw V hq7) (by decide) (Nat.le_of_ble_eq_true rfl) rfl ?_
        refine Ev.goto (t := 48) (d11 20 rfl) rfl ?_
        cases hr
        exact Ev.vreturn rfl (d11 25 rfl)
    · replace hr := (if_neg c2).symm.trans hr
      refine Ev.aloadN (d11 10 rfl) rfl ?_
      refine Ev.iloadN (d11 11 rfl) rfl ?_
      obtain ⟨q8, hq9, hr⟩ := Option.bind_eq_some_iff.mp hr
      refine Ev.priv (y := M_stepExpr) (args := [.int a0]) (rest := []) (gok hw) rfl nm_stepExpr (ww hw 215 rfl) (ww hw 216 rfl) (ww hw 217 rfl) (ww hw 218 rfl) (lenOf pd_stepExpr rfl) (d11 12 rfl) (V.2.1 s) (e_stepExpr hw V hq9) (by decide) (Nat.le_of_ble_eq_true rfl) rfl ?_
      refine Ev.goto (t := 48) (d11 13 rfl) rfl ?_
      cases hr
      exact Ev.vreturn rfl (d11 25 rfl)
  · replace hr := (if_neg c1).symm.trans hr
    refine Ev.aloadN (d11 3 rfl) rfl ?_
    refine Ev.iloadN (d11 4 rfl) rfl ?_
    obtain ⟨q10, hq11, hr⟩ := Option.bind_eq_some_iff.mp hr
    refine Ev.priv (y := M_stepFormula) (args := [.int a0]) (rest := []) (gok hw) rfl nm_stepFormula (ww hw 203 rfl) (ww hw 204 rfl) (ww hw 205 rfl) (ww hw 206 rfl) (lenOf pd_stepFormula rfl) (d11 5 rfl) (V.2.1 s) (e_stepFormula hw V hq11) (by decide) (Nat.le_of_ble_eq_true rfl) rfl ?_
    refine Ev.goto (t := 48) (d11 6 rfl) rfl ?_
    cases hr
    exact Ev.vreturn rfl (d11 25 rfl)
def f_doParse_128 (n : Nat) (s : St) : Option (Int32 × St) :=
  if (s.1 70) = 0 then
    some ((0 : Int32), s)
  else
    if (s.1 69) = 0 then
      some ((1 : Int32), s)
    else
      some ((0 : Int32), s)
set_option maxRecDepth 100000 in
theorem e_doParse_128 {g : GT} {n : Nat} (hw : HW g) {K : St → MHeap} {o : Nat} {r : Nat → Nat} (V : View (GG g) Ln K o r) (s : St) (y1 : Slot) (hy1 : one1 y1 = true) (w : Int32 × St) (hr : f_doParse_128 n s = some w) : Ev (GG g) M_doParse 128 [.val (.ref o), y1] [] (K s) ((some (.int w.1)), (K w.2)) := by
  unfold f_doParse_128 at hr
  refine Ev.aloadN (d8 68 rfl) rfl ?_
  refine Ev.gI V (ww hw 180 rfl) (d8 69 rfl) (j := 70) rfl rfl ?_
  refine Ev.ifeq (t := 146) (d8 70 rfl) rfl (fun c1 => ?_) (fun c1 => ?_)
  · replace hr := (if_pos c1).symm.trans hr
    refine Ev.iconst (z := 0) (d8 76 rfl) rfl ?_
    cases hr
    exact Ev.zret0 rfl (d8 77 rfl)
  · replace hr := (if_neg c1).symm.trans hr
    refine Ev.aloadN (d8 71 rfl) rfl ?_
    refine Ev.gI V (ww hw 178 rfl) (d8 72 rfl) (j := 69) rfl rfl ?_
    refine Ev.ifne (t := 146) (d8 73 rfl) rfl (fun c2 => ?_) (fun c2 => ?_)
    · replace hr := (if_pos c2).symm.trans hr
      refine Ev.iconst (z := 1) (d8 74 rfl) rfl ?_
      refine Ev.goto (t := 147) (d8 75 rfl) rfl ?_
      cases hr
      exact Ev.zret1 rfl (d8 77 rfl)
    · replace hr := (if_neg c2).symm.trans hr
      refine Ev.iconst (z := 0) (d8 76 rfl) rfl ?_
      cases hr
      exact Ev.zret0 rfl (d8 77 rfl)
def f_doParse_51 (n : Nat) : Nat → Int32 → St → Option (Int32 × St)
  | 0 => fun _ _ => none
  | k + 1 => fun x1 s =>
    if x1 < (40000 : Int32) then
      if (s.1 69) = 0 then
        if (s.1 70) = 0 then
          if 0 < (s.1 62) then
            bnd (setI s 62 ((s.1 62) - (1 : Int32))) fun s5 =>
            grd (inb (s5.1 62) 1024) <|
            (f_step (s5.2 50 (ix (s5.1 62))) (s5.2 51 (ix (s5.1 62))) s5).bind fun q7 =>
            f_doParse_51 n k (x1 + (1 : Int32)) q7
          else
            bnd (setI s 69 ((1 : Int32) &&& 1)) fun s9 =>
            f_doParse_128 n s9
        else
          f_doParse_128 n s
      else
        f_doParse_128 n s
    else
      f_doParse_128 n s
set_option maxRecDepth 100000 in
theorem e_doParse_51 {g : GT} {n : Nat} (hw : HW g) {K : St → MHeap} {o : Nat} {r : Nat → Nat} (V : View (GG g) Ln K o r) (k : Nat) : ∀ (x1 : Int32) (s : St) (w : Int32 × St), f_doParse_51 n k x1 s = some w → Ev (GG g) M_doParse 51 [.val (.ref o), .val (.int x1)] [] (K s) ((some (.int w.1)), (K w.2)) := by
  induction k with
  | zero => intro x1 s w hr; rw [f_doParse_51] at hr; cases hr
  | succ k ih =>
    intro x1 s w hr
    rw [f_doParse_51] at hr
    refine Ev.iloadN (d8 31 rfl) rfl ?_
    refine Ev.ldcW (ww hw 190 rfl) (d8 32 rfl) ?_
    refine Ev.icge (t := 128) (d8 33 rfl) rfl (fun c1 => ?_) (fun c1 => ?_)
    · replace hr := (if_pos c1).symm.trans hr
      refine Ev.aloadN (d8 34 rfl) rfl ?_
      refine Ev.gI V (ww hw 178 rfl) (d8 35 rfl) (j := 69) rfl rfl ?_
      refine Ev.ifne (t := 128) (d8 36 rfl) rfl (fun c2 => ?_) (fun c2 => ?_)
      · replace hr := (if_pos c2).symm.trans hr
        refine Ev.aloadN (d8 37 rfl) rfl ?_
        refine Ev.gI V (ww hw 180 rfl) (d8 38 rfl) (j := 70) rfl rfl ?_
        refine Ev.ifeq (t := 75) (d8 39 rfl) rfl (fun c3 => ?_) (fun c3 => ?_)
        · replace hr := (if_pos c3).symm.trans hr
          refine Ev.aloadN (d8 41 rfl) rfl ?_
          refine Ev.gI V (ww hw 164 rfl) (d8 42 rfl) (j := 62) rfl rfl ?_
          refine Ev.ifgt (t := 90) (d8 43 rfl) rfl (fun c4 => ?_) (fun c4 => ?_)
          · replace hr := (if_pos c4).symm.trans hr
            refine Ev.aloadN (d8 48 rfl) rfl ?_
            refine Ev.dup (d8 49 rfl) rfl ?_
            refine Ev.gI V (ww hw 164 rfl) (d8 50 rfl) (j := 62) rfl rfl ?_
            refine Ev.iconst (z := 1) (d8 51 rfl) rfl ?_
            refine Ev.isub (d8 52 rfl) ?_
            refine Ev.pI V (gok hw) (ww hw 164 rfl) (Or.inl (ww hw 165 rfl)) (d8 53 rfl) (j := 62) rfl ?_
            revert hr
            generalize setI s 62 ((s.1 62) - (1 : Int32)) = s5
            intro hr
            replace hr := (bnd_eq _ _).symm.trans hr
            refine Ev.aloadN (d8 54 rfl) rfl ?_
            refine Ev.aloadN (d8 55 rfl) rfl ?_
            refine Ev.gAr V (ww hw 114 rfl) (d8 56 rfl) (j := 50) rfl ?_
            refine Ev.aloadN (d8 57 rfl) rfl ?_
            refine Ev.gI V (ww hw 164 rfl) (d8 58 rfl) (j := 62) rfl rfl ?_
            obtain ⟨b6, hr⟩ := grd_some hr
            refine Ev.ial V (j := 50) rfl rfl (d8 59 rfl) b6 ?_
            refine Ev.aloadN (d8 60 rfl) rfl ?_
            refine Ev.gAr V (ww hw 116 rfl) (d8 61 rfl) (j := 51) rfl ?_
            refine Ev.aloadN (d8 62 rfl) rfl ?_
            refine Ev.gI V (ww hw 164 rfl) (d8 63 rfl) (j := 62) rfl rfl ?_
            refine Ev.ial V (j := 51) rfl rfl (d8 64 rfl) b6 ?_
            obtain ⟨q7, hq8, hr⟩ := Option.bind_eq_some_iff.mp hr
            refine Ev.priv (y := M_step) (args := [.int (s5.2 50 (ix (s5.1 62))), .int (s5.2 51 (ix (s5.1 62)))]) (rest := []) (gok hw) rfl nm_step (ww hw 191 rfl) (ww hw 192 rfl) (ww hw 193 rfl) (ww hw 194 rfl) (lenOf pd_step rfl) (d8 65 rfl) (V.2.1 s5) (e_step hw V hq8) (by decide) (Nat.le_of_ble_eq_true rfl) rfl ?_
            refine Ev.iinc (z := 1) (L' := [.val (.ref o), .val (.int (x1 + (1 : Int32)))]) (d8 66 rfl) rfl rfl rfl ?_
            refine Ev.goto (t := 51) (d8 67 rfl) rfl ?_
            exact ih (x1 + (1 : Int32)) q7  _ hr
          · replace hr := (if_neg c4).symm.trans hr
            refine Ev.aloadN (d8 44 rfl) rfl ?_
            refine Ev.iconst (z := 1) (d8 45 rfl) rfl ?_
            refine Ev.pZ V (gok hw) (ww hw 178 rfl) (Or.inl (ww hw 179 rfl)) (d8 46 rfl) (j := 69) rfl ?_
            revert hr
            generalize setI s 69 ((1 : Int32) &&& 1) = s9
            intro hr
            replace hr := (bnd_eq _ _).symm.trans hr
            refine Ev.goto (t := 128) (d8 47 rfl) rfl ?_
            exact e_doParse_128 hw V  s9 (.val (.int x1)) rfl _ hr
        · replace hr := (if_neg c3).symm.trans hr
          refine Ev.goto (t := 128) (d8 40 rfl) rfl ?_
          exact e_doParse_128 hw V  s (.val (.int x1)) rfl _ hr
      · replace hr := (if_neg c2).symm.trans hr
        exact e_doParse_128 hw V  s (.val (.int x1)) rfl _ hr
    · replace hr := (if_neg c1).symm.trans hr
      exact e_doParse_128 hw V  s (.val (.int x1)) rfl _ hr
def f_doParse (n : Nat) (s : St) : Option (Int32 × St) :=
  bnd (setI s 62 (0 : Int32)) fun s1 =>
  bnd (setI s1 63 (0 : Int32)) fun s2 =>
  bnd (setI s2 64 (0 : Int32)) fun s3 =>
  bnd (setI s3 65 (0 : Int32)) fun s4 =>
  bnd (setI s4 66 (0 : Int32)) fun s5 =>
  bnd (setI s5 67 (-1 : Int32)) fun s6 =>
  bnd (setI s6 68 (0 : Int32)) fun s7 =>
  bnd (setI s7 69 ((0 : Int32) &&& 1)) fun s8 =>
  bnd (setI s8 70 ((0 : Int32) &&& 1)) fun s9 =>
  (f_pushProgram s9).bind fun q10 =>
  f_doParse_51 n n (0 : Int32) q10
set_option maxRecDepth 100000 in
theorem e_doParse {g : GT} {n : Nat} {s : St} {w : Int32 × St} (hw : HW g) {K : St → MHeap} {o : Nat} {r : Nat → Nat} (V : View (GG g) Ln K o r) (hr : f_doParse n s = some w) : EvC (GG g) M_doParse [.ref o] (K s) ((some (.int w.1)), (K w.2)) := by
  refine EvC.enter (L0 := [.val (.ref o), .unset]) pl_doParse (fun h => nomatch h) rfl rfl ?_
  unfold f_doParse at hr
  refine Ev.aloadN (d8 0 rfl) rfl ?_
  refine Ev.iconst (z := 0) (d8 1 rfl) rfl ?_
  refine Ev.pI V (gok hw) (ww hw 164 rfl) (Or.inl (ww hw 165 rfl)) (d8 2 rfl) (j := 62) rfl ?_
  revert hr
  generalize setI s 62 (0 : Int32) = s1
  intro hr
  replace hr := (bnd_eq _ _).symm.trans hr
  refine Ev.aloadN (d8 3 rfl) rfl ?_
  refine Ev.iconst (z := 0) (d8 4 rfl) rfl ?_
  refine Ev.pI V (gok hw) (ww hw 166 rfl) (Or.inl (ww hw 167 rfl)) (d8 5 rfl) (j := 63) rfl ?_
  revert hr
  generalize setI s1 63 (0 : Int32) = s2
  intro hr
  replace hr := (bnd_eq _ _).symm.trans hr
  refine Ev.aloadN (d8 6 rfl) rfl ?_
  refine Ev.iconst (z := 0) (d8 7 rfl) rfl ?_
  refine Ev.pI V (gok hw) (ww hw 168 rfl) (Or.inl (ww hw 169 rfl)) (d8 8 rfl) (j := 64) rfl ?_
  revert hr
  generalize setI s2 64 (0 : Int32) = s3
  intro hr
  replace hr := (bnd_eq _ _).symm.trans hr
  refine Ev.aloadN (d8 9 rfl) rfl ?_
  refine Ev.iconst (z := 0) (d8 10 rfl) rfl ?_
  refine Ev.pI V (gok hw) (ww hw 170 rfl) (Or.inl (ww hw 171 rfl)) (d8 11 rfl) (j := 65) rfl ?_
  revert hr
  generalize setI s3 65 (0 : Int32) = s4
  intro hr
  replace hr := (bnd_eq _ _).symm.trans hr
  refine Ev.aloadN (d8 12 rfl) rfl ?_
  refine Ev.iconst (z := 0) (d8 13 rfl) rfl ?_
  refine Ev.pI V (gok hw) (ww hw 172 rfl) (Or.inl (ww hw 173 rfl)) (d8 14 rfl) (j := 66) rfl ?_
  revert hr
  generalize setI s4 66 (0 : Int32) = s5
  intro hr
  replace hr := (bnd_eq _ _).symm.trans hr
  refine Ev.aloadN (d8 15 rfl) rfl ?_
  refine Ev.iconst (z := -1) (d8 16 rfl) rfl ?_
  refine Ev.pI V (gok hw) (ww hw 174 rfl) (Or.inl (ww hw 175 rfl)) (d8 17 rfl) (j := 67) rfl ?_
  revert hr
  generalize setI s5 67 (-1 : Int32) = s6
  intro hr
  replace hr := (bnd_eq _ _).symm.trans hr
  refine Ev.aloadN (d8 18 rfl) rfl ?_
  refine Ev.iconst (z := 0) (d8 19 rfl) rfl ?_
  refine Ev.pI V (gok hw) (ww hw 176 rfl) (Or.inl (ww hw 177 rfl)) (d8 20 rfl) (j := 68) rfl ?_
  revert hr
  generalize setI s6 68 (0 : Int32) = s7
  intro hr
  replace hr := (bnd_eq _ _).symm.trans hr
  refine Ev.aloadN (d8 21 rfl) rfl ?_
  refine Ev.iconst (z := 0) (d8 22 rfl) rfl ?_
  refine Ev.pZ V (gok hw) (ww hw 178 rfl) (Or.inl (ww hw 179 rfl)) (d8 23 rfl) (j := 69) rfl ?_
  revert hr
  generalize setI s7 69 ((0 : Int32) &&& 1) = s8
  intro hr
  replace hr := (bnd_eq _ _).symm.trans hr
  refine Ev.aloadN (d8 24 rfl) rfl ?_
  refine Ev.iconst (z := 0) (d8 25 rfl) rfl ?_
  refine Ev.pZ V (gok hw) (ww hw 180 rfl) (Or.inl (ww hw 181 rfl)) (d8 26 rfl) (j := 70) rfl ?_
  revert hr
  generalize setI s8 70 ((0 : Int32) &&& 1) = s9
  intro hr
  replace hr := (bnd_eq _ _).symm.trans hr
  refine Ev.aloadN (d8 27 rfl) rfl ?_
  obtain ⟨q10, hq11, hr⟩ := Option.bind_eq_some_iff.mp hr
  refine Ev.priv (y := M_pushProgram) (args := []) (rest := []) (gok hw) rfl nm_pushProgram (ww hw 182 rfl) (ww hw 183 rfl) (ww hw 184 rfl) (ww hw 185 rfl) (lenOf pd_pushProgram rfl) (d8 28 rfl) (V.2.1 s9) (e_pushProgram hw V hq11) (by decide) (Nat.le_of_ble_eq_true rfl) rfl ?_
  refine Ev.iconst (z := 0) (d8 29 rfl) rfl ?_
  refine Ev.istDN (L' := [.val (.ref o), .val (.int (0 : Int32))]) (d8 30 rfl) rfl rfl rfl ?_
  exact e_doParse_51 hw V  n (0 : Int32) q10  _ hr
def f_parse (n : Nat) (s : St) : Option (Int32 × St) :=
  (f_clearResults s).bind fun q1 =>
  (f_doParse n q1).bind fun q3 =>
  if q3.1 = 0 then
    bnd (setI q3.2 59 (q3.2.1 68)) fun s6 =>
    some ((-3 : Int32), s6)
  else
    bnd (setI q3.2 58 ((1 : Int32) &&& 1)) fun s7 =>
    some ((0 : Int32), s7)
set_option maxRecDepth 100000 in
theorem e_parse {g : GT} {n : Nat} {s : St} {w : Int32 × St} (hw : HW g) {K : St → MHeap} {o : Nat} {r : Nat → Nat} (V : View (GG g) Ln K o r) (hr : f_parse n s = some w) : EvC (GG g) M_parse [.ref o] (K s) ((some (.int w.1)), (K w.2)) := by
  refine EvC.enter (L0 := [.val (.ref o), .unset]) pl_parse (fun h => nomatch h) rfl rfl ?_
  unfold f_parse at hr
  refine Ev.aloadN (d7 0 rfl) rfl ?_
  obtain ⟨q1, hq2, hr⟩ := Option.bind_eq_some_iff.mp hr
  refine Ev.priv (y := M_clearResults) (args := []) (rest := []) (gok hw) rfl nm_clearResults (ww hw 130 rfl) (ww hw 131 rfl) (ww hw 132 rfl) (ww hw 133 rfl) (lenOf pd_clearResults rfl) (d7 1 rfl) (V.2.1 s) (e_clearResults hw V hq2) (by decide) (Nat.le_of_ble_eq_true rfl) rfl ?_
  refine Ev.aloadN (d7 2 rfl) rfl ?_
  obtain ⟨q3, hq4, hr⟩ := Option.bind_eq_some_iff.mp hr
  refine Ev.priv (y := M_doParse) (args := []) (rest := []) (gok hw) rfl nm_doParse (ww hw 160 rfl) (ww hw 161 rfl) (ww hw 162 rfl) (ww hw 163 rfl) (lenOf pd_doParse rfl) (d7 3 rfl) (V.2.1 q1) (e_doParse hw V hq4) (by decide) (Nat.le_of_ble_eq_true rfl) rfl ?_
  refine Ev.istDN (L' := [.val (.ref o), .val (.int q3.1)]) (d7 4 rfl) rfl rfl rfl ?_
  refine Ev.iloadN (d7 5 rfl) rfl ?_
  refine Ev.ifeq (t := 20) (d7 6 rfl) rfl (fun c5 => ?_) (fun c5 => ?_)
  · replace hr := (if_pos c5).symm.trans hr
    refine Ev.aloadN (d7 12 rfl) rfl ?_
    refine Ev.aloadN (d7 13 rfl) rfl ?_
    refine Ev.gI V (ww hw 176 rfl) (d7 14 rfl) (j := 68) rfl rfl ?_
    refine Ev.pI V (gok hw) (ww hw 136 rfl) (Or.inl (ww hw 137 rfl)) (d7 15 rfl) (j := 59) rfl ?_
    revert hr
    generalize setI q3.2 59 (q3.2.1 68) = s6
    intro hr
    replace hr := (bnd_eq _ _).symm.trans hr
    refine Ev.bipush (z := -3) (d7 16 rfl) rfl ?_
    cases hr
    exact Ev.ireturn rfl (d7 17 rfl)
  · replace hr := (if_neg c5).symm.trans hr
    refine Ev.aloadN (d7 7 rfl) rfl ?_
    refine Ev.iconst (z := 1) (d7 8 rfl) rfl ?_
    refine Ev.pZ V (gok hw) (ww hw 134 rfl) (Or.inl (ww hw 135 rfl)) (d7 9 rfl) (j := 58) rfl ?_
    revert hr
    generalize setI q3.2 58 ((1 : Int32) &&& 1) = s7
    intro hr
    replace hr := (bnd_eq _ _).symm.trans hr
    refine Ev.iconst (z := 0) (d7 10 rfl) rfl ?_
    cases hr
    exact Ev.ireturn rfl (d7 11 rfl)
def f_vcCount (s : St) : Option (Int32) :=
  if (s.1 58) = 0 then
    some (-4 : Int32)
  else
    some ((1 : Int32) + ((2 : Int32) * (s.1 65)))
set_option maxRecDepth 100000 in
theorem e_vcCount {g : GT} {s : St} {w : Int32} (hw : HW g) {K : St → MHeap} {o : Nat} {r : Nat → Nat} (V : View (GG g) Ln K o r) (hr : f_vcCount s = some w) : EvC (GG g) M_vcCount [.ref o] (K s) ((some (.int w)), (K s)) := by
  refine EvC.enter (L0 := [.val (.ref o)]) pl_vcCount (fun h => nomatch h) rfl rfl ?_
  unfold f_vcCount at hr
  refine Ev.aloadN (d27 0 rfl) rfl ?_
  refine Ev.gI V (ww hw 134 rfl) (d27 1 rfl) (j := 58) rfl rfl ?_
  refine Ev.ifne (t := 10) (d27 2 rfl) rfl (fun c1 => ?_) (fun c1 => ?_)
  · replace hr := (if_pos c1).symm.trans hr
    refine Ev.bipush (z := -4) (d27 3 rfl) rfl ?_
    cases hr
    exact Ev.ireturn rfl (d27 4 rfl)
  · replace hr := (if_neg c1).symm.trans hr
    refine Ev.iconst (z := 1) (d27 5 rfl) rfl ?_
    refine Ev.iconst (z := 2) (d27 6 rfl) rfl ?_
    refine Ev.aloadN (d27 7 rfl) rfl ?_
    refine Ev.gI V (ww hw 170 rfl) (d27 8 rfl) (j := 65) rfl rfl ?_
    refine Ev.imul (d27 9 rfl) ?_
    refine Ev.iadd (d27 10 rfl) ?_
    cases hr
    exact Ev.ireturn rfl (d27 11 rfl)
def f_leafValue (s : St) (a0 : Int32) (a1 : Int32) (a2 : Int32) (a3 : Int32) (a4 : Int32) : Option (Int32) :=
  if a0 = (1 : Int32) then
    if a1 = 0 then
      some a2
    else
      if a1 = (1 : Int32) then
        some a3
      else
        some a4
  else
    if a0 = (2 : Int32) then
      some a1
    else
      if a0 = (8 : Int32) then
        some (1 : Int32)
      else
        some (0 : Int32)
set_option maxRecDepth 100000 in
theorem e_leafValue {g : GT} {s : St} {a0 : Int32} {a1 : Int32} {a2 : Int32} {a3 : Int32} {a4 : Int32} {w : Int32} (hw : HW g) {K : St → MHeap} {o : Nat} {r : Nat → Nat} (V : View (GG g) Ln K o r) (hr : f_leafValue s a0 a1 a2 a3 a4 = some w) : EvC (GG g) M_leafValue [.ref o, .int a0, .int a1, .int a2, .int a3, .int a4] (K s) ((some (.int w)), (K s)) := by
  refine EvC.enter (L0 := [.val (.ref o), .val (.int a0), .val (.int a1), .val (.int a2), .val (.int a3), .val (.int a4)]) pl_leafValue (fun h => nomatch h) rfl rfl ?_
  unfold f_leafValue at hr
  refine Ev.iloadN (d32 0 rfl) rfl ?_
  refine Ev.iconst (z := 1) (d32 1 rfl) rfl ?_
  refine Ev.icne (t := 24) (d32 2 rfl) rfl (fun c1 => ?_) (fun c1 => ?_)
  · replace hr := (if_pos c1).symm.trans hr
    refine Ev.iloadN (d32 3 rfl) rfl ?_
    refine Ev.ifne (t := 11) (d32 4 rfl) rfl (fun c2 => ?_) (fun c2 => ?_)
    · replace hr := (if_pos c2).symm.trans hr
      refine Ev.iloadN (d32 5 rfl) rfl ?_
      cases hr
      exact Ev.ireturn rfl (d32 6 rfl)
    · replace hr := (if_neg c2).symm.trans hr
      refine Ev.iloadN (d32 7 rfl) rfl ?_
      refine Ev.iconst (z := 1) (d32 8 rfl) rfl ?_
      refine Ev.icne (t := 21) (d32 9 rfl) rfl (fun c3 => ?_) (fun c3 => ?_)
      · replace hr := (if_pos c3).symm.trans hr
        refine Ev.iload (d32 10 rfl) rfl ?_
        refine Ev.goto (t := 23) (d32 11 rfl) rfl ?_
        cases hr
        exact Ev.ireturn rfl (d32 13 rfl)
      · replace hr := (if_neg c3).symm.trans hr
        refine Ev.iload (d32 12 rfl) rfl ?_
        cases hr
        exact Ev.ireturn rfl (d32 13 rfl)
  · replace hr := (if_neg c1).symm.trans hr
    refine Ev.iloadN (d32 14 rfl) rfl ?_
    refine Ev.iconst (z := 2) (d32 15 rfl) rfl ?_
    refine Ev.icne (t := 31) (d32 16 rfl) rfl (fun c4 => ?_) (fun c4 => ?_)
    · replace hr := (if_pos c4).symm.trans hr
      refine Ev.iloadN (d32 17 rfl) rfl ?_
      cases hr
      exact Ev.ireturn rfl (d32 18 rfl)
    · replace hr := (if_neg c4).symm.trans hr
      refine Ev.iloadN (d32 19 rfl) rfl ?_
      refine Ev.bipush (z := 8) (d32 20 rfl) rfl ?_
      refine Ev.icne (t := 41) (d32 21 rfl) rfl (fun c5 => ?_) (fun c5 => ?_)
      · replace hr := (if_pos c5).symm.trans hr
        refine Ev.iconst (z := 1) (d32 22 rfl) rfl ?_
        refine Ev.goto (t := 42) (d32 23 rfl) rfl ?_
        cases hr
        exact Ev.ireturn rfl (d32 25 rfl)
      · replace hr := (if_neg c5).symm.trans hr
        refine Ev.iconst (z := 0) (d32 24 rfl) rfl ?_
        cases hr
        exact Ev.ireturn rfl (d32 25 rfl)
def f_binary (s : St) (a0 : Int32) (a1 : Int32) (a2 : Int32) : Option (Int32) :=
  if a0 = (3 : Int32) then
    some ((a1 + a2) &&& (15 : Int32))
  else
    if a0 = (4 : Int32) then
      some ((a1 - a2) &&& (15 : Int32))
    else
      if a0 = (5 : Int32) then
        some ((a1 * a2) &&& (15 : Int32))
      else
        if a0 = (6 : Int32) then
          if a1 < a2 then
            some (1 : Int32)
          else
            some (0 : Int32)
        else
          if a0 = (7 : Int32) then
            if a1 = a2 then
              some (1 : Int32)
            else
              some (0 : Int32)
          else
            if a0 = (11 : Int32) then
              if a1 = 0 then
                some (0 : Int32)
              else
                if a2 = 0 then
                  some (0 : Int32)
                else
                  some (1 : Int32)
            else
              if a1 = 0 then
                if a2 = 0 then
                  some (0 : Int32)
                else
                  some (1 : Int32)
              else
                some (1 : Int32)
set_option maxRecDepth 100000 in
theorem e_binary {g : GT} {s : St} {a0 : Int32} {a1 : Int32} {a2 : Int32} {w : Int32} (hw : HW g) {K : St → MHeap} {o : Nat} {r : Nat → Nat} (V : View (GG g) Ln K o r) (hr : f_binary s a0 a1 a2 = some w) : EvC (GG g) M_binary [.ref o, .int a0, .int a1, .int a2] (K s) ((some (.int w)), (K s)) := by
  refine EvC.enter (L0 := [.val (.ref o), .val (.int a0), .val (.int a1), .val (.int a2)]) pl_binary (fun h => nomatch h) rfl rfl ?_
  unfold f_binary at hr
  refine Ev.iloadN (d33 0 rfl) rfl ?_
  refine Ev.iconst (z := 3) (d33 1 rfl) rfl ?_
  refine Ev.icne (t := 12) (d33 2 rfl) rfl (fun c1 => ?_) (fun c1 => ?_)
  · replace hr := (if_pos c1).symm.trans hr
    refine Ev.iloadN (d33 3 rfl) rfl ?_
    refine Ev.iloadN (d33 4 rfl) rfl ?_
    refine Ev.iadd (d33 5 rfl) ?_
    refine Ev.bipush (z := 15) (d33 6 rfl) rfl ?_
    refine Ev.iand (d33 7 rfl) ?_
    cases hr
    exact Ev.ireturn rfl (d33 8 rfl)
  · replace hr := (if_neg c1).symm.trans hr
    refine Ev.iloadN (d33 9 rfl) rfl ?_
    refine Ev.iconst (z := 4) (d33 10 rfl) rfl ?_
    refine Ev.icne (t := 24) (d33 11 rfl) rfl (fun c2 => ?_) (fun c2 => ?_)
    · replace hr := (if_pos c2).symm.trans hr
      refine Ev.iloadN (d33 12 rfl) rfl ?_
      refine Ev.iloadN (d33 13 rfl) rfl ?_
      refine Ev.isub (d33 14 rfl) ?_
      refine Ev.bipush (z := 15) (d33 15 rfl) rfl ?_
      refine Ev.iand (d33 16 rfl) ?_
      cases hr
      exact Ev.ireturn rfl (d33 17 rfl)
    · replace hr := (if_neg c2).symm.trans hr
      refine Ev.iloadN (d33 18 rfl) rfl ?_
      refine Ev.iconst (z := 5) (d33 19 rfl) rfl ?_
      refine Ev.icne (t := 36) (d33 20 rfl) rfl (fun c3 => ?_) (fun c3 => ?_)
      · replace hr := (if_pos c3).symm.trans hr
        refine Ev.iloadN (d33 21 rfl) rfl ?_
        refine Ev.iloadN (d33 22 rfl) rfl ?_
        refine Ev.imul (d33 23 rfl) ?_
        refine Ev.bipush (z := 15) (d33 24 rfl) rfl ?_
        refine Ev.iand (d33 25 rfl) ?_
        cases hr
        exact Ev.ireturn rfl (d33 26 rfl)
      · replace hr := (if_neg c3).symm.trans hr
        refine Ev.iloadN (d33 27 rfl) rfl ?_
        refine Ev.bipush (z := 6) (d33 28 rfl) rfl ?_
        refine Ev.icne (t := 53) (d33 29 rfl) rfl (fun c4 => ?_) (fun c4 => ?_)
        · replace hr := (if_pos c4).symm.trans hr
          refine Ev.iloadN (d33 30 rfl) rfl ?_
          refine Ev.iloadN (d33 31 rfl) rfl ?_
          refine Ev.icge (t := 51) (d33 32 rfl) rfl (fun c5 => ?_) (fun c5 => ?_)
          · replace hr := (if_pos c5).symm.trans hr
            refine Ev.iconst (z := 1) (d33 33 rfl) rfl ?_
            refine Ev.goto (t := 52) (d33 34 rfl) rfl ?_
            cases hr
            exact Ev.ireturn rfl (d33 36 rfl)
          · replace hr := (if_neg c5).symm.trans hr
            refine Ev.iconst (z := 0) (d33 35 rfl) rfl ?_
            cases hr
            exact Ev.ireturn rfl (d33 36 rfl)
        · replace hr := (if_neg c4).symm.trans hr
          refine Ev.iloadN (d33 37 rfl) rfl ?_
          refine Ev.bipush (z := 7) (d33 38 rfl) rfl ?_
          refine Ev.icne (t := 70) (d33 39 rfl) rfl (fun c6 => ?_) (fun c6 => ?_)
          · replace hr := (if_pos c6).symm.trans hr
            refine Ev.iloadN (d33 40 rfl) rfl ?_
            refine Ev.iloadN (d33 41 rfl) rfl ?_
            refine Ev.icne (t := 68) (d33 42 rfl) rfl (fun c7 => ?_) (fun c7 => ?_)
            · replace hr := (if_pos c7).symm.trans hr
              refine Ev.iconst (z := 1) (d33 43 rfl) rfl ?_
              refine Ev.goto (t := 69) (d33 44 rfl) rfl ?_
              cases hr
              exact Ev.ireturn rfl (d33 46 rfl)
            · replace hr := (if_neg c7).symm.trans hr
              refine Ev.iconst (z := 0) (d33 45 rfl) rfl ?_
              cases hr
              exact Ev.ireturn rfl (d33 46 rfl)
          · replace hr := (if_neg c6).symm.trans hr
            refine Ev.iloadN (d33 47 rfl) rfl ?_
            refine Ev.bipush (z := 11) (d33 48 rfl) rfl ?_
            refine Ev.icne (t := 90) (d33 49 rfl) rfl (fun c8 => ?_) (fun c8 => ?_)
            · replace hr := (if_pos c8).symm.trans hr
              refine Ev.iloadN (d33 50 rfl) rfl ?_
              refine Ev.ifeq (t := 88) (d33 51 rfl) rfl (fun c9 => ?_) (fun c9 => ?_)
              · replace hr := (if_pos c9).symm.trans hr
                refine Ev.iconst (z := 0) (d33 56 rfl) rfl ?_
                cases hr
                exact Ev.ireturn rfl (d33 57 rfl)
              · replace hr := (if_neg c9).symm.trans hr
                refine Ev.iloadN (d33 52 rfl) rfl ?_
                refine Ev.ifeq (t := 88) (d33 53 rfl) rfl (fun c10 => ?_) (fun c10 => ?_)
                · replace hr := (if_pos c10).symm.trans hr
                  refine Ev.iconst (z := 0) (d33 56 rfl) rfl ?_
                  cases hr
                  exact Ev.ireturn rfl (d33 57 rfl)
                · replace hr := (if_neg c10).symm.trans hr
                  refine Ev.iconst (z := 1) (d33 54 rfl) rfl ?_
                  refine Ev.goto (t := 89) (d33 55 rfl) rfl ?_
                  cases hr
                  exact Ev.ireturn rfl (d33 57 rfl)
            · replace hr := (if_neg c8).symm.trans hr
              refine Ev.iloadN (d33 58 rfl) rfl ?_
              refine Ev.ifne (t := 98) (d33 59 rfl) rfl (fun c11 => ?_) (fun c11 => ?_)
              · replace hr := (if_pos c11).symm.trans hr
                refine Ev.iloadN (d33 60 rfl) rfl ?_
                refine Ev.ifeq (t := 102) (d33 61 rfl) rfl (fun c12 => ?_) (fun c12 => ?_)
                · replace hr := (if_pos c12).symm.trans hr
                  refine Ev.iconst (z := 0) (d33 64 rfl) rfl ?_
                  cases hr
                  exact Ev.ireturn rfl (d33 65 rfl)
                · replace hr := (if_neg c12).symm.trans hr
                  refine Ev.iconst (z := 1) (d33 62 rfl) rfl ?_
                  refine Ev.goto (t := 103) (d33 63 rfl) rfl ?_
                  cases hr
                  exact Ev.ireturn rfl (d33 65 rfl)
              · replace hr := (if_neg c11).symm.trans hr
                refine Ev.iconst (z := 1) (d33 62 rfl) rfl ?_
                refine Ev.goto (t := 103) (d33 63 rfl) rfl ?_
                cases hr
                exact Ev.ireturn rfl (d33 65 rfl)
def f_evalAt_194 (n : Nat) (x5 : Int32) (s : St) : Option (Int32 × St) :=
  if 0 < x5 then
    grd (inb (x5 - (1 : Int32)) 512) <|
    some ((s.2 55 (ix (x5 - (1 : Int32)))), s)
  else
    some ((0 : Int32), s)
set_option maxRecDepth 100000 in
theorem e_evalAt_194 {g : GT} {n : Nat} (hw : HW g) {K : St → MHeap} {o : Nat} {r : Nat → Nat} (V : View (GG g) Ln K o r) (x5 : Int32) (s : St) (y1 : Slot) (hy1 : one1 y1 = true) (y2 : Slot) (hy2 : one1 y2 = true) (y3 : Slot) (hy3 : one1 y3 = true) (y4 : Slot) (hy4 : one1 y4 = true) (y6 : Slot) (hy6 : one1 y6 = true) (y7 : Slot) (hy7 : one1 y7 = true) (w : Int32 × St) (hr : f_evalAt_194 n x5 s = some w) : Ev (GG g) M_evalAt 194 [.val (.ref o), y1, y2, y3, y4, .val (.int x5), y6, y7] [] (K s) ((some (.int w.1)), (K w.2)) := by
  unfold f_evalAt_194 at hr
  refine Ev.iload (d31 98 rfl) rfl ?_
  refine Ev.ifgt (t := 201) (d31 99 rfl) rfl (fun c1 => ?_) (fun c1 => ?_)
  · replace hr := (if_pos c1).symm.trans hr
    refine Ev.aloadN (d31 102 rfl) rfl ?_
    refine Ev.gAr V (ww hw 124 rfl) (d31 103 rfl) (j := 55) rfl ?_
    refine Ev.iload (d31 104 rfl) rfl ?_
    refine Ev.iconst (z := 1) (d31 105 rfl) rfl ?_
    refine Ev.isub (d31 106 rfl) ?_
    obtain ⟨b2, hr⟩ := grd_some hr
    refine Ev.ial V (j := 55) rfl rfl (d31 107 rfl) b2 ?_
    cases hr
    exact Ev.ireturn rfl (d31 108 rfl)
  · replace hr := (if_neg c1).symm.trans hr
    refine Ev.iconst (z := 0) (d31 100 rfl) rfl ?_
    cases hr
    exact Ev.ireturn rfl (d31 101 rfl)
def f_evalAt_66 (n : Nat) (k6 : Int32 → Int32 → Int32 → Int32 → Int32 → St → Option (Int32 × St)) (x2 : Int32) (x3 : Int32) (x4 : Int32) (x5 : Int32) (x6 : Int32) (x7 : Int32) (s : St) : Option (Int32 × St) :=
  if x5 < (512 : Int32) then
    grd (inb x6 512) <|
    (f_leafValue s x7 (s.2 41 (ix x6)) x2 x3 x4).bind fun q3 =>
    grd (inb x5 512) <|
    bnd (setA s 55 (ix x5) q3) fun s6 =>
    k6 x2 x3 x4 (x5 + (1 : Int32)) (x6 + (1 : Int32)) s6
  else
    f_evalAt_194 n x5 s
set_option maxRecDepth 100000 in
theorem e_evalAt_66 {g : GT} {n : Nat} (hw : HW g) {K : St → MHeap} {o : Nat} {r : Nat → Nat} (V : View (GG g) Ln K o r) {k6 : Int32 → Int32 → Int32 → Int32 → Int32 → St → Option (Int32 × St)} (hk6 : ∀ (x2 : Int32) (x3 : Int32) (x4 : Int32) (x5 : Int32) (x6 : Int32) (s : St) (y1 : Slot) (hy1 : one1 y1 = true) (y7 : Slot) (hy7 : one1 y7 = true) (w : Int32 × St), k6 x2 x3 x4 x5 x6 s = some w → Ev (GG g) M_evalAt 6 [.val (.ref o), y1, .val (.int x2), .val (.int x3), .val (.int x4), .val (.int x5), .val (.int x6), y7] [] (K s) ((some (.int w.1)), (K w.2))) (x2 : Int32) (x3 : Int32) (x4 : Int32) (x5 : Int32) (x6 : Int32) (x7 : Int32) (s : St) (y1 : Slot) (hy1 : one1 y1 = true) (w : Int32 × St) (hr : f_evalAt_66 n k6 x2 x3 x4 x5 x6 x7 s = some w) : Ev (GG g) M_evalAt 66 [.val (.ref o), y1, .val (.int x2), .val (.int x3), .val (.int x4), .val (.int x5), .val (.int x6), .val (.int x7)] [] (K s) ((some (.int w.1)), (K w.2)) := by
  unfold f_evalAt_66 at hr
  refine Ev.iload (d31 31 rfl) rfl ?_
  refine Ev.sipush (z := 512) (d31 32 rfl) rfl ?_
  refine Ev.iclt (t := 77) (d31 33 rfl) rfl (fun c1 => ?_) (fun c1 => ?_)
  · replace hr := (if_pos c1).symm.trans hr
    refine Ev.aloadN (d31 35 rfl) rfl ?_
    refine Ev.gAr V (ww hw 124 rfl) (d31 36 rfl) (j := 55) rfl ?_
    refine Ev.iload (d31 37 rfl) rfl ?_
    refine Ev.aloadN (d31 38 rfl) rfl ?_
    refine Ev.iload (d31 39 rfl) rfl ?_
    refine Ev.aloadN (d31 40 rfl) rfl ?_
    refine Ev.gAr V (ww hw 96 rfl) (d31 41 rfl) (j := 41) rfl ?_
    refine Ev.iload (d31 42 rfl) rfl ?_
    obtain ⟨b2, hr⟩ := grd_some hr
    refine Ev.ial V (j := 41) rfl rfl (d31 43 rfl) b2 ?_
    refine Ev.iloadN (d31 44 rfl) rfl ?_
    refine Ev.iloadN (d31 45 rfl) rfl ?_
    refine Ev.iload (d31 46 rfl) rfl ?_
    obtain ⟨q3, hq4, hr⟩ := Option.bind_eq_some_iff.mp hr
    refine Ev.priv (y := M_leafValue) (args := [.int x7, .int (s.2 41 (ix x6)), .int x2, .int x3, .int x4]) (rest := [.int x5, .ref (r 55)]) (gok hw) rfl nm_leafValue (ww hw 277 rfl) (ww hw 278 rfl) (ww hw 279 rfl) (ww hw 280 rfl) (lenOf pd_leafValue rfl) (d31 47 rfl) (V.2.1 s) (e_leafValue hw V hq4) (by decide) (Nat.le_of_ble_eq_true rfl) rfl ?_
    obtain ⟨b5, hr⟩ := grd_some hr
    refine Ev.ias V (j := 55) rfl rfl (d31 48 rfl) b5 ?_
    revert hr
    generalize setA s 55 (ix x5) q3 = s6
    intro hr
    replace hr := (bnd_eq _ _).symm.trans hr
    refine Ev.iinc (z := 1) (L' := [.val (.ref o), y1, .val (.int x2), .val (.int x3), .val (.int x4), .val (.int (x5 + (1 : Int32))), .val (.int x6), .val (.int x7)]) (d31 49 rfl) rfl rfl rfl ?_
    refine Ev.goto (t := 188) (d31 50 rfl) rfl ?_
    refine Ev.iinc (z := 1) (L' := [.val (.ref o), y1, .val (.int x2), .val (.int x3), .val (.int x4), .val (.int (x5 + (1 : Int32))), .val (.int (x6 + (1 : Int32))), .val (.int x7)]) (d31 96 rfl) rfl rfl rfl ?_
    refine Ev.goto (t := 6) (d31 97 rfl) rfl ?_
    exact hk6 x2 x3 x4 (x5 + (1 : Int32)) (x6 + (1 : Int32)) s6 y1 hy1 (.val (.int x7)) rfl _ hr
  · replace hr := (if_neg c1).symm.trans hr
    refine Ev.goto (t := 194) (d31 34 rfl) rfl ?_
    exact e_evalAt_194 hw V  x5 s y1 hy1 (.val (.int x2)) rfl (.val (.int x3)) rfl (.val (.int x4)) rfl (.val (.int x6)) rfl (.val (.int x7)) rfl _ hr
def f_evalAt_144 (n : Nat) (k6 : Int32 → Int32 → Int32 → Int32 → Int32 → St → Option (Int32 × St)) (x2 : Int32) (x3 : Int32) (x4 : Int32) (x5 : Int32) (x6 : Int32) (z0 : Int32) (z1 : Int32) (s : St) : Option (Int32 × St) :=
  grd (inb z1 512) <|
  bnd (setA s 55 (ix z1) z0) fun s2 =>
  k6 x2 x3 x4 x5 (x6 + (1 : Int32)) s2
set_option maxRecDepth 100000 in
theorem e_evalAt_144 {g : GT} {n : Nat} (hw : HW g) {K : St → MHeap} {o : Nat} {r : Nat → Nat} (V : View (GG g) Ln K o r) {k6 : Int32 → Int32 → Int32 → Int32 → Int32 → St → Option (Int32 × St)} (hk6 : ∀ (x2 : Int32) (x3 : Int32) (x4 : Int32) (x5 : Int32) (x6 : Int32) (s : St) (y1 : Slot) (hy1 : one1 y1 = true) (y7 : Slot) (hy7 : one1 y7 = true) (w : Int32 × St), k6 x2 x3 x4 x5 x6 s = some w → Ev (GG g) M_evalAt 6 [.val (.ref o), y1, .val (.int x2), .val (.int x3), .val (.int x4), .val (.int x5), .val (.int x6), y7] [] (K s) ((some (.int w.1)), (K w.2))) (x2 : Int32) (x3 : Int32) (x4 : Int32) (x5 : Int32) (x6 : Int32) (z0 : Int32) (z1 : Int32) (s : St) (y1 : Slot) (hy1 : one1 y1 = true) (y7 : Slot) (hy7 : one1 y7 = true) (w : Int32 × St) (hr : f_evalAt_144 n k6 x2 x3 x4 x5 x6 z0 z1 s = some w) : Ev (GG g) M_evalAt 144 [.val (.ref o), y1, .val (.int x2), .val (.int x3), .val (.int x4), .val (.int x5), .val (.int x6), y7] [.int z0, .int z1, .ref (r 55)] (K s) ((some (.int w.1)), (K w.2)) := by
  unfold f_evalAt_144 at hr
  obtain ⟨b1, hr⟩ := grd_some hr
  refine Ev.ias V (j := 55) rfl rfl (d31 71 rfl) b1 ?_
  revert hr
  generalize setA s 55 (ix z1) z0 = s2
  intro hr
  replace hr := (bnd_eq _ _).symm.trans hr
  refine Ev.goto (t := 188) (d31 72 rfl) rfl ?_
  refine Ev.iinc (z := 1) (L' := [.val (.ref o), y1, .val (.int x2), .val (.int x3), .val (.int x4), .val (.int x5), .val (.int (x6 + (1 : Int32))), y7]) (d31 96 rfl) rfl rfl rfl ?_
  refine Ev.goto (t := 6) (d31 97 rfl) rfl ?_
  exact hk6 x2 x3 x4 x5 (x6 + (1 : Int32)) s2 y1 hy1 y7 hy7 _ hr
def f_evalAt_6 (n : Nat) : Nat → Int32 → Int32 → Int32 → Int32 → Int32 → St → Option (Int32 × St)
  | 0 => fun _ _ _ _ _ _ => none
  | k + 1 => fun x2 x3 x4 x5 x6 s =>
    if x6 < (s.1 63) then
      if x6 < 0 then
        f_evalAt_194 n x5 s
      else
        grd (inb x6 512) <|
        if (s.2 40 (ix x6)) = 0 then
          f_evalAt_194 n x5 s
        else
          if (s.2 40 (ix x6)) = (1 : Int32) then
            f_evalAt_66 n (f_evalAt_6 n k) x2 x3 x4 x5 x6 (s.2 40 (ix x6)) s
          else
            if (s.2 40 (ix x6)) = (2 : Int32) then
              f_evalAt_66 n (f_evalAt_6 n k) x2 x3 x4 x5 x6 (s.2 40 (ix x6)) s
            else
              if (s.2 40 (ix x6)) = (8 : Int32) then
                f_evalAt_66 n (f_evalAt_6 n k) x2 x3 x4 x5 x6 (s.2 40 (ix x6)) s
              else
                if (s.2 40 (ix x6)) = (9 : Int32) then
                  f_evalAt_66 n (f_evalAt_6 n k) x2 x3 x4 x5 x6 (s.2 40 (ix x6)) s
                else
                  if (s.2 40 (ix x6)) = (10 : Int32) then
                    if 0 < x5 then
                      grd (inb (x5 - (1 : Int32)) 512) <|
                      if (s.2 55 (ix (x5 - (1 : Int32)))) = 0 then
                        f_evalAt_144 n (f_evalAt_6 n k) x2 x3 x4 x5 x6 (1 : Int32) (x5 - (1 : Int32)) s
                      else
                        f_evalAt_144 n (f_evalAt_6 n k) x2 x3 x4 x5 x6 (0 : Int32) (x5 - (1 : Int32)) s
                    else
                      f_evalAt_6 n k x2 x3 x4 x5 (x6 + (1 : Int32)) s
                  else
                    if x5 < (2 : Int32) then
                      f_evalAt_6 n k x2 x3 x4 x5 (x6 + (1 : Int32)) s
                    else
                      grd (inb ((x5 + (-1 : Int32)) - (1 : Int32)) 512) <|
                      grd (inb (x5 + (-1 : Int32)) 512) <|
                      (f_binary s (s.2 40 (ix x6)) (s.2 55 (ix ((x5 + (-1 : Int32)) - (1 : Int32)))) (s.2 55 (ix (x5 + (-1 : Int32))))).bind fun q16 =>
                      bnd (setA s 55 (ix ((x5 + (-1 : Int32)) - (1 : Int32))) q16) fun s18 =>
                      f_evalAt_6 n k x2 x3 x4 (x5 + (-1 : Int32)) (x6 + (1 : Int32)) s18
    else
      f_evalAt_194 n x5 s
set_option maxRecDepth 100000 in
theorem e_evalAt_6 {g : GT} {n : Nat} (hw : HW g) {K : St → MHeap} {o : Nat} {r : Nat → Nat} (V : View (GG g) Ln K o r) (k : Nat) : ∀ (x2 : Int32) (x3 : Int32) (x4 : Int32) (x5 : Int32) (x6 : Int32) (s : St) (y1 : Slot) (hy1 : one1 y1 = true) (y7 : Slot) (hy7 : one1 y7 = true) (w : Int32 × St), f_evalAt_6 n k x2 x3 x4 x5 x6 s = some w → Ev (GG g) M_evalAt 6 [.val (.ref o), y1, .val (.int x2), .val (.int x3), .val (.int x4), .val (.int x5), .val (.int x6), y7] [] (K s) ((some (.int w.1)), (K w.2)) := by
  induction k with
  | zero => intro x2 x3 x4 x5 x6 s y1 hy1 y7 hy7 w hr; rw [f_evalAt_6] at hr; cases hr
  | succ k ih =>
    intro x2 x3 x4 x5 x6 s y1 hy1 y7 hy7 w hr
    rw [f_evalAt_6] at hr
    refine Ev.iload (d31 4 rfl) rfl ?_
    refine Ev.aloadN (d31 5 rfl) rfl ?_
    refine Ev.gI V (ww hw 166 rfl) (d31 6 rfl) (j := 63) rfl rfl ?_
    refine Ev.icge (t := 194) (d31 7 rfl) rfl (fun c1 => ?_) (fun c1 => ?_)
    · replace hr := (if_pos c1).symm.trans hr
      refine Ev.iload (d31 8 rfl) rfl ?_
      refine Ev.ifge (t := 23) (d31 9 rfl) rfl (fun c2 => ?_) (fun c2 => ?_)
      · replace hr := (if_pos c2).symm.trans hr
        refine Ev.goto (t := 194) (d31 10 rfl) rfl ?_
        exact e_evalAt_194 hw V  x5 s y1 hy1 (.val (.int x2)) rfl (.val (.int x3)) rfl (.val (.int x4)) rfl (.val (.int x6)) rfl y7 hy7 _ hr
      · replace hr := (if_neg c2).symm.trans hr
        refine Ev.aloadN (d31 11 rfl) rfl ?_
        refine Ev.gAr V (ww hw 94 rfl) (d31 12 rfl) (j := 40) rfl ?_
        refine Ev.iload (d31 13 rfl) rfl ?_
        obtain ⟨b3, hr⟩ := grd_some hr
        refine Ev.ial V (j := 40) rfl rfl (d31 14 rfl) b3 ?_
        refine Ev.istD (L' := [.val (.ref o), y1, .val (.int x2), .val (.int x3), .val (.int x4), .val (.int x5), .val (.int x6), .val (.int (s.2 40 (ix x6)))]) (d31 15 rfl) rfl hy7 rfl ?_
        refine Ev.iload (d31 16 rfl) rfl ?_
        refine Ev.ifne (t := 40) (d31 17 rfl) rfl (fun c4 => ?_) (fun c4 => ?_)
        · replace hr := (if_pos c4).symm.trans hr
          refine Ev.goto (t := 194) (d31 18 rfl) rfl ?_
          exact e_evalAt_194 hw V  x5 s y1 hy1 (.val (.int x2)) rfl (.val (.int x3)) rfl (.val (.int x4)) rfl (.val (.int x6)) rfl (.val (.int (s.2 40 (ix x6)))) rfl _ hr
        · replace hr := (if_neg c4).symm.trans hr
          refine Ev.iload (d31 19 rfl) rfl ?_
          refine Ev.iconst (z := 1) (d31 20 rfl) rfl ?_
          refine Ev.iceq (t := 66) (d31 21 rfl) rfl (fun c5 => ?_) (fun c5 => ?_)
          · replace hr := (if_pos c5).symm.trans hr
            exact e_evalAt_66 hw V ih x2 x3 x4 x5 x6 (s.2 40 (ix x6)) s y1 hy1 _ hr
          · replace hr := (if_neg c5).symm.trans hr
            refine Ev.iload (d31 22 rfl) rfl ?_
            refine Ev.iconst (z := 2) (d31 23 rfl) rfl ?_
            refine Ev.iceq (t := 66) (d31 24 rfl) rfl (fun c6 => ?_) (fun c6 => ?_)
            · replace hr := (if_pos c6).symm.trans hr
              exact e_evalAt_66 hw V ih x2 x3 x4 x5 x6 (s.2 40 (ix x6)) s y1 hy1 _ hr
            · replace hr := (if_neg c6).symm.trans hr
              refine Ev.iload (d31 25 rfl) rfl ?_
              refine Ev.bipush (z := 8) (d31 26 rfl) rfl ?_
              refine Ev.iceq (t := 66) (d31 27 rfl) rfl (fun c7 => ?_) (fun c7 => ?_)
              · replace hr := (if_pos c7).symm.trans hr
                exact e_evalAt_66 hw V ih x2 x3 x4 x5 x6 (s.2 40 (ix x6)) s y1 hy1 _ hr
              · replace hr := (if_neg c7).symm.trans hr
                refine Ev.iload (d31 28 rfl) rfl ?_
                refine Ev.bipush (z := 9) (d31 29 rfl) rfl ?_
                refine Ev.icne (t := 107) (d31 30 rfl) rfl (fun c8 => ?_) (fun c8 => ?_)
                · replace hr := (if_pos c8).symm.trans hr
                  exact e_evalAt_66 hw V ih x2 x3 x4 x5 x6 (s.2 40 (ix x6)) s y1 hy1 _ hr
                · replace hr := (if_neg c8).symm.trans hr
                  refine Ev.iload (d31 51 rfl) rfl ?_
                  refine Ev.bipush (z := 10) (d31 52 rfl) rfl ?_
                  refine Ev.icne (t := 148) (d31 53 rfl) rfl (fun c9 => ?_) (fun c9 => ?_)
                  · replace hr := (if_pos c9).symm.trans hr
                    refine Ev.iload (d31 54 rfl) rfl ?_
                    refine Ev.ifle (t := 188) (d31 55 rfl) rfl (fun c10 => ?_) (fun c10 => ?_)
                    · replace hr := (if_pos c10).symm.trans hr
                      refine Ev.aloadN (d31 56 rfl) rfl ?_
                      refine Ev.gAr V (ww hw 124 rfl) (d31 57 rfl) (j := 55) rfl ?_
                      refine Ev.iload (d31 58 rfl) rfl ?_
                      refine Ev.iconst (z := 1) (d31 59 rfl) rfl ?_
                      refine Ev.isub (d31 60 rfl) ?_
                      refine Ev.aloadN (d31 61 rfl) rfl ?_
                      refine Ev.gAr V (ww hw 124 rfl) (d31 62 rfl) (j := 55) rfl ?_
                      refine Ev.iload (d31 63 rfl) rfl ?_
                      refine Ev.iconst (z := 1) (d31 64 rfl) rfl ?_
                      refine Ev.isub (d31 65 rfl) ?_
                      obtain ⟨b11, hr⟩ := grd_some hr
                      refine Ev.ial V (j := 55) rfl rfl (d31 66 rfl) b11 ?_
                      refine Ev.ifne (t := 143) (d31 67 rfl) rfl (fun c12 => ?_) (fun c12 => ?_)
                      · replace hr := (if_pos c12).symm.trans hr
                        refine Ev.iconst (z := 1) (d31 68 rfl) rfl ?_
                        refine Ev.goto (t := 144) (d31 69 rfl) rfl ?_
                        exact e_evalAt_144 hw V ih x2 x3 x4 x5 x6 (1 : Int32) (x5 - (1 : Int32)) s y1 hy1 (.val (.int (s.2 40 (ix x6)))) rfl _ hr
                      · replace hr := (if_neg c12).symm.trans hr
                        refine Ev.iconst (z := 0) (d31 70 rfl) rfl ?_
                        exact e_evalAt_144 hw V ih x2 x3 x4 x5 x6 (0 : Int32) (x5 - (1 : Int32)) s y1 hy1 (.val (.int (s.2 40 (ix x6)))) rfl _ hr
                    · replace hr := (if_neg c10).symm.trans hr
                      refine Ev.iinc (z := 1) (L' := [.val (.ref o), y1, .val (.int x2), .val (.int x3), .val (.int x4), .val (.int x5), .val (.int (x6 + (1 : Int32))), .val (.int (s.2 40 (ix x6)))]) (d31 96 rfl) rfl rfl rfl ?_
                      refine Ev.goto (t := 6) (d31 97 rfl) rfl ?_
                      exact ih x2 x3 x4 x5 (x6 + (1 : Int32)) s y1 hy1 (.val (.int (s.2 40 (ix x6)))) rfl _ hr
                  · replace hr := (if_neg c9).symm.trans hr
                    refine Ev.iload (d31 73 rfl) rfl ?_
                    refine Ev.iconst (z := 2) (d31 74 rfl) rfl ?_
                    refine Ev.iclt (t := 188) (d31 75 rfl) rfl (fun c13 => ?_) (fun c13 => ?_)
                    · replace hr := (if_pos c13).symm.trans hr
                      refine Ev.iinc (z := 1) (L' := [.val (.ref o), y1, .val (.int x2), .val (.int x3), .val (.int x4), .val (.int x5), .val (.int (x6 + (1 : Int32))), .val (.int (s.2 40 (ix x6)))]) (d31 96 rfl) rfl rfl rfl ?_
                      refine Ev.goto (t := 6) (d31 97 rfl) rfl ?_
                      exact ih x2 x3 x4 x5 (x6 + (1 : Int32)) s y1 hy1 (.val (.int (s.2 40 (ix x6)))) rfl _ hr
                    · replace hr := (if_neg c13).symm.trans hr
                      refine Ev.iinc (z := -1) (L' := [.val (.ref o), y1, .val (.int x2), .val (.int x3), .val (.int x4), .val (.int (x5 + (-1 : Int32))), .val (.int x6), .val (.int (s.2 40 (ix x6)))]) (d31 76 rfl) rfl rfl rfl ?_
                      refine Ev.aloadN (d31 77 rfl) rfl ?_
                      refine Ev.gAr V (ww hw 124 rfl) (d31 78 rfl) (j := 55) rfl ?_
                      refine Ev.iload (d31 79 rfl) rfl ?_
                      refine Ev.iconst (z := 1) (d31 80 rfl) rfl ?_
                      refine Ev.isub (d31 81 rfl) ?_
                      refine Ev.aloadN (d31 82 rfl) rfl ?_
                      refine Ev.iload (d31 83 rfl) rfl ?_
                      refine Ev.aloadN (d31 84 rfl) rfl ?_
                      refine Ev.gAr V (ww hw 124 rfl) (d31 85 rfl) (j := 55) rfl ?_
                      refine Ev.iload (d31 86 rfl) rfl ?_
                      refine Ev.iconst (z := 1) (d31 87 rfl) rfl ?_
                      refine Ev.isub (d31 88 rfl) ?_
                      obtain ⟨b14, hr⟩ := grd_some hr
                      refine Ev.ial V (j := 55) rfl rfl (d31 89 rfl) b14 ?_
                      refine Ev.aloadN (d31 90 rfl) rfl ?_
                      refine Ev.gAr V (ww hw 124 rfl) (d31 91 rfl) (j := 55) rfl ?_
                      refine Ev.iload (d31 92 rfl) rfl ?_
                      obtain ⟨b15, hr⟩ := grd_some hr
                      refine Ev.ial V (j := 55) rfl rfl (d31 93 rfl) b15 ?_
                      obtain ⟨q16, hq17, hr⟩ := Option.bind_eq_some_iff.mp hr
                      refine Ev.priv (y := M_binary) (args := [.int (s.2 40 (ix x6)), .int (s.2 55 (ix ((x5 + (-1 : Int32)) - (1 : Int32)))), .int (s.2 55 (ix (x5 + (-1 : Int32))))]) (rest := [.int ((x5 + (-1 : Int32)) - (1 : Int32)), .ref (r 55)]) (gok hw) rfl nm_binary (ww hw 281 rfl) (ww hw 282 rfl) (ww hw 283 rfl) (ww hw 284 rfl) (lenOf pd_binary rfl) (d31 94 rfl) (V.2.1 s) (e_binary hw V hq17) (by decide) (Nat.le_of_ble_eq_true rfl) rfl ?_
                      refine Ev.ias V (j := 55) rfl rfl (d31 95 rfl) b14 ?_
                      revert hr
                      generalize setA s 55 (ix ((x5 + (-1 : Int32)) - (1 : Int32))) q16 = s18
                      intro hr
                      replace hr := (bnd_eq _ _).symm.trans hr
                      refine Ev.iinc (z := 1) (L' := [.val (.ref o), y1, .val (.int x2), .val (.int x3), .val (.int x4), .val (.int (x5 + (-1 : Int32))), .val (.int (x6 + (1 : Int32))), .val (.int (s.2 40 (ix x6)))]) (d31 96 rfl) rfl rfl rfl ?_
                      refine Ev.goto (t := 6) (d31 97 rfl) rfl ?_
                      exact ih x2 x3 x4 (x5 + (-1 : Int32)) (x6 + (1 : Int32)) s18 y1 hy1 (.val (.int (s.2 40 (ix x6)))) rfl _ hr
    · replace hr := (if_neg c1).symm.trans hr
      exact e_evalAt_194 hw V  x5 s y1 hy1 (.val (.int x2)) rfl (.val (.int x3)) rfl (.val (.int x4)) rfl (.val (.int x6)) rfl y7 hy7 _ hr
def f_evalAt (n : Nat) (a0 : Int32) (a1 : Int32) (a2 : Int32) (a3 : Int32) (s : St) : Option (Int32 × St) :=
  f_evalAt_6 n n a1 a2 a3 (0 : Int32) a0 s
set_option maxRecDepth 100000 in
theorem e_evalAt {g : GT} {n : Nat} {a0 : Int32} {a1 : Int32} {a2 : Int32} {a3 : Int32} {s : St} {w : Int32 × St} (hw : HW g) {K : St → MHeap} {o : Nat} {r : Nat → Nat} (V : View (GG g) Ln K o r) (hr : f_evalAt n a0 a1 a2 a3 s = some w) : EvC (GG g) M_evalAt [.ref o, .int a0, .int a1, .int a2, .int a3] (K s) ((some (.int w.1)), (K w.2)) := by
  refine EvC.enter (L0 := [.val (.ref o), .val (.int a0), .val (.int a1), .val (.int a2), .val (.int a3), .unset, .unset, .unset]) pl_evalAt (fun h => nomatch h) rfl rfl ?_
  unfold f_evalAt at hr
  refine Ev.iconst (z := 0) (d31 0 rfl) rfl ?_
  refine Ev.istD (L' := [.val (.ref o), .val (.int a0), .val (.int a1), .val (.int a2), .val (.int a3), .val (.int (0 : Int32)), .unset, .unset]) (d31 1 rfl) rfl rfl rfl ?_
  refine Ev.iloadN (d31 2 rfl) rfl ?_
  refine Ev.istD (L' := [.val (.ref o), .val (.int a0), .val (.int a1), .val (.int a2), .val (.int a3), .val (.int (0 : Int32)), .val (.int a0), .unset]) (d31 3 rfl) rfl rfl rfl ?_
  exact e_evalAt_6 hw V  n a1 a2 a3 (0 : Int32) a0 s (.val (.int a0)) rfl .unset rfl _ hr
def f_evalF (n : Nat) (a0 : Int32) (a1 : Int32) (a2 : Int32) (a3 : Int32) (s : St) : Option (Int32 × St) :=
  if a0 < 0 then
    some ((0 : Int32), s)
  else
    if a0 < (160 : Int32) then
      grd (inb a0 160) <|
      (f_evalAt n (s.2 42 (ix a0)) a1 a2 a3 s).bind fun q4 =>
      some (q4.1, q4.2)
    else
      some ((0 : Int32), s)
set_option maxRecDepth 100000 in
theorem e_evalF {g : GT} {n : Nat} {a0 : Int32} {a1 : Int32} {a2 : Int32} {a3 : Int32} {s : St} {w : Int32 × St} (hw : HW g) {K : St → MHeap} {o : Nat} {r : Nat → Nat} (V : View (GG g) Ln K o r) (hr : f_evalF n a0 a1 a2 a3 s = some w) : EvC (GG g) M_evalF [.ref o, .int a0, .int a1, .int a2, .int a3] (K s) ((some (.int w.1)), (K w.2)) := by
  refine EvC.enter (L0 := [.val (.ref o), .val (.int a0), .val (.int a1), .val (.int a2), .val (.int a3)]) pl_evalF (fun h => nomatch h) rfl rfl ?_
  unfold f_evalF at hr
  refine Ev.iloadN (d30 0 rfl) rfl ?_
  refine Ev.iflt (t := 11) (d30 1 rfl) rfl (fun c1 => ?_) (fun c1 => ?_)
  · replace hr := (if_pos c1).symm.trans hr
    refine Ev.iconst (z := 0) (d30 5 rfl) rfl ?_
    cases hr
    exact Ev.ireturn rfl (d30 6 rfl)
  · replace hr := (if_neg c1).symm.trans hr
    refine Ev.iloadN (d30 2 rfl) rfl ?_
    refine Ev.sipush (z := 160) (d30 3 rfl) rfl ?_
    refine Ev.iclt (t := 13) (d30 4 rfl) rfl (fun c2 => ?_) (fun c2 => ?_)
    · replace hr := (if_pos c2).symm.trans hr
      refine Ev.aloadN (d30 7 rfl) rfl ?_
      refine Ev.aloadN (d30 8 rfl) rfl ?_
      refine Ev.gAr V (ww hw 98 rfl) (d30 9 rfl) (j := 42) rfl ?_
      refine Ev.iloadN (d30 10 rfl) rfl ?_
      obtain ⟨b3, hr⟩ := grd_some hr
      refine Ev.ial V (j := 42) rfl rfl (d30 11 rfl) b3 ?_
      refine Ev.iloadN (d30 12 rfl) rfl ?_
      refine Ev.iloadN (d30 13 rfl) rfl ?_
      refine Ev.iload (d30 14 rfl) rfl ?_
      obtain ⟨q4, hq5, hr⟩ := Option.bind_eq_some_iff.mp hr
      refine Ev.priv (y := M_evalAt) (args := [.int (s.2 42 (ix a0)), .int a1, .int a2, .int a3]) (rest := []) (gok hw) rfl nm_evalAt (ww hw 273 rfl) (ww hw 274 rfl) (ww hw 275 rfl) (ww hw 276 rfl) (lenOf pd_evalAt rfl) (d30 15 rfl) (V.2.1 s) (e_evalAt hw V hq5) (by decide) (Nat.le_of_ble_eq_true rfl) rfl ?_
      cases hr
      exact Ev.ireturn rfl (d30 16 rfl)
    · replace hr := (if_neg c2).symm.trans hr
      refine Ev.iconst (z := 0) (d30 5 rfl) rfl ?_
      cases hr
      exact Ev.ireturn rfl (d30 6 rfl)
def f_advance_4 (n : Nat) (s : St) : Nat → Int32 → Int32 → Option (Int32)
  | 0 => fun _ _ => none
  | k + 1 => fun x2 x3 =>
    if x3 < (70 : Int32) then
      if x2 < 0 then
        some (-1 : Int32)
      else
        if x2 < (s.1 64) then
          grd (inb x2 64) <|
          if (s.2 47 (ix x2)) = (-1 : Int32) then
            if (s.2 48 (ix x2)) < 0 then
              some (-1 : Int32)
            else
              if (s.2 48 (ix x2)) < (s.1 64) then
                grd (inb (s.2 48 (ix x2)) 64) <|
                if (s.2 43 (ix (s.2 48 (ix x2)))) = (2 : Int32) then
                  some ((-2 : Int32) - (s.2 48 (ix x2)))
                else
                  f_advance_4 n s k (s.2 48 (ix x2)) (x3 + (1 : Int32))
              else
                some (-1 : Int32)
          else
            some (s.2 47 (ix x2))
        else
          some (-1 : Int32)
    else
      some (-1 : Int32)
set_option maxRecDepth 100000 in
theorem e_advance_4 {g : GT} {n : Nat} {s : St} (hw : HW g) {K : St → MHeap} {o : Nat} {r : Nat → Nat} (V : View (GG g) Ln K o r) (k : Nat) : ∀ (x2 : Int32) (x3 : Int32) (y1 : Slot) (hy1 : one1 y1 = true) (y4 : Slot) (hy4 : one1 y4 = true) (w : Int32), f_advance_4 n s k x2 x3 = some w → Ev (GG g) M_advance 4 [.val (.ref o), y1, .val (.int x2), .val (.int x3), y4] [] (K s) ((some (.int w)), (K s)) := by
  induction k with
  | zero => intro x2 x3 y1 hy1 y4 hy4 w hr; rw [f_advance_4] at hr; cases hr
  | succ k ih =>
    intro x2 x3 y1 hy1 y4 hy4 w hr
    rw [f_advance_4] at hr
    refine Ev.iloadN (d37 4 rfl) rfl ?_
    refine Ev.bipush (z := 70) (d37 5 rfl) rfl ?_
    refine Ev.icge (t := 91) (d37 6 rfl) rfl (fun c1 => ?_) (fun c1 => ?_)
    · replace hr := (if_pos c1).symm.trans hr
      refine Ev.iloadN (d37 7 rfl) rfl ?_
      refine Ev.iflt (t := 22) (d37 8 rfl) rfl (fun c2 => ?_) (fun c2 => ?_)
      · replace hr := (if_pos c2).symm.trans hr
        refine Ev.iconst (z := -1) (d37 13 rfl) rfl ?_
        cases hr
        exact Ev.ireturn rfl (d37 14 rfl)
      · replace hr := (if_neg c2).symm.trans hr
        refine Ev.iloadN (d37 9 rfl) rfl ?_
        refine Ev.aloadN (d37 10 rfl) rfl ?_
        refine Ev.gI V (ww hw 168 rfl) (d37 11 rfl) (j := 64) rfl rfl ?_
        refine Ev.iclt (t := 24) (d37 12 rfl) rfl (fun c3 => ?_) (fun c3 => ?_)
        · replace hr := (if_pos c3).symm.trans hr
          refine Ev.aloadN (d37 15 rfl) rfl ?_
          refine Ev.gAr V (ww hw 108 rfl) (d37 16 rfl) (j := 47) rfl ?_
          refine Ev.iloadN (d37 17 rfl) rfl ?_
          obtain ⟨b4, hr⟩ := grd_some hr
          refine Ev.ial V (j := 47) rfl rfl (d37 18 rfl) b4 ?_
          refine Ev.iconst (z := -1) (d37 19 rfl) rfl ?_
          refine Ev.iceq (t := 41) (d37 20 rfl) rfl (fun c5 => ?_) (fun c5 => ?_)
          · replace hr := (if_pos c5).symm.trans hr
            refine Ev.aloadN (d37 26 rfl) rfl ?_
            refine Ev.gAr V (ww hw 110 rfl) (d37 27 rfl) (j := 48) rfl ?_
            refine Ev.iloadN (d37 28 rfl) rfl ?_
            refine Ev.ial V (j := 48) rfl rfl (d37 29 rfl) b4 ?_
            refine Ev.istD (L' := [.val (.ref o), y1, .val (.int x2), .val (.int x3), .val (.int (s.2 48 (ix x2)))]) (d37 30 rfl) rfl hy4 rfl ?_
            refine Ev.iload (d37 31 rfl) rfl ?_
            refine Ev.iflt (t := 63) (d37 32 rfl) rfl (fun c6 => ?_) (fun c6 => ?_)
            · replace hr := (if_pos c6).symm.trans hr
              refine Ev.iconst (z := -1) (d37 37 rfl) rfl ?_
              cases hr
              exact Ev.ireturn rfl (d37 38 rfl)
            · replace hr := (if_neg c6).symm.trans hr
              refine Ev.iload (d37 33 rfl) rfl ?_
              refine Ev.aloadN (d37 34 rfl) rfl ?_
              refine Ev.gI V (ww hw 168 rfl) (d37 35 rfl) (j := 64) rfl rfl ?_
              refine Ev.iclt (t := 65) (d37 36 rfl) rfl (fun c7 => ?_) (fun c7 => ?_)
              · replace hr := (if_pos c7).symm.trans hr
                refine Ev.aloadN (d37 39 rfl) rfl ?_
                refine Ev.gAr V (ww hw 100 rfl) (d37 40 rfl) (j := 43) rfl ?_
                refine Ev.iload (d37 41 rfl) rfl ?_
                obtain ⟨b8, hr⟩ := grd_some hr
                refine Ev.ial V (j := 43) rfl rfl (d37 42 rfl) b8 ?_
                refine Ev.iconst (z := 2) (d37 43 rfl) rfl ?_
                refine Ev.icne (t := 82) (d37 44 rfl) rfl (fun c9 => ?_) (fun c9 => ?_)
                · replace hr := (if_pos c9).symm.trans hr
                  refine Ev.bipush (z := -2) (d37 45 rfl) rfl ?_
                  refine Ev.iload (d37 46 rfl) rfl ?_
                  refine Ev.isub (d37 47 rfl) ?_
                  obtain rfl := Option.some.inj hr
                  exact Ev.ireturn rfl (d37 48 rfl)
                · replace hr := (if_neg c9).symm.trans hr
                  refine Ev.iload (d37 49 rfl) rfl ?_
                  refine Ev.istDN (L' := [.val (.ref o), y1, .val (.int (s.2 48 (ix x2))), .val (.int x3), .val (.int (s.2 48 (ix x2)))]) (d37 50 rfl) rfl rfl rfl ?_
                  refine Ev.iinc (z := 1) (L' := [.val (.ref o), y1, .val (.int (s.2 48 (ix x2))), .val (.int (x3 + (1 : Int32))), .val (.int (s.2 48 (ix x2)))]) (d37 51 rfl) rfl rfl rfl ?_
                  refine Ev.goto (t := 4) (d37 52 rfl) rfl ?_
                  exact ih (s.2 48 (ix x2)) (x3 + (1 : Int32)) y1 hy1 (.val (.int (s.2 48 (ix x2)))) rfl _ hr
              · replace hr := (if_neg c7).symm.trans hr
                refine Ev.iconst (z := -1) (d37 37 rfl) rfl ?_
                cases hr
                exact Ev.ireturn rfl (d37 38 rfl)
          · replace hr := (if_neg c5).symm.trans hr
            refine Ev.aloadN (d37 21 rfl) rfl ?_
            refine Ev.gAr V (ww hw 108 rfl) (d37 22 rfl) (j := 47) rfl ?_
            refine Ev.iloadN (d37 23 rfl) rfl ?_
            refine Ev.ial V (j := 47) rfl rfl (d37 24 rfl) b4 ?_
            cases hr
            exact Ev.ireturn rfl (d37 25 rfl)
        · replace hr := (if_neg c3).symm.trans hr
          refine Ev.iconst (z := -1) (d37 13 rfl) rfl ?_
          cases hr
          exact Ev.ireturn rfl (d37 14 rfl)
    · replace hr := (if_neg c1).symm.trans hr
      refine Ev.iconst (z := -1) (d37 53 rfl) rfl ?_
      cases hr
      exact Ev.ireturn rfl (d37 54 rfl)
def f_advance (n : Nat) (s : St) (a0 : Int32) : Option (Int32) :=
  f_advance_4 n s n a0 (0 : Int32)
set_option maxRecDepth 100000 in
theorem e_advance {g : GT} {n : Nat} {s : St} {a0 : Int32} {w : Int32} (hw : HW g) {K : St → MHeap} {o : Nat} {r : Nat → Nat} (V : View (GG g) Ln K o r) (hr : f_advance n s a0 = some w) : EvC (GG g) M_advance [.ref o, .int a0] (K s) ((some (.int w)), (K s)) := by
  refine EvC.enter (L0 := [.val (.ref o), .val (.int a0), .unset, .unset, .unset]) pl_advance (fun h => nomatch h) rfl rfl ?_
  unfold f_advance at hr
  refine Ev.iloadN (d37 0 rfl) rfl ?_
  refine Ev.istDN (L' := [.val (.ref o), .val (.int a0), .val (.int a0), .unset, .unset]) (d37 1 rfl) rfl rfl rfl ?_
  refine Ev.iconst (z := 0) (d37 2 rfl) rfl ?_
  refine Ev.istDN (L' := [.val (.ref o), .val (.int a0), .val (.int a0), .val (.int (0 : Int32)), .unset]) (d37 3 rfl) rfl rfl rfl ?_
  exact e_advance_4 hw V  n a0 (0 : Int32) (.val (.int a0)) rfl .unset rfl _ hr
def f_enter_33 (n : Nat) (s : St) (x1 : Int32) (z0 : Int32) : Option (Int32) :=
  if z0 = (-1 : Int32) then
    grd (inb x1 64) <|
    if (s.2 43 (ix x1)) = (2 : Int32) then
      some ((-2 : Int32) - x1)
    else
      (f_advance n s x1).bind fun q4 =>
      some q4
  else
    some z0
set_option maxRecDepth 100000 in
theorem e_enter_33 {g : GT} {n : Nat} {s : St} (hw : HW g) {K : St → MHeap} {o : Nat} {r : Nat → Nat} (V : View (GG g) Ln K o r) (x1 : Int32) (z0 : Int32) (y2 : Slot) (hy2 : one1 y2 = true) (y3 : Slot) (hy3 : one1 y3 = true) (w : Int32) (hr : f_enter_33 n s x1 z0 = some w) : Ev (GG g) M_enter 33 [.val (.ref o), .val (.int x1), y2, y3] [.int z0] (K s) ((some (.int w)), (K s)) := by
  unfold f_enter_33 at hr
  refine Ev.istDN (L' := [.val (.ref o), .val (.int x1), y2, .val (.int z0)]) (d35 19 rfl) rfl hy3 rfl ?_
  refine Ev.iloadN (d35 20 rfl) rfl ?_
  refine Ev.iconst (z := -1) (d35 21 rfl) rfl ?_
  refine Ev.iceq (t := 41) (d35 22 rfl) rfl (fun c1 => ?_) (fun c1 => ?_)
  · replace hr := (if_pos c1).symm.trans hr
    refine Ev.aloadN (d35 25 rfl) rfl ?_
    refine Ev.gAr V (ww hw 100 rfl) (d35 26 rfl) (j := 43) rfl ?_
    refine Ev.iloadN (d35 27 rfl) rfl ?_
    obtain ⟨b2, hr⟩ := grd_some hr
    refine Ev.ial V (j := 43) rfl rfl (d35 28 rfl) b2 ?_
    refine Ev.iconst (z := 2) (d35 29 rfl) rfl ?_
    refine Ev.icne (t := 56) (d35 30 rfl) rfl (fun c3 => ?_) (fun c3 => ?_)
    · replace hr := (if_pos c3).symm.trans hr
      refine Ev.bipush (z := -2) (d35 31 rfl) rfl ?_
      refine Ev.iloadN (d35 32 rfl) rfl ?_
      refine Ev.isub (d35 33 rfl) ?_
      obtain rfl := Option.some.inj hr
      exact Ev.ireturn rfl (d35 34 rfl)
    · replace hr := (if_neg c3).symm.trans hr
      refine Ev.aloadN (d35 35 rfl) rfl ?_
      refine Ev.iloadN (d35 36 rfl) rfl ?_
      obtain ⟨q4, hq5, hr⟩ := Option.bind_eq_some_iff.mp hr
      refine Ev.priv (y := M_advance) (args := [.int x1]) (rest := []) (gok hw) rfl nm_advance (ww hw 298 rfl) (ww hw 299 rfl) (ww hw 300 rfl) (ww hw 301 rfl) (lenOf pd_advance rfl) (d35 37 rfl) (V.2.1 s) (e_advance hw V hq5) (by decide) (Nat.le_of_ble_eq_true rfl) rfl ?_
      cases hr
      exact Ev.ireturn rfl (d35 38 rfl)
  · replace hr := (if_neg c1).symm.trans hr
    refine Ev.iloadN (d35 23 rfl) rfl ?_
    cases hr
    exact Ev.ireturn rfl (d35 24 rfl)
def f_enter (n : Nat) (s : St) (a0 : Int32) (a1 : Int32) : Option (Int32) :=
  if a0 < 0 then
    some (-1 : Int32)
  else
    if a0 < (s.1 64) then
      if a1 = 0 then
        grd (inb a0 64) <|
        f_enter_33 n s a0 (s.2 45 (ix a0))
      else
        grd (inb a0 64) <|
        f_enter_33 n s a0 (s.2 46 (ix a0))
    else
      some (-1 : Int32)
set_option maxRecDepth 100000 in
theorem e_enter {g : GT} {n : Nat} {s : St} {a0 : Int32} {a1 : Int32} {w : Int32} (hw : HW g) {K : St → MHeap} {o : Nat} {r : Nat → Nat} (V : View (GG g) Ln K o r) (hr : f_enter n s a0 a1 = some w) : EvC (GG g) M_enter [.ref o, .int a0, .int a1] (K s) ((some (.int w)), (K s)) := by
  refine EvC.enter (L0 := [.val (.ref o), .val (.int a0), .val (.int a1), .unset]) pl_enter (fun h => nomatch h) rfl rfl ?_
  unfold f_enter at hr
  refine Ev.iloadN (d35 0 rfl) rfl ?_
  refine Ev.iflt (t := 12) (d35 1 rfl) rfl (fun c1 => ?_) (fun c1 => ?_)
  · replace hr := (if_pos c1).symm.trans hr
    refine Ev.iconst (z := -1) (d35 6 rfl) rfl ?_
    cases hr
    exact Ev.ireturn rfl (d35 7 rfl)
  · replace hr := (if_neg c1).symm.trans hr
    refine Ev.iloadN (d35 2 rfl) rfl ?_
    refine Ev.aloadN (d35 3 rfl) rfl ?_
    refine Ev.gI V (ww hw 168 rfl) (d35 4 rfl) (j := 64) rfl rfl ?_
    refine Ev.iclt (t := 14) (d35 5 rfl) rfl (fun c2 => ?_) (fun c2 => ?_)
    · replace hr := (if_pos c2).symm.trans hr
      refine Ev.iloadN (d35 8 rfl) rfl ?_
      refine Ev.ifne (t := 27) (d35 9 rfl) rfl (fun c3 => ?_) (fun c3 => ?_)
      · replace hr := (if_pos c3).symm.trans hr
        refine Ev.aloadN (d35 10 rfl) rfl ?_
        refine Ev.gAr V (ww hw 104 rfl) (d35 11 rfl) (j := 45) rfl ?_
        refine Ev.iloadN (d35 12 rfl) rfl ?_
        obtain ⟨b4, hr⟩ := grd_some hr
        refine Ev.ial V (j := 45) rfl rfl (d35 13 rfl) b4 ?_
        refine Ev.goto (t := 33) (d35 14 rfl) rfl ?_
        exact e_enter_33 hw V  a0 (s.2 45 (ix a0)) (.val (.int a1)) rfl .unset rfl _ hr
      · replace hr := (if_neg c3).symm.trans hr
        refine Ev.aloadN (d35 15 rfl) rfl ?_
        refine Ev.gAr V (ww hw 106 rfl) (d35 16 rfl) (j := 46) rfl ?_
        refine Ev.iloadN (d35 17 rfl) rfl ?_
        obtain ⟨b5, hr⟩ := grd_some hr
        refine Ev.ial V (j := 46) rfl rfl (d35 18 rfl) b5 ?_
        exact e_enter_33 hw V  a0 (s.2 46 (ix a0)) (.val (.int a1)) rfl .unset rfl _ hr
    · replace hr := (if_neg c2).symm.trans hr
      refine Ev.iconst (z := -1) (d35 6 rfl) rfl ?_
      cases hr
      exact Ev.ireturn rfl (d35 7 rfl)
def f_walk_129 (n : Nat) (k6 : Int32 → Int32 → Int32 → Int32 → Int32 → St → Option (Int32 × St)) (x2 : Int32) (x3 : Int32) (x4 : Int32) (x6 : Int32) (z0 : Int32) (z1 : Int32) (s : St) : Option (Int32 × St) :=
  (f_enter n s z1 z0).bind fun q1 =>
  k6 x2 x3 x4 q1 (x6 + (1 : Int32)) s
set_option maxRecDepth 100000 in
theorem e_walk_129 {g : GT} {n : Nat} (hw : HW g) {K : St → MHeap} {o : Nat} {r : Nat → Nat} (V : View (GG g) Ln K o r) {k6 : Int32 → Int32 → Int32 → Int32 → Int32 → St → Option (Int32 × St)} (hk6 : ∀ (x2 : Int32) (x3 : Int32) (x4 : Int32) (x5 : Int32) (x6 : Int32) (s : St) (y1 : Slot) (hy1 : one1 y1 = true) (y7 : Slot) (hy7 : one1 y7 = true) (y8 : Slot) (hy8 : one1 y8 = true) (y9 : Slot) (hy9 : one1 y9 = true) (w : Int32 × St), k6 x2 x3 x4 x5 x6 s = some w → Ev (GG g) M_walk 6 [.val (.ref o), y1, .val (.int x2), .val (.int x3), .val (.int x4), .val (.int x5), .val (.int x6), y7, y8, y9] [] (K s) ((some (.int w.1)), (K w.2))) (x2 : Int32) (x3 : Int32) (x4 : Int32) (x6 : Int32) (z0 : Int32) (z1 : Int32) (s : St) (y1 : Slot) (hy1 : one1 y1 = true) (y5 : Slot) (hy5 : one1 y5 = true) (y7 : Slot) (hy7 : one1 y7 = true) (y8 : Slot) (hy8 : one1 y8 = true) (y9 : Slot) (hy9 : one1 y9 = true) (w : Int32 × St) (hr : f_walk_129 n k6 x2 x3 x4 x6 z0 z1 s = some w) : Ev (GG g) M_walk 129 [.val (.ref o), y1, .val (.int x2), .val (.int x3), .val (.int x4), y5, .val (.int x6), y7, y8, y9] [.int z0, .int z1, .ref o] (K s) ((some (.int w.1)), (K w.2)) := by
  unfold f_walk_129 at hr
  obtain ⟨q1, hq2, hr⟩ := Option.bind_eq_some_iff.mp hr
  refine Ev.priv (y := M_enter) (args := [.int z1, .int z0]) (rest := []) (gok hw) rfl nm_enter (ww hw 290 rfl) (ww hw 291 rfl) (ww hw 292 rfl) (ww hw 293 rfl) (lenOf pd_enter rfl) (d36 79 rfl) (V.2.1 s) (e_enter hw V hq2) (by decide) (Nat.le_of_ble_eq_true rfl) rfl ?_
  refine Ev.istD (L' := [.val (.ref o), y1, .val (.int x2), .val (.int x3), .val (.int x4), .val (.int q1), .val (.int x6), y7, y8, y9]) (d36 80 rfl) rfl hy5 rfl ?_
  refine Ev.goto (t := 181) (d36 81 rfl) rfl ?_
  refine Ev.iinc (z := 1) (L' := [.val (.ref o), y1, .val (.int x2), .val (.int x3), .val (.int x4), .val (.int q1), .val (.int (x6 + (1 : Int32))), y7, y8, y9]) (d36 104 rfl) rfl rfl rfl ?_
  refine Ev.goto (t := 6) (d36 105 rfl) rfl ?_
  exact hk6 x2 x3 x4 q1 (x6 + (1 : Int32)) s y1 hy1 y7 hy7 y8 hy8 y9 hy9 _ hr
def f_walk_173 (n : Nat) (k6 : Int32 → Int32 → Int32 → Int32 → Int32 → St → Option (Int32 × St)) (x2 : Int32) (x3 : Int32) (x4 : Int32) (x5 : Int32) (x6 : Int32) (s : St) : Option (Int32 × St) :=
  (f_advance n s x5).bind fun q1 =>
  k6 x2 x3 x4 q1 (x6 + (1 : Int32)) s
set_option maxRecDepth 100000 in
theorem e_walk_173 {g : GT} {n : Nat} (hw : HW g) {K : St → MHeap} {o : Nat} {r : Nat → Nat} (V : View (GG g) Ln K o r) {k6 : Int32 → Int32 → Int32 → Int32 → Int32 → St → Option (Int32 × St)} (hk6 : ∀ (x2 : Int32) (x3 : Int32) (x4 : Int32) (x5 : Int32) (x6 : Int32) (s : St) (y1 : Slot) (hy1 : one1 y1 = true) (y7 : Slot) (hy7 : one1 y7 = true) (y8 : Slot) (hy8 : one1 y8 = true) (y9 : Slot) (hy9 : one1 y9 = true) (w : Int32 × St), k6 x2 x3 x4 x5 x6 s = some w → Ev (GG g) M_walk 6 [.val (.ref o), y1, .val (.int x2), .val (.int x3), .val (.int x4), .val (.int x5), .val (.int x6), y7, y8, y9] [] (K s) ((some (.int w.1)), (K w.2))) (x2 : Int32) (x3 : Int32) (x4 : Int32) (x5 : Int32) (x6 : Int32) (s : St) (y1 : Slot) (hy1 : one1 y1 = true) (y7 : Slot) (hy7 : one1 y7 = true) (y8 : Slot) (hy8 : one1 y8 = true) (y9 : Slot) (hy9 : one1 y9 = true) (w : Int32 × St) (hr : f_walk_173 n k6 x2 x3 x4 x5 x6 s = some w) : Ev (GG g) M_walk 173 [.val (.ref o), y1, .val (.int x2), .val (.int x3), .val (.int x4), .val (.int x5), .val (.int x6), y7, y8, y9] [] (K s) ((some (.int w.1)), (K w.2)) := by
  unfold f_walk_173 at hr
  refine Ev.aloadN (d36 100 rfl) rfl ?_
  refine Ev.iload (d36 101 rfl) rfl ?_
  obtain ⟨q1, hq2, hr⟩ := Option.bind_eq_some_iff.mp hr
  refine Ev.priv (y := M_advance) (args := [.int x5]) (rest := []) (gok hw) rfl nm_advance (ww hw 298 rfl) (ww hw 299 rfl) (ww hw 300 rfl) (ww hw 301 rfl) (lenOf pd_advance rfl) (d36 102 rfl) (V.2.1 s) (e_advance hw V hq2) (by decide) (Nat.le_of_ble_eq_true rfl) rfl ?_
  refine Ev.istD (L' := [.val (.ref o), y1, .val (.int x2), .val (.int x3), .val (.int x4), .val (.int q1), .val (.int x6), y7, y8, y9]) (d36 103 rfl) rfl rfl rfl ?_
  refine Ev.iinc (z := 1) (L' := [.val (.ref o), y1, .val (.int x2), .val (.int x3), .val (.int x4), .val (.int q1), .val (.int (x6 + (1 : Int32))), y7, y8, y9]) (d36 104 rfl) rfl rfl rfl ?_
  refine Ev.goto (t := 6) (d36 105 rfl) rfl ?_
  exact hk6 x2 x3 x4 q1 (x6 + (1 : Int32)) s y1 hy1 y7 hy7 y8 hy8 y9 hy9 _ hr
def f_walk_6 (n : Nat) : Nat → Int32 → Int32 → Int32 → Int32 → Int32 → St → Option (Int32 × St)
  | 0 => fun _ _ _ _ _ _ => none
  | k + 1 => fun x2 x3 x4 x5 x6 s =>
    if x6 < (70 : Int32) then
      if x5 = (-1 : Int32) then
        (f_evalF n (1 : Int32) x2 x3 x4 s).bind fun q3 =>
        some (q3.1, q3.2)
      else
        if x5 < (-1 : Int32) then
          (f_evalF n ((3 : Int32) + ((2 : Int32) * ((-2 : Int32) - x5))) x2 x3 x4 s).bind fun q6 =>
          some (q6.1, q6.2)
        else
          if x5 < (s.1 64) then
            grd (inb x5 64) <|
            if (s.2 43 (ix x5)) = (2 : Int32) then
              (f_evalF n ((3 : Int32) + ((2 : Int32) * x5)) x2 x3 x4 s).bind fun q11 =>
              some (q11.1, q11.2)
            else
              (f_evalF n ((2 : Int32) + ((2 : Int32) * x5)) x2 x3 x4 s).bind fun q13 =>
              if (s.2 43 (ix x5)) = (1 : Int32) then
                if q13.1 = 0 then
                  f_walk_129 n (f_walk_6 n k) x2 x3 x4 x6 (1 : Int32) x5 q13.2
                else
                  f_walk_129 n (f_walk_6 n k) x2 x3 x4 x6 (0 : Int32) x5 q13.2
              else
                if (q13.2.2 44 (ix x5)) = 0 then
                  f_walk_173 n (f_walk_6 n k) q13.1 x3 x4 x5 x6 q13.2
                else
                  if (q13.2.2 44 (ix x5)) = (1 : Int32) then
                    f_walk_173 n (f_walk_6 n k) x2 q13.1 x4 x5 x6 q13.2
                  else
                    f_walk_173 n (f_walk_6 n k) x2 x3 q13.1 x5 x6 q13.2
          else
            some ((0 : Int32), s)
    else
      some ((0 : Int32), s)
set_option maxRecDepth 100000 in
theorem e_walk_6 {g : GT} {n : Nat} (hw : HW g) {K : St → MHeap} {o : Nat} {r : Nat → Nat} (V : View (GG g) Ln K o r) (k : Nat) : ∀ (x2 : Int32) (x3 : Int32) (x4 : Int32) (x5 : Int32) (x6 : Int32) (s : St) (y1 : Slot) (hy1 : one1 y1 = true) (y7 : Slot) (hy7 : one1 y7 = true) (y8 : Slot) (hy8 : one1 y8 = true) (y9 : Slot) (hy9 : one1 y9 = true) (w : Int32 × St), f_walk_6 n k x2 x3 x4 x5 x6 s = some w → Ev (GG g) M_walk 6 [.val (.ref o), y1, .val (.int x2), .val (.int x3), .val (.int x4), .val (.int x5), .val (.int x6), y7, y8, y9] [] (K s) ((some (.int w.1)), (K w.2)) := by
  induction k with
  | zero => intro x2 x3 x4 x5 x6 s y1 hy1 y7 hy7 y8 hy8 y9 hy9 w hr; rw [f_walk_6] at hr; cases hr
  | succ k ih =>
    intro x2 x3 x4 x5 x6 s y1 hy1 y7 hy7 y8 hy8 y9 hy9 w hr
    rw [f_walk_6] at hr
    refine Ev.iload (d36 4 rfl) rfl ?_
    refine Ev.bipush (z := 70) (d36 5 rfl) rfl ?_
    refine Ev.icge (t := 187) (d36 6 rfl) rfl (fun c1 => ?_) (fun c1 => ?_)
    · replace hr := (if_pos c1).symm.trans hr
      refine Ev.iload (d36 7 rfl) rfl ?_
      refine Ev.iconst (z := -1) (d36 8 rfl) rfl ?_
      refine Ev.icne (t := 29) (d36 9 rfl) rfl (fun c2 => ?_) (fun c2 => ?_)
      · replace hr := (if_pos c2).symm.trans hr
        refine Ev.aloadN (d36 10 rfl) rfl ?_
        refine Ev.iconst (z := 1) (d36 11 rfl) rfl ?_
        refine Ev.iloadN (d36 12 rfl) rfl ?_
        refine Ev.iloadN (d36 13 rfl) rfl ?_
        refine Ev.iload (d36 14 rfl) rfl ?_
        obtain ⟨q3, hq4, hr⟩ := Option.bind_eq_some_iff.mp hr
        refine Ev.priv (y := M_evalF) (args := [.int (1 : Int32), .int x2, .int x3, .int x4]) (rest := []) (gok hw) rfl nm_evalF (ww hw 269 rfl) (ww hw 270 rfl) (ww hw 271 rfl) (ww hw 272 rfl) (lenOf pd_evalF rfl) (d36 15 rfl) (V.2.1 s) (e_evalF hw V hq4) (by decide) (Nat.le_of_ble_eq_true rfl) rfl ?_
        cases hr
        exact Ev.ireturn rfl (d36 16 rfl)
      · replace hr := (if_neg c2).symm.trans hr
        refine Ev.iload (d36 17 rfl) rfl ?_
        refine Ev.iconst (z := -1) (d36 18 rfl) rfl ?_
        refine Ev.icge (t := 53) (d36 19 rfl) rfl (fun c5 => ?_) (fun c5 => ?_)
        · replace hr := (if_pos c5).symm.trans hr
          refine Ev.aloadN (d36 20 rfl) rfl ?_
          refine Ev.iconst (z := 3) (d36 21 rfl) rfl ?_
          refine Ev.iconst (z := 2) (d36 22 rfl) rfl ?_
          refine Ev.bipush (z := -2) (d36 23 rfl) rfl ?_
          refine Ev.iload (d36 24 rfl) rfl ?_
          refine Ev.isub (d36 25 rfl) ?_
          refine Ev.imul (d36 26 rfl) ?_
          refine Ev.iadd (d36 27 rfl) ?_
          refine Ev.iloadN (d36 28 rfl) rfl ?_
          refine Ev.iloadN (d36 29 rfl) rfl ?_
          refine Ev.iload (d36 30 rfl) rfl ?_
          obtain ⟨q6, hq7, hr⟩ := Option.bind_eq_some_iff.mp hr
          refine Ev.priv (y := M_evalF) (args := [.int ((3 : Int32) + ((2 : Int32) * ((-2 : Int32) - x5))), .int x2, .int x3, .int x4]) (rest := []) (gok hw) rfl nm_evalF (ww hw 269 rfl) (ww hw 270 rfl) (ww hw 271 rfl) (ww hw 272 rfl) (lenOf pd_evalF rfl) (d36 31 rfl) (V.2.1 s) (e_evalF hw V hq7) (by decide) (Nat.le_of_ble_eq_true rfl) rfl ?_
          cases hr
          exact Ev.ireturn rfl (d36 32 rfl)
        · replace hr := (if_neg c5).symm.trans hr
          refine Ev.iload (d36 33 rfl) rfl ?_
          refine Ev.aloadN (d36 34 rfl) rfl ?_
          refine Ev.gI V (ww hw 168 rfl) (d36 35 rfl) (j := 64) rfl rfl ?_
          refine Ev.iclt (t := 64) (d36 36 rfl) rfl (fun c8 => ?_) (fun c8 => ?_)
          · replace hr := (if_pos c8).symm.trans hr
            refine Ev.aloadN (d36 39 rfl) rfl ?_
            refine Ev.gAr V (ww hw 100 rfl) (d36 40 rfl) (j := 43) rfl ?_
            refine Ev.iload (d36 41 rfl) rfl ?_
            obtain ⟨b9, hr⟩ := grd_some hr
            refine Ev.ial V (j := 43) rfl rfl (d36 42 rfl) b9 ?_
            refine Ev.istD (L' := [.val (.ref o), y1, .val (.int x2), .val (.int x3), .val (.int x4), .val (.int x5), .val (.int x6), .val (.int (s.2 43 (ix x5))), y8, y9]) (d36 43 rfl) rfl hy7 rfl ?_
            refine Ev.iload (d36 44 rfl) rfl ?_
            refine Ev.iconst (z := 2) (d36 45 rfl) rfl ?_
            refine Ev.icne (t := 94) (d36 46 rfl) rfl (fun c10 => ?_) (fun c10 => ?_)
            · replace hr := (if_pos c10).symm.trans hr
              refine Ev.aloadN (d36 47 rfl) rfl ?_
              refine Ev.iconst (z := 3) (d36 48 rfl) rfl ?_
              refine Ev.iconst (z := 2) (d36 49 rfl) rfl ?_
              refine Ev.iload (d36 50 rfl) rfl ?_
              refine Ev.imul (d36 51 rfl) ?_
              refine Ev.iadd (d36 52 rfl) ?_
              refine Ev.iloadN (d36 53 rfl) rfl ?_
              refine Ev.iloadN (d36 54 rfl) rfl ?_
              refine Ev.iload (d36 55 rfl) rfl ?_
              obtain ⟨q11, hq12, hr⟩ := Option.bind_eq_some_iff.mp hr
              refine Ev.priv (y := M_evalF) (args := [.int ((3 : Int32) + ((2 : Int32) * x5)), .int x2, .int x3, .int x4]) (rest := []) (gok hw) rfl nm_evalF (ww hw 269 rfl) (ww hw 270 rfl) (ww hw 271 rfl) (ww hw 272 rfl) (lenOf pd_evalF rfl) (d36 56 rfl) (V.2.1 s) (e_evalF hw V hq12) (by decide) (Nat.le_of_ble_eq_true rfl) rfl ?_
              cases hr
              exact Ev.ireturn rfl (d36 57 rfl)
            · replace hr := (if_neg c10).symm.trans hr
              refine Ev.aloadN (d36 58 rfl) rfl ?_
              refine Ev.iconst (z := 2) (d36 59 rfl) rfl ?_
              refine Ev.iconst (z := 2) (d36 60 rfl) rfl ?_
              refine Ev.iload (d36 61 rfl) rfl ?_
              refine Ev.imul (d36 62 rfl) ?_
              refine Ev.iadd (d36 63 rfl) ?_
              refine Ev.iloadN (d36 64 rfl) rfl ?_
              refine Ev.iloadN (d36 65 rfl) rfl ?_
              refine Ev.iload (d36 66 rfl) rfl ?_
              obtain ⟨q13, hq14, hr⟩ := Option.bind_eq_some_iff.mp hr
              refine Ev.priv (y := M_evalF) (args := [.int ((2 : Int32) + ((2 : Int32) * x5)), .int x2, .int x3, .int x4]) (rest := []) (gok hw) rfl nm_evalF (ww hw 269 rfl) (ww hw 270 rfl) (ww hw 271 rfl) (ww hw 272 rfl) (lenOf pd_evalF rfl) (d36 67 rfl) (V.2.1 s) (e_evalF hw V hq14) (by decide) (Nat.le_of_ble_eq_true rfl) rfl ?_
              refine Ev.istD (L' := [.val (.ref o), y1, .val (.int x2), .val (.int x3), .val (.int x4), .val (.int x5), .val (.int x6), .val (.int (s.2 43 (ix x5))), .val (.int q13.1), y9]) (d36 68 rfl) rfl hy8 rfl ?_
              refine Ev.iload (d36 69 rfl) rfl ?_
              refine Ev.iconst (z := 1) (d36 70 rfl) rfl ?_
              refine Ev.icne (t := 137) (d36 71 rfl) rfl (fun c15 => ?_) (fun c15 => ?_)
              · replace hr := (if_pos c15).symm.trans hr
                refine Ev.aloadN (d36 72 rfl) rfl ?_
                refine Ev.iload (d36 73 rfl) rfl ?_
                refine Ev.iload (d36 74 rfl) rfl ?_
                refine Ev.ifeq (t := 128) (d36 75 rfl) rfl (fun c16 => ?_) (fun c16 => ?_)
                · replace hr := (if_pos c16).symm.trans hr
                  refine Ev.iconst (z := 1) (d36 78 rfl) rfl ?_
                  exact e_walk_129 hw V ih x2 x3 x4 x6 (1 : Int32) x5 q13.2 y1 hy1 (.val (.int x5)) rfl (.val (.int (s.2 43 (ix x5)))) rfl (.val (.int q13.1)) rfl y9 hy9 _ hr
                · replace hr := (if_neg c16).symm.trans hr
                  refine Ev.iconst (z := 0) (d36 76 rfl) rfl ?_
                  refine Ev.goto (t := 129) (d36 77 rfl) rfl ?_
                  exact e_walk_129 hw V ih x2 x3 x4 x6 (0 : Int32) x5 q13.2 y1 hy1 (.val (.int x5)) rfl (.val (.int (s.2 43 (ix x5)))) rfl (.val (.int q13.1)) rfl y9 hy9 _ hr
              · replace hr := (if_neg c15).symm.trans hr
                refine Ev.aloadN (d36 82 rfl) rfl ?_
                refine Ev.gAr V (ww hw 102 rfl) (d36 83 rfl) (j := 44) rfl ?_
                refine Ev.iload (d36 84 rfl) rfl ?_
                refine Ev.ial V (j := 44) rfl rfl (d36 85 rfl) b9 ?_
                refine Ev.istD (L' := [.val (.ref o), y1, .val (.int x2), .val (.int x3), .val (.int x4), .val (.int x5), .val (.int x6), .val (.int (s.2 43 (ix x5))), .val (.int q13.1), .val (.int (q13.2.2 44 (ix x5)))]) (d36 86 rfl) rfl hy9 rfl ?_
                refine Ev.iload (d36 87 rfl) rfl ?_
                refine Ev.ifne (t := 157) (d36 88 rfl) rfl (fun c17 => ?_) (fun c17 => ?_)
                · replace hr := (if_pos c17).symm.trans hr
                  refine Ev.iload (d36 89 rfl) rfl ?_
                  refine Ev.istDN (L' := [.val (.ref o), y1, .val (.int q13.1), .val (.int x3), .val (.int x4), .val (.int x5), .val (.int x6), .val (.int (s.2 43 (ix x5))), .val (.int q13.1), .val (.int (q13.2.2 44 (ix x5)))]) (d36 90 rfl) rfl rfl rfl ?_
                  refine Ev.goto (t := 173) (d36 91 rfl) rfl ?_
                  exact e_walk_173 hw V ih q13.1 x3 x4 x5 x6 q13.2 y1 hy1 (.val (.int (s.2 43 (ix x5)))) rfl (.val (.int q13.1)) rfl (.val (.int (q13.2.2 44 (ix x5)))) rfl _ hr
                · replace hr := (if_neg c17).symm.trans hr
                  refine Ev.iload (d36 92 rfl) rfl ?_
                  refine Ev.iconst (z := 1) (d36 93 rfl) rfl ?_
                  refine Ev.icne (t := 169) (d36 94 rfl) rfl (fun c18 => ?_) (fun c18 => ?_)
                  · replace hr := (if_pos c18).symm.trans hr
                    refine Ev.iload (d36 95 rfl) rfl ?_
                    refine Ev.istDN (L' := [.val (.ref o), y1, .val (.int x2), .val (.int q13.1), .val (.int x4), .val (.int x5), .val (.int x6), .val (.int (s.2 43 (ix x5))), .val (.int q13.1), .val (.int (q13.2.2 44 (ix x5)))]) (d36 96 rfl) rfl rfl rfl ?_
                    refine Ev.goto (t := 173) (d36 97 rfl) rfl ?_
                    exact e_walk_173 hw V ih x2 q13.1 x4 x5 x6 q13.2 y1 hy1 (.val (.int (s.2 43 (ix x5)))) rfl (.val (.int q13.1)) rfl (.val (.int (q13.2.2 44 (ix x5)))) rfl _ hr
                  · replace hr := (if_neg c18).symm.trans hr
                    refine Ev.iload (d36 98 rfl) rfl ?_
                    refine Ev.istD (L' := [.val (.ref o), y1, .val (.int x2), .val (.int x3), .val (.int q13.1), .val (.int x5), .val (.int x6), .val (.int (s.2 43 (ix x5))), .val (.int q13.1), .val (.int (q13.2.2 44 (ix x5)))]) (d36 99 rfl) rfl rfl rfl ?_
                    exact e_walk_173 hw V ih x2 x3 q13.1 x5 x6 q13.2 y1 hy1 (.val (.int (s.2 43 (ix x5)))) rfl (.val (.int q13.1)) rfl (.val (.int (q13.2.2 44 (ix x5)))) rfl _ hr
          · replace hr := (if_neg c8).symm.trans hr
            refine Ev.iconst (z := 0) (d36 37 rfl) rfl ?_
            cases hr
            exact Ev.ireturn rfl (d36 38 rfl)
    · replace hr := (if_neg c1).symm.trans hr
      refine Ev.iconst (z := 0) (d36 106 rfl) rfl ?_
      cases hr
      exact Ev.ireturn rfl (d36 107 rfl)
def f_walk (n : Nat) (a0 : Int32) (a1 : Int32) (a2 : Int32) (a3 : Int32) (s : St) : Option (Int32 × St) :=
  f_walk_6 n n a1 a2 a3 a0 (0 : Int32) s
set_option maxRecDepth 100000 in
theorem e_walk {g : GT} {n : Nat} {a0 : Int32} {a1 : Int32} {a2 : Int32} {a3 : Int32} {s : St} {w : Int32 × St} (hw : HW g) {K : St → MHeap} {o : Nat} {r : Nat → Nat} (V : View (GG g) Ln K o r) (hr : f_walk n a0 a1 a2 a3 s = some w) : EvC (GG g) M_walk [.ref o, .int a0, .int a1, .int a2, .int a3] (K s) ((some (.int w.1)), (K w.2)) := by
  refine EvC.enter (L0 := [.val (.ref o), .val (.int a0), .val (.int a1), .val (.int a2), .val (.int a3), .unset, .unset, .unset, .unset, .unset]) pl_walk (fun h => nomatch h) rfl rfl ?_
  unfold f_walk at hr
  refine Ev.iloadN (d36 0 rfl) rfl ?_
  refine Ev.istD (L' := [.val (.ref o), .val (.int a0), .val (.int a1), .val (.int a2), .val (.int a3), .val (.int a0), .unset, .unset, .unset, .unset]) (d36 1 rfl) rfl rfl rfl ?_
  refine Ev.iconst (z := 0) (d36 2 rfl) rfl ?_
  refine Ev.istD (L' := [.val (.ref o), .val (.int a0), .val (.int a1), .val (.int a2), .val (.int a3), .val (.int a0), .val (.int (0 : Int32)), .unset, .unset, .unset]) (d36 3 rfl) rfl rfl rfl ?_
  exact e_walk_6 hw V  n a1 a2 a3 a0 (0 : Int32) s (.val (.int a0)) rfl .unset rfl .unset rfl .unset rfl _ hr
def f_vcAt_151 (n : Nat) (x2 : Int32) (x3 : Int32) (x4 : Int32) (x9 : Int32) (s : St) : Option (Int32 × St) :=
  (f_walk n x9 x2 x3 x4 s).bind fun q1 =>
  if q1.1 = 0 then
    some ((0 : Int32), q1.2)
  else
    some ((1 : Int32), q1.2)
set_option maxRecDepth 100000 in
theorem e_vcAt_151 {g : GT} {n : Nat} (hw : HW g) {K : St → MHeap} {o : Nat} {r : Nat → Nat} (V : View (GG g) Ln K o r) (x2 : Int32) (x3 : Int32) (x4 : Int32) (x9 : Int32) (s : St) (y1 : Slot) (hy1 : one1 y1 = true) (y5 : Slot) (hy5 : one1 y5 = true) (y6 : Slot) (hy6 : one1 y6 = true) (y7 : Slot) (hy7 : one1 y7 = true) (y8 : Slot) (hy8 : one1 y8 = true) (w : Int32 × St) (hr : f_vcAt_151 n x2 x3 x4 x9 s = some w) : Ev (GG g) M_vcAt 151 [.val (.ref o), y1, .val (.int x2), .val (.int x3), .val (.int x4), y5, y6, y7, y8, .val (.int x9)] [] (K s) ((some (.int w.1)), (K w.2)) := by
  unfold f_vcAt_151 at hr
  refine Ev.aloadN (d29 91 rfl) rfl ?_
  refine Ev.iload (d29 92 rfl) rfl ?_
  refine Ev.iloadN (d29 93 rfl) rfl ?_
  refine Ev.iloadN (d29 94 rfl) rfl ?_
  refine Ev.iload (d29 95 rfl) rfl ?_
  obtain ⟨q1, hq2, hr⟩ := Option.bind_eq_some_iff.mp hr
  refine Ev.priv (y := M_walk) (args := [.int x9, .int x2, .int x3, .int x4]) (rest := []) (gok hw) rfl nm_walk (ww hw 294 rfl) (ww hw 295 rfl) (ww hw 296 rfl) (ww hw 297 rfl) (lenOf pd_walk rfl) (d29 96 rfl) (V.2.1 s) (e_walk hw V hq2) (by decide) (Nat.le_of_ble_eq_true rfl) rfl ?_
  refine Ev.ifeq (t := 168) (d29 97 rfl) rfl (fun c3 => ?_) (fun c3 => ?_)
  · replace hr := (if_pos c3).symm.trans hr
    refine Ev.iconst (z := 0) (d29 100 rfl) rfl ?_
    cases hr
    exact Ev.ireturn rfl (d29 101 rfl)
  · replace hr := (if_neg c3).symm.trans hr
    refine Ev.iconst (z := 1) (d29 98 rfl) rfl ?_
    refine Ev.goto (t := 169) (d29 99 rfl) rfl ?_
    cases hr
    exact Ev.ireturn rfl (d29 101 rfl)
def f_vcAt (n : Nat) (a0 : Int32) (a1 : Int32) (a2 : Int32) (a3 : Int32) (s : St) : Option (Int32 × St) :=
  if a0 = 0 then
    (f_evalF n (0 : Int32) a1 a2 a3 s).bind fun q2 =>
    if q2.1 = 0 then
      some ((1 : Int32), q2.2)
    else
      (f_walk n (q2.2.1 67) a1 a2 a3 q2.2).bind fun q5 =>
      if q5.1 = 0 then
        some ((0 : Int32), q5.2)
      else
        some ((1 : Int32), q5.2)
  else
    if ((a0 - (1 : Int32)) / (2 : Int32)) < 0 then
      some ((1 : Int32), s)
    else
      if ((a0 - (1 : Int32)) / (2 : Int32)) < (s.1 65) then
        grd (inb ((a0 - (1 : Int32)) / (2 : Int32)) 64) <|
        bnd (s.2 49 (ix ((a0 - (1 : Int32)) / (2 : Int32)))) fun v11 =>
        (f_evalF n ((3 : Int32) + ((2 : Int32) * v11)) a1 a2 a3 s).bind fun q12 =>
        (f_evalF n ((2 : Int32) + ((2 : Int32) * v11)) a1 a2 a3 q12.2).bind fun q14 =>
        if q12.1 = 0 then
          some ((1 : Int32), q14.2)
        else
          if (a0 &&& (1 : Int32)) = (1 : Int32) then
            if q14.1 = 0 then
              some ((1 : Int32), q14.2)
            else
              (f_enter n q14.2 v11 (0 : Int32)).bind fun q19 =>
              f_vcAt_151 n a1 a2 a3 q19 q14.2
          else
            if q14.1 = 0 then
              (f_advance n q14.2 v11).bind fun q22 =>
              f_vcAt_151 n a1 a2 a3 q22 q14.2
            else
              some ((1 : Int32), q14.2)
      else
        some ((1 : Int32), s)
set_option maxRecDepth 100000 in
theorem e_vcAt {g : GT} {n : Nat} {a0 : Int32} {a1 : Int32} {a2 : Int32} {a3 : Int32} {s : St} {w : Int32 × St} (hw : HW g) {K : St → MHeap} {o : Nat} {r : Nat → Nat} (V : View (GG g) Ln K o r) (hr : f_vcAt n a0 a1 a2 a3 s = some w) : EvC (GG g) M_vcAt [.ref o, .int a0, .int a1, .int a2, .int a3] (K s) ((some (.int w.1)), (K w.2)) := by
  refine EvC.enter (L0 := [.val (.ref o), .val (.int a0), .val (.int a1), .val (.int a2), .val (.int a3), .unset, .unset, .unset, .unset, .unset]) pl_vcAt (fun h => nomatch h) rfl rfl ?_
  unfold f_vcAt at hr
  refine Ev.iloadN (d29 0 rfl) rfl ?_
  refine Ev.ifne (t := 39) (d29 1 rfl) rfl (fun c1 => ?_) (fun c1 => ?_)
  · replace hr := (if_pos c1).symm.trans hr
    refine Ev.aloadN (d29 2 rfl) rfl ?_
    refine Ev.iconst (z := 0) (d29 3 rfl) rfl ?_
    refine Ev.iloadN (d29 4 rfl) rfl ?_
    refine Ev.iloadN (d29 5 rfl) rfl ?_
    refine Ev.iload (d29 6 rfl) rfl ?_
    obtain ⟨q2, hq3, hr⟩ := Option.bind_eq_some_iff.mp hr
    refine Ev.priv (y := M_evalF) (args := [.int (0 : Int32), .int a1, .int a2, .int a3]) (rest := []) (gok hw) rfl nm_evalF (ww hw 269 rfl) (ww hw 270 rfl) (ww hw 271 rfl) (ww hw 272 rfl) (lenOf pd_evalF rfl) (d29 7 rfl) (V.2.1 s) (e_evalF hw V hq3) (by decide) (Nat.le_of_ble_eq_true rfl) rfl ?_
    refine Ev.ifne (t := 18) (d29 8 rfl) rfl (fun c4 => ?_) (fun c4 => ?_)
    · replace hr := (if_pos c4).symm.trans hr
      refine Ev.iconst (z := 1) (d29 9 rfl) rfl ?_
      cases hr
      exact Ev.ireturn rfl (d29 10 rfl)
    · replace hr := (if_neg c4).symm.trans hr
      refine Ev.aloadN (d29 11 rfl) rfl ?_
      refine Ev.aloadN (d29 12 rfl) rfl ?_
      refine Ev.gI V (ww hw 174 rfl) (d29 13 rfl) (j := 67) rfl rfl ?_
      refine Ev.iloadN (d29 14 rfl) rfl ?_
      refine Ev.iloadN (d29 15 rfl) rfl ?_
      refine Ev.iload (d29 16 rfl) rfl ?_
      obtain ⟨q5, hq6, hr⟩ := Option.bind_eq_some_iff.mp hr
      refine Ev.priv (y := M_walk) (args := [.int (q2.2.1 67), .int a1, .int a2, .int a3]) (rest := []) (gok hw) rfl nm_walk (ww hw 294 rfl) (ww hw 295 rfl) (ww hw 296 rfl) (ww hw 297 rfl) (lenOf pd_walk rfl) (d29 17 rfl) (V.2.1 q2.2) (e_walk hw V hq6) (by decide) (Nat.le_of_ble_eq_true rfl) rfl ?_
      refine Ev.ifeq (t := 37) (d29 18 rfl) rfl (fun c7 => ?_) (fun c7 => ?_)
      · replace hr := (if_pos c7).symm.trans hr
        refine Ev.iconst (z := 0) (d29 21 rfl) rfl ?_
        cases hr
        exact Ev.ireturn rfl (d29 22 rfl)
      · replace hr := (if_neg c7).symm.trans hr
        refine Ev.iconst (z := 1) (d29 19 rfl) rfl ?_
        refine Ev.goto (t := 38) (d29 20 rfl) rfl ?_
        cases hr
        exact Ev.ireturn rfl (d29 22 rfl)
  · replace hr := (if_neg c1).symm.trans hr
    refine Ev.iloadN (d29 23 rfl) rfl ?_
    refine Ev.iconst (z := 1) (d29 24 rfl) rfl ?_
    refine Ev.isub (d29 25 rfl) ?_
    refine Ev.iconst (z := 2) (d29 26 rfl) rfl ?_
    refine Ev.idiv (d29 27 rfl) (by decide) ?_
    refine Ev.istD (L' := [.val (.ref o), .val (.int a0), .val (.int a1), .val (.int a2), .val (.int a3), .val (.int ((a0 - (1 : Int32)) / (2 : Int32))), .unset, .unset, .unset, .unset]) (d29 28 rfl) rfl rfl rfl ?_
    refine Ev.iload (d29 29 rfl) rfl ?_
    refine Ev.iflt (t := 60) (d29 30 rfl) rfl (fun c8 => ?_) (fun c8 => ?_)
    · replace hr := (if_pos c8).symm.trans hr
      refine Ev.iconst (z := 1) (d29 35 rfl) rfl ?_
      cases hr
      exact Ev.ireturn rfl (d29 36 rfl)
    · replace hr := (if_neg c8).symm.trans hr
      refine Ev.iload (d29 31 rfl) rfl ?_
      refine Ev.aloadN (d29 32 rfl) rfl ?_
      refine Ev.gI V (ww hw 170 rfl) (d29 33 rfl) (j := 65) rfl rfl ?_
      refine Ev.iclt (t := 62) (d29 34 rfl) rfl (fun c9 => ?_) (fun c9 => ?_)
      · replace hr := (if_pos c9).symm.trans hr
        refine Ev.aloadN (d29 37 rfl) rfl ?_
        refine Ev.gAr V (ww hw 112 rfl) (d29 38 rfl) (j := 49) rfl ?_
        refine Ev.iload (d29 39 rfl) rfl ?_
        obtain ⟨b10, hr⟩ := grd_some hr
        refine Ev.ial V (j := 49) rfl rfl (d29 40 rfl) b10 ?_
        revert hr
        generalize (s.2 49 (ix ((a0 - (1 : Int32)) / (2 : Int32)))) = v11
        intro hr
        replace hr := (bnd_eq _ _).symm.trans hr
        refine Ev.istD (L' := [.val (.ref o), .val (.int a0), .val (.int a1), .val (.int a2), .val (.int a3), .val (.int ((a0 - (1 : Int32)) / (2 : Int32))), .val (.int v11), .unset, .unset, .unset]) (d29 41 rfl) rfl rfl rfl ?_
        refine Ev.aloadN (d29 42 rfl) rfl ?_
        refine Ev.iconst (z := 3) (d29 43 rfl) rfl ?_
        refine Ev.iconst (z := 2) (d29 44 rfl) rfl ?_
        refine Ev.iload (d29 45 rfl) rfl ?_
        refine Ev.imul (d29 46 rfl) ?_
        refine Ev.iadd (d29 47 rfl) ?_
        refine Ev.iloadN (d29 48 rfl) rfl ?_
        refine Ev.iloadN (d29 49 rfl) rfl ?_
        refine Ev.iload (d29 50 rfl) rfl ?_
        obtain ⟨q12, hq13, hr⟩ := Option.bind_eq_some_iff.mp hr
        refine Ev.priv (y := M_evalF) (args := [.int ((3 : Int32) + ((2 : Int32) * v11)), .int a1, .int a2, .int a3]) (rest := []) (gok hw) rfl nm_evalF (ww hw 269 rfl) (ww hw 270 rfl) (ww hw 271 rfl) (ww hw 272 rfl) (lenOf pd_evalF rfl) (d29 51 rfl) (V.2.1 s) (e_evalF hw V hq13) (by decide) (Nat.le_of_ble_eq_true rfl) rfl ?_
        refine Ev.istD (L' := [.val (.ref o), .val (.int a0), .val (.int a1), .val (.int a2), .val (.int a3), .val (.int ((a0 - (1 : Int32)) / (2 : Int32))), .val (.int v11), .val (.int q12.1), .unset, .unset]) (d29 52 rfl) rfl rfl rfl ?_
        refine Ev.aloadN (d29 53 rfl) rfl ?_
        refine Ev.iconst (z := 2) (d29 54 rfl) rfl ?_
        refine Ev.iconst (z := 2) (d29 55 rfl) rfl ?_
        refine Ev.iload (d29 56 rfl) rfl ?_
        refine Ev.imul (d29 57 rfl) ?_
        refine Ev.iadd (d29 58 rfl) ?_
        refine Ev.iloadN (d29 59 rfl) rfl ?_
        refine Ev.iloadN (d29 60 rfl) rfl ?_
        refine Ev.iload (d29 61 rfl) rfl ?_
        obtain ⟨q14, hq15, hr⟩ := Option.bind_eq_some_iff.mp hr
        refine Ev.priv (y := M_evalF) (args := [.int ((2 : Int32) + ((2 : Int32) * v11)), .int a1, .int a2, .int a3]) (rest := []) (gok hw) rfl nm_evalF (ww hw 269 rfl) (ww hw 270 rfl) (ww hw 271 rfl) (ww hw 272 rfl) (lenOf pd_evalF rfl) (d29 62 rfl) (V.2.1 q12.2) (e_evalF hw V hq15) (by decide) (Nat.le_of_ble_eq_true rfl) rfl ?_
        refine Ev.istD (L' := [.val (.ref o), .val (.int a0), .val (.int a1), .val (.int a2), .val (.int a3), .val (.int ((a0 - (1 : Int32)) / (2 : Int32))), .val (.int v11), .val (.int q12.1), .val (.int q14.1), .unset]) (d29 63 rfl) rfl rfl rfl ?_
        refine Ev.iload (d29 64 rfl) rfl ?_
        refine Ev.ifne (t := 110) (d29 65 rfl) rfl (fun c16 => ?_) (fun c16 => ?_)
        · replace hr := (if_pos c16).symm.trans hr
          refine Ev.iconst (z := 1) (d29 66 rfl) rfl ?_
          cases hr
          exact Ev.ireturn rfl (d29 67 rfl)
        · replace hr := (if_neg c16).symm.trans hr
          refine Ev.iloadN (d29 68 rfl) rfl ?_
          refine Ev.iconst (z := 1) (d29 69 rfl) rfl ?_
          refine Ev.iand (d29 70 rfl) ?_
          refine Ev.iconst (z := 1) (d29 71 rfl) rfl ?_
          refine Ev.icne (t := 136) (d29 72 rfl) rfl (fun c17 => ?_) (fun c17 => ?_)
          · replace hr := (if_pos c17).symm.trans hr
            refine Ev.iload (d29 73 rfl) rfl ?_
            refine Ev.ifne (t := 124) (d29 74 rfl) rfl (fun c18 => ?_) (fun c18 => ?_)
            · replace hr := (if_pos c18).symm.trans hr
              refine Ev.iconst (z := 1) (d29 75 rfl) rfl ?_
              cases hr
              exact Ev.ireturn rfl (d29 76 rfl)
            · replace hr := (if_neg c18).symm.trans hr
              refine Ev.aloadN (d29 77 rfl) rfl ?_
              refine Ev.iload (d29 78 rfl) rfl ?_
              refine Ev.iconst (z := 0) (d29 79 rfl) rfl ?_
              obtain ⟨q19, hq20, hr⟩ := Option.bind_eq_some_iff.mp hr
              refine Ev.priv (y := M_enter) (args := [.int v11, .int (0 : Int32)]) (rest := []) (gok hw) rfl nm_enter (ww hw 290 rfl) (ww hw 291 rfl) (ww hw 292 rfl) (ww hw 293 rfl) (lenOf pd_enter rfl) (d29 80 rfl) (V.2.1 q14.2) (e_enter hw V hq20) (by decide) (Nat.le_of_ble_eq_true rfl) rfl ?_
              refine Ev.istD (L' := [.val (.ref o), .val (.int a0), .val (.int a1), .val (.int a2), .val (.int a3), .val (.int ((a0 - (1 : Int32)) / (2 : Int32))), .val (.int v11), .val (.int q12.1), .val (.int q14.1), .val (.int q19)]) (d29 81 rfl) rfl rfl rfl ?_
              refine Ev.goto (t := 151) (d29 82 rfl) rfl ?_
              exact e_vcAt_151 hw V  a1 a2 a3 q19 q14.2 (.val (.int a0)) rfl (.val (.int ((a0 - (1 : Int32)) / (2 : Int32)))) rfl (.val (.int v11)) rfl (.val (.int q12.1)) rfl (.val (.int q14.1)) rfl _ hr
          · replace hr := (if_neg c17).symm.trans hr
            refine Ev.iload (d29 83 rfl) rfl ?_
            refine Ev.ifeq (t := 143) (d29 84 rfl) rfl (fun c21 => ?_) (fun c21 => ?_)
            · replace hr := (if_pos c21).symm.trans hr
              refine Ev.aloadN (d29 87 rfl) rfl ?_
              refine Ev.iload (d29 88 rfl) rfl ?_
              obtain ⟨q22, hq23, hr⟩ := Option.bind_eq_some_iff.mp hr
              refine Ev.priv (y := M_advance) (args := [.int v11]) (rest := []) (gok hw) rfl nm_advance (ww hw 298 rfl) (ww hw 299 rfl) (ww hw 300 rfl) (ww hw 301 rfl) (lenOf pd_advance rfl) (d29 89 rfl) (V.2.1 q14.2) (e_advance hw V hq23) (by decide) (Nat.le_of_ble_eq_true rfl) rfl ?_
              refine Ev.istD (L' := [.val (.ref o), .val (.int a0), .val (.int a1), .val (.int a2), .val (.int a3), .val (.int ((a0 - (1 : Int32)) / (2 : Int32))), .val (.int v11), .val (.int q12.1), .val (.int q14.1), .val (.int q22)]) (d29 90 rfl) rfl rfl rfl ?_
              exact e_vcAt_151 hw V  a1 a2 a3 q22 q14.2 (.val (.int a0)) rfl (.val (.int ((a0 - (1 : Int32)) / (2 : Int32)))) rfl (.val (.int v11)) rfl (.val (.int q12.1)) rfl (.val (.int q14.1)) rfl _ hr
            · replace hr := (if_neg c21).symm.trans hr
              refine Ev.iconst (z := 1) (d29 85 rfl) rfl ?_
              cases hr
              exact Ev.ireturn rfl (d29 86 rfl)
      · replace hr := (if_neg c9).symm.trans hr
        refine Ev.iconst (z := 1) (d29 35 rfl) rfl ?_
        cases hr
        exact Ev.ireturn rfl (d29 36 rfl)
def f_check_31 (n : Nat) : Nat → Int32 → Int32 → St → Option (Int32 × St)
  | 0 => fun _ _ _ => none
  | k + 1 => fun x1 x2 s =>
    if x2 < (4096 : Int32) then
      (f_vcAt n x1 ((x2 >>> ((8 : Int32) &&& 31)) &&& (15 : Int32)) ((x2 >>> ((4 : Int32) &&& 31)) &&& (15 : Int32)) (x2 &&& (15 : Int32)) s).bind fun q2 =>
      if q2.1 = 0 then
        bnd (setI q2.2 60 x2) fun s5 =>
        some ((2 : Int32), s5)
      else
        f_check_31 n k x1 (x2 + (1 : Int32)) q2.2
    else
      bnd (setI s 60 (-1 : Int32)) fun s6 =>
      some ((1 : Int32), s6)
set_option maxRecDepth 100000 in
theorem e_check_31 {g : GT} {n : Nat} (hw : HW g) {K : St → MHeap} {o : Nat} {r : Nat → Nat} (V : View (GG g) Ln K o r) (k : Nat) : ∀ (x1 : Int32) (x2 : Int32) (s : St) (y3 : Slot) (hy3 : one1 y3 = true) (w : Int32 × St), f_check_31 n k x1 x2 s = some w → Ev (GG g) M_check 31 [.val (.ref o), .val (.int x1), .val (.int x2), y3] [] (K s) ((some (.int w.1)), (K w.2)) := by
  induction k with
  | zero => intro x1 x2 s y3 hy3 w hr; rw [f_check_31] at hr; cases hr
  | succ k ih =>
    intro x1 x2 s y3 hy3 w hr
    rw [f_check_31] at hr
    refine Ev.iloadN (d28 19 rfl) rfl ?_
    refine Ev.sipush (z := 4096) (d28 20 rfl) rfl ?_
    refine Ev.icge (t := 78) (d28 21 rfl) rfl (fun c1 => ?_) (fun c1 => ?_)
    · replace hr := (if_pos c1).symm.trans hr
      refine Ev.aloadN (d28 22 rfl) rfl ?_
      refine Ev.iloadN (d28 23 rfl) rfl ?_
      refine Ev.iloadN (d28 24 rfl) rfl ?_
      refine Ev.bipush (z := 8) (d28 25 rfl) rfl ?_
      refine Ev.ishr (d28 26 rfl) ?_
      refine Ev.bipush (z := 15) (d28 27 rfl) rfl ?_
      refine Ev.iand (d28 28 rfl) ?_
      refine Ev.iloadN (d28 29 rfl) rfl ?_
      refine Ev.iconst (z := 4) (d28 30 rfl) rfl ?_
      refine Ev.ishr (d28 31 rfl) ?_
      refine Ev.bipush (z := 15) (d28 32 rfl) rfl ?_
      refine Ev.iand (d28 33 rfl) ?_
      refine Ev.iloadN (d28 34 rfl) rfl ?_
      refine Ev.bipush (z := 15) (d28 35 rfl) rfl ?_
      refine Ev.iand (d28 36 rfl) ?_
      obtain ⟨q2, hq3, hr⟩ := Option.bind_eq_some_iff.mp hr
      refine Ev.priv (y := M_vcAt) (args := [.int x1, .int ((x2 >>> ((8 : Int32) &&& 31)) &&& (15 : Int32)), .int ((x2 >>> ((4 : Int32) &&& 31)) &&& (15 : Int32)), .int (x2 &&& (15 : Int32))]) (rest := []) (gok hw) rfl nm_vcAt (ww hw 265 rfl) (ww hw 266 rfl) (ww hw 267 rfl) (ww hw 268 rfl) (lenOf pd_vcAt rfl) (d28 37 rfl) (V.2.1 s) (e_vcAt hw V hq3) (by decide) (Nat.le_of_ble_eq_true rfl) rfl ?_
      refine Ev.istDN (L' := [.val (.ref o), .val (.int x1), .val (.int x2), .val (.int q2.1)]) (d28 38 rfl) rfl hy3 rfl ?_
      refine Ev.iloadN (d28 39 rfl) rfl ?_
      refine Ev.ifne (t := 72) (d28 40 rfl) rfl (fun c4 => ?_) (fun c4 => ?_)
      · replace hr := (if_pos c4).symm.trans hr
        refine Ev.aloadN (d28 41 rfl) rfl ?_
        refine Ev.iloadN (d28 42 rfl) rfl ?_
        refine Ev.pI V (gok hw) (ww hw 138 rfl) (Or.inl (ww hw 139 rfl)) (d28 43 rfl) (j := 60) rfl ?_
        revert hr
        generalize setI q2.2 60 x2 = s5
        intro hr
        replace hr := (bnd_eq _ _).symm.trans hr
        refine Ev.iconst (z := 2) (d28 44 rfl) rfl ?_
        cases hr
        exact Ev.ireturn rfl (d28 45 rfl)
      · replace hr := (if_neg c4).symm.trans hr
        refine Ev.iinc (z := 1) (L' := [.val (.ref o), .val (.int x1), .val (.int (x2 + (1 : Int32))), .val (.int q2.1)]) (d28 46 rfl) rfl rfl rfl ?_
        refine Ev.goto (t := 31) (d28 47 rfl) rfl ?_
        exact ih x1 (x2 + (1 : Int32)) q2.2 (.val (.int q2.1)) rfl _ hr
    · replace hr := (if_neg c1).symm.trans hr
      refine Ev.aloadN (d28 48 rfl) rfl ?_
      refine Ev.iconst (z := -1) (d28 49 rfl) rfl ?_
      refine Ev.pI V (gok hw) (ww hw 138 rfl) (Or.inl (ww hw 139 rfl)) (d28 50 rfl) (j := 60) rfl ?_
      revert hr
      generalize setI s 60 (-1 : Int32) = s6
      intro hr
      replace hr := (bnd_eq _ _).symm.trans hr
      refine Ev.iconst (z := 1) (d28 51 rfl) rfl ?_
      cases hr
      exact Ev.ireturn rfl (d28 52 rfl)
def f_check (n : Nat) (a0 : Int32) (s : St) : Option (Int32 × St) :=
  if (s.1 58) = 0 then
    some ((-4 : Int32), s)
  else
    if a0 < 0 then
      some ((-5 : Int32), s)
    else
      if a0 < ((1 : Int32) + ((2 : Int32) * (s.1 65))) then
        f_check_31 n n a0 (0 : Int32) s
      else
        some ((-5 : Int32), s)
set_option maxRecDepth 100000 in
theorem e_check {g : GT} {n : Nat} {a0 : Int32} {s : St} {w : Int32 × St} (hw : HW g) {K : St → MHeap} {o : Nat} {r : Nat → Nat} (V : View (GG g) Ln K o r) (hr : f_check n a0 s = some w) : EvC (GG g) M_check [.ref o, .int a0] (K s) ((some (.int w.1)), (K w.2)) := by
  refine EvC.enter (L0 := [.val (.ref o), .val (.int a0), .unset, .unset]) pl_check (fun h => nomatch h) rfl rfl ?_
  unfold f_check at hr
  refine Ev.aloadN (d28 0 rfl) rfl ?_
  refine Ev.gI V (ww hw 134 rfl) (d28 1 rfl) (j := 58) rfl rfl ?_
  refine Ev.ifne (t := 10) (d28 2 rfl) rfl (fun c1 => ?_) (fun c1 => ?_)
  · replace hr := (if_pos c1).symm.trans hr
    refine Ev.bipush (z := -4) (d28 3 rfl) rfl ?_
    cases hr
    exact Ev.ireturn rfl (d28 4 rfl)
  · replace hr := (if_neg c1).symm.trans hr
    refine Ev.iloadN (d28 5 rfl) rfl ?_
    refine Ev.iflt (t := 26) (d28 6 rfl) rfl (fun c2 => ?_) (fun c2 => ?_)
    · replace hr := (if_pos c2).symm.trans hr
      refine Ev.bipush (z := -5) (d28 15 rfl) rfl ?_
      cases hr
      exact Ev.ireturn rfl (d28 16 rfl)
    · replace hr := (if_neg c2).symm.trans hr
      refine Ev.iloadN (d28 7 rfl) rfl ?_
      refine Ev.iconst (z := 1) (d28 8 rfl) rfl ?_
      refine Ev.iconst (z := 2) (d28 9 rfl) rfl ?_
      refine Ev.aloadN (d28 10 rfl) rfl ?_
      refine Ev.gI V (ww hw 170 rfl) (d28 11 rfl) (j := 65) rfl rfl ?_
      refine Ev.imul (d28 12 rfl) ?_
      refine Ev.iadd (d28 13 rfl) ?_
      refine Ev.iclt (t := 29) (d28 14 rfl) rfl (fun c3 => ?_) (fun c3 => ?_)
      · replace hr := (if_pos c3).symm.trans hr
        refine Ev.iconst (z := 0) (d28 17 rfl) rfl ?_
        refine Ev.istDN (L' := [.val (.ref o), .val (.int a0), .val (.int (0 : Int32)), .unset]) (d28 18 rfl) rfl rfl rfl ?_
        exact e_check_31 hw V  n a0 (0 : Int32) s .unset rfl _ hr
      · replace hr := (if_neg c3).symm.trans hr
        refine Ev.bipush (z := -5) (d28 15 rfl) rfl ?_
        cases hr
        exact Ev.ireturn rfl (d28 16 rfl)
def f_counterexample (s : St) : Option (Int32) :=
  some (s.1 60)
set_option maxRecDepth 100000 in
theorem e_counterexample {g : GT} {s : St} {w : Int32} (hw : HW g) {K : St → MHeap} {o : Nat} {r : Nat → Nat} (V : View (GG g) Ln K o r) (hr : f_counterexample s = some w) : EvC (GG g) M_counterexample [.ref o] (K s) ((some (.int w)), (K s)) := by
  refine EvC.enter (L0 := [.val (.ref o)]) pl_counterexample (fun h => nomatch h) rfl rfl ?_
  unfold f_counterexample at hr
  refine Ev.aloadN (d34 0 rfl) rfl ?_
  refine Ev.gI V (ww hw 138 rfl) (d34 1 rfl) (j := 60) rfl rfl ?_
  cases hr
  exact Ev.ireturn rfl (d34 2 rfl)
def f_runStep_87 (n : Nat) (x1 : Int32) (s : St) : Option (Int32 × St) :=
  (f_advance n s x1).bind fun q1 =>
  some (q1, s)
set_option maxRecDepth 100000 in
theorem e_runStep_87 {g : GT} {n : Nat} (hw : HW g) {K : St → MHeap} {o : Nat} {r : Nat → Nat} (V : View (GG g) Ln K o r) (x1 : Int32) (s : St) (y2 : Slot) (hy2 : one1 y2 = true) (y3 : Slot) (hy3 : one1 y3 = true) (y4 : Slot) (hy4 : one1 y4 = true) (w : Int32 × St) (hr : f_runStep_87 n x1 s = some w) : Ev (GG g) M_runStep 87 [.val (.ref o), .val (.int x1), y2, y3, y4] [] (K s) ((some (.int w.1)), (K w.2)) := by
  unfold f_runStep_87 at hr
  refine Ev.aloadN (d39 50 rfl) rfl ?_
  refine Ev.iloadN (d39 51 rfl) rfl ?_
  obtain ⟨q1, hq2, hr⟩ := Option.bind_eq_some_iff.mp hr
  refine Ev.priv (y := M_advance) (args := [.int x1]) (rest := []) (gok hw) rfl nm_advance (ww hw 298 rfl) (ww hw 299 rfl) (ww hw 300 rfl) (ww hw 301 rfl) (lenOf pd_advance rfl) (d39 52 rfl) (V.2.1 s) (e_advance hw V hq2) (by decide) (Nat.le_of_ble_eq_true rfl) rfl ?_
  cases hr
  exact Ev.ireturn rfl (d39 53 rfl)
def f_runStep_109 (n : Nat) (z0 : Int32) (z1 : Int32) (s : St) : Option (Int32 × St) :=
  (f_enter n s z1 z0).bind fun q1 =>
  some (q1, s)
set_option maxRecDepth 100000 in
theorem e_runStep_109 {g : GT} {n : Nat} (hw : HW g) {K : St → MHeap} {o : Nat} {r : Nat → Nat} (V : View (GG g) Ln K o r) (z0 : Int32) (z1 : Int32) (s : St) (y0 : Slot) (hy0 : one1 y0 = true) (y1 : Slot) (hy1 : one1 y1 = true) (y2 : Slot) (hy2 : one1 y2 = true) (y3 : Slot) (hy3 : one1 y3 = true) (y4 : Slot) (hy4 : one1 y4 = true) (w : Int32 × St) (hr : f_runStep_109 n z0 z1 s = some w) : Ev (GG g) M_runStep 109 [y0, y1, y2, y3, y4] [.int z0, .int z1, .ref o] (K s) ((some (.int w.1)), (K w.2)) := by
  unfold f_runStep_109 at hr
  obtain ⟨q1, hq2, hr⟩ := Option.bind_eq_some_iff.mp hr
  refine Ev.priv (y := M_enter) (args := [.int z1, .int z0]) (rest := []) (gok hw) rfl nm_enter (ww hw 290 rfl) (ww hw 291 rfl) (ww hw 292 rfl) (ww hw 293 rfl) (lenOf pd_enter rfl) (d39 64 rfl) (V.2.1 s) (e_enter hw V hq2) (by decide) (Nat.le_of_ble_eq_true rfl) rfl ?_
  cases hr
  exact Ev.ireturn rfl (d39 65 rfl)
def f_runStep (n : Nat) (a0 : Int32) (s : St) : Option (Int32 × St) :=
  if a0 < 0 then
    some ((-1 : Int32), s)
  else
    if a0 < (s.1 64) then
      grd (inb a0 64) <|
      (f_evalF n ((2 : Int32) + ((2 : Int32) * a0)) (s.1 71) (s.1 72) (s.1 73) s).bind fun q4 =>
      if (s.2 43 (ix a0)) = 0 then
        if (q4.2.2 44 (ix a0)) = 0 then
          bnd (setI q4.2 71 q4.1) fun s8 =>
          f_runStep_87 n a0 s8
        else
          if (q4.2.2 44 (ix a0)) = (1 : Int32) then
            bnd (setI q4.2 72 q4.1) fun s10 =>
            f_runStep_87 n a0 s10
          else
            bnd (setI q4.2 73 q4.1) fun s11 =>
            f_runStep_87 n a0 s11
      else
        if (s.2 43 (ix a0)) = (1 : Int32) then
          if q4.1 = 0 then
            f_runStep_109 n (1 : Int32) a0 q4.2
          else
            f_runStep_109 n (0 : Int32) a0 q4.2
        else
          if q4.1 = 0 then
            (f_advance n q4.2 a0).bind fun q15 =>
            some (q15, q4.2)
          else
            (f_enter n q4.2 a0 (0 : Int32)).bind fun q17 =>
            some (q17, q4.2)
    else
      some ((-1 : Int32), s)
set_option maxRecDepth 100000 in
theorem e_runStep {g : GT} {n : Nat} {a0 : Int32} {s : St} {w : Int32 × St} (hw : HW g) {K : St → MHeap} {o : Nat} {r : Nat → Nat} (V : View (GG g) Ln K o r) (hr : f_runStep n a0 s = some w) : EvC (GG g) M_runStep [.ref o, .int a0] (K s) ((some (.int w.1)), (K w.2)) := by
  refine EvC.enter (L0 := [.val (.ref o), .val (.int a0), .unset, .unset, .unset]) pl_runStep (fun h => nomatch h) rfl rfl ?_
  unfold f_runStep at hr
  refine Ev.iloadN (d39 0 rfl) rfl ?_
  refine Ev.iflt (t := 12) (d39 1 rfl) rfl (fun c1 => ?_) (fun c1 => ?_)
  · replace hr := (if_pos c1).symm.trans hr
    refine Ev.iconst (z := -1) (d39 6 rfl) rfl ?_
    cases hr
    exact Ev.ireturn rfl (d39 7 rfl)
  · replace hr := (if_neg c1).symm.trans hr
    refine Ev.iloadN (d39 2 rfl) rfl ?_
    refine Ev.aloadN (d39 3 rfl) rfl ?_
    refine Ev.gI V (ww hw 168 rfl) (d39 4 rfl) (j := 64) rfl rfl ?_
    refine Ev.iclt (t := 14) (d39 5 rfl) rfl (fun c2 => ?_) (fun c2 => ?_)
    · replace hr := (if_pos c2).symm.trans hr
      refine Ev.aloadN (d39 8 rfl) rfl ?_
      refine Ev.gAr V (ww hw 100 rfl) (d39 9 rfl) (j := 43) rfl ?_
      refine Ev.iloadN (d39 10 rfl) rfl ?_
      obtain ⟨b3, hr⟩ := grd_some hr
      refine Ev.ial V (j := 43) rfl rfl (d39 11 rfl) b3 ?_
      refine Ev.istDN (L' := [.val (.ref o), .val (.int a0), .val (.int (s.2 43 (ix a0))), .unset, .unset]) (d39 12 rfl) rfl rfl rfl ?_
      refine Ev.aloadN (d39 13 rfl) rfl ?_
      refine Ev.iconst (z := 2) (d39 14 rfl) rfl ?_
      refine Ev.iconst (z := 2) (d39 15 rfl) rfl ?_
      refine Ev.iloadN (d39 16 rfl) rfl ?_
      refine Ev.imul (d39 17 rfl) ?_
      refine Ev.iadd (d39 18 rfl) ?_
      refine Ev.aloadN (d39 19 rfl) rfl ?_
      refine Ev.gI V (ww hw 307 rfl) (d39 20 rfl) (j := 71) rfl rfl ?_
      refine Ev.aloadN (d39 21 rfl) rfl ?_
      refine Ev.gI V (ww hw 309 rfl) (d39 22 rfl) (j := 72) rfl rfl ?_
      refine Ev.aloadN (d39 23 rfl) rfl ?_
      refine Ev.gI V (ww hw 311 rfl) (d39 24 rfl) (j := 73) rfl rfl ?_
      obtain ⟨q4, hq5, hr⟩ := Option.bind_eq_some_iff.mp hr
      refine Ev.priv (y := M_evalF) (args := [.int ((2 : Int32) + ((2 : Int32) * a0)), .int (s.1 71), .int (s.1 72), .int (s.1 73)]) (rest := []) (gok hw) rfl nm_evalF (ww hw 269 rfl) (ww hw 270 rfl) (ww hw 271 rfl) (ww hw 272 rfl) (lenOf pd_evalF rfl) (d39 25 rfl) (V.2.1 s) (e_evalF hw V hq5) (by decide) (Nat.le_of_ble_eq_true rfl) rfl ?_
      refine Ev.istDN (L' := [.val (.ref o), .val (.int a0), .val (.int (s.2 43 (ix a0))), .val (.int q4.1), .unset]) (d39 26 rfl) rfl rfl rfl ?_
      refine Ev.iloadN (d39 27 rfl) rfl ?_
      refine Ev.ifne (t := 93) (d39 28 rfl) rfl (fun c6 => ?_) (fun c6 => ?_)
      · replace hr := (if_pos c6).symm.trans hr
        refine Ev.aloadN (d39 29 rfl) rfl ?_
        refine Ev.gAr V (ww hw 102 rfl) (d39 30 rfl) (j := 44) rfl ?_
        refine Ev.iloadN (d39 31 rfl) rfl ?_
        refine Ev.ial V (j := 44) rfl rfl (d39 32 rfl) b3 ?_
        refine Ev.istD (L' := [.val (.ref o), .val (.int a0), .val (.int (s.2 43 (ix a0))), .val (.int q4.1), .val (.int (q4.2.2 44 (ix a0)))]) (d39 33 rfl) rfl rfl rfl ?_
        refine Ev.iload (d39 34 rfl) rfl ?_
        refine Ev.ifne (t := 68) (d39 35 rfl) rfl (fun c7 => ?_) (fun c7 => ?_)
        · replace hr := (if_pos c7).symm.trans hr
          refine Ev.aloadN (d39 36 rfl) rfl ?_
          refine Ev.iloadN (d39 37 rfl) rfl ?_
          refine Ev.pI V (gok hw) (ww hw 307 rfl) (Or.inl (ww hw 308 rfl)) (d39 38 rfl) (j := 71) rfl ?_
          revert hr
          generalize setI q4.2 71 q4.1 = s8
          intro hr
          replace hr := (bnd_eq _ _).symm.trans hr
          refine Ev.goto (t := 87) (d39 39 rfl) rfl ?_
          exact e_runStep_87 hw V  a0 s8 (.val (.int (s.2 43 (ix a0)))) rfl (.val (.int q4.1)) rfl (.val (.int (q4.2.2 44 (ix a0)))) rfl _ hr
        · replace hr := (if_neg c7).symm.trans hr
          refine Ev.iload (d39 40 rfl) rfl ?_
          refine Ev.iconst (z := 1) (d39 41 rfl) rfl ?_
          refine Ev.icne (t := 82) (d39 42 rfl) rfl (fun c9 => ?_) (fun c9 => ?_)
          · replace hr := (if_pos c9).symm.trans hr
            refine Ev.aloadN (d39 43 rfl) rfl ?_
            refine Ev.iloadN (d39 44 rfl) rfl ?_
            refine Ev.pI V (gok hw) (ww hw 309 rfl) (Or.inl (ww hw 310 rfl)) (d39 45 rfl) (j := 72) rfl ?_
            revert hr
            generalize setI q4.2 72 q4.1 = s10
            intro hr
            replace hr := (bnd_eq _ _).symm.trans hr
            refine Ev.goto (t := 87) (d39 46 rfl) rfl ?_
            exact e_runStep_87 hw V  a0 s10 (.val (.int (s.2 43 (ix a0)))) rfl (.val (.int q4.1)) rfl (.val (.int (q4.2.2 44 (ix a0)))) rfl _ hr
          · replace hr := (if_neg c9).symm.trans hr
            refine Ev.aloadN (d39 47 rfl) rfl ?_
            refine Ev.iloadN (d39 48 rfl) rfl ?_
            refine Ev.pI V (gok hw) (ww hw 311 rfl) (Or.inl (ww hw 312 rfl)) (d39 49 rfl) (j := 73) rfl ?_
            revert hr
            generalize setI q4.2 73 q4.1 = s11
            intro hr
            replace hr := (bnd_eq _ _).symm.trans hr
            exact e_runStep_87 hw V  a0 s11 (.val (.int (s.2 43 (ix a0)))) rfl (.val (.int q4.1)) rfl (.val (.int (q4.2.2 44 (ix a0)))) rfl _ hr
      · replace hr := (if_neg c6).symm.trans hr
        refine Ev.iloadN (d39 54 rfl) rfl ?_
        refine Ev.iconst (z := 1) (d39 55 rfl) rfl ?_
        refine Ev.icne (t := 113) (d39 56 rfl) rfl (fun c12 => ?_) (fun c12 => ?_)
        · replace hr := (if_pos c12).symm.trans hr
          refine Ev.aloadN (d39 57 rfl) rfl ?_
          refine Ev.iloadN (d39 58 rfl) rfl ?_
          refine Ev.iloadN (d39 59 rfl) rfl ?_
          refine Ev.ifeq (t := 108) (d39 60 rfl) rfl (fun c13 => ?_) (fun c13 => ?_)
          · replace hr := (if_pos c13).symm.trans hr
            refine Ev.iconst (z := 1) (d39 63 rfl) rfl ?_
            exact e_runStep_109 hw V  (1 : Int32) a0 q4.2 (.val (.ref o)) rfl (.val (.int a0)) rfl (.val (.int (s.2 43 (ix a0)))) rfl (.val (.int q4.1)) rfl .unset rfl _ hr
          · replace hr := (if_neg c13).symm.trans hr
            refine Ev.iconst (z := 0) (d39 61 rfl) rfl ?_
            refine Ev.goto (t := 109) (d39 62 rfl) rfl ?_
            exact e_runStep_109 hw V  (0 : Int32) a0 q4.2 (.val (.ref o)) rfl (.val (.int a0)) rfl (.val (.int (s.2 43 (ix a0)))) rfl (.val (.int q4.1)) rfl .unset rfl _ hr
        · replace hr := (if_neg c12).symm.trans hr
          refine Ev.iloadN (d39 66 rfl) rfl ?_
          refine Ev.ifeq (t := 124) (d39 67 rfl) rfl (fun c14 => ?_) (fun c14 => ?_)
          · replace hr := (if_pos c14).symm.trans hr
            refine Ev.aloadN (d39 73 rfl) rfl ?_
            refine Ev.iloadN (d39 74 rfl) rfl ?_
            obtain ⟨q15, hq16, hr⟩ := Option.bind_eq_some_iff.mp hr
            refine Ev.priv (y := M_advance) (args := [.int a0]) (rest := []) (gok hw) rfl nm_advance (ww hw 298 rfl) (ww hw 299 rfl) (ww hw 300 rfl) (ww hw 301 rfl) (lenOf pd_advance rfl) (d39 75 rfl) (V.2.1 q4.2) (e_advance hw V hq16) (by decide) (Nat.le_of_ble_eq_true rfl) rfl ?_
            cases hr
            exact Ev.ireturn rfl (d39 76 rfl)
          · replace hr := (if_neg c14).symm.trans hr
            refine Ev.aloadN (d39 68 rfl) rfl ?_
            refine Ev.iloadN (d39 69 rfl) rfl ?_
            refine Ev.iconst (z := 0) (d39 70 rfl) rfl ?_
            obtain ⟨q17, hq18, hr⟩ := Option.bind_eq_some_iff.mp hr
            refine Ev.priv (y := M_enter) (args := [.int a0, .int (0 : Int32)]) (rest := []) (gok hw) rfl nm_enter (ww hw 290 rfl) (ww hw 291 rfl) (ww hw 292 rfl) (ww hw 293 rfl) (lenOf pd_enter rfl) (d39 71 rfl) (V.2.1 q4.2) (e_enter hw V hq18) (by decide) (Nat.le_of_ble_eq_true rfl) rfl ?_
            cases hr
            exact Ev.ireturn rfl (d39 72 rfl)
    · replace hr := (if_neg c2).symm.trans hr
      refine Ev.iconst (z := -1) (d39 6 rfl) rfl ?_
      cases hr
      exact Ev.ireturn rfl (d39 7 rfl)
def f_run_140 (n : Nat) (x6 : Int32) (x8 : Int32) (s : St) : Option (Int32 × St) :=
  bnd (setI s 61 ((1 : Int32) &&& 1)) fun s1 =>
  bnd (setI s1 74 (s1.1 71)) fun s2 =>
  bnd (setI s2 75 (s2.1 72)) fun s3 =>
  bnd (setI s3 76 (s3.1 73)) fun s4 =>
  bnd (setI s4 77 x6) fun s5 =>
  some (x8, s5)
set_option maxRecDepth 100000 in
theorem e_run_140 {g : GT} {n : Nat} (hw : HW g) {K : St → MHeap} {o : Nat} {r : Nat → Nat} (V : View (GG g) Ln K o r) (x6 : Int32) (x8 : Int32) (s : St) (y1 : Slot) (hy1 : one1 y1 = true) (y2 : Slot) (hy2 : one1 y2 = true) (y3 : Slot) (hy3 : one1 y3 = true) (y4 : Slot) (hy4 : one1 y4 = true) (y5 : Slot) (hy5 : one1 y5 = true) (y7 : Slot) (hy7 : one1 y7 = true) (y9 : Slot) (hy9 : one1 y9 = true) (w : Int32 × St) (hr : f_run_140 n x6 x8 s = some w) : Ev (GG g) M_run 140 [.val (.ref o), y1, y2, y3, y4, y5, .val (.int x6), y7, .val (.int x8), y9] [] (K s) ((some (.int w.1)), (K w.2)) := by
  unfold f_run_140 at hr
  refine Ev.aloadN (d38 70 rfl) rfl ?_
  refine Ev.iconst (z := 1) (d38 71 rfl) rfl ?_
  refine Ev.pZ V (gok hw) (ww hw 140 rfl) (Or.inl (ww hw 141 rfl)) (d38 72 rfl) (j := 61) rfl ?_
  revert hr
  generalize setI s 61 ((1 : Int32) &&& 1) = s1
  intro hr
  replace hr := (bnd_eq _ _).symm.trans hr
  refine Ev.aloadN (d38 73 rfl) rfl ?_
  refine Ev.aloadN (d38 74 rfl) rfl ?_
  refine Ev.gI V (ww hw 307 rfl) (d38 75 rfl) (j := 71) rfl rfl ?_
  refine Ev.pI V (gok hw) (ww hw 317 rfl) (Or.inl (ww hw 318 rfl)) (d38 76 rfl) (j := 74) rfl ?_
  revert hr
  generalize setI s1 74 (s1.1 71) = s2
  intro hr
  replace hr := (bnd_eq _ _).symm.trans hr
  refine Ev.aloadN (d38 77 rfl) rfl ?_
  refine Ev.aloadN (d38 78 rfl) rfl ?_
  refine Ev.gI V (ww hw 309 rfl) (d38 79 rfl) (j := 72) rfl rfl ?_
  refine Ev.pI V (gok hw) (ww hw 319 rfl) (Or.inl (ww hw 320 rfl)) (d38 80 rfl) (j := 75) rfl ?_
  revert hr
  generalize setI s2 75 (s2.1 72) = s3
  intro hr
  replace hr := (bnd_eq _ _).symm.trans hr
  refine Ev.aloadN (d38 81 rfl) rfl ?_
  refine Ev.aloadN (d38 82 rfl) rfl ?_
  refine Ev.gI V (ww hw 311 rfl) (d38 83 rfl) (j := 73) rfl rfl ?_
  refine Ev.pI V (gok hw) (ww hw 321 rfl) (Or.inl (ww hw 322 rfl)) (d38 84 rfl) (j := 76) rfl ?_
  revert hr
  generalize setI s3 76 (s3.1 73) = s4
  intro hr
  replace hr := (bnd_eq _ _).symm.trans hr
  refine Ev.aloadN (d38 85 rfl) rfl ?_
  refine Ev.iload (d38 86 rfl) rfl ?_
  refine Ev.pI V (gok hw) (ww hw 323 rfl) (Or.inl (ww hw 324 rfl)) (d38 87 rfl) (j := 77) rfl ?_
  revert hr
  generalize setI s4 77 x6 = s5
  intro hr
  replace hr := (bnd_eq _ _).symm.trans hr
  refine Ev.iload (d38 88 rfl) rfl ?_
  cases hr
  exact Ev.ireturn rfl (d38 89 rfl)
def f_run_74 (n : Nat) : Nat → Int32 → Int32 → Int32 → Int32 → Int32 → St → Option (Int32 × St)
  | 0 => fun _ _ _ _ _ _ => none
  | k + 1 => fun x5 x6 x7 x8 x9 s =>
    if x9 < (9000 : Int32) then
      if x7 = (-1 : Int32) then
        f_run_140 n x6 (3 : Int32) s
      else
        if x7 < (-1 : Int32) then
          f_run_74 n k x5 x6 ((-2 : Int32) - x7) x8 (x9 + (1 : Int32)) s
        else
          if x6 = x5 then
            f_run_140 n x6 (4 : Int32) s
          else
            (f_runStep n x7 s).bind fun q5 =>
            f_run_74 n k x5 (x6 + (1 : Int32)) q5.1 x8 (x9 + (1 : Int32)) q5.2
    else
      f_run_140 n x6 x8 s
set_option maxRecDepth 100000 in
theorem e_run_74 {g : GT} {n : Nat} (hw : HW g) {K : St → MHeap} {o : Nat} {r : Nat → Nat} (V : View (GG g) Ln K o r) (k : Nat) : ∀ (x5 : Int32) (x6 : Int32) (x7 : Int32) (x8 : Int32) (x9 : Int32) (s : St) (y1 : Slot) (hy1 : one1 y1 = true) (y2 : Slot) (hy2 : one1 y2 = true) (y3 : Slot) (hy3 : one1 y3 = true) (y4 : Slot) (hy4 : one1 y4 = true) (w : Int32 × St), f_run_74 n k x5 x6 x7 x8 x9 s = some w → Ev (GG g) M_run 74 [.val (.ref o), y1, y2, y3, y4, .val (.int x5), .val (.int x6), .val (.int x7), .val (.int x8), .val (.int x9)] [] (K s) ((some (.int w.1)), (K w.2)) := by
  induction k with
  | zero => intro x5 x6 x7 x8 x9 s y1 hy1 y2 hy2 y3 hy3 y4 hy4 w hr; rw [f_run_74] at hr; cases hr
  | succ k ih =>
    intro x5 x6 x7 x8 x9 s y1 hy1 y2 hy2 y3 hy3 y4 hy4 w hr
    rw [f_run_74] at hr
    refine Ev.iload (d38 40 rfl) rfl ?_
    refine Ev.sipush (z := 9000) (d38 41 rfl) rfl ?_
    refine Ev.icge (t := 140) (d38 42 rfl) rfl (fun c1 => ?_) (fun c1 => ?_)
    · replace hr := (if_pos c1).symm.trans hr
      refine Ev.iload (d38 43 rfl) rfl ?_
      refine Ev.iconst (z := -1) (d38 44 rfl) rfl ?_
      refine Ev.icne (t := 94) (d38 45 rfl) rfl (fun c2 => ?_) (fun c2 => ?_)
      · replace hr := (if_pos c2).symm.trans hr
        refine Ev.iconst (z := 3) (d38 46 rfl) rfl ?_
        refine Ev.istD (L' := [.val (.ref o), y1, y2, y3, y4, .val (.int x5), .val (.int x6), .val (.int x7), .val (.int (3 : Int32)), .val (.int x9)]) (d38 47 rfl) rfl rfl rfl ?_
        refine Ev.goto (t := 140) (d38 48 rfl) rfl ?_
        exact e_run_140 hw V  x6 (3 : Int32) s y1 hy1 y2 hy2 y3 hy3 y4 hy4 (.val (.int x5)) rfl (.val (.int x7)) rfl (.val (.int x9)) rfl _ hr
      · replace hr := (if_neg c2).symm.trans hr
        refine Ev.iload (d38 49 rfl) rfl ?_
        refine Ev.iconst (z := -1) (d38 50 rfl) rfl ?_
        refine Ev.icge (t := 110) (d38 51 rfl) rfl (fun c3 => ?_) (fun c3 => ?_)
        · replace hr := (if_pos c3).symm.trans hr
          refine Ev.bipush (z := -2) (d38 52 rfl) rfl ?_
          refine Ev.iload (d38 53 rfl) rfl ?_
          refine Ev.isub (d38 54 rfl) ?_
          refine Ev.istD (L' := [.val (.ref o), y1, y2, y3, y4, .val (.int x5), .val (.int x6), .val (.int ((-2 : Int32) - x7)), .val (.int x8), .val (.int x9)]) (d38 55 rfl) rfl rfl rfl ?_
          refine Ev.goto (t := 134) (d38 56 rfl) rfl ?_
          refine Ev.iinc (z := 1) (L' := [.val (.ref o), y1, y2, y3, y4, .val (.int x5), .val (.int x6), .val (.int ((-2 : Int32) - x7)), .val (.int x8), .val (.int (x9 + (1 : Int32)))]) (d38 68 rfl) rfl rfl rfl ?_
          refine Ev.goto (t := 74) (d38 69 rfl) rfl ?_
          exact ih x5 x6 ((-2 : Int32) - x7) x8 (x9 + (1 : Int32)) s y1 hy1 y2 hy2 y3 hy3 y4 hy4 _ hr
        · replace hr := (if_neg c3).symm.trans hr
          refine Ev.iload (d38 57 rfl) rfl ?_
          refine Ev.iload (d38 58 rfl) rfl ?_
          refine Ev.icne (t := 123) (d38 59 rfl) rfl (fun c4 => ?_) (fun c4 => ?_)
          · replace hr := (if_pos c4).symm.trans hr
            refine Ev.iconst (z := 4) (d38 60 rfl) rfl ?_
            refine Ev.istD (L' := [.val (.ref o), y1, y2, y3, y4, .val (.int x5), .val (.int x6), .val (.int x7), .val (.int (4 : Int32)), .val (.int x9)]) (d38 61 rfl) rfl rfl rfl ?_
            refine Ev.goto (t := 140) (d38 62 rfl) rfl ?_
            exact e_run_140 hw V  x6 (4 : Int32) s y1 hy1 y2 hy2 y3 hy3 y4 hy4 (.val (.int x5)) rfl (.val (.int x7)) rfl (.val (.int x9)) rfl _ hr
          · replace hr := (if_neg c4).symm.trans hr
            refine Ev.iinc (z := 1) (L' := [.val (.ref o), y1, y2, y3, y4, .val (.int x5), .val (.int (x6 + (1 : Int32))), .val (.int x7), .val (.int x8), .val (.int x9)]) (d38 63 rfl) rfl rfl rfl ?_
            refine Ev.aloadN (d38 64 rfl) rfl ?_
            refine Ev.iload (d38 65 rfl) rfl ?_
            obtain ⟨q5, hq6, hr⟩ := Option.bind_eq_some_iff.mp hr
            refine Ev.priv (y := M_runStep) (args := [.int x7]) (rest := []) (gok hw) rfl nm_runStep (ww hw 313 rfl) (ww hw 314 rfl) (ww hw 315 rfl) (ww hw 316 rfl) (lenOf pd_runStep rfl) (d38 66 rfl) (V.2.1 s) (e_runStep hw V hq6) (by decide) (Nat.le_of_ble_eq_true rfl) rfl ?_
            refine Ev.istD (L' := [.val (.ref o), y1, y2, y3, y4, .val (.int x5), .val (.int (x6 + (1 : Int32))), .val (.int q5.1), .val (.int x8), .val (.int x9)]) (d38 67 rfl) rfl rfl rfl ?_
            refine Ev.iinc (z := 1) (L' := [.val (.ref o), y1, y2, y3, y4, .val (.int x5), .val (.int (x6 + (1 : Int32))), .val (.int q5.1), .val (.int x8), .val (.int (x9 + (1 : Int32)))]) (d38 68 rfl) rfl rfl rfl ?_
            refine Ev.goto (t := 74) (d38 69 rfl) rfl ?_
            exact ih x5 (x6 + (1 : Int32)) q5.1 x8 (x9 + (1 : Int32)) q5.2 y1 hy1 y2 hy2 y3 hy3 y4 hy4 _ hr
    · replace hr := (if_neg c1).symm.trans hr
      exact e_run_140 hw V  x6 x8 s y1 hy1 y2 hy2 y3 hy3 y4 hy4 (.val (.int x5)) rfl (.val (.int x7)) rfl (.val (.int x9)) rfl _ hr
def f_run_35 (n : Nat) (x1 : Int32) (x2 : Int32) (x3 : Int32) (x5 : Int32) (s : St) : Option (Int32 × St) :=
  bnd (setI s 71 (x1 &&& (15 : Int32))) fun s1 =>
  bnd (setI s1 72 (x2 &&& (15 : Int32))) fun s2 =>
  bnd (setI s2 73 (x3 &&& (15 : Int32))) fun s3 =>
  f_run_74 n n x5 (0 : Int32) (s3.1 67) (4 : Int32) (0 : Int32) s3
set_option maxRecDepth 100000 in
theorem e_run_35 {g : GT} {n : Nat} (hw : HW g) {K : St → MHeap} {o : Nat} {r : Nat → Nat} (V : View (GG g) Ln K o r) (x1 : Int32) (x2 : Int32) (x3 : Int32) (x5 : Int32) (s : St) (y4 : Slot) (hy4 : one1 y4 = true) (y6 : Slot) (hy6 : one1 y6 = true) (y7 : Slot) (hy7 : one1 y7 = true) (y8 : Slot) (hy8 : one1 y8 = true) (y9 : Slot) (hy9 : one1 y9 = true) (w : Int32 × St) (hr : f_run_35 n x1 x2 x3 x5 s = some w) : Ev (GG g) M_run 35 [.val (.ref o), .val (.int x1), .val (.int x2), .val (.int x3), y4, .val (.int x5), y6, y7, y8, y9] [] (K s) ((some (.int w.1)), (K w.2)) := by
  unfold f_run_35 at hr
  refine Ev.aloadN (d38 16 rfl) rfl ?_
  refine Ev.iloadN (d38 17 rfl) rfl ?_
  refine Ev.bipush (z := 15) (d38 18 rfl) rfl ?_
  refine Ev.iand (d38 19 rfl) ?_
  refine Ev.pI V (gok hw) (ww hw 307 rfl) (Or.inl (ww hw 308 rfl)) (d38 20 rfl) (j := 71) rfl ?_
  revert hr
  generalize setI s 71 (x1 &&& (15 : Int32)) = s1
  intro hr
  replace hr := (bnd_eq _ _).symm.trans hr
  refine Ev.aloadN (d38 21 rfl) rfl ?_
  refine Ev.iloadN (d38 22 rfl) rfl ?_
  refine Ev.bipush (z := 15) (d38 23 rfl) rfl ?_
  refine Ev.iand (d38 24 rfl) ?_
  refine Ev.pI V (gok hw) (ww hw 309 rfl) (Or.inl (ww hw 310 rfl)) (d38 25 rfl) (j := 72) rfl ?_
  revert hr
  generalize setI s1 72 (x2 &&& (15 : Int32)) = s2
  intro hr
  replace hr := (bnd_eq _ _).symm.trans hr
  refine Ev.aloadN (d38 26 rfl) rfl ?_
  refine Ev.iloadN (d38 27 rfl) rfl ?_
  refine Ev.bipush (z := 15) (d38 28 rfl) rfl ?_
  refine Ev.iand (d38 29 rfl) ?_
  refine Ev.pI V (gok hw) (ww hw 311 rfl) (Or.inl (ww hw 312 rfl)) (d38 30 rfl) (j := 73) rfl ?_
  revert hr
  generalize setI s2 73 (x3 &&& (15 : Int32)) = s3
  intro hr
  replace hr := (bnd_eq _ _).symm.trans hr
  refine Ev.iconst (z := 0) (d38 31 rfl) rfl ?_
  refine Ev.istD (L' := [.val (.ref o), .val (.int x1), .val (.int x2), .val (.int x3), y4, .val (.int x5), .val (.int (0 : Int32)), y7, y8, y9]) (d38 32 rfl) rfl hy6 rfl ?_
  refine Ev.aloadN (d38 33 rfl) rfl ?_
  refine Ev.gI V (ww hw 174 rfl) (d38 34 rfl) (j := 67) rfl rfl ?_
  refine Ev.istD (L' := [.val (.ref o), .val (.int x1), .val (.int x2), .val (.int x3), y4, .val (.int x5), .val (.int (0 : Int32)), .val (.int (s3.1 67)), y8, y9]) (d38 35 rfl) rfl hy7 rfl ?_
  refine Ev.iconst (z := 4) (d38 36 rfl) rfl ?_
  refine Ev.istD (L' := [.val (.ref o), .val (.int x1), .val (.int x2), .val (.int x3), y4, .val (.int x5), .val (.int (0 : Int32)), .val (.int (s3.1 67)), .val (.int (4 : Int32)), y9]) (d38 37 rfl) rfl hy8 rfl ?_
  refine Ev.iconst (z := 0) (d38 38 rfl) rfl ?_
  refine Ev.istD (L' := [.val (.ref o), .val (.int x1), .val (.int x2), .val (.int x3), y4, .val (.int x5), .val (.int (0 : Int32)), .val (.int (s3.1 67)), .val (.int (4 : Int32)), .val (.int (0 : Int32))]) (d38 39 rfl) rfl hy9 rfl ?_
  exact e_run_74 hw V  n x5 (0 : Int32) (s3.1 67) (4 : Int32) (0 : Int32) s3 (.val (.int x1)) rfl (.val (.int x2)) rfl (.val (.int x3)) rfl y4 hy4 _ hr
def f_run_22 (n : Nat) (x1 : Int32) (x2 : Int32) (x3 : Int32) (x5 : Int32) (s : St) : Option (Int32 × St) :=
  if (4096 : Int32) < x5 then
    f_run_35 n x1 x2 x3 (4096 : Int32) s
  else
    f_run_35 n x1 x2 x3 x5 s
set_option maxRecDepth 100000 in
theorem e_run_22 {g : GT} {n : Nat} (hw : HW g) {K : St → MHeap} {o : Nat} {r : Nat → Nat} (V : View (GG g) Ln K o r) (x1 : Int32) (x2 : Int32) (x3 : Int32) (x5 : Int32) (s : St) (y4 : Slot) (hy4 : one1 y4 = true) (y6 : Slot) (hy6 : one1 y6 = true) (y7 : Slot) (hy7 : one1 y7 = true) (y8 : Slot) (hy8 : one1 y8 = true) (y9 : Slot) (hy9 : one1 y9 = true) (w : Int32 × St) (hr : f_run_22 n x1 x2 x3 x5 s = some w) : Ev (GG g) M_run 22 [.val (.ref o), .val (.int x1), .val (.int x2), .val (.int x3), y4, .val (.int x5), y6, y7, y8, y9] [] (K s) ((some (.int w.1)), (K w.2)) := by
  unfold f_run_22 at hr
  refine Ev.iload (d38 11 rfl) rfl ?_
  refine Ev.sipush (z := 4096) (d38 12 rfl) rfl ?_
  refine Ev.icle (t := 35) (d38 13 rfl) rfl (fun c1 => ?_) (fun c1 => ?_)
  · replace hr := (if_pos c1).symm.trans hr
    refine Ev.sipush (z := 4096) (d38 14 rfl) rfl ?_
    refine Ev.istD (L' := [.val (.ref o), .val (.int x1), .val (.int x2), .val (.int x3), y4, .val (.int (4096 : Int32)), y6, y7, y8, y9]) (d38 15 rfl) rfl rfl rfl ?_
    exact e_run_35 hw V  x1 x2 x3 (4096 : Int32) s y4 hy4 y6 hy6 y7 hy7 y8 hy8 y9 hy9 _ hr
  · replace hr := (if_neg c1).symm.trans hr
    exact e_run_35 hw V  x1 x2 x3 x5 s y4 hy4 y6 hy6 y7 hy7 y8 hy8 y9 hy9 _ hr
def f_run (n : Nat) (a0 : Int32) (a1 : Int32) (a2 : Int32) (a3 : Int32) (s : St) : Option (Int32 × St) :=
  if (s.1 58) = 0 then
    some ((-4 : Int32), s)
  else
    if a3 < 0 then
      f_run_22 n a0 a1 a2 (0 : Int32) s
    else
      f_run_22 n a0 a1 a2 a3 s
set_option maxRecDepth 100000 in
theorem e_run {g : GT} {n : Nat} {a0 : Int32} {a1 : Int32} {a2 : Int32} {a3 : Int32} {s : St} {w : Int32 × St} (hw : HW g) {K : St → MHeap} {o : Nat} {r : Nat → Nat} (V : View (GG g) Ln K o r) (hr : f_run n a0 a1 a2 a3 s = some w) : EvC (GG g) M_run [.ref o, .int a0, .int a1, .int a2, .int a3] (K s) ((some (.int w.1)), (K w.2)) := by
  refine EvC.enter (L0 := [.val (.ref o), .val (.int a0), .val (.int a1), .val (.int a2), .val (.int a3), .unset, .unset, .unset, .unset, .unset]) pl_run (fun h => nomatch h) rfl rfl ?_
  unfold f_run at hr
  refine Ev.aloadN (d38 0 rfl) rfl ?_
  refine Ev.gI V (ww hw 134 rfl) (d38 1 rfl) (j := 58) rfl rfl ?_
  refine Ev.ifne (t := 10) (d38 2 rfl) rfl (fun c1 => ?_) (fun c1 => ?_)
  · replace hr := (if_pos c1).symm.trans hr
    refine Ev.bipush (z := -4) (d38 3 rfl) rfl ?_
    cases hr
    exact Ev.ireturn rfl (d38 4 rfl)
  · replace hr := (if_neg c1).symm.trans hr
    refine Ev.iload (d38 5 rfl) rfl ?_
    refine Ev.istD (L' := [.val (.ref o), .val (.int a0), .val (.int a1), .val (.int a2), .val (.int a3), .val (.int a3), .unset, .unset, .unset, .unset]) (d38 6 rfl) rfl rfl rfl ?_
    refine Ev.iload (d38 7 rfl) rfl ?_
    refine Ev.ifge (t := 22) (d38 8 rfl) rfl (fun c2 => ?_) (fun c2 => ?_)
    · replace hr := (if_pos c2).symm.trans hr
      refine Ev.iconst (z := 0) (d38 9 rfl) rfl ?_
      refine Ev.istD (L' := [.val (.ref o), .val (.int a0), .val (.int a1), .val (.int a2), .val (.int a3), .val (.int (0 : Int32)), .unset, .unset, .unset, .unset]) (d38 10 rfl) rfl rfl rfl ?_
      exact e_run_22 hw V  a0 a1 a2 (0 : Int32) s (.val (.int a3)) rfl .unset rfl .unset rfl .unset rfl .unset rfl _ hr
    · replace hr := (if_neg c2).symm.trans hr
      exact e_run_22 hw V  a0 a1 a2 a3 s (.val (.int a3)) rfl .unset rfl .unset rfl .unset rfl .unset rfl _ hr
def f_stepsUsed (s : St) : Option (Int32) :=
  if (s.1 61) = 0 then
    some (-1 : Int32)
  else
    some (s.1 77)
set_option maxRecDepth 100000 in
theorem e_stepsUsed {g : GT} {s : St} {w : Int32} (hw : HW g) {K : St → MHeap} {o : Nat} {r : Nat → Nat} (V : View (GG g) Ln K o r) (hr : f_stepsUsed s = some w) : EvC (GG g) M_stepsUsed [.ref o] (K s) ((some (.int w)), (K s)) := by
  refine EvC.enter (L0 := [.val (.ref o)]) pl_stepsUsed (fun h => nomatch h) rfl rfl ?_
  unfold f_stepsUsed at hr
  refine Ev.aloadN (d40 0 rfl) rfl ?_
  refine Ev.gI V (ww hw 140 rfl) (d40 1 rfl) (j := 61) rfl rfl ?_
  refine Ev.ifne (t := 9) (d40 2 rfl) rfl (fun c1 => ?_) (fun c1 => ?_)
  · replace hr := (if_pos c1).symm.trans hr
    refine Ev.iconst (z := -1) (d40 3 rfl) rfl ?_
    cases hr
    exact Ev.ireturn rfl (d40 4 rfl)
  · replace hr := (if_neg c1).symm.trans hr
    refine Ev.aloadN (d40 5 rfl) rfl ?_
    refine Ev.gI V (ww hw 323 rfl) (d40 6 rfl) (j := 77) rfl rfl ?_
    cases hr
    exact Ev.ireturn rfl (d40 7 rfl)
def f_finalVar (s : St) (a0 : Int32) : Option (Int32) :=
  if (s.1 61) = 0 then
    some (-1 : Int32)
  else
    if a0 < 0 then
      some (-1 : Int32)
    else
      if (2 : Int32) < a0 then
        some (-1 : Int32)
      else
        if a0 = 0 then
          some (s.1 74)
        else
          if a0 = (1 : Int32) then
            some (s.1 75)
          else
            some (s.1 76)
set_option maxRecDepth 100000 in
theorem e_finalVar {g : GT} {s : St} {a0 : Int32} {w : Int32} (hw : HW g) {K : St → MHeap} {o : Nat} {r : Nat → Nat} (V : View (GG g) Ln K o r) (hr : f_finalVar s a0 = some w) : EvC (GG g) M_finalVar [.ref o, .int a0] (K s) ((some (.int w)), (K s)) := by
  refine EvC.enter (L0 := [.val (.ref o), .val (.int a0)]) pl_finalVar (fun h => nomatch h) rfl rfl ?_
  unfold f_finalVar at hr
  refine Ev.aloadN (d41 0 rfl) rfl ?_
  refine Ev.gI V (ww hw 140 rfl) (d41 1 rfl) (j := 61) rfl rfl ?_
  refine Ev.ifeq (t := 16) (d41 2 rfl) rfl (fun c1 => ?_) (fun c1 => ?_)
  · replace hr := (if_pos c1).symm.trans hr
    refine Ev.iconst (z := -1) (d41 8 rfl) rfl ?_
    cases hr
    exact Ev.ireturn rfl (d41 9 rfl)
  · replace hr := (if_neg c1).symm.trans hr
    refine Ev.iloadN (d41 3 rfl) rfl ?_
    refine Ev.iflt (t := 16) (d41 4 rfl) rfl (fun c2 => ?_) (fun c2 => ?_)
    · replace hr := (if_pos c2).symm.trans hr
      refine Ev.iconst (z := -1) (d41 8 rfl) rfl ?_
      cases hr
      exact Ev.ireturn rfl (d41 9 rfl)
    · replace hr := (if_neg c2).symm.trans hr
      refine Ev.iloadN (d41 5 rfl) rfl ?_
      refine Ev.iconst (z := 2) (d41 6 rfl) rfl ?_
      refine Ev.icle (t := 18) (d41 7 rfl) rfl (fun c3 => ?_) (fun c3 => ?_)
      · replace hr := (if_pos c3).symm.trans hr
        refine Ev.iconst (z := -1) (d41 8 rfl) rfl ?_
        cases hr
        exact Ev.ireturn rfl (d41 9 rfl)
      · replace hr := (if_neg c3).symm.trans hr
        refine Ev.iloadN (d41 10 rfl) rfl ?_
        refine Ev.ifne (t := 27) (d41 11 rfl) rfl (fun c4 => ?_) (fun c4 => ?_)
        · replace hr := (if_pos c4).symm.trans hr
          refine Ev.aloadN (d41 12 rfl) rfl ?_
          refine Ev.gI V (ww hw 317 rfl) (d41 13 rfl) (j := 74) rfl rfl ?_
          cases hr
          exact Ev.ireturn rfl (d41 14 rfl)
        · replace hr := (if_neg c4).symm.trans hr
          refine Ev.iloadN (d41 15 rfl) rfl ?_
          refine Ev.iconst (z := 1) (d41 16 rfl) rfl ?_
          refine Ev.icne (t := 37) (d41 17 rfl) rfl (fun c5 => ?_) (fun c5 => ?_)
          · replace hr := (if_pos c5).symm.trans hr
            refine Ev.aloadN (d41 18 rfl) rfl ?_
            refine Ev.gI V (ww hw 319 rfl) (d41 19 rfl) (j := 75) rfl rfl ?_
            cases hr
            exact Ev.ireturn rfl (d41 20 rfl)
          · replace hr := (if_neg c5).symm.trans hr
            refine Ev.aloadN (d41 21 rfl) rfl ?_
            refine Ev.gI V (ww hw 321 rfl) (d41 22 rfl) (j := 76) rfl rfl ?_
            cases hr
            exact Ev.ireturn rfl (d41 23 rfl)
def f_law_530 (n : Nat) (x4 : Int32) (x5 : Int32) (x18 : Int32) (x19 : Int32) (x20 : Int32) (x21 : Int32) (s : St) : Option (Int32 × St) :=
  (f_run n x4 x4 x4 x5 s).bind fun q1 =>
  (f_stepsUsed q1.2).bind fun q3 =>
  (f_finalVar q1.2 (0 : Int32)).bind fun q5 =>
  (f_finalVar q1.2 (1 : Int32)).bind fun q7 =>
  (f_finalVar q1.2 (2 : Int32)).bind fun q9 =>
  if q5 = x18 then
    if q7 = x18 then
      if x19 < x20 then
        if q1.1 = (4 : Int32) then
          if q3 = x19 then
            if q9 = (x18 + (x19 / (2 : Int32))) then
              some ((1 : Int32), q1.2)
            else
              some ((0 : Int32), q1.2)
          else
            some ((0 : Int32), q1.2)
        else
          some ((0 : Int32), q1.2)
      else
        if q1.1 = (3 : Int32) then
          if q3 = x20 then
            if q9 = x21 then
              some ((1 : Int32), q1.2)
            else
              some ((0 : Int32), q1.2)
          else
            some ((0 : Int32), q1.2)
        else
          some ((0 : Int32), q1.2)
    else
      some ((0 : Int32), q1.2)
  else
    some ((0 : Int32), q1.2)
set_option maxRecDepth 100000 in
theorem e_law_530 {g : GT} {n : Nat} (hw : HW g) {K : St → MHeap} {o : Nat} {r : Nat → Nat} (V : View (GG g) Ln K o r) (x4 : Int32) (x5 : Int32) (x18 : Int32) (x19 : Int32) (x20 : Int32) (x21 : Int32) (s : St) (y0 : Slot) (hy0 : one1 y0 = true) (y1 : Slot) (hy1 : one1 y1 = true) (y2 : Slot) (hy2 : one1 y2 = true) (y3 : Slot) (hy3 : one1 y3 = true) (y6 : Slot) (hy6 : one1 y6 = true) (y7 : Slot) (hy7 : one1 y7 = true) (y8 : Slot) (hy8 : one1 y8 = true) (y9 : Slot) (hy9 : one1 y9 = true) (y11 : Slot) (hy11 : one1 y11 = true) (y12 : Slot) (hy12 : one1 y12 = true) (y13 : Slot) (hy13 : one1 y13 = true) (y14 : Slot) (hy14 : one1 y14 = true) (y15 : Slot) (hy15 : one1 y15 = true) (y16 : Slot) (hy16 : one1 y16 = true) (y17 : Slot) (hy17 : one1 y17 = true) (y22 : Slot) (hy22 : one1 y22 = true) (y23 : Slot) (hy23 : one1 y23 = true) (y24 : Slot) (hy24 : one1 y24 = true) (y25 : Slot) (hy25 : one1 y25 = true) (y26 : Slot) (hy26 : one1 y26 = true) (w : Int32 × St) (hr : f_law_530 n x4 x5 x18 x19 x20 x21 s = some w) : Ev (GG g) M_law 530 [y0, y1, y2, y3, .val (.int x4), .val (.int x5), y6, y7, y8, y9, .val (.ref o), y11, y12, y13, y14, y15, y16, y17, .val (.int x18), .val (.int x19), .val (.int x20), .val (.int x21), y22, y23, y24, y25, y26] [] (K s) ((some (.int w.1)), (K w.2)) := by
  unfold f_law_530 at hr
  refine Ev.aload at_530 rfl ?_
  refine Ev.iload at_532 rfl ?_
  refine Ev.iload at_534 rfl ?_
  refine Ev.iload at_536 rfl ?_
  refine Ev.iload at_538 rfl ?_
  obtain ⟨q1, hq2, hr⟩ := Option.bind_eq_some_iff.mp hr
  refine Ev.virt (y := M_run) (args := [.int x4, .int x4, .int x4, .int x5]) (rest := []) (gok hw) rfl nm_run (ww hw 302 rfl) (ww hw 303 rfl) (ww hw 304 rfl) (ww hw 305 rfl) (ww hw 306 rfl) (lenOf pd_run rfl) at_540 (V.2.1 s) (e_run hw V hq2) (by decide) (Nat.le_of_ble_eq_true rfl) rfl ?_
  refine Ev.istD (L' := [y0, y1, y2, y3, .val (.int x4), .val (.int x5), y6, y7, y8, y9, .val (.ref o), y11, y12, y13, y14, y15, y16, y17, .val (.int x18), .val (.int x19), .val (.int x20), .val (.int x21), .val (.int q1.1), y23, y24, y25, y26]) at_543 rfl hy22 rfl ?_
  refine Ev.aload at_545 rfl ?_
  obtain ⟨q3, hq4, hr⟩ := Option.bind_eq_some_iff.mp hr
  refine Ev.virt (y := M_stepsUsed) (args := []) (rest := []) (gok hw) rfl nm_stepsUsed (ww hw 325 rfl) (ww hw 326 rfl) (ww hw 327 rfl) (ww hw 328 rfl) (ww hw 329 rfl) (lenOf pd_stepsUsed rfl) at_547 (V.2.1 q1.2) (e_stepsUsed hw V hq4) (by decide) (Nat.le_of_ble_eq_true rfl) rfl ?_
  refine Ev.istD (L' := [y0, y1, y2, y3, .val (.int x4), .val (.int x5), y6, y7, y8, y9, .val (.ref o), y11, y12, y13, y14, y15, y16, y17, .val (.int x18), .val (.int x19), .val (.int x20), .val (.int x21), .val (.int q1.1), .val (.int q3), y24, y25, y26]) at_550 rfl hy23 rfl ?_
  refine Ev.aload at_552 rfl ?_
  refine Ev.iconst (z := 0) at_554 rfl ?_
  obtain ⟨q5, hq6, hr⟩ := Option.bind_eq_some_iff.mp hr
  refine Ev.virt (y := M_finalVar) (args := [.int (0 : Int32)]) (rest := []) (gok hw) rfl nm_finalVar (ww hw 330 rfl) (ww hw 331 rfl) (ww hw 332 rfl) (ww hw 333 rfl) (ww hw 334 rfl) (lenOf pd_finalVar rfl) at_555 (V.2.1 q1.2) (e_finalVar hw V hq6) (by decide) (Nat.le_of_ble_eq_true rfl) rfl ?_
  refine Ev.istD (L' := [y0, y1, y2, y3, .val (.int x4), .val (.int x5), y6, y7, y8, y9, .val (.ref o), y11, y12, y13, y14, y15, y16, y17, .val (.int x18), .val (.int x19), .val (.int x20), .val (.int x21), .val (.int q1.1), .val (.int q3), .val (.int q5), y25, y26]) at_558 rfl hy24 rfl ?_
  refine Ev.aload at_560 rfl ?_
  refine Ev.iconst (z := 1) at_562 rfl ?_
  obtain ⟨q7, hq8, hr⟩ := Option.bind_eq_some_iff.mp hr
  refine Ev.virt (y := M_finalVar) (args := [.int (1 : Int32)]) (rest := []) (gok hw) rfl nm_finalVar (ww hw 330 rfl) (ww hw 331 rfl) (ww hw 332 rfl) (ww hw 333 rfl) (ww hw 334 rfl) (lenOf pd_finalVar rfl) at_563 (V.2.1 q1.2) (e_finalVar hw V hq8) (by decide) (Nat.le_of_ble_eq_true rfl) rfl ?_
  refine Ev.istD (L' := [y0, y1, y2, y3, .val (.int x4), .val (.int x5), y6, y7, y8, y9, .val (.ref o), y11, y12, y13, y14, y15, y16, y17, .val (.int x18), .val (.int x19), .val (.int x20), .val (.int x21), .val (.int q1.1), .val (.int q3), .val (.int q5), .val (.int q7), y26]) at_566 rfl hy25 rfl ?_
  refine Ev.aload at_568 rfl ?_
  refine Ev.iconst (z := 2) at_570 rfl ?_
  obtain ⟨q9, hq10, hr⟩ := Option.bind_eq_some_iff.mp hr
  refine Ev.virt (y := M_finalVar) (args := [.int (2 : Int32)]) (rest := []) (gok hw) rfl nm_finalVar (ww hw 330 rfl) (ww hw 331 rfl) (ww hw 332 rfl) (ww hw 333 rfl) (ww hw 334 rfl) (lenOf pd_finalVar rfl) at_571 (V.2.1 q1.2) (e_finalVar hw V hq10) (by decide) (Nat.le_of_ble_eq_true rfl) rfl ?_
  refine Ev.istD (L' := [y0, y1, y2, y3, .val (.int x4), .val (.int x5), y6, y7, y8, y9, .val (.ref o), y11, y12, y13, y14, y15, y16, y17, .val (.int x18), .val (.int x19), .val (.int x20), .val (.int x21), .val (.int q1.1), .val (.int q3), .val (.int q5), .val (.int q7), .val (.int q9)]) at_574 rfl hy26 rfl ?_
  refine Ev.iload at_576 rfl ?_
  refine Ev.iload at_578 rfl ?_
  refine Ev.icne (t := 590) at_580 rfl (fun c11 => ?_) (fun c11 => ?_)
  · replace hr := (if_pos c11).symm.trans hr
    refine Ev.iload at_583 rfl ?_
    refine Ev.iload at_585 rfl ?_
    refine Ev.iceq (t := 592) at_587 rfl (fun c12 => ?_) (fun c12 => ?_)
    · replace hr := (if_pos c12).symm.trans hr
      refine Ev.iload at_592 rfl ?_
      refine Ev.iload at_594 rfl ?_
      refine Ev.iclt (t := 625) at_596 rfl (fun c13 => ?_) (fun c13 => ?_)
      · replace hr := (if_pos c13).symm.trans hr
        refine Ev.iload at_625 rfl ?_
        refine Ev.iconst (z := 4) at_627 rfl ?_
        refine Ev.icne (t := 654) at_628 rfl (fun c14 => ?_) (fun c14 => ?_)
        · replace hr := (if_pos c14).symm.trans hr
          refine Ev.iload at_631 rfl ?_
          refine Ev.iload at_633 rfl ?_
          refine Ev.icne (t := 654) at_635 rfl (fun c15 => ?_) (fun c15 => ?_)
          · replace hr := (if_pos c15).symm.trans hr
            refine Ev.iload at_638 rfl ?_
            refine Ev.iload at_640 rfl ?_
            refine Ev.iload at_642 rfl ?_
            refine Ev.iconst (z := 2) at_644 rfl ?_
            refine Ev.idiv at_645 (by decide) ?_
            refine Ev.iadd at_646 ?_
            refine Ev.icne (t := 654) at_647 rfl (fun c16 => ?_) (fun c16 => ?_)
            · replace hr := (if_pos c16).symm.trans hr
              refine Ev.iconst (z := 1) at_650 rfl ?_
              refine Ev.goto (t := 655) at_651 rfl ?_
              cases hr
              exact Ev.zret1 rfl at_655
            · replace hr := (if_neg c16).symm.trans hr
              refine Ev.iconst (z := 0) at_654 rfl ?_
              cases hr
              exact Ev.zret0 rfl at_655
          · replace hr := (if_neg c15).symm.trans hr
            refine Ev.iconst (z := 0) at_654 rfl ?_
            cases hr
            exact Ev.zret0 rfl at_655
        · replace hr := (if_neg c14).symm.trans hr
          refine Ev.iconst (z := 0) at_654 rfl ?_
          cases hr
          exact Ev.zret0 rfl at_655
      · replace hr := (if_neg c13).symm.trans hr
        refine Ev.iload at_599 rfl ?_
        refine Ev.iconst (z := 3) at_601 rfl ?_
        refine Ev.icne (t := 623) at_602 rfl (fun c17 => ?_) (fun c17 => ?_)
        · replace hr := (if_pos c17).symm.trans hr
          refine Ev.iload at_605 rfl ?_
          refine Ev.iload at_607 rfl ?_
          refine Ev.icne (t := 623) at_609 rfl (fun c18 => ?_) (fun c18 => ?_)
          · replace hr := (if_pos c18).symm.trans hr
            refine Ev.iload at_612 rfl ?_
            refine Ev.iload at_614 rfl ?_
            refine Ev.icne (t := 623) at_616 rfl (fun c19 => ?_) (fun c19 => ?_)
            · replace hr := (if_pos c19).symm.trans hr
              refine Ev.iconst (z := 1) at_619 rfl ?_
              refine Ev.goto (t := 624) at_620 rfl ?_
              cases hr
              exact Ev.zret1 rfl at_624
            · replace hr := (if_neg c19).symm.trans hr
              refine Ev.iconst (z := 0) at_623 rfl ?_
              cases hr
              exact Ev.zret0 rfl at_624
          · replace hr := (if_neg c18).symm.trans hr
            refine Ev.iconst (z := 0) at_623 rfl ?_
            cases hr
            exact Ev.zret0 rfl at_624
        · replace hr := (if_neg c17).symm.trans hr
          refine Ev.iconst (z := 0) at_623 rfl ?_
          cases hr
          exact Ev.zret0 rfl at_624
    · replace hr := (if_neg c12).symm.trans hr
      refine Ev.iconst (z := 0) at_590 rfl ?_
      cases hr
      exact Ev.zret0 rfl at_591
  · replace hr := (if_neg c11).symm.trans hr
    refine Ev.iconst (z := 0) at_590 rfl ?_
    cases hr
    exact Ev.zret0 rfl at_591
def f_law_499 (n : Nat) (x4 : Int32) (x5 : Int32) (x7 : Int32) (x18 : Int32) (z0 : Int32) (s : St) : Option (Int32 × St) :=
  if x18 < x7 then
    bnd (((2 : Int32) * (x7 - x18)) + (1 : Int32)) fun v2 =>
    f_law_530 n x4 x5 x18 z0 v2 x7 s
  else
    f_law_530 n x4 x5 x18 z0 (1 : Int32) x18 s
set_option maxRecDepth 100000 in
theorem e_law_499 {g : GT} {n : Nat} (hw : HW g) {K : St → MHeap} {o : Nat} {r : Nat → Nat} (V : View (GG g) Ln K o r) (x4 : Int32) (x5 : Int32) (x7 : Int32) (x18 : Int32) (z0 : Int32) (s : St) (y0 : Slot) (hy0 : one1 y0 = true) (y1 : Slot) (hy1 : one1 y1 = true) (y2 : Slot) (hy2 : one1 y2 = true) (y3 : Slot) (hy3 : one1 y3 = true) (y6 : Slot) (hy6 : one1 y6 = true) (y8 : Slot) (hy8 : one1 y8 = true) (y9 : Slot) (hy9 : one1 y9 = true) (y11 : Slot) (hy11 : one1 y11 = true) (y12 : Slot) (hy12 : one1 y12 = true) (y13 : Slot) (hy13 : one1 y13 = true) (y14 : Slot) (hy14 : one1 y14 = true) (y15 : Slot) (hy15 : one1 y15 = true) (y16 : Slot) (hy16 : one1 y16 = true) (y17 : Slot) (hy17 : one1 y17 = true) (y19 : Slot) (hy19 : one1 y19 = true) (y20 : Slot) (hy20 : one1 y20 = true) (y21 : Slot) (hy21 : one1 y21 = true) (y22 : Slot) (hy22 : one1 y22 = true) (y23 : Slot) (hy23 : one1 y23 = true) (y24 : Slot) (hy24 : one1 y24 = true) (y25 : Slot) (hy25 : one1 y25 = true) (y26 : Slot) (hy26 : one1 y26 = true) (w : Int32 × St) (hr : f_law_499 n x4 x5 x7 x18 z0 s = some w) : Ev (GG g) M_law 499 [y0, y1, y2, y3, .val (.int x4), .val (.int x5), y6, .val (.int x7), y8, y9, .val (.ref o), y11, y12, y13, y14, y15, y16, y17, .val (.int x18), y19, y20, y21, y22, y23, y24, y25, y26] [.int z0] (K s) ((some (.int w.1)), (K w.2)) := by
  unfold f_law_499 at hr
  refine Ev.istD (L' := [y0, y1, y2, y3, .val (.int x4), .val (.int x5), y6, .val (.int x7), y8, y9, .val (.ref o), y11, y12, y13, y14, y15, y16, y17, .val (.int x18), .val (.int z0), y20, y21, y22, y23, y24, y25, y26]) at_499 rfl hy19 rfl ?_
  refine Ev.iconst (z := 1) at_501 rfl ?_
  refine Ev.istD (L' := [y0, y1, y2, y3, .val (.int x4), .val (.int x5), y6, .val (.int x7), y8, y9, .val (.ref o), y11, y12, y13, y14, y15, y16, y17, .val (.int x18), .val (.int z0), .val (.int (1 : Int32)), y21, y22, y23, y24, y25, y26]) at_502 rfl hy20 rfl ?_
  refine Ev.iload at_504 rfl ?_
  refine Ev.istD (L' := [y0, y1, y2, y3, .val (.int x4), .val (.int x5), y6, .val (.int x7), y8, y9, .val (.ref o), y11, y12, y13, y14, y15, y16, y17, .val (.int x18), .val (.int z0), .val (.int (1 : Int32)), .val (.int x18), y22, y23, y24, y25, y26]) at_506 rfl hy21 rfl ?_
  refine Ev.iload at_508 rfl ?_
  refine Ev.iload at_510 rfl ?_
  refine Ev.icge (t := 530) at_512 rfl (fun c1 => ?_) (fun c1 => ?_)
  · replace hr := (if_pos c1).symm.trans hr
    refine Ev.iconst (z := 2) at_515 rfl ?_
    refine Ev.iload at_516 rfl ?_
    refine Ev.iload at_518 rfl ?_
    refine Ev.isub at_520 ?_
    refine Ev.imul at_521 ?_
    refine Ev.iconst (z := 1) at_522 rfl ?_
    refine Ev.iadd at_523 ?_
    revert hr
    generalize (((2 : Int32) * (x7 - x18)) + (1 : Int32)) = v2
    intro hr
    replace hr := (bnd_eq _ _).symm.trans hr
    refine Ev.istD (L' := [y0, y1, y2, y3, .val (.int x4), .val (.int x5), y6, .val (.int x7), y8, y9, .val (.ref o), y11, y12, y13, y14, y15, y16, y17, .val (.int x18), .val (.int z0), .val (.int v2), .val (.int x18), y22, y23, y24, y25, y26]) at_524 rfl rfl rfl ?_
    refine Ev.iload at_526 rfl ?_
    refine Ev.istD (L' := [y0, y1, y2, y3, .val (.int x4), .val (.int x5), y6, .val (.int x7), y8, y9, .val (.ref o), y11, y12, y13, y14, y15, y16, y17, .val (.int x18), .val (.int z0), .val (.int v2), .val (.int x7), y22, y23, y24, y25, y26]) at_528 rfl rfl rfl ?_
    exact e_law_530 hw V  x4 x5 x18 z0 v2 x7 s y0 hy0 y1 hy1 y2 hy2 y3 hy3 y6 hy6 (.val (.int x7)) rfl y8 hy8 y9 hy9 y11 hy11 y12 hy12 y13 hy13 y14 hy14 y15 hy15 y16 hy16 y17 hy17 y22 hy22 y23 hy23 y24 hy24 y25 hy25 y26 hy26 _ hr
  · replace hr := (if_neg c1).symm.trans hr
    exact e_law_530 hw V  x4 x5 x18 z0 (1 : Int32) x18 s y0 hy0 y1 hy1 y2 hy2 y3 hy3 y6 hy6 (.val (.int x7)) rfl y8 hy8 y9 hy9 y11 hy11 y12 hy12 y13 hy13 y14 hy14 y15 hy15 y16 hy16 y17 hy17 y22 hy22 y23 hy23 y24 hy24 y25 hy25 y26 hy26 _ hr
def f_law_467 (n : Nat) (x4 : Int32) (x5 : Int32) (x7 : Int32) (s : St) : Option (Int32 × St) :=
  if x5 < 0 then
    f_law_499 n x4 x5 x7 (x4 &&& (15 : Int32)) (0 : Int32) s
  else
    if (4096 : Int32) < x5 then
      f_law_499 n x4 x5 x7 (x4 &&& (15 : Int32)) (4096 : Int32) s
    else
      f_law_499 n x4 x5 x7 (x4 &&& (15 : Int32)) x5 s
set_option maxRecDepth 100000 in
theorem e_law_467 {g : GT} {n : Nat} (hw : HW g) {K : St → MHeap} {o : Nat} {r : Nat → Nat} (V : View (GG g) Ln K o r) (x4 : Int32) (x5 : Int32) (x7 : Int32) (s : St) (y0 : Slot) (hy0 : one1 y0 = true) (y1 : Slot) (hy1 : one1 y1 = true) (y2 : Slot) (hy2 : one1 y2 = true) (y3 : Slot) (hy3 : one1 y3 = true) (y6 : Slot) (hy6 : one1 y6 = true) (y8 : Slot) (hy8 : one1 y8 = true) (y9 : Slot) (hy9 : one1 y9 = true) (y11 : Slot) (hy11 : one1 y11 = true) (y12 : Slot) (hy12 : one1 y12 = true) (y13 : Slot) (hy13 : one1 y13 = true) (y14 : Slot) (hy14 : one1 y14 = true) (y15 : Slot) (hy15 : one1 y15 = true) (y16 : Slot) (hy16 : one1 y16 = true) (y17 : Slot) (hy17 : one1 y17 = true) (y18 : Slot) (hy18 : one1 y18 = true) (y19 : Slot) (hy19 : one1 y19 = true) (y20 : Slot) (hy20 : one1 y20 = true) (y21 : Slot) (hy21 : one1 y21 = true) (y22 : Slot) (hy22 : one1 y22 = true) (y23 : Slot) (hy23 : one1 y23 = true) (y24 : Slot) (hy24 : one1 y24 = true) (y25 : Slot) (hy25 : one1 y25 = true) (y26 : Slot) (hy26 : one1 y26 = true) (w : Int32 × St) (hr : f_law_467 n x4 x5 x7 s = some w) : Ev (GG g) M_law 467 [y0, y1, y2, y3, .val (.int x4), .val (.int x5), y6, .val (.int x7), y8, y9, .val (.ref o), y11, y12, y13, y14, y15, y16, y17, y18, y19, y20, y21, y22, y23, y24, y25, y26] [] (K s) ((some (.int w.1)), (K w.2)) := by
  unfold f_law_467 at hr
  refine Ev.iload at_467 rfl ?_
  refine Ev.bipush (z := 15) at_469 rfl ?_
  refine Ev.iand at_471 ?_
  refine Ev.istD (L' := [y0, y1, y2, y3, .val (.int x4), .val (.int x5), y6, .val (.int x7), y8, y9, .val (.ref o), y11, y12, y13, y14, y15, y16, y17, .val (.int (x4 &&& (15 : Int32))), y19, y20, y21, y22, y23, y24, y25, y26]) at_472 rfl hy18 rfl ?_
  refine Ev.iload at_474 rfl ?_
  refine Ev.ifge (t := 483) at_476 rfl (fun c1 => ?_) (fun c1 => ?_)
  · replace hr := (if_pos c1).symm.trans hr
    refine Ev.iconst (z := 0) at_479 rfl ?_
    refine Ev.goto (t := 499) at_480 rfl ?_
    exact e_law_499 hw V  x4 x5 x7 (x4 &&& (15 : Int32)) (0 : Int32) s y0 hy0 y1 hy1 y2 hy2 y3 hy3 y6 hy6 y8 hy8 y9 hy9 y11 hy11 y12 hy12 y13 hy13 y14 hy14 y15 hy15 y16 hy16 y17 hy17 y19 hy19 y20 hy20 y21 hy21 y22 hy22 y23 hy23 y24 hy24 y25 hy25 y26 hy26 _ hr
  · replace hr := (if_neg c1).symm.trans hr
    refine Ev.iload at_483 rfl ?_
    refine Ev.sipush (z := 4096) at_485 rfl ?_
    refine Ev.icle (t := 497) at_488 rfl (fun c2 => ?_) (fun c2 => ?_)
    · replace hr := (if_pos c2).symm.trans hr
      refine Ev.sipush (z := 4096) at_491 rfl ?_
      refine Ev.goto (t := 499) at_494 rfl ?_
      exact e_law_499 hw V  x4 x5 x7 (x4 &&& (15 : Int32)) (4096 : Int32) s y0 hy0 y1 hy1 y2 hy2 y3 hy3 y6 hy6 y8 hy8 y9 hy9 y11 hy11 y12 hy12 y13 hy13 y14 hy14 y15 hy15 y16 hy16 y17 hy17 y19 hy19 y20 hy20 y21 hy21 y22 hy22 y23 hy23 y24 hy24 y25 hy25 y26 hy26 _ hr
    · replace hr := (if_neg c2).symm.trans hr
      refine Ev.iload at_497 rfl ?_
      exact e_law_499 hw V  x4 x5 x7 (x4 &&& (15 : Int32)) x5 s y0 hy0 y1 hy1 y2 hy2 y3 hy3 y6 hy6 y8 hy8 y9 hy9 y11 hy11 y12 hy12 y13 hy13 y14 hy14 y15 hy15 y16 hy16 y17 hy17 y19 hy19 y20 hy20 y21 hy21 y22 hy22 y23 hy23 y24 hy24 y25 hy25 y26 hy26 _ hr
def f_law_417 (n : Nat) (x4 : Int32) (x5 : Int32) (x7 : Int32) (x15 : Int32) (s : St) : Option (Int32 × St) :=
  (f_check n (2 : Int32) s).bind fun q1 =>
  (f_counterexample q1.2).bind fun q3 =>
  if x15 = (-1 : Int32) then
    if q1.1 = (1 : Int32) then
      if q3 = (-1 : Int32) then
        f_law_467 n x4 x5 x7 q1.2
      else
        some ((0 : Int32), q1.2)
    else
      some ((0 : Int32), q1.2)
  else
    if q1.1 = (2 : Int32) then
      if q3 = x15 then
        f_law_467 n x4 x5 x7 q1.2
      else
        some ((0 : Int32), q1.2)
    else
      some ((0 : Int32), q1.2)
set_option maxRecDepth 100000 in
theorem e_law_417 {g : GT} {n : Nat} (hw : HW g) {K : St → MHeap} {o : Nat} {r : Nat → Nat} (V : View (GG g) Ln K o r) (x4 : Int32) (x5 : Int32) (x7 : Int32) (x15 : Int32) (s : St) (y0 : Slot) (hy0 : one1 y0 = true) (y1 : Slot) (hy1 : one1 y1 = true) (y2 : Slot) (hy2 : one1 y2 = true) (y3 : Slot) (hy3 : one1 y3 = true) (y6 : Slot) (hy6 : one1 y6 = true) (y8 : Slot) (hy8 : one1 y8 = true) (y9 : Slot) (hy9 : one1 y9 = true) (y11 : Slot) (hy11 : one1 y11 = true) (y12 : Slot) (hy12 : one1 y12 = true) (y13 : Slot) (hy13 : one1 y13 = true) (y14 : Slot) (hy14 : one1 y14 = true) (y16 : Slot) (hy16 : one1 y16 = true) (y17 : Slot) (hy17 : one1 y17 = true) (y18 : Slot) (hy18 : one1 y18 = true) (y19 : Slot) (hy19 : one1 y19 = true) (y20 : Slot) (hy20 : one1 y20 = true) (y21 : Slot) (hy21 : one1 y21 = true) (y22 : Slot) (hy22 : one1 y22 = true) (y23 : Slot) (hy23 : one1 y23 = true) (y24 : Slot) (hy24 : one1 y24 = true) (y25 : Slot) (hy25 : one1 y25 = true) (y26 : Slot) (hy26 : one1 y26 = true) (w : Int32 × St) (hr : f_law_417 n x4 x5 x7 x15 s = some w) : Ev (GG g) M_law 417 [y0, y1, y2, y3, .val (.int x4), .val (.int x5), y6, .val (.int x7), y8, y9, .val (.ref o), y11, y12, y13, y14, .val (.int x15), y16, y17, y18, y19, y20, y21, y22, y23, y24, y25, y26] [] (K s) ((some (.int w.1)), (K w.2)) := by
  unfold f_law_417 at hr
  refine Ev.aload at_417 rfl ?_
  refine Ev.iconst (z := 2) at_419 rfl ?_
  obtain ⟨q1, hq2, hr⟩ := Option.bind_eq_some_iff.mp hr
  refine Ev.virt (y := M_check) (args := [.int (2 : Int32)]) (rest := []) (gok hw) rfl nm_check (ww hw 260 rfl) (ww hw 261 rfl) (ww hw 262 rfl) (ww hw 263 rfl) (ww hw 264 rfl) (lenOf pd_check rfl) at_420 (V.2.1 s) (e_check hw V hq2) (by decide) (Nat.le_of_ble_eq_true rfl) rfl ?_
  refine Ev.istD (L' := [y0, y1, y2, y3, .val (.int x4), .val (.int x5), y6, .val (.int x7), y8, y9, .val (.ref o), y11, y12, y13, y14, .val (.int x15), .val (.int q1.1), y17, y18, y19, y20, y21, y22, y23, y24, y25, y26]) at_423 rfl hy16 rfl ?_
  refine Ev.aload at_425 rfl ?_
  obtain ⟨q3, hq4, hr⟩ := Option.bind_eq_some_iff.mp hr
  refine Ev.virt (y := M_counterexample) (args := []) (rest := []) (gok hw) rfl nm_counterexample (ww hw 285 rfl) (ww hw 286 rfl) (ww hw 287 rfl) (ww hw 288 rfl) (ww hw 289 rfl) (lenOf pd_counterexample rfl) at_427 (V.2.1 q1.2) (e_counterexample hw V hq4) (by decide) (Nat.le_of_ble_eq_true rfl) rfl ?_
  refine Ev.istD (L' := [y0, y1, y2, y3, .val (.int x4), .val (.int x5), y6, .val (.int x7), y8, y9, .val (.ref o), y11, y12, y13, y14, .val (.int x15), .val (.int q1.1), .val (.int q3), y18, y19, y20, y21, y22, y23, y24, y25, y26]) at_430 rfl hy17 rfl ?_
  refine Ev.iload at_432 rfl ?_
  refine Ev.iconst (z := -1) at_434 rfl ?_
  refine Ev.icne (t := 452) at_435 rfl (fun c5 => ?_) (fun c5 => ?_)
  · replace hr := (if_pos c5).symm.trans hr
    refine Ev.iload at_438 rfl ?_
    refine Ev.iconst (z := 1) at_440 rfl ?_
    refine Ev.icne (t := 450) at_441 rfl (fun c6 => ?_) (fun c6 => ?_)
    · replace hr := (if_pos c6).symm.trans hr
      refine Ev.iload at_444 rfl ?_
      refine Ev.iconst (z := -1) at_446 rfl ?_
      refine Ev.iceq (t := 467) at_447 rfl (fun c7 => ?_) (fun c7 => ?_)
      · replace hr := (if_pos c7).symm.trans hr
        exact e_law_467 hw V  x4 x5 x7 q1.2 y0 hy0 y1 hy1 y2 hy2 y3 hy3 y6 hy6 y8 hy8 y9 hy9 y11 hy11 y12 hy12 y13 hy13 y14 hy14 (.val (.int x15)) rfl (.val (.int q1.1)) rfl (.val (.int q3)) rfl y18 hy18 y19 hy19 y20 hy20 y21 hy21 y22 hy22 y23 hy23 y24 hy24 y25 hy25 y26 hy26 _ hr
      · replace hr := (if_neg c7).symm.trans hr
        refine Ev.iconst (z := 0) at_450 rfl ?_
        cases hr
        exact Ev.zret0 rfl at_451
    · replace hr := (if_neg c6).symm.trans hr
      refine Ev.iconst (z := 0) at_450 rfl ?_
      cases hr
      exact Ev.zret0 rfl at_451
  · replace hr := (if_neg c5).symm.trans hr
    refine Ev.iload at_452 rfl ?_
    refine Ev.iconst (z := 2) at_454 rfl ?_
    refine Ev.icne (t := 465) at_455 rfl (fun c8 => ?_) (fun c8 => ?_)
    · replace hr := (if_pos c8).symm.trans hr
      refine Ev.iload at_458 rfl ?_
      refine Ev.iload at_460 rfl ?_
      refine Ev.iceq (t := 467) at_462 rfl (fun c9 => ?_) (fun c9 => ?_)
      · replace hr := (if_pos c9).symm.trans hr
        exact e_law_467 hw V  x4 x5 x7 q1.2 y0 hy0 y1 hy1 y2 hy2 y3 hy3 y6 hy6 y8 hy8 y9 hy9 y11 hy11 y12 hy12 y13 hy13 y14 hy14 (.val (.int x15)) rfl (.val (.int q1.1)) rfl (.val (.int q3)) rfl y18 hy18 y19 hy19 y20 hy20 y21 hy21 y22 hy22 y23 hy23 y24 hy24 y25 hy25 y26 hy26 _ hr
      · replace hr := (if_neg c9).symm.trans hr
        refine Ev.iconst (z := 0) at_465 rfl ?_
        cases hr
        exact Ev.zret0 rfl at_466
    · replace hr := (if_neg c8).symm.trans hr
      refine Ev.iconst (z := 0) at_465 rfl ?_
      cases hr
      exact Ev.zret0 rfl at_466
def f_law_378 (n : Nat) (x4 : Int32) (x5 : Int32) (x7 : Int32) (x8 : Int32) (x9 : Int32) (s : St) : Option (Int32 × St) :=
  if x7 < x8 then
    if x7 = x9 then
      if (x7 + (1 : Int32)) < x8 then
        f_law_417 n x4 x5 x7 (x7 + (1 : Int32)) s
      else
        f_law_417 n x4 x5 x7 (-1 : Int32) s
    else
      f_law_417 n x4 x5 x7 x7 s
  else
    f_law_417 n x4 x5 x7 (-1 : Int32) s
set_option maxRecDepth 100000 in
theorem e_law_378 {g : GT} {n : Nat} (hw : HW g) {K : St → MHeap} {o : Nat} {r : Nat → Nat} (V : View (GG g) Ln K o r) (x4 : Int32) (x5 : Int32) (x7 : Int32) (x8 : Int32) (x9 : Int32) (s : St) (y0 : Slot) (hy0 : one1 y0 = true) (y1 : Slot) (hy1 : one1 y1 = true) (y2 : Slot) (hy2 : one1 y2 = true) (y3 : Slot) (hy3 : one1 y3 = true) (y6 : Slot) (hy6 : one1 y6 = true) (y11 : Slot) (hy11 : one1 y11 = true) (y12 : Slot) (hy12 : one1 y12 = true) (y13 : Slot) (hy13 : one1 y13 = true) (y14 : Slot) (hy14 : one1 y14 = true) (y15 : Slot) (hy15 : one1 y15 = true) (y16 : Slot) (hy16 : one1 y16 = true) (y17 : Slot) (hy17 : one1 y17 = true) (y18 : Slot) (hy18 : one1 y18 = true) (y19 : Slot) (hy19 : one1 y19 = true) (y20 : Slot) (hy20 : one1 y20 = true) (y21 : Slot) (hy21 : one1 y21 = true) (y22 : Slot) (hy22 : one1 y22 = true) (y23 : Slot) (hy23 : one1 y23 = true) (y24 : Slot) (hy24 : one1 y24 = true) (y25 : Slot) (hy25 : one1 y25 = true) (y26 : Slot) (hy26 : one1 y26 = true) (w : Int32 × St) (hr : f_law_378 n x4 x5 x7 x8 x9 s = some w) : Ev (GG g) M_law 378 [y0, y1, y2, y3, .val (.int x4), .val (.int x5), y6, .val (.int x7), .val (.int x8), .val (.int x9), .val (.ref o), y11, y12, y13, y14, y15, y16, y17, y18, y19, y20, y21, y22, y23, y24, y25, y26] [] (K s) ((some (.int w.1)), (K w.2)) := by
  unfold f_law_378 at hr
  refine Ev.iconst (z := -1) at_378 rfl ?_
  refine Ev.istD (L' := [y0, y1, y2, y3, .val (.int x4), .val (.int x5), y6, .val (.int x7), .val (.int x8), .val (.int x9), .val (.ref o), y11, y12, y13, y14, .val (.int (-1 : Int32)), y16, y17, y18, y19, y20, y21, y22, y23, y24, y25, y26]) at_379 rfl hy15 rfl ?_
  refine Ev.iload at_381 rfl ?_
  refine Ev.iload at_383 rfl ?_
  refine Ev.icge (t := 417) at_385 rfl (fun c1 => ?_) (fun c1 => ?_)
  · replace hr := (if_pos c1).symm.trans hr
    refine Ev.iload at_388 rfl ?_
    refine Ev.iload at_390 rfl ?_
    refine Ev.iceq (t := 402) at_392 rfl (fun c2 => ?_) (fun c2 => ?_)
    · replace hr := (if_pos c2).symm.trans hr
      refine Ev.iload at_402 rfl ?_
      refine Ev.iconst (z := 1) at_404 rfl ?_
      refine Ev.iadd at_405 ?_
      refine Ev.iload at_406 rfl ?_
      refine Ev.icge (t := 417) at_408 rfl (fun c3 => ?_) (fun c3 => ?_)
      · replace hr := (if_pos c3).symm.trans hr
        refine Ev.iload at_411 rfl ?_
        refine Ev.iconst (z := 1) at_413 rfl ?_
        refine Ev.iadd at_414 ?_
        refine Ev.istD (L' := [y0, y1, y2, y3, .val (.int x4), .val (.int x5), y6, .val (.int x7), .val (.int x8), .val (.int x9), .val (.ref o), y11, y12, y13, y14, .val (.int (x7 + (1 : Int32))), y16, y17, y18, y19, y20, y21, y22, y23, y24, y25, y26]) at_415 rfl rfl rfl ?_
        exact e_law_417 hw V  x4 x5 x7 (x7 + (1 : Int32)) s y0 hy0 y1 hy1 y2 hy2 y3 hy3 y6 hy6 (.val (.int x8)) rfl (.val (.int x9)) rfl y11 hy11 y12 hy12 y13 hy13 y14 hy14 y16 hy16 y17 hy17 y18 hy18 y19 hy19 y20 hy20 y21 hy21 y22 hy22 y23 hy23 y24 hy24 y25 hy25 y26 hy26 _ hr
      · replace hr := (if_neg c3).symm.trans hr
        exact e_law_417 hw V  x4 x5 x7 (-1 : Int32) s y0 hy0 y1 hy1 y2 hy2 y3 hy3 y6 hy6 (.val (.int x8)) rfl (.val (.int x9)) rfl y11 hy11 y12 hy12 y13 hy13 y14 hy14 y16 hy16 y17 hy17 y18 hy18 y19 hy19 y20 hy20 y21 hy21 y22 hy22 y23 hy23 y24 hy24 y25 hy25 y26 hy26 _ hr
    · replace hr := (if_neg c2).symm.trans hr
      refine Ev.iload at_395 rfl ?_
      refine Ev.istD (L' := [y0, y1, y2, y3, .val (.int x4), .val (.int x5), y6, .val (.int x7), .val (.int x8), .val (.int x9), .val (.ref o), y11, y12, y13, y14, .val (.int x7), y16, y17, y18, y19, y20, y21, y22, y23, y24, y25, y26]) at_397 rfl rfl rfl ?_
      refine Ev.goto (t := 417) at_399 rfl ?_
      exact e_law_417 hw V  x4 x5 x7 x7 s y0 hy0 y1 hy1 y2 hy2 y3 hy3 y6 hy6 (.val (.int x8)) rfl (.val (.int x9)) rfl y11 hy11 y12 hy12 y13 hy13 y14 hy14 y16 hy16 y17 hy17 y18 hy18 y19 hy19 y20 hy20 y21 hy21 y22 hy22 y23 hy23 y24 hy24 y25 hy25 y26 hy26 _ hr
  · replace hr := (if_neg c1).symm.trans hr
    exact e_law_417 hw V  x4 x5 x7 (-1 : Int32) s y0 hy0 y1 hy1 y2 hy2 y3 hy3 y6 hy6 (.val (.int x8)) rfl (.val (.int x9)) rfl y11 hy11 y12 hy12 y13 hy13 y14 hy14 y16 hy16 y17 hy17 y18 hy18 y19 hy19 y20 hy20 y21 hy21 y22 hy22 y23 hy23 y24 hy24 y25 hy25 y26 hy26 _ hr
def f_law_364 (n : Nat) (x4 : Int32) (x5 : Int32) (x7 : Int32) (x8 : Int32) (x9 : Int32) (x13 : Int32) (x14 : Int32) (s : St) : Option (Int32 × St) :=
  if x13 = (1 : Int32) then
    if x14 = (-1 : Int32) then
      f_law_378 n x4 x5 x7 x8 x9 s
    else
      some ((0 : Int32), s)
  else
    some ((0 : Int32), s)
set_option maxRecDepth 100000 in
theorem e_law_364 {g : GT} {n : Nat} (hw : HW g) {K : St → MHeap} {o : Nat} {r : Nat → Nat} (V : View (GG g) Ln K o r) (x4 : Int32) (x5 : Int32) (x7 : Int32) (x8 : Int32) (x9 : Int32) (x13 : Int32) (x14 : Int32) (s : St) (y0 : Slot) (hy0 : one1 y0 = true) (y1 : Slot) (hy1 : one1 y1 = true) (y2 : Slot) (hy2 : one1 y2 = true) (y3 : Slot) (hy3 : one1 y3 = true) (y6 : Slot) (hy6 : one1 y6 = true) (y11 : Slot) (hy11 : one1 y11 = true) (y12 : Slot) (hy12 : one1 y12 = true) (y15 : Slot) (hy15 : one1 y15 = true) (y16 : Slot) (hy16 : one1 y16 = true) (y17 : Slot) (hy17 : one1 y17 = true) (y18 : Slot) (hy18 : one1 y18 = true) (y19 : Slot) (hy19 : one1 y19 = true) (y20 : Slot) (hy20 : one1 y20 = true) (y21 : Slot) (hy21 : one1 y21 = true) (y22 : Slot) (hy22 : one1 y22 = true) (y23 : Slot) (hy23 : one1 y23 = true) (y24 : Slot) (hy24 : one1 y24 = true) (y25 : Slot) (hy25 : one1 y25 = true) (y26 : Slot) (hy26 : one1 y26 = true) (w : Int32 × St) (hr : f_law_364 n x4 x5 x7 x8 x9 x13 x14 s = some w) : Ev (GG g) M_law 364 [y0, y1, y2, y3, .val (.int x4), .val (.int x5), y6, .val (.int x7), .val (.int x8), .val (.int x9), .val (.ref o), y11, y12, .val (.int x13), .val (.int x14), y15, y16, y17, y18, y19, y20, y21, y22, y23, y24, y25, y26] [] (K s) ((some (.int w.1)), (K w.2)) := by
  unfold f_law_364 at hr
  refine Ev.iload at_364 rfl ?_
  refine Ev.iconst (z := 1) at_366 rfl ?_
  refine Ev.icne (t := 376) at_367 rfl (fun c1 => ?_) (fun c1 => ?_)
  · replace hr := (if_pos c1).symm.trans hr
    refine Ev.iload at_370 rfl ?_
    refine Ev.iconst (z := -1) at_372 rfl ?_
    refine Ev.iceq (t := 378) at_373 rfl (fun c2 => ?_) (fun c2 => ?_)
    · replace hr := (if_pos c2).symm.trans hr
      exact e_law_378 hw V  x4 x5 x7 x8 x9 s y0 hy0 y1 hy1 y2 hy2 y3 hy3 y6 hy6 y11 hy11 y12 hy12 (.val (.int x13)) rfl (.val (.int x14)) rfl y15 hy15 y16 hy16 y17 hy17 y18 hy18 y19 hy19 y20 hy20 y21 hy21 y22 hy22 y23 hy23 y24 hy24 y25 hy25 y26 hy26 _ hr
    · replace hr := (if_neg c2).symm.trans hr
      refine Ev.iconst (z := 0) at_376 rfl ?_
      cases hr
      exact Ev.zret0 rfl at_377
  · replace hr := (if_neg c1).symm.trans hr
    refine Ev.iconst (z := 0) at_376 rfl ?_
    cases hr
    exact Ev.zret0 rfl at_377
def f_law_319 (n : Nat) (x4 : Int32) (x5 : Int32) (x7 : Int32) (x8 : Int32) (x9 : Int32) (s : St) : Option (Int32 × St) :=
  (f_check n (1 : Int32) s).bind fun q1 =>
  (f_counterexample q1.2).bind fun q3 =>
  if x8 < (1 : Int32) then
    f_law_364 n x4 x5 x7 x8 x9 q1.1 q3 q1.2
  else
    if x7 < x8 then
      f_law_364 n x4 x5 x7 x8 x9 q1.1 q3 q1.2
    else
      if q1.1 = (2 : Int32) then
        if q3 = (x8 - (1 : Int32)) then
          f_law_378 n x4 x5 x7 x8 x9 q1.2
        else
          some ((0 : Int32), q1.2)
      else
        some ((0 : Int32), q1.2)
set_option maxRecDepth 100000 in
theorem e_law_319 {g : GT} {n : Nat} (hw : HW g) {K : St → MHeap} {o : Nat} {r : Nat → Nat} (V : View (GG g) Ln K o r) (x4 : Int32) (x5 : Int32) (x7 : Int32) (x8 : Int32) (x9 : Int32) (s : St) (y0 : Slot) (hy0 : one1 y0 = true) (y1 : Slot) (hy1 : one1 y1 = true) (y2 : Slot) (hy2 : one1 y2 = true) (y3 : Slot) (hy3 : one1 y3 = true) (y6 : Slot) (hy6 : one1 y6 = true) (y11 : Slot) (hy11 : one1 y11 = true) (y12 : Slot) (hy12 : one1 y12 = true) (y13 : Slot) (hy13 : one1 y13 = true) (y14 : Slot) (hy14 : one1 y14 = true) (y15 : Slot) (hy15 : one1 y15 = true) (y16 : Slot) (hy16 : one1 y16 = true) (y17 : Slot) (hy17 : one1 y17 = true) (y18 : Slot) (hy18 : one1 y18 = true) (y19 : Slot) (hy19 : one1 y19 = true) (y20 : Slot) (hy20 : one1 y20 = true) (y21 : Slot) (hy21 : one1 y21 = true) (y22 : Slot) (hy22 : one1 y22 = true) (y23 : Slot) (hy23 : one1 y23 = true) (y24 : Slot) (hy24 : one1 y24 = true) (y25 : Slot) (hy25 : one1 y25 = true) (y26 : Slot) (hy26 : one1 y26 = true) (w : Int32 × St) (hr : f_law_319 n x4 x5 x7 x8 x9 s = some w) : Ev (GG g) M_law 319 [y0, y1, y2, y3, .val (.int x4), .val (.int x5), y6, .val (.int x7), .val (.int x8), .val (.int x9), .val (.ref o), y11, y12, y13, y14, y15, y16, y17, y18, y19, y20, y21, y22, y23, y24, y25, y26] [] (K s) ((some (.int w.1)), (K w.2)) := by
  unfold f_law_319 at hr
  refine Ev.aload at_319 rfl ?_
  refine Ev.iconst (z := 1) at_321 rfl ?_
  obtain ⟨q1, hq2, hr⟩ := Option.bind_eq_some_iff.mp hr
  refine Ev.virt (y := M_check) (args := [.int (1 : Int32)]) (rest := []) (gok hw) rfl nm_check (ww hw 260 rfl) (ww hw 261 rfl) (ww hw 262 rfl) (ww hw 263 rfl) (ww hw 264 rfl) (lenOf pd_check rfl) at_322 (V.2.1 s) (e_check hw V hq2) (by decide) (Nat.le_of_ble_eq_true rfl) rfl ?_
  refine Ev.istD (L' := [y0, y1, y2, y3, .val (.int x4), .val (.int x5), y6, .val (.int x7), .val (.int x8), .val (.int x9), .val (.ref o), y11, y12, .val (.int q1.1), y14, y15, y16, y17, y18, y19, y20, y21, y22, y23, y24, y25, y26]) at_325 rfl hy13 rfl ?_
  refine Ev.aload at_327 rfl ?_
  obtain ⟨q3, hq4, hr⟩ := Option.bind_eq_some_iff.mp hr
  refine Ev.virt (y := M_counterexample) (args := []) (rest := []) (gok hw) rfl nm_counterexample (ww hw 285 rfl) (ww hw 286 rfl) (ww hw 287 rfl) (ww hw 288 rfl) (ww hw 289 rfl) (lenOf pd_counterexample rfl) at_329 (V.2.1 q1.2) (e_counterexample hw V hq4) (by decide) (Nat.le_of_ble_eq_true rfl) rfl ?_
  refine Ev.istD (L' := [y0, y1, y2, y3, .val (.int x4), .val (.int x5), y6, .val (.int x7), .val (.int x8), .val (.int x9), .val (.ref o), y11, y12, .val (.int q1.1), .val (.int q3), y15, y16, y17, y18, y19, y20, y21, y22, y23, y24, y25, y26]) at_332 rfl hy14 rfl ?_
  refine Ev.iload at_334 rfl ?_
  refine Ev.iconst (z := 1) at_336 rfl ?_
  refine Ev.iclt (t := 364) at_337 rfl (fun c5 => ?_) (fun c5 => ?_)
  · replace hr := (if_pos c5).symm.trans hr
    exact e_law_364 hw V  x4 x5 x7 x8 x9 q1.1 q3 q1.2 y0 hy0 y1 hy1 y2 hy2 y3 hy3 y6 hy6 y11 hy11 y12 hy12 y15 hy15 y16 hy16 y17 hy17 y18 hy18 y19 hy19 y20 hy20 y21 hy21 y22 hy22 y23 hy23 y24 hy24 y25 hy25 y26 hy26 _ hr
  · replace hr := (if_neg c5).symm.trans hr
    refine Ev.iload at_340 rfl ?_
    refine Ev.iload at_342 rfl ?_
    refine Ev.icgt (t := 364) at_344 rfl (fun c6 => ?_) (fun c6 => ?_)
    · replace hr := (if_pos c6).symm.trans hr
      exact e_law_364 hw V  x4 x5 x7 x8 x9 q1.1 q3 q1.2 y0 hy0 y1 hy1 y2 hy2 y3 hy3 y6 hy6 y11 hy11 y12 hy12 y15 hy15 y16 hy16 y17 hy17 y18 hy18 y19 hy19 y20 hy20 y21 hy21 y22 hy22 y23 hy23 y24 hy24 y25 hy25 y26 hy26 _ hr
    · replace hr := (if_neg c6).symm.trans hr
      refine Ev.iload at_347 rfl ?_
      refine Ev.iconst (z := 2) at_349 rfl ?_
      refine Ev.icne (t := 362) at_350 rfl (fun c7 => ?_) (fun c7 => ?_)
      · replace hr := (if_pos c7).symm.trans hr
        refine Ev.iload at_353 rfl ?_
        refine Ev.iload at_355 rfl ?_
        refine Ev.iconst (z := 1) at_357 rfl ?_
        refine Ev.isub at_358 ?_
        refine Ev.iceq (t := 378) at_359 rfl (fun c8 => ?_) (fun c8 => ?_)
        · replace hr := (if_pos c8).symm.trans hr
          exact e_law_378 hw V  x4 x5 x7 x8 x9 q1.2 y0 hy0 y1 hy1 y2 hy2 y3 hy3 y6 hy6 y11 hy11 y12 hy12 (.val (.int q1.1)) rfl (.val (.int q3)) rfl y15 hy15 y16 hy16 y17 hy17 y18 hy18 y19 hy19 y20 hy20 y21 hy21 y22 hy22 y23 hy23 y24 hy24 y25 hy25 y26 hy26 _ hr
        · replace hr := (if_neg c8).symm.trans hr
          refine Ev.iconst (z := 0) at_362 rfl ?_
          cases hr
          exact Ev.zret0 rfl at_363
      · replace hr := (if_neg c7).symm.trans hr
        refine Ev.iconst (z := 0) at_362 rfl ?_
        cases hr
        exact Ev.zret0 rfl at_363
def f_law_33 (n : Nat) (x4 : Int32) (x5 : Int32) (x6 : Int32) (x7 : Int32) (x8 : Int32) (x9 : Int32) (s : St) : Option (Int32 × St) :=
  (f_addChar (80 : Int32) s).bind fun q1 =>
  (f_addChar (122 : Int32) q1.2).bind fun q3 =>
  (f_addChar (60 : Int32) q3.2).bind fun q5 =>
  (f_addChar ((48 : Int32) + x6) q5.2).bind fun q7 =>
  (f_addChar (59 : Int32) q7.2).bind fun q9 =>
  (f_addChar (87 : Int32) q9.2).bind fun q11 =>
  (f_addChar (122 : Int32) q11.2).bind fun q13 =>
  (f_addChar (60 : Int32) q13.2).bind fun q15 =>
  (f_addChar ((48 : Int32) + x7) q15.2).bind fun q17 =>
  (f_addChar (64 : Int32) q17.2).bind fun q19 =>
  (f_addChar (122 : Int32) q19.2).bind fun q21 =>
  (f_addChar (60 : Int32) q21.2).bind fun q23 =>
  (f_addChar ((48 : Int32) + x8) q23.2).bind fun q25 =>
  (f_addChar (123 : Int32) q25.2).bind fun q27 =>
  (f_addChar (122 : Int32) q27.2).bind fun q29 =>
  (f_addChar (61 : Int32) q29.2).bind fun q31 =>
  (f_addChar (122 : Int32) q31.2).bind fun q33 =>
  (f_addChar (43 : Int32) q33.2).bind fun q35 =>
  (f_addChar (49 : Int32) q35.2).bind fun q37 =>
  (f_addChar (59 : Int32) q37.2).bind fun q39 =>
  (f_addChar (125 : Int32) q39.2).bind fun q41 =>
  (f_addChar (81 : Int32) q41.2).bind fun q43 =>
  (f_addChar (122 : Int32) q43.2).bind fun q45 =>
  (f_addChar (61 : Int32) q45.2).bind fun q47 =>
  (f_addChar ((48 : Int32) + x9) q47.2).bind fun q49 =>
  (f_parse n q49.2).bind fun q51 =>
  if q51.1 = 0 then
    (f_vcCount q51.2).bind fun q54 =>
    if q54 = (3 : Int32) then
      (f_check n (0 : Int32) q51.2).bind fun q57 =>
      (f_counterexample q57.2).bind fun q59 =>
      if x8 < x6 then
        if q57.1 = (2 : Int32) then
          if q59 = x8 then
            f_law_319 n x4 x5 x7 x8 x9 q57.2
          else
            some ((0 : Int32), q57.2)
        else
          some ((0 : Int32), q57.2)
      else
        if q57.1 = (1 : Int32) then
          if q59 = (-1 : Int32) then
            f_law_319 n x4 x5 x7 x8 x9 q57.2
          else
            some ((0 : Int32), q57.2)
        else
          some ((0 : Int32), q57.2)
    else
      some ((0 : Int32), q51.2)
  else
    some ((0 : Int32), q51.2)
set_option maxRecDepth 100000 in
theorem e_law_33 {g : GT} {n : Nat} (hw : HW g) {K : St → MHeap} {o : Nat} {r : Nat → Nat} (V : View (GG g) Ln K o r) (x4 : Int32) (x5 : Int32) (x6 : Int32) (x7 : Int32) (x8 : Int32) (x9 : Int32) (s : St) (y0 : Slot) (hy0 : one1 y0 = true) (y1 : Slot) (hy1 : one1 y1 = true) (y2 : Slot) (hy2 : one1 y2 = true) (y3 : Slot) (hy3 : one1 y3 = true) (y10 : Slot) (hy10 : one1 y10 = true) (y11 : Slot) (hy11 : one1 y11 = true) (y12 : Slot) (hy12 : one1 y12 = true) (y13 : Slot) (hy13 : one1 y13 = true) (y14 : Slot) (hy14 : one1 y14 = true) (y15 : Slot) (hy15 : one1 y15 = true) (y16 : Slot) (hy16 : one1 y16 = true) (y17 : Slot) (hy17 : one1 y17 = true) (y18 : Slot) (hy18 : one1 y18 = true) (y19 : Slot) (hy19 : one1 y19 = true) (y20 : Slot) (hy20 : one1 y20 = true) (y21 : Slot) (hy21 : one1 y21 = true) (y22 : Slot) (hy22 : one1 y22 = true) (y23 : Slot) (hy23 : one1 y23 = true) (y24 : Slot) (hy24 : one1 y24 = true) (y25 : Slot) (hy25 : one1 y25 = true) (y26 : Slot) (hy26 : one1 y26 = true) (w : Int32 × St) (hr : f_law_33 n x4 x5 x6 x7 x8 x9 s = some w) : Ev (GG g) M_law 33 [y0, y1, y2, y3, .val (.int x4), .val (.int x5), .val (.int x6), .val (.int x7), .val (.int x8), .val (.int x9), y10, y11, y12, y13, y14, y15, y16, y17, y18, y19, y20, y21, y22, y23, y24, y25, y26] [.ref o] (K s) ((some (.int w.1)), (K w.2)) := by
  unfold f_law_33 at hr
  refine Ev.astD (L' := [y0, y1, y2, y3, .val (.int x4), .val (.int x5), .val (.int x6), .val (.int x7), .val (.int x8), .val (.int x9), .val (.ref o), y11, y12, y13, y14, y15, y16, y17, y18, y19, y20, y21, y22, y23, y24, y25, y26]) at_33 rfl hy10 rfl ?_
  refine Ev.aload at_35 rfl ?_
  refine Ev.bipush (z := 80) at_37 rfl ?_
  obtain ⟨q1, hq2, hr⟩ := Option.bind_eq_some_iff.mp hr
  refine Ev.virt (y := M_addChar) (args := [.int (80 : Int32)]) (rest := []) (gok hw) rfl nm_addChar (ww hw 142 rfl) (ww hw 143 rfl) (ww hw 144 rfl) (ww hw 145 rfl) (ww hw 146 rfl) (lenOf pd_addChar rfl) at_39 (V.2.1 s) (e_addChar hw V hq2) (by decide) (Nat.le_of_ble_eq_true rfl) rfl ?_
  refine Ev.pop at_42 rfl ?_
  refine Ev.aload at_43 rfl ?_
  refine Ev.bipush (z := 122) at_45 rfl ?_
  obtain ⟨q3, hq4, hr⟩ := Option.bind_eq_some_iff.mp hr
  refine Ev.virt (y := M_addChar) (args := [.int (122 : Int32)]) (rest := []) (gok hw) rfl nm_addChar (ww hw 142 rfl) (ww hw 143 rfl) (ww hw 144 rfl) (ww hw 145 rfl) (ww hw 146 rfl) (lenOf pd_addChar rfl) at_47 (V.2.1 q1.2) (e_addChar hw V hq4) (by decide) (Nat.le_of_ble_eq_true rfl) rfl ?_
  refine Ev.pop at_50 rfl ?_
  refine Ev.aload at_51 rfl ?_
  refine Ev.bipush (z := 60) at_53 rfl ?_
  obtain ⟨q5, hq6, hr⟩ := Option.bind_eq_some_iff.mp hr
  refine Ev.virt (y := M_addChar) (args := [.int (60 : Int32)]) (rest := []) (gok hw) rfl nm_addChar (ww hw 142 rfl) (ww hw 143 rfl) (ww hw 144 rfl) (ww hw 145 rfl) (ww hw 146 rfl) (lenOf pd_addChar rfl) at_55 (V.2.1 q3.2) (e_addChar hw V hq6) (by decide) (Nat.le_of_ble_eq_true rfl) rfl ?_
  refine Ev.pop at_58 rfl ?_
  refine Ev.aload at_59 rfl ?_
  refine Ev.bipush (z := 48) at_61 rfl ?_
  refine Ev.iload at_63 rfl ?_
  refine Ev.iadd at_65 ?_
  obtain ⟨q7, hq8, hr⟩ := Option.bind_eq_some_iff.mp hr
  refine Ev.virt (y := M_addChar) (args := [.int ((48 : Int32) + x6)]) (rest := []) (gok hw) rfl nm_addChar (ww hw 142 rfl) (ww hw 143 rfl) (ww hw 144 rfl) (ww hw 145 rfl) (ww hw 146 rfl) (lenOf pd_addChar rfl) at_66 (V.2.1 q5.2) (e_addChar hw V hq8) (by decide) (Nat.le_of_ble_eq_true rfl) rfl ?_
  refine Ev.pop at_69 rfl ?_
  refine Ev.aload at_70 rfl ?_
  refine Ev.bipush (z := 59) at_72 rfl ?_
  obtain ⟨q9, hq10, hr⟩ := Option.bind_eq_some_iff.mp hr
  refine Ev.virt (y := M_addChar) (args := [.int (59 : Int32)]) (rest := []) (gok hw) rfl nm_addChar (ww hw 142 rfl) (ww hw 143 rfl) (ww hw 144 rfl) (ww hw 145 rfl) (ww hw 146 rfl) (lenOf pd_addChar rfl) at_74 (V.2.1 q7.2) (e_addChar hw V hq10) (by decide) (Nat.le_of_ble_eq_true rfl) rfl ?_
  refine Ev.pop at_77 rfl ?_
  refine Ev.aload at_78 rfl ?_
  refine Ev.bipush (z := 87) at_80 rfl ?_
  obtain ⟨q11, hq12, hr⟩ := Option.bind_eq_some_iff.mp hr
  refine Ev.virt (y := M_addChar) (args := [.int (87 : Int32)]) (rest := []) (gok hw) rfl nm_addChar (ww hw 142 rfl) (ww hw 143 rfl) (ww hw 144 rfl) (ww hw 145 rfl) (ww hw 146 rfl) (lenOf pd_addChar rfl) at_82 (V.2.1 q9.2) (e_addChar hw V hq12) (by decide) (Nat.le_of_ble_eq_true rfl) rfl ?_
  refine Ev.pop at_85 rfl ?_
  refine Ev.aload at_86 rfl ?_
  refine Ev.bipush (z := 122) at_88 rfl ?_
  obtain ⟨q13, hq14, hr⟩ := Option.bind_eq_some_iff.mp hr
  refine Ev.virt (y := M_addChar) (args := [.int (122 : Int32)]) (rest := []) (gok hw) rfl nm_addChar (ww hw 142 rfl) (ww hw 143 rfl) (ww hw 144 rfl) (ww hw 145 rfl) (ww hw 146 rfl) (lenOf pd_addChar rfl) at_90 (V.2.1 q11.2) (e_addChar hw V hq14) (by decide) (Nat.le_of_ble_eq_true rfl) rfl ?_
  refine Ev.pop at_93 rfl ?_
  refine Ev.aload at_94 rfl ?_
  refine Ev.bipush (z := 60) at_96 rfl ?_
  obtain ⟨q15, hq16, hr⟩ := Option.bind_eq_some_iff.mp hr
  refine Ev.virt (y := M_addChar) (args := [.int (60 : Int32)]) (rest := []) (gok hw) rfl nm_addChar (ww hw 142 rfl) (ww hw 143 rfl) (ww hw 144 rfl) (ww hw 145 rfl) (ww hw 146 rfl) (lenOf pd_addChar rfl) at_98 (V.2.1 q13.2) (e_addChar hw V hq16) (by decide) (Nat.le_of_ble_eq_true rfl) rfl ?_
  refine Ev.pop at_101 rfl ?_
  refine Ev.aload at_102 rfl ?_
  refine Ev.bipush (z := 48) at_104 rfl ?_
  refine Ev.iload at_106 rfl ?_
  refine Ev.iadd at_108 ?_
  obtain ⟨q17, hq18, hr⟩ := Option.bind_eq_some_iff.mp hr
  refine Ev.virt (y := M_addChar) (args := [.int ((48 : Int32) + x7)]) (rest := []) (gok hw) rfl nm_addChar (ww hw 142 rfl) (ww hw 143 rfl) (ww hw 144 rfl) (ww hw 145 rfl) (ww hw 146 rfl) (lenOf pd_addChar rfl) at_109 (V.2.1 q15.2) (e_addChar hw V hq18) (by decide) (Nat.le_of_ble_eq_true rfl) rfl ?_
  refine Ev.pop at_112 rfl ?_
  refine Ev.aload at_113 rfl ?_
  refine Ev.bipush (z := 64) at_115 rfl ?_
  obtain ⟨q19, hq20, hr⟩ := Option.bind_eq_some_iff.mp hr
  refine Ev.virt (y := M_addChar) (args := [.int (64 : Int32)]) (rest := []) (gok hw) rfl nm_addChar (ww hw 142 rfl) (ww hw 143 rfl) (ww hw 144 rfl) (ww hw 145 rfl) (ww hw 146 rfl) (lenOf pd_addChar rfl) at_117 (V.2.1 q17.2) (e_addChar hw V hq20) (by decide) (Nat.le_of_ble_eq_true rfl) rfl ?_
  refine Ev.pop at_120 rfl ?_
  refine Ev.aload at_121 rfl ?_
  refine Ev.bipush (z := 122) at_123 rfl ?_
  obtain ⟨q21, hq22, hr⟩ := Option.bind_eq_some_iff.mp hr
  refine Ev.virt (y := M_addChar) (args := [.int (122 : Int32)]) (rest := []) (gok hw) rfl nm_addChar (ww hw 142 rfl) (ww hw 143 rfl) (ww hw 144 rfl) (ww hw 145 rfl) (ww hw 146 rfl) (lenOf pd_addChar rfl) at_125 (V.2.1 q19.2) (e_addChar hw V hq22) (by decide) (Nat.le_of_ble_eq_true rfl) rfl ?_
  refine Ev.pop at_128 rfl ?_
  refine Ev.aload at_129 rfl ?_
  refine Ev.bipush (z := 60) at_131 rfl ?_
  obtain ⟨q23, hq24, hr⟩ := Option.bind_eq_some_iff.mp hr
  refine Ev.virt (y := M_addChar) (args := [.int (60 : Int32)]) (rest := []) (gok hw) rfl nm_addChar (ww hw 142 rfl) (ww hw 143 rfl) (ww hw 144 rfl) (ww hw 145 rfl) (ww hw 146 rfl) (lenOf pd_addChar rfl) at_133 (V.2.1 q21.2) (e_addChar hw V hq24) (by decide) (Nat.le_of_ble_eq_true rfl) rfl ?_
  refine Ev.pop at_136 rfl ?_
  refine Ev.aload at_137 rfl ?_
  refine Ev.bipush (z := 48) at_139 rfl ?_
  refine Ev.iload at_141 rfl ?_
  refine Ev.iadd at_143 ?_
  obtain ⟨q25, hq26, hr⟩ := Option.bind_eq_some_iff.mp hr
  refine Ev.virt (y := M_addChar) (args := [.int ((48 : Int32) + x8)]) (rest := []) (gok hw) rfl nm_addChar (ww hw 142 rfl) (ww hw 143 rfl) (ww hw 144 rfl) (ww hw 145 rfl) (ww hw 146 rfl) (lenOf pd_addChar rfl) at_144 (V.2.1 q23.2) (e_addChar hw V hq26) (by decide) (Nat.le_of_ble_eq_true rfl) rfl ?_
  refine Ev.pop at_147 rfl ?_
  refine Ev.aload at_148 rfl ?_
  refine Ev.bipush (z := 123) at_150 rfl ?_
  obtain ⟨q27, hq28, hr⟩ := Option.bind_eq_some_iff.mp hr
  refine Ev.virt (y := M_addChar) (args := [.int (123 : Int32)]) (rest := []) (gok hw) rfl nm_addChar (ww hw 142 rfl) (ww hw 143 rfl) (ww hw 144 rfl) (ww hw 145 rfl) (ww hw 146 rfl) (lenOf pd_addChar rfl) at_152 (V.2.1 q25.2) (e_addChar hw V hq28) (by decide) (Nat.le_of_ble_eq_true rfl) rfl ?_
  refine Ev.pop at_155 rfl ?_
  refine Ev.aload at_156 rfl ?_
  refine Ev.bipush (z := 122) at_158 rfl ?_
  obtain ⟨q29, hq30, hr⟩ := Option.bind_eq_some_iff.mp hr
  refine Ev.virt (y := M_addChar) (args := [.int (122 : Int32)]) (rest := []) (gok hw) rfl nm_addChar (ww hw 142 rfl) (ww hw 143 rfl) (ww hw 144 rfl) (ww hw 145 rfl) (ww hw 146 rfl) (lenOf pd_addChar rfl) at_160 (V.2.1 q27.2) (e_addChar hw V hq30) (by decide) (Nat.le_of_ble_eq_true rfl) rfl ?_
  refine Ev.pop at_163 rfl ?_
  refine Ev.aload at_164 rfl ?_
  refine Ev.bipush (z := 61) at_166 rfl ?_
  obtain ⟨q31, hq32, hr⟩ := Option.bind_eq_some_iff.mp hr
  refine Ev.virt (y := M_addChar) (args := [.int (61 : Int32)]) (rest := []) (gok hw) rfl nm_addChar (ww hw 142 rfl) (ww hw 143 rfl) (ww hw 144 rfl) (ww hw 145 rfl) (ww hw 146 rfl) (lenOf pd_addChar rfl) at_168 (V.2.1 q29.2) (e_addChar hw V hq32) (by decide) (Nat.le_of_ble_eq_true rfl) rfl ?_
  refine Ev.pop at_171 rfl ?_
  refine Ev.aload at_172 rfl ?_
  refine Ev.bipush (z := 122) at_174 rfl ?_
  obtain ⟨q33, hq34, hr⟩ := Option.bind_eq_some_iff.mp hr
  refine Ev.virt (y := M_addChar) (args := [.int (122 : Int32)]) (rest := []) (gok hw) rfl nm_addChar (ww hw 142 rfl) (ww hw 143 rfl) (ww hw 144 rfl) (ww hw 145 rfl) (ww hw 146 rfl) (lenOf pd_addChar rfl) at_176 (V.2.1 q31.2) (e_addChar hw V hq34) (by decide) (Nat.le_of_ble_eq_true rfl) rfl ?_
  refine Ev.pop at_179 rfl ?_
  refine Ev.aload at_180 rfl ?_
  refine Ev.bipush (z := 43) at_182 rfl ?_
  obtain ⟨q35, hq36, hr⟩ := Option.bind_eq_some_iff.mp hr
  refine Ev.virt (y := M_addChar) (args := [.int (43 : Int32)]) (rest := []) (gok hw) rfl nm_addChar (ww hw 142 rfl) (ww hw 143 rfl) (ww hw 144 rfl) (ww hw 145 rfl) (ww hw 146 rfl) (lenOf pd_addChar rfl) at_184 (V.2.1 q33.2) (e_addChar hw V hq36) (by decide) (Nat.le_of_ble_eq_true rfl) rfl ?_
  refine Ev.pop at_187 rfl ?_
  refine Ev.aload at_188 rfl ?_
  refine Ev.bipush (z := 49) at_190 rfl ?_
  obtain ⟨q37, hq38, hr⟩ := Option.bind_eq_some_iff.mp hr
  refine Ev.virt (y := M_addChar) (args := [.int (49 : Int32)]) (rest := []) (gok hw) rfl nm_addChar (ww hw 142 rfl) (ww hw 143 rfl) (ww hw 144 rfl) (ww hw 145 rfl) (ww hw 146 rfl) (lenOf pd_addChar rfl) at_192 (V.2.1 q35.2) (e_addChar hw V hq38) (by decide) (Nat.le_of_ble_eq_true rfl) rfl ?_
  refine Ev.pop at_195 rfl ?_
  refine Ev.aload at_196 rfl ?_
  refine Ev.bipush (z := 59) at_198 rfl ?_
  obtain ⟨q39, hq40, hr⟩ := Option.bind_eq_some_iff.mp hr
  refine Ev.virt (y := M_addChar) (args := [.int (59 : Int32)]) (rest := []) (gok hw) rfl nm_addChar (ww hw 142 rfl) (ww hw 143 rfl) (ww hw 144 rfl) (ww hw 145 rfl) (ww hw 146 rfl) (lenOf pd_addChar rfl) at_200 (V.2.1 q37.2) (e_addChar hw V hq40) (by decide) (Nat.le_of_ble_eq_true rfl) rfl ?_
  refine Ev.pop at_203 rfl ?_
  refine Ev.aload at_204 rfl ?_
  refine Ev.bipush (z := 125) at_206 rfl ?_
  obtain ⟨q41, hq42, hr⟩ := Option.bind_eq_some_iff.mp hr
  refine Ev.virt (y := M_addChar) (args := [.int (125 : Int32)]) (rest := []) (gok hw) rfl nm_addChar (ww hw 142 rfl) (ww hw 143 rfl) (ww hw 144 rfl) (ww hw 145 rfl) (ww hw 146 rfl) (lenOf pd_addChar rfl) at_208 (V.2.1 q39.2) (e_addChar hw V hq42) (by decide) (Nat.le_of_ble_eq_true rfl) rfl ?_
  refine Ev.pop at_211 rfl ?_
  refine Ev.aload at_212 rfl ?_
  refine Ev.bipush (z := 81) at_214 rfl ?_
  obtain ⟨q43, hq44, hr⟩ := Option.bind_eq_some_iff.mp hr
  refine Ev.virt (y := M_addChar) (args := [.int (81 : Int32)]) (rest := []) (gok hw) rfl nm_addChar (ww hw 142 rfl) (ww hw 143 rfl) (ww hw 144 rfl) (ww hw 145 rfl) (ww hw 146 rfl) (lenOf pd_addChar rfl) at_216 (V.2.1 q41.2) (e_addChar hw V hq44) (by decide) (Nat.le_of_ble_eq_true rfl) rfl ?_
  refine Ev.pop at_219 rfl ?_
  refine Ev.aload at_220 rfl ?_
  refine Ev.bipush (z := 122) at_222 rfl ?_
  obtain ⟨q45, hq46, hr⟩ := Option.bind_eq_some_iff.mp hr
  refine Ev.virt (y := M_addChar) (args := [.int (122 : Int32)]) (rest := []) (gok hw) rfl nm_addChar (ww hw 142 rfl) (ww hw 143 rfl) (ww hw 144 rfl) (ww hw 145 rfl) (ww hw 146 rfl) (lenOf pd_addChar rfl) at_224 (V.2.1 q43.2) (e_addChar hw V hq46) (by decide) (Nat.le_of_ble_eq_true rfl) rfl ?_
  refine Ev.pop at_227 rfl ?_
  refine Ev.aload at_228 rfl ?_
  refine Ev.bipush (z := 61) at_230 rfl ?_
  obtain ⟨q47, hq48, hr⟩ := Option.bind_eq_some_iff.mp hr
  refine Ev.virt (y := M_addChar) (args := [.int (61 : Int32)]) (rest := []) (gok hw) rfl nm_addChar (ww hw 142 rfl) (ww hw 143 rfl) (ww hw 144 rfl) (ww hw 145 rfl) (ww hw 146 rfl) (lenOf pd_addChar rfl) at_232 (V.2.1 q45.2) (e_addChar hw V hq48) (by decide) (Nat.le_of_ble_eq_true rfl) rfl ?_
  refine Ev.pop at_235 rfl ?_
  refine Ev.aload at_236 rfl ?_
  refine Ev.bipush (z := 48) at_238 rfl ?_
  refine Ev.iload at_240 rfl ?_
  refine Ev.iadd at_242 ?_
  obtain ⟨q49, hq50, hr⟩ := Option.bind_eq_some_iff.mp hr
  refine Ev.virt (y := M_addChar) (args := [.int ((48 : Int32) + x9)]) (rest := []) (gok hw) rfl nm_addChar (ww hw 142 rfl) (ww hw 143 rfl) (ww hw 144 rfl) (ww hw 145 rfl) (ww hw 146 rfl) (lenOf pd_addChar rfl) at_243 (V.2.1 q47.2) (e_addChar hw V hq50) (by decide) (Nat.le_of_ble_eq_true rfl) rfl ?_
  refine Ev.pop at_246 rfl ?_
  refine Ev.aload at_247 rfl ?_
  obtain ⟨q51, hq52, hr⟩ := Option.bind_eq_some_iff.mp hr
  refine Ev.virt (y := M_parse) (args := []) (rest := []) (gok hw) rfl nm_parse (ww hw 155 rfl) (ww hw 156 rfl) (ww hw 157 rfl) (ww hw 158 rfl) (ww hw 159 rfl) (lenOf pd_parse rfl) at_249 (V.2.1 q49.2) (e_parse hw V hq52) (by decide) (Nat.le_of_ble_eq_true rfl) rfl ?_
  refine Ev.ifeq (t := 257) at_252 rfl (fun c53 => ?_) (fun c53 => ?_)
  · replace hr := (if_pos c53).symm.trans hr
    refine Ev.aload at_257 rfl ?_
    obtain ⟨q54, hq55, hr⟩ := Option.bind_eq_some_iff.mp hr
    refine Ev.virt (y := M_vcCount) (args := []) (rest := []) (gok hw) rfl nm_vcCount (ww hw 255 rfl) (ww hw 256 rfl) (ww hw 257 rfl) (ww hw 258 rfl) (ww hw 259 rfl) (lenOf pd_vcCount rfl) at_259 (V.2.1 q51.2) (e_vcCount hw V hq55) (by decide) (Nat.le_of_ble_eq_true rfl) rfl ?_
    refine Ev.iconst (z := 3) at_262 rfl ?_
    refine Ev.iceq (t := 268) at_263 rfl (fun c56 => ?_) (fun c56 => ?_)
    · replace hr := (if_pos c56).symm.trans hr
      refine Ev.aload at_268 rfl ?_
      refine Ev.iconst (z := 0) at_270 rfl ?_
      obtain ⟨q57, hq58, hr⟩ := Option.bind_eq_some_iff.mp hr
      refine Ev.virt (y := M_check) (args := [.int (0 : Int32)]) (rest := []) (gok hw) rfl nm_check (ww hw 260 rfl) (ww hw 261 rfl) (ww hw 262 rfl) (ww hw 263 rfl) (ww hw 264 rfl) (lenOf pd_check rfl) at_271 (V.2.1 q51.2) (e_check hw V hq58) (by decide) (Nat.le_of_ble_eq_true rfl) rfl ?_
      refine Ev.istD (L' := [y0, y1, y2, y3, .val (.int x4), .val (.int x5), .val (.int x6), .val (.int x7), .val (.int x8), .val (.int x9), .val (.ref o), .val (.int q57.1), y12, y13, y14, y15, y16, y17, y18, y19, y20, y21, y22, y23, y24, y25, y26]) at_274 rfl hy11 rfl ?_
      refine Ev.aload at_276 rfl ?_
      obtain ⟨q59, hq60, hr⟩ := Option.bind_eq_some_iff.mp hr
      refine Ev.virt (y := M_counterexample) (args := []) (rest := []) (gok hw) rfl nm_counterexample (ww hw 285 rfl) (ww hw 286 rfl) (ww hw 287 rfl) (ww hw 288 rfl) (ww hw 289 rfl) (lenOf pd_counterexample rfl) at_278 (V.2.1 q57.2) (e_counterexample hw V hq60) (by decide) (Nat.le_of_ble_eq_true rfl) rfl ?_
      refine Ev.istD (L' := [y0, y1, y2, y3, .val (.int x4), .val (.int x5), .val (.int x6), .val (.int x7), .val (.int x8), .val (.int x9), .val (.ref o), .val (.int q57.1), .val (.int q59), y13, y14, y15, y16, y17, y18, y19, y20, y21, y22, y23, y24, y25, y26]) at_281 rfl hy12 rfl ?_
      refine Ev.iload at_283 rfl ?_
      refine Ev.iload at_285 rfl ?_
      refine Ev.icgt (t := 304) at_287 rfl (fun c61 => ?_) (fun c61 => ?_)
      · replace hr := (if_pos c61).symm.trans hr
        refine Ev.iload at_304 rfl ?_
        refine Ev.iconst (z := 2) at_306 rfl ?_
        refine Ev.icne (t := 317) at_307 rfl (fun c62 => ?_) (fun c62 => ?_)
        · replace hr := (if_pos c62).symm.trans hr
          refine Ev.iload at_310 rfl ?_
          refine Ev.iload at_312 rfl ?_
          refine Ev.iceq (t := 319) at_314 rfl (fun c63 => ?_) (fun c63 => ?_)
          · replace hr := (if_pos c63).symm.trans hr
            exact e_law_319 hw V  x4 x5 x7 x8 x9 q57.2 y0 hy0 y1 hy1 y2 hy2 y3 hy3 (.val (.int x6)) rfl (.val (.int q57.1)) rfl (.val (.int q59)) rfl y13 hy13 y14 hy14 y15 hy15 y16 hy16 y17 hy17 y18 hy18 y19 hy19 y20 hy20 y21 hy21 y22 hy22 y23 hy23 y24 hy24 y25 hy25 y26 hy26 _ hr
          · replace hr := (if_neg c63).symm.trans hr
            refine Ev.iconst (z := 0) at_317 rfl ?_
            cases hr
            exact Ev.zret0 rfl at_318
        · replace hr := (if_neg c62).symm.trans hr
          refine Ev.iconst (z := 0) at_317 rfl ?_
          cases hr
          exact Ev.zret0 rfl at_318
      · replace hr := (if_neg c61).symm.trans hr
        refine Ev.iload at_290 rfl ?_
        refine Ev.iconst (z := 1) at_292 rfl ?_
        refine Ev.icne (t := 302) at_293 rfl (fun c64 => ?_) (fun c64 => ?_)
        · replace hr := (if_pos c64).symm.trans hr
          refine Ev.iload at_296 rfl ?_
          refine Ev.iconst (z := -1) at_298 rfl ?_
          refine Ev.iceq (t := 319) at_299 rfl (fun c65 => ?_) (fun c65 => ?_)
          · replace hr := (if_pos c65).symm.trans hr
            exact e_law_319 hw V  x4 x5 x7 x8 x9 q57.2 y0 hy0 y1 hy1 y2 hy2 y3 hy3 (.val (.int x6)) rfl (.val (.int q57.1)) rfl (.val (.int q59)) rfl y13 hy13 y14 hy14 y15 hy15 y16 hy16 y17 hy17 y18 hy18 y19 hy19 y20 hy20 y21 hy21 y22 hy22 y23 hy23 y24 hy24 y25 hy25 y26 hy26 _ hr
          · replace hr := (if_neg c65).symm.trans hr
            refine Ev.iconst (z := 0) at_302 rfl ?_
            cases hr
            exact Ev.zret0 rfl at_303
        · replace hr := (if_neg c64).symm.trans hr
          refine Ev.iconst (z := 0) at_302 rfl ?_
          cases hr
          exact Ev.zret0 rfl at_303
    · replace hr := (if_neg c56).symm.trans hr
      refine Ev.iconst (z := 0) at_266 rfl ?_
      cases hr
      exact Ev.zret0 rfl at_267
  · replace hr := (if_neg c53).symm.trans hr
    refine Ev.iconst (z := 0) at_255 rfl ?_
    cases hr
    exact Ev.zret0 rfl at_256
def f_law (n : Nat) (a0 : Int32) (a1 : Int32) (a2 : Int32) (a3 : Int32) (a4 : Int32) (a5 : Int32) : Option (Int32 × St) :=
  (f_hdig a0).bind fun q1 =>
  (f_hdig a1).bind fun q3 =>
  (f_hdig a2).bind fun q5 =>
  (f_hdig a3).bind fun q7 =>
  (f_ctor (64 : Int32)).bind fun q9 =>
  f_law_33 n a4 a5 q1 q3 q5 q7 q9
set_option maxRecDepth 100000 in
theorem e_law {g : GT} {n : Nat} {a0 : Int32} {a1 : Int32} {a2 : Int32} {a3 : Int32} {a4 : Int32} {a5 : Int32} {w : Int32 × St} (hw : HW g) (hk : k0 (GG g) ≤ (H0).length) (hr : f_law n a0 a1 a2 a3 a4 a5 = some w) : EvC (GG g) M_law [.int a0, .int a1, .int a2, .int a3, .int a4, .int a5] H0 ((some (.int w.1)), (KL w.2)) := by
  refine EvC.enter (L0 := [.val (.int a0), .val (.int a1), .val (.int a2), .val (.int a3), .val (.int a4), .val (.int a5), .unset, .unset, .unset, .unset, .unset, .unset, .unset, .unset, .unset, .unset, .unset, .unset, .unset, .unset, .unset, .unset, .unset, .unset, .unset, .unset, .unset]) pl_law (fun h => nomatch h) rfl rfl ?_
  unfold f_law at hr
  refine Ev.iloadN at_0 rfl ?_
  obtain ⟨q1, hq2, hr⟩ := Option.bind_eq_some_iff.mp hr
  refine Ev.stat (y := M_hdig) (args := [.int a0]) (rest := []) nm_hdig (ww hw 0 rfl) (ww hw 1 rfl) (ww hw 2 rfl) (ww hw 3 rfl) (lenOf pd_hdig rfl) at_1 (e_hdig hw hq2) (by decide) (Nat.le_of_ble_eq_true rfl) rfl ?_
  refine Ev.istD (L' := [.val (.int a0), .val (.int a1), .val (.int a2), .val (.int a3), .val (.int a4), .val (.int a5), .val (.int q1), .unset, .unset, .unset, .unset, .unset, .unset, .unset, .unset, .unset, .unset, .unset, .unset, .unset, .unset, .unset, .unset, .unset, .unset, .unset, .unset]) at_4 rfl rfl rfl ?_
  refine Ev.iloadN at_6 rfl ?_
  obtain ⟨q3, hq4, hr⟩ := Option.bind_eq_some_iff.mp hr
  refine Ev.stat (y := M_hdig) (args := [.int a1]) (rest := []) nm_hdig (ww hw 0 rfl) (ww hw 1 rfl) (ww hw 2 rfl) (ww hw 3 rfl) (lenOf pd_hdig rfl) at_7 (e_hdig hw hq4) (by decide) (Nat.le_of_ble_eq_true rfl) rfl ?_
  refine Ev.istD (L' := [.val (.int a0), .val (.int a1), .val (.int a2), .val (.int a3), .val (.int a4), .val (.int a5), .val (.int q1), .val (.int q3), .unset, .unset, .unset, .unset, .unset, .unset, .unset, .unset, .unset, .unset, .unset, .unset, .unset, .unset, .unset, .unset, .unset, .unset, .unset]) at_10 rfl rfl rfl ?_
  refine Ev.iloadN at_12 rfl ?_
  obtain ⟨q5, hq6, hr⟩ := Option.bind_eq_some_iff.mp hr
  refine Ev.stat (y := M_hdig) (args := [.int a2]) (rest := []) nm_hdig (ww hw 0 rfl) (ww hw 1 rfl) (ww hw 2 rfl) (ww hw 3 rfl) (lenOf pd_hdig rfl) at_13 (e_hdig hw hq6) (by decide) (Nat.le_of_ble_eq_true rfl) rfl ?_
  refine Ev.istD (L' := [.val (.int a0), .val (.int a1), .val (.int a2), .val (.int a3), .val (.int a4), .val (.int a5), .val (.int q1), .val (.int q3), .val (.int q5), .unset, .unset, .unset, .unset, .unset, .unset, .unset, .unset, .unset, .unset, .unset, .unset, .unset, .unset, .unset, .unset, .unset, .unset]) at_16 rfl rfl rfl ?_
  refine Ev.iloadN at_18 rfl ?_
  obtain ⟨q7, hq8, hr⟩ := Option.bind_eq_some_iff.mp hr
  refine Ev.stat (y := M_hdig) (args := [.int a3]) (rest := []) nm_hdig (ww hw 0 rfl) (ww hw 1 rfl) (ww hw 2 rfl) (ww hw 3 rfl) (lenOf pd_hdig rfl) at_19 (e_hdig hw hq8) (by decide) (Nat.le_of_ble_eq_true rfl) rfl ?_
  refine Ev.istD (L' := [.val (.int a0), .val (.int a1), .val (.int a2), .val (.int a3), .val (.int a4), .val (.int a5), .val (.int q1), .val (.int q3), .val (.int q5), .val (.int q7), .unset, .unset, .unset, .unset, .unset, .unset, .unset, .unset, .unset, .unset, .unset, .unset, .unset, .unset, .unset, .unset, .unset]) at_22 rfl rfl rfl ?_
  refine Ev.new (gok hw) (ww hw 4 rfl) at_24 (fs := dfl) rfl ?_
  refine Ev.dup at_27 rfl ?_
  refine Ev.bipush (z := 64) at_28 rfl ?_
  obtain ⟨q9, hq10, hr⟩ := Option.bind_eq_some_iff.mp hr
  refine Ev.ctor (y := M_ctor) (args := [.int (64 : Int32)]) (rest := [.ref (H0).length]) rfl rfl nm_ctor (ww hw 7 rfl) (ww hw 8 rfl) (ww hw 9 rfl) (ww hw 6 rfl) (lenOf pd_ctor rfl) at_30 (e_ctor hw hk hq10) (by decide) (Nat.le_of_ble_eq_true rfl) rfl ?_
  exact e_law_33 hw (K := KL) (o := (H0).length) (r := rA (H0).length al) (view_of hk al_ok al_nd)  a4 a5 q1 q3 q5 q7 q9 (.val (.int a0)) rfl (.val (.int a1)) rfl (.val (.int a2)) rfl (.val (.int a3)) rfl .unset rfl .unset rfl .unset rfl .unset rfl .unset rfl .unset rfl .unset rfl .unset rfl .unset rfl .unset rfl .unset rfl .unset rfl .unset rfl .unset rfl .unset rfl .unset rfl .unset rfl _ hr
theorem fin_len (w : St) : (KL w).length - H0.length ≤ 48 := by
  have q : al.length = 17 := rfl
  unfold KL; rw [KH_len]; simp only [List.length_nil]; omega
theorem fin_hsl (w : St) : hsl 78 (KL w) - hsl 78 H0 ≤ 9280 := by
  have q : (al.map fun q => Ln q.1).sum = 4512 := by decide +kernel
  have z : hsl 78 [] = 0 := rfl
  unfold KL; rw [hsl_KH, q, z]; omega
set_option maxRecDepth 100000 in
theorem comes_1 (plain : ∀ i0 i1 i2 i3 i4 i5 : Int32, ∃ n w, f_law n i0 i1 i2 i3 i4 i5 = some (1, w)) {Post : Tables → Env → Array Value → State → Outcome → State → Prop} (hpost : ∀ tb e args s v u, (limb_1_1.after args s (.returned v) u = true ∧ limb_1_2.after args s (.returned v) u = true ∧ True) → FrameEnd s (.returned v) u (Jvm.fieldLocs frame_1_writes args s ++ Jvm.arrayLocs frame_1_arrays args s ++ Jvm.staticLocs frame_1_statics s) 48 9280 → Post tb e args s (.returned v) u) :
    ArmFor flags0 classFile x code maxLocals ret World_1 tables_1 room_1 Calls_1 rest_1 Pre_1 Post := by
  intro l hfl _ _ p e ha hc hk s m args below hf hA hF happ hP
  obtain ⟨hcalls, hrest, hpre⟩ := hP
  obtain ⟨-, -, -, hnamed, -, -, -, hat⟩ := (Spec.applies_iff hf).mp happ
  obtain ⟨hg, hn⟩ := and_e (Cond.before_iff.mp (show (Jvm.Cond.and given_1 narrow_1).before args s = true from hpre))
  obtain ⟨g0, hg⟩ := and_e hg
  obtain ⟨g1, hg⟩ := and_e hg
  obtain ⟨g2, hg⟩ := and_e hg
  obtain ⟨g3, hg⟩ := and_e hg
  obtain ⟨g4, hg⟩ := and_e hg
  obtain ⟨g5, hg⟩ := and_e hg
  obtain ⟨w0, w1, w2, w3, w4, w5, rfl⟩ : ∃ w0 w1 w2 w3 w4 w5 : Value, args = #[w0, w1, w2, w3, w4, w5] := by
    have hs : args.size = 6 := by simpa [Cond.value, given_1] using g0
    obtain ⟨L⟩ := args
    match L, hs with
    | [w0, w1, w2, w3, w4, w5], _ => exact ⟨w0, w1, w2, w3, w4, w5, rfl⟩
  have hw := fun d (hd : d ∈ tables_1) => atoms_spec (ws := Jvm.Cond.code x code maxLocals ret :: tables_1) hat d (List.mem_cons_of_mem _ hd)
  obtain ⟨i0, ei0⟩ := is_v g1
  obtain rfl : w0 = (.int i0) := Option.some.inj ei0
  obtain ⟨i1, ei1⟩ := is_v g2
  obtain rfl : w1 = (.int i1) := Option.some.inj ei1
  obtain ⟨i2, ei2⟩ := is_v g3
  obtain rfl : w2 = (.int i2) := Option.some.inj ei2
  obtain ⟨i3, ei3⟩ := is_v g4
  obtain rfl : w3 = (.int i3) := Option.some.inj ei3
  obtain ⟨i4, ei4⟩ := is_v g5
  obtain rfl : w4 = (.int i4) := Option.some.inj ei4
  obtain ⟨i5, ei5⟩ := is_v hg
  obtain rfl : w5 = (.int i5) := Option.some.inj ei5
  obtain ⟨n, w, hr⟩ := plain i0 i1 i2 i3 i4 i5
  have hE := e_law (g := (s, _, l, none, s.heap.size)) hw (Nat.le_refl _) hr
  obtain ⟨n, o, h1, h2, h3, _, L, rfl, ⟨rfl, N, -⟩, hq⟩ := hE.2 tables_1 room_1 s.heap (by decide) (by decide) (fin_len w) (fin_hsl w) ⟨rfl, Nat.le_refl _, fun a q => (nomatch q), fun i c q => by simp [H0] at q⟩ p e ha hc hk s m _ below hf ((Spec.applies_iff_loose hf).mp happ).1 ⟨rfl, State.Warmed39.refl s, rfl⟩ trivial
  exact ⟨n, _, h1, h2, h3, hpost _ _ _ _ _ _ ⟨Cond.after_iff.mpr rfl, Cond.after_iff.mpr (eq_i res_at (Term.int_eval (1)) rfl), trivial⟩ ⟨hq.1, hq.2.1, (hq.2.2.sift fun y hy => Or.inr (N y hy)).mono (fin_len w) (fin_hsl w)⟩⟩
theorem u_evalAt_6 (n : Nat) (k : Nat) (x2 : Int32) (x3 : Int32) (x4 : Int32) (x5 : Int32) (x6 : Int32) (s : St) : f_evalAt_6 n (k + 1) x2 x3 x4 x5 x6 s =
    (if x6 < (s.1 63) then
      if x6 < 0 then
        f_evalAt_194 n x5 s
      else
        grd (inb x6 512) <|
        if (s.2 40 (ix x6)) = 0 then
          f_evalAt_194 n x5 s
        else
          if (s.2 40 (ix x6)) = (1 : Int32) then
            f_evalAt_66 n (f_evalAt_6 n k) x2 x3 x4 x5 x6 (s.2 40 (ix x6)) s
          else
            if (s.2 40 (ix x6)) = (2 : Int32) then
              f_evalAt_66 n (f_evalAt_6 n k) x2 x3 x4 x5 x6 (s.2 40 (ix x6)) s
            else
              if (s.2 40 (ix x6)) = (8 : Int32) then
                f_evalAt_66 n (f_evalAt_6 n k) x2 x3 x4 x5 x6 (s.2 40 (ix x6)) s
              else
                if (s.2 40 (ix x6)) = (9 : Int32) then
                  f_evalAt_66 n (f_evalAt_6 n k) x2 x3 x4 x5 x6 (s.2 40 (ix x6)) s
                else
                  if (s.2 40 (ix x6)) = (10 : Int32) then
                    if 0 < x5 then
                      grd (inb (x5 - (1 : Int32)) 512) <|
                      if (s.2 55 (ix (x5 - (1 : Int32)))) = 0 then
                        f_evalAt_144 n (f_evalAt_6 n k) x2 x3 x4 x5 x6 (1 : Int32) (x5 - (1 : Int32)) s
                      else
                        f_evalAt_144 n (f_evalAt_6 n k) x2 x3 x4 x5 x6 (0 : Int32) (x5 - (1 : Int32)) s
                    else
                      f_evalAt_6 n k x2 x3 x4 x5 (x6 + (1 : Int32)) s
                  else
                    if x5 < (2 : Int32) then
                      f_evalAt_6 n k x2 x3 x4 x5 (x6 + (1 : Int32)) s
                    else
                      grd (inb ((x5 + (-1 : Int32)) - (1 : Int32)) 512) <|
                      grd (inb (x5 + (-1 : Int32)) 512) <|
                      (f_binary s (s.2 40 (ix x6)) (s.2 55 (ix ((x5 + (-1 : Int32)) - (1 : Int32)))) (s.2 55 (ix (x5 + (-1 : Int32))))).bind fun q16 =>
                      bnd (setA s 55 (ix ((x5 + (-1 : Int32)) - (1 : Int32))) q16) fun s18 =>
                      f_evalAt_6 n k x2 x3 x4 (x5 + (-1 : Int32)) (x6 + (1 : Int32)) s18
    else
      f_evalAt_194 n x5 s) := rfl
theorem u_advance_4 (n : Nat) (s : St) (k : Nat) (x2 : Int32) (x3 : Int32) : f_advance_4 n s (k + 1) x2 x3 =
    (if x3 < (70 : Int32) then
      if x2 < 0 then
        some (-1 : Int32)
      else
        if x2 < (s.1 64) then
          grd (inb x2 64) <|
          if (s.2 47 (ix x2)) = (-1 : Int32) then
            if (s.2 48 (ix x2)) < 0 then
              some (-1 : Int32)
            else
              if (s.2 48 (ix x2)) < (s.1 64) then
                grd (inb (s.2 48 (ix x2)) 64) <|
                if (s.2 43 (ix (s.2 48 (ix x2)))) = (2 : Int32) then
                  some ((-2 : Int32) - (s.2 48 (ix x2)))
                else
                  f_advance_4 n s k (s.2 48 (ix x2)) (x3 + (1 : Int32))
              else
                some (-1 : Int32)
          else
            some (s.2 47 (ix x2))
        else
          some (-1 : Int32)
    else
      some (-1 : Int32)) := rfl
theorem u_walk_6 (n : Nat) (k : Nat) (x2 : Int32) (x3 : Int32) (x4 : Int32) (x5 : Int32) (x6 : Int32) (s : St) : f_walk_6 n (k + 1) x2 x3 x4 x5 x6 s =
    (if x6 < (70 : Int32) then
      if x5 = (-1 : Int32) then
        (f_evalF n (1 : Int32) x2 x3 x4 s).bind fun q3 =>
        some (q3.1, q3.2)
      else
        if x5 < (-1 : Int32) then
          (f_evalF n ((3 : Int32) + ((2 : Int32) * ((-2 : Int32) - x5))) x2 x3 x4 s).bind fun q6 =>
          some (q6.1, q6.2)
        else
          if x5 < (s.1 64) then
            grd (inb x5 64) <|
            if (s.2 43 (ix x5)) = (2 : Int32) then
              (f_evalF n ((3 : Int32) + ((2 : Int32) * x5)) x2 x3 x4 s).bind fun q11 =>
              some (q11.1, q11.2)
            else
              (f_evalF n ((2 : Int32) + ((2 : Int32) * x5)) x2 x3 x4 s).bind fun q13 =>
              if (s.2 43 (ix x5)) = (1 : Int32) then
                if q13.1 = 0 then
                  f_walk_129 n (f_walk_6 n k) x2 x3 x4 x6 (1 : Int32) x5 q13.2
                else
                  f_walk_129 n (f_walk_6 n k) x2 x3 x4 x6 (0 : Int32) x5 q13.2
              else
                if (q13.2.2 44 (ix x5)) = 0 then
                  f_walk_173 n (f_walk_6 n k) q13.1 x3 x4 x5 x6 q13.2
                else
                  if (q13.2.2 44 (ix x5)) = (1 : Int32) then
                    f_walk_173 n (f_walk_6 n k) x2 q13.1 x4 x5 x6 q13.2
                  else
                    f_walk_173 n (f_walk_6 n k) x2 x3 q13.1 x5 x6 q13.2
          else
            some ((0 : Int32), s)
    else
      some ((0 : Int32), s)) := rfl
theorem u_check_31 (n : Nat) (k : Nat) (x1 : Int32) (x2 : Int32) (s : St) : f_check_31 n (k + 1) x1 x2 s =
    (if x2 < (4096 : Int32) then
      (f_vcAt n x1 ((x2 >>> ((8 : Int32) &&& 31)) &&& (15 : Int32)) ((x2 >>> ((4 : Int32) &&& 31)) &&& (15 : Int32)) (x2 &&& (15 : Int32)) s).bind fun q2 =>
      if q2.1 = 0 then
        bnd (setI q2.2 60 x2) fun s5 =>
        some ((2 : Int32), s5)
      else
        f_check_31 n k x1 (x2 + (1 : Int32)) q2.2
    else
      bnd (setI s 60 (-1 : Int32)) fun s6 =>
      some ((1 : Int32), s6)) := rfl
theorem u_run_74 (n : Nat) (k : Nat) (x5 : Int32) (x6 : Int32) (x7 : Int32) (x8 : Int32) (x9 : Int32) (s : St) : f_run_74 n (k + 1) x5 x6 x7 x8 x9 s =
    (if x9 < (9000 : Int32) then
      if x7 = (-1 : Int32) then
        f_run_140 n x6 (3 : Int32) s
      else
        if x7 < (-1 : Int32) then
          f_run_74 n k x5 x6 ((-2 : Int32) - x7) x8 (x9 + (1 : Int32)) s
        else
          if x6 = x5 then
            f_run_140 n x6 (4 : Int32) s
          else
            (f_runStep n x7 s).bind fun q5 =>
            f_run_74 n k x5 (x6 + (1 : Int32)) q5.1 x8 (x9 + (1 : Int32)) q5.2
    else
      f_run_140 n x6 x8 s) := rfl
/-! ### the plain law -/
abbrev own_T := List Int32 × List (List Int32)
def own_get : List Int32 → Nat → Int32
  | [], _ => 0
  | x :: _, 0 => x
  | _ :: l, i + 1 => own_get l i
def own_put : Nat → List Int32 → Int32 → List Int32
  | 0, [], v => [v]
  | 0, _ :: l, v => v :: l
  | i + 1, [], v => 0 :: own_put i [] v
  | i + 1, x :: l, v => x :: own_put i l v
def own_getL : List (List Int32) → Nat → List Int32
  | [], _ => []
  | x :: _, 0 => x
  | _ :: l, i + 1 => own_getL l i
def own_putL : Nat → List (List Int32) → List Int32 → List (List Int32)
  | 0, [], v => [v]
  | 0, _ :: l, v => v :: l
  | i + 1, [], v => [] :: own_putL i [] v
  | i + 1, x :: l, v => x :: own_putL i l v
theorem own_gp (v : Int32) : ∀ (i : Nat) (l : List Int32) (k : Nat), own_get (own_put i l v) k = if k = i then v else own_get l k := by
  intro i
  induction i with
  | zero =>
    intro l k
    cases l with
    | nil => cases k with
      | zero => rfl
      | succ k => rw [if_neg (by omega)]; rfl
    | cons x l => cases k with
      | zero => rfl
      | succ k => rw [if_neg (by omega)]; rfl
  | succ i ih =>
    intro l k
    cases l with
    | nil => cases k with
      | zero => rw [if_neg (by omega)]; rfl
      | succ k =>
        show own_get (own_put i [] v) k = _
        rw [ih]
        by_cases q : k = i
        · rw [if_pos q, if_pos (by omega)]
        · rw [if_neg q, if_neg (by omega)]; rfl
    | cons x l => cases k with
      | zero => rw [if_neg (by omega)]; rfl
      | succ k =>
        show own_get (own_put i l v) k = _
        rw [ih]
        by_cases q : k = i
        · rw [if_pos q, if_pos (by omega)]
        · rw [if_neg q, if_neg (by omega)]; rfl
theorem own_gpL (v : List Int32) : ∀ (i : Nat) (l : List (List Int32)) (k : Nat), own_getL (own_putL i l v) k = if k = i then v else own_getL l k := by
  intro i
  induction i with
  | zero =>
    intro l k
    cases l with
    | nil => cases k with
      | zero => rfl
      | succ k => rw [if_neg (by omega)]; rfl
    | cons x l => cases k with
      | zero => rfl
      | succ k => rw [if_neg (by omega)]; rfl
  | succ i ih =>
    intro l k
    cases l with
    | nil => cases k with
      | zero => rw [if_neg (by omega)]; rfl
      | succ k =>
        show own_getL (own_putL i [] v) k = _
        rw [ih]
        by_cases q : k = i
        · rw [if_pos q, if_pos (by omega)]
        · rw [if_neg q, if_neg (by omega)]; rfl
    | cons x l => cases k with
      | zero => rw [if_neg (by omega)]; rfl
      | succ k =>
        show own_getL (own_putL i l v) k = _
        rw [ih]
        by_cases q : k = i
        · rw [if_pos q, if_pos (by omega)]
        · rw [if_neg q, if_neg (by omega)]; rfl
def rI (t : own_T) (j : Nat) : Int32 := own_get t.1 j
def rA (t : own_T) (j x : Nat) : Int32 := own_get (own_getL t.2 j) x
def pI (t : own_T) (j : Nat) (v : Int32) : own_T := (own_put j t.1 v, t.2)
def pA (t : own_T) (j i : Nat) (v : Int32) : own_T := (t.1, own_putL j t.2 (own_put i (own_getL t.2 j) v))
/-- the four places of the text with digits -/
def own_Q (s : St) : Prop := ∀ p : Nat, (p = 3 ∨ p = 8 ∨ p = 12 ∨ p = 24) → ¬ s.2 39 p < 48 ∧ ¬ 57 < s.2 39 p
def own_RN (s : St) (t : own_T) : Prop := (∀ j k, j = k + 56 → s.1 j = rI t k) ∧ (∀ j k, j = k + 39 → s.2 j = rA t k)
def own_RT (s : St) (t : own_T) : Prop := (∀ j k, j = k + 56 → s.1 j = rI t k) ∧ (∀ j k, j = k + 39 → s.2 j = rA t k) ∧ own_Q s
def own_RTP (a : Int32 × St) (b : Int32 × own_T) : Prop := a.1 = b.1 ∧ own_RT a.2 b.2
theorem TN_I {s : St} {t : own_T} (h : own_RN s t) (j i : Nat) (v : Int32) (hj : j = i + 56) : own_RN (setI s j v) (pI t i v) := by
  refine ⟨fun k l hk => ?_, h.2⟩
  rw [setI_1, h.1 k l hk]
  show _ = own_get (own_put i t.1 v) l
  rw [own_gp]
  by_cases q : l = i
  · rw [if_pos q, if_pos (by omega)]
  · rw [if_neg q, if_neg (by omega)]; rfl
theorem TN_A {s : St} {t : own_T} (h : own_RN s t) (j m i : Nat) (v : Int32) (hj : j = m + 39) : own_RN (setA s j i v) (pA t m i v) := by
  refine ⟨h.1, fun k l hk => ?_⟩
  funext x
  rw [setA_2, h.2 k l hk]
  show _ = own_get (own_getL (own_putL m t.2 (own_put i (own_getL t.2 m) v)) l) x
  rw [own_gpL]
  by_cases q : l = m
  · rw [if_pos q, own_gp]
    by_cases z : x = i
    · rw [if_pos z, if_pos ⟨by omega, z⟩]
    · rw [if_neg z, if_neg (fun w => z w.2), q]; rfl
  · rw [if_neg q, if_neg (fun w => q (by omega))]; rfl
theorem TT_I {s : St} {t : own_T} (h : own_RT s t) (j i : Nat) (v : Int32) (hj : j = i + 56) : own_RT (setI s j v) (pI t i v) := by
  have := TN_I ⟨h.1, h.2.1⟩ j i v hj
  exact ⟨this.1, this.2, h.2.2⟩
theorem TT_A {s : St} {t : own_T} (h : own_RT s t) (j m i : Nat) (v : Int32) (hj : j = m + 39) (h39 : j ≠ 39) : own_RT (setA s j i v) (pA t m i v) := by
  have := TN_A ⟨h.1, h.2.1⟩ j m i v hj
  refine ⟨this.1, this.2, fun p hp => ?_⟩
  rw [setA_2, if_neg (fun z => h39 z.1.symm)]
  exact h.2.2 p hp
def own_RR {α β : Type} (P : α → β → Prop) (x : Option α) (y : Option β) : Prop := ∀ b, y = some b → ∃ a, x = some a ∧ P a b
theorem RR_none {α β : Type} {P : α → β → Prop} {x : Option α} : own_RR P x none := fun b h => by cases h
theorem RR_some {α β : Type} {P : α → β → Prop} {a : α} {b : β} (h : P a b) : own_RR P (some a) (some b) := fun b' e => by cases e; exact ⟨a, rfl, h⟩
theorem RR_grd {α β : Type} {P : α → β → Prop} {c : Prop} [Decidable c] {x : Option α} {y : Option β} (h : own_RR P x y) : own_RR P (grd c x) (grd c y) := fun b e => by
  obtain ⟨hc, e⟩ := grd_some e
  rw [grd_pos hc]; exact h b e
theorem RR_ite {α β : Type} {P : α → β → Prop} {c : Prop} [Decidable c] {x x' : Option α} {y y' : Option β} (h : own_RR P x y) (h' : own_RR P x' y') : own_RR P (if c then x else x') (if c then y else y') := by
  by_cases q : c
  · rw [if_pos q, if_pos q]; exact h
  · rw [if_neg q, if_neg q]; exact h'
theorem RR_bind {α β γ δ : Type} {P : α → β → Prop} {Q : γ → δ → Prop} {x : Option α} {y : Option β} {f : α → Option γ} {g : β → Option δ} (h : own_RR P x y) (k : ∀ a b, P a b → own_RR Q (f a) (g b)) : own_RR Q (x.bind f) (y.bind g) := fun d e => by
  cases q : y with
  | none => rw [q] at e; cases e
  | some b =>
    rw [q, Option.bind_some] at e
    obtain ⟨a, ha, p⟩ := h b q
    rw [ha, Option.bind_some]
    exact k a b p d e
theorem RR_bindV {γ δ : Type} {Q : γ → δ → Prop} {x y : Option Int32} {f : Int32 → Option γ} {g : Int32 → Option δ} (h : own_RR Eq x y) (k : ∀ v, own_RR Q (f v) (g v)) : own_RR Q (x.bind f) (y.bind g) := RR_bind h (fun a b e => by rw [e]; exact k b)
theorem RR_bndV {γ δ : Type} {Q : γ → δ → Prop} {x : Int32} {f : Int32 → Option γ} {g : Int32 → Option δ} (k : ∀ v, own_RR Q (f v) (g v)) : own_RR Q (bnd x f) (bnd x g) := k x
theorem TT_bindS {γ δ : Type} {Q : γ → δ → Prop} {x : Option St} {y : Option own_T} {f : St → Option γ} {g : own_T → Option δ} (h : own_RR own_RT x y) (k : ∀ a b, own_RT a b → own_RR Q (f a) (g b)) : own_RR Q (x.bind f) (y.bind g) := RR_bind h k
theorem TT_bndS {γ δ : Type} {Q : γ → δ → Prop} {x : St} {y : own_T} {f : St → Option γ} {g : own_T → Option δ} (h : own_RT x y) (k : ∀ a b, own_RT a b → own_RR Q (f a) (g b)) : own_RR Q (bnd x f) (bnd y g) := k x y h
theorem TT_bindP {γ δ : Type} {Q : γ → δ → Prop} {x : Option (Int32 × St)} {y : Option (Int32 × own_T)} {f : Int32 × St → Option γ} {g : Int32 × own_T → Option δ} (h : own_RR own_RTP x y) (k : ∀ v a b, own_RT a b → own_RR Q (f (v, a)) (g (v, b))) : own_RR Q (x.bind f) (y.bind g) := RR_bind h (fun a b e => by
  obtain ⟨a1, a2⟩ := a
  obtain ⟨b1, b2⟩ := b
  obtain ⟨e1, e2⟩ := e
  have e1 : a1 = b1 := e1
  subst e1
  exact k a1 a2 b2 e2)
def own_o (j : Nat) (x y : Int32) : Int32 := x - y
def W_clearResults (o : Nat → Int32 → Int32 → Int32) (s : own_T) : Option (own_T) :=
  bnd (pI s 2 ((0 : Int32) &&& 1)) fun s1 =>
  bnd (pI s1 3 (-1 : Int32)) fun s2 =>
  bnd (pI s2 4 (-1 : Int32)) fun s3 =>
  bnd (pI s3 5 ((0 : Int32) &&& 1)) fun s4 =>
  some s4
theorem Z_clearResults {s : St} {t : own_T} (h : own_RT s t) : own_RR own_RT (f_clearResults s) (W_clearResults own_o t) := by
  unfold f_clearResults W_clearResults
  refine TT_bndS (TT_I h 58 2 _ rfl) fun s1 t1 h1 => ?_
  refine TT_bndS (TT_I h1 59 3 _ rfl) fun s2 t2 h2 => ?_
  refine TT_bndS (TT_I h2 60 4 _ rfl) fun s3 t3 h3 => ?_
  refine TT_bndS (TT_I h3 61 5 _ rfl) fun s4 t4 h4 => ?_
  exact RR_some h4
def W_push (o : Nat → Int32 → Int32 → Int32) (a0 : Int32) (a1 : Int32) (s : own_T) : Option (own_T) :=
  if (rI s 6) < (1024 : Int32) then
    grd (inb (rI s 6) 1024) <|
    bnd (pA s 11 (ix (rI s 6)) a0) fun s3 =>
    grd (inb (rI s3 6) 1024) <|
    bnd (pA s3 12 (ix (rI s3 6)) a1) fun s5 =>
    bnd (pI s5 6 ((rI s5 6) + (1 : Int32))) fun s6 =>
    some s6
  else
    bnd (pI s 13 ((1 : Int32) &&& 1)) fun s7 =>
    some s7
theorem Z_push {a0 : Int32} {a1 : Int32} {s : St} {t : own_T} (h : own_RT s t) : own_RR own_RT (f_push a0 a1 s) (W_push own_o a0 a1 t) := by
  unfold f_push W_push
  rw [h.1 62 6 rfl]
  refine RR_ite ?_ ?_
  · refine RR_grd ?_
    refine TT_bndS (TT_A h 50 11 _ _ rfl (by decide)) fun s3 t3 h3 => ?_
    rw [h3.1 62 6 rfl]
    refine RR_grd ?_
    refine TT_bndS (TT_A h3 51 12 _ _ rfl (by decide)) fun s5 t5 h5 => ?_
    rw [h5.1 62 6 rfl]
    refine TT_bndS (TT_I h5 62 6 _ rfl) fun s6 t6 h6 => ?_
    exact RR_some h6
  · refine TT_bndS (TT_I h 69 13 _ rfl) fun s7 t7 h7 => ?_
    exact RR_some h7
def W_pushProgram (o : Nat → Int32 → Int32 → Int32) (s : own_T) : Option (own_T) :=
  (W_push o (15 : Int32) (0 : Int32) s).bind fun q1 =>
  (W_push o (17 : Int32) (0 : Int32) q1).bind fun q3 =>
  (W_push o (1 : Int32) (0 : Int32) q3).bind fun q5 =>
  (W_push o (16 : Int32) (1 : Int32) q5).bind fun q7 =>
  (W_push o (14 : Int32) (81 : Int32) q7).bind fun q9 =>
  (W_push o (19 : Int32) (0 : Int32) q9).bind fun q11 =>
  (W_push o (12 : Int32) (0 : Int32) q11).bind fun q13 =>
  (W_push o (18 : Int32) (0 : Int32) q13).bind fun q15 =>
  (W_push o (14 : Int32) (59 : Int32) q15).bind fun q17 =>
  (W_push o (17 : Int32) (0 : Int32) q17).bind fun q19 =>
  (W_push o (1 : Int32) (0 : Int32) q19).bind fun q21 =>
  (W_push o (16 : Int32) (0 : Int32) q21).bind fun q23 =>
  (W_push o (14 : Int32) (80 : Int32) q23).bind fun q25 =>
  some q25
theorem Z_pushProgram {s : St} {t : own_T} (h : own_RT s t) : own_RR own_RT (f_pushProgram s) (W_pushProgram own_o t) := by
  unfold f_pushProgram W_pushProgram
  refine TT_bindS (Z_push h) fun s1 t1 h1 => ?_
  refine TT_bindS (Z_push h1) fun s3 t3 h3 => ?_
  refine TT_bindS (Z_push h3) fun s5 t5 h5 => ?_
  refine TT_bindS (Z_push h5) fun s7 t7 h7 => ?_
  refine TT_bindS (Z_push h7) fun s9 t9 h9 => ?_
  refine TT_bindS (Z_push h9) fun s11 t11 h11 => ?_
  refine TT_bindS (Z_push h11) fun s13 t13 h13 => ?_
  refine TT_bindS (Z_push h13) fun s15 t15 h15 => ?_
  refine TT_bindS (Z_push h15) fun s17 t17 h17 => ?_
  refine TT_bindS (Z_push h17) fun s19 t19 h19 => ?_
  refine TT_bindS (Z_push h19) fun s21 t21 h21 => ?_
  refine TT_bindS (Z_push h21) fun s23 t23 h23 => ?_
  refine TT_bindS (Z_push h23) fun s25 t25 h25 => ?_
  exact RR_some h25
def W_la (o : Nat → Int32 → Int32 → Int32) (s : own_T) : Option (Int32) :=
  if (rI s 12) < 0 then
    some (-1 : Int32)
  else
    if (rI s 12) < (rI s 1) then
      grd (inb (rI s 12) 128) <|
      some (rA s 0 (ix (rI s 12)))
    else
      some (-1 : Int32)
theorem Z_la {s : St} {t : own_T} (h : own_RT s t) : own_RR Eq (f_la s) (W_la own_o t) := by
  unfold f_la W_la
  rw [h.1 57 1 rfl, h.1 68 12 rfl, h.2.1 39 0 rfl]
  refine RR_ite ?_ ?_
  · exact RR_some rfl
  · refine RR_ite ?_ ?_
    · refine RR_grd ?_
      exact RR_some rfl
    · exact RR_some rfl
def W_emit (o : Nat → Int32 → Int32 → Int32) (a0 : Int32) (a1 : Int32) (s : own_T) : Option (own_T) :=
  if (rI s 7) < (512 : Int32) then
    grd (inb (rI s 7) 512) <|
    bnd (pA s 1 (ix (rI s 7)) a0) fun s3 =>
    grd (inb (rI s3 7) 512) <|
    bnd (pA s3 2 (ix (rI s3 7)) a1) fun s5 =>
    bnd (pI s5 7 ((rI s5 7) + (1 : Int32))) fun s6 =>
    some s6
  else
    bnd (pI s 13 ((1 : Int32) &&& 1)) fun s7 =>
    some s7
theorem Z_emit {a0 : Int32} {a1 : Int32} {s : St} {t : own_T} (h : own_RT s t) : own_RR own_RT (f_emit a0 a1 s) (W_emit own_o a0 a1 t) := by
  unfold f_emit W_emit
  rw [h.1 63 7 rfl]
  refine RR_ite ?_ ?_
  · refine RR_grd ?_
    refine TT_bndS (TT_A h 40 1 _ _ rfl (by decide)) fun s3 t3 h3 => ?_
    rw [h3.1 63 7 rfl]
    refine RR_grd ?_
    refine TT_bndS (TT_A h3 41 2 _ _ rfl (by decide)) fun s5 t5 h5 => ?_
    rw [h5.1 63 7 rfl]
    refine TT_bndS (TT_I h5 63 7 _ rfl) fun s6 t6 h6 => ?_
    exact RR_some h6
  · refine TT_bndS (TT_I h 69 13 _ rfl) fun s7 t7 h7 => ?_
    exact RR_some h7
def W_openList_13 (o : Nat → Int32 → Int32 → Int32) (s : own_T) : Option (own_T) :=
  bnd (pI s 13 ((1 : Int32) &&& 1)) fun s1 =>
  some s1
theorem Z_openList_13 {s : St} {t : own_T} (h : own_RT s t) : own_RR own_RT (f_openList_13 s) (W_openList_13 own_o t) := by
  unfold f_openList_13 W_openList_13
  refine TT_bndS (TT_I h 69 13 _ rfl) fun s1 t1 h1 => ?_
  exact RR_some h1
def W_openList (o : Nat → Int32 → Int32 → Int32) (a0 : Int32) (s : own_T) : Option (own_T) :=
  if (rI s 10) < (64 : Int32) then
    if a0 < 0 then
      W_openList_13 o s
    else
      grd (inb (rI s 10) 64) <|
      bnd (pA s 13 (ix (rI s 10)) ((a0 / (2 : Int32)) - (1 : Int32))) fun s4 =>
      grd (inb (rI s4 10) 64) <|
      bnd (pA s4 14 (ix (rI s4 10)) (a0 % (2 : Int32))) fun s6 =>
      grd (inb (rI s6 10) 64) <|
      bnd (pA s6 15 (ix (rI s6 10)) (-1 : Int32)) fun s8 =>
      bnd (pI s8 10 ((rI s8 10) + (1 : Int32))) fun s9 =>
      some s9
  else
    W_openList_13 o s
theorem Z_openList {a0 : Int32} {s : St} {t : own_T} (h : own_RT s t) : own_RR own_RT (f_openList a0 s) (W_openList own_o a0 t) := by
  unfold f_openList W_openList
  rw [h.1 66 10 rfl]
  refine RR_ite ?_ ?_
  · refine RR_ite ?_ ?_
    · exact Z_openList_13 h
    · refine RR_grd ?_
      refine TT_bndS (TT_A h 52 13 _ _ rfl (by decide)) fun s4 t4 h4 => ?_
      rw [h4.1 66 10 rfl]
      refine RR_grd ?_
      refine TT_bndS (TT_A h4 53 14 _ _ rfl (by decide)) fun s6 t6 h6 => ?_
      rw [h6.1 66 10 rfl]
      refine RR_grd ?_
      refine TT_bndS (TT_A h6 54 15 _ _ rfl (by decide)) fun s8 t8 h8 => ?_
      rw [h8.1 66 10 rfl]
      refine TT_bndS (TT_I h8 66 10 _ rfl) fun s9 t9 h9 => ?_
      exact RR_some h9
  · exact Z_openList_13 h
def W_stepAction (o : Nat → Int32 → Int32 → Int32) (a0 : Int32) (a1 : Int32) (s : own_T) : Option (own_T) :=
  if a0 = (14 : Int32) then
    (W_la o s).bind fun q2 =>
    if q2 = a1 then
      bnd (pI s 12 ((rI s 12) + (1 : Int32))) fun s5 =>
      some s5
    else
      bnd (pI s 13 ((1 : Int32) &&& 1)) fun s6 =>
      some s6
  else
    if a0 = (15 : Int32) then
      if (rI s 12) = (rI s 1) then
        bnd (pI s 14 ((1 : Int32) &&& 1)) fun s9 =>
        some s9
      else
        bnd (pI s 13 ((1 : Int32) &&& 1)) fun s10 =>
        some s10
    else
      if a0 = (16 : Int32) then
        if a1 < 0 then
          some s
        else
          if a1 < (160 : Int32) then
            grd (inb a1 160) <|
            bnd (pA s 3 (ix a1) (rI s 7)) fun s15 =>
            some s15
          else
            some s
      else
        if a0 = (17 : Int32) then
          (W_emit o a1 (0 : Int32) s).bind fun q17 =>
          some q17
        else
          if a0 = (18 : Int32) then
            (W_openList o a1 s).bind fun q20 =>
            some q20
          else
            if a0 = (19 : Int32) then
              if 0 < (rI s 10) then
                bnd (pI s 10 ((rI s 10) - (1 : Int32))) fun s24 =>
                some s24
              else
                some s
            else
              bnd (pI s 13 ((1 : Int32) &&& 1)) fun s25 =>
              some s25
theorem Z_stepAction {a0 : Int32} {a1 : Int32} {s : St} {t : own_T} (h : own_RT s t) : own_RR own_RT (f_stepAction a0 a1 s) (W_stepAction own_o a0 a1 t) := by
  unfold f_stepAction W_stepAction
  rw [h.1 57 1 rfl, h.1 63 7 rfl, h.1 66 10 rfl, h.1 68 12 rfl]
  refine RR_ite ?_ ?_
  · refine RR_bindV (Z_la h) fun v2 => ?_
    refine RR_ite ?_ ?_
    · refine TT_bndS (TT_I h 68 12 _ rfl) fun s5 t5 h5 => ?_
      exact RR_some h5
    · refine TT_bndS (TT_I h 69 13 _ rfl) fun s6 t6 h6 => ?_
      exact RR_some h6
  · refine RR_ite ?_ ?_
    · refine RR_ite ?_ ?_
      · refine TT_bndS (TT_I h 70 14 _ rfl) fun s9 t9 h9 => ?_
        exact RR_some h9
      · refine TT_bndS (TT_I h 69 13 _ rfl) fun s10 t10 h10 => ?_
        exact RR_some h10
    · refine RR_ite ?_ ?_
      · refine RR_ite ?_ ?_
        · exact RR_some h
        · refine RR_ite ?_ ?_
          · refine RR_grd ?_
            refine TT_bndS (TT_A h 42 3 _ _ rfl (by decide)) fun s15 t15 h15 => ?_
            exact RR_some h15
          · exact RR_some h
      · refine RR_ite ?_ ?_
        · refine TT_bindS (Z_emit h) fun s17 t17 h17 => ?_
          exact RR_some h17
        · refine RR_ite ?_ ?_
          · refine TT_bindS (Z_openList h) fun s20 t20 h20 => ?_
            exact RR_some h20
          · refine RR_ite ?_ ?_
            · refine RR_ite ?_ ?_
              · refine TT_bndS (TT_I h 66 10 _ rfl) fun s24 t24 h24 => ?_
                exact RR_some h24
              · exact RR_some h
            · refine TT_bndS (TT_I h 69 13 _ rfl) fun s25 t25 h25 => ?_
              exact RR_some h25
def W_varIndex (o : Nat → Int32 → Int32 → Int32) (s : own_T) (a0 : Int32) : Option (Int32) :=
  if a0 = (120 : Int32) then
    some (0 : Int32)
  else
    if a0 = (121 : Int32) then
      some (1 : Int32)
    else
      if a0 = (122 : Int32) then
        some (2 : Int32)
      else
        some (-1 : Int32)
theorem Z_varIndex {a0 : Int32} {s : St} {t : own_T} (h : own_RT s t) : own_RR Eq (f_varIndex s a0) (W_varIndex own_o t a0) := by
  unfold f_varIndex W_varIndex
  refine RR_ite ?_ ?_
  · exact RR_some rfl
  · refine RR_ite ?_ ?_
    · exact RR_some rfl
    · refine RR_ite ?_ ?_
      · exact RR_some rfl
      · exact RR_some rfl
def W_stmtStart (o : Nat → Int32 → Int32 → Int32) (s : own_T) (a0 : Int32) : Option (Int32) :=
  (W_varIndex o s a0).bind fun q1 =>
  if q1 < 0 then
    if a0 = (63 : Int32) then
      some (1 : Int32)
    else
      if a0 = (87 : Int32) then
        some (1 : Int32)
      else
        some (0 : Int32)
  else
    some (1 : Int32)
theorem Z_stmtStart {a0 : Int32} {s : St} {t : own_T} (h : own_RT s t) : own_RR Eq (f_stmtStart s a0) (W_stmtStart own_o t a0) := by
  unfold f_stmtStart W_stmtStart
  refine RR_bindV (Z_varIndex h) fun v1 => ?_
  refine RR_ite ?_ ?_
  · refine RR_ite ?_ ?_
    · exact RR_some rfl
    · refine RR_ite ?_ ?_
      · exact RR_some rfl
      · exact RR_some rfl
  · exact RR_some rfl
def W_newStmt_182 (o : Nat → Int32 → Int32 → Int32) (x2 : Int32) (x3 : Int32) (s : own_T) : Option (Int32 × own_T) :=
  grd (inb x3 64) <|
  bnd (pA s 15 (ix x3) x2) fun s2 =>
  some (x2, s2)
theorem Z_newStmt_182 {x2 : Int32} {x3 : Int32} {s : St} {t : own_T} (h : own_RT s t) : own_RR own_RTP (f_newStmt_182 x2 x3 s) (W_newStmt_182 own_o x2 x3 t) := by
  unfold f_newStmt_182 W_newStmt_182
  refine RR_grd ?_
  refine TT_bndS (TT_A h 54 15 _ _ rfl (by decide)) fun s2 t2 h2 => ?_
  exact RR_some ⟨rfl, h2⟩
def W_newStmt_167 (o : Nat → Int32 → Int32 → Int32) (x2 : Int32) (x3 : Int32) (x4 : Int32) (s : own_T) : Option (Int32 × own_T) :=
  if x4 < (64 : Int32) then
    grd (inb x4 64) <|
    bnd (pA s 7 (ix x4) x2) fun s3 =>
    W_newStmt_182 o x2 x3 s3
  else
    W_newStmt_182 o x2 x3 s
theorem Z_newStmt_167 {x2 : Int32} {x3 : Int32} {x4 : Int32} {s : St} {t : own_T} (h : own_RT s t) : own_RR own_RTP (f_newStmt_167 x2 x3 x4 s) (W_newStmt_167 own_o x2 x3 x4 t) := by
  unfold f_newStmt_167 W_newStmt_167
  refine RR_ite ?_ ?_
  · refine RR_grd ?_
    refine TT_bndS (TT_A h 46 7 _ _ rfl (by decide)) fun s3 t3 h3 => ?_
    exact Z_newStmt_182 h3
  · exact Z_newStmt_182 h
def W_newStmt_127 (o : Nat → Int32 → Int32 → Int32) (x2 : Int32) (x3 : Int32) (x4 : Int32) (s : own_T) : Option (Int32 × own_T) :=
  if x4 < 0 then
    bnd (pI s 11 x2) fun s2 =>
    W_newStmt_182 o x2 x3 s2
  else
    if x4 < (64 : Int32) then
      grd (inb x3 64) <|
      if (rA s 14 (ix x3)) = 0 then
        grd (inb x4 64) <|
        bnd (pA s 6 (ix x4) x2) fun s7 =>
        W_newStmt_182 o x2 x3 s7
      else
        W_newStmt_167 o x2 x3 x4 s
    else
      W_newStmt_167 o x2 x3 x4 s
theorem Z_newStmt_127 {x2 : Int32} {x3 : Int32} {x4 : Int32} {s : St} {t : own_T} (h : own_RT s t) : own_RR own_RTP (f_newStmt_127 x2 x3 x4 s) (W_newStmt_127 own_o x2 x3 x4 t) := by
  unfold f_newStmt_127 W_newStmt_127
  rw [h.2.1 53 14 rfl]
  refine RR_ite ?_ ?_
  · refine TT_bndS (TT_I h 67 11 _ rfl) fun s2 t2 h2 => ?_
    exact Z_newStmt_182 h2
  · refine RR_ite ?_ ?_
    · refine RR_grd ?_
      refine RR_ite ?_ ?_
      · refine RR_grd ?_
        refine TT_bndS (TT_A h 45 6 _ _ rfl (by decide)) fun s7 t7 h7 => ?_
        exact Z_newStmt_182 h7
      · exact Z_newStmt_167 h
    · exact Z_newStmt_167 h
def W_newStmt_16 (o : Nat → Int32 → Int32 → Int32) (s : own_T) : Option (Int32 × own_T) :=
  bnd (pI s 13 ((1 : Int32) &&& 1)) fun s1 =>
  some ((-1 : Int32), s1)
theorem Z_newStmt_16 {s : St} {t : own_T} (h : own_RT s t) : own_RR own_RTP (f_newStmt_16 s) (W_newStmt_16 own_o t) := by
  unfold f_newStmt_16 W_newStmt_16
  refine TT_bndS (TT_I h 69 13 _ rfl) fun s1 t1 h1 => ?_
  exact RR_some ⟨rfl, h1⟩
def W_newStmt (o : Nat → Int32 → Int32 → Int32) (a0 : Int32) (s : own_T) : Option (Int32 × own_T) :=
  if (rI s 8) < (64 : Int32) then
    if 0 < (rI s 10) then
      bnd (pI s 8 ((rI s 8) + (1 : Int32))) fun s3 =>
      grd (inb (rI s 8) 64) <|
      bnd (pA s3 4 (ix (rI s 8)) a0) fun s5 =>
      bnd (pA s5 5 (ix (rI s 8)) (0 : Int32)) fun s6 =>
      bnd (pA s6 6 (ix (rI s 8)) (-1 : Int32)) fun s7 =>
      bnd (pA s7 7 (ix (rI s 8)) (-1 : Int32)) fun s8 =>
      bnd (pA s8 8 (ix (rI s 8)) (-1 : Int32)) fun s9 =>
      grd (inb ((rI s9 10) - (1 : Int32)) 64) <|
      bnd (pA s9 9 (ix (rI s 8)) (rA s9 13 (ix ((rI s9 10) - (1 : Int32))))) fun s11 =>
      if (rA s11 15 (ix ((rI s9 10) - (1 : Int32)))) < 0 then
        W_newStmt_127 o (rI s 8) ((rI s9 10) - (1 : Int32)) (rA s9 13 (ix ((rI s9 10) - (1 : Int32)))) s11
      else
        if (rA s11 15 (ix ((rI s9 10) - (1 : Int32)))) < (64 : Int32) then
          grd (inb (rA s11 15 (ix ((rI s9 10) - (1 : Int32)))) 64) <|
          bnd (pA s11 8 (ix (rA s11 15 (ix ((rI s9 10) - (1 : Int32))))) (rI s 8)) fun s15 =>
          W_newStmt_182 o (rI s 8) ((rI s9 10) - (1 : Int32)) s15
        else
          W_newStmt_127 o (rI s 8) ((rI s9 10) - (1 : Int32)) (rA s9 13 (ix ((rI s9 10) - (1 : Int32)))) s11
    else
      W_newStmt_16 o s
  else
    W_newStmt_16 o s
theorem Z_newStmt {a0 : Int32} {s : St} {t : own_T} (h : own_RT s t) : own_RR own_RTP (f_newStmt a0 s) (W_newStmt own_o a0 t) := by
  unfold f_newStmt W_newStmt
  rw [h.1 64 8 rfl, h.1 66 10 rfl]
  refine RR_ite ?_ ?_
  · refine RR_ite ?_ ?_
    · refine TT_bndS (TT_I h 64 8 _ rfl) fun s3 t3 h3 => ?_
      refine RR_grd ?_
      refine TT_bndS (TT_A h3 43 4 _ _ rfl (by decide)) fun s5 t5 h5 => ?_
      refine TT_bndS (TT_A h5 44 5 _ _ rfl (by decide)) fun s6 t6 h6 => ?_
      refine TT_bndS (TT_A h6 45 6 _ _ rfl (by decide)) fun s7 t7 h7 => ?_
      refine TT_bndS (TT_A h7 46 7 _ _ rfl (by decide)) fun s8 t8 h8 => ?_
      refine TT_bndS (TT_A h8 47 8 _ _ rfl (by decide)) fun s9 t9 h9 => ?_
      rw [h9.1 66 10 rfl, h9.2.1 52 13 rfl]
      refine RR_grd ?_
      refine TT_bndS (TT_A h9 48 9 _ _ rfl (by decide)) fun s11 t11 h11 => ?_
      rw [h11.2.1 54 15 rfl]
      refine RR_ite ?_ ?_
      · exact Z_newStmt_127 h11
      · refine RR_ite ?_ ?_
        · refine RR_grd ?_
          refine TT_bndS (TT_A h11 47 8 _ _ rfl (by decide)) fun s15 t15 h15 => ?_
          exact Z_newStmt_182 h15
        · exact Z_newStmt_127 h11
    · exact Z_newStmt_16 h
  · exact Z_newStmt_16 h
def W_startWhile (o : Nat → Int32 → Int32 → Int32) (s : own_T) : Option (own_T) :=
  (W_newStmt o (2 : Int32) s).bind fun q1 =>
  if q1.1 < 0 then
    some q1.2
  else
    if (rI q1.2 9) < (64 : Int32) then
      grd (inb (rI q1.2 9) 64) <|
      bnd (pA q1.2 10 (ix (rI q1.2 9)) q1.1) fun s6 =>
      bnd (pI s6 9 ((rI s6 9) + (1 : Int32))) fun s7 =>
      bnd (pI s7 12 ((rI s7 12) + (1 : Int32))) fun s8 =>
      (W_push o (14 : Int32) (125 : Int32) s8).bind fun q9 =>
      (W_push o (19 : Int32) (0 : Int32) q9).bind fun q11 =>
      (W_push o (12 : Int32) (0 : Int32) q11).bind fun q13 =>
      (W_push o (18 : Int32) ((q1.1 + (1 : Int32)) * (2 : Int32)) q13).bind fun q15 =>
      (W_push o (14 : Int32) (123 : Int32) q15).bind fun q17 =>
      (W_push o (17 : Int32) (0 : Int32) q17).bind fun q19 =>
      (W_push o (1 : Int32) (0 : Int32) q19).bind fun q21 =>
      (W_push o (16 : Int32) ((3 : Int32) + ((2 : Int32) * q1.1)) q21).bind fun q23 =>
      (W_push o (14 : Int32) (64 : Int32) q23).bind fun q25 =>
      (W_push o (17 : Int32) (0 : Int32) q25).bind fun q27 =>
      (W_push o (1 : Int32) (0 : Int32) q27).bind fun q29 =>
      (W_push o (16 : Int32) ((2 : Int32) + ((2 : Int32) * q1.1)) q29).bind fun q31 =>
      some q31
    else
      bnd (pI q1.2 13 ((1 : Int32) &&& 1)) fun s33 =>
      some s33
theorem Z_startWhile {s : St} {t : own_T} (h : own_RT s t) : own_RR own_RT (f_startWhile s) (W_startWhile own_o t) := by
  unfold f_startWhile W_startWhile
  refine TT_bindP (Z_newStmt h) fun v1 s1 t1 h1 => ?_
  try dsimp only
  rw [h1.1 65 9 rfl]
  refine RR_ite ?_ ?_
  · exact RR_some h1
  · refine RR_ite ?_ ?_
    · refine RR_grd ?_
      refine TT_bndS (TT_A h1 49 10 _ _ rfl (by decide)) fun s6 t6 h6 => ?_
      rw [h6.1 65 9 rfl]
      refine TT_bndS (TT_I h6 65 9 _ rfl) fun s7 t7 h7 => ?_
      rw [h7.1 68 12 rfl]
      refine TT_bndS (TT_I h7 68 12 _ rfl) fun s8 t8 h8 => ?_
      refine TT_bindS (Z_push h8) fun s9 t9 h9 => ?_
      refine TT_bindS (Z_push h9) fun s11 t11 h11 => ?_
      refine TT_bindS (Z_push h11) fun s13 t13 h13 => ?_
      refine TT_bindS (Z_push h13) fun s15 t15 h15 => ?_
      refine TT_bindS (Z_push h15) fun s17 t17 h17 => ?_
      refine TT_bindS (Z_push h17) fun s19 t19 h19 => ?_
      refine TT_bindS (Z_push h19) fun s21 t21 h21 => ?_
      refine TT_bindS (Z_push h21) fun s23 t23 h23 => ?_
      refine TT_bindS (Z_push h23) fun s25 t25 h25 => ?_
      refine TT_bindS (Z_push h25) fun s27 t27 h27 => ?_
      refine TT_bindS (Z_push h27) fun s29 t29 h29 => ?_
      refine TT_bindS (Z_push h29) fun s31 t31 h31 => ?_
      exact RR_some h31
    · refine TT_bndS (TT_I h1 69 13 _ rfl) fun s33 t33 h33 => ?_
      exact RR_some h33
def W_startAssign (o : Nat → Int32 → Int32 → Int32) (a0 : Int32) (s : own_T) : Option (own_T) :=
  (W_newStmt o (0 : Int32) s).bind fun q1 =>
  if q1.1 < 0 then
    some q1.2
  else
    grd (inb q1.1 64) <|
    bnd (pA q1.2 5 (ix q1.1) a0) fun s5 =>
    bnd (pI s5 12 ((rI s5 12) + (1 : Int32))) fun s6 =>
    (W_push o (14 : Int32) (59 : Int32) s6).bind fun q7 =>
    (W_push o (17 : Int32) (0 : Int32) q7).bind fun q9 =>
    (W_push o (7 : Int32) (0 : Int32) q9).bind fun q11 =>
    (W_push o (16 : Int32) ((2 : Int32) + ((2 : Int32) * q1.1)) q11).bind fun q13 =>
    (W_push o (14 : Int32) (61 : Int32) q13).bind fun q15 =>
    some q15
theorem Z_startAssign {a0 : Int32} {s : St} {t : own_T} (h : own_RT s t) : own_RR own_RT (f_startAssign a0 s) (W_startAssign own_o a0 t) := by
  unfold f_startAssign W_startAssign
  refine TT_bindP (Z_newStmt h) fun v1 s1 t1 h1 => ?_
  try dsimp only
  refine RR_ite ?_ ?_
  · exact RR_some h1
  · refine RR_grd ?_
    refine TT_bndS (TT_A h1 44 5 _ _ rfl (by decide)) fun s5 t5 h5 => ?_
    rw [h5.1 68 12 rfl]
    refine TT_bndS (TT_I h5 68 12 _ rfl) fun s6 t6 h6 => ?_
    refine TT_bindS (Z_push h6) fun s7 t7 h7 => ?_
    refine TT_bindS (Z_push h7) fun s9 t9 h9 => ?_
    refine TT_bindS (Z_push h9) fun s11 t11 h11 => ?_
    refine TT_bindS (Z_push h11) fun s13 t13 h13 => ?_
    refine TT_bindS (Z_push h13) fun s15 t15 h15 => ?_
    exact RR_some h15
def W_stepStmts (o : Nat → Int32 → Int32 → Int32) (a0 : Int32) (s : own_T) : Option (own_T) :=
  (W_la o s).bind fun q1 =>
  if a0 = (12 : Int32) then
    (W_stmtStart o s q1).bind fun q4 =>
    if q4 = 0 then
      some s
    else
      (W_push o (12 : Int32) (0 : Int32) s).bind fun q7 =>
      (W_push o (13 : Int32) (0 : Int32) q7).bind fun q9 =>
      some q9
  else
    (W_varIndex o s q1).bind fun q11 =>
    if q11 < 0 then
      if q1 = (63 : Int32) then
        none
      else
        if q1 = (87 : Int32) then
          (W_startWhile o s).bind fun q16 =>
          some q16
        else
          bnd (pI s 13 ((1 : Int32) &&& 1)) fun s18 =>
          some s18
    else
      (W_startAssign o q11 s).bind fun q19 =>
      some q19
theorem Z_stepStmts {a0 : Int32} {s : St} {t : own_T} (h : own_RT s t) : own_RR own_RT (f_stepStmts a0 s) (W_stepStmts own_o a0 t) := by
  unfold f_stepStmts W_stepStmts
  refine RR_bindV (Z_la h) fun v1 => ?_
  refine RR_ite ?_ ?_
  · refine RR_bindV (Z_stmtStart h) fun v4 => ?_
    refine RR_ite ?_ ?_
    · exact RR_some h
    · refine TT_bindS (Z_push h) fun s7 t7 h7 => ?_
      refine TT_bindS (Z_push h7) fun s9 t9 h9 => ?_
      exact RR_some h9
  · refine RR_bindV (Z_varIndex h) fun v11 => ?_
    refine RR_ite ?_ ?_
    · refine RR_ite ?_ ?_
      · exact RR_none
      · refine RR_ite ?_ ?_
        · refine TT_bindS (Z_startWhile h) fun s16 t16 h16 => ?_
          exact RR_some h16
        · refine TT_bndS (TT_I h 69 13 _ rfl) fun s18 t18 h18 => ?_
          exact RR_some h18
    · refine TT_bindS (Z_startAssign h) fun s19 t19 h19 => ?_
      exact RR_some h19
def W_binRest (o : Nat → Int32 → Int32 → Int32) (a0 : Int32) (a1 : Int32) (a2 : Int32) (s : own_T) : Option (own_T) :=
  bnd (pI s 12 ((rI s 12) + (1 : Int32))) fun s1 =>
  (W_push o a0 (0 : Int32) s1).bind fun q2 =>
  (W_push o (17 : Int32) a1 q2).bind fun q4 =>
  (W_push o a2 (0 : Int32) q4).bind fun q6 =>
  some q6
theorem Z_binRest {a0 : Int32} {a1 : Int32} {a2 : Int32} {s : St} {t : own_T} (h : own_RT s t) : own_RR own_RT (f_binRest a0 a1 a2 s) (W_binRest own_o a0 a1 a2 t) := by
  unfold f_binRest W_binRest
  rw [h.1 68 12 rfl]
  refine TT_bndS (TT_I h 68 12 _ rfl) fun s1 t1 h1 => ?_
  refine TT_bindS (Z_push h1) fun s2 t2 h2 => ?_
  refine TT_bindS (Z_push h2) fun s4 t4 h4 => ?_
  refine TT_bindS (Z_push h4) fun s6 t6 h6 => ?_
  exact RR_some h6
def W_stepAtom_68 (o : Nat → Int32 → Int32 → Int32) (x1 : Int32) (s : own_T) : Option (own_T) :=
  if x1 = (40 : Int32) then
    bnd (pI s 12 ((rI s 12) + (1 : Int32))) fun s2 =>
    (W_push o (14 : Int32) (41 : Int32) s2).bind fun q3 =>
    (W_push o (7 : Int32) (0 : Int32) q3).bind fun q5 =>
    some q5
  else
    bnd (pI s 13 ((1 : Int32) &&& 1)) fun s7 =>
    some s7
theorem Z_stepAtom_68 {x1 : Int32} {s : St} {t : own_T} (h : own_RT s t) : own_RR own_RT (f_stepAtom_68 x1 s) (W_stepAtom_68 own_o x1 t) := by
  unfold f_stepAtom_68 W_stepAtom_68
  rw [h.1 68 12 rfl]
  refine RR_ite ?_ ?_
  · refine TT_bndS (TT_I h 68 12 _ rfl) fun s2 t2 h2 => ?_
    refine TT_bindS (Z_push h2) fun s3 t3 h3 => ?_
    refine TT_bindS (Z_push h3) fun s5 t5 h5 => ?_
    exact RR_some h5
  · refine TT_bndS (TT_I h 69 13 _ rfl) fun s7 t7 h7 => ?_
    exact RR_some h7
def own_isd (x : Int32) : Bool := if x = 3 then true else if x = 8 then true else if x = 12 then true else if x = 24 then true else false
theorem own_isdE {x : Int32} (h : own_isd x = true) : ∃ p : Nat, (p = 3 ∨ p = 8 ∨ p = 12 ∨ p = 24) ∧ x = Int32.ofNat p := by
  unfold own_isd at h
  by_cases q1 : x = 3
  · exact ⟨3, by omega, q1⟩
  · rw [if_neg q1] at h
    by_cases q2 : x = 8
    · exact ⟨8, by omega, q2⟩
    · rw [if_neg q2] at h
      by_cases q3 : x = 12
      · exact ⟨12, by omega, q3⟩
      · rw [if_neg q3] at h
        by_cases q4 : x = 24
        · exact ⟨24, by omega, q4⟩
        · rw [if_neg q4] at h; cases h
def W_stepAtom (o : Nat → Int32 → Int32 → Int32) (s : own_T) : Option (own_T) :=
  if own_isd (rI s 12) = true then
    if (rI s 12) < (rI s 1) then
      bnd (rA s 0 (ix (rI s 12))) fun v7 =>
      bnd (pI s 12 ((rI s 12) + (1 : Int32))) fun s8 =>
      (W_emit o (2 : Int32) (o 5 v7 (48 : Int32)) s8).bind fun q9 =>
      some q9
    else
      none
  else
    (W_la o s).bind fun q1 =>
    (W_varIndex o s q1).bind fun q3 =>
    if q3 < 0 then
      if q1 < (48 : Int32) then
        W_stepAtom_68 o q1 s
      else
        if (57 : Int32) < q1 then
          W_stepAtom_68 o q1 s
        else
          bnd (pI s 12 ((rI s 12) + (1 : Int32))) fun s8 =>
          (W_emit o (2 : Int32) (o 5 q1 (48 : Int32)) s8).bind fun q9 =>
          some q9
    else
      bnd (pI s 12 ((rI s 12) + (1 : Int32))) fun s11 =>
      (W_emit o (1 : Int32) q3 s11).bind fun q12 =>
      some q12
theorem Z_stepAtom {s : St} {t : own_T} (h : own_RT s t) : own_RR own_RT (f_stepAtom s) (W_stepAtom own_o t) := by
  unfold f_stepAtom W_stepAtom
  by_cases q : own_isd (rI t 12) = true
  · rw [if_pos q]
    by_cases q2 : rI t 12 < rI t 1
    · rw [if_pos q2]
      obtain ⟨p, hp, ep⟩ := own_isdE q
      have hb : p < 128 := by omega
      have hd := h.2.2 p hp
      have el : f_la s = some (s.2 39 p) := by
        unfold f_la
        rw [h.1 68 12 rfl, h.1 57 1 rfl, ep, if_neg (N_neg (by omega)), ← ep, if_pos q2, ep, grd_pos (inbN hb (by omega)), ix_N (by omega)]
      have ev : f_varIndex s (s.2 39 p) = some (-1) := by
        unfold f_varIndex
        have l := hd.2
        rw [lt_I, show (57 : Int32).toInt = 57 from rfl] at l
        rw [if_neg (fun z => by rw [z] at l; exact absurd l (by decide)), if_neg (fun z => by rw [z] at l; exact absurd l (by decide)), if_neg (fun z => by rw [z] at l; exact absurd l (by decide))]
      rw [el, Option.bind_some, ev, Option.bind_some, if_pos (by decide), if_neg hd.1, if_neg hd.2, h.1 68 12 rfl]
      have e39 : rA t 0 (ix (rI t 12)) = s.2 39 p := by rw [ep, ix_N (by omega), h.2.1 39 0 rfl]
      rw [bnd_eq (rA t 0 (ix (rI t 12))), e39]
      refine TT_bndS (TT_I h 68 12 _ rfl) fun s8 t8 h8 => ?_
      exact TT_bindS (Z_emit h8) fun s9 t9 h9 => RR_some h9
    · rw [if_neg q2]; exact RR_none
  · rw [if_neg q]
    rw [h.1 68 12 rfl]
    refine RR_bindV (Z_la h) fun v1 => ?_
    refine RR_bindV (Z_varIndex h) fun v3 => ?_
    refine RR_ite (RR_ite (Z_stepAtom_68 h) (RR_ite (Z_stepAtom_68 h) ?_)) ?_
    · exact TT_bndS (TT_I h 68 12 _ rfl) fun s8 t8 h8 => TT_bindS (Z_emit h8) fun s9 t9 h9 => RR_some h9
    · exact TT_bndS (TT_I h 68 12 _ rfl) fun s8 t8 h8 => TT_bindS (Z_emit h8) fun s9 t9 h9 => RR_some h9
def W_stepExpr (o : Nat → Int32 → Int32 → Int32) (a0 : Int32) (s : own_T) : Option (own_T) :=
  (W_la o s).bind fun q1 =>
  if a0 = (7 : Int32) then
    (W_push o (8 : Int32) (0 : Int32) s).bind fun q4 =>
    (W_push o (9 : Int32) (0 : Int32) q4).bind fun q6 =>
    some q6
  else
    if a0 = (8 : Int32) then
      if q1 = (43 : Int32) then
        (W_binRest o (8 : Int32) (3 : Int32) (9 : Int32) s).bind fun q10 =>
        some q10
      else
        if q1 = (45 : Int32) then
          (W_binRest o (8 : Int32) (4 : Int32) (9 : Int32) s).bind fun q13 =>
          some q13
        else
          some s
    else
      if a0 = (9 : Int32) then
        (W_push o (10 : Int32) (0 : Int32) s).bind fun q16 =>
        (W_push o (11 : Int32) (0 : Int32) q16).bind fun q18 =>
        some q18
      else
        if a0 = (10 : Int32) then
          if q1 = (42 : Int32) then
            (W_binRest o (10 : Int32) (5 : Int32) (11 : Int32) s).bind fun q22 =>
            some q22
          else
            some s
        else
          (W_stepAtom o s).bind fun q24 =>
          some q24
theorem Z_stepExpr {a0 : Int32} {s : St} {t : own_T} (h : own_RT s t) : own_RR own_RT (f_stepExpr a0 s) (W_stepExpr own_o a0 t) := by
  unfold f_stepExpr W_stepExpr
  refine RR_bindV (Z_la h) fun v1 => ?_
  refine RR_ite ?_ ?_
  · refine TT_bindS (Z_push h) fun s4 t4 h4 => ?_
    refine TT_bindS (Z_push h4) fun s6 t6 h6 => ?_
    exact RR_some h6
  · refine RR_ite ?_ ?_
    · refine RR_ite ?_ ?_
      · refine TT_bindS (Z_binRest h) fun s10 t10 h10 => ?_
        exact RR_some h10
      · refine RR_ite ?_ ?_
        · refine TT_bindS (Z_binRest h) fun s13 t13 h13 => ?_
          exact RR_some h13
        · exact RR_some h
    · refine RR_ite ?_ ?_
      · refine TT_bindS (Z_push h) fun s16 t16 h16 => ?_
        refine TT_bindS (Z_push h16) fun s18 t18 h18 => ?_
        exact RR_some h18
      · refine RR_ite ?_ ?_
        · refine RR_ite ?_ ?_
          · refine TT_bindS (Z_binRest h) fun s22 t22 h22 => ?_
            exact RR_some h22
          · exact RR_some h
        · refine TT_bindS (Z_stepAtom h) fun s24 t24 h24 => ?_
          exact RR_some h24
def W_exprStart_20 (o : Nat → Int32 → Int32 → Int32) (s : own_T) (x1 : Int32) : Option (Int32) :=
  if x1 = (40 : Int32) then
    some (1 : Int32)
  else
    some (0 : Int32)
theorem Z_exprStart_20 {x1 : Int32} {s : St} {t : own_T} (h : own_RT s t) : own_RR Eq (f_exprStart_20 s x1) (W_exprStart_20 own_o t x1) := by
  unfold f_exprStart_20 W_exprStart_20
  refine RR_ite ?_ ?_
  · exact RR_some rfl
  · exact RR_some rfl
def W_exprStart (o : Nat → Int32 → Int32 → Int32) (s : own_T) (a0 : Int32) : Option (Int32) :=
  (W_varIndex o s a0).bind fun q1 =>
  if q1 < 0 then
    if a0 < (48 : Int32) then
      W_exprStart_20 o s a0
    else
      if (57 : Int32) < a0 then
        W_exprStart_20 o s a0
      else
        some (1 : Int32)
  else
    some (1 : Int32)
theorem Z_exprStart {a0 : Int32} {s : St} {t : own_T} (h : own_RT s t) : own_RR Eq (f_exprStart s a0) (W_exprStart own_o t a0) := by
  unfold f_exprStart W_exprStart
  refine RR_bindV (Z_varIndex h) fun v1 => ?_
  refine RR_ite ?_ ?_
  · refine RR_ite ?_ ?_
    · exact Z_exprStart_20 h
    · refine RR_ite ?_ ?_
      · exact Z_exprStart_20 h
      · exact RR_some rfl
  · exact RR_some rfl
def W_stepLit (o : Nat → Int32 → Int32 → Int32) (s : own_T) : Option (own_T) :=
  (W_la o s).bind fun q1 =>
  if q1 = (33 : Int32) then
    bnd (pI s 12 ((rI s 12) + (1 : Int32))) fun s4 =>
    (W_push o (17 : Int32) (10 : Int32) s4).bind fun q5 =>
    (W_push o (5 : Int32) (0 : Int32) q5).bind fun q7 =>
    some q7
  else
    if q1 = (84 : Int32) then
      bnd (pI s 12 ((rI s 12) + (1 : Int32))) fun s10 =>
      (W_emit o (8 : Int32) (0 : Int32) s10).bind fun q11 =>
      some q11
    else
      if q1 = (70 : Int32) then
        bnd (pI s 12 ((rI s 12) + (1 : Int32))) fun s14 =>
        (W_emit o (9 : Int32) (0 : Int32) s14).bind fun q15 =>
        some q15
      else
        if q1 = (91 : Int32) then
          bnd (pI s 12 ((rI s 12) + (1 : Int32))) fun s18 =>
          (W_push o (14 : Int32) (93 : Int32) s18).bind fun q19 =>
          (W_push o (1 : Int32) (0 : Int32) q19).bind fun q21 =>
          some q21
        else
          (W_exprStart o s q1).bind fun q23 =>
          if q23 = 0 then
            bnd (pI s 13 ((1 : Int32) &&& 1)) fun s26 =>
            some s26
          else
            (W_push o (6 : Int32) (0 : Int32) s).bind fun q27 =>
            (W_push o (7 : Int32) (0 : Int32) q27).bind fun q29 =>
            some q29
theorem Z_stepLit {s : St} {t : own_T} (h : own_RT s t) : own_RR own_RT (f_stepLit s) (W_stepLit own_o t) := by
  unfold f_stepLit W_stepLit
  rw [h.1 68 12 rfl]
  refine RR_bindV (Z_la h) fun v1 => ?_
  refine RR_ite ?_ ?_
  · refine TT_bndS (TT_I h 68 12 _ rfl) fun s4 t4 h4 => ?_
    refine TT_bindS (Z_push h4) fun s5 t5 h5 => ?_
    refine TT_bindS (Z_push h5) fun s7 t7 h7 => ?_
    exact RR_some h7
  · refine RR_ite ?_ ?_
    · refine TT_bndS (TT_I h 68 12 _ rfl) fun s10 t10 h10 => ?_
      refine TT_bindS (Z_emit h10) fun s11 t11 h11 => ?_
      exact RR_some h11
    · refine RR_ite ?_ ?_
      · refine TT_bndS (TT_I h 68 12 _ rfl) fun s14 t14 h14 => ?_
        refine TT_bindS (Z_emit h14) fun s15 t15 h15 => ?_
        exact RR_some h15
      · refine RR_ite ?_ ?_
        · refine TT_bndS (TT_I h 68 12 _ rfl) fun s18 t18 h18 => ?_
          refine TT_bindS (Z_push h18) fun s19 t19 h19 => ?_
          refine TT_bindS (Z_push h19) fun s21 t21 h21 => ?_
          exact RR_some h21
        · refine RR_bindV (Z_exprStart h) fun v23 => ?_
          refine RR_ite ?_ ?_
          · refine TT_bndS (TT_I h 69 13 _ rfl) fun s26 t26 h26 => ?_
            exact RR_some h26
          · refine TT_bindS (Z_push h) fun s27 t27 h27 => ?_
            refine TT_bindS (Z_push h27) fun s29 t29 h29 => ?_
            exact RR_some h29
def W_stepFormula (o : Nat → Int32 → Int32 → Int32) (a0 : Int32) (s : own_T) : Option (own_T) :=
  (W_la o s).bind fun q1 =>
  if a0 = (1 : Int32) then
    (W_push o (2 : Int32) (0 : Int32) s).bind fun q4 =>
    (W_push o (3 : Int32) (0 : Int32) q4).bind fun q6 =>
    some q6
  else
    if a0 = (2 : Int32) then
      if q1 = (124 : Int32) then
        (W_binRest o (2 : Int32) (12 : Int32) (3 : Int32) s).bind fun q10 =>
        some q10
      else
        some s
    else
      if a0 = (3 : Int32) then
        (W_push o (4 : Int32) (0 : Int32) s).bind fun q13 =>
        (W_push o (5 : Int32) (0 : Int32) q13).bind fun q15 =>
        some q15
      else
        if a0 = (4 : Int32) then
          if q1 = (38 : Int32) then
            (W_binRest o (4 : Int32) (11 : Int32) (5 : Int32) s).bind fun q19 =>
            some q19
          else
            some s
        else
          if a0 = (5 : Int32) then
            (W_stepLit o s).bind fun q22 =>
            some q22
          else
            if q1 = (60 : Int32) then
              bnd (pI s 12 ((rI s 12) + (1 : Int32))) fun s25 =>
              (W_push o (17 : Int32) (6 : Int32) s25).bind fun q26 =>
              (W_push o (7 : Int32) (0 : Int32) q26).bind fun q28 =>
              some q28
            else
              if q1 = (61 : Int32) then
                bnd (pI s 12 ((rI s 12) + (1 : Int32))) fun s31 =>
                (W_push o (17 : Int32) (7 : Int32) s31).bind fun q32 =>
                (W_push o (7 : Int32) (0 : Int32) q32).bind fun q34 =>
                some q34
              else
                bnd (pI s 13 ((1 : Int32) &&& 1)) fun s36 =>
                some s36
theorem Z_stepFormula {a0 : Int32} {s : St} {t : own_T} (h : own_RT s t) : own_RR own_RT (f_stepFormula a0 s) (W_stepFormula own_o a0 t) := by
  unfold f_stepFormula W_stepFormula
  rw [h.1 68 12 rfl]
  refine RR_bindV (Z_la h) fun v1 => ?_
  refine RR_ite ?_ ?_
  · refine TT_bindS (Z_push h) fun s4 t4 h4 => ?_
    refine TT_bindS (Z_push h4) fun s6 t6 h6 => ?_
    exact RR_some h6
  · refine RR_ite ?_ ?_
    · refine RR_ite ?_ ?_
      · refine TT_bindS (Z_binRest h) fun s10 t10 h10 => ?_
        exact RR_some h10
      · exact RR_some h
    · refine RR_ite ?_ ?_
      · refine TT_bindS (Z_push h) fun s13 t13 h13 => ?_
        refine TT_bindS (Z_push h13) fun s15 t15 h15 => ?_
        exact RR_some h15
      · refine RR_ite ?_ ?_
        · refine RR_ite ?_ ?_
          · refine TT_bindS (Z_binRest h) fun s19 t19 h19 => ?_
            exact RR_some h19
          · exact RR_some h
        · refine RR_ite ?_ ?_
          · refine TT_bindS (Z_stepLit h) fun s22 t22 h22 => ?_
            exact RR_some h22
          · refine RR_ite ?_ ?_
            · refine TT_bndS (TT_I h 68 12 _ rfl) fun s25 t25 h25 => ?_
              refine TT_bindS (Z_push h25) fun s26 t26 h26 => ?_
              refine TT_bindS (Z_push h26) fun s28 t28 h28 => ?_
              exact RR_some h28
            · refine RR_ite ?_ ?_
              · refine TT_bndS (TT_I h 68 12 _ rfl) fun s31 t31 h31 => ?_
                refine TT_bindS (Z_push h31) fun s32 t32 h32 => ?_
                refine TT_bindS (Z_push h32) fun s34 t34 h34 => ?_
                exact RR_some h34
              · refine TT_bndS (TT_I h 69 13 _ rfl) fun s36 t36 h36 => ?_
                exact RR_some h36
def W_step (o : Nat → Int32 → Int32 → Int32) (a0 : Int32) (a1 : Int32) (s : own_T) : Option (own_T) :=
  if (6 : Int32) < a0 then
    if (11 : Int32) < a0 then
      if (13 : Int32) < a0 then
        (W_stepAction o a0 a1 s).bind fun q4 =>
        some q4
      else
        (W_stepStmts o a0 s).bind fun q6 =>
        some q6
    else
      (W_stepExpr o a0 s).bind fun q8 =>
      some q8
  else
    (W_stepFormula o a0 s).bind fun q10 =>
    some q10
theorem Z_step {a0 : Int32} {a1 : Int32} {s : St} {t : own_T} (h : own_RT s t) : own_RR own_RT (f_step a0 a1 s) (W_step own_o a0 a1 t) := by
  unfold f_step W_step
  refine RR_ite ?_ ?_
  · refine RR_ite ?_ ?_
    · refine RR_ite ?_ ?_
      · refine TT_bindS (Z_stepAction h) fun s4 t4 h4 => ?_
        exact RR_some h4
      · refine TT_bindS (Z_stepStmts h) fun s6 t6 h6 => ?_
        exact RR_some h6
    · refine TT_bindS (Z_stepExpr h) fun s8 t8 h8 => ?_
      exact RR_some h8
  · refine TT_bindS (Z_stepFormula h) fun s10 t10 h10 => ?_
    exact RR_some h10
def W_doParse_128 (o : Nat → Int32 → Int32 → Int32) (n : Nat) (s : own_T) : Option (Int32 × own_T) :=
  if (rI s 14) = 0 then
    some ((0 : Int32), s)
  else
    if (rI s 13) = 0 then
      some ((1 : Int32), s)
    else
      some ((0 : Int32), s)
theorem Z_doParse_128 {n : Nat} {s : St} {t : own_T} (h : own_RT s t) : own_RR own_RTP (f_doParse_128 n s) (W_doParse_128 own_o n t) := by
  unfold f_doParse_128 W_doParse_128
  rw [h.1 69 13 rfl, h.1 70 14 rfl]
  refine RR_ite ?_ ?_
  · exact RR_some ⟨rfl, h⟩
  · refine RR_ite ?_ ?_
    · exact RR_some ⟨rfl, h⟩
    · exact RR_some ⟨rfl, h⟩
def W_doParse_51 (o : Nat → Int32 → Int32 → Int32) (n : Nat) : Nat → Int32 → own_T → Option (Int32 × own_T)
  | 0 => fun _ _ => none
  | k + 1 => fun x1 s =>
    if x1 < (40000 : Int32) then
      if (rI s 13) = 0 then
        if (rI s 14) = 0 then
          if 0 < (rI s 6) then
            bnd (pI s 6 ((rI s 6) - (1 : Int32))) fun s5 =>
            grd (inb (rI s5 6) 1024) <|
            (W_step o (rA s5 11 (ix (rI s5 6))) (rA s5 12 (ix (rI s5 6))) s5).bind fun q7 =>
            W_doParse_51 o n k (x1 + (1 : Int32)) q7
          else
            bnd (pI s 13 ((1 : Int32) &&& 1)) fun s9 =>
            W_doParse_128 o n s9
        else
          W_doParse_128 o n s
      else
        W_doParse_128 o n s
    else
      W_doParse_128 o n s
theorem X_doParse_51 (n : Nat) (k : Nat) (x1 : Int32) (s : St) : f_doParse_51 n (k + 1) x1 s =
    (if x1 < (40000 : Int32) then
       if (s.1 69) = 0 then
         if (s.1 70) = 0 then
           if 0 < (s.1 62) then
             bnd (setI s 62 ((s.1 62) - (1 : Int32))) fun s5 =>
             grd (inb (s5.1 62) 1024) <|
             (f_step (s5.2 50 (ix (s5.1 62))) (s5.2 51 (ix (s5.1 62))) s5).bind fun q7 =>
             f_doParse_51 n k (x1 + (1 : Int32)) q7
           else
             bnd (setI s 69 ((1 : Int32) &&& 1)) fun s9 =>
             f_doParse_128 n s9
         else
           f_doParse_128 n s
       else
         f_doParse_128 n s
     else
       f_doParse_128 n s) := rfl
theorem Y_doParse_51 (o : Nat → Int32 → Int32 → Int32) (n : Nat) (k : Nat) (x1 : Int32) (s : own_T) : W_doParse_51 o n (k + 1) x1 s =
    (if x1 < (40000 : Int32) then
       if (rI s 13) = 0 then
         if (rI s 14) = 0 then
           if 0 < (rI s 6) then
             bnd (pI s 6 ((rI s 6) - (1 : Int32))) fun s5 =>
             grd (inb (rI s5 6) 1024) <|
             (W_step o (rA s5 11 (ix (rI s5 6))) (rA s5 12 (ix (rI s5 6))) s5).bind fun q7 =>
             W_doParse_51 o n k (x1 + (1 : Int32)) q7
           else
             bnd (pI s 13 ((1 : Int32) &&& 1)) fun s9 =>
             W_doParse_128 o n s9
         else
           W_doParse_128 o n s
       else
         W_doParse_128 o n s
     else
       W_doParse_128 o n s) := rfl
theorem Z_doParse_51 {n : Nat} : ∀ (k : Nat) (x1 : Int32) (s : St) (t : own_T), own_RT s t → own_RR own_RTP (f_doParse_51 n k x1 s) (W_doParse_51 own_o n k x1 t) := by
  intro k
  induction k with
  | zero => intro x1 s t h; exact RR_none
  | succ k ih =>
    intro x1 s t h
    rw [X_doParse_51, Y_doParse_51]
    rw [h.1 62 6 rfl, h.1 69 13 rfl, h.1 70 14 rfl]
    refine RR_ite ?_ ?_
    · refine RR_ite ?_ ?_
      · refine RR_ite ?_ ?_
        · refine RR_ite ?_ ?_
          · refine TT_bndS (TT_I h 62 6 _ rfl) fun s5 t5 h5 => ?_
            rw [h5.1 62 6 rfl, h5.2.1 50 11 rfl, h5.2.1 51 12 rfl]
            refine RR_grd ?_
            refine TT_bindS (Z_step h5) fun s7 t7 h7 => ?_
            exact ih _ _ _ h7
          · refine TT_bndS (TT_I h 69 13 _ rfl) fun s9 t9 h9 => ?_
            exact Z_doParse_128 h9
        · exact Z_doParse_128 h
      · exact Z_doParse_128 h
    · exact Z_doParse_128 h
def W_doParse (o : Nat → Int32 → Int32 → Int32) (n : Nat) (s : own_T) : Option (Int32 × own_T) :=
  bnd (pI s 6 (0 : Int32)) fun s1 =>
  bnd (pI s1 7 (0 : Int32)) fun s2 =>
  bnd (pI s2 8 (0 : Int32)) fun s3 =>
  bnd (pI s3 9 (0 : Int32)) fun s4 =>
  bnd (pI s4 10 (0 : Int32)) fun s5 =>
  bnd (pI s5 11 (-1 : Int32)) fun s6 =>
  bnd (pI s6 12 (0 : Int32)) fun s7 =>
  bnd (pI s7 13 ((0 : Int32) &&& 1)) fun s8 =>
  bnd (pI s8 14 ((0 : Int32) &&& 1)) fun s9 =>
  (W_pushProgram o s9).bind fun q10 =>
  W_doParse_51 o n n (0 : Int32) q10
theorem Z_doParse {n : Nat} {s : St} {t : own_T} (h : own_RT s t) : own_RR own_RTP (f_doParse n s) (W_doParse own_o n t) := by
  unfold f_doParse W_doParse
  refine TT_bndS (TT_I h 62 6 _ rfl) fun s1 t1 h1 => ?_
  refine TT_bndS (TT_I h1 63 7 _ rfl) fun s2 t2 h2 => ?_
  refine TT_bndS (TT_I h2 64 8 _ rfl) fun s3 t3 h3 => ?_
  refine TT_bndS (TT_I h3 65 9 _ rfl) fun s4 t4 h4 => ?_
  refine TT_bndS (TT_I h4 66 10 _ rfl) fun s5 t5 h5 => ?_
  refine TT_bndS (TT_I h5 67 11 _ rfl) fun s6 t6 h6 => ?_
  refine TT_bndS (TT_I h6 68 12 _ rfl) fun s7 t7 h7 => ?_
  refine TT_bndS (TT_I h7 69 13 _ rfl) fun s8 t8 h8 => ?_
  refine TT_bndS (TT_I h8 70 14 _ rfl) fun s9 t9 h9 => ?_
  refine TT_bindS (Z_pushProgram h9) fun s10 t10 h10 => ?_
  exact Z_doParse_51 _ _ _ _ h10
def W_parse (o : Nat → Int32 → Int32 → Int32) (n : Nat) (s : own_T) : Option (Int32 × own_T) :=
  (W_clearResults o s).bind fun q1 =>
  (W_doParse o n q1).bind fun q3 =>
  if q3.1 = 0 then
    bnd (pI q3.2 3 (rI q3.2 12)) fun s6 =>
    some ((-3 : Int32), s6)
  else
    bnd (pI q3.2 2 ((1 : Int32) &&& 1)) fun s7 =>
    some ((0 : Int32), s7)
theorem Z_parse {n : Nat} {s : St} {t : own_T} (h : own_RT s t) : own_RR own_RTP (f_parse n s) (W_parse own_o n t) := by
  unfold f_parse W_parse
  refine TT_bindS (Z_clearResults h) fun s1 t1 h1 => ?_
  refine TT_bindP (Z_doParse h1) fun v3 s3 t3 h3 => ?_
  try dsimp only
  rw [h3.1 68 12 rfl]
  refine RR_ite ?_ ?_
  · refine TT_bndS (TT_I h3 59 3 _ rfl) fun s6 t6 h6 => ?_
    exact RR_some ⟨rfl, h6⟩
  · refine TT_bndS (TT_I h3 58 2 _ rfl) fun s7 t7 h7 => ?_
    exact RR_some ⟨rfl, h7⟩

/-! ### behind the parser: formulas, conditions, runs -/
def own_F (s : St) (i p : Nat) (op v : Int32) : Prop := s.2 42 i = Int32.ofNat p ∧ s.2 40 p = 1 ∧ s.2 41 p = 2 ∧ s.2 40 (p + 1) = 2 ∧ s.2 41 (p + 1) = v ∧ s.2 40 (p + 2) = op ∧ s.2 40 (p + 3) = 0
def own_P (a b c d : Int32) (s : St) : Prop := (s.1 58 = 1 ∧ s.1 63 = 20 ∧ s.1 64 = 2 ∧ s.1 65 = 1 ∧ s.1 67 = 0) ∧
  (own_F s 0 0 6 a ∧ own_F s 1 16 7 d ∧ own_F s 2 4 6 b ∧ own_F s 3 8 6 c ∧ own_F s 4 12 3 1) ∧
  (s.2 43 0 = 2 ∧ s.2 43 1 = 0 ∧ s.2 44 1 = 2 ∧ s.2 45 0 = 1 ∧ s.2 47 0 = -1 ∧ s.2 47 1 = -1 ∧ s.2 48 0 = -1 ∧ s.2 48 1 = 0 ∧ s.2 49 0 = 0)
/-- s and t differ in the stack of the reckoning alone -/
def own_E (s t : St) : Prop := t.1 = s.1 ∧ ∀ j, j ≠ 55 → t.2 j = s.2 j
theorem own_Er (s : St) : own_E s s := ⟨rfl, fun _ _ => rfl⟩
theorem own_Et {s t u : St} (h : own_E s t) (g : own_E t u) : own_E s u := ⟨g.1.trans h.1, fun j hj => (g.2 j hj).trans (h.2 j hj)⟩
theorem own_EA {s t : St} (h : own_E s t) (i : Nat) (v : Int32) : own_E s (setA t 55 i v) := by
  refine ⟨h.1, fun j hj => ?_⟩
  rw [← h.2 j hj]
  funext x
  rw [setA_2, if_neg (fun z => hj z.1)]
theorem own_FE {s t : St} (h : ∀ j, j = 40 ∨ j = 41 ∨ j = 42 → t.2 j = s.2 j) {i p : Nat} {op v : Int32} (f : own_F s i p op v) : own_F t i p op v := by
  unfold own_F
  rw [h 40 (by omega), h 41 (by omega), h 42 (by omega)]; exact f
theorem own_PE {a b c d : Int32} {s t : St} (h1 : ∀ j, j = 58 ∨ j = 63 ∨ j = 64 ∨ j = 65 ∨ j = 67 → t.1 j = s.1 j) (h2 : ∀ j, 40 ≤ j → j ≤ 49 → t.2 j = s.2 j) (p : own_P a b c d s) : own_P a b c d t := by
  obtain ⟨p1, ⟨f0, f1, f2, f3, f4⟩, p3⟩ := p
  have hf : ∀ j, j = 40 ∨ j = 41 ∨ j = 42 → t.2 j = s.2 j := fun j hj => h2 j (by omega) (by omega)
  refine ⟨?_, ⟨own_FE hf f0, own_FE hf f1, own_FE hf f2, own_FE hf f3, own_FE hf f4⟩, ?_⟩
  · rw [h1 58 (by omega), h1 63 (by omega), h1 64 (by omega), h1 65 (by omega), h1 67 (by omega)]; exact p1
  · rw [h2 43 (by omega) (by omega), h2 44 (by omega) (by omega), h2 45 (by omega) (by omega), h2 47 (by omega) (by omega), h2 48 (by omega) (by omega), h2 49 (by omega) (by omega)]; exact p3
theorem own_PEE {a b c d : Int32} {s t : St} (h : own_E s t) (p : own_P a b c d s) : own_P a b c d t := own_PE (fun j _ => by rw [h.1]) (fun j h1 h2 => h.2 j (by omega)) p
theorem own_ev {m i p : Nat} {op v r x y z : Int32} {s : St} (h63 : s.1 63 = 20) (f : own_F s i p op v) (hp : p ≤ 16) (hi : i ≤ 4) (hop : ¬ op = 0 ∧ ¬ op = 1 ∧ ¬ op = 2 ∧ ¬ op = 8 ∧ ¬ op = 9 ∧ ¬ op = 10) (hr : ∀ s, f_binary s op z v = some r) :
    ∃ t, f_evalF (m + 10) (Int32.ofNat i) x y z s = some (r, t) ∧ own_E s t := by
  obtain ⟨f0, f1, f2, f3, f4, f5, f6⟩ := f
  unfold f_evalF f_evalAt
  rw [if_neg (N_neg (by omega)), if_pos (ltZ (z := 160) 160 rfl (by omega) (by omega)), grd_pos (inbN (by omega) (by omega)), ix_N (by omega), f0]
  -- the variable
  rw [u_evalAt_6, h63, if_pos (ltZ (z := 20) 20 rfl (by omega) (by omega)), if_neg (N_neg (by omega)), grd_pos (inbN (by omega) (by omega)), ix_N (by omega), f1, if_neg (by decide), if_pos rfl]
  unfold f_evalAt_66
  rw [if_pos (by decide), grd_pos (inbN (by omega) (by omega)), ix_N (by omega), f2]
  have l1 : ∀ s, f_leafValue s 1 2 x y z = some z := fun s => rfl
  rw [l1, Option.bind_some, grd_pos (by decide), bnd_eq, N_succ, show ix (0 : Int32) = 0 from rfl, show (0 : Int32) + 1 = 1 from rfl]
  have E1 := own_EA (own_Er s) 0 z
  have g1 : (setA s 55 0 z).2 55 0 = z := by rw [setA_2, if_pos ⟨by trivial, by trivial⟩]
  generalize setA s 55 0 z = s1 at E1 g1 ⊢
  -- the constant
  rw [u_evalAt_6, E1.1, h63, E1.2 40 (by decide), if_pos (ltZ (z := 20) 20 rfl (by omega) (by omega)), if_neg (N_neg (by omega)), grd_pos (inbN (by omega) (by omega)), ix_N (by omega), f3, if_neg (by decide), if_neg (by decide), if_pos rfl]
  unfold f_evalAt_66
  rw [if_pos (by decide), grd_pos (inbN (by omega) (by omega)), ix_N (by omega), E1.2 41 (by decide), f4]
  have l2 : ∀ s, f_leafValue s 2 v x y z = some v := fun s => rfl
  rw [l2, Option.bind_some, grd_pos (by decide), bnd_eq, N_succ, show ix (1 : Int32) = 1 from rfl, show (1 : Int32) + 1 = 2 from rfl]
  have E2 := own_EA E1 1 v
  have g2 : (setA s1 55 1 v).2 55 0 = z ∧ (setA s1 55 1 v).2 55 1 = v := by
    refine ⟨?_, ?_⟩
    · rw [setA_2, if_neg (fun w => by omega)]; exact g1
    · rw [setA_2, if_pos ⟨by trivial, by trivial⟩]
  generalize setA s1 55 1 v = s2 at E2 g2 ⊢
  -- the operation
  rw [u_evalAt_6, E2.1, h63, E2.2 40 (by decide), if_pos (ltZ (z := 20) 20 rfl (by omega) (by omega)), if_neg (N_neg (by omega)), grd_pos (inbN (by omega) (by omega)), ix_N (by omega), show p + 1 + 1 = p + 2 by omega, f5, if_neg hop.1, if_neg hop.2.1, if_neg hop.2.2.1, if_neg hop.2.2.2.1, if_neg hop.2.2.2.2.1, if_neg hop.2.2.2.2.2, if_neg (by decide)]
  rw [show (2 : Int32) + -1 - 1 = 0 from rfl, show (2 : Int32) + -1 = 1 from rfl, grd_pos (by decide), grd_pos (by decide), show ix (0 : Int32) = 0 from rfl, show ix (1 : Int32) = 1 from rfl, g2.1, g2.2, hr, Option.bind_some, bnd_eq, N_succ]
  have E3 := own_EA E2 0 r
  have g3 : (setA s2 55 0 r).2 55 0 = r := by rw [setA_2, if_pos ⟨by trivial, by trivial⟩]
  generalize setA s2 55 0 r = s3 at E3 g3 ⊢
  -- the end
  rw [u_evalAt_6, E3.1, h63, E3.2 40 (by decide), if_pos (ltZ (z := 20) 20 rfl (by omega) (by omega)), if_neg (N_neg (by omega)), grd_pos (inbN (by omega) (by omega)), ix_N (by omega), show p + 2 + 1 = p + 3 by omega, f6, if_pos rfl]
  unfold f_evalAt_194
  rw [if_pos (by decide), grd_pos (by decide), show ix ((1 : Int32) - 1) = 0 from rfl, g3, Option.bind_some]
  exact ⟨s3, rfl, E3⟩
theorem own_b6 (s : St) (x y : Int32) : f_binary s 6 x y = some (if x < y then 1 else 0) := by
  unfold f_binary
  rw [if_neg (by decide), if_neg (by decide), if_neg (by decide), if_pos rfl]
  split <;> rfl
theorem own_b7 (s : St) (x y : Int32) : f_binary s 7 x y = some (if x = y then 1 else 0) := by
  unfold f_binary
  rw [if_neg (by decide), if_neg (by decide), if_neg (by decide), if_neg (by decide), if_pos rfl]
  split <;> rfl
theorem own_b3 (s : St) (x y : Int32) : f_binary s 3 x y = some ((x + y) &&& 15) := by
  unfold f_binary
  rw [if_pos rfl]
section
variable {a b c d : Int32}
theorem own_e0 {m : Nat} {s : St} (x y z : Int32) (p : own_P a b c d s) : ∃ t, f_evalF (m + 10) 0 x y z s = some (if z < a then 1 else 0, t) ∧ own_E s t :=
  own_ev (i := 0) p.1.2.1 p.2.1.1 (by omega) (by omega) (by decide) (fun s => own_b6 s z a)
theorem own_e1 {m : Nat} {s : St} (x y z : Int32) (p : own_P a b c d s) : ∃ t, f_evalF (m + 10) 1 x y z s = some (if z = d then 1 else 0, t) ∧ own_E s t :=
  own_ev (i := 1) p.1.2.1 p.2.1.2.1 (by omega) (by omega) (by decide) (fun s => own_b7 s z d)
theorem own_e2 {m : Nat} {s : St} (x y z : Int32) (p : own_P a b c d s) : ∃ t, f_evalF (m + 10) 2 x y z s = some (if z < b then 1 else 0, t) ∧ own_E s t :=
  own_ev (i := 2) p.1.2.1 p.2.1.2.2.1 (by omega) (by omega) (by decide) (fun s => own_b6 s z b)
theorem own_e3 {m : Nat} {s : St} (x y z : Int32) (p : own_P a b c d s) : ∃ t, f_evalF (m + 10) 3 x y z s = some (if z < c then 1 else 0, t) ∧ own_E s t :=
  own_ev (i := 3) p.1.2.1 p.2.1.2.2.2.1 (by omega) (by omega) (by decide) (fun s => own_b6 s z c)
theorem own_e4 {m : Nat} {s : St} (x y z : Int32) (p : own_P a b c d s) : ∃ t, f_evalF (m + 10) 4 x y z s = some ((z + 1) &&& 15, t) ∧ own_E s t :=
  own_ev (i := 4) p.1.2.1 p.2.1.2.2.2.2 (by omega) (by omega) (by decide) (fun s => own_b3 s z 1)
theorem own_ad0 {m : Nat} {s : St} (p : own_P a b c d s) : f_advance (m + 10) s 0 = some (-1) := by
  obtain ⟨⟨i1, i2, i3, i4, i5⟩, -, j1, j2, j3, j4, j5, j6, j7, j8, j9⟩ := p
  unfold f_advance
  rw [u_advance_4, if_pos (by decide), if_neg (by decide), i3, if_pos (by decide), grd_pos (by decide), show ix (0 : Int32) = 0 from rfl, j5, if_pos rfl, j7, if_pos (by decide)]
theorem own_ad1 {m : Nat} {s : St} (p : own_P a b c d s) : f_advance (m + 10) s 1 = some (-2) := by
  obtain ⟨⟨i1, i2, i3, i4, i5⟩, -, j1, j2, j3, j4, j5, j6, j7, j8, j9⟩ := p
  unfold f_advance
  rw [u_advance_4, if_pos (by decide), if_neg (by decide), i3, if_pos (by decide), grd_pos (by decide), show ix (1 : Int32) = 1 from rfl, j6, if_pos rfl, j8, if_neg (by decide), if_pos (by decide), grd_pos (by decide), show ix (0 : Int32) = 0 from rfl, j1, if_pos rfl]
  rfl
theorem own_en {m : Nat} {s : St} (p : own_P a b c d s) : f_enter (m + 10) s 0 0 = some 1 := by
  obtain ⟨⟨i1, i2, i3, i4, i5⟩, -, j1, j2, j3, j4, j5, j6, j7, j8, j9⟩ := p
  unfold f_enter
  rw [if_neg (by decide), i3, if_pos (by decide), if_pos rfl, grd_pos (by decide), show ix (0 : Int32) = 0 from rfl, j4]
  unfold f_enter_33
  rw [if_neg (by decide)]
theorem own_w0 {m : Nat} {s : St} (x y z : Int32) (p : own_P a b c d s) : ∃ t, f_walk (m + 10) 0 x y z s = some (if z < c then 1 else 0, t) ∧ own_E s t := by
  obtain ⟨t, e, h⟩ := own_e3 (m := m) x y z p
  obtain ⟨⟨i1, i2, i3, i4, i5⟩, -, j1, j2, j3, j4, j5, j6, j7, j8, j9⟩ := p
  refine ⟨t, ?_, h⟩
  unfold f_walk
  rw [u_walk_6, if_pos (by decide), if_neg (by decide), if_neg (by decide), i3, if_pos (by decide), grd_pos (by decide), show ix (0 : Int32) = 0 from rfl, j1, if_pos rfl, show (3 : Int32) + 2 * 0 = 3 from rfl, e, Option.bind_some]
theorem own_wm {m : Nat} {s : St} (x y z : Int32) (p : own_P a b c d s) : ∃ t, f_walk (m + 10) (-1) x y z s = some (if z = d then 1 else 0, t) ∧ own_E s t := by
  obtain ⟨t, e, h⟩ := own_e1 (m := m) x y z p
  refine ⟨t, ?_, h⟩
  unfold f_walk
  rw [u_walk_6, if_pos (by decide), if_pos rfl, e, Option.bind_some]
theorem own_w1 {m : Nat} {s : St} (x y z : Int32) (p : own_P a b c d s) : ∃ t, f_walk (m + 10) 1 x y z s = some (if (z + 1) &&& 15 < c then 1 else 0, t) ∧ own_E s t := by
  obtain ⟨t, e, h⟩ := own_e4 (m := m) x y z p
  have pt := own_PEE h p
  obtain ⟨u, e', h'⟩ := own_e3 (m := m) x y ((z + 1) &&& 15) pt
  have ad := own_ad1 (m := m) pt
  have t44 := h.2 44 (by decide)
  obtain ⟨⟨i1, i2, i3, i4, i5⟩, -, j1, j2, j3, j4, j5, j6, j7, j8, j9⟩ := p
  refine ⟨u, ?_, own_Et h h'⟩
  unfold f_walk
  rw [u_walk_6, if_pos (by decide), if_neg (by decide), if_neg (by decide), i3, if_pos (by decide), grd_pos (by decide), show ix (1 : Int32) = 1 from rfl, j2, if_neg (by decide), show (2 : Int32) + 2 * 1 = 4 from rfl, e, Option.bind_some, if_neg (by decide)]
  show (if t.2 44 1 = 0 then _ else _) = _
  rw [t44, j3, if_neg (by decide), if_neg (by decide)]
  unfold f_walk_173
  rw [ad, Option.bind_some, u_walk_6, if_pos (by decide), if_neg (by decide), if_pos (by decide), show (3 : Int32) + 2 * (-2 - -2) = 3 from rfl, e', Option.bind_some]
/-- the three conditions -/
theorem own_v0 {m : Nat} {s : St} (x y z : Int32) (p : own_P a b c d s) : ∃ t, f_vcAt (m + 10) 0 x y z s = some (if ¬ z < a ∨ z < c then 1 else 0, t) ∧ own_E s t := by
  obtain ⟨t, e, h⟩ := own_e0 (m := m) x y z p
  unfold f_vcAt
  rw [if_pos rfl, e, Option.bind_some]
  by_cases q : z < a
  · obtain ⟨u, e', h'⟩ := own_w0 (m := m) x y z (own_PEE h p)
    refine ⟨u, ?_, own_Et h h'⟩
    show (if (if z < a then (1 : Int32) else 0) = 0 then _ else _) = _
    rw [if_pos q, if_neg (by decide)]
    show (f_walk (m + 10) (t.1 67) x y z t).bind _ = _
    rw [h.1, p.1.2.2.2.2, e', Option.bind_some]
    show (if (if z < c then (1 : Int32) else 0) = 0 then _ else _) = _
    by_cases r : z < c
    · rw [if_pos r, if_neg (by decide), if_pos (Or.inr r)]
    · rw [if_neg r, if_pos rfl, if_neg (fun w => w.elim (fun w => w q) r)]
  · refine ⟨t, ?_, h⟩
    show (if (if z < a then (1 : Int32) else 0) = 0 then _ else _) = _
    rw [if_neg q, if_pos rfl, if_pos (Or.inl q)]
theorem own_151 {n : Nat} {s t : St} {x y z x9 r : Int32} (e : f_walk n x9 x y z s = some (r, t)) : f_vcAt_151 n x y z x9 s = some (if r = 0 then 0 else 1, t) := by
  unfold f_vcAt_151
  rw [e, Option.bind_some]
  show (if r = 0 then some ((0 : Int32), t) else some (1, t)) = _
  split <;> rfl
theorem own_v1 {m : Nat} {s : St} (x y z : Int32) (p : own_P a b c d s) : ∃ t, f_vcAt (m + 10) 1 x y z s = some (if ¬ z < c ∨ ¬ z < b ∨ (z + 1) &&& 15 < c then 1 else 0, t) ∧ own_E s t := by
  obtain ⟨t, e, h⟩ := own_e3 (m := m) x y z p
  have pt := own_PEE h p
  obtain ⟨u, e', h'⟩ := own_e2 (m := m) x y z pt
  have pu := own_PEE h' pt
  obtain ⟨w, e'', h''⟩ := own_w1 (m := m) x y z pu
  have en := own_en (m := m) pu
  obtain ⟨⟨i1, i2, i3, i4, i5⟩, -, j1, j2, j3, j4, j5, j6, j7, j8, j9⟩ := p
  unfold f_vcAt
  rw [if_neg (by decide), show ((1 : Int32) - 1) / 2 = 0 from rfl, if_neg (by decide), i4, if_pos (by decide), grd_pos (by decide), bnd_eq, show ix (0 : Int32) = 0 from rfl, j9, show (3 : Int32) + 2 * 0 = 3 from rfl, show (2 : Int32) + 2 * 0 = 2 from rfl, e, Option.bind_some]
  show ∃ v, ((f_evalF (m + 10) 2 x y z t).bind fun q14 => if (if z < c then (1 : Int32) else 0) = 0 then some (1, q14.2) else if (1 : Int32) &&& 1 = 1 then (if q14.1 = 0 then some (1, q14.2) else (f_enter (m + 10) q14.2 0 0).bind fun q19 => f_vcAt_151 (m + 10) x y z q19 q14.2) else if q14.1 = 0 then (f_advance (m + 10) q14.2 0).bind fun q22 => f_vcAt_151 (m + 10) x y z q22 q14.2 else some (1, q14.2)) = some (if ¬ z < c ∨ ¬ z < b ∨ (z + 1) &&& 15 < c then 1 else 0, v) ∧ own_E s v
  rw [e', Option.bind_some]
  by_cases q : z < c
  · rw [if_pos q, if_neg (by decide), if_pos (by decide)]
    show ∃ v, (if (if z < b then (1 : Int32) else 0) = 0 then some (1, u) else (f_enter (m + 10) u 0 0).bind fun q19 => f_vcAt_151 (m + 10) x y z q19 u) = _ ∧ _
    by_cases r : z < b
    · rw [if_pos r, if_neg (by decide), en, Option.bind_some, own_151 e'']
      refine ⟨w, ?_, own_Et h (own_Et h' h'')⟩
      by_cases k : (z + 1) &&& 15 < c
      · rw [if_pos k, if_neg (by decide), if_pos (Or.inr (Or.inr k))]
      · rw [if_neg k, if_pos rfl, if_neg (fun w => w.elim (fun w => w q) (fun w => w.elim (fun w => w r) k))]
    · rw [if_neg r, if_pos rfl, if_pos (Or.inr (Or.inl r))]
      exact ⟨u, rfl, own_Et h h'⟩
  · rw [if_neg q, if_pos rfl, if_pos (Or.inl q)]
    exact ⟨u, rfl, own_Et h h'⟩
theorem own_v2 {m : Nat} {s : St} (x y z : Int32) (p : own_P a b c d s) : ∃ t, f_vcAt (m + 10) 2 x y z s = some (if ¬ z < c ∨ z < b ∨ z = d then 1 else 0, t) ∧ own_E s t := by
  obtain ⟨t, e, h⟩ := own_e3 (m := m) x y z p
  have pt := own_PEE h p
  obtain ⟨u, e', h'⟩ := own_e2 (m := m) x y z pt
  have pu := own_PEE h' pt
  obtain ⟨w, e'', h''⟩ := own_wm (m := m) x y z pu
  have en := own_ad0 (m := m) pu
  obtain ⟨⟨i1, i2, i3, i4, i5⟩, -, j1, j2, j3, j4, j5, j6, j7, j8, j9⟩ := p
  unfold f_vcAt
  rw [if_neg (by decide), show ((2 : Int32) - 1) / 2 = 0 from rfl, if_neg (by decide), i4, if_pos (by decide), grd_pos (by decide), bnd_eq, show ix (0 : Int32) = 0 from rfl, j9, show (3 : Int32) + 2 * 0 = 3 from rfl, show (2 : Int32) + 2 * 0 = 2 from rfl, e, Option.bind_some]
  show ∃ v, ((f_evalF (m + 10) 2 x y z t).bind fun q14 => if (if z < c then (1 : Int32) else 0) = 0 then some (1, q14.2) else if (2 : Int32) &&& 1 = 1 then (if q14.1 = 0 then some (1, q14.2) else (f_enter (m + 10) q14.2 0 0).bind fun q19 => f_vcAt_151 (m + 10) x y z q19 q14.2) else if q14.1 = 0 then (f_advance (m + 10) q14.2 0).bind fun q22 => f_vcAt_151 (m + 10) x y z q22 q14.2 else some (1, q14.2)) = some (if ¬ z < c ∨ z < b ∨ z = d then 1 else 0, v) ∧ own_E s v
  rw [e', Option.bind_some]
  by_cases q : z < c
  · rw [if_pos q, if_neg (by decide), if_neg (by decide)]
    show ∃ v, (if (if z < b then (1 : Int32) else 0) = 0 then (f_advance (m + 10) u 0).bind fun q22 => f_vcAt_151 (m + 10) x y z q22 u else some (1, u)) = _ ∧ _
    by_cases r : z < b
    · rw [if_pos r, if_neg (by decide), if_pos (Or.inr (Or.inl r))]
      exact ⟨u, rfl, own_Et h h'⟩
    · rw [if_neg r, if_pos rfl, en, Option.bind_some, own_151 e'']
      refine ⟨w, ?_, own_Et h (own_Et h' h'')⟩
      by_cases k : z = d
      · rw [if_pos k, if_neg (by decide), if_pos (Or.inr (Or.inr k))]
      · rw [if_neg k, if_pos rfl, if_neg (fun w => w.elim (fun w => w q) (fun w => w.elim r k))]
  · rw [if_neg q, if_pos rfl, if_pos (Or.inl q)]
    exact ⟨u, rfl, own_Et h h'⟩
end

/-! ### check -/
theorem own_and15 {m : Nat} (h : m < 2147483648) : Int32.ofNat m &&& 15 = Int32.ofNat (m % 16) := by
  apply Int32.toBitVec_inj.mp
  apply BitVec.eq_of_toNat_eq
  rw [Int32.toBitVec_and, BitVec.toNat_and]
  show (BitVec.ofNat 32 m).toNat &&& 15 = (BitVec.ofNat 32 (m % 16)).toNat
  rw [BitVec.toNat_ofNat, BitVec.toNat_ofNat, Nat.mod_eq_of_lt (by omega : m < 2 ^ 32), Nat.mod_eq_of_lt (by omega : m % 16 < 2 ^ 32)]
  exact Nat.and_two_pow_sub_one_eq_mod m 4
theorem own_chk {a b c d i : Int32} {n : Nat} {G : Nat → Prop} [DecidablePred G] (hv : ∀ (s : St), own_P a b c d s → ∀ (x y : Int32) (Z : Nat), Z < 16 → ∃ t, f_vcAt n i x y (Int32.ofNat Z) s = some (if G Z then 1 else 0, t) ∧ own_E s t) :
    ∀ (m j k : Nat) (s : St), own_P a b c d s → j + m = 4096 → m < k →
      ((∀ Z, j ≤ Z → Z < 4096 → G (Z % 16)) → ∃ t, f_check_31 n k i (Int32.ofNat j) s = some (1, t) ∧ own_P a b c d t ∧ t.1 60 = -1) ∧
      (∀ e, j ≤ e → e < 4096 → ¬ G (e % 16) → (∀ Z, j ≤ Z → Z < e → G (Z % 16)) → ∃ t, f_check_31 n k i (Int32.ofNat j) s = some (2, t) ∧ own_P a b c d t ∧ t.1 60 = Int32.ofNat e) := by
  have P60 : ∀ (s : St) (v : Int32), own_P a b c d s → own_P a b c d (setI s 60 v) := fun s v p => own_PE (fun j hj => by rw [setI_1, if_neg (by omega)]) (fun j _ _ => rfl) p
  intro m
  induction m with
  | zero =>
    intro j k s p hj hk
    obtain ⟨k, rfl⟩ : ∃ k', k = k' + 1 := ⟨k - 1, by omega⟩
    refine ⟨fun _ => ?_, fun e h1 h2 => by omega⟩
    rw [u_check_31, if_neg (fun z => by rw [show (4096 : Int32) = Int32.ofNat 4096 from rfl, N_lt (by omega) (by omega)] at z; omega), bnd_eq]
    exact ⟨_, rfl, P60 s _ p, by rw [setI_1, if_pos (by trivial)]⟩
  | succ m ih =>
    intro j k s p hj hk
    obtain ⟨k, rfl⟩ : ∃ k', k = k' + 1 := ⟨k - 1, by omega⟩
    rw [u_check_31, if_pos (ltZ (z := 4096) 4096 rfl (by omega) (by omega)), own_and15 (by omega)]
    obtain ⟨t, e1, e2⟩ := hv s p (Int32.ofNat j >>> ((8 : Int32) &&& 31) &&& 15) (Int32.ofNat j >>> ((4 : Int32) &&& 31) &&& 15) (j % 16) (by omega)
    rw [e1, Option.bind_some]
    have pt := own_PEE e2 p
    show ((∀ Z, j ≤ Z → Z < 4096 → G (Z % 16)) → ∃ u, (if (if G (j % 16) then (1 : Int32) else 0) = 0 then bnd (setI t 60 (Int32.ofNat j)) fun s5 => some ((2 : Int32), s5) else f_check_31 n k i (Int32.ofNat j + 1) t) = some (1, u) ∧ own_P a b c d u ∧ u.1 60 = -1) ∧
      (∀ e, j ≤ e → e < 4096 → ¬ G (e % 16) → (∀ Z, j ≤ Z → Z < e → G (Z % 16)) → ∃ u, (if (if G (j % 16) then (1 : Int32) else 0) = 0 then bnd (setI t 60 (Int32.ofNat j)) fun s5 => some ((2 : Int32), s5) else f_check_31 n k i (Int32.ofNat j + 1) t) = some (2, u) ∧ own_P a b c d u ∧ u.1 60 = Int32.ofNat e)
    obtain ⟨i1, i2⟩ := ih (j + 1) k t pt (by omega) (by omega)
    by_cases g : G (j % 16)
    · rw [if_pos g, if_neg (by decide), N_succ]
      refine ⟨fun h => i1 (fun Z z1 z2 => h Z (by omega) z2), fun e h1 h2 h3 h4 => ?_⟩
      have : e ≠ j := fun z => h3 (z ▸ g)
      exact i2 e (by omega) h2 h3 (fun Z z1 z2 => h4 Z (by omega) z2)
    · rw [if_neg g, if_pos rfl, bnd_eq]
      refine ⟨fun h => absurd (h j (by omega) (by omega)) g, fun e h1 h2 h3 h4 => ?_⟩
      have : e = j := by
        by_cases q : e = j
        · exact q
        · exact absurd (h4 j (by omega) (by omega)) g
      subst this
      exact ⟨_, rfl, P60 t _ pt, by rw [setI_1, if_pos (by trivial)]⟩
theorem own_chkV {a b c d : Int32} {m i : Nat} {G : Nat → Prop} [DecidablePred G] (hi : i < 3) (hv : ∀ (s : St), own_P a b c d s → ∀ (x y : Int32) (Z : Nat), Z < 16 → ∃ t, f_vcAt (m + 5000) (Int32.ofNat i) x y (Int32.ofNat Z) s = some (if G Z then 1 else 0, t) ∧ own_E s t) {s : St} (p : own_P a b c d s) :
    ((∀ Z, Z < 16 → G Z) → ∃ t, f_check (m + 5000) (Int32.ofNat i) s = some (1, t) ∧ own_P a b c d t ∧ t.1 60 = -1) ∧
    (∀ e, e < 16 → ¬ G e → (∀ Z, Z < e → G Z) → ∃ t, f_check (m + 5000) (Int32.ofNat i) s = some (2, t) ∧ own_P a b c d t ∧ t.1 60 = Int32.ofNat e) := by
  obtain ⟨h1, h2⟩ := own_chk hv 4096 0 (m + 5000) s p (by omega) (by omega)
  have e : f_check (m + 5000) (Int32.ofNat i) s = f_check_31 (m + 5000) (m + 5000) (Int32.ofNat i) (Int32.ofNat 0) s := by
    unfold f_check
    rw [p.1.1, if_neg (by decide), if_neg (N_neg (by omega)), p.1.2.2.2.1, show (1 : Int32) + 2 * 1 = Int32.ofNat 3 from rfl, if_pos (ltN hi (by omega))]
    rfl
  rw [e]
  refine ⟨fun h => h1 (fun Z _ _ => h _ (by omega)), fun e e1 e2 e3 => h2 e (by omega) (by omega) (by rw [Nat.mod_eq_of_lt e1]; exact e2) (fun Z _ z => ?_)⟩
  rw [Nat.mod_eq_of_lt (by omega)]
  exact e3 Z z
/-! ### run -/
def own_X (x z : Nat) (s : St) : Prop := s.1 71 = Int32.ofNat x ∧ s.1 72 = Int32.ofNat x ∧ s.1 73 = Int32.ofNat z
/-- how a run ends -/
def own_End (x st fz : Nat) (rr : Int32) (q : Int32 × St) : Prop := q.1 = rr ∧ q.2.1 61 = 1 ∧ q.2.1 74 = Int32.ofNat x ∧ q.2.1 75 = Int32.ofNat x ∧ q.2.1 76 = Int32.ofNat fz ∧ q.2.1 77 = Int32.ofNat st
theorem own_140 {n x z u : Nat} {rr : Int32} {s : St} (h : own_X x z s) : ∃ q, f_run_140 n (Int32.ofNat u) rr s = some q ∧ own_End x u z rr q := by
  obtain ⟨h1, h2, h3⟩ := h
  unfold f_run_140
  simp only [bnd_eq]
  refine ⟨_, rfl, rfl, ?_⟩
  simp only [setI_1]
  simp [h1, h2, h3]
theorem own_run {a c d : Int32} {m B F x : Nat} (hB : B ≤ 9) (hF : F ≤ 4096) (hx : x < 16) : ∀ (D z u w k : Nat) (s : St), own_P a (Int32.ofNat B) c d s → own_X x z s → z < 16 → B - z = D → u ≤ F → w + 4 * D + 10 < 9000 → 4 * D + 10 < k →
    ∃ q, f_run_74 (m + 5000) k (Int32.ofNat F) (Int32.ofNat u) 0 4 (Int32.ofNat w) s = some q ∧
      (2 * D + 1 ≤ F - u → own_End x (u + 2 * D + 1) (z + D) 3 q) ∧ (F - u < 2 * D + 1 → own_End x F (z + (F - u) / 2) 4 q) := by
  have lt9 : ∀ w, w < 9000 → Int32.ofNat w < 9000 := fun w hw => ltZ (z := 9000) 9000 rfl hw (by omega)
  intro D
  induction D with
  | zero =>
    intro z u w k s p hX hz hD hu hw hk
    obtain ⟨k, rfl⟩ : ∃ k', k = k' + 2 := ⟨k - 2, by omega⟩
    rw [u_run_74, if_pos (lt9 w (by omega)), if_neg (by decide), if_neg (by decide)]
    by_cases q : u = F
    · rw [if_pos (by rw [q])]
      obtain ⟨r, e1, e2⟩ := own_140 (n := m + 5000) (u := u) (rr := 4) hX
      refine ⟨r, e1, fun h => by omega, fun h => ?_⟩
      rw [q] at e2
      rw [show (F - u) / 2 = 0 by omega]; exact e2
    · rw [if_neg (fun y => q ((N_inj (by omega) (by omega)).mp y))]
      obtain ⟨t, e1, e2⟩ := own_e2 (m := m + 4990) (s.1 71) (s.1 72) (s.1 73) p
      have pt := own_PEE e2 p
      have ad := own_ad0 (m := m + 4990) pt
      have e1' : f_evalF (m + 5000) ((2 : Int32) + 2 * 0) (s.1 71) (s.1 72) (s.1 73) s = some (0, t) := by
        rw [show (2 : Int32) + 2 * 0 = 2 from rfl]
        refine e1.trans ?_
        rw [hX.2.2, if_neg (fun y => by rw [N_lt (by omega) (by omega)] at y; omega)]
      have rs : f_runStep (m + 5000) 0 s = some (-1, t) := by
        unfold f_runStep
        rw [if_neg (by decide), p.1.2.2.1, if_pos (by decide), grd_pos (by decide), e1', Option.bind_some, show ix (0 : Int32) = 0 from rfl, p.2.2.1, if_neg (by decide), if_neg (by decide), if_pos rfl]
        show (f_advance (m + 5000) t 0).bind _ = _
        rw [show f_advance (m + 5000) t 0 = some (-1) from ad, Option.bind_some]
      rw [rs, Option.bind_some, N_succ, N_succ]
      show ∃ q, f_run_74 (m + 5000) (k + 1) (Int32.ofNat F) (Int32.ofNat (u + 1)) (-1) 4 (Int32.ofNat (w + 1)) t = some q ∧ _
      rw [u_run_74, if_pos (lt9 _ (by omega)), if_pos rfl]
      have Xt : own_X x z t := by unfold own_X; rw [e2.1]; exact hX
      obtain ⟨r, e3, e4⟩ := own_140 (n := m + 5000) (u := u + 1) (rr := 3) Xt
      exact ⟨r, e3, fun h => e4, fun h => by omega⟩
  | succ D ih =>
    intro z u w k s p hX hz hD hu hw hk
    obtain ⟨k, rfl⟩ : ∃ k', k = k' + 3 := ⟨k - 3, by omega⟩
    rw [u_run_74, if_pos (lt9 w (by omega)), if_neg (by decide), if_neg (by decide)]
    by_cases q : u = F
    · rw [if_pos (by rw [q])]
      obtain ⟨r, e1, e2⟩ := own_140 (n := m + 5000) (u := u) (rr := 4) hX
      refine ⟨r, e1, fun h => by omega, fun h => ?_⟩
      rw [q] at e2
      rw [show (F - u) / 2 = 0 by omega]; exact e2
    · rw [if_neg (fun y => q ((N_inj (by omega) (by omega)).mp y))]
      obtain ⟨t, e1, e2⟩ := own_e2 (m := m + 4990) (s.1 71) (s.1 72) (s.1 73) p
      have pt := own_PEE e2 p
      have en := own_en (m := m + 4990) pt
      have e1' : f_evalF (m + 5000) ((2 : Int32) + 2 * 0) (s.1 71) (s.1 72) (s.1 73) s = some (1, t) := by
        rw [show (2 : Int32) + 2 * 0 = 2 from rfl]
        refine e1.trans ?_
        rw [hX.2.2, if_pos (ltN (by omega) (by omega))]
      have rs : f_runStep (m + 5000) 0 s = some (1, t) := by
        unfold f_runStep
        rw [if_neg (by decide), p.1.2.2.1, if_pos (by decide), grd_pos (by decide), e1', Option.bind_some, show ix (0 : Int32) = 0 from rfl, p.2.2.1, if_neg (by decide), if_neg (by decide), if_neg (show ¬ ((1 : Int32), t).1 = 0 from (by decide : ¬ (1 : Int32) = 0))]
        show (f_enter (m + 5000) t 0 0).bind _ = _
        rw [show f_enter (m + 5000) t 0 0 = some 1 from en, Option.bind_some]
      rw [rs, Option.bind_some, N_succ, N_succ]
      show ∃ q, f_run_74 (m + 5000) (k + 2) (Int32.ofNat F) (Int32.ofNat (u + 1)) 1 4 (Int32.ofNat (w + 1)) t = some q ∧ _
      have Xt : own_X x z t := by unfold own_X; rw [e2.1]; exact hX
      rw [u_run_74, if_pos (lt9 _ (by omega)), if_neg (by decide), if_neg (by decide)]
      by_cases q1 : u + 1 = F
      · rw [if_pos (by rw [q1])]
        obtain ⟨r, e3, e4⟩ := own_140 (n := m + 5000) (u := u + 1) (rr := 4) Xt
        refine ⟨r, e3, fun h => by omega, fun h => ?_⟩
        rw [q1] at e4
        rw [show (F - u) / 2 = 0 by omega]; exact e4
      · rw [if_neg (fun y => q1 ((N_inj (by omega) (by omega)).mp y))]
        obtain ⟨v, f1, f2⟩ := own_e4 (m := m + 4990) (t.1 71) (t.1 72) (t.1 73) pt
        have pv := own_PEE f2 pt
        have f1' : f_evalF (m + 5000) ((2 : Int32) + 2 * 1) (t.1 71) (t.1 72) (t.1 73) t = some (Int32.ofNat (z + 1), v) := by
          rw [show (2 : Int32) + 2 * 1 = 4 from rfl]
          refine f1.trans ?_
          rw [Xt.2.2, N_succ, own_and15 (by omega), Nat.mod_eq_of_lt (by omega)]
        have pw : own_P a (Int32.ofNat B) c d (setI v 73 (Int32.ofNat (z + 1))) := own_PE (fun j hj => by rw [setI_1, if_neg (by omega)]) (fun j _ _ => rfl) pv
        have ad := own_ad1 (m := m + 4990) pw
        have rs2 : f_runStep (m + 5000) 1 t = some (-2, setI v 73 (Int32.ofNat (z + 1))) := by
          unfold f_runStep
          rw [if_neg (by decide), pt.1.2.2.1, if_pos (by decide), grd_pos (by decide), f1', Option.bind_some, show ix (1 : Int32) = 1 from rfl, pt.2.2.2.1, if_pos rfl]
          show (if v.2 44 1 = 0 then _ else _) = _
          rw [pv.2.2.2.2.1, if_neg (by decide), if_neg (by decide), bnd_eq]
          unfold f_runStep_87
          show (f_advance (m + 5000) (setI v 73 (Int32.ofNat (z + 1))) 1).bind _ = _
          rw [show f_advance (m + 5000) (setI v 73 (Int32.ofNat (z + 1))) 1 = some (-2) from ad, Option.bind_some]
        rw [rs2, Option.bind_some, N_succ, N_succ]
        show ∃ q, f_run_74 (m + 5000) (k + 1) (Int32.ofNat F) (Int32.ofNat (u + 1 + 1)) (-2) 4 (Int32.ofNat (w + 1 + 1)) (setI v 73 (Int32.ofNat (z + 1))) = some q ∧ _
        rw [u_run_74, if_pos (lt9 _ (by omega)), if_neg (by decide), if_pos (by decide), show (-2 : Int32) - -2 = 0 from rfl, N_succ]
        have Xw : own_X x (z + 1) (setI v 73 (Int32.ofNat (z + 1))) := by
          unfold own_X
          rw [setI_1, setI_1, setI_1, if_neg (by decide), if_neg (by decide), if_pos (by trivial), f2.1]
          exact ⟨Xt.1, Xt.2.1, rfl⟩
        obtain ⟨r, g1, g2, g3⟩ := ih (z + 1) (u + 1 + 1) (w + 1 + 1 + 1) k _ pw Xw (by omega) (by omega) (by omega) (by omega) (by omega)
        refine ⟨r, g1, fun h => ?_, fun h => ?_⟩
        · have := g2 (by omega)
          rw [show u + 1 + 1 + 2 * D + 1 = u + 2 * (D + 1) + 1 by omega, show z + 1 + D = z + (D + 1) by omega] at this
          exact this
        · have := g3 (by omega)
          rw [show z + 1 + (F - (u + 1 + 1)) / 2 = z + (F - u) / 2 by omega] at this
          exact this

/-! ### the text -/
def f_addl : List Int32 → St → Option St
  | [], s => some s
  | ch :: l, s => (f_addChar ch s).bind fun q => f_addl l q.2
def own_addT (ch : Int32) (t : own_T) : Option own_T :=
  if rI t 1 < rI t 0 then
    grd (inb (rI t 1) 128) <|
    bnd (pA t 0 (ix (rI t 1)) ch) fun t1 =>
    bnd (pI t1 1 (rI t1 1 + 1)) fun t2 =>
    bnd (pI t2 2 ((0 : Int32) &&& 1)) fun t3 =>
    bnd (pI t3 3 (-1)) fun t4 =>
    bnd (pI t4 4 (-1)) fun t5 =>
    bnd (pI t5 5 ((0 : Int32) &&& 1)) fun t6 =>
    some t6
  else none
def own_addl : List Int32 → own_T → Option own_T
  | [], t => some t
  | ch :: l, t => (own_addT ch t).bind fun q => own_addl l q
def own_acc (ch : Int32) : Prop := ∀ s, ∃ q, f_accepted s ch = some q ∧ ¬ q = 0
theorem own_add {ch : Int32} {s : St} {t t' : own_T} (h : own_RN s t) (ha : own_acc ch) (e : own_addT ch t = some t') : ∃ s', f_addChar ch s = some (0, s') ∧ own_RN s' t' := by
  obtain ⟨q, e1, e2⟩ := ha s
  unfold own_addT at e
  by_cases g : rI t 1 < rI t 0
  · rw [if_pos g] at e
    obtain ⟨hb, e⟩ := grd_some e
    simp only [bnd_eq] at e
    have e := Option.some.inj e
    unfold f_addChar f_clearResults
    rw [e1, Option.bind_some, if_neg e2, h.1 57 1 rfl, h.1 56 0 rfl, if_pos g, grd_pos hb]
    simp only [bnd_eq, Option.bind_some]
    refine ⟨_, rfl, ?_⟩
    rw [← e]
    rw [show (setA s 39 (ix (rI t 1)) ch).1 57 = rI (pA t 0 (ix (rI t 1)) ch) 1 from h.1 57 1 rfl]
    exact TN_I (TN_I (TN_I (TN_I (TN_I (TN_A h 39 0 _ _ rfl) 57 1 _ rfl) 58 2 _ rfl) 59 3 _ rfl) 60 4 _ rfl) 61 5 _ rfl
  · rw [if_neg g] at e; cases e
theorem own_adds : ∀ (l : List Int32) (s : St) (t t' : own_T), own_RN s t → (∀ ch, ch ∈ l → own_acc ch) → own_addl l t = some t' → ∃ s', f_addl l s = some s' ∧ own_RN s' t' := by
  intro l
  induction l with
  | nil => intro s t t' h _ e; cases e; exact ⟨s, rfl, h⟩
  | cons ch l ih =>
    intro s t t' h ha e
    cases e1 : own_addT ch t with
    | none =>
      have : own_addl (ch :: l) t = (own_addT ch t).bind fun q => own_addl l q := rfl
      rw [this, e1] at e; cases e
    | some u =>
      have e0 : own_addl (ch :: l) t = (own_addT ch t).bind fun q => own_addl l q := rfl
      rw [e0, e1, Option.bind_some] at e
      obtain ⟨s1, f1, f2⟩ := own_add h (ha ch (List.mem_cons_self ..)) e1
      obtain ⟨s2, g1, g2⟩ := ih s1 u t' f2 (fun x hx => ha x (List.mem_cons_of_mem _ hx)) e
      refine ⟨s2, ?_, g2⟩
      show (f_addChar ch s).bind (fun q => f_addl l q.2) = _
      rw [f1, Option.bind_some]
      exact g1
theorem own_accD {a : Nat} (h : a ≤ 9) : own_acc ((48 : Int32) + Int32.ofNat a) := by
  intro s
  rw [show (48 : Int32) = Int32.ofNat 48 from rfl, N_add]
  unfold f_accepted f_varIndex
  have ne : ∀ k : Nat, 57 < k → k < 2147483648 → ¬ Int32.ofNat (48 + a) = Int32.ofNat k := fun k h1 h2 z => by rw [N_inj (by omega) (by omega)] at z; omega
  rw [show (120 : Int32) = Int32.ofNat 120 from rfl, show (121 : Int32) = Int32.ofNat 121 from rfl, show (122 : Int32) = Int32.ofNat 122 from rfl, if_neg (ne 120 (by omega) (by omega)), if_neg (ne 121 (by omega) (by omega)), if_neg (ne 122 (by omega) (by omega)), Option.bind_some, if_pos (by decide)]
  rw [if_neg (fun z => by rw [show (48 : Int32) = Int32.ofNat 48 from rfl, N_lt (by omega) (by omega)] at z; omega), show (57 : Int32) = Int32.ofNat 57 from rfl, if_neg (fun z => by rw [N_lt (by omega) (by omega)] at z; omega)]
  exact ⟨1, rfl, by decide⟩
def own_txt (A B C D : Int32) : List Int32 := [80, 122, 60, A, 59, 87, 122, 60, B, 64, 122, 60, C, 123, 122, 61, 122, 43, 49, 59, 125, 81, 122, 61, D]
theorem own_txtA {A B C D : Int32} (hA : own_acc A) (hB : own_acc B) (hC : own_acc C) (hD : own_acc D) : ∀ ch, ch ∈ own_txt A B C D → own_acc ch := by
  intro ch h
  unfold own_txt at h
  simp only [List.mem_cons, List.not_mem_nil, or_false] at h
  rcases h with rfl | rfl | rfl | rfl | rfl | rfl | rfl | rfl | rfl | rfl | rfl | rfl | rfl | rfl | rfl | rfl | rfl | rfl | rfl | rfl | rfl | rfl | rfl | rfl | rfl
  all_goals first
    | assumption
    | exact fun s => ⟨1, rfl, by decide⟩
def own_Ts : own_T := ([64, 0, 0, -1, -1, 0], [])
def own_T25 (A B C D : Int32) : own_T := ([64, 25, 0, -1, -1, 0], [[80, 122, 60, A, 59, 87, 122, 60, B, 64, 122, 60, C, 123, 122, 61, 122, 43, 49, 59, 125, 81, 122, 61, D]])
set_option maxRecDepth 100000 in
set_option maxHeartbeats 4000000 in
theorem own_ca (A B C D : Int32) : own_addl (own_txt A B C D) own_Ts = some (own_T25 A B C D) := by cbv
def own_TP (o : Nat → Int32 → Int32 → Int32) (A B C D : Int32) : own_T := ([64, 25, 1, -1, -1, 0, 0, 20, 2, 1, 0, 0, 25, 0, 1],
        [[80, 122, 60, A, 59, 87, 122, 60, B, 64, 122, 60, C, 123, 122, 61, 122, 43, 49, 59, 125, 81, 122, 61, D],
          [1, 2, 6, 0, 1, 2, 6, 0, 1, 2, 6, 0, 1, 2, 3, 0, 1, 2, 7, 0],
          [2, o 5 A 48, 0, 0, 2, o 5 B 48, 0, 0, 2, o 5 C 48, 0, 0, 2, o 5 49 48, 0, 0, 2, o 5 D 48, 0, 0],
          [0, 16, 4, 8, 12], [2, 0], [0, 2], [1, -1], [-1, -1], [-1, -1], [-1, 0], [0],
          [15, 17, 2, 4, 17, 8, 10, 11, 19, 12, 14, 17, 8, 17, 10, 11, 8, 10, 11, 17, 8, 10, 11],
          [0, 0, 0, 0, 7, 0, 0, 0, 0, 0, 59, 0, 0, 3, 0, 0, 0, 0, 0, 6, 0, 0, 0], [-1, 0], [0, 0], [0, 1]])
set_option maxRecDepth 100000 in
set_option maxHeartbeats 4000000 in
theorem own_cp (o : Nat → Int32 → Int32 → Int32) (A B C D : Int32) : W_parse o 5000 (own_T25 A B C D) = some (0, own_TP o A B C D) := by cbv
theorem own_ct : ∃ s, f_ctor 64 = some s ∧ own_RN s own_Ts := by
  unfold f_ctor f_ctor_370 f_ctor_381 f_ctor_392 f_clearResults
  rw [if_neg (by decide), if_neg (by decide)]
  simp only [bnd_eq, Option.bind_some]
  refine ⟨_, rfl, fun j k hj => ?_, fun j k hj => ?_⟩
  · simp only [setI_1]
    have hk : k = 0 ∨ k = 1 ∨ k = 2 ∨ k = 3 ∨ k = 4 ∨ k = 5 ∨ 6 ≤ k := by omega
    subst hj
    rcases hk with rfl | rfl | rfl | rfl | rfl | rfl | hk
    · rfl
    · rfl
    · rfl
    · rfl
    · rfl
    · rfl
    · obtain ⟨l, rfl⟩ : ∃ l, k = l + 6 := ⟨k - 6, by omega⟩
      rw [show rI own_Ts (l + 6) = 0 from rfl]
      rw [if_neg (by omega), if_neg (by omega), if_neg (by omega), if_neg (by omega), if_neg (by omega), if_neg (by omega)]
      repeat rw [if_neg (by omega)]
      rfl
  · funext x; rfl

/-! ### the law -/
theorem own_hd (v : Int32) : ∃ a : Nat, a ≤ 9 ∧ f_hdig v = some (Int32.ofNat a) := by
  unfold f_hdig
  have e : (v % 10).toInt = v.toInt.tmod 10 := Int32.toInt_mod v 10
  have l1 : v.toInt.tmod 10 < 10 := Int.tmod_lt_of_pos _ (by omega)
  have l2 : -10 < v.toInt.tmod 10 := by
    have := Int.lt_tmod_of_pos v.toInt (b := 10) (by omega)
    omega
  have e2 : (v % 10 + 10).toInt = (v % 10).toInt + 10 := add_I (by rw [e, show (10 : Int32).toInt = 10 from rfl]; omega) (by rw [e, show (10 : Int32).toInt = 10 from rfl]; omega)
  obtain ⟨N, hN, n1, n2⟩ := own_nat (x := v % 10 + 10) (lo := 1) (hi := 19) (by omega) (by omega)
  rw [hN, show (10 : Int32) = Int32.ofNat 10 from rfl, rem_N (by omega) (by omega) (by omega)]
  exact ⟨N % 10, by omega, rfl⟩
theorem own_sub (a : Nat) : own_o 5 ((48 : Int32) + Int32.ofNat a) 48 = Int32.ofNat a := by
  show (48 : Int32) + Int32.ofNat a - 48 = Int32.ofNat a
  rw [Int32.add_comm, Int32.add_sub_cancel]
theorem own_start {m : Nat} {a b c d : Nat} (ha : a ≤ 9) (hb : b ≤ 9) (hc : c ≤ 9) (hd : d ≤ 9) (cp : ∀ A B C D, W_parse own_o (m + 5000) (own_T25 A B C D) = some (0, own_TP own_o A B C D)) :
    ∃ s0, f_ctor 64 = some s0 ∧ ∃ s1, f_addl (own_txt (48 + Int32.ofNat a) (48 + Int32.ofNat b) (48 + Int32.ofNat c) (48 + Int32.ofNat d)) s0 = some s1 ∧ ∃ s2, f_parse (m + 5000) s1 = some (0, s2) ∧ own_P (Int32.ofNat a) (Int32.ofNat b) (Int32.ofNat c) (Int32.ofNat d) s2 := by
  obtain ⟨s0, e0, h0⟩ := own_ct
  obtain ⟨s1, e1, h1⟩ := own_adds _ s0 _ _ h0 (own_txtA (own_accD ha) (own_accD hb) (own_accD hc) (own_accD hd)) (own_ca (48 + Int32.ofNat a) (48 + Int32.ofNat b) (48 + Int32.ofNat c) (48 + Int32.ofNat d))
  have dg : ∀ a : Nat, a ≤ 9 → ¬ (48 : Int32) + Int32.ofNat a < 48 ∧ ¬ 57 < (48 : Int32) + Int32.ofNat a := fun a h => by
    rw [show (48 : Int32) = Int32.ofNat 48 from rfl, show (57 : Int32) = Int32.ofNat 57 from rfl, N_add, N_lt (by omega) (by omega), N_lt (by omega) (by omega)]; omega
  have R1 : own_RT s1 (own_T25 (48 + Int32.ofNat a) (48 + Int32.ofNat b) (48 + Int32.ofNat c) (48 + Int32.ofNat d)) := by
    refine ⟨h1.1, h1.2, fun p hp => ?_⟩
    rw [h1.2 39 0 rfl]
    rcases hp with rfl | rfl | rfl | rfl
    · exact dg a ha
    · exact dg b hb
    · exact dg c hc
    · exact dg d hd
  obtain ⟨⟨v, s2⟩, e2, g1, g2⟩ := Z_parse (n := m + 5000) R1 _ (cp _ _ _ _)
  have g1 : v = 0 := g1
  subst g1
  have g2 : own_RT s2 _ := g2
  refine ⟨s0, e0, s1, e1, s2, e2, ?_⟩
  refine ⟨⟨g2.1 58 2 rfl, g2.1 63 7 rfl, g2.1 64 8 rfl, g2.1 65 9 rfl, g2.1 67 11 rfl⟩, ⟨?_, ?_, ?_, ?_, ?_⟩, ?_⟩
  · unfold own_F
    rw [g2.2.1 40 1 rfl, g2.2.1 41 2 rfl, g2.2.1 42 3 rfl]
    exact ⟨rfl, rfl, rfl, rfl, own_sub a, rfl, rfl⟩
  · unfold own_F
    rw [g2.2.1 40 1 rfl, g2.2.1 41 2 rfl, g2.2.1 42 3 rfl]
    exact ⟨rfl, rfl, rfl, rfl, own_sub d, rfl, rfl⟩
  · unfold own_F
    rw [g2.2.1 40 1 rfl, g2.2.1 41 2 rfl, g2.2.1 42 3 rfl]
    exact ⟨rfl, rfl, rfl, rfl, own_sub b, rfl, rfl⟩
  · unfold own_F
    rw [g2.2.1 40 1 rfl, g2.2.1 41 2 rfl, g2.2.1 42 3 rfl]
    exact ⟨rfl, rfl, rfl, rfl, own_sub c, rfl, rfl⟩
  · unfold own_F
    rw [g2.2.1 40 1 rfl, g2.2.1 41 2 rfl, g2.2.1 42 3 rfl]
    exact ⟨rfl, rfl, rfl, rfl, rfl, rfl, rfl⟩
  · rw [g2.2.1 43 4 rfl, g2.2.1 44 5 rfl, g2.2.1 45 6 rfl, g2.2.1 47 8 rfl, g2.2.1 48 9 rfl, g2.2.1 49 10 rfl]
    exact ⟨rfl, rfl, rfl, rfl, rfl, rfl, rfl, rfl, rfl⟩
theorem own_ifc {p q : Prop} [Decidable p] [Decidable q] (h : p ↔ q) : (if p then (1 : Int32) else 0) = if q then 1 else 0 := by
  by_cases k : p
  · rw [if_pos k, if_pos (h.mp k)]
  · rw [if_neg k, if_neg (fun z => k (h.mpr z))]
section
variable {m a b c d : Nat}
/-- the run at the end -/
theorem own_467 {s : St} (x4 x5 : Int32) (hb : b ≤ 9) (p : own_P (Int32.ofNat a) (Int32.ofNat b) (Int32.ofNat c) (Int32.ofNat d) s) : ∃ w, f_law_467 (m + 5000) x4 x5 (Int32.ofNat b) s = some (1, w) := by
  -- the fuel
  obtain ⟨F, hF, eF, e467, erun⟩ : ∃ F : Nat, F ≤ 4096 ∧ True ∧ f_law_467 (m + 5000) x4 x5 (Int32.ofNat b) s = f_law_499 (m + 5000) x4 x5 (Int32.ofNat b) (x4 &&& 15) (Int32.ofNat F) s ∧ f_run (m + 5000) x4 x4 x4 x5 s = f_run_35 (m + 5000) x4 x4 x4 (Int32.ofNat F) s := by
    unfold f_law_467 f_run f_run_22
    rw [p.1.1, if_neg (by decide : ¬ (1 : Int32) = 0)]
    by_cases q : x5 < 0
    · rw [if_pos q, if_pos q, if_neg (by decide : ¬ (4096 : Int32) < 0)]
      exact ⟨0, by omega, trivial, rfl, rfl⟩
    · rw [if_neg q, if_neg q]
      by_cases q2 : 4096 < x5
      · rw [if_pos q2, if_pos q2]
        exact ⟨4096, by omega, trivial, rfl, rfl⟩
      · rw [if_neg q2, if_neg q2]
        rw [lt_I, show (0 : Int32).toInt = 0 from rfl] at q
        rw [lt_I, show (4096 : Int32).toInt = 4096 from rfl] at q2
        obtain ⟨F, rfl, -, h2⟩ := own_nat (x := x5) (lo := 0) (hi := 4096) (by omega) (by omega)
        exact ⟨F, h2, trivial, rfl, rfl⟩
  rw [e467]
  -- the start
  obtain ⟨x, hx, ex⟩ : ∃ x : Nat, x < 16 ∧ x4 &&& 15 = Int32.ofNat x := by
    have r := and_rng x4 (m := 15) (by omega)
    rw [show Int32.ofNat 15 = (15 : Int32) from rfl] at r
    obtain ⟨x, h1, -, h2⟩ := own_nat (x := x4 &&& 15) (lo := 0) (hi := 15) (by omega) (by omega)
    exact ⟨x, by omega, h1⟩
  have run : ∃ q, f_run (m + 5000) x4 x4 x4 x5 s = some q ∧ (2 * (b - x) + 1 ≤ F → own_End x (2 * (b - x) + 1) (x + (b - x)) 3 q) ∧ (F < 2 * (b - x) + 1 → own_End x F (x + F / 2) 4 q) := by
    rw [erun]
    unfold f_run_35
    rw [ex]
    simp only [bnd_eq]
    have p3 : own_P (Int32.ofNat a) (Int32.ofNat b) (Int32.ofNat c) (Int32.ofNat d) (setI (setI (setI s 71 (Int32.ofNat x)) 72 (Int32.ofNat x)) 73 (Int32.ofNat x)) := own_PE (fun j hj => by rw [setI_1, if_neg (by omega), setI_1, if_neg (by omega), setI_1, if_neg (by omega)]) (fun j _ _ => rfl) p
    have X3 : own_X x x (setI (setI (setI s 71 (Int32.ofNat x)) 72 (Int32.ofNat x)) 73 (Int32.ofNat x)) := by
      unfold own_X
      simp only [setI_1]
      simp
    rw [p3.1.2.2.2.2]
    obtain ⟨q, e1, e2, e3⟩ := own_run (m := m) (B := b) (F := F) (x := x) hb hF hx (b - x) x 0 0 (m + 5000) _ p3 X3 hx rfl (by omega) (by omega) (by omega)
    refine ⟨q, e1, fun h => ?_, fun h => ?_⟩
    · have := e2 (by omega)
      rw [Nat.zero_add] at this; exact this
    · have := e3 (by omega)
      rw [Nat.sub_zero] at this; exact this
  obtain ⟨q, e1, e2, e3⟩ := run
  have fin : ∀ (st fz : Nat) (rr : Int32), own_End x st fz rr q → f_stepsUsed q.2 = some (Int32.ofNat st) ∧ f_finalVar q.2 0 = some (Int32.ofNat x) ∧ f_finalVar q.2 1 = some (Int32.ofNat x) ∧ f_finalVar q.2 2 = some (Int32.ofNat fz) ∧ q.1 = rr := fun st fz rr h => by
    obtain ⟨h1, h2, h3, h4, h5, h6⟩ := h
    unfold f_stepsUsed f_finalVar
    rw [h2, h6, h3, h4, h5]
    exact ⟨rfl, rfl, rfl, rfl, h1⟩
  have g530 : ∀ (N E : Nat), N = 2 * (b - x) + 1 → E = x + (b - x) → ∃ w, f_law_530 (m + 5000) x4 x5 (x4 &&& 15) (Int32.ofNat F) (Int32.ofNat N) (Int32.ofNat E) s = some (1, w) := fun N E hN hE => by
    unfold f_law_530
    rw [e1, Option.bind_some, ex]
    by_cases k : F < N
    · obtain ⟨f1, f2, f3, f4, f5⟩ := fin _ _ _ (e3 (by omega))
      rw [f1, f2, f3, f4]
      rw [Option.bind_some, Option.bind_some, Option.bind_some, Option.bind_some, if_pos rfl, if_pos rfl, if_pos (ltN k (by omega)), f5, if_pos rfl, if_pos rfl]
      have : (Int32.ofNat F) / 2 = Int32.ofNat (F / 2) := by
        apply eq_I.mpr
        rw [show (2 : Int32) = Int32.ofNat 2 from rfl, Int32.toInt_div, N_toInt (by omega), N_toInt (by omega), N_toInt (by omega)]
        rw [show ((F : Int).tdiv (2 : Nat)) = ((F / 2 : Nat) : Int) from Int.ofNat_tdiv F 2 |>.symm]
        exact bmod_eq (by omega) (by omega)
      rw [this, N_add, if_pos rfl]
      exact ⟨_, rfl⟩
    · obtain ⟨f1, f2, f3, f4, f5⟩ := fin _ _ _ (e2 (by omega))
      rw [f1, f2, f3, f4]
      rw [Option.bind_some, Option.bind_some, Option.bind_some, Option.bind_some, if_pos rfl, if_pos rfl, if_neg (fun z => k ((N_lt (by omega) (by omega)).mp z)), f5, if_pos rfl, if_pos (by rw [hN]), if_pos (by rw [hE])]
      exact ⟨_, rfl⟩
  unfold f_law_499
  rw [ex]
  by_cases k : x < b
  · rw [if_pos (ltN k (by omega)), bnd_eq]
    have sb : Int32.ofNat b - Int32.ofNat x = Int32.ofNat (b - x) := by
      rw [show b = (b - x) + x by omega, ← N_add, Int32.add_sub_cancel, Nat.add_sub_cancel]
    rw [sb, show (2 : Int32) = Int32.ofNat 2 from rfl, N_mul, N_succ, ← ex]
    exact g530 _ _ rfl (by omega)
  · rw [if_neg (fun z => k ((N_lt (by omega) (by omega)).mp z)), ← ex]
    have := g530 1 x (by omega) (by omega)
    rw [ex] at this ⊢
    exact this
/-- the third check -/
theorem own_378 {s : St} (x4 x5 : Int32) (hb : b ≤ 9) (hc : c ≤ 9) (hd : d ≤ 9) (p : own_P (Int32.ofNat a) (Int32.ofNat b) (Int32.ofNat c) (Int32.ofNat d) s) : ∃ w, f_law_378 (m + 5000) x4 x5 (Int32.ofNat b) (Int32.ofNat c) (Int32.ofNat d) s = some (1, w) := by
  have ck := own_chkV (m := m) (i := 2) (G := fun Z => ¬ Z < c ∨ Z < b ∨ Z = d) (by omega) (fun s p x y Z hZ => by
    obtain ⟨t, e, h⟩ := own_v2 (m := m + 4990) x y (Int32.ofNat Z) p
    refine ⟨t, e.trans ?_, h⟩
    rw [own_ifc (p := ¬ Int32.ofNat Z < Int32.ofNat c ∨ Int32.ofNat Z < Int32.ofNat b ∨ Int32.ofNat Z = Int32.ofNat d) (q := ¬ Z < c ∨ Z < b ∨ Z = d) (by rw [N_lt (by omega) (by omega), N_lt (by omega) (by omega), N_inj (by omega) (by omega)])]) p
  have val : (∀ Z, Z < 16 → (¬ Z < c ∨ Z < b ∨ Z = d)) → ∃ w, f_law_417 (m + 5000) x4 x5 (Int32.ofNat b) (-1) s = some (1, w) := fun h => by
    obtain ⟨t, e, pt, e60⟩ := ck.1 h
    unfold f_law_417 f_counterexample
    rw [show f_check (m + 5000) 2 s = some (1, t) from e, Option.bind_some, Option.bind_some, if_pos rfl, if_pos rfl, e60, if_pos rfl]
    exact own_467 x4 x5 hb pt
  have inv : ∀ e, e < 16 → ¬ (¬ e < c ∨ e < b ∨ e = d) → (∀ Z, Z < e → (¬ Z < c ∨ Z < b ∨ Z = d)) → ∃ w, f_law_417 (m + 5000) x4 x5 (Int32.ofNat b) (Int32.ofNat e) s = some (1, w) := fun e h1 h2 h3 => by
    obtain ⟨t, e', pt, e60⟩ := ck.2 e h1 h2 h3
    unfold f_law_417 f_counterexample
    rw [show f_check (m + 5000) 2 s = some (2, t) from e', Option.bind_some, Option.bind_some, if_neg (fun z => by
      have := congrArg Int32.toInt z
      rw [N_toInt (by omega), show (-1 : Int32).toInt = -1 from rfl] at this
      omega), if_pos rfl, e60, if_pos rfl]
    exact own_467 x4 x5 hb pt
  unfold f_law_378
  by_cases q : b < c
  · rw [if_pos (ltN q (by omega))]
    by_cases r : b = d
    · rw [if_pos (by rw [r]), N_succ]
      by_cases k : b + 1 < c
      · rw [if_pos (ltN k (by omega))]
        exact inv (b + 1) (by omega) (by omega) (fun Z hZ => by omega)
      · rw [if_neg (fun z => k ((N_lt (by omega) (by omega)).mp z))]
        exact val (fun Z hZ => by omega)
    · rw [if_neg (fun z => r ((N_inj (by omega) (by omega)).mp z))]
      exact inv b (by omega) (by omega) (fun Z hZ => by omega)
  · rw [if_neg (fun z => q ((N_lt (by omega) (by omega)).mp z))]
    exact val (fun Z hZ => by omega)
/-- the second check -/
theorem own_319 {s : St} (x4 x5 : Int32) (hb : b ≤ 9) (hc : c ≤ 9) (hd : d ≤ 9) (p : own_P (Int32.ofNat a) (Int32.ofNat b) (Int32.ofNat c) (Int32.ofNat d) s) : ∃ w, f_law_319 (m + 5000) x4 x5 (Int32.ofNat b) (Int32.ofNat c) (Int32.ofNat d) s = some (1, w) := by
  have ck := own_chkV (m := m) (i := 1) (G := fun Z => ¬ Z < c ∨ ¬ Z < b ∨ (Z + 1) % 16 < c) (by omega) (fun s p x y Z hZ => by
    obtain ⟨t, e, h⟩ := own_v1 (m := m + 4990) x y (Int32.ofNat Z) p
    refine ⟨t, e.trans ?_, h⟩
    rw [own_ifc (p := ¬ Int32.ofNat Z < Int32.ofNat c ∨ ¬ Int32.ofNat Z < Int32.ofNat b ∨ (Int32.ofNat Z + 1) &&& 15 < Int32.ofNat c) (q := ¬ Z < c ∨ ¬ Z < b ∨ (Z + 1) % 16 < c) (by rw [N_succ, own_and15 (by omega), N_lt (by omega) (by omega), N_lt (by omega) (by omega), N_lt (by omega) (by omega)])]) p
  have val : (∀ Z, Z < 16 → (¬ Z < c ∨ ¬ Z < b ∨ (Z + 1) % 16 < c)) → ∃ t, f_check (m + 5000) 1 s = some (1, t) ∧ (∃ w, f_law_364 (m + 5000) x4 x5 (Int32.ofNat b) (Int32.ofNat c) (Int32.ofNat d) 1 (t.1 60) t = some (1, w)) := fun h => by
    obtain ⟨t, e, pt, e60⟩ := ck.1 h
    refine ⟨t, e, ?_⟩
    unfold f_law_364
    rw [if_pos rfl, e60, if_pos rfl]
    exact own_378 x4 x5 hb hc hd pt
  unfold f_law_319 f_counterexample
  by_cases q : c < 1
  · obtain ⟨t, e, w, ew⟩ := val (fun Z hZ => by omega)
    rw [e, Option.bind_some, Option.bind_some, if_pos (ltZ (z := 1) 1 rfl q (by omega))]
    exact ⟨w, ew⟩
  · by_cases r : b < c
    · obtain ⟨t, e, w, ew⟩ := val (fun Z hZ => by omega)
      rw [e, Option.bind_some, Option.bind_some, if_neg (fun z => by rw [show (1 : Int32) = Int32.ofNat 1 from rfl, N_lt (by omega) (by omega)] at z; omega), if_pos (ltN r (by omega))]
      exact ⟨w, ew⟩
    · obtain ⟨t, e, pt, e60⟩ := ck.2 (c - 1) (by omega) (by omega) (fun Z hZ => by omega)
      rw [show f_check (m + 5000) 1 s = some (2, t) from e, Option.bind_some, Option.bind_some, if_neg (fun z => by rw [show (1 : Int32) = Int32.ofNat 1 from rfl, N_lt (by omega) (by omega)] at z; omega), if_neg (fun z => r ((N_lt (by omega) (by omega)).mp z)), if_pos rfl, e60]
      have sb : Int32.ofNat c - 1 = Int32.ofNat (c - 1) := by
        rw [show Int32.ofNat c = Int32.ofNat (c - 1) + 1 by rw [N_succ, Nat.sub_add_cancel (by omega)], Int32.add_sub_cancel]
      rw [sb, if_pos rfl]
      exact own_378 x4 x5 hb hc hd pt
theorem own_law33 {s0 s1 s2 : St} (x4 x5 : Int32) (ha : a ≤ 9) (hb : b ≤ 9) (hc : c ≤ 9) (hd : d ≤ 9) (e1 : f_addl (own_txt (48 + Int32.ofNat a) (48 + Int32.ofNat b) (48 + Int32.ofNat c) (48 + Int32.ofNat d)) s0 = some s1) (e2 : f_parse (m + 5000) s1 = some (0, s2))
    (p : own_P (Int32.ofNat a) (Int32.ofNat b) (Int32.ofNat c) (Int32.ofNat d) s2) : ∃ w, f_law_33 (m + 5000) x4 x5 (Int32.ofNat a) (Int32.ofNat b) (Int32.ofNat c) (Int32.ofNat d) s0 = some (1, w) := by
  have ck := own_chkV (m := m) (i := 0) (G := fun Z => ¬ Z < a ∨ Z < c) (by omega) (fun s p x y Z hZ => by
    obtain ⟨t, e, h⟩ := own_v0 (m := m + 4990) x y (Int32.ofNat Z) p
    refine ⟨t, e.trans ?_, h⟩
    rw [own_ifc (p := ¬ Int32.ofNat Z < Int32.ofNat a ∨ Int32.ofNat Z < Int32.ofNat c) (q := ¬ Z < a ∨ Z < c) (by rw [N_lt (by omega) (by omega), N_lt (by omega) (by omega)])]) p
  have eq : f_law_33 (m + 5000) x4 x5 (Int32.ofNat a) (Int32.ofNat b) (Int32.ofNat c) (Int32.ofNat d) s0 = (f_addl (own_txt (48 + Int32.ofNat a) (48 + Int32.ofNat b) (48 + Int32.ofNat c) (48 + Int32.ofNat d)) s0).bind fun s1 => (f_parse (m + 5000) s1).bind fun q51 =>
      if q51.1 = 0 then (f_vcCount q51.2).bind fun q54 => if q54 = (3 : Int32) then (f_check (m + 5000) (0 : Int32) q51.2).bind fun q57 => (f_counterexample q57.2).bind fun q59 =>
        if Int32.ofNat c < Int32.ofNat a then (if q57.1 = (2 : Int32) then (if q59 = Int32.ofNat c then f_law_319 (m + 5000) x4 x5 (Int32.ofNat b) (Int32.ofNat c) (Int32.ofNat d) q57.2 else some ((0 : Int32), q57.2)) else some ((0 : Int32), q57.2))
        else (if q57.1 = (1 : Int32) then (if q59 = (-1 : Int32) then f_law_319 (m + 5000) x4 x5 (Int32.ofNat b) (Int32.ofNat c) (Int32.ofNat d) q57.2 else some ((0 : Int32), q57.2)) else some ((0 : Int32), q57.2)) else some ((0 : Int32), q51.2) else some ((0 : Int32), q51.2) := by
    unfold f_law_33 own_txt
    simp only [f_addl, Option.bind_assoc, Option.bind_some]
  rw [eq, e1, Option.bind_some, e2, Option.bind_some]
  show ∃ w, (if (0 : Int32) = 0 then (f_vcCount s2).bind fun q54 => if q54 = (3 : Int32) then (f_check (m + 5000) (0 : Int32) s2).bind fun q57 => (f_counterexample q57.2).bind fun q59 =>
        if Int32.ofNat c < Int32.ofNat a then (if q57.1 = (2 : Int32) then (if q59 = Int32.ofNat c then f_law_319 (m + 5000) x4 x5 (Int32.ofNat b) (Int32.ofNat c) (Int32.ofNat d) q57.2 else some ((0 : Int32), q57.2)) else some ((0 : Int32), q57.2))
        else (if q57.1 = (1 : Int32) then (if q59 = (-1 : Int32) then f_law_319 (m + 5000) x4 x5 (Int32.ofNat b) (Int32.ofNat c) (Int32.ofNat d) q57.2 else some ((0 : Int32), q57.2)) else some ((0 : Int32), q57.2)) else some ((0 : Int32), s2) else some ((0 : Int32), s2)) = some (1, w)
  have vc : f_vcCount s2 = some 3 := by
    unfold f_vcCount
    rw [p.1.1, if_neg (by decide), p.1.2.2.2.1]; rfl
  rw [if_pos rfl, vc, Option.bind_some, if_pos rfl]
  unfold f_counterexample
  by_cases q : c < a
  · obtain ⟨t, e, pt, e60⟩ := ck.2 c (by omega) (by omega) (fun Z hZ => by omega)
    rw [show f_check (m + 5000) 0 s2 = some (2, t) from e, Option.bind_some, Option.bind_some, if_pos (ltN q (by omega)), if_pos rfl, e60, if_pos rfl]
    exact own_319 x4 x5 hb hc hd pt
  · obtain ⟨t, e, pt, e60⟩ := ck.1 (fun Z hZ => by omega)
    rw [show f_check (m + 5000) 0 s2 = some (1, t) from e, Option.bind_some, Option.bind_some, if_neg (fun z => q ((N_lt (by omega) (by omega)).mp z)), if_pos rfl, e60, if_pos rfl]
    exact own_319 x4 x5 hb hc hd pt
end
theorem plain : ∀ a b c d e f, ∃ n w, f_law n a b c d e f = some (1, w) := by
  intro pa pb pc pd x4 x5
  obtain ⟨m, hm⟩ : ∃ m : Nat, m = 0 := ⟨0, rfl⟩
  refine ⟨m + 5000, ?_⟩
  obtain ⟨a, ha, ea⟩ := own_hd pa
  obtain ⟨b, hb, eb⟩ := own_hd pb
  obtain ⟨c, hc, ec⟩ := own_hd pc
  obtain ⟨d, hd, ed⟩ := own_hd pd
  obtain ⟨s0, e0, s1, e1, s2, e2, p⟩ := own_start (m := m) ha hb hc hd (fun A B C D => by rw [hm]; exact own_cp own_o A B C D)
  unfold f_law
  rw [ea, Option.bind_some, eb, Option.bind_some, ec, Option.bind_some, ed, Option.bind_some, e0, Option.bind_some]
  exact own_law33 x4 x5 ha hb hc hd e1 e2 p
theorem main_1_1 : Claimed_1_1 := comes_1 plain fun _ _ _ _ _ _ h hF => ⟨h.1, hF⟩
theorem main_1_2 : Claimed_1_2 := comes_1 plain fun _ _ _ _ _ _ h hF => ⟨h.2.1, hF⟩


end Jvm.Pilot.@@N@@
namespace Jvm.Pilot.@@N@@
open Jvm Jvm.ClassFile Sem Op Lib Jvm.Free Jvm.Stand Jvm.Pilot.@@N@@.Jvm.D
/-! MADE BY PROGRAM (witnessworld.py) out of the Statement's table words and the real class files: 9 classes; the members and pool entries that the words name. The judged class is class 1, her method 2. -/
namespace start1
open Jvm.ClassFile
def u (s : String) : CpInfo := .utf8 (stringToUtf16 s)
/-- a pool by its gaps: so many unusable entries, then the entry; so many at the end -/
def gap : Nat → List CpInfo → List CpInfo
  | 0, r => r
  | n + 1, r => .unusable :: gap n r
def poolList (es : List (Nat × CpInfo)) (last : Nat) : List CpInfo := es.foldr (fun e r => gap e.1 (e.2 :: r)) (gap last [])
def pool (es : List (Nat × CpInfo)) (last : Nat) : Array CpInfo := ⟨poolList es last⟩
def fileOf (pool : Array CpInfo) (this : Nat) (attrs : Array Attribute := #[]) (ms : Array MethodInfo := #[]) (fl : Nat := 33) (sup : Nat := 0) (ifs : Array Nat := #[]) (fds : Array FieldInfo := #[]) : ClassFile where
  minorVersion := 0
  majorVersion := 65
  constantPool := pool
  accessFlags := fl
  thisClass := this
  superClass := sup
  interfaces := ifs
  fields := fds
  methods := ms
  attributes := attrs
def plain (name : String) (sup : Option ClassId) : Class where
  name := name
  kind := .ordinary
  loader := none
  accessFlags := 33
  super := sup
  interfaces := #[]
  cf := none
  fields := #[]
  methods := #[]
  instanceTypes := #[]
  staticTypes := #[]
  resolved := #[]
  callSites := []
  init := .initialized
  statics := none
  mirror := none

def pool0 : Array CpInfo := pool [(5, u "<init>"), (0, u "()V"), (1, .class_ 10), (1, u "java/lang/Object")] 113

def k0c0 : Code := { maxStack := 0, maxLocals := 1, code := object_method_1_code, exceptionTable := #[], attributes := #[] }
def k0m0 : Method := { name := "<init>", desc := "()V", sig := { parameters := [], returnType := none }, accessFlags := 1, code := some k0c0 }
/-- java/lang/Object -/
def k0 : Class := { plain "java/lang/Object" none with
  accessFlags := 33
  interfaces := #[]
  cf := some (fileOf pool0 8 #[] #[{ accessFlags := 1, nameIndex := 5, descriptorIndex := 6, attributes := #[] }] 33 0 #[] #[])
  fields := #[]
  methods := #[k0m0]
  instanceTypes := #[]
  staticTypes := #[]
  resolved := Array.replicate 124 none
  statics := none }

def pool1 : Array CpInfo := pool [(2, .class_ 4), (1, u "java/lang/Object"), (0, u "<init>"), (0, u "()V"), (0, .methodref 8 9), (0, .class_ 10), (0, .nameAndType 11 12), (0, u "VcGeneratorL3"), (0, u "dig"), (0, u "(I)I"), (0, .class_ 14), (0, u "VcGenerator"), (0, .methodref 13 16), (0, .nameAndType 5 17), (0, u "(I)V"), (0, .methodref 13 19), (0, .nameAndType 20 12), (0, u "addChar"), (0, .methodref 13 22), (0, .nameAndType 23 24), (0, u "parse"), (0, u "()I"), (0, .methodref 13 26), (0, .nameAndType 27 24), (0, u "vcCount"), (0, .methodref 13 29), (0, .nameAndType 30 12), (0, u "check"), (0, .methodref 13 32), (0, .nameAndType 33 24), (0, u "counterexample"), (0, .methodref 13 35), (0, .nameAndType 36 37), (0, u "run"), (0, u "(IIII)I"), (0, .methodref 13 39), (0, .nameAndType 40 24), (0, u "stepsUsed"), (0, .methodref 13 42), (0, .nameAndType 43 12), (0, u "finalVar"), (2, u "law"), (0, u "(IIIIII)Z")] 3

def k1m0 : Method := { name := "<init>", desc := "()V", sig := { parameters := [], returnType := none }, accessFlags := 1, code := none }
def k1c1 : Code := { maxStack := 2, maxLocals := 1, code := method_2_code, exceptionTable := #[], attributes := #[] }
def k1m1 : Method := { name := "dig", desc := "(I)I", sig := { parameters := [.int], returnType := some .int }, accessFlags := 10, code := some k1c1 }
def k1c2 : Code := { maxStack := 5, maxLocals := 27, code := code, exceptionTable := #[], attributes := #[] }
def k1m2 : Method := { name := "law", desc := "(IIIIII)Z", sig := { parameters := [.int, .int, .int, .int, .int, .int], returnType := some .boolean }, accessFlags := 9, code := some k1c2 }
/-- VcGeneratorL3 -/
def k1 : Class := { plain "VcGeneratorL3" (some 0) with
  accessFlags := 49
  interfaces := #[]
  cf := some (fileOf pool1 8 #[] #[{ accessFlags := 1, nameIndex := 5, descriptorIndex := 6, attributes := #[] }, { accessFlags := 10, nameIndex := 11, descriptorIndex := 12, attributes := #[] }, { accessFlags := 9, nameIndex := 46, descriptorIndex := 47, attributes := #[] }] 49 2 #[] #[])
  fields := #[]
  methods := #[k1m0, k1m1, k1m2]
  instanceTypes := #[]
  staticTypes := #[]
  resolved := Array.replicate 51 none
  statics := none }

def pool2 : Array CpInfo := pool [(1, .methodref 2 3), (0, .class_ 4), (0, .nameAndType 5 6), (0, u "java/lang/Object"), (0, u "<init>"), (0, u "()V"), (0, .fieldref 8 9), (0, .class_ 10), (0, .nameAndType 11 12), (0, u "VcGenerator"), (0, u "OP_END"), (0, u "I"), (0, .fieldref 8 14), (0, .nameAndType 15 12), (0, u "OP_VAR"), (0, .fieldref 8 17), (0, .nameAndType 18 12), (0, u "OP_CONST"), (0, .fieldref 8 20), (0, .nameAndType 21 12), (0, u "OP_ADD"), (0, .fieldref 8 23), (0, .nameAndType 24 12), (0, u "OP_SUB"), (0, .fieldref 8 26), (0, .nameAndType 27 12), (0, u "OP_MUL"), (0, .fieldref 8 29), (0, .nameAndType 30 12), (0, u "OP_LT"), (0, .fieldref 8 32), (0, .nameAndType 33 12), (0, u "OP_EQ"), (0, .fieldref 8 35), (0, .nameAndType 36 12), (0, u "OP_TRUE"), (0, .fieldref 8 38), (0, .nameAndType 39 12), (0, u "OP_FALSE"), (0, .fieldref 8 41), (0, .nameAndType 42 12), (0, u "OP_NOT"), (0, .fieldref 8 44), (0, .nameAndType 45 12), (0, u "OP_AND"), (0, .fieldref 8 47), (0, .nameAndType 48 12), (0, u "OP_OR"), (0, .fieldref 8 50), (0, .nameAndType 51 12), (0, u "S_ASSIGN"), (0, .fieldref 8 53), (0, .nameAndType 54 12), (0, u "S_IF"), (0, .fieldref 8 56), (0, .nameAndType 57 12), (0, u "S_WHILE"), (0, .fieldref 8 59), (0, .nameAndType 60 12), (0, u "T_FORM"), (0, .fieldref 8 62), (0, .nameAndType 63 12), (0, u "T_FORM_REST"), (0, .fieldref 8 65), (0, .nameAndType 66 12), (0, u "T_CONJ"), (0, .fieldref 8 68), (0, .nameAndType 69 12), (0, u "T_CONJ_REST"), (0, .fieldref 8 71), (0, .nameAndType 72 12), (0, u "T_LIT"), (0, .fieldref 8 74), (0, .nameAndType 75 12), (0, u "T_REL"), (0, .fieldref 8 77), (0, .nameAndType 78 12), (0, u "T_EXPR"), (0, .fieldref 8 80), (0, .nameAndType 81 12), (0, u "T_EXPR_REST"), (0, .fieldref 8 83), (0, .nameAndType 84 12), (0, u "T_TERM"), (0, .fieldref 8 86), (0, .nameAndType 87 12), (0, u "T_TERM_REST"), (0, .fieldref 8 89), (0, .nameAndType 90 12), (0, u "T_ATOM"), (0, .fieldref 8 92), (0, .nameAndType 93 12), (0, u "T_STMTS"), (0, .fieldref 8 95), (0, .nameAndType 96 12), (0, u "T_STMT"), (0, .fieldref 8 98), (0, .nameAndType 99 12), (0, u "K_EXPECT"), (0, .fieldref 8 101), (0, .nameAndType 102 12), (0, u "K_END"), (0, .fieldref 8 104), (0, .nameAndType 105 12), (0, u "K_BEGIN"), (0, .fieldref 8 107), (0, .nameAndType 108 12), (0, u "K_EMIT"), (0, .fieldref 8 110), (0, .nameAndType 111 12), (0, u "K_OPEN"), (0, .fieldref 8 113), (0, .nameAndType 114 12), (0, u "K_CLOSE"), (0, .fieldref 8 116), (0, .nameAndType 117 12), (0, u "MAX_ST"), (0, .fieldref 8 119), (0, .nameAndType 120 12), (0, u "MAX_IDS"), (0, .fieldref 8 122), (0, .nameAndType 123 12), (0, u "MAX_CODE"), (0, .fieldref 8 125), (0, .nameAndType 126 12), (0, u "MAX_TASKS"), (0, .fieldref 8 128), (0, .nameAndType 129 130), (0, u "buf"), (0, u "[I"), (0, .fieldref 8 132), (0, .nameAndType 133 130), (0, u "codeOp"), (0, .fieldref 8 135), (0, .nameAndType 136 130), (0, u "codeArg"), (0, .fieldref 8 138), (0, .nameAndType 139 130), (0, u "fStart"), (0, .fieldref 8 141), (0, .nameAndType 142 130), (0, u "stKind"), (0, .fieldref 8 144), (0, .nameAndType 145 130), (0, u "stVar"), (0, .fieldref 8 147), (0, .nameAndType 148 130), (0, u "stFirstA"), (0, .fieldref 8 150), (0, .nameAndType 151 130), (0, u "stFirstB"), (0, .fieldref 8 153), (0, .nameAndType 154 130), (0, u "stNext"), (0, .fieldref 8 156), (0, .nameAndType 157 130), (0, u "stParent"), (0, .fieldref 8 159), (0, .nameAndType 160 130), (0, u "loopStmt"), (0, .fieldref 8 162), (0, .nameAndType 163 130), (0, u "tkCode"), (0, .fieldref 8 165), (0, .nameAndType 166 130), (0, u "tkArg"), (0, .fieldref 8 168), (0, .nameAndType 169 130), (0, u "lsParent"), (0, .fieldref 8 171), (0, .nameAndType 172 130), (0, u "lsWhich"), (0, .fieldref 8 174), (0, .nameAndType 175 130), (0, u "lsLast"), (0, .fieldref 8 177), (0, .nameAndType 178 130), (0, u "vStack"), (0, .fieldref 8 180), (0, .nameAndType 181 12), (0, u "cap"), (0, .fieldref 8 183), (0, .nameAndType 184 12), (0, u "len"), (0, .methodref 8 186), (0, .nameAndType 187 6), (0, u "clearResults"), (0, .methodref 8 189), (0, .nameAndType 190 191), (0, u "accepted"), (0, u "(I)Z"), (0, .methodref 8 193), (0, .nameAndType 194 195), (0, u "doParse"), (0, u "()Z"), (0, .fieldref 8 197), (0, .nameAndType 198 199), (0, u "parsed"), (0, u "Z"), (0, .fieldref 8 201), (0, .nameAndType 202 12), (0, u "pPos"), (0, .fieldref 8 204), (0, .nameAndType 205 12), (0, u "errPos"), (0, .fieldref 8 207), (0, .nameAndType 208 12), (0, u "loopCount"), (0, .methodref 8 210), (0, .nameAndType 211 212), (0, u "vcAt"), (0, u "(IIII)I"), (0, .fieldref 8 214), (0, .nameAndType 215 12), (0, u "cex"), (0, .methodref 8 217), (0, .nameAndType 218 212), (0, u "evalF"), (0, .fieldref 8 220), (0, .nameAndType 221 12), (0, u "wx"), (0, .fieldref 8 223), (0, .nameAndType 224 12), (0, u "wy"), (0, .fieldref 8 226), (0, .nameAndType 227 12), (0, u "wz"), (0, .fieldref 8 229), (0, .nameAndType 230 12), (0, u "mainFirst"), (0, .methodref 8 232), (0, .nameAndType 233 234), (0, u "runStep"), (0, u "(I)I"), (0, .fieldref 8 236), (0, .nameAndType 237 199), (0, u "hasRun"), (0, .fieldref 8 239), (0, .nameAndType 240 12), (0, u "runX"), (0, .fieldref 8 242), (0, .nameAndType 243 12), (0, u "runY"), (0, .fieldref 8 245), (0, .nameAndType 246 12), (0, u "runZ"), (0, .fieldref 8 248), (0, .nameAndType 249 12), (0, u "runSteps"), (0, .methodref 8 251), (0, .nameAndType 252 234), (0, u "varIndex"), (0, .fieldref 8 254), (0, .nameAndType 255 12), (0, u "tkTop"), (0, .fieldref 8 257), (0, .nameAndType 258 12), (0, u "codeLen"), (0, .fieldref 8 260), (0, .nameAndType 261 12), (0, u "stCount"), (0, .fieldref 8 263), (0, .nameAndType 264 12), (0, u "lsTop"), (0, .fieldref 8 266), (0, .nameAndType 267 199), (0, u "pFail"), (0, .fieldref 8 269), (0, .nameAndType 270 199), (0, u "pDone"), (0, .methodref 8 272), (0, .nameAndType 273 6), (0, u "pushProgram"), (0, .integer 40000), (0, .methodref 8 276), (0, .nameAndType 277 278), (0, u "step"), (0, u "(II)V"), (0, .methodref 8 280), (0, .nameAndType 281 278), (0, u "push"), (0, .methodref 8 283), (0, .nameAndType 284 285), (0, u "stepFormula"), (0, u "(I)V"), (0, .methodref 8 287), (0, .nameAndType 288 285), (0, u "stepExpr"), (0, .methodref 8 290), (0, .nameAndType 291 285), (0, u "stepStmts"), (0, .methodref 8 293), (0, .nameAndType 294 278), (0, u "stepAction"), (0, .methodref 8 296), (0, .nameAndType 297 298), (0, u "la"), (0, u "()I"), (0, .methodref 8 300), (0, .nameAndType 301 302), (0, u "binRest"), (0, u "(III)V"), (0, .methodref 8 304), (0, .nameAndType 305 6), (0, u "stepLit"), (0, .methodref 8 307), (0, .nameAndType 308 278), (0, u "emit"), (0, .methodref 8 310), (0, .nameAndType 311 191), (0, u "exprStart"), (0, .methodref 8 313), (0, .nameAndType 314 6), (0, u "stepAtom"), (0, .methodref 8 316), (0, .nameAndType 317 191), (0, u "stmtStart"), (0, .methodref 8 319), (0, .nameAndType 320 285), (0, u "startAssign"), (3, .methodref 8 325), (0, .nameAndType 326 6), (0, u "startWhile"), (0, .methodref 8 328), (0, .nameAndType 329 234), (0, u "newStmt"), (0, .methodref 8 331), (0, .nameAndType 332 285), (0, u "openList"), (0, .methodref 8 334), (0, .nameAndType 335 212), (0, u "evalAt"), (0, .methodref 8 337), (0, .nameAndType 338 339), (0, u "leafValue"), (0, u "(IIIII)I"), (0, .methodref 8 341), (0, .nameAndType 342 343), (0, u "binary"), (0, u "(III)I"), (0, .methodref 8 345), (0, .nameAndType 346 234), (0, u "advance"), (0, .methodref 8 348), (0, .nameAndType 349 350), (0, u "enter"), (0, u "(II)I"), (0, .methodref 8 352), (0, .nameAndType 353 212), (0, u "walk"), (0, u "OK"), (2, u "BAD_CHAR"), (1, u "FULL"), (1, u "SYNTAX_ERROR"), (1, u "NOT_PARSED"), (1, u "NO_SUCH"), (1, u "VALID"), (1, u "INVALID"), (1, u "HALTED"), (1, u "OUT_OF_FUEL"), (1, u "PRE"), (0, u "POST"), (0, u "VAR_X"), (0, u "VAR_Y"), (0, u "VAR_Z"), (22, u "addChar"), (3, u "parse"), (1, u "vcCount"), (0, u "check"), (0, u "counterexample"), (2, u "run"), (0, u "finalVar"), (0, u "stepsUsed")] 3

def k2c0 : Code := { maxStack := 2, maxLocals := 3, code := prog_1_method_1_code, exceptionTable := #[], attributes := #[] }
def k2m0 : Method := { name := "<init>", desc := "(I)V", sig := { parameters := [.int], returnType := none }, accessFlags := 1, code := some k2c0 }
def k2c1 : Code := { maxStack := 3, maxLocals := 2, code := prog_1_method_2_code, exceptionTable := #[], attributes := #[] }
def k2m1 : Method := { name := "addChar", desc := "(I)I", sig := { parameters := [.int], returnType := some .int }, accessFlags := 1, code := some k2c1 }
def k2c2 : Code := { maxStack := 2, maxLocals := 2, code := prog_1_method_6_code, exceptionTable := #[], attributes := #[] }
def k2m2 : Method := { name := "parse", desc := "()I", sig := { parameters := [], returnType := some .int }, accessFlags := 1, code := some k2c2 }
def k2c3 : Code := { maxStack := 3, maxLocals := 1, code := prog_1_method_8_code, exceptionTable := #[], attributes := #[] }
def k2m3 : Method := { name := "vcCount", desc := "()I", sig := { parameters := [], returnType := some .int }, accessFlags := 1, code := some k2c3 }
def k2c4 : Code := { maxStack := 6, maxLocals := 4, code := prog_1_method_9_code, exceptionTable := #[], attributes := #[] }
def k2m4 : Method := { name := "check", desc := "(I)I", sig := { parameters := [.int], returnType := some .int }, accessFlags := 1, code := some k2c4 }
def k2c5 : Code := { maxStack := 1, maxLocals := 1, code := prog_1_method_10_code, exceptionTable := #[], attributes := #[] }
def k2m5 : Method := { name := "counterexample", desc := "()I", sig := { parameters := [], returnType := some .int }, accessFlags := 1, code := some k2c5 }
def k2c6 : Code := { maxStack := 3, maxLocals := 10, code := prog_1_method_13_code, exceptionTable := #[], attributes := #[] }
def k2m6 : Method := { name := "run", desc := "(IIII)I", sig := { parameters := [.int, .int, .int, .int], returnType := some .int }, accessFlags := 1, code := some k2c6 }
def k2c7 : Code := { maxStack := 2, maxLocals := 2, code := prog_1_method_14_code, exceptionTable := #[], attributes := #[] }
def k2m7 : Method := { name := "finalVar", desc := "(I)I", sig := { parameters := [.int], returnType := some .int }, accessFlags := 1, code := some k2c7 }
def k2c8 : Code := { maxStack := 1, maxLocals := 1, code := prog_1_method_15_code, exceptionTable := #[], attributes := #[] }
def k2m8 : Method := { name := "stepsUsed", desc := "()I", sig := { parameters := [], returnType := some .int }, accessFlags := 1, code := some k2c8 }
def k2c9 : Code := { maxStack := 2, maxLocals := 1, code := prog_1_method_16_code, exceptionTable := #[], attributes := #[] }
def k2m9 : Method := { name := "clearResults", desc := "()V", sig := { parameters := [], returnType := none }, accessFlags := 2, code := some k2c9 }
def k2c10 : Code := { maxStack := 2, maxLocals := 2, code := prog_1_method_17_code, exceptionTable := #[], attributes := #[] }
def k2m10 : Method := { name := "varIndex", desc := "(I)I", sig := { parameters := [.int], returnType := some .int }, accessFlags := 2, code := some k2c10 }
def k2c11 : Code := { maxStack := 2, maxLocals := 2, code := prog_1_method_18_code, exceptionTable := #[], attributes := #[] }
def k2m11 : Method := { name := "accepted", desc := "(I)Z", sig := { parameters := [.int], returnType := some .boolean }, accessFlags := 2, code := some k2c11 }
def k2c12 : Code := { maxStack := 2, maxLocals := 2, code := prog_1_method_19_code, exceptionTable := #[], attributes := #[] }
def k2m12 : Method := { name := "exprStart", desc := "(I)Z", sig := { parameters := [.int], returnType := some .boolean }, accessFlags := 2, code := some k2c12 }
def k2c13 : Code := { maxStack := 2, maxLocals := 2, code := prog_1_method_20_code, exceptionTable := #[], attributes := #[] }
def k2m13 : Method := { name := "stmtStart", desc := "(I)Z", sig := { parameters := [.int], returnType := some .boolean }, accessFlags := 2, code := some k2c13 }
def k2c14 : Code := { maxStack := 4, maxLocals := 2, code := prog_1_method_21_code, exceptionTable := #[], attributes := #[] }
def k2m14 : Method := { name := "doParse", desc := "()Z", sig := { parameters := [], returnType := some .boolean }, accessFlags := 2, code := some k2c14 }
def k2c15 : Code := { maxStack := 3, maxLocals := 1, code := prog_1_method_22_code, exceptionTable := #[], attributes := #[] }
def k2m15 : Method := { name := "pushProgram", desc := "()V", sig := { parameters := [], returnType := none }, accessFlags := 2, code := some k2c15 }
def k2c16 : Code := { maxStack := 2, maxLocals := 1, code := prog_1_method_23_code, exceptionTable := #[], attributes := #[] }
def k2m16 : Method := { name := "la", desc := "()I", sig := { parameters := [], returnType := some .int }, accessFlags := 2, code := some k2c16 }
def k2c17 : Code := { maxStack := 3, maxLocals := 3, code := prog_1_method_24_code, exceptionTable := #[], attributes := #[] }
def k2m17 : Method := { name := "push", desc := "(II)V", sig := { parameters := [.int, .int], returnType := none }, accessFlags := 2, code := some k2c17 }
def k2c18 : Code := { maxStack := 3, maxLocals := 3, code := prog_1_method_25_code, exceptionTable := #[], attributes := #[] }
def k2m18 : Method := { name := "emit", desc := "(II)V", sig := { parameters := [.int, .int], returnType := none }, accessFlags := 2, code := some k2c18 }
def k2c19 : Code := { maxStack := 3, maxLocals := 3, code := prog_1_method_26_code, exceptionTable := #[], attributes := #[] }
def k2m19 : Method := { name := "step", desc := "(II)V", sig := { parameters := [.int, .int], returnType := none }, accessFlags := 2, code := some k2c19 }
def k2c20 : Code := { maxStack := 3, maxLocals := 4, code := prog_1_method_27_code, exceptionTable := #[], attributes := #[] }
def k2m20 : Method := { name := "binRest", desc := "(III)V", sig := { parameters := [.int, .int, .int], returnType := none }, accessFlags := 2, code := some k2c20 }
def k2c21 : Code := { maxStack := 4, maxLocals := 3, code := prog_1_method_28_code, exceptionTable := #[], attributes := #[] }
def k2m21 : Method := { name := "stepFormula", desc := "(I)V", sig := { parameters := [.int], returnType := none }, accessFlags := 2, code := some k2c21 }
def k2c22 : Code := { maxStack := 3, maxLocals := 2, code := prog_1_method_29_code, exceptionTable := #[], attributes := #[] }
def k2m22 : Method := { name := "stepLit", desc := "()V", sig := { parameters := [], returnType := none }, accessFlags := 2, code := some k2c22 }
def k2c23 : Code := { maxStack := 4, maxLocals := 3, code := prog_1_method_30_code, exceptionTable := #[], attributes := #[] }
def k2m23 : Method := { name := "stepExpr", desc := "(I)V", sig := { parameters := [.int], returnType := none }, accessFlags := 2, code := some k2c23 }
def k2c24 : Code := { maxStack := 4, maxLocals := 3, code := prog_1_method_31_code, exceptionTable := #[], attributes := #[] }
def k2m24 : Method := { name := "stepAtom", desc := "()V", sig := { parameters := [], returnType := none }, accessFlags := 2, code := some k2c24 }
def k2c25 : Code := { maxStack := 3, maxLocals := 4, code := prog_1_method_32_code, exceptionTable := #[], attributes := #[] }
def k2m25 : Method := { name := "stepStmts", desc := "(I)V", sig := { parameters := [.int], returnType := none }, accessFlags := 2, code := some k2c25 }
def k2c26 : Code := { maxStack := 5, maxLocals := 3, code := prog_1_method_33_code, exceptionTable := #[], attributes := #[] }
def k2m26 : Method := { name := "startAssign", desc := "(I)V", sig := { parameters := [.int], returnType := none }, accessFlags := 2, code := some k2c26 }
def k2c27 : Code := { maxStack := 5, maxLocals := 2, code := prog_1_method_35_code, exceptionTable := #[], attributes := #[] }
def k2m27 : Method := { name := "startWhile", desc := "()V", sig := { parameters := [], returnType := none }, accessFlags := 2, code := some k2c27 }
def k2c28 : Code := { maxStack := 3, maxLocals := 6, code := prog_1_method_36_code, exceptionTable := #[], attributes := #[] }
def k2m28 : Method := { name := "newStmt", desc := "(I)I", sig := { parameters := [.int], returnType := some .int }, accessFlags := 2, code := some k2c28 }
def k2c29 : Code := { maxStack := 3, maxLocals := 3, code := prog_1_method_37_code, exceptionTable := #[], attributes := #[] }
def k2m29 : Method := { name := "stepAction", desc := "(II)V", sig := { parameters := [.int, .int], returnType := none }, accessFlags := 2, code := some k2c29 }
def k2c30 : Code := { maxStack := 4, maxLocals := 2, code := prog_1_method_38_code, exceptionTable := #[], attributes := #[] }
def k2m30 : Method := { name := "openList", desc := "(I)V", sig := { parameters := [.int], returnType := none }, accessFlags := 2, code := some k2c30 }
def k2c31 : Code := { maxStack := 5, maxLocals := 5, code := prog_1_method_39_code, exceptionTable := #[], attributes := #[] }
def k2m31 : Method := { name := "evalF", desc := "(IIII)I", sig := { parameters := [.int, .int, .int, .int], returnType := some .int }, accessFlags := 2, code := some k2c31 }
def k2c32 : Code := { maxStack := 8, maxLocals := 8, code := prog_1_method_40_code, exceptionTable := #[], attributes := #[] }
def k2m32 : Method := { name := "evalAt", desc := "(IIII)I", sig := { parameters := [.int, .int, .int, .int], returnType := some .int }, accessFlags := 2, code := some k2c32 }
def k2c33 : Code := { maxStack := 2, maxLocals := 6, code := prog_1_method_41_code, exceptionTable := #[], attributes := #[] }
def k2m33 : Method := { name := "leafValue", desc := "(IIIII)I", sig := { parameters := [.int, .int, .int, .int, .int], returnType := some .int }, accessFlags := 2, code := some k2c33 }
def k2c34 : Code := { maxStack := 2, maxLocals := 4, code := prog_1_method_42_code, exceptionTable := #[], attributes := #[] }
def k2m34 : Method := { name := "binary", desc := "(III)I", sig := { parameters := [.int, .int, .int], returnType := some .int }, accessFlags := 2, code := some k2c34 }
def k2c35 : Code := { maxStack := 2, maxLocals := 5, code := prog_1_method_43_code, exceptionTable := #[], attributes := #[] }
def k2m35 : Method := { name := "advance", desc := "(I)I", sig := { parameters := [.int], returnType := some .int }, accessFlags := 2, code := some k2c35 }
def k2c36 : Code := { maxStack := 2, maxLocals := 4, code := prog_1_method_44_code, exceptionTable := #[], attributes := #[] }
def k2m36 : Method := { name := "enter", desc := "(II)I", sig := { parameters := [.int, .int], returnType := some .int }, accessFlags := 2, code := some k2c36 }
def k2c37 : Code := { maxStack := 5, maxLocals := 10, code := prog_1_method_45_code, exceptionTable := #[], attributes := #[] }
def k2m37 : Method := { name := "walk", desc := "(IIII)I", sig := { parameters := [.int, .int, .int, .int], returnType := some .int }, accessFlags := 2, code := some k2c37 }
def k2c38 : Code := { maxStack := 5, maxLocals := 10, code := prog_1_method_46_code, exceptionTable := #[], attributes := #[] }
def k2m38 : Method := { name := "vcAt", desc := "(IIII)I", sig := { parameters := [.int, .int, .int, .int], returnType := some .int }, accessFlags := 2, code := some k2c38 }
def k2c39 : Code := { maxStack := 5, maxLocals := 5, code := prog_1_method_47_code, exceptionTable := #[], attributes := #[] }
def k2m39 : Method := { name := "runStep", desc := "(I)I", sig := { parameters := [.int], returnType := some .int }, accessFlags := 2, code := some k2c39 }
/-- VcGenerator -/
def k2 : Class := { plain "VcGenerator" (some 0) with
  accessFlags := 49
  interfaces := #[]
  cf := some (fileOf pool2 8 #[] #[{ accessFlags := 1, nameIndex := 5, descriptorIndex := 285, attributes := #[] }, { accessFlags := 1, nameIndex := 402, descriptorIndex := 234, attributes := #[] }, { accessFlags := 1, nameIndex := 406, descriptorIndex := 298, attributes := #[] }, { accessFlags := 1, nameIndex := 408, descriptorIndex := 298, attributes := #[] }, { accessFlags := 1, nameIndex := 409, descriptorIndex := 234, attributes := #[] }, { accessFlags := 1, nameIndex := 410, descriptorIndex := 298, attributes := #[] }, { accessFlags := 1, nameIndex := 413, descriptorIndex := 212, attributes := #[] }, { accessFlags := 1, nameIndex := 414, descriptorIndex := 234, attributes := #[] }, { accessFlags := 1, nameIndex := 415, descriptorIndex := 298, attributes := #[] }, { accessFlags := 2, nameIndex := 187, descriptorIndex := 6, attributes := #[] }, { accessFlags := 2, nameIndex := 252, descriptorIndex := 234, attributes := #[] }, { accessFlags := 2, nameIndex := 190, descriptorIndex := 191, attributes := #[] }, { accessFlags := 2, nameIndex := 311, descriptorIndex := 191, attributes := #[] }, { accessFlags := 2, nameIndex := 317, descriptorIndex := 191, attributes := #[] }, { accessFlags := 2, nameIndex := 194, descriptorIndex := 195, attributes := #[] }, { accessFlags := 2, nameIndex := 273, descriptorIndex := 6, attributes := #[] }, { accessFlags := 2, nameIndex := 297, descriptorIndex := 298, attributes := #[] }, { accessFlags := 2, nameIndex := 281, descriptorIndex := 278, attributes := #[] }, { accessFlags := 2, nameIndex := 308, descriptorIndex := 278, attributes := #[] }, { accessFlags := 2, nameIndex := 277, descriptorIndex := 278, attributes := #[] }, { accessFlags := 2, nameIndex := 301, descriptorIndex := 302, attributes := #[] }, { accessFlags := 2, nameIndex := 284, descriptorIndex := 285, attributes := #[] }, { accessFlags := 2, nameIndex := 305, descriptorIndex := 6, attributes := #[] }, { accessFlags := 2, nameIndex := 288, descriptorIndex := 285, attributes := #[] }, { accessFlags := 2, nameIndex := 314, descriptorIndex := 6, attributes := #[] }, { accessFlags := 2, nameIndex := 291, descriptorIndex := 285, attributes := #[] }, { accessFlags := 2, nameIndex := 320, descriptorIndex := 285, attributes := #[] }, { accessFlags := 2, nameIndex := 326, descriptorIndex := 6, attributes := #[] }, { accessFlags := 2, nameIndex := 329, descriptorIndex := 234, attributes := #[] }, { accessFlags := 2, nameIndex := 294, descriptorIndex := 278, attributes := #[] }, { accessFlags := 2, nameIndex := 332, descriptorIndex := 285, attributes := #[] }, { accessFlags := 2, nameIndex := 218, descriptorIndex := 212, attributes := #[] }, { accessFlags := 2, nameIndex := 335, descriptorIndex := 212, attributes := #[] }, { accessFlags := 2, nameIndex := 338, descriptorIndex := 339, attributes := #[] }, { accessFlags := 2, nameIndex := 342, descriptorIndex := 343, attributes := #[] }, { accessFlags := 2, nameIndex := 346, descriptorIndex := 234, attributes := #[] }, { accessFlags := 2, nameIndex := 349, descriptorIndex := 350, attributes := #[] }, { accessFlags := 2, nameIndex := 353, descriptorIndex := 212, attributes := #[] }, { accessFlags := 2, nameIndex := 211, descriptorIndex := 212, attributes := #[] }, { accessFlags := 2, nameIndex := 233, descriptorIndex := 234, attributes := #[] }] 49 2 #[] #[{ accessFlags := 25, nameIndex := 354, descriptorIndex := 12, attributes := #[] }, { accessFlags := 25, nameIndex := 357, descriptorIndex := 12, attributes := #[] }, { accessFlags := 25, nameIndex := 359, descriptorIndex := 12, attributes := #[] }, { accessFlags := 25, nameIndex := 361, descriptorIndex := 12, attributes := #[] }, { accessFlags := 25, nameIndex := 363, descriptorIndex := 12, attributes := #[] }, { accessFlags := 25, nameIndex := 365, descriptorIndex := 12, attributes := #[] }, { accessFlags := 25, nameIndex := 367, descriptorIndex := 12, attributes := #[] }, { accessFlags := 25, nameIndex := 369, descriptorIndex := 12, attributes := #[] }, { accessFlags := 25, nameIndex := 371, descriptorIndex := 12, attributes := #[] }, { accessFlags := 25, nameIndex := 373, descriptorIndex := 12, attributes := #[] }, { accessFlags := 25, nameIndex := 375, descriptorIndex := 12, attributes := #[] }, { accessFlags := 25, nameIndex := 376, descriptorIndex := 12, attributes := #[] }, { accessFlags := 25, nameIndex := 377, descriptorIndex := 12, attributes := #[] }, { accessFlags := 25, nameIndex := 378, descriptorIndex := 12, attributes := #[] }, { accessFlags := 25, nameIndex := 379, descriptorIndex := 12, attributes := #[] }, { accessFlags := 18, nameIndex := 11, descriptorIndex := 12, attributes := #[] }, { accessFlags := 18, nameIndex := 15, descriptorIndex := 12, attributes := #[] }, { accessFlags := 18, nameIndex := 18, descriptorIndex := 12, attributes := #[] }, { accessFlags := 18, nameIndex := 21, descriptorIndex := 12, attributes := #[] }, { accessFlags := 18, nameIndex := 24, descriptorIndex := 12, attributes := #[] }, { accessFlags := 18, nameIndex := 27, descriptorIndex := 12, attributes := #[] }, { accessFlags := 18, nameIndex := 30, descriptorIndex := 12, attributes := #[] }, { accessFlags := 18, nameIndex := 33, descriptorIndex := 12, attributes := #[] }, { accessFlags := 18, nameIndex := 36, descriptorIndex := 12, attributes := #[] }, { accessFlags := 18, nameIndex := 39, descriptorIndex := 12, attributes := #[] }, { accessFlags := 18, nameIndex := 42, descriptorIndex := 12, attributes := #[] }, { accessFlags := 18, nameIndex := 45, descriptorIndex := 12, attributes := #[] }, { accessFlags := 18, nameIndex := 48, descriptorIndex := 12, attributes := #[] }, { accessFlags := 18, nameIndex := 51, descriptorIndex := 12, attributes := #[] }, { accessFlags := 18, nameIndex := 54, descriptorIndex := 12, attributes := #[] }, { accessFlags := 18, nameIndex := 57, descriptorIndex := 12, attributes := #[] }, { accessFlags := 18, nameIndex := 60, descriptorIndex := 12, attributes := #[] }, { accessFlags := 18, nameIndex := 63, descriptorIndex := 12, attributes := #[] }, { accessFlags := 18, nameIndex := 66, descriptorIndex := 12, attributes := #[] }, { accessFlags := 18, nameIndex := 69, descriptorIndex := 12, attributes := #[] }, { accessFlags := 18, nameIndex := 72, descriptorIndex := 12, attributes := #[] }, { accessFlags := 18, nameIndex := 75, descriptorIndex := 12, attributes := #[] }, { accessFlags := 18, nameIndex := 78, descriptorIndex := 12, attributes := #[] }, { accessFlags := 18, nameIndex := 81, descriptorIndex := 12, attributes := #[] }, { accessFlags := 18, nameIndex := 84, descriptorIndex := 12, attributes := #[] }, { accessFlags := 18, nameIndex := 87, descriptorIndex := 12, attributes := #[] }, { accessFlags := 18, nameIndex := 90, descriptorIndex := 12, attributes := #[] }, { accessFlags := 18, nameIndex := 93, descriptorIndex := 12, attributes := #[] }, { accessFlags := 18, nameIndex := 96, descriptorIndex := 12, attributes := #[] }, { accessFlags := 18, nameIndex := 99, descriptorIndex := 12, attributes := #[] }, { accessFlags := 18, nameIndex := 102, descriptorIndex := 12, attributes := #[] }, { accessFlags := 18, nameIndex := 105, descriptorIndex := 12, attributes := #[] }, { accessFlags := 18, nameIndex := 108, descriptorIndex := 12, attributes := #[] }, { accessFlags := 18, nameIndex := 111, descriptorIndex := 12, attributes := #[] }, { accessFlags := 18, nameIndex := 114, descriptorIndex := 12, attributes := #[] }, { accessFlags := 18, nameIndex := 117, descriptorIndex := 12, attributes := #[] }, { accessFlags := 18, nameIndex := 120, descriptorIndex := 12, attributes := #[] }, { accessFlags := 18, nameIndex := 123, descriptorIndex := 12, attributes := #[] }, { accessFlags := 18, nameIndex := 126, descriptorIndex := 12, attributes := #[] }, { accessFlags := 18, nameIndex := 129, descriptorIndex := 130, attributes := #[] }, { accessFlags := 2, nameIndex := 181, descriptorIndex := 12, attributes := #[] }, { accessFlags := 2, nameIndex := 184, descriptorIndex := 12, attributes := #[] }, { accessFlags := 2, nameIndex := 198, descriptorIndex := 199, attributes := #[] }, { accessFlags := 2, nameIndex := 205, descriptorIndex := 12, attributes := #[] }, { accessFlags := 2, nameIndex := 215, descriptorIndex := 12, attributes := #[] }, { accessFlags := 2, nameIndex := 237, descriptorIndex := 199, attributes := #[] }, { accessFlags := 2, nameIndex := 240, descriptorIndex := 12, attributes := #[] }, { accessFlags := 2, nameIndex := 243, descriptorIndex := 12, attributes := #[] }, { accessFlags := 2, nameIndex := 246, descriptorIndex := 12, attributes := #[] }, { accessFlags := 2, nameIndex := 249, descriptorIndex := 12, attributes := #[] }, { accessFlags := 18, nameIndex := 133, descriptorIndex := 130, attributes := #[] }, { accessFlags := 18, nameIndex := 136, descriptorIndex := 130, attributes := #[] }, { accessFlags := 2, nameIndex := 258, descriptorIndex := 12, attributes := #[] }, { accessFlags := 18, nameIndex := 139, descriptorIndex := 130, attributes := #[] }, { accessFlags := 18, nameIndex := 142, descriptorIndex := 130, attributes := #[] }, { accessFlags := 18, nameIndex := 145, descriptorIndex := 130, attributes := #[] }, { accessFlags := 18, nameIndex := 148, descriptorIndex := 130, attributes := #[] }, { accessFlags := 18, nameIndex := 151, descriptorIndex := 130, attributes := #[] }, { accessFlags := 18, nameIndex := 154, descriptorIndex := 130, attributes := #[] }, { accessFlags := 18, nameIndex := 157, descriptorIndex := 130, attributes := #[] }, { accessFlags := 2, nameIndex := 261, descriptorIndex := 12, attributes := #[] }, { accessFlags := 2, nameIndex := 230, descriptorIndex := 12, attributes := #[] }, { accessFlags := 18, nameIndex := 160, descriptorIndex := 130, attributes := #[] }, { accessFlags := 2, nameIndex := 208, descriptorIndex := 12, attributes := #[] }, { accessFlags := 18, nameIndex := 163, descriptorIndex := 130, attributes := #[] }, { accessFlags := 18, nameIndex := 166, descriptorIndex := 130, attributes := #[] }, { accessFlags := 2, nameIndex := 255, descriptorIndex := 12, attributes := #[] }, { accessFlags := 18, nameIndex := 169, descriptorIndex := 130, attributes := #[] }, { accessFlags := 18, nameIndex := 172, descriptorIndex := 130, attributes := #[] }, { accessFlags := 18, nameIndex := 175, descriptorIndex := 130, attributes := #[] }, { accessFlags := 2, nameIndex := 264, descriptorIndex := 12, attributes := #[] }, { accessFlags := 2, nameIndex := 202, descriptorIndex := 12, attributes := #[] }, { accessFlags := 2, nameIndex := 267, descriptorIndex := 199, attributes := #[] }, { accessFlags := 2, nameIndex := 270, descriptorIndex := 199, attributes := #[] }, { accessFlags := 18, nameIndex := 178, descriptorIndex := 130, attributes := #[] }, { accessFlags := 2, nameIndex := 221, descriptorIndex := 12, attributes := #[] }, { accessFlags := 2, nameIndex := 224, descriptorIndex := 12, attributes := #[] }, { accessFlags := 2, nameIndex := 227, descriptorIndex := 12, attributes := #[] }])
  fields := #[{ name := "OK", type := .int, accessFlags := 25, slot := 0, constantValue := 0 }, { name := "BAD_CHAR", type := .int, accessFlags := 25, slot := 1, constantValue := 0 }, { name := "FULL", type := .int, accessFlags := 25, slot := 2, constantValue := 0 }, { name := "SYNTAX_ERROR", type := .int, accessFlags := 25, slot := 3, constantValue := 0 }, { name := "NOT_PARSED", type := .int, accessFlags := 25, slot := 4, constantValue := 0 }, { name := "NO_SUCH", type := .int, accessFlags := 25, slot := 5, constantValue := 0 }, { name := "VALID", type := .int, accessFlags := 25, slot := 6, constantValue := 0 }, { name := "INVALID", type := .int, accessFlags := 25, slot := 7, constantValue := 0 }, { name := "HALTED", type := .int, accessFlags := 25, slot := 8, constantValue := 0 }, { name := "OUT_OF_FUEL", type := .int, accessFlags := 25, slot := 9, constantValue := 0 }, { name := "PRE", type := .int, accessFlags := 25, slot := 10, constantValue := 0 }, { name := "POST", type := .int, accessFlags := 25, slot := 11, constantValue := 0 }, { name := "VAR_X", type := .int, accessFlags := 25, slot := 12, constantValue := 0 }, { name := "VAR_Y", type := .int, accessFlags := 25, slot := 13, constantValue := 0 }, { name := "VAR_Z", type := .int, accessFlags := 25, slot := 14, constantValue := 0 }, { name := "OP_END", type := .int, accessFlags := 18, slot := 0, constantValue := 0 }, { name := "OP_VAR", type := .int, accessFlags := 18, slot := 1, constantValue := 0 }, { name := "OP_CONST", type := .int, accessFlags := 18, slot := 2, constantValue := 0 }, { name := "OP_ADD", type := .int, accessFlags := 18, slot := 3, constantValue := 0 }, { name := "OP_SUB", type := .int, accessFlags := 18, slot := 4, constantValue := 0 }, { name := "OP_MUL", type := .int, accessFlags := 18, slot := 5, constantValue := 0 }, { name := "OP_LT", type := .int, accessFlags := 18, slot := 6, constantValue := 0 }, { name := "OP_EQ", type := .int, accessFlags := 18, slot := 7, constantValue := 0 }, { name := "OP_TRUE", type := .int, accessFlags := 18, slot := 8, constantValue := 0 }, { name := "OP_FALSE", type := .int, accessFlags := 18, slot := 9, constantValue := 0 }, { name := "OP_NOT", type := .int, accessFlags := 18, slot := 10, constantValue := 0 }, { name := "OP_AND", type := .int, accessFlags := 18, slot := 11, constantValue := 0 }, { name := "OP_OR", type := .int, accessFlags := 18, slot := 12, constantValue := 0 }, { name := "S_ASSIGN", type := .int, accessFlags := 18, slot := 13, constantValue := 0 }, { name := "S_IF", type := .int, accessFlags := 18, slot := 14, constantValue := 0 }, { name := "S_WHILE", type := .int, accessFlags := 18, slot := 15, constantValue := 0 }, { name := "T_FORM", type := .int, accessFlags := 18, slot := 16, constantValue := 0 }, { name := "T_FORM_REST", type := .int, accessFlags := 18, slot := 17, constantValue := 0 }, { name := "T_CONJ", type := .int, accessFlags := 18, slot := 18, constantValue := 0 }, { name := "T_CONJ_REST", type := .int, accessFlags := 18, slot := 19, constantValue := 0 }, { name := "T_LIT", type := .int, accessFlags := 18, slot := 20, constantValue := 0 }, { name := "T_REL", type := .int, accessFlags := 18, slot := 21, constantValue := 0 }, { name := "T_EXPR", type := .int, accessFlags := 18, slot := 22, constantValue := 0 }, { name := "T_EXPR_REST", type := .int, accessFlags := 18, slot := 23, constantValue := 0 }, { name := "T_TERM", type := .int, accessFlags := 18, slot := 24, constantValue := 0 }, { name := "T_TERM_REST", type := .int, accessFlags := 18, slot := 25, constantValue := 0 }, { name := "T_ATOM", type := .int, accessFlags := 18, slot := 26, constantValue := 0 }, { name := "T_STMTS", type := .int, accessFlags := 18, slot := 27, constantValue := 0 }, { name := "T_STMT", type := .int, accessFlags := 18, slot := 28, constantValue := 0 }, { name := "K_EXPECT", type := .int, accessFlags := 18, slot := 29, constantValue := 0 }, { name := "K_END", type := .int, accessFlags := 18, slot := 30, constantValue := 0 }, { name := "K_BEGIN", type := .int, accessFlags := 18, slot := 31, constantValue := 0 }, { name := "K_EMIT", type := .int, accessFlags := 18, slot := 32, constantValue := 0 }, { name := "K_OPEN", type := .int, accessFlags := 18, slot := 33, constantValue := 0 }, { name := "K_CLOSE", type := .int, accessFlags := 18, slot := 34, constantValue := 0 }, { name := "MAX_ST", type := .int, accessFlags := 18, slot := 35, constantValue := 0 }, { name := "MAX_IDS", type := .int, accessFlags := 18, slot := 36, constantValue := 0 }, { name := "MAX_CODE", type := .int, accessFlags := 18, slot := 37, constantValue := 0 }, { name := "MAX_TASKS", type := .int, accessFlags := 18, slot := 38, constantValue := 0 }, { name := "buf", type := (.array .int), accessFlags := 18, slot := 39, constantValue := 0 }, { name := "cap", type := .int, accessFlags := 2, slot := 40, constantValue := 0 }, { name := "len", type := .int, accessFlags := 2, slot := 41, constantValue := 0 }, { name := "parsed", type := .boolean, accessFlags := 2, slot := 42, constantValue := 0 }, { name := "errPos", type := .int, accessFlags := 2, slot := 43, constantValue := 0 }, { name := "cex", type := .int, accessFlags := 2, slot := 44, constantValue := 0 }, { name := "hasRun", type := .boolean, accessFlags := 2, slot := 45, constantValue := 0 }, { name := "runX", type := .int, accessFlags := 2, slot := 46, constantValue := 0 }, { name := "runY", type := .int, accessFlags := 2, slot := 47, constantValue := 0 }, { name := "runZ", type := .int, accessFlags := 2, slot := 48, constantValue := 0 }, { name := "runSteps", type := .int, accessFlags := 2, slot := 49, constantValue := 0 }, { name := "codeOp", type := (.array .int), accessFlags := 18, slot := 50, constantValue := 0 }, { name := "codeArg", type := (.array .int), accessFlags := 18, slot := 51, constantValue := 0 }, { name := "codeLen", type := .int, accessFlags := 2, slot := 52, constantValue := 0 }, { name := "fStart", type := (.array .int), accessFlags := 18, slot := 53, constantValue := 0 }, { name := "stKind", type := (.array .int), accessFlags := 18, slot := 54, constantValue := 0 }, { name := "stVar", type := (.array .int), accessFlags := 18, slot := 55, constantValue := 0 }, { name := "stFirstA", type := (.array .int), accessFlags := 18, slot := 56, constantValue := 0 }, { name := "stFirstB", type := (.array .int), accessFlags := 18, slot := 57, constantValue := 0 }, { name := "stNext", type := (.array .int), accessFlags := 18, slot := 58, constantValue := 0 }, { name := "stParent", type := (.array .int), accessFlags := 18, slot := 59, constantValue := 0 }, { name := "stCount", type := .int, accessFlags := 2, slot := 60, constantValue := 0 }, { name := "mainFirst", type := .int, accessFlags := 2, slot := 61, constantValue := 0 }, { name := "loopStmt", type := (.array .int), accessFlags := 18, slot := 62, constantValue := 0 }, { name := "loopCount", type := .int, accessFlags := 2, slot := 63, constantValue := 0 }, { name := "tkCode", type := (.array .int), accessFlags := 18, slot := 64, constantValue := 0 }, { name := "tkArg", type := (.array .int), accessFlags := 18, slot := 65, constantValue := 0 }, { name := "tkTop", type := .int, accessFlags := 2, slot := 66, constantValue := 0 }, { name := "lsParent", type := (.array .int), accessFlags := 18, slot := 67, constantValue := 0 }, { name := "lsWhich", type := (.array .int), accessFlags := 18, slot := 68, constantValue := 0 }, { name := "lsLast", type := (.array .int), accessFlags := 18, slot := 69, constantValue := 0 }, { name := "lsTop", type := .int, accessFlags := 2, slot := 70, constantValue := 0 }, { name := "pPos", type := .int, accessFlags := 2, slot := 71, constantValue := 0 }, { name := "pFail", type := .boolean, accessFlags := 2, slot := 72, constantValue := 0 }, { name := "pDone", type := .boolean, accessFlags := 2, slot := 73, constantValue := 0 }, { name := "vStack", type := (.array .int), accessFlags := 18, slot := 74, constantValue := 0 }, { name := "wx", type := .int, accessFlags := 2, slot := 75, constantValue := 0 }, { name := "wy", type := .int, accessFlags := 2, slot := 76, constantValue := 0 }, { name := "wz", type := .int, accessFlags := 2, slot := 77, constantValue := 0 }]
  methods := #[k2m0, k2m1, k2m2, k2m3, k2m4, k2m5, k2m6, k2m7, k2m8, k2m9, k2m10, k2m11, k2m12, k2m13, k2m14, k2m15, k2m16, k2m17, k2m18, k2m19, k2m20, k2m21, k2m22, k2m23, k2m24, k2m25, k2m26, k2m27, k2m28, k2m29, k2m30, k2m31, k2m32, k2m33, k2m34, k2m35, k2m36, k2m37, k2m38, k2m39]
  instanceTypes := #[.int, .int, .int, .int, .int, .int, .int, .int, .int, .int, .int, .int, .int, .int, .int, .int, .int, .int, .int, .int, .int, .int, .int, .int, .int, .int, .int, .int, .int, .int, .int, .int, .int, .int, .int, .int, .int, .int, .int, (.array .int), .int, .int, .boolean, .int, .int, .boolean, .int, .int, .int, .int, (.array .int), (.array .int), .int, (.array .int), (.array .int), (.array .int), (.array .int), (.array .int), (.array .int), (.array .int), .int, .int, (.array .int), .int, (.array .int), (.array .int), .int, (.array .int), (.array .int), (.array .int), .int, .int, .boolean, .boolean, (.array .int), .int, .int, .int]
  staticTypes := #[.int, .int, .int, .int, .int, .int, .int, .int, .int, .int, .int, .int, .int, .int, .int]
  resolved := Array.replicate 419 none
  statics := none }

def pool3 : Array CpInfo := pool [(1, u "java/lang/Cloneable"), (0, .class_ 1), (0, u "java/lang/Object"), (0, .class_ 3)] 3

/-- java/lang/Cloneable -/
def k3 : Class := { plain "java/lang/Cloneable" (some 0) with
  accessFlags := 1537
  interfaces := #[]
  cf := some (fileOf pool3 2 #[] #[] 1537 4 #[] #[])
  fields := #[]
  methods := #[]
  instanceTypes := #[]
  staticTypes := #[]
  resolved := Array.replicate 8 none
  statics := none }

def pool4 : Array CpInfo := pool [(1, u "java/io/Serializable"), (0, .class_ 1), (0, u "java/lang/Object"), (0, .class_ 3)] 3

/-- java/io/Serializable -/
def k4 : Class := { plain "java/io/Serializable" (some 0) with
  accessFlags := 1537
  interfaces := #[]
  cf := some (fileOf pool4 2 #[] #[] 1537 4 #[] #[])
  fields := #[]
  methods := #[]
  instanceTypes := #[]
  staticTypes := #[]
  resolved := Array.replicate 8 none
  statics := none }

/-- the primitive byte -/
def k5 : Class := { plain "byte" none with kind := .primitive 'B', accessFlags := 0x411 }
/-- [B -/
def k6 : Class := { plain "[B" (some 0) with kind := .array 5 .byte, interfaces := #[3, 4], accessFlags := 1041 }

/-- the primitive int -/
def k7 : Class := { plain "int" none with kind := .primitive 'I', accessFlags := 0x411 }
/-- [I -/
def k8 : Class := { plain "[I" (some 0) with kind := .array 7 .int, interfaces := #[3, 4], accessFlags := 1041 }

def heap : Heap := #[]
def classes : Array Class := #[k0, k1, k2, k3, k4, k5, k6, k7, k8]
def interned : List (Array UInt16 × Addr) := []
def slotsUsed : Nat := 0
def theMethod : MethodId := ⟨1, 2⟩
def args0 : Array Value := #[.int 5, .int 5, .int 5, .int 5, .int 5, .int 5]
def aboutOver (below : List Frame) : State where
  vm := { classes := classes, interned := interned.toArray }
  heap := heap
  slotsUsed := slotsUsed
  threads := #[{ frames := .invoking theMethod args0 :: below }]
def below0 : List Frame := [.native { method := ⟨0, 0⟩, args := #[] }]
def about1 : State := aboutOver below0
def p0 : Program := .bare "" "" ""
def e0 : Env := launch0.env 0 0 0
theorem w_frames : about1.frames = Frame.invoking theMethod args0 :: below0 := rfl
set_option maxRecDepth 65536 in
theorem w_args : argsFit about1.vm theMethod args0 = true := by decide +kernel
set_option maxRecDepth 65536 in
theorem w_heap : heapFits about1 = true := by decide +kernel
set_option maxRecDepth 65536 in
theorem w_runnable : about1.curStatus? = some .runnable := by decide +kernel
set_option maxRecDepth 65536 in
theorem w_alone : about1.alone = true := by decide +kernel
set_option maxRecDepth 65536 in
theorem w_named : about1.methodNamed? x = some theMethod := by decide +kernel
set_option maxRecDepth 65536 in
theorem w_hears : about1.hears theMethod below0 = true := by decide +kernel
set_option maxRecDepth 65536 in
theorem w_ripe : about1.ripe theMethod args0 below0 = true := by decide +kernel
theorem w_running : about1.status = .running := rfl
set_option maxRecDepth 65536 in
theorem w_room : about1.hasRoom e0.platform room_1 = true :=
  launch0.hasRoom_least _ room_1 (by decide +kernel) (by decide +kernel) (by decide +kernel) (by decide +kernel) (by decide +kernel) (by decide +kernel)
theorem allAtoms_all (ts : List Jvm.Cond) (a : Array Jvm.Value) (st : Jvm.State) : (allAtoms ts).before a st = ts.all (fun c => c.before a st) := by
  induction ts with
  | nil => rfl
  | cons c t ih =>
    show (Jvm.Cond.and c (allAtoms t)).before a st = _
    rw [Jvm.Cond.before_and, ih, List.all_cons]
def words1 : List Jvm.Cond := Jvm.Cond.code x code maxLocals ret :: tables_1
/-- a 'code' word, met by the world's own term for the bytes: nothing is compared byte by byte -/
theorem code_word {y : MethodName} {bytes : ByteArray} {mx : Nat} {rt : Option FieldType} {a : Array Value} {s : State} {m : MethodId} {meth : Method} {c : Code} (h1 : s.methodNamed? y = some m) (h2 : s.vm.method? m = some meth) (h3 : meth.code = some c) (h4 : c.code = bytes)
    (h5 : (c.maxLocals == mx && c.exceptionTable.isEmpty && decide (c.maxStack ≤ mostOperands) && decide (meth.sig.returnType = rt) && !meth.locks && decide (parseMethodDescriptor y.desc = some meth.sig)) = true) : (Jvm.Cond.code y bytes mx rt).before a s = true := by
  simp only [Bool.and_eq_true, beq_iff_eq, Bool.not_eq_true', decide_eq_true_eq] at h5
  obtain ⟨⟨⟨⟨⟨g1, g2⟩, g3⟩, g4⟩, g5⟩, g6⟩ := h5
  simp [Cond.before, Cond.holds, Cond.value, h1, h2, h3, h4, g1, g2, g3, g4, g5, g6]
def isCode : Jvm.Cond → Bool
  | .code _ _ _ _ => true
  | _ => false
theorem all_split {L : List Jvm.Cond} {P : Jvm.Cond → Bool} (h1 : L.all (fun c => isCode c || P c) = true) (h2 : ∀ c ∈ L.filter isCode, P c = true) : L.all P = true := by
  refine List.all_eq_true.mpr fun c hc => ?_
  have h := List.all_eq_true.mp h1 c hc
  rcases Bool.eq_false_or_eq_true (isCode c) with hi | hi
  · exact h2 c (List.mem_filter.mpr ⟨hc, hi⟩)
  · simpa [hi] using h
set_option maxRecDepth 65536 in
theorem w_c0 : (Jvm.Cond.code x code maxLocals ret).before args0 about1 = true := code_word (m := ⟨1, 2⟩) (meth := k1m2) (c := k1c2) (by decide +kernel) rfl rfl rfl (by decide +kernel)
set_option maxRecDepth 65536 in
theorem w_c1 : (Jvm.Cond.code ({ cls := "VcGeneratorL3", name := "dig", desc := "(I)I" } : Jvm.MethodName) method_2_code (1 : Nat) (Option.some Jvm.ClassFile.FieldType.int)).before args0 about1 = true := code_word (m := ⟨1, 1⟩) (meth := k1m1) (c := k1c1) (by decide +kernel) rfl rfl rfl (by decide +kernel)
set_option maxRecDepth 65536 in
theorem w_c2 : (Jvm.Cond.code ({ cls := "VcGenerator", name := "<init>", desc := "(I)V" } : Jvm.MethodName) prog_1_method_1_code (3 : Nat) (Option.none : Option Jvm.ClassFile.FieldType)).before args0 about1 = true := code_word (m := ⟨2, 0⟩) (meth := k2m0) (c := k2c0) (by decide +kernel) rfl rfl rfl (by decide +kernel)
set_option maxRecDepth 65536 in
theorem w_c3 : (Jvm.Cond.code ({ cls := "java/lang/Object", name := "<init>", desc := "()V" } : Jvm.MethodName) object_method_1_code (1 : Nat) (Option.none : Option Jvm.ClassFile.FieldType)).before args0 about1 = true := code_word (m := ⟨0, 0⟩) (meth := k0m0) (c := k0c0) (by decide +kernel) rfl rfl rfl (by decide +kernel)
set_option maxRecDepth 65536 in
theorem w_c4 : (Jvm.Cond.code ({ cls := "VcGenerator", name := "clearResults", desc := "()V" } : Jvm.MethodName) prog_1_method_16_code (1 : Nat) (Option.none : Option Jvm.ClassFile.FieldType)).before args0 about1 = true := code_word (m := ⟨2, 9⟩) (meth := k2m9) (c := k2c9) (by decide +kernel) rfl rfl rfl (by decide +kernel)
set_option maxRecDepth 65536 in
theorem w_c5 : (Jvm.Cond.code ({ cls := "VcGenerator", name := "addChar", desc := "(I)I" } : Jvm.MethodName) prog_1_method_2_code (2 : Nat) (Option.some Jvm.ClassFile.FieldType.int)).before args0 about1 = true := code_word (m := ⟨2, 1⟩) (meth := k2m1) (c := k2c1) (by decide +kernel) rfl rfl rfl (by decide +kernel)
set_option maxRecDepth 65536 in
theorem w_c6 : (Jvm.Cond.code ({ cls := "VcGenerator", name := "accepted", desc := "(I)Z" } : Jvm.MethodName) prog_1_method_18_code (2 : Nat) (Option.some Jvm.ClassFile.FieldType.boolean)).before args0 about1 = true := code_word (m := ⟨2, 11⟩) (meth := k2m11) (c := k2c11) (by decide +kernel) rfl rfl rfl (by decide +kernel)
set_option maxRecDepth 65536 in
theorem w_c7 : (Jvm.Cond.code ({ cls := "VcGenerator", name := "varIndex", desc := "(I)I" } : Jvm.MethodName) prog_1_method_17_code (2 : Nat) (Option.some Jvm.ClassFile.FieldType.int)).before args0 about1 = true := code_word (m := ⟨2, 10⟩) (meth := k2m10) (c := k2c10) (by decide +kernel) rfl rfl rfl (by decide +kernel)
set_option maxRecDepth 65536 in
theorem w_c8 : (Jvm.Cond.code ({ cls := "VcGenerator", name := "parse", desc := "()I" } : Jvm.MethodName) prog_1_method_6_code (2 : Nat) (Option.some Jvm.ClassFile.FieldType.int)).before args0 about1 = true := code_word (m := ⟨2, 2⟩) (meth := k2m2) (c := k2c2) (by decide +kernel) rfl rfl rfl (by decide +kernel)
set_option maxRecDepth 65536 in
theorem w_c9 : (Jvm.Cond.code ({ cls := "VcGenerator", name := "doParse", desc := "()Z" } : Jvm.MethodName) prog_1_method_21_code (2 : Nat) (Option.some Jvm.ClassFile.FieldType.boolean)).before args0 about1 = true := code_word (m := ⟨2, 14⟩) (meth := k2m14) (c := k2c14) (by decide +kernel) rfl rfl rfl (by decide +kernel)
set_option maxRecDepth 65536 in
theorem w_c10 : (Jvm.Cond.code ({ cls := "VcGenerator", name := "pushProgram", desc := "()V" } : Jvm.MethodName) prog_1_method_22_code (1 : Nat) (Option.none : Option Jvm.ClassFile.FieldType)).before args0 about1 = true := code_word (m := ⟨2, 15⟩) (meth := k2m15) (c := k2c15) (by decide +kernel) rfl rfl rfl (by decide +kernel)
set_option maxRecDepth 65536 in
theorem w_c11 : (Jvm.Cond.code ({ cls := "VcGenerator", name := "push", desc := "(II)V" } : Jvm.MethodName) prog_1_method_24_code (3 : Nat) (Option.none : Option Jvm.ClassFile.FieldType)).before args0 about1 = true := code_word (m := ⟨2, 17⟩) (meth := k2m17) (c := k2c17) (by decide +kernel) rfl rfl rfl (by decide +kernel)
set_option maxRecDepth 65536 in
theorem w_c12 : (Jvm.Cond.code ({ cls := "VcGenerator", name := "step", desc := "(II)V" } : Jvm.MethodName) prog_1_method_26_code (3 : Nat) (Option.none : Option Jvm.ClassFile.FieldType)).before args0 about1 = true := code_word (m := ⟨2, 19⟩) (meth := k2m19) (c := k2c19) (by decide +kernel) rfl rfl rfl (by decide +kernel)
set_option maxRecDepth 65536 in
theorem w_c13 : (Jvm.Cond.code ({ cls := "VcGenerator", name := "stepAction", desc := "(II)V" } : Jvm.MethodName) prog_1_method_37_code (3 : Nat) (Option.none : Option Jvm.ClassFile.FieldType)).before args0 about1 = true := code_word (m := ⟨2, 29⟩) (meth := k2m29) (c := k2c29) (by decide +kernel) rfl rfl rfl (by decide +kernel)
set_option maxRecDepth 65536 in
theorem w_c14 : (Jvm.Cond.code ({ cls := "VcGenerator", name := "la", desc := "()I" } : Jvm.MethodName) prog_1_method_23_code (1 : Nat) (Option.some Jvm.ClassFile.FieldType.int)).before args0 about1 = true := code_word (m := ⟨2, 16⟩) (meth := k2m16) (c := k2c16) (by decide +kernel) rfl rfl rfl (by decide +kernel)
set_option maxRecDepth 65536 in
theorem w_c15 : (Jvm.Cond.code ({ cls := "VcGenerator", name := "stepFormula", desc := "(I)V" } : Jvm.MethodName) prog_1_method_28_code (3 : Nat) (Option.none : Option Jvm.ClassFile.FieldType)).before args0 about1 = true := code_word (m := ⟨2, 21⟩) (meth := k2m21) (c := k2c21) (by decide +kernel) rfl rfl rfl (by decide +kernel)
set_option maxRecDepth 65536 in
theorem w_c16 : (Jvm.Cond.code ({ cls := "VcGenerator", name := "stepLit", desc := "()V" } : Jvm.MethodName) prog_1_method_29_code (2 : Nat) (Option.none : Option Jvm.ClassFile.FieldType)).before args0 about1 = true := code_word (m := ⟨2, 22⟩) (meth := k2m22) (c := k2c22) (by decide +kernel) rfl rfl rfl (by decide +kernel)
set_option maxRecDepth 65536 in
theorem w_c17 : (Jvm.Cond.code ({ cls := "VcGenerator", name := "exprStart", desc := "(I)Z" } : Jvm.MethodName) prog_1_method_19_code (2 : Nat) (Option.some Jvm.ClassFile.FieldType.boolean)).before args0 about1 = true := code_word (m := ⟨2, 12⟩) (meth := k2m12) (c := k2c12) (by decide +kernel) rfl rfl rfl (by decide +kernel)
set_option maxRecDepth 65536 in
theorem w_c18 : (Jvm.Cond.code ({ cls := "VcGenerator", name := "stepExpr", desc := "(I)V" } : Jvm.MethodName) prog_1_method_30_code (3 : Nat) (Option.none : Option Jvm.ClassFile.FieldType)).before args0 about1 = true := code_word (m := ⟨2, 23⟩) (meth := k2m23) (c := k2c23) (by decide +kernel) rfl rfl rfl (by decide +kernel)
set_option maxRecDepth 65536 in
theorem w_c19 : (Jvm.Cond.code ({ cls := "VcGenerator", name := "stepAtom", desc := "()V" } : Jvm.MethodName) prog_1_method_31_code (3 : Nat) (Option.none : Option Jvm.ClassFile.FieldType)).before args0 about1 = true := code_word (m := ⟨2, 24⟩) (meth := k2m24) (c := k2c24) (by decide +kernel) rfl rfl rfl (by decide +kernel)
set_option maxRecDepth 65536 in
theorem w_c20 : (Jvm.Cond.code ({ cls := "VcGenerator", name := "emit", desc := "(II)V" } : Jvm.MethodName) prog_1_method_25_code (3 : Nat) (Option.none : Option Jvm.ClassFile.FieldType)).before args0 about1 = true := code_word (m := ⟨2, 18⟩) (meth := k2m18) (c := k2c18) (by decide +kernel) rfl rfl rfl (by decide +kernel)
set_option maxRecDepth 65536 in
theorem w_c21 : (Jvm.Cond.code ({ cls := "VcGenerator", name := "openList", desc := "(I)V" } : Jvm.MethodName) prog_1_method_38_code (2 : Nat) (Option.none : Option Jvm.ClassFile.FieldType)).before args0 about1 = true := code_word (m := ⟨2, 30⟩) (meth := k2m30) (c := k2c30) (by decide +kernel) rfl rfl rfl (by decide +kernel)
set_option maxRecDepth 65536 in
theorem w_c22 : (Jvm.Cond.code ({ cls := "VcGenerator", name := "stepStmts", desc := "(I)V" } : Jvm.MethodName) prog_1_method_32_code (4 : Nat) (Option.none : Option Jvm.ClassFile.FieldType)).before args0 about1 = true := code_word (m := ⟨2, 25⟩) (meth := k2m25) (c := k2c25) (by decide +kernel) rfl rfl rfl (by decide +kernel)
set_option maxRecDepth 65536 in
theorem w_c23 : (Jvm.Cond.code ({ cls := "VcGenerator", name := "stmtStart", desc := "(I)Z" } : Jvm.MethodName) prog_1_method_20_code (2 : Nat) (Option.some Jvm.ClassFile.FieldType.boolean)).before args0 about1 = true := code_word (m := ⟨2, 13⟩) (meth := k2m13) (c := k2c13) (by decide +kernel) rfl rfl rfl (by decide +kernel)
set_option maxRecDepth 65536 in
theorem w_c24 : (Jvm.Cond.code ({ cls := "VcGenerator", name := "startWhile", desc := "()V" } : Jvm.MethodName) prog_1_method_35_code (2 : Nat) (Option.none : Option Jvm.ClassFile.FieldType)).before args0 about1 = true := code_word (m := ⟨2, 27⟩) (meth := k2m27) (c := k2c27) (by decide +kernel) rfl rfl rfl (by decide +kernel)
set_option maxRecDepth 65536 in
theorem w_c25 : (Jvm.Cond.code ({ cls := "VcGenerator", name := "newStmt", desc := "(I)I" } : Jvm.MethodName) prog_1_method_36_code (6 : Nat) (Option.some Jvm.ClassFile.FieldType.int)).before args0 about1 = true := code_word (m := ⟨2, 28⟩) (meth := k2m28) (c := k2c28) (by decide +kernel) rfl rfl rfl (by decide +kernel)
set_option maxRecDepth 65536 in
theorem w_c26 : (Jvm.Cond.code ({ cls := "VcGenerator", name := "startAssign", desc := "(I)V" } : Jvm.MethodName) prog_1_method_33_code (3 : Nat) (Option.none : Option Jvm.ClassFile.FieldType)).before args0 about1 = true := code_word (m := ⟨2, 26⟩) (meth := k2m26) (c := k2c26) (by decide +kernel) rfl rfl rfl (by decide +kernel)
set_option maxRecDepth 65536 in
theorem w_c27 : (Jvm.Cond.code ({ cls := "VcGenerator", name := "binRest", desc := "(III)V" } : Jvm.MethodName) prog_1_method_27_code (4 : Nat) (Option.none : Option Jvm.ClassFile.FieldType)).before args0 about1 = true := code_word (m := ⟨2, 20⟩) (meth := k2m20) (c := k2c20) (by decide +kernel) rfl rfl rfl (by decide +kernel)
set_option maxRecDepth 65536 in
theorem w_c28 : (Jvm.Cond.code ({ cls := "VcGenerator", name := "vcCount", desc := "()I" } : Jvm.MethodName) prog_1_method_8_code (1 : Nat) (Option.some Jvm.ClassFile.FieldType.int)).before args0 about1 = true := code_word (m := ⟨2, 3⟩) (meth := k2m3) (c := k2c3) (by decide +kernel) rfl rfl rfl (by decide +kernel)
set_option maxRecDepth 65536 in
theorem w_c29 : (Jvm.Cond.code ({ cls := "VcGenerator", name := "check", desc := "(I)I" } : Jvm.MethodName) prog_1_method_9_code (4 : Nat) (Option.some Jvm.ClassFile.FieldType.int)).before args0 about1 = true := code_word (m := ⟨2, 4⟩) (meth := k2m4) (c := k2c4) (by decide +kernel) rfl rfl rfl (by decide +kernel)
set_option maxRecDepth 65536 in
theorem w_c30 : (Jvm.Cond.code ({ cls := "VcGenerator", name := "vcAt", desc := "(IIII)I" } : Jvm.MethodName) prog_1_method_46_code (10 : Nat) (Option.some Jvm.ClassFile.FieldType.int)).before args0 about1 = true := code_word (m := ⟨2, 38⟩) (meth := k2m38) (c := k2c38) (by decide +kernel) rfl rfl rfl (by decide +kernel)
set_option maxRecDepth 65536 in
theorem w_c31 : (Jvm.Cond.code ({ cls := "VcGenerator", name := "evalF", desc := "(IIII)I" } : Jvm.MethodName) prog_1_method_39_code (5 : Nat) (Option.some Jvm.ClassFile.FieldType.int)).before args0 about1 = true := code_word (m := ⟨2, 31⟩) (meth := k2m31) (c := k2c31) (by decide +kernel) rfl rfl rfl (by decide +kernel)
set_option maxRecDepth 65536 in
theorem w_c32 : (Jvm.Cond.code ({ cls := "VcGenerator", name := "evalAt", desc := "(IIII)I" } : Jvm.MethodName) prog_1_method_40_code (8 : Nat) (Option.some Jvm.ClassFile.FieldType.int)).before args0 about1 = true := code_word (m := ⟨2, 32⟩) (meth := k2m32) (c := k2c32) (by decide +kernel) rfl rfl rfl (by decide +kernel)
set_option maxRecDepth 65536 in
theorem w_c33 : (Jvm.Cond.code ({ cls := "VcGenerator", name := "leafValue", desc := "(IIIII)I" } : Jvm.MethodName) prog_1_method_41_code (6 : Nat) (Option.some Jvm.ClassFile.FieldType.int)).before args0 about1 = true := code_word (m := ⟨2, 33⟩) (meth := k2m33) (c := k2c33) (by decide +kernel) rfl rfl rfl (by decide +kernel)
set_option maxRecDepth 65536 in
theorem w_c34 : (Jvm.Cond.code ({ cls := "VcGenerator", name := "binary", desc := "(III)I" } : Jvm.MethodName) prog_1_method_42_code (4 : Nat) (Option.some Jvm.ClassFile.FieldType.int)).before args0 about1 = true := code_word (m := ⟨2, 34⟩) (meth := k2m34) (c := k2c34) (by decide +kernel) rfl rfl rfl (by decide +kernel)
set_option maxRecDepth 65536 in
theorem w_c35 : (Jvm.Cond.code ({ cls := "VcGenerator", name := "counterexample", desc := "()I" } : Jvm.MethodName) prog_1_method_10_code (1 : Nat) (Option.some Jvm.ClassFile.FieldType.int)).before args0 about1 = true := code_word (m := ⟨2, 5⟩) (meth := k2m5) (c := k2c5) (by decide +kernel) rfl rfl rfl (by decide +kernel)
set_option maxRecDepth 65536 in
theorem w_c36 : (Jvm.Cond.code ({ cls := "VcGenerator", name := "enter", desc := "(II)I" } : Jvm.MethodName) prog_1_method_44_code (4 : Nat) (Option.some Jvm.ClassFile.FieldType.int)).before args0 about1 = true := code_word (m := ⟨2, 36⟩) (meth := k2m36) (c := k2c36) (by decide +kernel) rfl rfl rfl (by decide +kernel)
set_option maxRecDepth 65536 in
theorem w_c37 : (Jvm.Cond.code ({ cls := "VcGenerator", name := "walk", desc := "(IIII)I" } : Jvm.MethodName) prog_1_method_45_code (10 : Nat) (Option.some Jvm.ClassFile.FieldType.int)).before args0 about1 = true := code_word (m := ⟨2, 37⟩) (meth := k2m37) (c := k2c37) (by decide +kernel) rfl rfl rfl (by decide +kernel)
set_option maxRecDepth 65536 in
theorem w_c38 : (Jvm.Cond.code ({ cls := "VcGenerator", name := "advance", desc := "(I)I" } : Jvm.MethodName) prog_1_method_43_code (5 : Nat) (Option.some Jvm.ClassFile.FieldType.int)).before args0 about1 = true := code_word (m := ⟨2, 35⟩) (meth := k2m35) (c := k2c35) (by decide +kernel) rfl rfl rfl (by decide +kernel)
set_option maxRecDepth 65536 in
theorem w_c39 : (Jvm.Cond.code ({ cls := "VcGenerator", name := "run", desc := "(IIII)I" } : Jvm.MethodName) prog_1_method_13_code (10 : Nat) (Option.some Jvm.ClassFile.FieldType.int)).before args0 about1 = true := code_word (m := ⟨2, 6⟩) (meth := k2m6) (c := k2c6) (by decide +kernel) rfl rfl rfl (by decide +kernel)
set_option maxRecDepth 65536 in
theorem w_c40 : (Jvm.Cond.code ({ cls := "VcGenerator", name := "runStep", desc := "(I)I" } : Jvm.MethodName) prog_1_method_47_code (5 : Nat) (Option.some Jvm.ClassFile.FieldType.int)).before args0 about1 = true := code_word (m := ⟨2, 39⟩) (meth := k2m39) (c := k2c39) (by decide +kernel) rfl rfl rfl (by decide +kernel)
set_option maxRecDepth 65536 in
theorem w_c41 : (Jvm.Cond.code ({ cls := "VcGenerator", name := "stepsUsed", desc := "()I" } : Jvm.MethodName) prog_1_method_15_code (1 : Nat) (Option.some Jvm.ClassFile.FieldType.int)).before args0 about1 = true := code_word (m := ⟨2, 8⟩) (meth := k2m8) (c := k2c8) (by decide +kernel) rfl rfl rfl (by decide +kernel)
set_option maxRecDepth 65536 in
theorem w_c42 : (Jvm.Cond.code ({ cls := "VcGenerator", name := "finalVar", desc := "(I)I" } : Jvm.MethodName) prog_1_method_14_code (2 : Nat) (Option.some Jvm.ClassFile.FieldType.int)).before args0 about1 = true := code_word (m := ⟨2, 7⟩) (meth := k2m7) (c := k2c7) (by decide +kernel) rfl rfl rfl (by decide +kernel)
def codes1 : List Jvm.Cond := [Jvm.Cond.code x code maxLocals ret, Jvm.Cond.code ({ cls := "VcGeneratorL3", name := "dig", desc := "(I)I" } : Jvm.MethodName) method_2_code (1 : Nat) (Option.some Jvm.ClassFile.FieldType.int), Jvm.Cond.code ({ cls := "VcGenerator", name := "<init>", desc := "(I)V" } : Jvm.MethodName) prog_1_method_1_code (3 : Nat) (Option.none : Option Jvm.ClassFile.FieldType), Jvm.Cond.code ({ cls := "java/lang/Object", name := "<init>", desc := "()V" } : Jvm.MethodName) object_method_1_code (1 : Nat) (Option.none : Option Jvm.ClassFile.FieldType), Jvm.Cond.code ({ cls := "VcGenerator", name := "clearResults", desc := "()V" } : Jvm.MethodName) prog_1_method_16_code (1 : Nat) (Option.none : Option Jvm.ClassFile.FieldType), Jvm.Cond.code ({ cls := "VcGenerator", name := "addChar", desc := "(I)I" } : Jvm.MethodName) prog_1_method_2_code (2 : Nat) (Option.some Jvm.ClassFile.FieldType.int), Jvm.Cond.code ({ cls := "VcGenerator", name := "accepted", desc := "(I)Z" } : Jvm.MethodName) prog_1_method_18_code (2 : Nat) (Option.some Jvm.ClassFile.FieldType.boolean), Jvm.Cond.code ({ cls := "VcGenerator", name := "varIndex", desc := "(I)I" } : Jvm.MethodName) prog_1_method_17_code (2 : Nat) (Option.some Jvm.ClassFile.FieldType.int), Jvm.Cond.code ({ cls := "VcGenerator", name := "parse", desc := "()I" } : Jvm.MethodName) prog_1_method_6_code (2 : Nat) (Option.some Jvm.ClassFile.FieldType.int), Jvm.Cond.code ({ cls := "VcGenerator", name := "doParse", desc := "()Z" } : Jvm.MethodName) prog_1_method_21_code (2 : Nat) (Option.some Jvm.ClassFile.FieldType.boolean), Jvm.Cond.code ({ cls := "VcGenerator", name := "pushProgram", desc := "()V" } : Jvm.MethodName) prog_1_method_22_code (1 : Nat) (Option.none : Option Jvm.ClassFile.FieldType), Jvm.Cond.code ({ cls := "VcGenerator", name := "push", desc := "(II)V" } : Jvm.MethodName) prog_1_method_24_code (3 : Nat) (Option.none : Option Jvm.ClassFile.FieldType), Jvm.Cond.code ({ cls := "VcGenerator", name := "step", desc := "(II)V" } : Jvm.MethodName) prog_1_method_26_code (3 : Nat) (Option.none : Option Jvm.ClassFile.FieldType), Jvm.Cond.code ({ cls := "VcGenerator", name := "stepAction", desc := "(II)V" } : Jvm.MethodName) prog_1_method_37_code (3 : Nat) (Option.none : Option Jvm.ClassFile.FieldType), Jvm.Cond.code ({ cls := "VcGenerator", name := "la", desc := "()I" } : Jvm.MethodName) prog_1_method_23_code (1 : Nat) (Option.some Jvm.ClassFile.FieldType.int), Jvm.Cond.code ({ cls := "VcGenerator", name := "stepFormula", desc := "(I)V" } : Jvm.MethodName) prog_1_method_28_code (3 : Nat) (Option.none : Option Jvm.ClassFile.FieldType), Jvm.Cond.code ({ cls := "VcGenerator", name := "stepLit", desc := "()V" } : Jvm.MethodName) prog_1_method_29_code (2 : Nat) (Option.none : Option Jvm.ClassFile.FieldType), Jvm.Cond.code ({ cls := "VcGenerator", name := "exprStart", desc := "(I)Z" } : Jvm.MethodName) prog_1_method_19_code (2 : Nat) (Option.some Jvm.ClassFile.FieldType.boolean), Jvm.Cond.code ({ cls := "VcGenerator", name := "stepExpr", desc := "(I)V" } : Jvm.MethodName) prog_1_method_30_code (3 : Nat) (Option.none : Option Jvm.ClassFile.FieldType), Jvm.Cond.code ({ cls := "VcGenerator", name := "stepAtom", desc := "()V" } : Jvm.MethodName) prog_1_method_31_code (3 : Nat) (Option.none : Option Jvm.ClassFile.FieldType), Jvm.Cond.code ({ cls := "VcGenerator", name := "emit", desc := "(II)V" } : Jvm.MethodName) prog_1_method_25_code (3 : Nat) (Option.none : Option Jvm.ClassFile.FieldType), Jvm.Cond.code ({ cls := "VcGenerator", name := "openList", desc := "(I)V" } : Jvm.MethodName) prog_1_method_38_code (2 : Nat) (Option.none : Option Jvm.ClassFile.FieldType), Jvm.Cond.code ({ cls := "VcGenerator", name := "stepStmts", desc := "(I)V" } : Jvm.MethodName) prog_1_method_32_code (4 : Nat) (Option.none : Option Jvm.ClassFile.FieldType), Jvm.Cond.code ({ cls := "VcGenerator", name := "stmtStart", desc := "(I)Z" } : Jvm.MethodName) prog_1_method_20_code (2 : Nat) (Option.some Jvm.ClassFile.FieldType.boolean), Jvm.Cond.code ({ cls := "VcGenerator", name := "startWhile", desc := "()V" } : Jvm.MethodName) prog_1_method_35_code (2 : Nat) (Option.none : Option Jvm.ClassFile.FieldType), Jvm.Cond.code ({ cls := "VcGenerator", name := "newStmt", desc := "(I)I" } : Jvm.MethodName) prog_1_method_36_code (6 : Nat) (Option.some Jvm.ClassFile.FieldType.int), Jvm.Cond.code ({ cls := "VcGenerator", name := "startAssign", desc := "(I)V" } : Jvm.MethodName) prog_1_method_33_code (3 : Nat) (Option.none : Option Jvm.ClassFile.FieldType), Jvm.Cond.code ({ cls := "VcGenerator", name := "binRest", desc := "(III)V" } : Jvm.MethodName) prog_1_method_27_code (4 : Nat) (Option.none : Option Jvm.ClassFile.FieldType), Jvm.Cond.code ({ cls := "VcGenerator", name := "vcCount", desc := "()I" } : Jvm.MethodName) prog_1_method_8_code (1 : Nat) (Option.some Jvm.ClassFile.FieldType.int), Jvm.Cond.code ({ cls := "VcGenerator", name := "check", desc := "(I)I" } : Jvm.MethodName) prog_1_method_9_code (4 : Nat) (Option.some Jvm.ClassFile.FieldType.int), Jvm.Cond.code ({ cls := "VcGenerator", name := "vcAt", desc := "(IIII)I" } : Jvm.MethodName) prog_1_method_46_code (10 : Nat) (Option.some Jvm.ClassFile.FieldType.int), Jvm.Cond.code ({ cls := "VcGenerator", name := "evalF", desc := "(IIII)I" } : Jvm.MethodName) prog_1_method_39_code (5 : Nat) (Option.some Jvm.ClassFile.FieldType.int), Jvm.Cond.code ({ cls := "VcGenerator", name := "evalAt", desc := "(IIII)I" } : Jvm.MethodName) prog_1_method_40_code (8 : Nat) (Option.some Jvm.ClassFile.FieldType.int), Jvm.Cond.code ({ cls := "VcGenerator", name := "leafValue", desc := "(IIIII)I" } : Jvm.MethodName) prog_1_method_41_code (6 : Nat) (Option.some Jvm.ClassFile.FieldType.int), Jvm.Cond.code ({ cls := "VcGenerator", name := "binary", desc := "(III)I" } : Jvm.MethodName) prog_1_method_42_code (4 : Nat) (Option.some Jvm.ClassFile.FieldType.int), Jvm.Cond.code ({ cls := "VcGenerator", name := "counterexample", desc := "()I" } : Jvm.MethodName) prog_1_method_10_code (1 : Nat) (Option.some Jvm.ClassFile.FieldType.int), Jvm.Cond.code ({ cls := "VcGenerator", name := "enter", desc := "(II)I" } : Jvm.MethodName) prog_1_method_44_code (4 : Nat) (Option.some Jvm.ClassFile.FieldType.int), Jvm.Cond.code ({ cls := "VcGenerator", name := "walk", desc := "(IIII)I" } : Jvm.MethodName) prog_1_method_45_code (10 : Nat) (Option.some Jvm.ClassFile.FieldType.int), Jvm.Cond.code ({ cls := "VcGenerator", name := "advance", desc := "(I)I" } : Jvm.MethodName) prog_1_method_43_code (5 : Nat) (Option.some Jvm.ClassFile.FieldType.int), Jvm.Cond.code ({ cls := "VcGenerator", name := "run", desc := "(IIII)I" } : Jvm.MethodName) prog_1_method_13_code (10 : Nat) (Option.some Jvm.ClassFile.FieldType.int), Jvm.Cond.code ({ cls := "VcGenerator", name := "runStep", desc := "(I)I" } : Jvm.MethodName) prog_1_method_47_code (5 : Nat) (Option.some Jvm.ClassFile.FieldType.int), Jvm.Cond.code ({ cls := "VcGenerator", name := "stepsUsed", desc := "()I" } : Jvm.MethodName) prog_1_method_15_code (1 : Nat) (Option.some Jvm.ClassFile.FieldType.int), Jvm.Cond.code ({ cls := "VcGenerator", name := "finalVar", desc := "(I)I" } : Jvm.MethodName) prog_1_method_14_code (2 : Nat) (Option.some Jvm.ClassFile.FieldType.int)]
set_option maxRecDepth 65536 in
theorem codes_eq : words1.filter isCode = codes1 := rfl
theorem w_codes : ∀ c ∈ words1.filter isCode, c.before args0 about1 = true := by
  rw [codes_eq]
  intro c hc
  simp only [codes1, List.mem_cons, List.not_mem_nil, or_false] at hc
  rcases hc with rfl | rfl | rfl | rfl | rfl | rfl | rfl | rfl | rfl | rfl | rfl | rfl | rfl | rfl | rfl | rfl | rfl | rfl | rfl | rfl | rfl | rfl | rfl | rfl | rfl | rfl | rfl | rfl | rfl | rfl | rfl | rfl | rfl | rfl | rfl | rfl | rfl | rfl | rfl | rfl | rfl | rfl | rfl
  · exact w_c0
  · exact w_c1
  · exact w_c2
  · exact w_c3
  · exact w_c4
  · exact w_c5
  · exact w_c6
  · exact w_c7
  · exact w_c8
  · exact w_c9
  · exact w_c10
  · exact w_c11
  · exact w_c12
  · exact w_c13
  · exact w_c14
  · exact w_c15
  · exact w_c16
  · exact w_c17
  · exact w_c18
  · exact w_c19
  · exact w_c20
  · exact w_c21
  · exact w_c22
  · exact w_c23
  · exact w_c24
  · exact w_c25
  · exact w_c26
  · exact w_c27
  · exact w_c28
  · exact w_c29
  · exact w_c30
  · exact w_c31
  · exact w_c32
  · exact w_c33
  · exact w_c34
  · exact w_c35
  · exact w_c36
  · exact w_c37
  · exact w_c38
  · exact w_c39
  · exact w_c40
  · exact w_c41
  · exact w_c42
set_option maxRecDepth 65536 in
theorem w_t1 : (words1.take 24).all (fun c => isCode c || c.before args0 about1) = true := by decide +kernel
set_option maxRecDepth 65536 in
theorem w_t2 : ((words1.drop 24).take 24).all (fun c => isCode c || c.before args0 about1) = true := by decide +kernel
set_option maxRecDepth 65536 in
theorem w_t3 : (((words1.drop 24).drop 24).take 24).all (fun c => isCode c || c.before args0 about1) = true := by decide +kernel
set_option maxRecDepth 65536 in
theorem w_t4 : ((((words1.drop 24).drop 24).drop 24).take 24).all (fun c => isCode c || c.before args0 about1) = true := by decide +kernel
set_option maxRecDepth 65536 in
theorem w_t5 : (((((words1.drop 24).drop 24).drop 24).drop 24).take 24).all (fun c => isCode c || c.before args0 about1) = true := by decide +kernel
set_option maxRecDepth 65536 in
theorem w_t6 : ((((((words1.drop 24).drop 24).drop 24).drop 24).drop 24).take 24).all (fun c => isCode c || c.before args0 about1) = true := by decide +kernel
set_option maxRecDepth 65536 in
theorem w_t7 : (((((((words1.drop 24).drop 24).drop 24).drop 24).drop 24).drop 24).take 24).all (fun c => isCode c || c.before args0 about1) = true := by decide +kernel
set_option maxRecDepth 65536 in
theorem w_t8 : ((((((((words1.drop 24).drop 24).drop 24).drop 24).drop 24).drop 24).drop 24).take 24).all (fun c => isCode c || c.before args0 about1) = true := by decide +kernel
set_option maxRecDepth 65536 in
theorem w_t9 : (((((((((words1.drop 24).drop 24).drop 24).drop 24).drop 24).drop 24).drop 24).drop 24).take 24).all (fun c => isCode c || c.before args0 about1) = true := by decide +kernel
set_option maxRecDepth 65536 in
theorem w_t10 : ((((((((((words1.drop 24).drop 24).drop 24).drop 24).drop 24).drop 24).drop 24).drop 24).drop 24).take 24).all (fun c => isCode c || c.before args0 about1) = true := by decide +kernel
set_option maxRecDepth 65536 in
theorem w_t11 : (((((((((((words1.drop 24).drop 24).drop 24).drop 24).drop 24).drop 24).drop 24).drop 24).drop 24).drop 24).take 24).all (fun c => isCode c || c.before args0 about1) = true := by decide +kernel
set_option maxRecDepth 65536 in
theorem w_t12 : ((((((((((((words1.drop 24).drop 24).drop 24).drop 24).drop 24).drop 24).drop 24).drop 24).drop 24).drop 24).drop 24).take 24).all (fun c => isCode c || c.before args0 about1) = true := by decide +kernel
set_option maxRecDepth 65536 in
theorem w_t13 : (((((((((((((words1.drop 24).drop 24).drop 24).drop 24).drop 24).drop 24).drop 24).drop 24).drop 24).drop 24).drop 24).drop 24).take 24).all (fun c => isCode c || c.before args0 about1) = true := by decide +kernel
set_option maxRecDepth 65536 in
theorem w_t14 : (((((((((((((words1.drop 24).drop 24).drop 24).drop 24).drop 24).drop 24).drop 24).drop 24).drop 24).drop 24).drop 24).drop 24).drop 24).all (fun c => isCode c || c.before args0 about1) = true := by decide +kernel
theorem w_tables : (allAtoms (Jvm.Cond.code x code maxLocals ret :: tables_1)).before args0 about1 = true := by
  rw [allAtoms_all]
  show words1.all (fun c => c.before args0 about1) = true
  refine all_split ?_ w_codes
  rw [← List.take_append_drop 24 words1, List.all_append, w_t1, ← List.take_append_drop 24 (words1.drop 24), List.all_append, w_t2, ← List.take_append_drop 24 ((words1.drop 24).drop 24), List.all_append, w_t3, ← List.take_append_drop 24 (((words1.drop 24).drop 24).drop 24), List.all_append, w_t4, ← List.take_append_drop 24 ((((words1.drop 24).drop 24).drop 24).drop 24), List.all_append, w_t5, ← List.take_append_drop 24 (((((words1.drop 24).drop 24).drop 24).drop 24).drop 24), List.all_append, w_t6, ← List.take_append_drop 24 ((((((words1.drop 24).drop 24).drop 24).drop 24).drop 24).drop 24), List.all_append, w_t7, ← List.take_append_drop 24 (((((((words1.drop 24).drop 24).drop 24).drop 24).drop 24).drop 24).drop 24), List.all_append, w_t8, ← List.take_append_drop 24 ((((((((words1.drop 24).drop 24).drop 24).drop 24).drop 24).drop 24).drop 24).drop 24), List.all_append, w_t9, ← List.take_append_drop 24 (((((((((words1.drop 24).drop 24).drop 24).drop 24).drop 24).drop 24).drop 24).drop 24).drop 24), List.all_append, w_t10, ← List.take_append_drop 24 ((((((((((words1.drop 24).drop 24).drop 24).drop 24).drop 24).drop 24).drop 24).drop 24).drop 24).drop 24), List.all_append, w_t11, ← List.take_append_drop 24 (((((((((((words1.drop 24).drop 24).drop 24).drop 24).drop 24).drop 24).drop 24).drop 24).drop 24).drop 24).drop 24), List.all_append, w_t12, ← List.take_append_drop 24 ((((((((((((words1.drop 24).drop 24).drop 24).drop 24).drop 24).drop 24).drop 24).drop 24).drop 24).drop 24).drop 24).drop 24), List.all_append, w_t13, w_t14]
  rfl
set_option maxRecDepth 65536 in
theorem w_case : (Jvm.Cond.and given_1 narrow_1).before args0 about1 = true := by decide +kernel
theorem w_applies : (headSpec (Jvm.Cond.code x code maxLocals ret :: tables_1) room_1).applies x e0.platform about1 = true :=
  (Spec.applies_iff w_frames).mpr ⟨w_running, w_runnable, w_alone, w_named, w_hears, w_ripe, w_room, w_tables⟩
theorem atStart : AtStart classFile x code maxLocals ret World_1 tables_1 room_1 Calls_1 rest_1 Pre_1 launch0 p0 e0 about1 theMethod args0 below0 :=
  ⟨lists_1, trivial, launch0.admits_env _ _ _, launch0.least_env, fairChoices_fair.cas, fairChoices_fair.clock, w_frames, w_args, w_heap, w_applies, trivial, trivial, w_case⟩
end start1
theorem witness_1 : WitnessClaimed_1 := ⟨start1.p0, start1.e0, start1.about1, start1.theMethod, start1.args0, start1.below0, start1.atStart⟩
end Jvm.Pilot.@@N@@
